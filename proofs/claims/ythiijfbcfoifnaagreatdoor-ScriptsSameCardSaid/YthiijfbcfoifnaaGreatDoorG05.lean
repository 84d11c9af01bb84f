/- Texts of the proof: Z37, Z3, Z4, Z21, Eng92, Z5, Z6a, Z6, Eng88, Eng87, Eng89, Z7, Z8a, Z8b, Z8, Z9, Z10, Z11, Z12, Z38, PV0, P45, P46, Z39. -/
import Derived.Test.YthiijfbcfoifnaaGreatDoorG04
import Derived.Test.YthiijfbcfoifnaaGreatDoorG03
import Derived.Test.YthiijfbcfoifnaaGreatDoorG02
import Derived.Lib.AppendIntMem
import Derived.Maps.RangeRun
import Derived.Lib.ConvBytes
import Derived.Lib.ParseIntBMem
import Derived.Lib.Hide
import Derived.Laws.Strings3
import Derived.Laws.Closers25
import Derived.Laws.Closers25b
import Derived.BigCall
import Derived.BigGuard

set_option linter.unusedVariables false
set_option linter.unusedSimpArgs false
set_option linter.unusedSectionVars false

namespace Go.Proofs.YthiijfbcfoifnaaGreatDoor
open Go.Eng Go.Plain
set_option maxHeartbeats 8000000
set_option maxRecDepth 20000
attribute [local irreducible] WC RegS RegD SeqQ BlkQ ScoQ RegK CutK Sat SatN FnIs LoopQ StepIs OpIs
structure CX where
 b : UInt8
 s : UInt8
 k : UInt8
 f : UInt8
 l : UInt8
 r : UInt8
 m : UInt8
def encCX (x : CX) (P : D) : D := .cons (u8s x.b.toNat) (.cons (u8s x.s.toNat) (.cons (u8s x.k.toNat) (.cons (u8s x.f.toNat) (.cons (u8s x.l.toNat) (.cons (u8s x.r.toNat) (.cons (u8s x.m.toNat) (.cons P .nil)))))))
def CX.blocks (x : CX) : Nat := 1 + x.b.toNat % 20
def CX.shards (x : CX) : Nat := min (1 + x.s.toNat % 2) x.blocks
def CX.clients (x : CX) : Nat := 1 + x.k.toNat % 3
def CX.reserve (x : CX) : Nat := 1 + x.r.toNat % 6
def CX.need (x : CX) : Nat := 2 * x.clients + hgtN x.blocks + 1
def CX.frames (x : CX) : Nat := max (x.clients + 1) ((x.need + x.shards - 1) / x.shards) + x.f.toNat % 3
def CX.limit (x : CX) : Nat := if x.l.toNat % 8 = 0 then x.reserve + x.l.toNat / 8 % 4 else 1000
def cfgOf (x : CX) : SCfg := ⟨x.blocks, x.shards, x.frames, x.clients, x.limit, x.reserve, List.replicate 32 x.m, 0⟩
theorem cx_small (x : CX) : 1 ≤ x.blocks ∧ x.blocks ≤ 20 ∧ 1 ≤ x.shards ∧ x.shards ≤ 2 ∧ 1 ≤ x.clients ∧ x.clients ≤ 3 ∧ 1 ≤ x.reserve ∧ x.reserve ≤ 6 ∧ hgtN x.blocks ≤ 6 ∧ x.shards ≤ x.blocks := by
 have h1 : 1 ≤ x.blocks ∧ x.blocks ≤ 20 := by unfold CX.blocks; omega
 have h2 := lvl_len 6 ((x.blocks + 3) / 4)
 have h3 : hgtN x.blocks = (lvl 6 ((x.blocks + 3) / 4)).length - 1 := rfl
 unfold CX.shards CX.clients CX.reserve
 omega
theorem config_is (x : CX) {α : Type} (e : α → D) (ps : List α) : FnIs Tryz.prog 90 [.d (encCX x (.cons (.arr 1 e ps) .nil))] [] (.d (encCfg (cfgOf x))) [] := by
 obtain ⟨a1, a2, a3, a4, a5, a6, a7, a8, a9, a10⟩ := cx_small x
 have hb8 : x.b.toNat < 256 := x.b.toNat_lt
 have hB : x.blocks = 1 + x.b.toNat % 20 := rfl
 have hC : x.clients = 1 + x.k.toNat % 3 := rfl
 have hR : x.reserve = 1 + x.r.toNat % 6 := rfl
 have hS : x.shards = min (1 + x.s.toNat % 2) x.blocks := rfl
 have hN : x.need = 2 * x.clients + hgtN x.blocks + 1 := rfl
 have hF : x.frames = max (x.clients + 1) ((x.need + x.shards - 1) / x.shards) + x.f.toNat % 3 := rfl
 have hq : (x.need + x.shards - 1) / x.shards ≤ 14 := by
  rcases (show x.shards = 1 ∨ x.shards = 2 by omega) with h | h
  ·rw [h]; omega
  ·rw [h]; omega
 have hq0 : (0 : Int) ≤ (((x.need + x.shards - 1) / x.shards : Nat) : Int) := Int.natCast_nonneg _
 have hmin : min ((1 + x.s.toNat % 2 : Nat) : Int) (x.blocks : Int) = (x.shards : Int) := by omega
 have hmax : max ((x.clients + 1 : Nat) : Int) (((x.need + x.shards - 1) / x.shards : Nat) : Int) = ((max (x.clients + 1) ((x.need + x.shards - 1) / x.shards) : Nat) : Int) := by omega
 have hw51 : IntKind.i64.wrap (((x.need + x.shards - 1) / x.shards : Nat) : Int) = (((x.need + x.shards - 1) / x.shards : Nat) : Int) := wrap_i64 (by omega) (by omega)
 have hl8 : x.l.toNat < 256 := x.l.toNat_lt
 have hw68 : IntKind.u8.wrap ((x.l.toNat / 8 : Nat) : Int) = ((x.l.toNat / 8 : Nat) : Int) := wrap_u8n (by omega)
 have w0 : IntKind.i64.wrap (((x.b.toNat % 20 : Nat) : Int)) = ((x.b.toNat % 20 : Nat) : Int) := by rw [show ((x.b.toNat % 20 : Nat) : Int) = ((x.b.toNat % 20 : Nat) : Int) by omega]; exact wrap_i64 (by omega) (by omega)
 have w1 : IntKind.i64.wrap (1 + ((x.b.toNat % 20 : Nat) : Int)) = ((x.blocks : Nat) : Int) := by rw [show 1 + ((x.b.toNat % 20 : Nat) : Int) = ((x.blocks : Nat) : Int) by omega]; exact wrap_i64 (by omega) (by omega)
 have w2 : IntKind.i64.wrap (((x.s.toNat % 2 : Nat) : Int)) = ((x.s.toNat % 2 : Nat) : Int) := by rw [show ((x.s.toNat % 2 : Nat) : Int) = ((x.s.toNat % 2 : Nat) : Int) by omega]; exact wrap_i64 (by omega) (by omega)
 have w3 : IntKind.i64.wrap (1 + ((x.s.toNat % 2 : Nat) : Int)) = ((1 + x.s.toNat % 2 : Nat) : Int) := by rw [show 1 + ((x.s.toNat % 2 : Nat) : Int) = ((1 + x.s.toNat % 2 : Nat) : Int) by omega]; exact wrap_i64 (by omega) (by omega)
 have w4 : IntKind.i64.wrap (((x.k.toNat % 3 : Nat) : Int)) = ((x.k.toNat % 3 : Nat) : Int) := by rw [show ((x.k.toNat % 3 : Nat) : Int) = ((x.k.toNat % 3 : Nat) : Int) by omega]; exact wrap_i64 (by omega) (by omega)
 have w5 : IntKind.i64.wrap (1 + ((x.k.toNat % 3 : Nat) : Int)) = ((x.clients : Nat) : Int) := by rw [show 1 + ((x.k.toNat % 3 : Nat) : Int) = ((x.clients : Nat) : Int) by omega]; exact wrap_i64 (by omega) (by omega)
 have w6 : IntKind.u64.wrap (((x.r.toNat % 6 : Nat) : Int)) = ((x.r.toNat % 6 : Nat) : Int) := by rw [show ((x.r.toNat % 6 : Nat) : Int) = ((x.r.toNat % 6 : Nat) : Int) by omega]; exact wrap_u64 (by omega) (by omega)
 have w7 : IntKind.u64.wrap (1 + ((x.r.toNat % 6 : Nat) : Int)) = ((x.reserve : Nat) : Int) := by rw [show 1 + ((x.r.toNat % 6 : Nat) : Int) = ((x.reserve : Nat) : Int) by omega]; exact wrap_u64 (by omega) (by omega)
 have w8 : IntKind.i64.wrap (2 * (x.clients : Int)) = ((2 * x.clients : Nat) : Int) := by rw [show 2 * (x.clients : Int) = ((2 * x.clients : Nat) : Int) by omega]; exact wrap_i64 (by omega) (by omega)
 have w9 : IntKind.i64.wrap (((2 * x.clients : Nat) : Int) + (hgtN x.blocks : Int)) = ((2 * x.clients + hgtN x.blocks : Nat) : Int) := by rw [show ((2 * x.clients : Nat) : Int) + (hgtN x.blocks : Int) = ((2 * x.clients + hgtN x.blocks : Nat) : Int) by omega]; exact wrap_i64 (by omega) (by omega)
 have w10 : IntKind.i64.wrap (((2 * x.clients + hgtN x.blocks : Nat) : Int) + 1) = ((x.need : Nat) : Int) := by rw [show ((2 * x.clients + hgtN x.blocks : Nat) : Int) + 1 = ((x.need : Nat) : Int) by omega]; exact wrap_i64 (by omega) (by omega)
 have w11 : IntKind.i64.wrap ((x.clients : Int) + 1) = ((x.clients + 1 : Nat) : Int) := by rw [show (x.clients : Int) + 1 = ((x.clients + 1 : Nat) : Int) by omega]; exact wrap_i64 (by omega) (by omega)
 have w12 : IntKind.i64.wrap ((x.need : Int) + (x.shards : Int)) = ((x.need + x.shards : Nat) : Int) := by rw [show (x.need : Int) + (x.shards : Int) = ((x.need + x.shards : Nat) : Int) by omega]; exact wrap_i64 (by omega) (by omega)
 have w13 : IntKind.i64.wrap (((x.need + x.shards : Nat) : Int) - 1) = ((x.need + x.shards - 1 : Nat) : Int) := by rw [show ((x.need + x.shards : Nat) : Int) - 1 = ((x.need + x.shards - 1 : Nat) : Int) by omega]; exact wrap_i64 (by omega) (by omega)
 have w14 : IntKind.i64.wrap (((x.f.toNat % 3 : Nat) : Int)) = ((x.f.toNat % 3 : Nat) : Int) := by rw [show ((x.f.toNat % 3 : Nat) : Int) = ((x.f.toNat % 3 : Nat) : Int) by omega]; exact wrap_i64 (by omega) (by omega)
 have w15 : IntKind.i64.wrap (((max (x.clients + 1) ((x.need + x.shards - 1) / x.shards) : Nat) : Int) + ((x.f.toNat % 3 : Nat) : Int)) = ((x.frames : Nat) : Int) := by rw [show ((max (x.clients + 1) ((x.need + x.shards - 1) / x.shards) : Nat) : Int) + ((x.f.toNat % 3 : Nat) : Int) = ((x.frames : Nat) : Int) by omega]; exact wrap_i64 (by omega) (by omega)
 have w16 : IntKind.u64.wrap (((x.l.toNat / 8 % 4 : Nat) : Int)) = ((x.l.toNat / 8 % 4 : Nat) : Int) := by rw [show ((x.l.toNat / 8 % 4 : Nat) : Int) = ((x.l.toNat / 8 % 4 : Nat) : Int) by omega]; exact wrap_u64 (by omega) (by omega)
 have w17 : IntKind.u64.wrap ((x.reserve : Int) + ((x.l.toNat / 8 % 4 : Nat) : Int)) = ((x.reserve + x.l.toNat / 8 % 4 : Nat) : Int) := by rw [show (x.reserve : Int) + ((x.l.toNat / 8 % 4 : Nat) : Int) = ((x.reserve + x.l.toNat / 8 % 4 : Nat) : Int) by omega]; exact wrap_u64 (by omega) (by omega)
 have hh := rheight12_is x.blocks a1 (by omega)
 refine fnIs_of tab_ok Tryz.func90 rfl rfl rfl ?_;refine sR ?_;iterate 2 refine rN ?_
 refine nR ?_;refine rC ?_;refine rQ iB ?_;refine rQ (rem_nat (a := x.b.toNat) (b := 20) tab_ok rfl rfl rfl (by decide)) ?_;refine rQ (conv_int (m := ((x.b.toNat % 20 : Nat) : Int)) tab_ok rfl rfl rfl w0) ?_
 refine rQ (add_int (m := ((x.blocks : Nat) : Int)) tab_ok rfl rfl w1) ?_;refine rC ?_;refine rQ iB ?_;refine rQ (rem_nat (a := x.s.toNat) (b := 2) tab_ok rfl rfl rfl (by decide)) ?_
 refine rQ (conv_int (m := ((x.s.toNat % 2 : Nat) : Int)) tab_ok rfl rfl rfl w2) ?_;refine rQ (add_int (m := ((1 + x.s.toNat % 2 : Nat) : Int)) tab_ok rfl rfl w3) ?_
 refine rC ?_;refine rQ iB ?_;refine rQ (rem_nat (a := x.k.toNat) (b := 3) tab_ok rfl rfl rfl (by decide)) ?_;refine rQ (conv_int (m := ((x.k.toNat % 3 : Nat) : Int)) tab_ok rfl rfl rfl w4) ?_
 refine rQ (add_int (m := ((x.clients : Nat) : Int)) tab_ok rfl rfl w5) ?_;refine rC ?_;refine rQ iB ?_;refine rQ (rem_nat (a := x.r.toNat) (b := 6) tab_ok rfl rfl rfl (by decide)) ?_
 refine rQ (conv_int (m := ((x.r.toNat % 6 : Nat) : Int)) tab_ok rfl rfl rfl w6) ?_;refine rQ (add_int (m := ((x.reserve : Nat) : Int)) tab_ok rfl rfl w7) ?_;refine rQ iS ?_
 refine rN ?_;refine rW ?_;refine nR ?_;refine rC ?_;refine rQ iB ?_;refine rC ?_;refine rQ iB ?_;refine rQ (min_int (m := (x.shards : Int)) rfl rfl hmin) ?_;refine rC ?_
 refine rX ?_;refine nQ ?_;refine wc_draw (by kernel_rfl) ?_;refine dC [3] [] ?_;refine dQ [33] [248] iB ?_;refine dQ [34] [] (mul_int (m := ((2 * x.clients : Nat) : Int)) tab_ok rfl rfl w8) ?_
 refine dC [3] [] ?_;refine dQ [36] [248] iB ?_;refine dQ [37] [] (call_r hh rfl rfl (arg_e arg_nil) (.inl rfl) (fun _ => rfl)) ?_;refine dQ [35, 38] [] (add_int (m := ((2 * x.clients + hgtN x.blocks : Nat) : Int)) tab_ok rfl rfl w9) ?_
 refine dQ [39] [] (add_int (m := ((x.need : Nat) : Int)) tab_ok rfl rfl w10) ?_;refine dC [40] [] ?_;refine dreg_end (by kernel_rfl) ?_;refine seq_n ?_;refine wc_seq ?_
 refine wc_draw (by kernel_rfl) ?_;refine dC [3] [] ?_;refine dQ [41] [248] iB ?_;refine dQ [42] [] (add_int (m := ((x.clients + 1 : Nat) : Int)) tab_ok rfl rfl w11) ?_
 refine dC [4] [] ?_;refine dC [3] [] ?_;refine dQ [45] [248] iB ?_;refine dQ [44, 46] [] (add_int (m := ((x.need + x.shards : Nat) : Int)) tab_ok rfl rfl w12) ?_
 refine dQ [47] [] (sub_int (m := ((x.need + x.shards - 1 : Nat) : Int)) tab_ok rfl rfl w13) ?_;refine dC [3] [] ?_;refine dQ [49] [248] iB ?_;refine dQ [48, 50] [] (quo_nat (a := x.need + x.shards - 1) (b := x.shards) tab_ok rfl rfl rfl (by omega) hw51) ?_
 refine dQ [43, 51] [] (max_int (m := ((max (x.clients + 1) ((x.need + x.shards - 1) / x.shards) : Nat) : Int)) rfl rfl hmax) ?_;refine dC [1] [] ?_;refine dQ [53] [64] iB ?_
 refine dQ [54] [] (rem_nat (a := x.f.toNat) (b := 3) tab_ok rfl rfl rfl (by decide)) ?_;refine dQ [55] [] (conv_int (m := ((x.f.toNat % 3 : Nat) : Int)) tab_ok rfl rfl rfl w14) ?_
 refine dQ [52, 56] [] (add_int (m := ((x.frames : Nat) : Int)) tab_ok rfl rfl w15) ?_;refine dC [3] [] ?_;refine dreg_s [58, 57] [248] (store_row tab_ok rfl rfl rfl ⟨_, ⟨_, ⟨_, ⟨rfl, rfl, rfl⟩, rfl⟩, rfl⟩, rfl⟩ rfl) ?_
 refine dreg_end (by kernel_rfl) ?_;refine seq_n ?_;refine sR ?_;refine rC ?_;refine rX ?_;refine nQ ?_;refine sR ?_;refine rC ?_;refine rQ iB ?_;refine rQ (rem_nat (a := x.l.toNat) (b := 8) tab_ok rfl rfl rfl (by decide)) ?_
 refine rC ?_;refine nS ?_
 by_cases hl : x.l.toNat % 8 = 0
 ·have d1 : decide (((x.l.toNat % 8 : Nat) : Int) = 0) = true := dT (by omega)
  have hlim : x.limit = x.reserve + x.l.toNat / 8 % 4 := if_pos hl
  refine wT ?_;refine wc_region ?_;refine rC ?_;refine rQ iB ?_;refine rC ?_;refine rQ iB ?_;refine rQ (quo_nat (a := x.l.toNat) (b := 8) tab_ok rfl rfl rfl (by decide) hw68) ?_
  refine rQ (rem_nat (a := x.l.toNat / 8) (b := 4) tab_ok rfl rfl rfl (by decide)) ?_;refine rQ (conv_int (m := ((x.l.toNat / 8 % 4 : Nat) : Int)) tab_ok rfl rfl rfl w16) ?_
  refine rQ (add_int (m := ((x.reserve + x.l.toNat / 8 % 4 : Nat) : Int)) tab_ok rfl rfl w17) ?_;refine rC ?_;refine rX ?_;refine nQ ?_;refine sR ?_;refine rC ?_;refine nS ?_
  refine wc_block ?_
  refine wc_inv (fun i : Nat => ⟨[(5, .int .i64 i), (3, .ptr 65 []), (2, .ptr 66 []), (1, .ptr 64 [])], [(64, some (.box 61 (.d (encCX x (.cons (.arr 1 e ps) .nil))))), (65, some (.box 26 (.d (encCfg ⟨x.blocks, x.shards, x.frames, x.clients, x.limit, x.reserve, List.replicate i x.m ++ List.replicate (32 - i) 0, 0⟩)))), (66, some (.box 26 (.d r26.zero)))], 72, Tryz.f90.ntmps, 64⟩) (fun i => i ≤ 32) (fun i => 32 - i) 0 [(64, some _), (65, some _), (66, some _)] (Nat.zero_le _)
   (.of rfl rfl rfl rfl rfl ⟨⟨_, rfl, .refl _⟩, rfl, ⟨_, rfl, .refl _⟩, rfl, ⟨_, rfl, .refl _⟩, rfl, ⟨_, rfl, .refl _⟩, rfl, trivial⟩ ⟨⟨rfl, rfl, _, rfl, .refl _⟩, ⟨rfl, rfl, _, rfl, RowLe.of_eq (by rw [hlim]; rfl)⟩, ⟨rfl, rfl, _, rfl, .refl _⟩, trivial⟩) ?_
  intro i hi
  refine wc_of ?_
  by_cases hlt : i < 32
  ·have d5 : decide ((i : Int) < 32) = true := dT (by omega)
   have hget : (byI (List.replicate i x.m ++ List.replicate (32 - i) 0))[((i : Int)).toNat]? = some 0 := by rw [Int.toNat_natCast]; exact byI_get (fill_get x.m 0 i 32 hlt)
   have hset : (byI (List.replicate i x.m ++ List.replicate (32 - i) 0)).set ((i : Int)).toNat (x.m.toNat : Int) = byI (List.replicate (i + 1) x.m ++ List.replicate (32 - (i + 1)) 0) := by rw [Int.toNat_natCast, byI, byI, ← List.map_set, fill_set x.m 0 i 32 hlt]
   refine qR ?_;iterate 2 refine rC ?_
   refine nS ?_;refine wT ?_;refine kS ?_;refine wc_seq ?_;refine wc_block ?_;refine wc_region ?_;iterate 2 refine rC ?_
   refine rQ iB ?_;refine rC ?_;refine rQ (step_C tab_ok (fun K hk => ⟨by omega, by omega, hk⟩)) ?_;refine reg_store (store_row tab_ok rfl rfl rfl ⟨_, ⟨_, ⟨_, ⟨rfl, (0 : Int), (x.m.toNat : Int), hget, ⟨rfl, rfl, rfl⟩, rfl⟩, rfl⟩, rfl⟩, rfl⟩ rfl) ?_
   refine reg_nil ?_;refine blk_n ?_;refine seq_n ?_;refine wc_region ?_;refine rC ?_;refine rQ iD ?_;refine rC ?_;refine reg_nil ?_
   exact loop_n (i + 1) [(64, some _), (65, some _), (66, some _)] hlt (by omega) (.of rfl rfl rfl rfl rfl ⟨⟨_, rfl, .refl _⟩, rfl, ⟨_, rfl, .refl _⟩, rfl, ⟨_, rfl, .refl _⟩, rfl, ⟨_, rfl, .refl _⟩, rfl, trivial⟩ ⟨⟨rfl, rfl, _, rfl, .refl _⟩, ⟨rfl, rfl, _, rfl, RowLe.of_eq (congrArg (fun q => Row.box 26 (.d (.cons (i6 x.blocks) (.cons (i6 x.shards) (.cons (i6 x.frames) (.cons (i6 x.clients) (.cons (u6 x.limit) (.cons (u6 x.reserve) (.cons (.vec 32 1 encU8 q) (.cons (u8s 0) .nil)))))))))) hset)⟩, ⟨rfl, rfl, _, rfl, .refl _⟩, trivial⟩)
  ·have he : i = 32 := by omega
   subst he
   have d5 : decide (((32 : Nat) : Int) < 32) = false := rfl
   rw [Nat.sub_self, List.replicate_zero, List.append_nil]
   refine qR ?_;iterate 2 refine rC ?_
   refine nS ?_;refine wG ?_;refine wc_exit ?_;refine seq_x ?_;refine loop_x ?_;refine blk_x ?_;refine seq_n ?_;refine sR ?_;refine rQ iM ?_;refine rW ?_;refine nS ?_
   refine wc_ret ?_
   exact ⟨trivial, _, rfl, [], lf⟩
 ·have d1 : decide (((x.l.toNat % 8 : Nat) : Int) = 0) = false := dF (by omega)
  have hlim : x.limit = 1000 := if_neg hl
  refine wF ?_;refine kS ?_;refine qR ?_;refine rC ?_;refine nS ?_;refine wc_block ?_
  refine wc_inv (fun i : Nat => ⟨[(5, .int .i64 i), (3, .ptr 65 []), (2, .ptr 66 []), (1, .ptr 64 [])], [(64, some (.box 61 (.d (encCX x (.cons (.arr 1 e ps) .nil))))), (65, some (.box 26 (.d (encCfg ⟨x.blocks, x.shards, x.frames, x.clients, x.limit, x.reserve, List.replicate i x.m ++ List.replicate (32 - i) 0, 0⟩)))), (66, some (.box 26 (.d r26.zero)))], 72, Tryz.f90.ntmps, 64⟩) (fun i => i ≤ 32) (fun i => 32 - i) 0 [(64, some _), (65, some _), (66, some _)] (Nat.zero_le _)
   (.of rfl rfl rfl rfl rfl ⟨⟨_, rfl, .refl _⟩, rfl, ⟨_, rfl, .refl _⟩, rfl, ⟨_, rfl, .refl _⟩, rfl, ⟨_, rfl, .refl _⟩, rfl, trivial⟩ ⟨⟨rfl, rfl, _, rfl, .refl _⟩, ⟨rfl, rfl, _, rfl, RowLe.of_eq (by rw [hlim]; rfl)⟩, ⟨rfl, rfl, _, rfl, .refl _⟩, trivial⟩) ?_
  intro i hi
  refine wc_of ?_
  by_cases hlt : i < 32
  ·have d5 : decide ((i : Int) < 32) = true := dT (by omega)
   have hget : (byI (List.replicate i x.m ++ List.replicate (32 - i) 0))[((i : Int)).toNat]? = some 0 := by rw [Int.toNat_natCast]; exact byI_get (fill_get x.m 0 i 32 hlt)
   have hset : (byI (List.replicate i x.m ++ List.replicate (32 - i) 0)).set ((i : Int)).toNat (x.m.toNat : Int) = byI (List.replicate (i + 1) x.m ++ List.replicate (32 - (i + 1)) 0) := by rw [Int.toNat_natCast, byI, byI, ← List.map_set, fill_set x.m 0 i 32 hlt]
   refine qR ?_;iterate 2 refine rC ?_
   refine nS ?_;refine wT ?_;refine kS ?_;refine wc_seq ?_;refine wc_block ?_;refine wc_region ?_;iterate 2 refine rC ?_
   refine rQ iB ?_;refine rC ?_;refine rQ (step_C tab_ok (fun K hk => ⟨by omega, by omega, hk⟩)) ?_;refine reg_store (store_row tab_ok rfl rfl rfl ⟨_, ⟨_, ⟨_, ⟨rfl, (0 : Int), (x.m.toNat : Int), hget, ⟨rfl, rfl, rfl⟩, rfl⟩, rfl⟩, rfl⟩, rfl⟩ rfl) ?_
   refine reg_nil ?_;refine blk_n ?_;refine seq_n ?_;refine wc_region ?_;refine rC ?_;refine rQ iD ?_;refine rC ?_;refine reg_nil ?_
   exact loop_n (i + 1) [(64, some _), (65, some _), (66, some _)] hlt (by omega) (.of rfl rfl rfl rfl rfl ⟨⟨_, rfl, .refl _⟩, rfl, ⟨_, rfl, .refl _⟩, rfl, ⟨_, rfl, .refl _⟩, rfl, ⟨_, rfl, .refl _⟩, rfl, trivial⟩ ⟨⟨rfl, rfl, _, rfl, .refl _⟩, ⟨rfl, rfl, _, rfl, RowLe.of_eq (congrArg (fun q => Row.box 26 (.d (.cons (i6 x.blocks) (.cons (i6 x.shards) (.cons (i6 x.frames) (.cons (i6 x.clients) (.cons (u6 x.limit) (.cons (u6 x.reserve) (.cons (.vec 32 1 encU8 q) (.cons (u8s 0) .nil)))))))))) hset)⟩, ⟨rfl, rfl, _, rfl, .refl _⟩, trivial⟩)
  ·have he : i = 32 := by omega
   subst he
   have d5 : decide (((32 : Nat) : Int) < 32) = false := rfl
   rw [Nat.sub_self, List.replicate_zero, List.append_nil]
   refine qR ?_;iterate 2 refine rC ?_
   refine nS ?_;refine wG ?_;refine wc_exit ?_;refine seq_x ?_;refine loop_x ?_;refine blk_x ?_;refine seq_n ?_;refine sR ?_;refine rQ iM ?_;refine rW ?_;refine nS ?_
   refine wc_ret ?_
   exact ⟨trivial, _, rfl, [], lf⟩
end Go.Proofs.YthiijfbcfoifnaaGreatDoor
namespace Go.Proofs.YthiijfbcfoifnaaGreatDoor
open Go.Eng Go.Plain
set_option maxHeartbeats 4000000
set_option maxRecDepth 20000
attribute [local irreducible] WC RegS RegD SeqQ BlkQ ScoQ RegK CutK Sat SatN FnIs LoopQ StepIs OpIs
theorem act_dec (a b : SAct) : decide (a = b) = (decide (a.kind = b.kind) && (decide (a.thread = b.thread) && (decide (a.sector = b.sector) && (decide (a.back = b.back) && decide (a.bytes = b.bytes))))) := by
 obtain ⟨a1, a2, a3, a4, a5⟩ := a
 obtain ⟨b1, b2, b3, b4, b5⟩ := b
 by_cases h1 : a1 = b1 <;> by_cases h2 : a2 = b2 <;> by_cases h3 : a3 = b3 <;> by_cases h4 : a4 = b4 <;> by_cases h5 : a5 = b5 <;> simp [h1, h2, h3, h4, h5]
theorem sameact_is (a b : SAct) : FnIs Tryz.prog 58 [.d (encAct a), .d (encAct b)] [] (.bool (decide (a = b))) [] := by
 rw [act_dec]
 refine fnIs_of tab_ok Tryz.func58 rfl rfl rfl ?_;refine sR ?_;iterate 2 refine rN ?_
 refine rC ?_;refine nR ?_;refine rC ?_;refine rQ iB ?_;refine rC ?_;refine rQ iB ?_;iterate 2 refine rC ?_
 cases h1 : decide (a.kind = b.kind) with
 | false =>
  iterate 5 refine rT ?_
  refine rQ iG ?_;refine rC ?_;iterate 5 refine rT ?_
  refine rQ iG ?_;refine rC ?_;iterate 5 refine rT ?_
  refine rQ iG ?_;refine rC ?_;iterate 7 refine rT ?_
  refine rQ iG ?_;refine rC ?_;refine nS ?_;refine wc_ret ?_
  exact ⟨trivial, [], lf⟩
 | true =>
 refine rP ?_;refine rC ?_;refine rP ?_;refine rQ iB ?_;refine rP ?_;refine rC ?_;refine rP ?_;refine rQ iB ?_;refine rP ?_;refine rC ?_;refine rQ iU ?_;refine rC ?_
 cases h2 : decide (a.thread = b.thread) with
 | false =>
  iterate 5 refine rT ?_
  refine rQ iG ?_;refine rC ?_;iterate 5 refine rT ?_
  refine rQ iG ?_;refine rC ?_;iterate 7 refine rT ?_
  refine rQ iG ?_;refine rC ?_;refine nS ?_;refine wc_ret ?_
  exact ⟨trivial, [], lf⟩
 | true =>
 refine rP ?_;refine rC ?_;refine rP ?_;refine rQ iB ?_;refine rP ?_;refine rC ?_;refine rP ?_;refine rQ iB ?_;refine rP ?_;refine rC ?_;refine rQ iU ?_;refine rC ?_
 cases h3 : decide (a.sector = b.sector) with
 | false =>
  iterate 5 refine rT ?_
  refine rQ iG ?_;refine rC ?_;iterate 7 refine rT ?_
  refine rQ iG ?_;refine rC ?_;refine nS ?_;refine wc_ret ?_
  exact ⟨trivial, [], lf⟩
 | true =>
 refine rP ?_;refine rC ?_;refine rP ?_;refine rQ iB ?_;refine rP ?_;refine rC ?_;refine rP ?_;refine rQ iB ?_;refine rP ?_;refine rC ?_;refine rQ iU ?_;refine rC ?_
 cases h4 : decide (a.back = b.back) with
 | false =>
  iterate 7 refine rT ?_
  refine rQ iG ?_;refine rC ?_;refine nS ?_;refine wc_ret ?_
  exact ⟨trivial, [], lf⟩
 | true =>
 refine rP ?_;refine rC ?_;refine rP ?_;refine rQ iB ?_;refine rP ?_;refine rQ (conv_bytes tab_ok rfl rfl rfl rfl) ?_;refine rP ?_;refine rC ?_;refine rP ?_;refine rQ iB ?_
 refine rP ?_;refine rQ (conv_bytes tab_ok rfl rfl rfl rfl) ?_;refine rP ?_;refine rQ (eql_str tab_ok rfl rfl rfl) ?_;refine rQ iU ?_;refine rC ?_;refine nS ?_;refine wc_ret ?_
 rw [← mkS_dec, ← strOf_byI, ← strOf_byI]
 exact ⟨trivial, [], lf⟩
theorem act_dle (k t s b : Int) : DLe (.cons (u8s k) (.cons (i6 t) (.cons (i6 s) (.cons (.sc nil_) (.cons (i6 b) .nil))))) (encAct ⟨k, t, s, [], b⟩) := by
 rintro w X cs ⟨c1, r1, rfl, h1, c2, r2, rfl, h2, c3, r3, rfl, h3, c4, r4, rfl, h4, h5⟩
 exact ⟨c1, _, rfl, h1, c2, _, rfl, h2, c3, _, rfl, h3, c4, r4, rfl, .inl ⟨rfl, h4.1⟩, h5⟩
theorem actB_1 {thr sec : Int} {a : SAct} (h : a.kind = 1) : actB thr sec a = (decide (0 ≤ a.thread) && (decide (a.thread < thr) && decide (a = ⟨a.kind, a.thread, 0, [], 0⟩))) := by
 obtain ⟨k, t, s, b, r⟩ := a
 simp only at h
 subst h
 rw [actB, if_pos rfl]
 simp only [SAct.mk.injEq, true_and]
 by_cases h1 : s = 0 <;> by_cases h2 : r = 0 <;> by_cases h3 : b = [] <;> simp [h1, h2, h3, Bool.and_assoc]
theorem actB_2 {thr sec : Int} {a : SAct} (h : a.kind = 2) : actB thr sec a = (decide (a.bytes.length ≤ 256) && (decide (0 ≤ a.sector) && (decide (a.sector < sec) && decide (a = ⟨a.kind, 0, a.sector, a.bytes, 0⟩)))) := by
 obtain ⟨k, t, s, b, r⟩ := a
 simp only at h
 subst h
 rw [actB, if_neg (show ¬ (2 : Int) = 1 by decide), if_pos rfl]
 simp only [SAct.mk.injEq, true_and]
 by_cases h1 : t = 0 <;> by_cases h2 : r = 0 <;> simp [h1, h2, Bool.and_assoc]
theorem actB_3 {thr sec : Int} {a : SAct} (h : a.kind = 3) : actB thr sec a = (decide (0 ≤ a.sector) && (decide (a.sector < sec) && decide (a = ⟨a.kind, 0, a.sector, [], 0⟩))) := by
 obtain ⟨k, t, s, b, r⟩ := a
 simp only at h
 subst h
 rw [actB, if_neg (show ¬ (3 : Int) = 1 by decide), if_neg (show ¬ (3 : Int) = 2 by decide), if_pos rfl]
 simp only [SAct.mk.injEq, true_and]
 by_cases h1 : t = 0 <;> by_cases h2 : r = 0 <;> by_cases h3 : b = [] <;> simp [h1, h2, h3, Bool.and_assoc]
theorem actB_4 {thr sec : Int} {a : SAct} (h : a.kind = 4) : actB thr sec a = (decide (0 ≤ a.back) && (decide (0 ≤ a.sector) && (decide (a.sector < sec) && decide (a = ⟨a.kind, 0, a.sector, [], a.back⟩)))) := by
 obtain ⟨k, t, s, b, r⟩ := a
 simp only at h
 subst h
 rw [actB, if_neg (show ¬ (4 : Int) = 1 by decide), if_neg (show ¬ (4 : Int) = 2 by decide), if_neg (show ¬ (4 : Int) = 3 by decide), if_pos rfl]
 simp only [SAct.mk.injEq, true_and]
 by_cases h1 : t = 0 <;> by_cases h3 : b = [] <;> simp [h1, h3, Bool.and_assoc]
theorem actB_5 {thr sec : Int} {a : SAct} (h : a.kind = 5) : actB thr sec a = decide (a = ⟨a.kind, 0, 0, [], 0⟩) := by
 obtain ⟨k, t, s, b, r⟩ := a
 simp only at h
 subst h
 rw [actB, if_neg (show ¬ (5 : Int) = 1 by decide), if_neg (show ¬ (5 : Int) = 2 by decide), if_neg (show ¬ (5 : Int) = 3 by decide), if_neg (show ¬ (5 : Int) = 4 by decide), if_pos rfl]
 simp only [SAct.mk.injEq, true_and]
 by_cases h1 : t = 0 <;> by_cases h2 : s = 0 <;> by_cases h4 : r = 0 <;> by_cases h3 : b = [] <;> simp [h1, h2, h3, h4]
theorem actB_0 {thr sec : Int} {a : SAct} (h1 : a.kind ≠ 1) (h2 : a.kind ≠ 2) (h3 : a.kind ≠ 3) (h4 : a.kind ≠ 4) (h5 : a.kind ≠ 5) : actB thr sec a = false := by
 rw [actB, if_neg h1, if_neg h2, if_neg h3, if_neg h4, if_neg h5]
theorem actionis_is (a : SAct) (thr sec : Int) (hsec : 0 < sec) : FnIs Tryz.prog 40 [.d (encAct a), .int .i64 thr, .int .i64 sec] [] (.bool (actB thr sec a)) [] := by
 have z1 : decide ((0 : Int) ≤ 0) = true := rfl
 have z2 : decide (0 < sec) = true := dT hsec
 refine fnIs_of tab_ok Tryz.func40 rfl rfl rfl ?_;refine sR ?_;refine rN ?_;refine rC ?_;refine nR ?_;refine rC ?_;refine rQ iB ?_;refine rQ iS ?_;refine rN ?_;refine rW ?_
 refine nR ?_;refine rC ?_;refine nQ ?_;refine sR ?_;refine rC ?_;refine rQ iB ?_;refine nS ?_;refine wc_block ?_;refine sR ?_;iterate 2 refine rC ?_
 refine nS ?_
 by_cases k1 : a.kind = 1
 ·have d1 : decide (a.kind = 1) = true := dT k1
  have hs := sameact_is a ⟨a.kind, a.thread, 0, [], 0⟩
  have hle := act_dle a.kind a.thread 0 0
  rw [actB_1 k1]
  refine wT ?_;refine sR ?_;refine rC ?_;refine rQ iB ?_;iterate 2 refine rC ?_
  cases h1 : decide (0 ≤ a.thread) with
  | false =>
   iterate 4 refine rT ?_
   refine rQ iG ?_;refine rC ?_;refine nS ?_;refine wc_region ?_;refine rC ?_;refine rQ iB ?_;refine rC ?_;refine rX ?_;refine reg_nil ?_;refine blk_n ?_;refine seq_n ?_
   refine sR ?_;iterate 2 refine rC ?_
   iterate 3 refine rT ?_
   refine rQ iG ?_;refine rC ?_;iterate 4 refine rT ?_
   refine rQ iG ?_;refine rC ?_;iterate 3 refine rT ?_
   refine rQ iG ?_;refine rC ?_;refine nS ?_;refine wc_ret ?_
   exact ⟨trivial, [], lf⟩
  | true =>
   refine rP ?_;refine rC ?_;refine rP ?_;refine rQ iB ?_;refine rP ?_;refine rC ?_;refine rP ?_;refine rC ?_;refine rQ iU ?_;refine rC ?_;refine nS ?_;refine wc_region ?_
   refine rC ?_;refine rQ iB ?_;refine rC ?_;refine rX ?_;refine reg_nil ?_;refine blk_n ?_;refine seq_n ?_;refine sR ?_;iterate 2 refine rC ?_
   cases h2 : decide (a.thread < thr) with
   | false =>
    iterate 3 refine rT ?_
    refine rQ iG ?_;refine rC ?_;iterate 4 refine rT ?_
    refine rQ iG ?_;refine rC ?_;iterate 3 refine rT ?_
    refine rQ iG ?_;refine rC ?_;refine nS ?_;refine wc_ret ?_
    exact ⟨trivial, [], lf⟩
   | true =>
    refine rP ?_;refine rC ?_;refine rP ?_;refine rQ iB ?_;refine rP ?_;refine rC ?_;refine rQ iU ?_;refine rC ?_;refine rP ?_;refine rC ?_;refine rP ?_;refine rQ iB ?_
    refine rP ?_;refine rC ?_;refine rP ?_;refine rC ?_;refine rQ iU ?_;refine rC ?_;refine rO ?_;refine rQ iM ?_;refine rO ?_;refine rQ iM ?_;refine rO ?_;refine rQ (call_r hs rfl rfl (arg_e (arg_d rfl trivial hle arg_nil)) (.inl rfl) (fun _ => rfl)) ?_
    refine rQ iT ?_;refine rC ?_;refine nS ?_;refine wc_ret ?_
    exact ⟨trivial, [], lf⟩
 have d1 : decide (a.kind = 1) = false := dF k1
 refine wF ?_;refine sR ?_;iterate 2 refine rC ?_
 refine nS ?_
 by_cases k2 : a.kind = 2
 ·have d2 : decide (a.kind = 2) = true := dT k2
  have hs := sameact_is a ⟨a.kind, 0, a.sector, a.bytes, 0⟩
  have hbl : ((byI a.bytes).length : Int) = a.bytes.length := by rw [byI_len]
  rw [actB_2 k2]
  refine wT ?_;refine sR ?_;refine rC ?_;refine rQ iB ?_;refine rQ iE ?_;iterate 2 refine rC ?_
  refine nS ?_;refine wc_draw (by kernel_rfl) ?_;refine dC [3] [] ?_;refine dQ [34] [64] iB ?_;refine dC [3] [] ?_;refine dQ [36] [64] iB ?_;refine dC [7] [] ?_;refine dreg_s [38, 35] [104] (store_row tab_ok rfl rfl rfl ⟨_, ⟨_, ⟨_, ⟨rfl, rfl, rfl⟩, rfl⟩, rfl⟩, rfl⟩ rfl) ?_
  refine dC [7] [] ?_;refine dreg_s [39, 37] [104] (store_row tab_ok rfl rfl rfl ⟨_, ⟨_, ⟨_, ⟨rfl, rfl, rfl⟩, rfl⟩, rfl⟩, rfl⟩ rfl) ?_;refine dreg_end (by kernel_rfl) ?_
  refine blk_n ?_;refine seq_n ?_;refine sR ?_;iterate 2 refine rC ?_
  cases h1 : decide (a.bytes.length ≤ 256) with
  | false =>
   have e1 : decide (((byI a.bytes).length : Int) ≤ 256) = false := dF (by have := of_decide_eq_false h1; omega)
   iterate 3 refine rS ?_
   refine rQ iF ?_;refine rC ?_;iterate 4 refine rT ?_
   refine rQ iG ?_;refine rC ?_;iterate 3 refine rT ?_
   refine rQ iG ?_;refine rC ?_;refine nS ?_;refine wc_ret ?_
   exact ⟨trivial, [], lf⟩
  | true =>
   have e1 : decide (((byI a.bytes).length : Int) ≤ 256) = true := dT (by have := of_decide_eq_true h1; omega)
   refine rO ?_;refine rC ?_;refine rO ?_;refine rQ iB ?_;refine rO ?_;refine rC ?_;refine rQ iT ?_;refine rC ?_
   cases h2 : decide (0 ≤ a.sector) with
   | false =>
    iterate 4 refine rT ?_
    refine rQ iG ?_;refine rC ?_;iterate 3 refine rT ?_
    refine rQ iG ?_;refine rC ?_;refine nS ?_;refine wc_ret ?_
    exact ⟨trivial, [], lf⟩
   | true =>
    refine rP ?_;refine rC ?_;refine rP ?_;refine rQ iB ?_;refine rP ?_;refine rC ?_;refine rP ?_;refine rC ?_;refine rQ iU ?_;refine rC ?_
    cases h3 : decide (a.sector < sec) with
    | false =>
     iterate 3 refine rT ?_
     refine rQ iG ?_;refine rC ?_;refine nS ?_;refine wc_ret ?_
     exact ⟨trivial, [], lf⟩
    | true =>
     refine rP ?_;refine rQ iM ?_;refine rP ?_;refine rQ iM ?_;refine rP ?_;refine rQ (call_r hs rfl rfl (arg_e (arg_e arg_nil)) (.inl rfl) (fun _ => rfl)) ?_;refine rQ iU ?_
     refine rC ?_;refine nS ?_;refine wc_ret ?_
     exact ⟨trivial, [], lf⟩
 have d2 : decide (a.kind = 2) = false := dF k2
 refine wF ?_;refine sR ?_;iterate 2 refine rC ?_
 refine nS ?_
 by_cases k3 : a.kind = 3
 ·have d3 : decide (a.kind = 3) = true := dT k3
  have hs := sameact_is a ⟨a.kind, 0, a.sector, [], 0⟩
  have hle := act_dle a.kind 0 a.sector 0
  rw [actB_3 k3]
  refine wT ?_;refine wc_region ?_;refine rC ?_;refine rQ iB ?_;refine rC ?_;refine rX ?_;refine reg_nil ?_;refine blk_n ?_;refine seq_n ?_;refine sR ?_;iterate 2 refine rC ?_
  refine rP ?_;refine rC ?_;refine rP ?_;refine rQ iB ?_;refine rP ?_;refine rC ?_;refine rQ iU ?_;refine rC ?_
  cases h2 : decide (0 ≤ a.sector) with
  | false =>
   iterate 4 refine rT ?_
   refine rQ iG ?_;refine rC ?_;iterate 3 refine rT ?_
   refine rQ iG ?_;refine rC ?_;refine nS ?_;refine wc_ret ?_
   exact ⟨trivial, [], lf⟩
  | true =>
   refine rP ?_;refine rC ?_;refine rP ?_;refine rQ iB ?_;refine rP ?_;refine rC ?_;refine rP ?_;refine rC ?_;refine rQ iU ?_;refine rC ?_
   cases h3 : decide (a.sector < sec) with
   | false =>
    iterate 3 refine rT ?_
    refine rQ iG ?_;refine rC ?_;refine nS ?_;refine wc_ret ?_
    exact ⟨trivial, [], lf⟩
   | true =>
    refine rP ?_;refine rQ iM ?_;refine rP ?_;refine rQ iM ?_;refine rP ?_;refine rQ (call_r hs rfl rfl (arg_e (arg_d rfl trivial hle arg_nil)) (.inl rfl) (fun _ => rfl)) ?_
    refine rQ iU ?_;refine rC ?_;refine nS ?_;refine wc_ret ?_
    exact ⟨trivial, [], lf⟩
 have d3 : decide (a.kind = 3) = false := dF k3
 refine wF ?_;refine sR ?_;iterate 2 refine rC ?_
 refine nS ?_
 by_cases k4 : a.kind = 4
 ·have d4 : decide (a.kind = 4) = true := dT k4
  have hs := sameact_is a ⟨a.kind, 0, a.sector, [], a.back⟩
  have hle := act_dle a.kind 0 a.sector a.back
  rw [actB_4 k4]
  refine wT ?_;refine sR ?_;refine rC ?_;refine rQ iB ?_;iterate 2 refine rC ?_
  refine nS ?_;refine wc_draw (by kernel_rfl) ?_;refine dC [3] [] ?_;refine dQ [50] [64] iB ?_;refine dC [3] [] ?_;refine dQ [52] [64] iB ?_;refine dC [7] [] ?_;refine dreg_s [54, 51] [104] (store_row tab_ok rfl rfl rfl ⟨_, ⟨_, ⟨_, ⟨rfl, rfl, rfl⟩, rfl⟩, rfl⟩, rfl⟩ rfl) ?_
  refine dC [7] [] ?_;refine dreg_s [55, 53] [104] (store_row tab_ok rfl rfl rfl ⟨_, ⟨_, ⟨_, ⟨rfl, rfl, rfl⟩, rfl⟩, rfl⟩, rfl⟩ rfl) ?_;refine dreg_end (by kernel_rfl) ?_
  refine blk_n ?_;refine seq_n ?_;refine sR ?_;iterate 2 refine rC ?_
  cases h1 : decide (0 ≤ a.back) with
  | false =>
   iterate 3 refine rT ?_
   refine rQ iG ?_;refine rC ?_;iterate 4 refine rT ?_
   refine rQ iG ?_;refine rC ?_;iterate 3 refine rT ?_
   refine rQ iG ?_;refine rC ?_;refine nS ?_;refine wc_ret ?_
   exact ⟨trivial, [], lf⟩
  | true =>
   refine rP ?_;refine rC ?_;refine rP ?_;refine rQ iB ?_;refine rP ?_;refine rC ?_;refine rQ iU ?_;refine rC ?_
   cases h2 : decide (0 ≤ a.sector) with
   | false =>
    iterate 4 refine rT ?_
    refine rQ iG ?_;refine rC ?_;iterate 3 refine rT ?_
    refine rQ iG ?_;refine rC ?_;refine nS ?_;refine wc_ret ?_
    exact ⟨trivial, [], lf⟩
   | true =>
    refine rP ?_;refine rC ?_;refine rP ?_;refine rQ iB ?_;refine rP ?_;refine rC ?_;refine rP ?_;refine rC ?_;refine rQ iU ?_;refine rC ?_
    cases h3 : decide (a.sector < sec) with
    | false =>
     iterate 3 refine rT ?_
     refine rQ iG ?_;refine rC ?_;refine nS ?_;refine wc_ret ?_
     exact ⟨trivial, [], lf⟩
    | true =>
     refine rP ?_;refine rQ iM ?_;refine rP ?_;refine rQ iM ?_;refine rP ?_;refine rQ (call_r hs rfl rfl (arg_e (arg_d rfl trivial hle arg_nil)) (.inl rfl) (fun _ => rfl)) ?_
     refine rQ iU ?_;refine rC ?_;refine nS ?_;refine wc_ret ?_
     exact ⟨trivial, [], lf⟩
 have d4 : decide (a.kind = 4) = false := dF k4
 refine wF ?_;refine sR ?_;iterate 2 refine rC ?_
 refine nS ?_
 by_cases k5 : a.kind = 5
 ·have d5 : decide (a.kind = 5) = true := dT k5
  have hs := sameact_is a ⟨a.kind, 0, 0, [], 0⟩
  have hle := act_dle a.kind 0 0 0
  rw [actB_5 k5]
  refine wT ?_;refine wc_skip ?_;refine blk_n ?_;refine seq_n ?_;refine sR ?_;iterate 2 refine rC ?_
  refine rP ?_;refine rC ?_;refine rP ?_;refine rQ iB ?_;refine rP ?_;refine rC ?_;refine rQ iU ?_;refine rC ?_;refine rP ?_;refine rC ?_;refine rP ?_;refine rQ iB ?_
  refine rP ?_;refine rC ?_;refine rP ?_;refine rC ?_;refine rQ iU ?_;refine rC ?_;refine rO ?_;refine rQ iM ?_;refine rO ?_;refine rQ iM ?_;refine rO ?_;refine rQ (call_r hs rfl rfl (arg_e (arg_d rfl trivial hle arg_nil)) (.inl rfl) (fun _ => rfl)) ?_
  refine rQ iT ?_;refine rC ?_;refine nS ?_;refine wc_ret ?_
  exact ⟨trivial, [], lf⟩
 have d5 : decide (a.kind = 5) = false := dF k5
 rw [actB_0 k1 k2 k3 k4 k5]
 refine wF ?_;refine sR ?_;refine rC ?_;refine nS ?_;refine wc_ret ?_;refine blk_r ?_;refine seq_r ?_
 exact ⟨trivial, [], lf⟩
theorem sect_pos {n : Int} (h1 : 1 ≤ n) (h2 : n ≤ 4096) : 0 < (sectN n.toNat : Int) ∧ (sectN n.toNat : Int) ≤ 30000 := by
 have := cnts_sum (n := n.toNat) (by omega)
 unfold sectN; omega
theorem scheck_is (c : SCfg) (l : List (List POp)) (bs : List SAct) (hc : c.Ok) (hl : Bd l) (hb : bs.length ≤ 1000000000) : FnIs Tryz.prog 13 [.d (encScr c l bs)] [] (.int .i64 (schk c l bs)) [] := by
 have hw := wcheck_is c hc
 have hp := check_is l hl.1 hl.2
 refine fnIs_of tab_ok Tryz.func13 rfl rfl rfl ?_;refine sR ?_;refine rN ?_;refine rC ?_;refine nQ ?_;refine sR ?_;refine rC ?_;refine rQ iB ?_;refine rQ (call_r hw rfl rfl (arg_e arg_nil) (.inl rfl) (fun _ => rfl)) ?_
 refine rC ?_;refine nR ?_;iterate 2 refine rC ?_
 refine nS ?_
 by_cases h1 : wchk c = 0
 ·have d1 : (!decide (wchk c = 0)) = false := by rw [dT h1]; rfl
  refine wF ?_;refine kS ?_;refine qR ?_;refine rC ?_;refine rQ iB ?_;refine rQ (call_r hp rfl rfl (arg_e arg_nil) (.inl rfl) (fun _ => rfl)) ?_;refine rC ?_;refine nR ?_
  iterate 2 refine rC ?_
  refine nS ?_
  by_cases h2 : chkP l = 0
  ·have d2 : (!decide (chkP l = 0)) = false := by rw [dT h2]; rfl
   refine wF ?_;refine kS ?_;refine qR ?_;refine rC ?_;refine rQ iB ?_;refine rQ iE ?_;iterate 2 refine rC ?_
   refine rQ iB ?_;refine rC ?_;refine nS ?_
   by_cases h3 : (l.length : Int) = c.clients
   ·have d3 : (!decide ((l.length : Int) = c.clients)) = false := by rw [dT h3]; rfl
    refine wF ?_;refine kS ?_;refine qR ?_;refine rC ?_;refine rQ iB ?_;refine rQ iE ?_;refine rC ?_;refine nS ?_
    by_cases h4 : 4096 < bs.length
    ·have d4 : decide (4096 < (bs.length : Int)) = true := dT (by omega)
     rw [show schk c l bs = 3 by rw [schk, if_neg (fun e => e h1), if_neg (fun e => e h2), if_neg (fun e => e h3), if_pos h4]]
     refine wT ?_;refine sR ?_;refine rC ?_;refine nS ?_;refine wc_ret ?_;refine seq_r ?_
     exact ⟨trivial, [], lf⟩
    ·have d4 : decide (4096 < (bs.length : Int)) = false := dF (by omega)
     obtain ⟨b1, b2, b3, b4, b5, b6, _⟩ := wchk_ok h1
     obtain ⟨hs1, hs2⟩ := sect_pos b1 b2
     have hse := sectors_is c.blocks b1 b2
     rw [show schk c l bs = if bs.all (actB (c.clients + c.shards) (sectN c.blocks.toNat)) = true then 0 else 1 by rw [schk, if_neg (fun e => e h1), if_neg (fun e => e h2), if_neg (fun e => e h3), if_neg h4]]
     refine wF ?_;refine kS ?_;refine sR ?_;iterate 2 refine rC ?_
     refine rQ iB ?_;refine rQ (call_r hse rfl rfl (arg_e arg_nil) (.inl rfl) (fun _ => rfl)) ?_;iterate 5 refine rC ?_
     refine nQ ?_;refine sR ?_;iterate 2 refine rC ?_
     refine nS ?_;refine wG ?_;refine kS ?_;refine qR ?_;refine rC ?_;refine rQ iB ?_;refine rQ iE ?_;refine rC ?_;refine nS ?_;refine wc_block ?_
     refine wc_inv (fun i : Nat => ⟨[(45, .int .i64 i), (44, .int .i64 bs.length), (43, .d (encAs bs)), (5, .int .i64 (sectN c.blocks.toNat)), (1, .ptr 64 [])], [(64, some (.box 30 (.d (encScr c l bs))))], 72, Tryz.f13.ntmps, 64⟩) (fun i => i ≤ bs.length ∧ ∀ j, j < i → ∀ a, bs[j]? = some a → actB (c.clients + c.shards) (sectN c.blocks.toNat) a = true) (fun i => bs.length - i) 0 [(64, some _)] ⟨Nat.zero_le _, fun j hj => absurd hj (Nat.not_lt_zero _)⟩
      (.of rfl rfl rfl rfl rfl ⟨⟨_, rfl, .refl _⟩, rfl, ⟨_, rfl, .refl _⟩, rfl, ⟨_, rfl, .refl _⟩, rfl, ⟨_, rfl, .refl _⟩, rfl, ⟨_, rfl, .refl _⟩, rfl, trivial⟩ ⟨⟨rfl, rfl, _, rfl, .refl _⟩, trivial⟩) ?_
     rintro i ⟨hi, hall⟩
     refine wc_of ?_;refine sR ?_;refine rC ?_;refine nQ ?_
     by_cases hlt : i < bs.length
     ·have d5 : decide ((i : Int) < (bs.length : Int)) = true := dT (by omega)
      obtain ⟨a, ha⟩ : ∃ a, bs[i]? = some a := ⟨_, List.getElem?_eq_getElem hlt⟩
      have ha' : bs[((i : Int)).toNat]? = some a := by rw [Int.toNat_natCast]; exact ha
      have hai := actionis_is a (c.clients + c.shards) (sectN c.blocks.toNat) hs1
      cases hq : actB (c.clients + c.shards) (sectN c.blocks.toNat) a with
      | true =>
       rw [hq] at hai
       refine wT ?_;refine kS ?_;refine wc_seq ?_;refine wc_block ?_;refine sR ?_;refine rQ (index_arr tab_ok rfl rfl rfl rfl rfl (by omega) ha') ?_;refine rQ iL ?_;refine rN ?_
       refine rW ?_;refine nR ?_;refine rQ iM ?_;iterate 2 refine rC ?_
       refine rQ iB ?_;iterate 2 refine rC ?_
       refine rQ iB ?_;refine rQ iD ?_;refine rC ?_;refine rQ (call_r hai rfl rfl (arg_e (arg_e (arg_e arg_nil))) (.inl rfl) (fun _ => rfl)) ?_;refine rC ?_;refine nS ?_
       refine wG ?_;refine wc_skip ?_;refine blk_n ?_;refine seq_n ?_;refine wc_region ?_;refine rQ iD ?_;refine rC ?_;refine reg_nil ?_
       exact loop_n (i + 1) [] ⟨hlt, fun j hj x hx => by
        by_cases e : j = i
        ·subst e; rw [ha] at hx; cases hx; exact hq
        ·exact hall j (by omega) x hx⟩ (by omega) (.of rfl rfl rfl rfl rfl ⟨⟨_, rfl, .refl _⟩, rfl, ⟨_, rfl, .refl _⟩, rfl, ⟨_, rfl, .refl _⟩, rfl, ⟨_, rfl, .refl _⟩, rfl, ⟨_, rfl, .refl _⟩, rfl, trivial⟩ ⟨⟨rfl, rfl, _, rfl, .refl _⟩, trivial⟩)
      | false =>
       rw [hq] at hai
       rw [if_neg (show ¬ bs.all (actB (c.clients + c.shards) (sectN c.blocks.toNat)) = true from fun e => by
        have := List.all_eq_true.1 e a (List.mem_of_getElem? ha)
        rw [hq] at this; cases this)]
       refine wT ?_;refine kS ?_;refine wc_seq ?_;refine wc_block ?_;refine sR ?_;refine rQ (index_arr tab_ok rfl rfl rfl rfl rfl (by omega) ha') ?_;refine rQ iL ?_;refine rN ?_
       refine rW ?_;refine nR ?_;refine rQ iM ?_;iterate 2 refine rC ?_
       refine rQ iB ?_;iterate 2 refine rC ?_
       refine rQ iB ?_;refine rQ iD ?_;refine rC ?_;refine rQ (call_r hai rfl rfl (arg_e (arg_e (arg_e arg_nil))) (.inl rfl) (fun _ => rfl)) ?_;refine rC ?_;refine nS ?_
       refine wV ?_;refine sR ?_;refine rC ?_;refine nS ?_;refine wc_ret ?_;refine blk_r ?_;refine seq_r ?_;refine loop_r ?_;refine blk_r ?_;refine seq_r ?_
       exact ⟨trivial, [], lf⟩
     ·have he : i = bs.length := by omega
      subst he
      have d5 : decide ((bs.length : Int) < (bs.length : Int)) = false := dF (by omega)
      rw [if_pos (show bs.all (actB (c.clients + c.shards) (sectN c.blocks.toNat)) = true from List.all_eq_true.2 fun a ha => by
       obtain ⟨j, hj⟩ := List.mem_iff_getElem?.1 ha
       exact hall j ((List.getElem?_eq_some_iff.1 hj).1) a hj)]
      refine wF ?_;refine wc_exit ?_;refine seq_x ?_;refine loop_x ?_;refine blk_x ?_;refine seq_n ?_;refine sR ?_;refine rC ?_;refine nS ?_;refine wc_ret ?_
      exact ⟨trivial, [], lf⟩
   ·have d3 : (!decide ((l.length : Int) = c.clients)) = true := by rw [dF h3]; rfl
    rw [show schk c l bs = 1 by rw [schk, if_neg (fun e => e h1), if_neg (fun e => e h2), if_pos h3]]
    refine wT ?_;refine sR ?_;refine rC ?_;refine nS ?_;refine wc_ret ?_;refine seq_r ?_
    exact ⟨trivial, [], lf⟩
  ·have d2 : (!decide (chkP l = 0)) = true := by rw [dF h2]; rfl
   rw [show schk c l bs = chkP l by rw [schk, if_neg (fun e => e h1), if_pos h2]]
   refine wT ?_;refine sR ?_;iterate 2 refine rC ?_
   refine nS ?_;refine wc_ret ?_;refine seq_r ?_
   exact ⟨trivial, [], lf⟩
 ·have d1 : (!decide (wchk c = 0)) = true := by rw [dF h1]; rfl
  rw [show schk c l bs = wchk c by rw [schk, if_pos h1]]
  refine wT ?_;refine sR ?_;iterate 2 refine rC ?_
  refine nS ?_;refine wc_ret ?_;refine seq_r ?_
  exact ⟨trivial, [], lf⟩
theorem rsect34_is (n : Nat) (h1 : 1 ≤ n) (h2 : n ≤ 4096) : FnIs Tryz.prog 59 [.int .i64 n] [] (.int .i64 (sectN n)) [] := by
 have hsum := cnts_sum h2
 have hS : sectN n ≤ 30000 := by unfold sectN; omega
 have hw1 : IntKind.i64.wrap (2 * (n : Int)) = ((2 * n : Nat) : Int) := by rw [show 2 * (n : Int) = ((2 * n : Nat) : Int) by omega]; exact wrap_i64 (by omega) (by omega)
 have hw2 : IntKind.i64.wrap ((n : Int) + 3) = ((n + 3 : Nat) : Int) := by rw [show (n : Int) + 3 = ((n + 3 : Nat) : Int) by omega]; exact wrap_i64 (by omega) (by omega)
 have hw3 : IntKind.i64.wrap (((n + 3) / 4 : Nat) : Int) = (((n + 3) / 4 : Nat) : Int) := wrap_i64 (by omega) (by omega)
 refine fnIs_of tab_ok Tryz.func59 rfl rfl rfl ?_;refine sR ?_;refine rC ?_;refine nR ?_;refine rC ?_;refine rQ (mul_int (m := ((2 * n : Nat) : Int)) tab_ok rfl rfl hw1) ?_
 refine rC ?_;refine nR ?_;refine rC ?_;refine rQ (add_int (m := ((n + 3 : Nat) : Int)) tab_ok rfl rfl hw2) ?_;refine rQ (quo_nat (a := n + 3) (b := 4) tab_ok rfl rfl rfl (by decide) hw3) ?_
 refine rC ?_;refine nS ?_;refine wc_block ?_
 refine wc_inv (fun s : Nat × Nat × Nat => ⟨[(3, .int .i64 s.2.2), (4, .int .i64 s.1)], [], 64, Tryz.f59.ntmps, 64⟩) (fun s => s.2.2 + 2 * (lvl (s.2.1 + 1) s.1).sum = sectN n ∧ 1 ≤ s.1 ∧ s.1 ≤ 4 ^ s.2.1) (fun s => s.2.1) ((n + 3) / 4, 5, 2 * n) [] ⟨rfl, by show 1 ≤ (n + 3) / 4; omega, by show (n + 3) / 4 ≤ 4 ^ 5; omega⟩
  (.of rfl rfl rfl rfl rfl ⟨⟨_, rfl, .refl _⟩, rfl, ⟨_, rfl, .refl _⟩, rfl, trivial⟩ trivial) ?_
 rintro ⟨c, g, t⟩ ⟨hs, hc1, hc2⟩
 simp only at hs hc1 hc2
 have hcs : c ≤ (lvl (g + 1) c).sum := by
  rw [lvl]
  split
  ·simp
  ·simp only [List.sum_cons]; omega
 have hw4 : IntKind.i64.wrap (2 * (c : Int)) = ((2 * c : Nat) : Int) := by rw [show 2 * (c : Int) = ((2 * c : Nat) : Int) by omega]; exact wrap_i64 (by omega) (by omega)
 have hw5 : IntKind.i64.wrap ((t : Int) + ((2 * c : Nat) : Int)) = ((t + 2 * c : Nat) : Int) := by rw [show (t : Int) + ((2 * c : Nat) : Int) = ((t + 2 * c : Nat) : Int) by omega]; exact wrap_i64 (by omega) (by omega)
 have hw6 : IntKind.i64.wrap ((c : Int) + 3) = ((c + 3 : Nat) : Int) := by rw [show (c : Int) + 3 = ((c + 3 : Nat) : Int) by omega]; exact wrap_i64 (by omega) (by omega)
 have hw7 : IntKind.i64.wrap (((c + 3) / 4 : Nat) : Int) = (((c + 3) / 4 : Nat) : Int) := wrap_i64 (by omega) (by omega)
 refine wc_of ?_
 by_cases hc : c = 1
 ·have d1 : decide ((c : Int) = 1) = true := dT (by omega)
  rw [lvl, if_pos hc] at hs
  simp only [List.sum_cons, List.sum_nil] at hs
  rw [← hs]
  refine wc_block ?_;refine sR ?_;iterate 2 refine rC ?_
  refine rQ (mul_int (m := ((2 * c : Nat) : Int)) tab_ok rfl rfl hw4) ?_;refine rQ (add_int (m := ((t + 2 * c : Nat) : Int)) tab_ok rfl rfl hw5) ?_;refine rC ?_;refine nQ ?_
  refine sR ?_;iterate 2 refine rC ?_
  refine nS ?_;refine wT ?_;refine sR ?_;iterate 2 refine rC ?_
  refine nS ?_;refine wc_ret ?_;refine seq_r ?_;refine blk_r ?_;refine loop_r ?_;refine blk_r ?_
  exact ⟨trivial, [], lf⟩
 ·have d1 : decide ((c : Int) = 1) = false := dF (by omega)
  obtain ⟨k, rfl, hk1, hk2⟩ := lvl_step hc1 hc hc2
  rw [lvl, if_neg hc] at hs
  simp only [List.sum_cons] at hs
  refine wc_block ?_;refine sR ?_;iterate 2 refine rC ?_
  refine rQ (mul_int (m := ((2 * c : Nat) : Int)) tab_ok rfl rfl hw4) ?_;refine rQ (add_int (m := ((t + 2 * c : Nat) : Int)) tab_ok rfl rfl hw5) ?_;refine rC ?_;refine nQ ?_
  refine sR ?_;iterate 2 refine rC ?_
  refine nS ?_;refine wF ?_;refine kS ?_;refine wc_region ?_;refine rC ?_;refine rQ (add_int (m := ((c + 3 : Nat) : Int)) tab_ok rfl rfl hw6) ?_;refine rQ (quo_nat (a := c + 3) (b := 4) tab_ok rfl rfl rfl (by decide) hw7) ?_
  refine rC ?_;refine reg_nil ?_;refine blk_n ?_
  exact loop_n ((c + 3) / 4, k, t + 2 * c) [] ⟨by show t + 2 * c + 2 * (lvl (k + 1) ((c + 3) / 4)).sum = _; omega, hk2, hk1⟩ (Nat.lt_succ_self k) (.of rfl rfl rfl rfl rfl ⟨⟨_, rfl, .refl _⟩, rfl, ⟨_, rfl, .refl _⟩, rfl, trivial⟩ trivial)
end Go.Proofs.YthiijfbcfoifnaaGreatDoor
namespace Go.Eng
open Go.RowKit
section
variable {P : Program} {T : Tab} {env : Env} {h : Upds} {n : Nat}
theorem make_room (hT : TabOk P T) {t e : Nat} {re : TyR} {s : Nat} {α : Type} {enc : α → D} {x y : Operand} {k k' : IntKind} {N : Nat} {z : α} (ht : tdesc T t = some (.slice e)) (he : lk T e = some re) (hs : Nat.beq re.size s = true) (hs0 : Nat.blt 0 s = true) (_ : re.zero = enc z)
  (hx : evalA env x = some (.int k 0)) (hy : evalA env y = some (.int k' N)) (hlen : N ≤ 2097152) (hbytes : Nat.ble re.bytes 67108864 = true) :
  StepIs P (.makeSlice t x y) env h n (some (.own n 0 0 s none)) [(n, some (.ds e s false enc ([] : List α)))] := .of_comes fun C G st σ w a o ho hA hdst hst hn => by
 have hs0 := Nat.le_of_ble_eq_true hs0
 have hs := Nat.eq_of_beq_eq_true hs
 have hb := Nat.le_of_ble_eq_true hbytes
 obtain ⟨ud, hud, hdd⟩ := tdesc_und hT ht
 cases hdd
 obtain ⟨i, zv, hi, hi1, hi2, hi3, hi4⟩ := (hT e re he).info
 obtain ⟨hx1, _⟩ := RelV.sc.1 (ev_sound hst (hA.ev hx)).1
 obtain ⟨hy1, _⟩ := RelV.sc.1 (ev_sound hst (hA.ev hy)).1
 have hzl : zv.cells.toList.length = s := by
  have h1 := Enc.len _ _ (Enc.closed w (fun _ => False) _ (hT e re he).zero)
  rw [hi4, (hT e re he).zsize, hs] at h1
  exact h1
 have hnn : ¬ G n := hn n (Nat.le_refl _) (by omega)
 have hmade : (madeCells zv.cells (N * s)).toList = cat (fun _ => zv.cells.toList) N := by
  have := made_cells zv.cells.toList (by omega) N
  rw [hzl] at this
  rw [cat_const, ← this]
  simp [madeCells]
 have hcl : (cat (fun _ => zv.cells.toList) N).length = N * s := cat_len _ fun _ _ => hzl
 have hsz : (madeCells zv.cells (N * s)).size = N * s := by rw [← Array.length_toList, hmade, hcl]
 obtain ⟨hst', hσn⟩ := hst.new hnn (madeCells zv.cells (N * s)) e N (.ds e s false enc ([] : List α)) trivial (fun σ' w' X' hk1 hk2 hσn hh => by
  refine .inr ⟨w.heap.size, N, madeCells zv.cells (N * s), hσn, (fun e => nomatch e), hh, hsz, Nat.zero_le _, by simp only [maxLen]; omega, fun _ => zv.cells.toList, fun i hi => by simp at hi, ?_⟩
  simp [cat])
 have hbb : i.bytes * N ≤ 67108864 * 2097152 := Nat.mul_le_mul (by omega) hlen
 have hrun := run_make (P := P) w t e i zv hud hi hi3 k k' 0 N (by omega) (by omega) (by
  have : ((i.bytes * N : Nat) : Int) ≤ 281474976710656 := by omega
  rwa [Int.natCast_mul] at this) (by omega)
 simp only [Int.toNat_natCast, hi1, hs, Int.toNat_zero] at hrun
 refine ⟨_, _, .value (.slice (some ⟨w.heap.size, 0, none⟩) 0 N), _, _, _, fun r => G r ∨ r = n, ⟨rfl, rfl⟩, ?_, .inl rfl, by rw [St.put_upd]; exact hst'.set hdst (u := .slice (some ⟨w.heap.size, 0, none⟩) 0 N) (RelV.own.2 (.inr ⟨w.heap.size, N, ⟨w.heap.size, 0, none⟩, hσn, by simp, by simp, by simp, by simp, fun _ => by simp⟩)) (.inr rfl),
  fun r hr => Or.inl hr, fun r hr => Or.imp id (fun h => ⟨by omega, by omega⟩) hr⟩
 simp only [execOp, ho, hx1, hy1, Sem.run_bind, hrun, Result.andThen_ok, Sem.run_pure]
theorem and_15 (hT : TabOk P T) {x y : Operand} {t t' : TypeId} {c : Nat} (hx : evalA env x = some (.int .u8 c)) (hy : evalA env y = some (.int .u8 15)) (hc : c < 256) : StepIs P (.binOp .and t x y t') env h n (some (.int .u8 (c % 16 : Nat))) [] := .of_opD hT fun K hK => by
 simp only [opD, hx, hy, Nat.beq_refl]
 refine ⟨_, fun P w => ?_, hK⟩
 have h1 : (BitVec.ofInt 8 (c : Int) &&& BitVec.ofInt 8 15).toNat = c % 16 := by
  rw [BitVec.toNat_and, show (BitVec.ofInt 8 15).toNat = 2 ^ 4 - 1 from rfl, Nat.and_two_pow_sub_one_eq_mod]
  rw [BitVec.toNat_ofInt, show ((c : Int) % (2 ^ 8 : Nat)).toNat = c from by omega]
 show (Op.intBits .and .u8 c 15).run P w = _
 simp only [Op.intBits]
 show (pure (Value.int .u8 (IntKind.u8.wrap ((BitVec.ofInt 8 (c : Int) &&& BitVec.ofInt 8 15).toNat : Int))) : Sem Value).run P w = _
 rw [h1, show IntKind.u8.wrap ((c % 16 : Nat) : Int) = ((c % 16 : Nat) : Int) from by simp [IntKind.wrap, IntKind.signed, IntKind.bits]; omega]
 rfl
theorem or_16 (hT : TabOk P T) {x y : Operand} {t t' : TypeId} {a b : Nat} (hx : evalA env x = some (.int .u8 (a * 16 : Nat))) (hy : evalA env y = some (.int .u8 b)) (ha : a < 16) (hb : b < 16) : StepIs P (.binOp .or t x y t') env h n (some (.int .u8 (a * 16 + b : Nat))) [] := .of_opD hT fun K hK => by
 simp only [opD, hx, hy, Nat.beq_refl]
 refine ⟨_, fun P w => ?_, hK⟩
 have h1 : (BitVec.ofInt 8 ((a * 16 : Nat) : Int) ||| BitVec.ofInt 8 (b : Int)).toNat = a * 16 + b := by
  have h2 : a * 16 ||| b = a * 16 + b := by
   have := Nat.shiftLeft_add_eq_or_of_lt (b := b) (i := 4) (by omega) a
   rw [Nat.shiftLeft_eq] at this
   exact this.symm
  rw [BitVec.toNat_or, BitVec.toNat_ofInt, BitVec.toNat_ofInt, show (((a * 16 : Nat) : Int) % (2 ^ 8 : Nat)).toNat = a * 16 from by omega, show ((b : Int) % (2 ^ 8 : Nat)).toNat = b from by omega, h2]
 show (Op.intBits .or .u8 (a * 16 : Nat) b).run P w = _
 simp only [Op.intBits]
 show (pure (Value.int .u8 (IntKind.u8.wrap ((BitVec.ofInt 8 ((a * 16 : Nat) : Int) ||| BitVec.ofInt 8 (b : Int)).toNat : Int))) : Sem Value).run P w = _
 rw [h1, show IntKind.u8.wrap ((a * 16 + b : Nat) : Int) = ((a * 16 + b : Nat) : Int) from by simp [IntKind.wrap, IntKind.signed, IntKind.bits]; omega]
 rfl
theorem shl_4 {t t' : Nat} {x y : Operand} {k' : IntKind} {a : Nat} (hx : evalA env x = some (.int .u8 a)) (hy : evalA env y = some (.int k' 4)) (ha : a < 16) :
  StepIs P (.binOp .shl t x y t') env h n (some (.int .u8 (a * 16 : Nat))) [] := .of_comes fun C G st σ w ac o ho hA hdst hst hn => by
 obtain ⟨hv, _⟩ := RelV.sc.1 (ev_sound hst (hA.ev hx)).1
 obtain ⟨hy1, _⟩ := RelV.sc.1 (ev_sound hst (hA.ev hy)).1
 refine .quiet (u := .int .u8 (a * 16 : Nat)) hst hdst ⟨rfl, rfl⟩ ?_ (RelV.sc.2 ⟨rfl, rfl⟩) trivial
 have hg : (eqGuard .shl t x y (.int .u8 a) (.int k' 4)).run P w = .ok () w := rfl
 have h2 : (binOp .shl t (.int .u8 a) (.int k' 4)).run P w = .ok (.int .u8 (a * 16 : Nat)) w := by
  show (Op.shift .shl .u8 a k' 4).run P w = _
  have h1 : IntKind.u8.wrap ((a : Int) * 2 ^ (min (4 : Int).toNat IntKind.u8.bits)) = ((a * 16 : Nat) : Int) := by
   show IntKind.u8.wrap ((a : Int) * 2 ^ 4) = _
   simp [IntKind.wrap, IntKind.signed, IntKind.bits]
   omega
  simp only [Op.shift, h1, if_neg (show ¬ (4 : Int) < 0 by decide)]
  rfl
 simp only [execOp, ho, hv, hy1, Sem.run_bind, hg, Result.andThen_ok, h2, Sem.run_pure]
theorem append_str2 (hT : TabOk P T) {t t2 e r L : Nat} {re : TyR} {ex : Bool} {xs : List Int} {l : List UInt8} {x y : Operand} (ht : tdesc T t = some (.slice e)) (ht2 : P.underlying t2 = some .string) (he : lk T e = some re) (hs : Nat.beq re.size 1 = true)
  (hx : evalA env x = some (.own r 0 L 1 none)) (hL : L = xs.length) (hrow : lookH h r = some (.ds e 1 ex encU8 xs)) (hy : evalA env y = some (.d (strD l))) (hys0 : 0 < l.length) (hlen0 : xs.length + l.length ≤ 4194304) (hbyt : Nat.ble re.bytes 33554432 = true) :
  StepIs P (.call { callee := .builtin .append, args := #[x, y], argTypes := #[t, t2] }) env h n (some (.own n 0 (xs.length + l.length) 1 none)) [(n, some (.ds e 1 false encU8 (xs ++ byI l))), (r, none)] := by
 subst hL
 have hs := Nat.eq_of_beq_eq_true hs
 have hbl : (byI l).length = l.length := by simp [byI]
 rw [← hbl]
 have hys : 0 < (byI l).length := by rw [hbl]; exact hys0
 have hlen : xs.length + (byI l).length ≤ maxLen := by rw [hbl]; simp only [maxLen]; omega
 have hbytes : (xs.length + (byI l).length) * re.bytes ≤ 140737488355328 := by
  have : (xs.length + (byI l).length) * re.bytes ≤ 4194304 * 33554432 := Nat.mul_le_mul (by omega) (Nat.le_of_ble_eq_true hbyt)
  omega
 refine append_str_core hT ht ht2 he hs hx hrow hy hys hlen hbytes
end
end Go.Eng
namespace Go.Proofs.YthiijfbcfoifnaaGreatDoor
open Go.Eng Go.Plain
set_option maxHeartbeats 4000000
set_option maxRecDepth 20000
attribute [local irreducible] WC RegS RegD SeqQ BlkQ ScoQ RegK CutK Sat SatN FnIs LoopQ StepIs OpIs
theorem digits_nil : FnIs Tryz.prog 35 [.d (encB [])] [] (.d (strD (hexP []))) [] := by
 refine fnIs_of tab_ok Tryz.func35 rfl rfl rfl ?_;refine sR ?_;refine rC ?_;refine nQ ?_;refine sR ?_;refine rC ?_;refine rQ iE ?_;refine rC ?_;refine nS ?_;refine wV ?_
 refine sR ?_;refine rC ?_;refine nS ?_;refine wc_ret ?_;refine seq_r ?_
 exact ⟨trivial, [], lf⟩
theorem digits_some (l : List UInt8) (hne : l ≠ []) (hL : l.length ≤ 524280) : FnIs Tryz.prog 35 [.d (encB l)] [] (.d (strD (hexP l))) [] := by
 have hpos : 0 < l.length := List.length_pos_iff.2 hne
 have hbl : (byI l).length = l.length := byI_len l
 have hz : decide (((byI l).length : Int) = 0) = false := dF (by omega)
 have hm2 : IntKind.i64.wrap (2 * ((byI l).length : Int)) = ((2 * l.length : Nat) : Int) := by rw [hbl, wrap_i64 (by omega) (by omega)]; omega
 have hN : 2 * l.length ≤ 2097152 := by omega
 refine fnIs_of tab_ok Tryz.func35 rfl rfl rfl ?_;refine sR ?_;refine rC ?_;refine nQ ?_;refine sR ?_;refine rC ?_;refine rQ iE ?_;refine rC ?_;refine nS ?_;refine wF ?_
 refine kS ?_;refine sR ?_;refine rC ?_;refine rQ iE ?_;refine rQ (mul_int (m := ((2 * l.length : Nat) : Int)) tab_ok rfl rfl hm2) ?_;refine reg_new (make_room (N := 2 * l.length) (z := (0 : Int)) (enc := encU8) (s := 1) tab_ok rfl rfl rfl rfl rfl rfl rfl hN rfl) rfl ?_
 refine rC ?_;refine nQ ?_;refine sR ?_;refine rC ?_;refine rQ iE ?_;refine rC ?_;refine nS ?_;refine wc_block ?_
 refine wc_inv (fun i : Nat => ⟨[(15, .int .i64 i), (14, .int .i64 (byI l).length), (13, .d (encB l)), (3, .own 65 0 (2 * i) 1 none)], [(65, some (rowT ((l.take i).flatMap hexB)))], 72, Tryz.f35.ntmps, 64⟩) (fun i => i ≤ l.length) (fun i => l.length - i) 0 [(65, some _)] (Nat.zero_le _)
  (.of rfl rfl rfl rfl rfl ⟨⟨_, rfl, .refl _⟩, rfl, ⟨_, rfl, .refl _⟩, rfl, ⟨_, rfl, .refl _⟩, rfl, ⟨_, rfl, .refl _⟩, rfl, trivial⟩ ⟨⟨rfl, rfl, _, rfl, .refl _⟩, trivial⟩) ?_
 intro i hi
 refine wc_of ?_;refine sR ?_;refine rC ?_;refine nQ ?_
 by_cases hlt : i < l.length
 ·have d1 : decide ((i : Int) < ((byI l).length : Int)) = true := dT (by omega)
  obtain ⟨b, hb⟩ : ∃ b, l[i]? = some b := ⟨_, List.getElem?_eq_getElem hlt⟩
  have hb' : (byI l)[((i : Int)).toNat]? = some (b.toNat : Int) := by rw [Int.toNat_natCast]; exact byI_get hb
  have hb8 : b.toNat < 256 := b.toNat_lt
  have hd1 := hexD_get (n := b.toNat / 16) (by omega)
  have hd2 := hexD_get (n := b.toNat % 16) (by omega)
  have hpl : 2 * i = (byI ((l.take i).flatMap hexB)).length := by rw [byI_len, hexB_len, List.length_take, Nat.min_eq_left hi]
  have hlen : (byI ((l.take i).flatMap hexB)).length + [((hexC (b.toNat / 16)).toNat : Int), ((hexC (b.toNat % 16)).toNat : Int)].length ≤ 1048576 := by rw [← hpl]; simp; omega
  have hgo := hex_take hb
  have hnx : (byI ((l.take i).flatMap hexB)).length + [((hexC (b.toNat / 16)).toNat : Int), ((hexC (b.toNat % 16)).toNat : Int)].length = 2 * (i + 1) := by rw [← hpl]; simp; omega
  have hby : byI ((l.take i).flatMap hexB) ++ [((hexC (b.toNat / 16)).toNat : Int), ((hexC (b.toNat % 16)).toNat : Int)] = byI ((l.take (i + 1)).flatMap hexB) := by rw [← hgo]; simp [byI]
  refine wT ?_;refine kS ?_;refine wc_seq ?_;refine wc_block ?_;refine sR ?_;refine rQ iA ?_;refine rQ iL ?_;refine rC ?_;refine nS ?_;refine wc_draw (by kernel_rfl) ?_
  refine dC [3] [] ?_;refine dC [5] [] ?_;refine dQ [20] [] (shr_nat (a := b.toNat) (s := 4) (m := b.toNat / 16) rfl rfl (by decide) rfl) ?_;refine dQ [21] [] (index_s (l := hexD) (m := b.toNat / 16) tab_ok rfl rfl rfl hd1) ?_
  refine dC [5] [] ?_;refine dQ [23] [] (and_15 (c := b.toNat) tab_ok rfl rfl hb8) ?_;refine dQ [24] [] (index_s (l := hexD) (m := b.toNat % 16) tab_ok rfl rfl rfl hd2) ?_
  refine dreg_w [22, 25] [] rfl (build_slice (s := 1) tab_ok rfl rfl rfl rfl rfl rfl rfl rfl) ?_;refine dreg_w2 [19, 26] [65, 160] rfl (append_litsL (α := Int) (s := 1) (enc := encU8) (xs := byI ((l.take i).flatMap hexB)) tab_ok [((hexC (b.toNat / 16)).toNat : Int), ((hexC (b.toNat % 16)).toNat : Int)] rfl rfl rfl rfl rfl hpl rfl rfl rfl rfl (fun _ _ => rfl) (by decide) hlen rfl) ?_
  refine dC [27] [] ?_;refine dreg_end (by kernel_rfl) ?_;refine blk_n ?_;refine seq_n ?_;refine wc_region ?_;refine rQ iD ?_;refine rC ?_;refine reg_nil ?_
  exact loop_n (i + 1) [(65, some _)] hlt (by omega) (.of rfl rfl rfl rfl rfl ⟨⟨_, rfl, .refl _⟩, rfl, ⟨_, rfl, .refl _⟩, rfl, ⟨_, rfl, .refl _⟩, rfl, ⟨_, rfl, AVLe.of_eq (by rw [hnx]; rfl)⟩, rfl, trivial⟩ ⟨⟨rfl, rfl, _, rfl, RowLe.of_eq (by rw [hby]; rfl)⟩, trivial⟩)
 ·have he : i = l.length := by omega
  subst he
  have d1 : decide ((l.length : Int) < ((byI l).length : Int)) = false := dF (by omega)
  have hpl2 : 2 * l.length = (byI (l.flatMap hexB)).length := by rw [byI_len, hexB_len]
  have hpp : 0 < (byI (l.flatMap hexB)).length := by omega
  rw [List.take_length]
  refine wF ?_;refine wc_exit ?_;refine seq_x ?_;refine loop_x ?_;refine blk_x ?_;refine seq_n ?_;refine sR ?_;refine rC ?_;refine rQ (conv_own tab_ok rfl rfl rfl rfl rfl hpl2 hpp) ?_
  refine rC ?_;refine nS ?_;refine wc_ret ?_
  exact ⟨trivial, [], .of rfl rfl rfl rfl rfl ⟨⟨_, rfl, AVLe.of_eq (by rw [show hexP l = l.flatMap hexB from if_neg hne, strOf_byI]; rfl)⟩, rfl, trivial⟩ trivial⟩
theorem digits_is (l : List UInt8) (hL : l.length ≤ 524280) : FnIs Tryz.prog 35 [.d (encB l)] [] (.d (strD (hexP l))) [] := by
 by_cases h : l = []
 ·subst h; exact digits_nil
 ·exact digits_some l h hL
theorem actline_1 (a : SAct) (hok : a.Ok) (hL : a.bytes.length ≤ 524280) (hk : a.kind = 1) : FnIs Tryz.prog 36 [.d (encAct a)] [] (.d (strD (lineA a))) [] := by
 have d1 : decide (a.kind = 1) = true := dT (by omega)
 obtain ⟨_, ⟨t0, t1⟩, ⟨s0, s1⟩, ⟨b0, b1⟩⟩ := hok
 have l1 := itoa_len t0 t1
 have l2 := itoa_len s0 s1
 have l3 := itoa_len b0 b1
 have l4 := hexP_len a.bytes
 rw [show lineA a = sPick ++ [32] ++ Lib.itoa a.thread by rw [lineA, if_pos hk]; simp]
 refine fnIs_of tab_ok Tryz.func36 rfl rfl rfl ?_;refine sR ?_;refine rN ?_;refine rC ?_;refine nR ?_;refine rC ?_;refine nQ ?_;refine sR ?_;refine rC ?_;refine rQ iB ?_
 refine nS ?_;refine wc_block ?_;refine sR ?_;iterate 2 refine rC ?_
 refine nS ?_;refine wT ?_;refine sR ?_;iterate 2 refine rC ?_
 refine rQ iB ?_;refine rQ (call_r (itoa_is t0 t1) rfl rfl (arg_e arg_nil) (.inl rfl) (fun _ => rfl)) ?_
 refine rQ (add_str (a := sPick ++ [32]) (b := Lib.itoa a.thread) rfl rfl (by simp [sPick]; omega) rfl) ?_
 refine rC ?_;refine nS ?_;refine wc_ret ?_;refine blk_r ?_;refine seq_r ?_
 exact ⟨trivial, [], lf⟩
theorem actline_2 (a : SAct) (hok : a.Ok) (hL : a.bytes.length ≤ 524280) (hk : a.kind = 2) : FnIs Tryz.prog 36 [.d (encAct a)] [] (.d (strD (lineA a))) [] := by
 have d1 : decide (a.kind = 1) = false := dF (by omega)
 have d2 : decide (a.kind = 2) = true := dT (by omega)
 obtain ⟨_, ⟨t0, t1⟩, ⟨s0, s1⟩, ⟨b0, b1⟩⟩ := hok
 have l1 := itoa_len t0 t1
 have l2 := itoa_len s0 s1
 have l3 := itoa_len b0 b1
 have l4 := hexP_len a.bytes
 rw [show lineA a = sEdit ++ [32] ++ Lib.itoa a.sector ++ [32] ++ hexP a.bytes by rw [lineA, if_neg (show ¬ a.kind = 1 by omega), if_pos hk]; simp]
 refine fnIs_of tab_ok Tryz.func36 rfl rfl rfl ?_;refine sR ?_;refine rN ?_;refine rC ?_;refine nR ?_;refine rC ?_;refine nQ ?_;refine sR ?_;refine rC ?_;refine rQ iB ?_
 refine nS ?_;refine wc_block ?_;refine sR ?_;iterate 2 refine rC ?_
 refine nS ?_;refine wF ?_;refine sR ?_;iterate 2 refine rC ?_
 refine nS ?_;refine wT ?_;refine wc_seq ?_;refine wc_draw (by kernel_rfl) ?_;refine dC [3] [] ?_;refine dC [1] [] ?_;refine dQ [16] [64] iB ?_;refine dQ [15, 17] [] (call_r (itoa_is s0 s1) rfl rfl (arg_e arg_nil) (.inl rfl) (fun _ => rfl)) ?_
 refine dQ [18] [] (add_str (a := sEdit ++ [32]) (b := Lib.itoa a.sector) rfl rfl (by simp [sEdit]; omega) rfl) ?_
 refine dQ [19] [] (add_str (a := sEdit ++ [32] ++ Lib.itoa a.sector) (b := [32]) rfl rfl (by simp [sEdit]; omega) rfl) ?_
 refine dC [1] [] ?_;refine dQ [21] [64] iB ?_;refine dQ [22] [] (call_r (digits_is a.bytes hL) rfl rfl (arg_e arg_nil) (.inl rfl) (fun _ => rfl)) ?_
 refine dQ [20, 23] [] (add_str (a := sEdit ++ [32] ++ Lib.itoa a.sector ++ [32]) (b := hexP a.bytes) rfl rfl (by simp [sEdit]; omega) rfl) ?_
 refine dC [24] [] ?_;refine dreg_end (by kernel_rfl) ?_;refine seq_n ?_;refine wc_ret ?_;refine blk_r ?_;refine seq_r ?_
 exact ⟨trivial, [], lf⟩
theorem actline_3 (a : SAct) (hok : a.Ok) (hL : a.bytes.length ≤ 524280) (hk : a.kind = 3) : FnIs Tryz.prog 36 [.d (encAct a)] [] (.d (strD (lineA a))) [] := by
 have d1 : decide (a.kind = 1) = false := dF (by omega)
 have d2 : decide (a.kind = 2) = false := dF (by omega)
 have d3 : decide (a.kind = 3) = true := dT (by omega)
 obtain ⟨_, ⟨t0, t1⟩, ⟨s0, s1⟩, ⟨b0, b1⟩⟩ := hok
 have l1 := itoa_len t0 t1
 have l2 := itoa_len s0 s1
 have l3 := itoa_len b0 b1
 have l4 := hexP_len a.bytes
 rw [show lineA a = sErase ++ [32] ++ Lib.itoa a.sector by rw [lineA, if_neg (show ¬ a.kind = 1 by omega), if_neg (show ¬ a.kind = 2 by omega), if_pos hk]; simp]
 refine fnIs_of tab_ok Tryz.func36 rfl rfl rfl ?_;refine sR ?_;refine rN ?_;refine rC ?_;refine nR ?_;refine rC ?_;refine nQ ?_;refine sR ?_;refine rC ?_;refine rQ iB ?_
 refine nS ?_;refine wc_block ?_;refine sR ?_;iterate 2 refine rC ?_
 refine nS ?_;refine wF ?_;refine sR ?_;iterate 2 refine rC ?_
 refine nS ?_;refine wF ?_;refine sR ?_;iterate 2 refine rC ?_
 refine nS ?_;refine wT ?_;refine sR ?_;iterate 2 refine rC ?_
 refine rQ iB ?_;refine rQ (call_r (itoa_is s0 s1) rfl rfl (arg_e arg_nil) (.inl rfl) (fun _ => rfl)) ?_
 refine rQ (add_str (a := sErase ++ [32]) (b := Lib.itoa a.sector) rfl rfl (by simp [sErase]; omega) rfl) ?_
 refine rC ?_;refine nS ?_;refine wc_ret ?_;refine blk_r ?_;refine seq_r ?_
 exact ⟨trivial, [], lf⟩
theorem actline_4 (a : SAct) (hok : a.Ok) (hL : a.bytes.length ≤ 524280) (hk : a.kind = 4) : FnIs Tryz.prog 36 [.d (encAct a)] [] (.d (strD (lineA a))) [] := by
 have d1 : decide (a.kind = 1) = false := dF (by omega)
 have d2 : decide (a.kind = 2) = false := dF (by omega)
 have d3 : decide (a.kind = 3) = false := dF (by omega)
 have d4 : decide (a.kind = 4) = true := dT (by omega)
 obtain ⟨_, ⟨t0, t1⟩, ⟨s0, s1⟩, ⟨b0, b1⟩⟩ := hok
 have l1 := itoa_len t0 t1
 have l2 := itoa_len s0 s1
 have l3 := itoa_len b0 b1
 have l4 := hexP_len a.bytes
 rw [show lineA a = sReplay ++ [32] ++ Lib.itoa a.sector ++ [32] ++ Lib.itoa a.back by rw [lineA, if_neg (show ¬ a.kind = 1 by omega), if_neg (show ¬ a.kind = 2 by omega), if_neg (show ¬ a.kind = 3 by omega), if_pos hk]; simp]
 refine fnIs_of tab_ok Tryz.func36 rfl rfl rfl ?_;refine sR ?_;refine rN ?_;refine rC ?_;refine nR ?_;refine rC ?_;refine nQ ?_;refine sR ?_;refine rC ?_;refine rQ iB ?_
 refine nS ?_;refine wc_block ?_;refine sR ?_;iterate 2 refine rC ?_
 refine nS ?_;refine wF ?_;refine sR ?_;iterate 2 refine rC ?_
 refine nS ?_;refine wF ?_;refine sR ?_;iterate 2 refine rC ?_
 refine nS ?_;refine wF ?_;refine sR ?_;iterate 2 refine rC ?_
 refine nS ?_;refine wT ?_;refine wc_seq ?_;refine wc_draw (by kernel_rfl) ?_;refine dC [3] [] ?_;refine dC [1] [] ?_;refine dQ [35] [64] iB ?_;refine dQ [34, 36] [] (call_r (itoa_is s0 s1) rfl rfl (arg_e arg_nil) (.inl rfl) (fun _ => rfl)) ?_
 refine dQ [37] [] (add_str (a := sReplay ++ [32]) (b := Lib.itoa a.sector) rfl rfl (by simp [sReplay]; omega) rfl) ?_
 refine dQ [38] [] (add_str (a := sReplay ++ [32] ++ Lib.itoa a.sector) (b := [32]) rfl rfl (by simp [sReplay]; omega) rfl) ?_
 refine dC [3] [] ?_;refine dC [1] [] ?_;refine dQ [41] [64] iB ?_;refine dQ [40, 42] [] (call_r (itoa_is b0 b1) rfl rfl (arg_e arg_nil) (.inl rfl) (fun _ => rfl)) ?_
 refine dQ [39, 43] [] (add_str (a := sReplay ++ [32] ++ Lib.itoa a.sector ++ [32]) (b := Lib.itoa a.back) rfl rfl (by simp [sReplay]; omega) rfl) ?_
 refine dC [44] [] ?_;refine dreg_end (by kernel_rfl) ?_;refine seq_n ?_;refine wc_ret ?_;refine blk_r ?_;refine seq_r ?_
 exact ⟨trivial, [], lf⟩
theorem actline_5 (a : SAct) (h1 : ¬ a.kind = 1) (h2 : ¬ a.kind = 2) (h3 : ¬ a.kind = 3) (h4 : ¬ a.kind = 4) : FnIs Tryz.prog 36 [.d (encAct a)] [] (.d (strD (lineA a))) [] := by
 have d1 : decide (a.kind = 1) = false := dF h1
 have d2 : decide (a.kind = 2) = false := dF h2
 have d3 : decide (a.kind = 3) = false := dF h3
 have d4 : decide (a.kind = 4) = false := dF h4
 rw [show lineA a = sFall by rw [lineA, if_neg h1, if_neg h2, if_neg h3, if_neg h4]]
 refine fnIs_of tab_ok Tryz.func36 rfl rfl rfl ?_;refine sR ?_;refine rN ?_;refine rC ?_;refine nR ?_;refine rC ?_;refine nQ ?_;refine sR ?_;refine rC ?_;refine rQ iB ?_
 refine nS ?_;refine wc_block ?_;refine sR ?_;iterate 2 refine rC ?_
 refine nS ?_;refine wF ?_;refine sR ?_;iterate 2 refine rC ?_
 refine nS ?_;refine wF ?_;refine sR ?_;iterate 2 refine rC ?_
 refine nS ?_;refine wF ?_;refine sR ?_;iterate 2 refine rC ?_
 refine nS ?_;refine wF ?_;refine wc_skip ?_;refine blk_n ?_;refine seq_n ?_;refine sR ?_;refine rC ?_;refine nS ?_;refine wc_ret ?_
 exact ⟨trivial, [], lf⟩
theorem actline_is (a : SAct) (hok : a.Ok) (hL : a.bytes.length ≤ 524280) : FnIs Tryz.prog 36 [.d (encAct a)] [] (.d (strD (lineA a))) [] := by
 by_cases h1 : a.kind = 1
 ·exact actline_1 a hok hL h1
 by_cases h2 : a.kind = 2
 ·exact actline_2 a hok hL h2
 by_cases h3 : a.kind = 3
 ·exact actline_3 a hok hL h3
 by_cases h4 : a.kind = 4
 ·exact actline_4 a hok hL h4
 exact actline_5 a h1 h2 h3 h4
end Go.Proofs.YthiijfbcfoifnaaGreatDoor
namespace Go.Proofs.YthiijfbcfoifnaaGreatDoor
open Go.Eng Go.Plain Go.RowKit Go.Sort Go.Shelf
set_option maxHeartbeats 6400000
set_option maxRecDepth 100000
theorem fu_inner (u : Nat) (hu64 : u < 18446744073709551616) (w : World) (htab : Lib.TabIs Tryz.prog w "internal/strconv.uint64pow10" .u64 Lib.pow10Tab) :
  Calls Tryz.prog 69 #[.int .u64 u, .int .i64 10] w fun e w' => e = .returned (.string ⟨(Lib.decDigits u).toArray⟩) ∧ ∃ k os, w' = grow (w.drewN k) os := by
 by_cases hs : u < 100
 ·have hw : IntKind.i64.wrap (u : Int) = (u : Int) := wrap_i64 (by omega) (by omega)
  go_enter Tryz.func69, Tryz.ntmps69
  go_wp2_with (refine (Tryz.internal_strconv_small u hs _).mono ?_; rintro e w' ⟨rfl, rfl⟩)
  go_ret
  exact ⟨rfl, 0, #[], by simp [World.drewN_zero]⟩
 ·have hu1 : 1 ≤ u := by omega
  have hnd20 : Lib.nDigits u ≤ 20 := by have := Lib.numDigits_eq u hu1 hu64; split at this <;> omega
  have hH0 := Lib.holds_zero0 w 169 (Lib.nDigits u) (by omega)
  have hfmt := Tryz.internal_strconv_formatBase10 w.heap.size 0 24 u (Array.replicate (Lib.nDigits u) 0) (w.alloc (.cells Lib.zeros24 169)) hH0 (by rw [Array.size_replicate]; exact Lib.lt_pow_nDigits u) hu64 (by rw [Array.size_replicate]; omega)
  rw [Array.size_replicate] at hfmt
  have HH0 := Lib.hid hH0
  clear hH0
  have hal : Tryz.prog.arrayLen 169 = 24 := by simp [Program.arrayLen, Tryz.underlying169]
  have hsl : ∀ W, (Instr.sliceAt 169 (.pointer (some ⟨w.heap.size, 0, none⟩)) none (some (.int .i64 (Lib.nDigits u : Int))) none).run Tryz.prog W = .ok (.slice (some ⟨w.heap.size, 0, none⟩) (Lib.nDigits u) 24) W := fun W => by
   rw [run_sliceAt_array_h W 169 ⟨w.heap.size, 0, none⟩ (by simp [Program.arrayLen, Program.elem, Tryz.underlying169]) .i64 (Lib.nDigits u : Int) (by omega) (by rw [hal]; omega)]
   go_simp
  clear hal
  go_enter Tryz.func69, Tryz.ntmps69
  go_wp2_with (refine (Tryz.internal_strconv_numDigits u hu1 hu64 _ (Lib.tabIs_alloc htab _)).mono ?_; rintro e w' ⟨rfl, rfl⟩)
  refine hfmt.mono ?_
  rintro e w' ⟨rfl, k, v', dk, rfl, hF⟩
  have hcv : (convert 34 9 (.slice (some ⟨w.heap.size, 0, none⟩) (Lib.nDigits u) 24)).run Tryz.prog ((putRow (fun (b : UInt8) => Value.int .u8 (b.toNat : Int)) (w.alloc (.cells Lib.zeros24 169)) w.heap.size 0 dk).drewN k) = .ok (.string ⟨(Lib.decDigits u).toArray⟩) ((putRow (fun (b : UInt8) => Value.int .u8 (b.toNat : Int)) (w.alloc (.cells Lib.zeros24 169)) w.heap.size 0 dk).drewN k) := by
   have h := run_convert_bytes_back (P := Tryz.prog) ((putRow (fun (b : UInt8) => Value.int .u8 (b.toNat : Int)) (w.alloc (.cells Lib.zeros24 169)) w.heap.size 0 dk).drewN k) 34 9 5 ⟨w.heap.size, 0, none⟩ 24 (Lib.decDigits u) Tryz.underlying34 Tryz.underlying5 Tryz.underlying9 (fun j hj => by
    rw [Lib.row_is_numeral hF j hj, Lib.add_plain, World.cell?_drewN]
    exact cell?_putRow (fun (b : UInt8) => Value.int .u8 (b.toNat : Int)) _ w.heap.size 0 _ dk HH0.out (by rw [hF.size, Array.size_replicate]) j (by rw [hF.size]; rw [Lib.decDigits_length] at hj; exact hj))
   rw [Lib.decDigits_length] at h
   exact h
  go_wp2
  go_ret
  obtain ⟨os, eo⟩ := Lib.fin_at w (.cells Lib.zeros24 169) dk k 0
  exact ⟨rfl, k, os, eo⟩
end Go.Proofs.YthiijfbcfoifnaaGreatDoor
namespace Go.Proofs.YthiijfbcfoifnaaGreatDoor
open Go.Eng Go.Plain
set_option maxHeartbeats 4000000
set_option maxRecDepth 20000
attribute [local irreducible] WC RegS RegD SeqQ BlkQ ScoQ RegK CutK Sat SatN FnIs LoopQ StepIs OpIs
theorem fu_in (u : Nat) (hu : u < 18446744073709551616) : FnIs Tryz.prog 69 [.int .u64 u, .int .i64 10] [] (.d (strD (Lib.decDigits u))) [] :=
 .of_calls1 rfl ⟨_, Tryz.func69, by kernel_rfl, by kernel_rfl⟩ fun σ w X vs ha hg => by
  rw [ha.two]
  refine (fu_inner u hu w (glob_tab hg)).mono ?_
  rintro e w' ⟨rfl, k, os, rfl⟩
  exact ⟨rfl, below_grow _ _ _⟩
theorem fu_is (u : Nat) (hu : u < 18446744073709551616) : FnIs Tryz.prog 34 [.int .u64 u, .int .i64 10] [] (.d (strD (Lib.decDigits u))) [] := by
 refine fnIs_of tab_ok Tryz.func34 rfl rfl rfl ?_;refine sR ?_;refine rC ?_;refine nR ?_;iterate 2 refine rC ?_
 refine rQ (call_r (fu_in u hu) rfl rfl (arg_e (arg_e arg_nil)) (.inl rfl) (fun _ => rfl)) ?_;refine rC ?_;refine nS ?_;refine wc_ret ?_
 exact ⟨trivial, [], lf⟩
theorem fuI_is {n : Int} (h : InU n) : FnIs Tryz.prog 34 [.int .u64 n, .int .i64 10] [] (.d (strD (Lib.itoa n))) [] := by
 have := fu_is n.toNat (by have := h.2; omega)
 rw [toNat_eq h.1, ← itoa_nat h.1] at this
 exact this
theorem itoa_lenU {n : Int} (h : InU n) : (Lib.itoa n).length ≤ 20 := by
 rw [itoa_nat h.1]
 exact dec_len10 19 _ (by have := h.2; have := h.1; omega)
theorem text_max2 {l : List (List POp)} (hok : OkL l) (hc : chkP l = 0) : (textP l).length ≤ 100000 := by
 obtain ⟨h1, h2⟩ := chkP_ok.1 hc
 have hb : ∀ p ∈ l, p.length ≤ 64 ∧ ∀ o ∈ p, o.Ok ∧ o.data.length ≤ 64 := fun p hp => by
  have := h2 p hp
  simp only [badP, Bool.or_eq_false_iff, decide_eq_false_iff_not, List.any_eq_false, decide_eq_true_eq] at this
  exact ⟨by omega, fun o ho => ⟨hok p hp o ho, by have := this.2 o ho; omega⟩⟩
 have := text_len (D := 64) (N := 64) l hb
 have h3 : (7 + (51 + 2 * 64) * 64) * l.length ≤ (7 + (51 + 2 * 64) * 64) * 8 := Nat.mul_le_mul_left _ h1
 omega
theorem blen_is (b : Bool) (l : List UInt8) (n : Nat) : FnIs Tryz.prog 37 [.ptr 0 []] [(0, bldRow b 0 1 n), (1, rowT l)] (.int .i64 n) [(0, bldRow b 0 1 n), (1, rowT l)] := by
 cases b with
 | true =>
  refine fnIs_of tab_ok Tryz.func37 rfl rfl rfl ?_;refine sR ?_;refine rC ?_;refine nR ?_;iterate 3 refine rC ?_
  refine rQ iM ?_;refine rQ (len_own tab_ok rfl rfl) ?_;refine rC ?_;refine nS ?_;refine wc_ret ?_
  exact ⟨trivial, [], .of rfl rfl rfl rfl rfl ⟨⟨_, rfl, AVLe.of_eq rfl⟩, rfl, trivial⟩ ⟨⟨rfl, rfl, _, rfl, .refl _⟩, ⟨rfl, rfl, _, rfl, .refl _⟩, trivial⟩⟩
 | false =>
  refine fnIs_of tab_ok Tryz.func37 rfl rfl rfl ?_;refine sR ?_;refine rC ?_;refine nR ?_;iterate 3 refine rC ?_
  refine rQ iM ?_;refine rQ (len_own tab_ok rfl rfl) ?_;refine rC ?_;refine nS ?_;refine wc_ret ?_
  exact ⟨trivial, [], .of rfl rfl rfl rfl rfl ⟨⟨_, rfl, AVLe.of_eq rfl⟩, rfl, trivial⟩ ⟨⟨rfl, rfl, _, rfl, .refl _⟩, ⟨rfl, rfl, _, rfl, .refl _⟩, trivial⟩⟩
theorem writestr2_fresh (l s : List UInt8) (n : Nat) (hn : l.length = n) (hs0 : 0 < s.length) (hlen : n + s.length ≤ 4194304) : FnIs Tryz.prog 33 [.ptr 0 [], .d (strD s)] [(0, bldRow true 0 1 n), (1, rowT l)] (.tup (.acons (.int .i64 s.length) (.acons (.d (.sc .nilIface)) .anil))) [(0, bldRow false 0 64 (n + s.length)), (64, rowT (l ++ s))] := by
 have hbl : n = (byI l).length := by rw [byI_len]; exact hn.symm
 have hcc := copycheck_fresh l n
 have hlen2 : (byI l).length + s.length ≤ 4194304 := by rw [← hbl]; exact hlen
 refine fnIs_of tab_ok Tryz.func33 rfl rfl rfl ?_;refine sR ?_;iterate 2 refine rC ?_
 refine nR ?_;refine rC ?_;refine reg_do rfl (call_h [(0, some 0), (1, some 1)] hcc rfl rfl rfl (arg_ptr rfl rfl arg_nil) ⟨⟨rfl, rfl, _, _, rfl, rfl, .refl _⟩, ⟨rfl, rfl, _, _, rfl, rfl, .refl _⟩, trivial⟩ rfl rfl (.inl rfl) rfl rfl) rfl rfl ?_
 refine nR ?_;iterate 4 refine rC ?_
 refine rQ iM ?_;refine rC ?_;refine reg_new2 (append_str2 (l := s) tab_ok rfl Tryz.underlying9 rfl rfl rfl hbl rfl rfl hs0 hlen2 rfl) rfl ?_;iterate 2 refine rC ?_
 refine reg_store (store_row tab_ok rfl rfl rfl ⟨_, ⟨_, ⟨rfl, rfl, rfl⟩, rfl⟩, rfl⟩ rfl) ?_;refine nR ?_;refine rC ?_;refine rQ (len_s tab_ok rfl rfl) ?_;iterate 2 refine rC ?_
 refine nS ?_;refine wc_ret ?_
 rw [byI_app l s]
 exact ⟨trivial, [(64, some 144)], .of rfl rfl rfl rfl rfl ⟨⟨_, rfl, AVLe.of_eq rfl⟩, rfl, trivial⟩ ⟨⟨rfl, rfl, _, rfl, RowLe.of_eq (by rw [hbl]; rfl)⟩, ⟨rfl, rfl, _, rfl, .refl _⟩, trivial⟩⟩
theorem writestr2_used (l s : List UInt8) (n : Nat) (hn : l.length = n) (hs0 : 0 < s.length) (hlen : n + s.length ≤ 4194304) : FnIs Tryz.prog 33 [.ptr 0 [], .d (strD s)] [(0, bldRow false 0 1 n), (1, rowT l)] (.tup (.acons (.int .i64 s.length) (.acons (.d (.sc .nilIface)) .anil))) [(0, bldRow false 0 64 (n + s.length)), (64, rowT (l ++ s))] := by
 have hbl : n = (byI l).length := by rw [byI_len]; exact hn.symm
 have hcc := copycheck_used l n
 have hlen2 : (byI l).length + s.length ≤ 4194304 := by rw [← hbl]; exact hlen
 refine fnIs_of tab_ok Tryz.func33 rfl rfl rfl ?_;refine sR ?_;iterate 2 refine rC ?_
 refine nR ?_;refine rC ?_;refine reg_do rfl (call_h [(0, some 0), (1, some 1)] hcc rfl rfl rfl (arg_ptr rfl rfl arg_nil) ⟨⟨rfl, rfl, _, _, rfl, rfl, .refl _⟩, ⟨rfl, rfl, _, _, rfl, rfl, .refl _⟩, trivial⟩ rfl rfl (.inl rfl) rfl rfl) rfl rfl ?_
 refine nR ?_;iterate 4 refine rC ?_
 refine rQ iM ?_;refine rC ?_;refine reg_new2 (append_str2 (l := s) tab_ok rfl Tryz.underlying9 rfl rfl rfl hbl rfl rfl hs0 hlen2 rfl) rfl ?_;iterate 2 refine rC ?_
 refine reg_store (store_row tab_ok rfl rfl rfl ⟨_, ⟨_, ⟨rfl, rfl, rfl⟩, rfl⟩, rfl⟩ rfl) ?_;refine nR ?_;refine rC ?_;refine rQ (len_s tab_ok rfl rfl) ?_;iterate 2 refine rC ?_
 refine nS ?_;refine wc_ret ?_
 rw [byI_app l s]
 exact ⟨trivial, [(64, some 144)], .of rfl rfl rfl rfl rfl ⟨⟨_, rfl, AVLe.of_eq rfl⟩, rfl, trivial⟩ ⟨⟨rfl, rfl, _, rfl, RowLe.of_eq (by rw [hbl]; rfl)⟩, ⟨rfl, rfl, _, rfl, .refl _⟩, trivial⟩⟩
theorem writestr2_is (b : Bool) (l s : List UInt8) (n : Nat) (hn : l.length = n) (hs0 : 0 < s.length) (hlen : n + s.length ≤ 4194304) : FnIs Tryz.prog 33 [.ptr 0 [], .d (strD s)] [(0, bldRow b 0 1 n), (1, rowT l)] (.tup (.acons (.int .i64 s.length) (.acons (.d (.sc .nilIface)) .anil))) [(0, bldRow false 0 64 (n + s.length)), (64, rowT (l ++ s))] := by
 cases b with
 | true => exact writestr2_fresh l s n hn hs0 hlen
 | false => exact writestr2_used l s n hn hs0 hlen
end Go.Proofs.YthiijfbcfoifnaaGreatDoor
namespace Go.Eng
open Go.RowKit
open Go.ChangeMaps (setBlock)
section
variable {P : Program} {T : Tab} {env : Env} {h : Upds} {n : Nat}
variable {sz : Nat} {all rest : List Oper} {K : Env → Upds → Nat → Prop}
end
end Go.Eng
namespace Go.Eng
open Go.RowKit
section
variable {P : Program} {T : Tab} {env : Env} {h : Upds} {n : Nat}
end
end Go.Eng
namespace Go.Eng
open Go.RowKit
set_option linter.unusedSimpArgs false
section
variable {P : Program} {T : Tab} {env : Env} {h : Upds} {n : Nat}
theorem run_neq_ni {t : Nat} {w : World} {ms} (hud : P.underlying t = some (.interface ms)) : (binOp .neq t .nilIface .nilIface).run P w = .ok (.bool false) w := by
 have h1 : (Op.equalIn 10000 t .nilIface .nilIface).run P w = .ok true w := by
  rw [show (10000 : Nat) = 9999 + 1 from rfl, Op.equalIn]
  simp only [Sem.run_bind, run_underlying hud, Result.andThen_ok, Sem.run_pure]
 show (do let b ← Op.equalIn 10000 t _ _; pure (Value.bool !b) : Sem Value).run P w = _
 simp only [Sem.run_bind, h1, Result.andThen_ok, Sem.run_pure, Bool.not_true]
theorem run_neq_er {t t1 : Nat} {w : World} {ms} {v : Value} (hud : P.underlying t = some (.interface ms)) : (binOp .neq t (.iface t1 v) .nilIface).run P w = .ok (.bool true) w := by
 have h1 : (Op.equalIn 10000 t (.iface t1 v) .nilIface).run P w = .ok false w := by
  rw [show (10000 : Nat) = 9999 + 1 from rfl, Op.equalIn]
  simp only [Sem.run_bind, run_underlying hud, Result.andThen_ok, Sem.run_pure]
 show (do let b ← Op.equalIn 10000 t _ _; pure (Value.bool !b) : Sem Value).run P w = _
 simp only [Sem.run_bind, h1, Result.andThen_ok, Sem.run_pure, Bool.not_false]
theorem neq_nilI {t t' : Nat} {x : Operand} {ms} (hu : P.underlying t = some (.interface ms)) (hx : evalA env x = some (.d (.sc .nilIface))) :
  StepIs P (.binOp .neq t x (.const .nilIface) t') env h n (some (.bool false)) [] := .of_comes fun C G st σ w ac o ho hA hdst hst hn => by
 obtain ⟨hv, _⟩ := RelV.sc.1 (ev_sound hst (hA.ev hx)).1
 refine .quiet (u := .bool false) hst hdst ⟨rfl, rfl⟩ ?_ (RelV.sc.2 ⟨rfl, rfl⟩) trivial
 have hg : (eqGuard .neq t x (.const .nilIface) .nilIface .nilIface).run P w = .ok () w := by
  simp [eqGuard]
  try (cases x <;> rfl)
 have hc : ac.eval (.const .nilIface) = .nilIface := rfl
 simp only [execOp, ho, hv, hc, Sem.run_bind, hg, Result.andThen_ok, run_neq_ni hu, Sem.run_pure]
theorem neq_er {t t' : Nat} {x : Operand} {ms} (hu : P.underlying t = some (.interface ms)) (hx : evalA env x = some .er) :
  StepIs P (.binOp .neq t x (.const .nilIface) t') env h n (some (.bool true)) [] := .of_comes fun C G st σ w ac o ho hA hdst hst hn => by
 obtain ⟨t1, v, hv⟩ := RelV.er.1 (ev_sound hst (hA.ev hx)).1
 refine .quiet (u := .bool true) hst hdst ⟨rfl, rfl⟩ ?_ (RelV.sc.2 ⟨rfl, rfl⟩) trivial
 have hg : (eqGuard .neq t x (.const .nilIface) (.iface t1 v) .nilIface).run P w = .ok () w := rfl
 have hc : ac.eval (.const .nilIface) = .nilIface := rfl
 simp only [execOp, ho, hv, hc, Sem.run_bind, hg, Result.andThen_ok, run_neq_er hu, Sem.run_pure]
theorem slice_ipt (hT : TabOk P T) {t e L s : Nat} {re : TyR} {x : Operand} {α : Type} {enc : α → D} {xs : List α} (ht : tdesc T t = some (.array L e)) (he : lk T e = some re) (hx : evalA env x = some (.iptr (.vec L s enc xs))) (hL : Nat.ble L 1048576 = true) (hs0 : Nat.blt 0 s = true) :
  StepIs P (.slice t x none none none) env h n (some (.d (.arr s enc xs))) [] := .of_comes fun C G st σ w a o ho hA hdst hst hn => by
 obtain ⟨ud, hud, hdd⟩ := tdesc_und hT ht
 cases hdd
 have hL := Nat.le_of_ble_eq_true hL
 have hs0 := Nat.le_of_ble_eq_true hs0
 have hsz := (hT e re he).run_size (P := P)
 obtain ⟨ad, cs, hv, ⟨hl, f, hf, hcs⟩, hc⟩ := RelV.iptr.1 (ev_sound hst (hA.ev hx)).1
 have hmax : (1048576 : Nat) ≤ maxLen := by decide
 refine .quiet (u := .slice (some ad) L L) hst hdst ⟨rfl, rfl⟩ ?_ (RelV.arr.2 (.inr ⟨ad, L, by rw [hl], by omega, by omega, f, fun i hi => ⟨(hf i hi).1, (hf i hi).2, fun j u hj => ?_⟩⟩)) trivial
 ·simp [execOp, ho, Instr.sliceAt, hv, Instr.sureAddr, run_underlying hud, Instr.sliceBounds, Instr.sliceBound, asIntOf, hsz, Sem.run_bind, Sem.run_pure, Result.andThen_ok, Addr.add_zero']
 ·have hjs : j < s := by rw [← (hf i hi).2]; exact (List.getElem?_eq_some_iff.1 hj).1
  have := cat_get xs.length (fun i hi => (hf i hi).2) i j hi hjs
  rw [hj] at this
  refine hc _ _ ?_
  rw [hcs, ← hl]
  exact this
end
end Go.Eng
namespace Go.Proofs.YthiijfbcfoifnaaGreatDoor
open Go.Eng Go.Plain
set_option maxHeartbeats 8000000
set_option maxRecDepth 20000
attribute [local irreducible] WC RegS RegD SeqQ BlkQ ScoQ RegK CutK Sat SatN FnIs LoopQ StepIs OpIs
def partA (c : SCfg) (l : List (List POp)) (bs : List SAct) (i : Nat) : List UInt8 := textS c (textP l) (bs.take i)
theorem actsT_app (a b : List SAct) : actsT (a ++ b) = actsT a ++ actsT b := by simp [actsT]
theorem partA_go {c : SCfg} {l : List (List POp)} {bs : List SAct} {i : Nat} {a : SAct} (h : bs[i]? = some a) : partA c l bs i ++ (lineA a ++ [10]) = partA c l bs (i + 1) := by
 rw [partA, partA, textS, textS, List.take_add_one, h, Option.toList_some, actsT_app]
 simp [actsT]
theorem partA_end (c : SCfg) (l : List (List POp)) (bs : List SAct) : partA c l bs bs.length = textS c (textP l) bs := by rw [partA, List.take_length]
theorem partA_le (c : SCfg) (l : List (List POp)) (bs : List SAct) (i : Nat) : (partA c l bs i).length ≤ (textS c (textP l) bs).length := by
 have := congrArg List.length (actsT_app (bs.take i) (bs.drop i))
 rw [List.take_append_drop, List.length_append] at this
 simp only [partA, textS, List.length_append]
 omega
theorem lineA_len {a : SAct} (h : a.Ok) : (lineA a).length ≤ 60 + 2 * a.bytes.length := by
 obtain ⟨_, ⟨t0, t1⟩, ⟨s0, s1⟩, ⟨b0, b1⟩⟩ := h
 have l1 := itoa_len t0 t1
 have l2 := itoa_len s0 s1
 have l3 := itoa_len b0 b1
 have l4 := hexP_len a.bytes
 unfold lineA
 split
 ·simp [sPick]; omega
 split
 ·simp [sEdit]; omega
 split
 ·simp [sErase]; omega
 split
 ·simp [sReplay]; omega
 ·simp [sFall]; omega
theorem actB_len {thr sec : Int} {a : SAct} (h : actB thr sec a = true) : a.bytes.length ≤ 256 := by
 unfold actB at h
 split at h
 ·simp only [Bool.and_eq_true, decide_eq_true_eq] at h
  rw [h.2.2]; simp
 split at h
 ·simp only [Bool.and_eq_true, decide_eq_true_eq] at h
  exact h.1.1.1
 split at h
 ·simp only [Bool.and_eq_true, decide_eq_true_eq] at h
  rw [h.2.2]; simp
 split at h
 ·simp only [Bool.and_eq_true, decide_eq_true_eq] at h
  rw [h.2.2]; simp
 split at h
 ·simp only [Bool.and_eq_true, decide_eq_true_eq] at h
  rw [h.2]; simp
 ·cases h
theorem stext_bad (c : SCfg) (l : List (List POp)) (bs : List SAct) (hc : c.Ok) (hl : Bd l) (hb : bs.length ≤ 1000000000) (h0 : schk c l bs ≠ 0) : FnIs Tryz.prog 12 [.d (encScr c l bs)] [] (.tup (.acons (.d (strD [])) (.acons (.d (i6 (schk c l bs))) .anil))) [] := by
 have hchk := scheck_is c l bs hc hl hb
 have hn : (!decide (schk c l bs = 0)) = true := by rw [dF h0]; rfl
 refine fnIs_of tab_ok Tryz.func12 rfl rfl rfl ?_;refine sR ?_;refine rN ?_;iterate 2 refine rC ?_
 refine nQ ?_;refine sR ?_;refine rQ iM ?_;refine rQ (call_r hchk rfl rfl (arg_e arg_nil) (.inl rfl) (fun _ => rfl)) ?_;refine rC ?_;refine nR ?_;iterate 2 refine rC ?_
 refine nS ?_;refine wT ?_;refine sR ?_;iterate 3 refine rC ?_
 refine nS ?_;refine wc_ret ?_;refine seq_r ?_
 exact ⟨trivial, [], lf⟩
theorem stext_ok (c : SCfg) (l : List (List POp)) (bs : List SAct) (hc : c.Ok) (hl : Bd l) (hok : OkL l) (hb : bs.length ≤ 1000000000) (hbo : ∀ a ∈ bs, a.Ok) (h0 : schk c l bs = 0) : FnIs Tryz.prog 12 [.d (encScr c l bs)] [] (.tup (.acons (.d (strD (textP2 c l bs).1)) (.acons (.d (i6 (textP2 c l bs).2)) .anil))) [] := by
 have hchk := scheck_is c l bs hc hl hb
 rw [h0] at hchk
 obtain ⟨hw0, hp0, _, hb4, hall⟩ := schk_ok h0
 have htx := text_is l hl hok
 rw [hp0, if_pos rfl] at htx
 obtain ⟨htm, _⟩ := text_max hok hp0
 obtain ⟨⟨a1, a2⟩, ⟨a3, a4⟩, ⟨a5, a6⟩, ⟨a7, a8⟩, hlim, hres, hm, ⟨fl0, fl1⟩⟩ := hc
 have f0 : -9223372036854775808 ≤ c.flaw := by omega
 have f1 : c.flaw ≤ 9223372036854775807 := by omega
 have hwf : IntKind.i64.wrap c.flaw = c.flaw := wrap_i64 f0 f1
 have hm32 : c.master.length ≤ 524280 := by omega
 have k1 := itoa_len a1 a2
 have k2 := itoa_len a3 a4
 have k3 := itoa_len a5 a6
 have k4 := itoa_len a7 a8
 have k5 := itoa_lenU hlim
 have k6 := itoa_lenU hres
 have k7 := itoa_len f0 f1
 have k8 := hexP_len c.master
 obtain ⟨q0, hq0⟩ : ∃ q, sVolume ++ [32] ++ Lib.itoa c.blocks ++ [32] ++ Lib.itoa c.shards ++ [32] ++ Lib.itoa c.frames ++ [32] ++ Lib.itoa c.clients ++ [10] = q := ⟨_, rfl⟩
 obtain ⟨q1, hq1⟩ : ∃ q, sNonces ++ [32] ++ Lib.itoa c.limit ++ [32] ++ Lib.itoa c.reserve ++ [10] = q := ⟨_, rfl⟩
 obtain ⟨q2, hq2⟩ : ∃ q, sFlaw ++ [32] ++ Lib.itoa c.flaw ++ ([10] ++ sMaster ++ [32]) ++ hexP c.master ++ ([10] ++ sPrograms ++ [10]) ++ textP l ++ (sActions ++ [10]) = q := ⟨_, rfl⟩
 have n0 : q0.length ≤ 200 ∧ 0 < q0.length := by rw [← hq0]; simp [sVolume]; omega
 have n1 : q1.length ≤ 200 ∧ 0 < q1.length := by rw [← hq1]; simp [sNonces]; omega
 have htb : (textP l).length ≤ 100000 := text_max2 hok hp0
 have n2 : q2.length ≤ 101000 ∧ 0 < q2.length := by rw [← hq2]; simp [sFlaw, sMaster, sPrograms, sActions]; omega
 have hall0 : [] ++ q0 ++ q1 ++ q2 = partA c l bs 0 := by
  rw [← hq0, ← hq1, ← hq2]
  simp [partA, textS, linesT, headsT, head0, head1, head2, head3, actsT]
 have hn0 : (partA c l bs 0).length = ([] : List UInt8).length + q0.length + q1.length + q2.length := by rw [← hall0]; simp only [List.length_append]
 have p0 := n0.2
 have p1 := n1.2
 have p2 := n2.2
 have l0 : ([] : List UInt8).length + q0.length ≤ 4194304 := by simp; omega
 have l1 : ([] : List UInt8).length + q0.length + q1.length ≤ 4194304 := by simp; omega
 have l2 : ([] : List UInt8).length + q0.length + q1.length + q2.length ≤ 4194304 := by simp; omega
 refine fnIs_of tab_ok Tryz.func12 rfl rfl rfl ?_;refine sR ?_;refine rN ?_;iterate 2 refine rC ?_
 refine nQ ?_;refine sR ?_;refine rQ iM ?_;refine rQ (call_r hchk rfl rfl (arg_e arg_nil) (.inl rfl) (fun _ => rfl)) ?_;refine rC ?_;refine nR ?_;iterate 2 refine rC ?_
 refine nS ?_;refine wG ?_;refine kS ?_;refine sR ?_;refine rC ?_;refine rQ iB ?_;refine rQ (call_r htx rfl rfl (arg_e arg_nil) (.inl rfl) (fun _ => rfl)) ?_;iterate 5 refine rC ?_
 refine nQ ?_;refine sR ?_;iterate 2 refine rC ?_
 refine nS ?_;refine wG ?_;refine kS ?_;refine sR ?_;refine rC ?_;refine rQ iB ?_;refine rN ?_;refine rW ?_;refine rC ?_;refine nR ?_;refine rN ?_;refine nS ?_;refine wc_freeze (env' := [(9, _), (8, _), (7, _), (5, _), (1, _)]) (h' := [(248, some _), (64, some _)]) 224 _ rfl ⟨⟨_, rfl, .refl _⟩, ⟨_, rfl, .refl _⟩, ⟨_, rfl, Frz.ptr⟩, ⟨_, rfl, .refl _⟩, ⟨_, rfl, .refl _⟩, trivial⟩ ⟨⟨rfl, _, rfl, .refl _⟩, ⟨rfl, _, rfl, .refl _⟩, trivial⟩ ?_
 refine wc_le (env' := [(9, .ptr 66 []), (8, fnA 32), (7, .d (.pt (encCfg c))), (5, .d (strD (textP l))), (1, .ptr 64 [])]) (h' := [(66, some (bldRow true 66 67 0)), (67, some (rowT [])), (64, some (.box 30 (.d (encScr c l bs))))]) 72 [(66, some 248), (67, none)] (.of rfl rfl rfl rfl rfl ⟨⟨_, rfl, .refl _⟩, rfl, ⟨_, rfl, .refl _⟩, rfl, ⟨_, rfl, .refl _⟩, rfl, ⟨_, rfl, .refl _⟩, rfl, ⟨_, rfl, .refl _⟩, rfl, trivial⟩ ⟨⟨rfl, rfl, _, rfl, RowLe.split2⟩, ⟨rfl, rfl, rfl⟩, ⟨rfl, rfl, _, rfl, .refl _⟩, trivial⟩) ?_
 refine wc_seq ?_;refine wc_draw (by kernel_rfl) ?_;refine dC [8] [] ?_;refine dQ [7] [] (fieldAddr_pt tab_ok rfl rfl rfl rfl) ?_;refine dQ [29] [] iL ?_;refine dQ [28, 30] [] (call_r (itoa_is a1 a2) rfl rfl (arg_e arg_nil) (.inl rfl) (fun _ => rfl)) ?_
 refine dQ [31] [] (add_str (a := sVolume ++ [32]) (b := Lib.itoa c.blocks) rfl rfl (by simp [sVolume, sNonces, sFlaw, sMaster, sPrograms, sActions]; omega) rfl) ?_
 refine dQ [32] [] (add_str (a := sVolume ++ [32] ++ Lib.itoa c.blocks) (b := [32]) rfl rfl (by simp [sVolume, sNonces, sFlaw, sMaster, sPrograms, sActions]; omega) rfl) ?_
 refine dC [8] [] ?_;refine dQ [7] [] (fieldAddr_pt tab_ok rfl rfl rfl rfl) ?_;refine dQ [35] [] iL ?_;refine dQ [34, 36] [] (call_r (itoa_is a3 a4) rfl rfl (arg_e arg_nil) (.inl rfl) (fun _ => rfl)) ?_
 refine dQ [33, 37] [] (add_str (a := sVolume ++ [32] ++ Lib.itoa c.blocks ++ [32]) (b := Lib.itoa c.shards) rfl rfl (by simp [sVolume, sNonces, sFlaw, sMaster, sPrograms, sActions]; omega) rfl) ?_
 refine dQ [38] [] (add_str (a := sVolume ++ [32] ++ Lib.itoa c.blocks ++ [32] ++ Lib.itoa c.shards) (b := [32]) rfl rfl (by simp [sVolume, sNonces, sFlaw, sMaster, sPrograms, sActions]; omega) rfl) ?_
 refine dC [8] [] ?_;refine dQ [7] [] (fieldAddr_pt tab_ok rfl rfl rfl rfl) ?_;refine dQ [41] [] iL ?_;refine dQ [40, 42] [] (call_r (itoa_is a5 a6) rfl rfl (arg_e arg_nil) (.inl rfl) (fun _ => rfl)) ?_
 refine dQ [39, 43] [] (add_str (a := sVolume ++ [32] ++ Lib.itoa c.blocks ++ [32] ++ Lib.itoa c.shards ++ [32]) (b := Lib.itoa c.frames) rfl rfl (by simp [sVolume, sNonces, sFlaw, sMaster, sPrograms, sActions]; omega) rfl) ?_
 refine dQ [44] [] (add_str (a := sVolume ++ [32] ++ Lib.itoa c.blocks ++ [32] ++ Lib.itoa c.shards ++ [32] ++ Lib.itoa c.frames) (b := [32]) rfl rfl (by simp [sVolume, sNonces, sFlaw, sMaster, sPrograms, sActions]; omega) rfl) ?_
 refine dC [8] [] ?_;refine dQ [7] [] (fieldAddr_pt tab_ok rfl rfl rfl rfl) ?_;refine dQ [47] [] iL ?_;refine dQ [46, 48] [] (call_r (itoa_is a7 a8) rfl rfl (arg_e arg_nil) (.inl rfl) (fun _ => rfl)) ?_
 refine dQ [45, 49] [] (add_str (a := sVolume ++ [32] ++ Lib.itoa c.blocks ++ [32] ++ Lib.itoa c.shards ++ [32] ++ Lib.itoa c.frames ++ [32]) (b := Lib.itoa c.clients) rfl rfl (by simp [sVolume, sNonces, sFlaw, sMaster, sPrograms, sActions]; omega) rfl) ?_
 refine dQ [50] [] (add_str (a := sVolume ++ [32] ++ Lib.itoa c.blocks ++ [32] ++ Lib.itoa c.shards ++ [32] ++ Lib.itoa c.frames ++ [32] ++ Lib.itoa c.clients) (b := [10]) rfl rfl (by simp [sVolume, sNonces, sFlaw, sMaster, sPrograms, sActions]; omega) hq0) ?_
 refine dreg_step rfl (call_h [(0, some _), (1, some _)] (writestr2_is true [] q0 _ rfl p0 l0) rfl rfl rfl (arg_ptr rfl rfl (arg_e arg_nil)) ⟨⟨rfl, rfl, _, _, rfl, rfl, .refl _⟩, ⟨rfl, rfl, _, _, rfl, rfl, .refl _⟩, trivial⟩ rfl rfl (.inl rfl) rfl rfl) rfl rfl ?_
 refine dreg_end (by kernel_rfl) ?_;refine seq_n ?_;refine wc_seq ?_;refine wc_draw (by kernel_rfl) ?_;refine dQ [7] [] (fieldAddr_pt tab_ok rfl rfl rfl rfl) ?_;refine dQ [53] [] iL ?_
 refine dQ [54] [] (call_r (fuI_is hlim) rfl rfl (arg_e (arg_e arg_nil)) (.inl rfl) (fun _ => rfl)) ?_
 refine dQ [55] [] (add_str (a := sNonces ++ [32]) (b := Lib.itoa c.limit) rfl rfl (by simp [sVolume, sNonces, sFlaw, sMaster, sPrograms, sActions]; omega) rfl) ?_
 refine dQ [56] [] (add_str (a := sNonces ++ [32] ++ Lib.itoa c.limit) (b := [32]) rfl rfl (by simp [sVolume, sNonces, sFlaw, sMaster, sPrograms, sActions]; omega) rfl) ?_
 refine dQ [7] [] (fieldAddr_pt tab_ok rfl rfl rfl rfl) ?_;refine dQ [58] [] iL ?_;refine dQ [59] [] (call_r (fuI_is hres) rfl rfl (arg_e (arg_e arg_nil)) (.inl rfl) (fun _ => rfl)) ?_
 refine dQ [57, 60] [] (add_str (a := sNonces ++ [32] ++ Lib.itoa c.limit ++ [32]) (b := Lib.itoa c.reserve) rfl rfl (by simp [sVolume, sNonces, sFlaw, sMaster, sPrograms, sActions]; omega) rfl) ?_
 refine dQ [61] [] (add_str (a := sNonces ++ [32] ++ Lib.itoa c.limit ++ [32] ++ Lib.itoa c.reserve) (b := [10]) rfl rfl (by simp [sVolume, sNonces, sFlaw, sMaster, sPrograms, sActions]; omega) hq1) ?_
 refine dreg_step rfl (call_h [(0, some _), (1, some _)] (writestr2_is false ([] ++ q0) q1 (([] : List UInt8).length + q0.length) (by simp) p1 l1) rfl rfl rfl (arg_ptr rfl rfl (arg_e arg_nil)) ⟨⟨rfl, rfl, _, _, rfl, rfl, .refl _⟩, ⟨rfl, rfl, _, _, rfl, rfl, .refl _⟩, trivial⟩ rfl rfl (.inl rfl) rfl rfl) rfl rfl ?_
 refine dreg_end (by kernel_rfl) ?_;refine seq_n ?_;refine wc_seq ?_;refine wc_draw (by kernel_rfl) ?_;refine dC [8] [] ?_;refine dQ [7] [] (fieldAddr_pt tab_ok rfl rfl rfl rfl) ?_
 refine dQ [65] [] iL ?_;refine dQ [66] [] (conv_int (m := c.flaw) tab_ok rfl rfl rfl hwf) ?_;refine dQ [64, 67] [] (call_r (itoa_is f0 f1) rfl rfl (arg_e arg_nil) (.inl rfl) (fun _ => rfl)) ?_
 refine dQ [68] [] (add_str (a := sFlaw ++ [32]) (b := Lib.itoa c.flaw) rfl rfl (by simp [sVolume, sNonces, sFlaw, sMaster, sPrograms, sActions]; omega) rfl) ?_
 refine dQ [69] [] (add_str (a := sFlaw ++ [32] ++ Lib.itoa c.flaw) (b := ([10] ++ sMaster ++ [32])) rfl rfl (by simp [sVolume, sNonces, sFlaw, sMaster, sPrograms, sActions]; omega) rfl) ?_
 refine dQ [7] [] (fieldAddr_pt tab_ok rfl rfl rfl rfl) ?_;refine dQ [71] [] (slice_ipt tab_ok rfl rfl rfl rfl rfl) ?_;refine dQ [72] [] (call_r (digits_is c.master hm32) rfl rfl (arg_e arg_nil) (.inl rfl) (fun _ => rfl)) ?_
 refine dQ [70, 73] [] (add_str (a := sFlaw ++ [32] ++ Lib.itoa c.flaw ++ ([10] ++ sMaster ++ [32])) (b := hexP c.master) rfl rfl (by simp [sVolume, sNonces, sFlaw, sMaster, sPrograms, sActions]; omega) rfl) ?_
 refine dQ [74] [] (add_str (a := sFlaw ++ [32] ++ Lib.itoa c.flaw ++ ([10] ++ sMaster ++ [32]) ++ hexP c.master) (b := ([10] ++ sPrograms ++ [10])) rfl rfl (by simp [sVolume, sNonces, sFlaw, sMaster, sPrograms, sActions]; omega) rfl) ?_
 refine dC [5] [] ?_
 refine dQ [75, 76] [] (add_str (a := sFlaw ++ [32] ++ Lib.itoa c.flaw ++ ([10] ++ sMaster ++ [32]) ++ hexP c.master ++ ([10] ++ sPrograms ++ [10])) (b := textP l) rfl rfl (by simp [sVolume, sNonces, sFlaw, sMaster, sPrograms, sActions]; omega) rfl) ?_
 refine dQ [77] [] (add_str (a := sFlaw ++ [32] ++ Lib.itoa c.flaw ++ ([10] ++ sMaster ++ [32]) ++ hexP c.master ++ ([10] ++ sPrograms ++ [10]) ++ textP l) (b := (sActions ++ [10])) rfl rfl (by simp [sVolume, sNonces, sFlaw, sMaster, sPrograms, sActions]; omega) hq2) ?_
 refine dreg_step rfl (call_h [(0, some _), (1, some _)] (writestr2_is false ([] ++ q0 ++ q1) q2 (([] : List UInt8).length + q0.length + q1.length) (by simp) p2 l2) rfl rfl rfl (arg_ptr rfl rfl (arg_e arg_nil)) ⟨⟨rfl, rfl, _, _, rfl, rfl, .refl _⟩, ⟨rfl, rfl, _, _, rfl, rfl, .refl _⟩, trivial⟩ rfl rfl (.inl rfl) rfl rfl) rfl rfl ?_
 refine dreg_end (by kernel_rfl) ?_;refine seq_n ?_;refine qR ?_;refine rC ?_;refine rQ iB ?_;refine rQ iE ?_;refine rC ?_;refine nS ?_;refine wc_block ?_
 refine wc_inv (fun i : Nat => ⟨[(83, .int .i64 i), (82, .int .i64 bs.length), (81, .d (encAs bs)), (9, .ptr 66 [])], [(66, some (bldRow false 66 67 (partA c l bs i).length)), (67, some (rowT (partA c l bs i)))], 72, Tryz.f12.ntmps, 64⟩) (fun i => i ≤ bs.length ∧ (partA c l bs i).length ≤ 1048576) (fun i => bs.length - i) 0 [(67, some 480)] ⟨Nat.zero_le _, by rw [← hall0]; simp; omega⟩
  (.of rfl rfl rfl rfl rfl ⟨⟨_, rfl, .refl _⟩, rfl, ⟨_, rfl, .refl _⟩, rfl, ⟨_, rfl, .refl _⟩, rfl, ⟨_, rfl, .refl _⟩, rfl, trivial⟩ ⟨⟨rfl, rfl, _, rfl, RowLe.of_eq (by rw [hn0]; rfl)⟩, ⟨rfl, rfl, _, rfl, RowLe.of_eq (congrArg rowT hall0)⟩, trivial⟩) ?_
 rintro i ⟨hi, hi2⟩
 refine wc_of ?_;refine sR ?_;refine rC ?_;refine nQ ?_
 by_cases hlt : i < bs.length
 ·have d1 : decide ((i : Int) < (bs.length : Int)) = true := dT (by omega)
  obtain ⟨a, ha⟩ : ∃ a, bs[i]? = some a := ⟨_, List.getElem?_eq_getElem hlt⟩
  have ha2 : bs[((i : Int)).toNat]? = some a := by rw [Int.toNat_natCast]; exact ha
  have ham := List.mem_of_getElem? ha
  have hao := hbo a ham
  have hbl := actB_len (hall a ham)
  have hab : a.bytes.length ≤ 524280 := by omega
  have hln := lineA_len hao
  have hl89 : (lineA a).length + [(10 : UInt8)].length ≤ 9223372036854775807 := by simp; omega
  have p90 : 0 < (lineA a ++ [10]).length := by simp
  have l90 : (partA c l bs i).length + (lineA a ++ [10]).length ≤ 4194304 := by rw [List.length_append, show [(10 : UInt8)].length = 1 from rfl]; omega
  have hgo := partA_go (c := c) (l := l) ha
  have hgn : (partA c l bs i).length + (lineA a ++ [10]).length = (partA c l bs (i + 1)).length := List.length_append.symm.trans (congrArg List.length hgo)
  by_cases hbig : 1048576 < (partA c l bs (i + 1)).length
  ·have d2 : decide (1048576 < (((partA c l bs i).length + (lineA a ++ [10]).length : Nat) : Int)) = true := dT (by omega)
   have hle := partA_le c l bs (i + 1)
   rw [show textP2 c l bs = ([], 3) by rw [textP2, if_neg (fun e => e h0), if_pos (by omega)]]
   refine wT ?_;refine kS ?_;refine wc_seq ?_;refine wc_block ?_;refine sR ?_;refine rQ (index_arr tab_ok rfl rfl rfl rfl rfl (by omega) ha2) ?_;refine rQ iL ?_;refine rN ?_
   refine rW ?_;refine nR ?_;refine rQ iM ?_;refine rQ (call_r (actline_is a hao hab) rfl rfl (arg_e arg_nil) (.inl rfl) (fun _ => rfl)) ?_;refine rQ (add_str (a := lineA a) (b := [10]) rfl rfl hl89 rfl) ?_
   refine reg_do rfl (call_h [(0, some 66), (1, some 67)] (writestr2_is false (partA c l bs i) (lineA a ++ [10]) _ rfl p90 l90) rfl rfl rfl (arg_ptr rfl rfl (arg_e arg_nil)) ⟨⟨rfl, rfl, _, _, rfl, rfl, .refl _⟩, ⟨rfl, rfl, _, _, rfl, rfl, .refl _⟩, trivial⟩ rfl rfl (.inl rfl) rfl rfl) rfl rfl ?_
   refine nR ?_;refine reg_do rfl (call_h [(0, some _), (1, some _)] (blen_is false _ _) rfl rfl rfl (arg_ptr rfl rfl arg_nil) ⟨⟨rfl, rfl, _, _, rfl, rfl, .refl _⟩, ⟨rfl, rfl, _, _, rfl, rfl, .refl _⟩, trivial⟩ rfl rfl (.inl rfl) rfl rfl) rfl rfl ?_
   refine rC ?_;refine nS ?_;refine wT ?_;refine sR ?_;iterate 2 refine rC ?_
   refine nS ?_;refine wc_ret ?_;refine blk_r ?_;refine seq_r ?_;refine loop_r ?_;refine blk_r ?_;refine seq_r ?_
   exact ⟨trivial, [], lf⟩
  ·have d2 : decide (1048576 < (((partA c l bs i).length + (lineA a ++ [10]).length : Nat) : Int)) = false := dF (by omega)
   refine wT ?_;refine kS ?_;refine wc_seq ?_;refine wc_block ?_;refine sR ?_;refine rQ (index_arr tab_ok rfl rfl rfl rfl rfl (by omega) ha2) ?_;refine rQ iL ?_;refine rN ?_
   refine rW ?_;refine nR ?_;refine rQ iM ?_;refine rQ (call_r (actline_is a hao hab) rfl rfl (arg_e arg_nil) (.inl rfl) (fun _ => rfl)) ?_;refine rQ (add_str (a := lineA a) (b := [10]) rfl rfl hl89 rfl) ?_
   refine reg_do rfl (call_h [(0, some 66), (1, some 67)] (writestr2_is false (partA c l bs i) (lineA a ++ [10]) _ rfl p90 l90) rfl rfl rfl (arg_ptr rfl rfl (arg_e arg_nil)) ⟨⟨rfl, rfl, _, _, rfl, rfl, .refl _⟩, ⟨rfl, rfl, _, _, rfl, rfl, .refl _⟩, trivial⟩ rfl rfl (.inl rfl) rfl rfl) rfl rfl ?_
   refine nR ?_;refine reg_do rfl (call_h [(0, some _), (1, some _)] (blen_is false _ _) rfl rfl rfl (arg_ptr rfl rfl arg_nil) ⟨⟨rfl, rfl, _, _, rfl, rfl, .refl _⟩, ⟨rfl, rfl, _, _, rfl, rfl, .refl _⟩, trivial⟩ rfl rfl (.inl rfl) rfl rfl) rfl rfl ?_
   refine rC ?_;refine nS ?_;refine wF ?_;refine wc_skip ?_;refine blk_n ?_;refine seq_n ?_;refine wc_region ?_;refine rQ iD ?_;refine rC ?_;refine reg_nil ?_
   exact loop_n (i + 1) [(67, some _)] ⟨hlt, by omega⟩ (by omega) (.of rfl rfl rfl rfl rfl ⟨⟨_, rfl, .refl _⟩, rfl, ⟨_, rfl, .refl _⟩, rfl, ⟨_, rfl, .refl _⟩, rfl, ⟨_, rfl, .refl _⟩, rfl, trivial⟩ ⟨⟨rfl, rfl, _, rfl, RowLe.of_eq (by rw [hgn]; rfl)⟩, ⟨rfl, rfl, _, rfl, RowLe.of_eq (congrArg rowT hgo)⟩, trivial⟩)
 ·have he : i = bs.length := by omega
  subst he
  have d1 : decide ((bs.length : Int) < (bs.length : Int)) = false := dF (by omega)
  have d2 : decide (1048576 < ((partA c l bs bs.length).length : Int)) = false := dF (by omega)
  have hne96 : partA c l bs bs.length ≠ [] := fun e => by
   rw [partA_end] at e
   simp [textS, linesT, headsT] at e
  rw [show textP2 c l bs = (partA c l bs bs.length, 0) by rw [partA_end] at *; rw [textP2, if_neg (fun e => e h0), if_neg (by omega)]]
  refine wF ?_;refine wc_exit ?_;refine seq_x ?_;refine loop_x ?_;refine blk_x ?_;refine seq_n ?_;refine qR ?_;refine reg_do rfl (call_h [(0, some _), (1, some _)] (blen_is false _ _) rfl rfl rfl (arg_ptr rfl rfl arg_nil) ⟨⟨rfl, rfl, _, _, rfl, rfl, .refl _⟩, ⟨rfl, rfl, _, _, rfl, rfl, .refl _⟩, trivial⟩ rfl rfl (.inl rfl) rfl rfl) rfl rfl ?_
  refine rC ?_;refine nS ?_;refine wF ?_;refine kS ?_;refine sR ?_;refine reg_new2 (call_h [(0, some _), (1, some _)] (bstring_is (partA c l bs bs.length) _ rfl hne96 hi2) rfl rfl rfl (arg_ptr rfl rfl arg_nil) ⟨⟨rfl, rfl, _, _, rfl, rfl, .refl _⟩, ⟨rfl, rfl, _, _, rfl, rfl, .refl _⟩, trivial⟩ rfl rfl (.inl rfl) rfl rfl) rfl ?_
  iterate 2 refine rC ?_
  refine nS ?_;refine wc_ret ?_
  exact ⟨trivial, [], lf⟩
theorem stext_is (c : SCfg) (l : List (List POp)) (bs : List SAct) (hc : c.Ok) (hl : Bd l) (hok : OkL l) (hb : bs.length ≤ 1000000000) (hbo : ∀ a ∈ bs, a.Ok) : FnIs Tryz.prog 12 [.d (encScr c l bs)] [] (.tup (.acons (.d (strD (textP2 c l bs).1)) (.acons (.d (i6 (textP2 c l bs).2)) .anil))) [] := by
 by_cases h0 : schk c l bs = 0
 ·exact stext_ok c l bs hc hl hok hb hbo h0
 ·have := stext_bad c l bs hc hl hb h0
  rw [show textP2 c l bs = ([], schk c l bs) by rw [textP2, if_pos h0]]
  exact this
end Go.Proofs.YthiijfbcfoifnaaGreatDoor
namespace Go.Proofs.YthiijfbcfoifnaaGreatDoor
open Go.Eng Go.Plain Go.RowKit Go.Sort Go.Shelf
set_option maxHeartbeats 32000000
set_option maxRecDepth 100000
theorem pu31_empty (w : World) : Calls Tryz.prog 143 #[.string ⟨#[]⟩, .int .i64 10, .int .i64 31] w fun e w' => e = .returned (.tuple #[.int .u64 0, .iface 202 (.int .i64 2)]) ∧ w' = w := by
 go_enter Tryz.func143, Tryz.ntmps143
 go_wp2
 go_ret2
 exact ⟨rfl, rfl⟩
theorem pu31_in (t : ByteArray) (hne : t.size ≠ 0) (hmax : t.size ≤ 9223372036854775806) (w : World) :
  Calls Tryz.prog 143 #[.string t, .int .i64 10, .int .i64 31] w fun e w' => e = .returned (Lib.uintTupleM 202 2147483647 (Lib.parseUintM 2147483647 0 t.data.toList)) ∧ w' = Lib.bytesWorld w 5 t := by
 have hemp : t.toList.isEmpty = false := by
  rw [← decide_eq_emptyBytes]
  exact dF (fun h => hne (by rw [h]; rfl))
 have hcv := Lib.run_convert_string_bytes (P := Tryz.prog) w 9 34 5 t (u := .string) Tryz.underlying9 Tryz.underlying34 Tryz.underlying5
 have hcell : ∀ j, j < t.size → (Lib.bytesWorld w 5 t).cell? ⟨w.heap.size, j, none⟩ = some (.int .u8 (t.data.toList.getD j 0).toNat) := fun j hj => Lib.bytesWorld_cell w 5 t j hj
 obtain ⟨V, hV⟩ : ∃ V, V = Lib.bytesWorld w 5 t := ⟨_, rfl⟩
 rw [← hV] at hcv hcell ⊢
 clear hV
 obtain ⟨l, hl⟩ : ∃ l, l = t.data.toList := ⟨_, rfl⟩
 have hlen : l.length = t.size := by rw [hl, Lib.size_eq]
 rw [← hl] at hcell ⊢
 clear hl
 have hmv : IntKind.u64.wrap (IntKind.u64.wrap 2147483648 - 1) = 2147483647 := by
  rw [IntKind.wrap_u64, IntKind.wrap_u64]
  decide
 go_enter Tryz.func143, Tryz.ntmps143
 go_wp2
 go_loop [12, 13, 101] (fun vu vn vi => ∃ (k acc : Nat) (a : Int), vu = .bool false ∧ vn = .int .u64 a ∧ vi = .int .i64 k ∧ k ≤ t.size ∧ Hid (a = (acc : Int) ∧ acc ≤ 2147483647 ∧ Lib.parseUintM 2147483647 0 l = Lib.parseUintM 2147483647 acc (l.drop k)))
  (fun _ _ vi => t.size - (intOf vi).toNat)
 case atStart => exact ⟨0, 0, 0, rfl, rfl, rfl, by omega, rfl, by omega, rfl⟩
 case round =>
  obtain ⟨k, acc, a, rfl, rfl, rfl, hk, hh⟩ := hrel
  obtain ⟨ha, hacc, hdec⟩ := hh.out
  clear hh
  have a0 : 0 ≤ a := by omega
  have a1 : a ≤ 2147483647 := by omega
  by_cases hkn : k < t.size
  ·have hc := hcell k hkn
   have hdrop : l.drop k = l[k]'(by omega) :: l.drop (k + 1) := List.drop_eq_getElem_cons (by omega)
   have hget : l.getD k 0 = l[k]'(by omega) := by simp [List.getD, List.getElem?_eq_getElem (show k < l.length by omega)]
   rw [hdrop] at hdec
   rw [hget] at hc
   generalize l[k]'(by omega) = c at hc hdec
   have hc256 : c.toNat < 256 := c.toNat_lt
   clear hcell hdrop hget
   by_cases hdig : 48 ≤ c.toNat ∧ c.toNat ≤ 57
   ·obtain ⟨hd0, hd1⟩ := hdig
    have hcut : ¬ 1844674407370955162 ≤ acc := by omega
    by_cases hov : 2147483647 < acc * 10 + (c.toNat - 48)
    ·have hF : Lib.parseUintM 2147483647 acc (c :: l.drop (k + 1)) = .range := by simp [Lib.parseUintM, hd0, hd1, hcut, hov]
     rw [hF] at hdec
     have iov : 2147483647 < a * 10 + ((c.toNat : Int) - 48) := by omega
     clear hcut hacc hF hov ha
     go_wp2
     go_ret2
     exact ⟨rfl, rfl⟩
    ·have hF : Lib.parseUintM 2147483647 acc (c :: l.drop (k + 1)) = Lib.parseUintM 2147483647 (acc * 10 + (c.toNat - 48)) (l.drop (k + 1)) := by simp [Lib.parseUintM, hd0, hd1, hcut, hov]
     have hnew : Hid (a * 10 + ((c.toNat : Int) - 48) = ((acc * 10 + (c.toNat - 48) : Nat) : Int) ∧ acc * 10 + (c.toNat - 48) ≤ 2147483647 ∧ Lib.parseUintM 2147483647 0 l = Lib.parseUintM 2147483647 (acc * 10 + (c.toNat - 48)) (l.drop (k + 1))) := Lib.hid ⟨by omega, by omega, hdec.trans hF⟩
     have iov : a * 10 + ((c.toNat : Int) - 48) ≤ 2147483647 := by omega
     clear hcut hacc hF hov hdec ha
     go_wp2
     refine ⟨⟨k + 1, acc * 10 + (c.toNat - 48), a * 10 + ((c.toNat : Int) - 48), rfl, (by first | rfl | (congr 1; omega)), (by first | rfl | (congr 1; omega)), by omega, hnew⟩, by simp [intOf]; omega⟩
   ·have hF : Lib.parseUintM 2147483647 acc (c :: l.drop (k + 1)) = Lib.parseUintB 31 [] := by simp [Lib.parseUintM, Lib.parseUintB, hdig]
    rw [hF] at hdec
    clear hacc hF ha
    have hv0 := bits_lo_u8 .or (c.toNat : Int) 32
    have hv1 := bits_hi_u8 .or (c.toNat : Int) 32
    have hu0 := bits_lo_u8 .or 95 32
    have hu1 := bits_hi_u8 .or 95 32
    go_wp2_with (refine (Tryz.internal_strconv_lower _ _).mono ?_; rintro e w' ⟨rfl, rfl⟩)
    all_goals go_ret2
    all_goals first | exact ⟨rfl, rfl⟩ | exact ⟨by rw [hdec]; rfl, rfl⟩
  ·have hkk : k = t.size := by omega
   subst hkk
   have hF : Lib.parseUintM 2147483647 acc (l.drop t.size) = .ok acc := by rw [List.drop_eq_nil_of_le (by omega)]; rfl
   rw [hF] at hdec
   subst ha
   clear hacc hF a0 a1
   go_wp2
   go_ret2
   exact ⟨rfl, rfl⟩
end Go.Proofs.YthiijfbcfoifnaaGreatDoor
namespace Go.Proofs.YthiijfbcfoifnaaGreatDoor
open Go.Eng Go.Plain Go.RowKit Go.Sort Go.Shelf
set_option maxHeartbeats 8000000
set_option maxRecDepth 100000
theorem pu31_any (s : ByteArray) (hmax : s.size ≤ 9223372036854775806) (w : World) : Calls Tryz.prog 143 #[.string s, .int .i64 10, .int .i64 31] w fun e w' => e = .returned (Lib.uintTupleM 202 2147483647 (Lib.parseUintB 31 s.data.toList)) ∧ (w' = w ∨ w' = Lib.bytesWorld w 5 s) := by
 by_cases h0 : s.size = 0
 ·have hs : s = ⟨#[]⟩ := ByteArray.ext (Array.eq_empty_of_size_eq_zero h0)
  subst hs
  exact (pu31_empty w).mono fun e w' ⟨he, hw⟩ => ⟨he, .inl hw⟩
 ·have hne : s.data.toList ≠ [] := fun h => h0 (by rw [Lib.size_eq, h]; rfl)
  refine (pu31_in s h0 hmax w).mono fun e w' ⟨he, hw⟩ => ⟨?_, .inr hw⟩
  rw [he, Lib.parseUintB, if_neg hne, show (2 : Nat) ^ 31 - 1 = 2147483647 from by decide]
theorem pu31_ok (s : ByteArray) (hmax : s.size ≤ 9223372036854775806) (u : Nat) (h : Lib.parseUintB 31 s.data.toList = .ok u) (w : World) :
  Calls Tryz.prog 120 #[.string s, .int .i64 10, .int .i64 31] w fun e w' => e = .returned (.tuple #[.int .u64 u, .nilIface]) ∧ (w' = w ∨ w' = Lib.bytesWorld w 5 s) := by
 have hI := pu31_any s hmax w
 rw [h] at hI
 have hI : Calls Tryz.prog 143 #[.string s, .int .i64 10, .int .i64 31] w fun e w' => e = .returned (.tuple #[.int .u64 u, .nilIface]) ∧ (w' = w ∨ w' = Lib.bytesWorld w 5 s) := hI
 clear h
 go_enter Tryz.func120, Tryz.ntmps120
 go_wp2_with (refine hI.mono ?_; rintro e V ⟨rfl, hW⟩)
 go_wp2
 go_ret2
 exact ⟨rfl, hW⟩
theorem pu31_syntax (s : ByteArray) (hlim : s.size ≤ 281474976710656) (h : Lib.parseUintB 31 s.data.toList = Lib.parseUintB 31 []) (ev : Value) (w : World) (hv : w.cell? ⟨6, 0, none⟩ = some ev) (hev : ev = .nilIface ∨ ∃ te pe, ev = .iface te pe) :
  Calls Tryz.prog 120 #[.string s, .int .i64 10, .int .i64 31] w fun e w' => ∃ N, e = .returned (.tuple #[.int .u64 0, .iface 204 (.pointer (some ⟨N, 0, none⟩))]) ∧ Below w.heap.size w w' := by
 have hG : 6 < w.heap.size := Lib.lt_of_cell hv
 have hI := pu31_any s (by omega) w
 rw [h] at hI
 have hI : Calls Tryz.prog 143 #[.string s, .int .i64 10, .int .i64 31] w fun e w' => e = .returned (.tuple #[.int .u64 0, .iface 202 (.int .i64 2)]) ∧ (w' = w ∨ w' = Lib.bytesWorld w 5 s) := hI
 clear h
 go_enter Tryz.func120, Tryz.ntmps120
 go_wp2_with (refine hI.mono ?_)
 rintro e V ⟨rfl, hW⟩
 have hb1 : Below w.heap.size w V := by
  rcases hW with rfl | rfl
  ·exact Below.refl _ _
  ·exact Lib.bytesWorld_below _ _ _
 have hv1 : V.cell? ⟨6, 0, none⟩ = some ev := (hb1.cell (show (⟨6, 0, none⟩ : Addr).block < w.heap.size from hG)).trans hv
 clear hW
 go_wp2_with (refine (Tryz.strconv_toError_syntax ⟨#[80, 97, 114, 115, 101, 85, 105, 110, 116]⟩ s 10 31 ev _ hlim ?_ hev).mono ?_)
 ·exact hv1
 rintro e V2 ⟨N, rfl, h1, h2, h3⟩
 go_wp2
 go_ret2
 exact ⟨N, rfl, hb1.trans (h3.mono hb1.size)⟩
theorem pu31_range (s : ByteArray) (hlim : s.size ≤ 281474976710656) (h : Lib.parseUintB 31 s.data.toList = .range) (ev : Value) (w : World) (hv : w.cell? ⟨7, 0, none⟩ = some ev) (hev : ev = .nilIface ∨ ∃ te pe, ev = .iface te pe) :
  Calls Tryz.prog 120 #[.string s, .int .i64 10, .int .i64 31] w fun e w' => ∃ N, e = .returned (.tuple #[.int .u64 2147483647, .iface 204 (.pointer (some ⟨N, 0, none⟩))]) ∧ Below w.heap.size w w' := by
 have hG : 7 < w.heap.size := Lib.lt_of_cell hv
 have hI := pu31_any s (by omega) w
 rw [h] at hI
 have hI : Calls Tryz.prog 143 #[.string s, .int .i64 10, .int .i64 31] w fun e w' => e = .returned (.tuple #[.int .u64 2147483647, .iface 202 (.int .i64 1)]) ∧ (w' = w ∨ w' = Lib.bytesWorld w 5 s) := hI
 clear h
 go_enter Tryz.func120, Tryz.ntmps120
 go_wp2_with (refine hI.mono ?_)
 rintro e V ⟨rfl, hW⟩
 have hb1 : Below w.heap.size w V := by
  rcases hW with rfl | rfl
  ·exact Below.refl _ _
  ·exact Lib.bytesWorld_below _ _ _
 have hv1 : V.cell? ⟨7, 0, none⟩ = some ev := (hb1.cell (show (⟨7, 0, none⟩ : Addr).block < w.heap.size from hG)).trans hv
 clear hW
 go_wp2_with (refine (Tryz.strconv_toError_range ⟨#[80, 97, 114, 115, 101, 85, 105, 110, 116]⟩ s 10 31 ev _ hlim ?_ hev).mono ?_)
 ·exact hv1
 rintro e V2 ⟨N, rfl, h1, h2, h3⟩
 go_wp2
 go_ret2
 exact ⟨N, rfl, hb1.trans (h3.mono hb1.size)⟩
def pvB (B : Nat) (l : List UInt8) : Int := match Lib.parseUintB B l with
 | .ok u => u
 | .range => ((2 ^ B - 1 : Nat) : Int)
 | _ => 0
def pkB (B : Nat) (l : List UInt8) : Bool := match Lib.parseUintB B l with
 | .ok _ => true
 | _ => false
abbrev PuIs (B : Nat) (l : List UInt8) : Prop := FnIs Tryz.prog 120 [.d (strD l), .int .i64 10, .int .i64 B] [] (.tup (.acons (.int .u64 (pvB B l)) (.acons (erA (pkB B l)) .anil))) []
theorem puB_of (B : Nat) (l : List UInt8)
  (h1 : ∀ (w : World) (u : Nat), Lib.parseUintB B l = .ok u → Calls Tryz.prog 120 #[.string (mkS l), .int .i64 10, .int .i64 B] w fun e w' => e = .returned (.tuple #[.int .u64 u, .nilIface]) ∧ (w' = w ∨ w' = Lib.bytesWorld w 5 (mkS l)))
  (h2 : ∀ (w : World) (ev : Value), Lib.parseUintB B l = .range → w.cell? ⟨7, 0, none⟩ = some ev → (ev = .nilIface ∨ ∃ te pe, ev = .iface te pe) → Calls Tryz.prog 120 #[.string (mkS l), .int .i64 10, .int .i64 B] w fun e w' => ∃ N, e = .returned (.tuple #[.int .u64 (2 ^ B - 1 : Nat), .iface 204 (.pointer (some ⟨N, 0, none⟩))]) ∧ Below w.heap.size w w')
  (h3 : ∀ (w : World) (ev : Value), Lib.parseUintB B l = Lib.parseUintB B [] → w.cell? ⟨6, 0, none⟩ = some ev → (ev = .nilIface ∨ ∃ te pe, ev = .iface te pe) → Calls Tryz.prog 120 #[.string (mkS l), .int .i64 10, .int .i64 B] w fun e w' => ∃ N, e = .returned (.tuple #[.int .u64 0, .iface 204 (.pointer (some ⟨N, 0, none⟩))]) ∧ Below w.heap.size w w') : PuIs B l := by
 refine .of_calls (fun G => ⟨trivial, by unfold erA; cases pkB B l <;> trivial, trivial⟩) ⟨_, Tryz.func120, by kernel_rfl, by kernel_rfl⟩ fun σ w X vs _ ha hg => ?_
 rw [ha.three]
 cases h : Lib.parseUintB B l
 case ok v =>
  refine (h1 w v h).mono ?_
  rintro e w' ⟨rfl, hw⟩
  refine ⟨_, rfl, ?_, by simp only [pvB, pkB, erA, h, cond_true]; exact relV_sc2 rfl rfl⟩
  rcases hw with rfl | rfl
  ·exact Below.refl _ _
  ·exact below_bytes _ _ _
 case range =>
  obtain ⟨ev, g1, g2⟩ := glob_err hg 7 (.inr rfl)
  refine (h2 w ev h g1 g2).mono ?_
  rintro e w' ⟨N, rfl, hb⟩
  exact ⟨_, rfl, hb, by simp only [pvB, pkB, erA, h, cond_false]; exact relV_er rfl⟩
 next =>
  obtain ⟨ev, g1, g2⟩ := glob_err hg 6 (.inl rfl)
  refine (h3 w ev h g1 g2).mono ?_
  rintro e w' ⟨N, rfl, hb⟩
  exact ⟨_, rfl, hb, by simp only [pvB, pkB, erA, h, cond_false]; exact relV_er rfl⟩
theorem pu31_is {l : List UInt8} (hl : l.length ≤ 281474976710656) : PuIs 31 l := by
 have hd := mkS_data l
 have hsz : (mkS l).size ≤ 281474976710656 := by rw [mkS_size]; exact hl
 exact puB_of 31 l (fun w u h => pu31_ok (mkS l) (by omega) u (by rw [hd]; exact h) w) (fun w ev h g1 g2 => pu31_range (mkS l) hsz (by rw [hd]; exact h) ev w g1 g2) (fun w ev h g1 g2 => pu31_syntax (mkS l) hsz (by rw [hd]; exact h) ev w g1 g2)
theorem pu64_is {l : List UInt8} (hl : l.length ≤ 281474976710656) : PuIs 64 l := by
 have hd := mkS_data l
 have hsz : (mkS l).size ≤ 281474976710656 := by rw [mkS_size]; exact hl
 exact puB_of 64 l (fun w u h => Tryz.strconv_ParseUint_10_at64_ok (mkS l) (by omega) u (by rw [hd]; exact h) w) (fun w ev h g1 g2 => (Tryz.strconv_ParseUint_10_at64_range (mkS l) hsz (by rw [hd]; exact h) ev w g1 g2).mono fun e w' ⟨N, he, _, _, hb⟩ => ⟨N, he, hb⟩) (fun w ev h g1 g2 => (Tryz.strconv_ParseUint_10_at64_syntax (mkS l) hsz (by rw [hd]; exact h) ev w g1 g2).mono fun e w' ⟨N, he, _, _, hb⟩ => ⟨N, he, hb⟩)
theorem pu8_is {l : List UInt8} (hl : l.length ≤ 281474976710656) : PuIs 8 l := by
 have hd := mkS_data l
 have hsz : (mkS l).size ≤ 281474976710656 := by rw [mkS_size]; exact hl
 exact puB_of 8 l (fun w u h => Tryz.strconv_ParseUint_10_at8_ok (mkS l) (by omega) u (by rw [hd]; exact h) w) (fun w ev h g1 g2 => (Tryz.strconv_ParseUint_10_at8_range (mkS l) hsz (by rw [hd]; exact h) ev w g1 g2).mono fun e w' ⟨N, he, _, _, hb⟩ => ⟨N, he, hb⟩) (fun w ev h g1 g2 => (Tryz.strconv_ParseUint_10_at8_syntax (mkS l) hsz (by rw [hd]; exact h) ev w g1 g2).mono fun e w' ⟨N, he, _, _, hb⟩ => ⟨N, he, hb⟩)
end Go.Proofs.YthiijfbcfoifnaaGreatDoor
namespace Go.Proofs.YthiijfbcfoifnaaGreatDoor
open Go.Eng Go.Plain
set_option maxHeartbeats 4000000
set_option maxRecDepth 20000
attribute [local irreducible] WC RegS RegD SeqQ BlkQ ScoQ RegK CutK Sat SatN FnIs LoopQ StepIs OpIs
abbrev rdB (ws : List (List UInt8)) (bad : Bool) : Row := .box 149 (.d (.cons (.arr 1 strD ws) (.cons (bo bad) .nil)))
def nx (ws : List (List UInt8)) (bad : Bool) : List UInt8 × List (List UInt8) × Bool := match ws with
 | [] => ([], [], true)
 | w :: r => (w, r, bad)
theorem next_is (ws : List (List UInt8)) (bad : Bool) : FnIs Tryz.prog 89 [.ptr 0 []] [(0, rdB ws bad)] (.d (strD (nx ws bad).1)) [(0, rdB (nx ws bad).2.1 (nx ws bad).2.2)] := by
 refine fnIs_of tab_ok Tryz.func89 rfl rfl rfl ?_
 cases ws with
 | nil =>
  refine sR ?_;refine rC ?_;refine nQ ?_;refine sR ?_;iterate 3 refine rC ?_
  refine rQ iB ?_;refine rQ iE ?_;refine rC ?_;refine nS ?_;refine wV ?_;refine sR ?_;iterate 3 refine rC ?_
  refine rX ?_;refine nR ?_;refine rC ?_;refine nS ?_;refine wc_ret ?_;refine seq_r ?_
  exact ⟨trivial, [], .of rfl rfl rfl rfl rfl ⟨⟨_, rfl, AVLe.of_eq rfl⟩, rfl, trivial⟩ ⟨⟨rfl, rfl, _, rfl, .refl _⟩, trivial⟩⟩
 | cons w r =>
  have hz : decide (((w :: r).length : Int) = 0) = false := dF (by simp; omega)
  have g0 : (w :: r)[((0 : Int)).toNat]? = some w := rfl
  refine sR ?_;refine rC ?_;refine nQ ?_;refine sR ?_;iterate 3 refine rC ?_
  refine rQ iB ?_;refine rQ iE ?_;refine rC ?_;refine nS ?_;refine wG ?_;refine kS ?_;refine sR ?_;iterate 3 refine rC ?_
  refine rQ iB ?_;refine rQ iA ?_;refine rQ iL ?_;refine rC ?_;refine nR ?_;iterate 4 refine rC ?_
  refine rQ iB ?_;refine rQ (slice_from (m := 1) tab_ok rfl rfl rfl rfl rfl (Nat.succ_le_succ (Nat.zero_le _))) ?_;iterate 2 refine rC ?_
  refine rX ?_;refine nR ?_;iterate 2 refine rC ?_
  refine nS ?_;refine wc_ret ?_
  exact ⟨trivial, [], .of rfl rfl rfl rfl rfl ⟨⟨_, rfl, AVLe.of_eq rfl⟩, rfl, trivial⟩ ⟨⟨rfl, rfl, _, rfl, .refl _⟩, trivial⟩⟩
abbrev wd (v : List UInt8) (ws : List (List UInt8)) (bad : Bool) : Bool := if (nx ws bad).1 = v then (nx ws bad).2.2 else true
theorem word_is (v : List UInt8) (ws : List (List UInt8)) (bad : Bool) : FnIs Tryz.prog 83 [.ptr 0 [], .d (strD v)] [(0, rdB ws bad)] (.tup .anil) [(0, rdB (nx ws bad).2.1 (wd v ws bad))] := by
 have hn := next_is ws bad
 unfold wd
 obtain ⟨⟨w, r, b⟩, hw⟩ : ∃ x, nx ws bad = x := ⟨_, rfl⟩
 rw [hw] at hn ⊢
 simp only at hn ⊢
 refine fnIs_of tab_ok Tryz.func83 rfl rfl rfl ?_
 by_cases h : w = v
 ·have d : (!decide (w = v)) = false := by rw [dT h]; rfl
  rw [if_pos h]
  refine sR ?_;refine rC ?_;refine reg_new2 (call_h [(0, some 0)] hn rfl rfl rfl (arg_ptr rfl rfl arg_nil) ⟨⟨rfl, rfl, _, _, rfl, rfl, .refl _⟩, trivial⟩ rfl rfl (.inl rfl) rfl rfl) rfl ?_
  refine rC ?_;refine rQ (neq_s (a := w) (b := v) tab_ok rfl rfl rfl) ?_;refine nS ?_;refine wF ?_;refine wc_skip ?_
  exact ⟨trivial, [], .of rfl rfl rfl rfl rfl ⟨⟨_, rfl, AVLe.of_eq rfl⟩, rfl, trivial⟩ ⟨⟨rfl, rfl, _, rfl, .refl _⟩, trivial⟩⟩
 ·have d : (!decide (w = v)) = true := by rw [dF h]; rfl
  rw [if_neg h]
  refine sR ?_;refine rC ?_;refine reg_new2 (call_h [(0, some 0)] hn rfl rfl rfl (arg_ptr rfl rfl arg_nil) ⟨⟨rfl, rfl, _, _, rfl, rfl, .refl _⟩, trivial⟩ rfl rfl (.inl rfl) rfl rfl) rfl ?_
  refine rC ?_;refine rQ (neq_s (a := w) (b := v) tab_ok rfl rfl rfl) ?_;refine nS ?_;refine wT ?_;refine wc_region ?_;iterate 3 refine rC ?_
  refine rX ?_;refine reg_nil ?_
  exact ⟨trivial, [], .of rfl rfl rfl rfl rfl ⟨⟨_, rfl, AVLe.of_eq rfl⟩, rfl, trivial⟩ ⟨⟨rfl, rfl, _, rfl, .refl _⟩, trivial⟩⟩
theorem isend_is (ws : List (List UInt8)) (bad : Bool) : FnIs Tryz.prog 87 [.ptr 0 []] [(0, rdB ws bad)] (.bool (!bad && decide (ws = []))) [(0, rdB ws bad)] := by
 have hd : decide ((ws.length : Int) = 0) = decide (ws = []) := by
  cases ws with
  | nil => rfl
  | cons w r => simp; omega
 refine fnIs_of tab_ok Tryz.func87 rfl rfl rfl ?_
 cases bad with
 | true =>
  refine sR ?_;refine rC ?_;refine nR ?_;iterate 3 refine rC ?_
  refine rQ iB ?_;iterate 2 refine rC ?_
  iterate 6 refine rT ?_
  refine rQ iG ?_;refine rC ?_;refine nS ?_;refine wc_ret ?_
  exact ⟨trivial, [], .of rfl rfl rfl rfl rfl ⟨⟨_, rfl, AVLe.of_eq rfl⟩, rfl, trivial⟩ ⟨⟨rfl, rfl, _, rfl, .refl _⟩, trivial⟩⟩
 | false =>
  refine sR ?_;refine rC ?_;refine nR ?_;iterate 3 refine rC ?_
  refine rQ iB ?_;iterate 2 refine rC ?_
  refine rP ?_;refine rC ?_;refine rP ?_;refine rC ?_;refine rP ?_;refine rC ?_;refine rP ?_;refine rQ iB ?_;refine rP ?_;refine rQ iE ?_;refine rP ?_;refine rC ?_
  refine rQ iU ?_;refine rC ?_;refine nS ?_;refine wc_ret ?_
  exact ⟨trivial, [], .of rfl rfl rfl rfl rfl ⟨⟨_, rfl, AVLe.of_eq (by rw [hd]; rfl)⟩, rfl, trivial⟩ ⟨⟨rfl, rfl, _, rfl, .refl _⟩, trivial⟩⟩
def nmb (B : Nat) (ws : List (List UInt8)) (bad : Bool) : Nat × List (List UInt8) × Bool := match numS B (nx ws bad).1 with
 | some n => (n, (nx ws bad).2.1, (nx ws bad).2.2)
 | none => (0, (nx ws bad).2.1, true)
theorem nx_len {ws : List (List UInt8)} {bad : Bool} {n : Nat} (h : ∀ w ∈ ws, w.length ≤ n) : (nx ws bad).1.length ≤ n ∧ ∀ w ∈ (nx ws bad).2.1, w.length ≤ n := by
 cases ws with
 | nil => exact ⟨Nat.zero_le _, fun w hw => by simp [nx] at hw⟩
 | cons w r => exact ⟨h w (by simp), fun x hx => h x (by simp [show x ∈ r from hx])⟩
theorem numberR_is (B : Nat) (hB : B ≤ 64) (ws : List (List UInt8)) (bad : Bool) (hp : PuIs B (nx ws bad).1) : FnIs Tryz.prog 85 [.ptr 0 [], .int .i64 B] [(0, rdB ws bad)] (.int .u64 (nmb B ws bad).1) [(0, rdB (nmb B ws bad).2.1 (nmb B ws bad).2.2)] := by
 have hn := next_is ws bad
 have hpu := hp
 unfold PuIs at hpu
 unfold nmb
 obtain ⟨⟨w, r, b⟩, hw⟩ : ∃ x, nx ws bad = x := ⟨_, rfl⟩
 rw [hw] at hn hpu ⊢
 simp only at hn hpu ⊢
 refine fnIs_of tab_ok Tryz.func85 rfl rfl rfl ?_
 by_cases hk : ∃ u, Lib.parseUintB B w = .ok u
 ·obtain ⟨u, hu⟩ := hk
  have hu64 : u < 18446744073709551616 := by
   have h1 := Lib.parseUintB_le hu
   have h2 : 2 ^ B ≤ 2 ^ 64 := Nat.pow_le_pow_right (by decide) hB
   have h3 : (2 : Nat) ^ 64 = 18446744073709551616 := by decide
   omega
  have hfu := fu_is u hu64
  rw [show pvB B w = u by simp only [pvB, hu], show pkB B w = true by simp only [pkB, hu]] at hpu
  by_cases hd : Lib.decDigits u = w
  ·have d : (!decide (Lib.decDigits u = w)) = false := by rw [dT hd]; rfl
   rw [show numS B w = some u by simp only [numS, hu, if_pos hd]]
   refine sR ?_;refine rC ?_;refine nR ?_;refine rC ?_;refine reg_new2 (call_h [(0, some 0)] hn rfl rfl rfl (arg_ptr rfl rfl arg_nil) ⟨⟨rfl, rfl, _, _, rfl, rfl, .refl _⟩, trivial⟩ rfl rfl (.inl rfl) rfl rfl) rfl ?_
   refine rC ?_;refine nR ?_;iterate 2 refine rC ?_
   refine rQ (call_r hpu rfl rfl (arg_e (arg_e (arg_e arg_nil))) (.inl rfl) (fun _ => rfl)) ?_;iterate 5 refine rC ?_
   refine nQ ?_;refine sR ?_;refine rC ?_;refine rQ (neq_nilI Tryz.underlying88 rfl) ?_;refine rC ?_;refine rP ?_;refine rC ?_;refine rP ?_;refine rQ (call_r hfu rfl rfl (arg_e (arg_e arg_nil)) (.inl rfl) (fun _ => rfl)) ?_
   refine rP ?_;refine rC ?_;refine rP ?_;refine rQ (neq_s (a := Lib.decDigits u) (b := w) tab_ok rfl rfl rfl) ?_;refine rQ iG ?_;refine nS ?_;refine wF ?_;refine kS ?_
   refine sR ?_;iterate 2 refine rC ?_
   refine nS ?_;refine wc_ret ?_
   exact ⟨trivial, [], .of rfl rfl rfl rfl rfl ⟨⟨_, rfl, AVLe.of_eq rfl⟩, rfl, trivial⟩ ⟨⟨rfl, rfl, _, rfl, .refl _⟩, trivial⟩⟩
  ·have d : (!decide (Lib.decDigits u = w)) = true := by rw [dF hd]; rfl
   rw [show numS B w = none by simp only [numS, hu, if_neg hd]]
   refine sR ?_;refine rC ?_;refine nR ?_;refine rC ?_;refine reg_new2 (call_h [(0, some 0)] hn rfl rfl rfl (arg_ptr rfl rfl arg_nil) ⟨⟨rfl, rfl, _, _, rfl, rfl, .refl _⟩, trivial⟩ rfl rfl (.inl rfl) rfl rfl) rfl ?_
   refine rC ?_;refine nR ?_;iterate 2 refine rC ?_
   refine rQ (call_r hpu rfl rfl (arg_e (arg_e (arg_e arg_nil))) (.inl rfl) (fun _ => rfl)) ?_;iterate 5 refine rC ?_
   refine nQ ?_;refine sR ?_;refine rC ?_;refine rQ (neq_nilI Tryz.underlying88 rfl) ?_;refine rC ?_;refine rP ?_;refine rC ?_;refine rP ?_;refine rQ (call_r hfu rfl rfl (arg_e (arg_e arg_nil)) (.inl rfl) (fun _ => rfl)) ?_
   refine rP ?_;refine rC ?_;refine rP ?_;refine rQ (neq_s (a := Lib.decDigits u) (b := w) tab_ok rfl rfl rfl) ?_;refine rQ iG ?_;refine nS ?_;refine wT ?_;refine sR ?_
   iterate 3 refine rC ?_
   refine rX ?_;refine nR ?_;refine rC ?_;refine nS ?_;refine wc_ret ?_;refine seq_r ?_
   exact ⟨trivial, [], .of rfl rfl rfl rfl rfl ⟨⟨_, rfl, AVLe.of_eq rfl⟩, rfl, trivial⟩ ⟨⟨rfl, rfl, _, rfl, .refl _⟩, trivial⟩⟩
 ·have hnn : numS B w = none := by
   unfold numS
   split
   ·rename_i u hu; exact absurd ⟨u, hu⟩ hk
   ·rfl
  have hkf : pkB B w = false := by
   unfold pkB
   split
   ·rename_i u hu; exact absurd ⟨u, hu⟩ hk
   ·rfl
  rw [hkf] at hpu
  rw [hnn]
  refine sR ?_;refine rC ?_;refine nR ?_;refine rC ?_;refine reg_new2 (call_h [(0, some 0)] hn rfl rfl rfl (arg_ptr rfl rfl arg_nil) ⟨⟨rfl, rfl, _, _, rfl, rfl, .refl _⟩, trivial⟩ rfl rfl (.inl rfl) rfl rfl) rfl ?_
  refine rC ?_;refine nR ?_;iterate 2 refine rC ?_
  refine rQ (call_r hpu rfl rfl (arg_e (arg_e (arg_e arg_nil))) (.inl rfl) (fun _ => rfl)) ?_;iterate 5 refine rC ?_
  refine nQ ?_;refine sR ?_;refine rC ?_;refine rQ (neq_er Tryz.underlying88 rfl) ?_;refine rC ?_;iterate 4 refine rT ?_
  refine rQ iU ?_;refine nS ?_;refine wV ?_;refine sR ?_;iterate 3 refine rC ?_
  refine rX ?_;refine nR ?_;refine rC ?_;refine nS ?_;refine wc_ret ?_;refine seq_r ?_
  exact ⟨trivial, [], .of rfl rfl rfl rfl rfl ⟨⟨_, rfl, AVLe.of_eq rfl⟩, rfl, trivial⟩ ⟨⟨rfl, rfl, _, rfl, .refl _⟩, trivial⟩⟩
theorem nmb_lt {B : Nat} {ws : List (List UInt8)} {bad : Bool} : (nmb B ws bad).1 < 2 ^ B := by
 unfold nmb
 split
 ·rename_i n h; exact numS_lt h
 ·exact Nat.two_pow_pos B
theorem count_isR (ws : List (List UInt8)) (bad : Bool) (hl : ∀ w ∈ ws, w.length ≤ 1048576) : FnIs Tryz.prog 84 [.ptr 0 []] [(0, rdB ws bad)] (.int .i64 (nmb 31 ws bad).1) [(0, rdB (nmb 31 ws bad).2.1 (nmb 31 ws bad).2.2)] := by
 have hn := numberR_is 31 (by decide) ws bad (pu31_is (by have := (nx_len (bad := bad) hl).1; omega))
 have hw : IntKind.i64.wrap ((nmb 31 ws bad).1 : Int) = ((nmb 31 ws bad).1 : Int) := wrap_i64 (by omega) (by have := nmb_lt (B := 31) (ws := ws) (bad := bad); omega)
 refine fnIs_of tab_ok Tryz.func84 rfl rfl rfl ?_;refine sR ?_;refine rC ?_;refine nR ?_;refine rC ?_;refine reg_new2 (call_h [(0, some 0)] hn rfl rfl rfl (arg_ptr rfl rfl (arg_e arg_nil)) ⟨⟨rfl, rfl, _, _, rfl, rfl, .refl _⟩, trivial⟩ rfl rfl (.inl rfl) rfl rfl) rfl ?_
 refine rQ (conv_int (m := ((nmb 31 ws bad).1 : Int)) tab_ok rfl rfl rfl hw) ?_;refine rC ?_;refine nS ?_;refine wc_ret ?_
 exact ⟨trivial, [], .of rfl rfl rfl rfl rfl ⟨⟨_, rfl, AVLe.of_eq rfl⟩, rfl, trivial⟩ ⟨⟨rfl, rfl, _, rfl, .refl _⟩, trivial⟩⟩
def byt (ws : List (List UInt8)) (bad : Bool) : List UInt8 × List (List UInt8) × Bool := match unhexP (nx ws bad).1 with
 | some d => (d, (nx ws bad).2.1, (nx ws bad).2.2)
 | none => ([], (nx ws bad).2.1, true)
abbrev BytIs (s : List UInt8) (r : List (List UInt8)) (b : Bool) (ws : List (List UInt8)) (bad : Bool) (o : Option (List UInt8)) : Prop := FnIs Tryz.prog 86 [.ptr 0 []] [(0, rdB ws bad)] (.d (encB (o.getD []))) [(0, rdB r (if o = none then true else b))]
theorem bytes_minus (s : List UInt8) (r : List (List UInt8)) (b : Bool) (ws : List (List UInt8)) (bad : Bool) (hx : nx ws bad = (s, r, b)) (h45 : s = [45]) : BytIs s r b ws bad (some []) := by
 have hn := next_is ws bad
 rw [hx] at hn
 simp only at hn
 have h0 : decide (s = [45]) = true := dT h45
 unfold BytIs
 rw [if_neg (by simp)]
 refine fnIs_of tab_ok Tryz.func86 rfl rfl rfl ?_;refine sR ?_;refine rC ?_;refine nR ?_;refine rC ?_;refine reg_new2 (call_h [(0, some 0)] hn rfl rfl rfl (arg_ptr rfl rfl arg_nil) ⟨⟨rfl, rfl, _, _, rfl, rfl, .refl _⟩, trivial⟩ rfl rfl (.inl rfl) rfl rfl) rfl ?_
 refine rC ?_;refine nQ ?_;refine sR ?_;refine rC ?_;refine rQ (eql_s (a := s) (b := [45]) tab_ok rfl rfl rfl) ?_;refine nS ?_;refine wT ?_;refine sR ?_;refine rC ?_
 refine nS ?_;refine wc_ret ?_;refine seq_r ?_
 exact ⟨trivial, [], .of rfl rfl rfl rfl rfl ⟨⟨_, rfl, nil_arr _ _⟩, rfl, trivial⟩ ⟨⟨rfl, rfl, _, rfl, .refl _⟩, trivial⟩⟩
theorem bytes_loop (s : List UInt8) (r : List (List UInt8)) (b : Bool) (ws : List (List UInt8)) (bad : Bool) (hx : nx ws bad = (s, r, b)) (h45 : s ≠ [45]) (hL : s.length ≤ 1048576) :
  (s = [] → FnIs Tryz.prog 86 [.ptr 0 []] [(0, rdB ws bad)] (.own 64 0 (s.length / 2) 1 none) [(0, rdB r true), (64, .ds 5 1 true encU8 (List.replicate (s.length / 2) (0 : Int)))]) ∧ (s ≠ [] → unhexP s = none → BytIs s r b ws bad none) ∧ ((s.length % 2 = 0 ∧ s ≠ [] ∧ ∀ c ∈ s, 0 ≤ Lib.indexByte hexD c) → FnIs Tryz.prog 86 [.ptr 0 []] [(0, rdB ws bad)] (.own 64 0 (s.length / 2) 1 none) [(0, rdB r b), (64, .ds 5 1 true encU8 (pairsV s))]) := by
 have hn := next_is ws bad
 rw [hx] at hn
 simp only at hn
 have h0 : decide (s = [45]) = false := dF h45
 have hwl : IntKind.i64.wrap ((s.length / 2 : Nat) : Int) = ((s.length / 2 : Nat) : Int) := wrap_i64 (by omega) (by omega)
 have hN : s.length / 2 ≤ 1048576 := by omega
 refine ⟨?_, ?_, ?_⟩
 ·intro hs
  have hl0 : s.length = 0 := by rw [hs]; rfl
  have hz : decide (((s.length / 2 : Nat) : Int) = 0) = true := dT (by omega)
  refine fnIs_of tab_ok Tryz.func86 rfl rfl rfl ?_;refine sR ?_;refine rC ?_;refine nR ?_;refine rC ?_;refine reg_new2 (call_h [(0, some 0)] hn rfl rfl rfl (arg_ptr rfl rfl arg_nil) ⟨⟨rfl, rfl, _, _, rfl, rfl, .refl _⟩, trivial⟩ rfl rfl (.inl rfl) rfl rfl) rfl ?_
  refine rC ?_;refine nQ ?_;refine sR ?_;refine rC ?_;refine rQ (eql_s (a := s) (b := [45]) tab_ok rfl rfl rfl) ?_;refine nS ?_;refine wF ?_;refine kS ?_;refine sR ?_
  refine rC ?_;refine rQ (len_s tab_ok rfl rfl) ?_;refine rQ (quo_nat (a := s.length) (b := 2) tab_ok rfl rfl rfl (by decide) hwl) ?_;refine reg_new (make_full (enc := encU8) (s := 1) (N := s.length / 2) tab_ok 0 rfl rfl rfl rfl rfl rfl rfl hN rfl) rfl ?_
  refine rC ?_;refine nQ ?_;refine sR ?_;refine rC ?_;refine reg_new (range_str tab_ok rfl rfl) rfl ?_;refine nS ?_;refine wc_block ?_;refine wc_once ?_;refine sR ?_
  refine rQ (next_end rfl rfl (by omega)) ?_;refine rC ?_;refine nQ ?_;refine wG ?_;refine wc_exit ?_;refine seq_x ?_;refine loop_x ?_;refine blk_x ?_;refine seq_n ?_
  refine sR ?_;iterate 4 refine rC ?_
  refine rQ iB ?_;refine rC ?_
  cases b with
  | false =>
   refine rP ?_;refine rC ?_;refine rP ?_;refine rQ (len_own tab_ok rfl rfl) ?_;refine rP ?_;refine rC ?_;refine rQ iG ?_;iterate 2 refine rC ?_
   refine rX ?_;refine nR ?_;iterate 2 refine rC ?_
   refine nS ?_;refine wc_ret ?_
   exact ⟨trivial, [(64, some 136)], .of rfl rfl rfl rfl rfl ⟨⟨_, rfl, AVLe.of_eq rfl⟩, rfl, trivial⟩ ⟨⟨rfl, rfl, _, rfl, RowLe.of_eq (by rw [hz]; rfl)⟩, ⟨rfl, rfl, _, rfl, .refl _⟩, trivial⟩⟩
  | true =>
   iterate 3 refine rT ?_
   refine rQ iU ?_;iterate 2 refine rC ?_
   refine rX ?_;refine nR ?_;iterate 2 refine rC ?_
   refine nS ?_;refine wc_ret ?_
   exact ⟨trivial, [(64, some 136)], .of rfl rfl rfl rfl rfl ⟨⟨_, rfl, AVLe.of_eq rfl⟩, rfl, trivial⟩ ⟨⟨rfl, rfl, _, rfl, .refl _⟩, ⟨rfl, rfl, _, rfl, .refl _⟩, trivial⟩⟩
 ·intro hs hnone
  unfold BytIs
  rw [if_pos rfl]
  refine fnIs_of tab_ok Tryz.func86 rfl rfl rfl ?_;refine sR ?_;refine rC ?_;refine nR ?_;refine rC ?_;refine reg_new2 (call_h [(0, some 0)] hn rfl rfl rfl (arg_ptr rfl rfl arg_nil) ⟨⟨rfl, rfl, _, _, rfl, rfl, .refl _⟩, trivial⟩ rfl rfl (.inl rfl) rfl rfl) rfl ?_
  refine rC ?_;refine nQ ?_;refine sR ?_;refine rC ?_;refine rQ (eql_s (a := s) (b := [45]) tab_ok rfl rfl rfl) ?_;refine nS ?_;refine wF ?_;refine kS ?_;refine sR ?_
  refine rC ?_;refine rQ (len_s tab_ok rfl rfl) ?_;refine rQ (quo_nat (a := s.length) (b := 2) tab_ok rfl rfl rfl (by decide) hwl) ?_;refine reg_new (make_full (enc := encU8) (s := 1) (N := s.length / 2) tab_ok 0 rfl rfl rfl rfl rfl rfl rfl hN rfl) rfl ?_
  refine rC ?_;refine nQ ?_;refine sR ?_;refine rC ?_;refine reg_new (range_str tab_ok rfl rfl) rfl ?_;refine nS ?_;refine wc_block ?_
  by_cases hodd : s.length % 2 = 1
  ·have hpos : 0 < s.length := List.length_pos_iff.2 hs
   obtain ⟨c, hc⟩ : ∃ c, s[0]? = some c := ⟨_, List.getElem?_eq_getElem hpos⟩
   have hib : FnIs Tryz.prog 121 [.d (strD hexD), .int .u8 c.toNat] [] (.int .i64 (Lib.indexByte hexD c)) [] := by
    have := ib_is (l := hexD) (c := (c.toNat : Int))
    rwa [show ((c.toNat : Int)).toNat.toUInt8 = c by simp] at this
   have hr : decide (((s.length % 2 : Nat) : Int) = 1) = true := dT (by omega)
   refine wc_once ?_
   by_cases hneg : Lib.indexByte hexD c < 0
   ·have hd := dT hneg
    refine sR ?_;refine reg_new (next_str rfl rfl (by omega)) rfl ?_;refine rC ?_;refine nQ ?_;refine wV ?_;refine kS ?_;refine wc_block ?_;refine sR ?_;iterate 2 refine rC ?_
    refine nR ?_;iterate 2 refine rC ?_
    refine rQ (index_s (l := s) (m := 0) tab_ok rfl rfl rfl hc) ?_;refine rQ (call_r hib rfl rfl (arg_e (arg_e arg_nil)) (.inl rfl) (fun _ => rfl)) ?_;refine rC ?_;refine nQ ?_
    refine sR ?_;iterate 3 refine rC ?_
    iterate 4 refine rS ?_
    refine rQ iT ?_;refine nS ?_;refine wV ?_;refine sR ?_;iterate 3 refine rC ?_
    refine rX ?_;refine nR ?_;refine rC ?_;refine nS ?_;refine wc_ret ?_;refine seq_r ?_;refine blk_r ?_;refine loop_r ?_;refine blk_r ?_;refine seq_r ?_
    exact ⟨trivial, [], .of rfl rfl rfl rfl rfl ⟨⟨_, rfl, nil_arr _ _⟩, rfl, trivial⟩ ⟨⟨rfl, rfl, _, rfl, .refl _⟩, trivial⟩⟩
   ·have hd : decide (Lib.indexByte hexD c < 0) = false := dF hneg
    refine sR ?_;refine reg_new (next_str rfl rfl (by omega)) rfl ?_;refine rC ?_;refine nQ ?_;refine wV ?_;refine kS ?_;refine wc_block ?_;refine sR ?_;iterate 2 refine rC ?_
    refine nR ?_;iterate 2 refine rC ?_
    refine rQ (index_s (l := s) (m := 0) tab_ok rfl rfl rfl hc) ?_;refine rQ (call_r hib rfl rfl (arg_e (arg_e arg_nil)) (.inl rfl) (fun _ => rfl)) ?_;refine rC ?_;refine nQ ?_
    refine sR ?_;iterate 3 refine rC ?_
    refine rO ?_;refine rC ?_;refine rO ?_;refine rQ (len_s tab_ok rfl rfl) ?_;refine rO ?_;refine rQ (rem_nat (a := s.length) (b := 2) tab_ok rfl rfl rfl (by decide)) ?_
    refine rO ?_;refine rC ?_;refine rQ iF ?_;refine nS ?_;refine wT ?_;refine sR ?_;iterate 3 refine rC ?_
    refine rX ?_;refine nR ?_;refine rC ?_;refine nS ?_;refine wc_ret ?_;refine seq_r ?_;refine blk_r ?_;refine loop_r ?_;refine blk_r ?_;refine seq_r ?_
    exact ⟨trivial, [], .of rfl rfl rfl rfl rfl ⟨⟨_, rfl, nil_arr _ _⟩, rfl, trivial⟩ ⟨⟨rfl, rfl, _, rfl, .refl _⟩, trivial⟩⟩
  have hm : s.length = 2 * (s.length / 2) := by omega
  obtain ⟨m, hm2⟩ : ∃ m, m = s.length / 2 := ⟨_, rfl⟩
  rw [← hm2] at hm
  have hr : decide (((s.length % 2 : Nat) : Int) = 1) = false := dF (by omega)
  refine wc_inv (fun i : Nat => ⟨[(16, .ptr 66 []), (4, .own 65 0 (s.length / 2) 1 none), (3, .d (strD s)), (0, .ptr 0 [])], [(65, some (.ds 5 1 true encU8 (uX m s i))), (66, some (.si (mkS s) i)), (0, some (rdB r b))], 72, Tryz.f86.ntmps, 64⟩) (fun i => i ≤ s.length ∧ ∀ c ∈ s.take i, 0 ≤ Lib.indexByte hexD c) (fun i => s.length - i) 0 [(65, some 136), (66, some 160)] ⟨Nat.zero_le _, by simp⟩
   (.of rfl rfl rfl rfl rfl ⟨⟨_, rfl, .refl _⟩, rfl, ⟨_, rfl, .refl _⟩, rfl, ⟨_, rfl, .refl _⟩, rfl, ⟨_, rfl, .refl _⟩, rfl, trivial⟩ ⟨⟨rfl, rfl, _, rfl, RowLe.of_eq (by rw [uX_zero, hm2]; rfl)⟩, ⟨rfl, rfl, _, rfl, .refl _⟩, ⟨rfl, rfl, _, rfl, .refl _⟩, trivial⟩) ?_
  rintro i ⟨hi, hdig⟩
  refine wc_of ?_
  by_cases hlt : i < s.length
  ·obtain ⟨c, hc⟩ : ∃ c, s[i]? = some c := ⟨_, List.getElem?_eq_getElem hlt⟩
   have hib : FnIs Tryz.prog 121 [.d (strD hexD), .int .u8 c.toNat] [] (.int .i64 (Lib.indexByte hexD c)) [] := by
    have := ib_is (l := hexD) (c := (c.toNat : Int))
    rwa [show ((c.toNat : Int)).toNat.toUInt8 = c by simp] at this
   by_cases hneg : Lib.indexByte hexD c < 0
   ·have hd := dT hneg
    refine sR ?_;refine reg_new (next_str rfl rfl (by omega)) rfl ?_;refine rC ?_;refine nQ ?_;refine wV ?_;refine kS ?_;refine wc_block ?_;refine sR ?_;iterate 2 refine rC ?_
    refine nR ?_;iterate 2 refine rC ?_
    refine rQ (index_s (l := s) (m := i) tab_ok rfl rfl rfl hc) ?_;refine rQ (call_r hib rfl rfl (arg_e (arg_e arg_nil)) (.inl rfl) (fun _ => rfl)) ?_;refine rC ?_;refine nQ ?_
    refine sR ?_;iterate 3 refine rC ?_
    iterate 4 refine rS ?_
    refine rQ iT ?_;refine nS ?_;refine wV ?_;refine sR ?_;iterate 3 refine rC ?_
    refine rX ?_;refine nR ?_;refine rC ?_;refine nS ?_;refine wc_ret ?_;refine seq_r ?_;refine blk_r ?_;refine loop_r ?_;refine blk_r ?_;refine seq_r ?_
    exact ⟨trivial, [], .of rfl rfl rfl rfl rfl ⟨⟨_, rfl, nil_arr _ _⟩, rfl, trivial⟩ ⟨⟨rfl, rfl, _, rfl, .refl _⟩, trivial⟩⟩
   ·have hd : decide (Lib.indexByte hexD c < 0) = false := dF hneg
    obtain ⟨x, hx1, hx2, hx3⟩ := uX_step hc hm
    replace hx2 : (uX m s i)[(((i / 2 : Nat) : Int)).toNat]? = some (x : Int) := by rw [Int.toNat_natCast]; exact hx2
    have hn16 := nibV_lt c
    have hwi : IntKind.i64.wrap ((i / 2 : Nat) : Int) = ((i / 2 : Nat) : Int) := wrap_i64 (by omega) (by omega)
    have hw2 : IntKind.u8.wrap (Lib.indexByte hexD c) = (nibV c : Int) := by
     rw [show Lib.indexByte hexD c = (nibV c : Int) by unfold nibV; omega]
     exact wrap_u8n (by omega)
    have hlow := decode_low (i := i) hc (hexD_low (by omega))
    refine sR ?_;refine reg_new (next_str rfl rfl (by omega)) rfl ?_;refine rC ?_;refine nQ ?_;refine wV ?_;refine kS ?_;refine wc_block ?_;refine sR ?_;iterate 2 refine rC ?_
    refine nR ?_;iterate 2 refine rC ?_
    refine rQ (index_s (l := s) (m := i) tab_ok rfl rfl rfl hc) ?_;refine rQ (call_r hib rfl rfl (arg_e (arg_e arg_nil)) (.inl rfl) (fun _ => rfl)) ?_;refine rC ?_;refine nQ ?_
    refine sR ?_;iterate 3 refine rC ?_
    refine rO ?_;refine rC ?_;refine rO ?_;refine rQ (len_s tab_ok rfl rfl) ?_;refine rO ?_;refine rQ (rem_nat (a := s.length) (b := 2) tab_ok rfl rfl rfl (by decide)) ?_
    refine rO ?_;refine rC ?_;refine rQ iF ?_;refine nS ?_;refine wF ?_;refine kS ?_;refine wc_region ?_;iterate 2 refine rC ?_
    refine rQ (quo_nat (a := i) (b := 2) tab_ok rfl rfl rfl (by decide) hwi) ?_;iterate 2 refine rC ?_
    refine rQ (quo_nat (a := i) (b := 2) tab_ok rfl rfl rfl (by decide) hwi) ?_;refine rQ (index_own tab_ok rfl rfl rfl rfl rfl (by omega) (by omega)) ?_;refine rQ (load_row tab_ok rfl rfl ⟨rfl, (x : Int), hx2, _, rfl, rfl⟩ rfl) ?_
    refine rQ (shl_4 (a := x) rfl rfl hx1) ?_;refine rC ?_;refine rQ (conv_int (m := (nibV c : Int)) tab_ok rfl rfl rfl hw2) ?_;refine rQ (or_16 (a := x) (b := nibV c) tab_ok rfl rfl hx1 hn16) ?_
    refine rQ (index_own tab_ok rfl rfl rfl rfl rfl (by omega) (by omega)) ?_;refine reg_store (store_row tab_ok rfl rfl rfl ⟨rfl, (x : Int), ((x * 16 + nibV c : Nat) : Int), hx2, ⟨rfl, rfl, rfl⟩, rfl⟩ rfl) ?_
    refine reg_nil ?_;refine blk_n ?_
    exact loop_n (i + 1) [] ⟨hlt, fun y hy => by rw [List.take_add_one, hc] at hy; rcases List.mem_append.1 hy with hy | hy; exact hdig y hy; rw [show y = c by simpa using hy]; omega⟩ (by omega) (.of rfl rfl rfl rfl rfl ⟨⟨_, rfl, .refl _⟩, rfl, ⟨_, rfl, .refl _⟩, rfl, ⟨_, rfl, .refl _⟩, rfl, ⟨_, rfl, .refl _⟩, rfl, trivial⟩ ⟨⟨rfl, rfl, _, rfl, RowLe.of_eq (congrArg (Row.ds 5 1 true encU8) hx3)⟩, ⟨rfl, rfl, _, rfl, RowLe.of_eq (by rw [hlow]; rfl)⟩, ⟨rfl, rfl, _, rfl, .refl _⟩, trivial⟩)
  ·exfalso
   have he : i = s.length := by omega
   rw [he, List.take_length] at hdig
   obtain ⟨t, h1, h2⟩ := pairs_some s (by omega) hdig
   rw [unhexP, if_neg h45, if_neg hs, h1] at hnone
   cases hnone
 ·rintro ⟨hev, hs, hall⟩
  have hpos : 0 < s.length := List.length_pos_iff.2 hs
  have hm : s.length = 2 * (s.length / 2) := by omega
  have hrep : s.length / 2 - (s.length + 1) / 2 = 0 := by omega
  obtain ⟨m, hm2⟩ : ∃ m, m = s.length / 2 := ⟨_, rfl⟩
  rw [← hm2] at hm hrep
  have hr : decide (((s.length % 2 : Nat) : Int) = 1) = false := dF (by omega)
  have hz : decide (((s.length / 2 : Nat) : Int) = 0) = false := dF (by omega)
  refine fnIs_of tab_ok Tryz.func86 rfl rfl rfl ?_;refine sR ?_;refine rC ?_;refine nR ?_;refine rC ?_;refine reg_new2 (call_h [(0, some 0)] hn rfl rfl rfl (arg_ptr rfl rfl arg_nil) ⟨⟨rfl, rfl, _, _, rfl, rfl, .refl _⟩, trivial⟩ rfl rfl (.inl rfl) rfl rfl) rfl ?_
  refine rC ?_;refine nQ ?_;refine sR ?_;refine rC ?_;refine rQ (eql_s (a := s) (b := [45]) tab_ok rfl rfl rfl) ?_;refine nS ?_;refine wF ?_;refine kS ?_;refine sR ?_
  refine rC ?_;refine rQ (len_s tab_ok rfl rfl) ?_;refine rQ (quo_nat (a := s.length) (b := 2) tab_ok rfl rfl rfl (by decide) hwl) ?_;refine reg_new (make_full (enc := encU8) (s := 1) (N := s.length / 2) tab_ok 0 rfl rfl rfl rfl rfl rfl rfl hN rfl) rfl ?_
  refine rC ?_;refine nQ ?_;refine sR ?_;refine rC ?_;refine reg_new (range_str tab_ok rfl rfl) rfl ?_;refine nS ?_;refine wc_block ?_
  refine wc_inv (fun i : Nat => ⟨[(16, .ptr 66 []), (4, .own 65 0 (s.length / 2) 1 none), (3, .d (strD s)), (0, .ptr 0 [])], [(65, some (.ds 5 1 true encU8 (uX m s i))), (66, some (.si (mkS s) i)), (0, some (rdB r b))], 72, Tryz.f86.ntmps, 64⟩) (fun i => i ≤ s.length ∧ ∀ c ∈ s.take i, 0 ≤ Lib.indexByte hexD c) (fun i => s.length - i) 0 [(65, some 136), (66, some 160)] ⟨Nat.zero_le _, by simp⟩
   (.of rfl rfl rfl rfl rfl ⟨⟨_, rfl, .refl _⟩, rfl, ⟨_, rfl, .refl _⟩, rfl, ⟨_, rfl, .refl _⟩, rfl, ⟨_, rfl, .refl _⟩, rfl, trivial⟩ ⟨⟨rfl, rfl, _, rfl, RowLe.of_eq (by rw [uX_zero, hm2]; rfl)⟩, ⟨rfl, rfl, _, rfl, .refl _⟩, ⟨rfl, rfl, _, rfl, .refl _⟩, trivial⟩) ?_
  rintro i ⟨hi, hdig⟩
  refine wc_of ?_
  by_cases hlt : i < s.length
  ·obtain ⟨c, hc⟩ : ∃ c, s[i]? = some c := ⟨_, List.getElem?_eq_getElem hlt⟩
   have hib : FnIs Tryz.prog 121 [.d (strD hexD), .int .u8 c.toNat] [] (.int .i64 (Lib.indexByte hexD c)) [] := by
    have := ib_is (l := hexD) (c := (c.toNat : Int))
    rwa [show ((c.toNat : Int)).toNat.toUInt8 = c by simp] at this
   have hneg : ¬ Lib.indexByte hexD c < 0 := by have := hall c (List.mem_of_getElem? hc); omega
   have hd : decide (Lib.indexByte hexD c < 0) = false := dF hneg
   obtain ⟨x, hx1, hx2, hx3⟩ := uX_step hc hm
   replace hx2 : (uX m s i)[(((i / 2 : Nat) : Int)).toNat]? = some (x : Int) := by rw [Int.toNat_natCast]; exact hx2
   have hn16 := nibV_lt c
   have hwi : IntKind.i64.wrap ((i / 2 : Nat) : Int) = ((i / 2 : Nat) : Int) := wrap_i64 (by omega) (by omega)
   have hw2 : IntKind.u8.wrap (Lib.indexByte hexD c) = (nibV c : Int) := by
    rw [show Lib.indexByte hexD c = (nibV c : Int) by unfold nibV; omega]
    exact wrap_u8n (by omega)
   have hlow := decode_low (i := i) hc (hexD_low (by omega))
   refine sR ?_;refine reg_new (next_str rfl rfl (by omega)) rfl ?_;refine rC ?_;refine nQ ?_;refine wV ?_;refine kS ?_;refine wc_block ?_;refine sR ?_;iterate 2 refine rC ?_
   refine nR ?_;iterate 2 refine rC ?_
   refine rQ (index_s (l := s) (m := i) tab_ok rfl rfl rfl hc) ?_;refine rQ (call_r hib rfl rfl (arg_e (arg_e arg_nil)) (.inl rfl) (fun _ => rfl)) ?_;refine rC ?_;refine nQ ?_
   refine sR ?_;iterate 3 refine rC ?_
   refine rO ?_;refine rC ?_;refine rO ?_;refine rQ (len_s tab_ok rfl rfl) ?_;refine rO ?_;refine rQ (rem_nat (a := s.length) (b := 2) tab_ok rfl rfl rfl (by decide)) ?_
   refine rO ?_;refine rC ?_;refine rQ iF ?_;refine nS ?_;refine wF ?_;refine kS ?_;refine wc_region ?_;iterate 2 refine rC ?_
   refine rQ (quo_nat (a := i) (b := 2) tab_ok rfl rfl rfl (by decide) hwi) ?_;iterate 2 refine rC ?_
   refine rQ (quo_nat (a := i) (b := 2) tab_ok rfl rfl rfl (by decide) hwi) ?_;refine rQ (index_own tab_ok rfl rfl rfl rfl rfl (by omega) (by omega)) ?_;refine rQ (load_row tab_ok rfl rfl ⟨rfl, (x : Int), hx2, _, rfl, rfl⟩ rfl) ?_
   refine rQ (shl_4 (a := x) rfl rfl hx1) ?_;refine rC ?_;refine rQ (conv_int (m := (nibV c : Int)) tab_ok rfl rfl rfl hw2) ?_;refine rQ (or_16 (a := x) (b := nibV c) tab_ok rfl rfl hx1 hn16) ?_
   refine rQ (index_own tab_ok rfl rfl rfl rfl rfl (by omega) (by omega)) ?_;refine reg_store (store_row tab_ok rfl rfl rfl ⟨rfl, (x : Int), ((x * 16 + nibV c : Nat) : Int), hx2, ⟨rfl, rfl, rfl⟩, rfl⟩ rfl) ?_
   refine reg_nil ?_;refine blk_n ?_
   exact loop_n (i + 1) [] ⟨hlt, fun y hy => by rw [List.take_add_one, hc] at hy; rcases List.mem_append.1 hy with hy | hy; exact hdig y hy; rw [show y = c by simpa using hy]; omega⟩ (by omega) (.of rfl rfl rfl rfl rfl ⟨⟨_, rfl, .refl _⟩, rfl, ⟨_, rfl, .refl _⟩, rfl, ⟨_, rfl, .refl _⟩, rfl, ⟨_, rfl, .refl _⟩, rfl, trivial⟩ ⟨⟨rfl, rfl, _, rfl, RowLe.of_eq (congrArg (Row.ds 5 1 true encU8) hx3)⟩, ⟨rfl, rfl, _, rfl, RowLe.of_eq (by rw [hlow]; rfl)⟩, ⟨rfl, rfl, _, rfl, .refl _⟩, trivial⟩)
  ·have he : i = s.length := by omega
   subst he
   cases b with
   | false =>
    refine sR ?_;refine rQ (next_end rfl rfl (by omega)) ?_;refine rC ?_;refine nQ ?_;refine wG ?_;refine wc_exit ?_;refine seq_x ?_;refine loop_x ?_;refine blk_x ?_
    refine seq_n ?_;refine sR ?_;iterate 4 refine rC ?_
    refine rQ iB ?_;refine rC ?_;refine rP ?_;refine rC ?_;refine rP ?_;refine rQ (len_own tab_ok rfl rfl) ?_;refine rP ?_;refine rC ?_;refine rQ iG ?_;iterate 2 refine rC ?_
    refine rX ?_;refine nR ?_;iterate 2 refine rC ?_
    refine nS ?_;refine wc_ret ?_
    exact ⟨trivial, [(64, some 65)], .of rfl rfl rfl rfl rfl ⟨⟨_, rfl, AVLe.of_eq rfl⟩, rfl, trivial⟩ ⟨⟨rfl, rfl, _, rfl, RowLe.of_eq (by rw [hz]; rfl)⟩, ⟨rfl, rfl, _, rfl, RowLe.of_eq (by simp only [uX, List.take_length, hrep]; simp; rfl)⟩, trivial⟩⟩
   | true =>
    refine sR ?_;refine rQ (next_end rfl rfl (by omega)) ?_;refine rC ?_;refine nQ ?_;refine wG ?_;refine wc_exit ?_;refine seq_x ?_;refine loop_x ?_;refine blk_x ?_
    refine seq_n ?_;refine sR ?_;iterate 4 refine rC ?_
    refine rQ iB ?_;refine rC ?_;iterate 3 refine rT ?_
    refine rQ iU ?_;iterate 2 refine rC ?_
    refine rX ?_;refine nR ?_;iterate 2 refine rC ?_
    refine nS ?_;refine wc_ret ?_
    exact ⟨trivial, [(64, some 65)], .of rfl rfl rfl rfl rfl ⟨⟨_, rfl, AVLe.of_eq rfl⟩, rfl, trivial⟩ ⟨⟨rfl, rfl, _, rfl, .refl _⟩, ⟨rfl, rfl, _, rfl, RowLe.of_eq (by simp only [uX, List.take_length, hrep]; simp; rfl)⟩, trivial⟩⟩
theorem bytesR_is (ws : List (List UInt8)) (bad : Bool) (hl : ∀ w ∈ ws, w.length ≤ 1048576) : FnIs Tryz.prog 86 [.ptr 0 []] [(0, rdB ws bad)] (.d (encB (byt ws bad).1)) [(0, rdB (byt ws bad).2.1 (byt ws bad).2.2)] := by
 have hL := (nx_len (bad := bad) hl).1
 unfold byt
 obtain ⟨⟨s, r, b⟩, hx⟩ : ∃ x, nx ws bad = x := ⟨_, rfl⟩
 rw [hx] at hL ⊢
 simp only at hL ⊢
 by_cases h45 : s = [45]
 ·have := bytes_minus s r b ws bad hx h45
  unfold BytIs at this
  rw [if_neg (by simp)] at this
  rw [show unhexP s = some [] by rw [h45]; rfl]
  exact this
 obtain ⟨g0, g1, g2⟩ := bytes_loop s r b ws bad hx h45 hL
 cases hu : unhexP s with
 | none =>
  by_cases hs : s = []
  ·have := (g0 hs).freeze_out (rows' := [(0, rdB r true)]) 64 _ rfl (Frz.own (by simp)) ⟨⟨rfl, _, rfl, .refl _⟩, trivial⟩
   rw [show List.replicate (s.length / 2) (0 : Int) = byI [] by rw [hs]; rfl] at this
   exact this
  ·exact g1 hs hu
 | some d =>
  have hs : s ≠ [] := fun e => by rw [unhexP, if_neg h45, if_pos e] at hu; cases hu
  have hp : pairsO s = some d := by rwa [unhexP, if_neg h45, if_neg hs] at hu
  have hev : s.length % 2 = 0 := by have := pairs_len s d hp; omega
  have hall : ∀ c ∈ s, 0 ≤ Lib.indexByte hexD c := fun c hc => by
   by_cases hneg : Lib.indexByte hexD c < 0
   ·rw [pairs_bad s c hc hneg] at hp; cases hp
   ·omega
  obtain ⟨t, h1, h2⟩ := pairs_some s hev hall
  rw [hp] at h1
  cases h1
  have := g2 ⟨hev, hs, hall⟩
  rw [← h2] at this
  exact this.freeze_out (rows' := [(0, rdB r b)]) 64 _ rfl (Frz.own (by rw [h2, pv_len]; omega)) ⟨⟨rfl, _, rfl, .refl _⟩, trivial⟩
abbrev rowC (c : SCfg) (R : D) : Row := .box 30 (.d (.cons (encCfg c) R))
theorem nmb_nil (B : Nat) (b : Bool) : nmb B [] b = (0, [], true) := rfl
theorem nmb_some {B n : Nat} {w : List UInt8} {r : List (List UInt8)} {b : Bool} (h : numS B w = some n) : nmb B (w :: r) b = (n, r, b) := by simp only [nmb, nx, h]
theorem nmb_none {B : Nat} {w : List UInt8} {r : List (List UInt8)} {b : Bool} (h : numS B w = none) : nmb B (w :: r) b = (0, r, true) := by simp only [nmb, nx, h]
theorem nmb_len {B : Nat} {ws : List (List UInt8)} {bad : Bool} {n : Nat} (h : ∀ w ∈ ws, w.length ≤ n) : ∀ w ∈ (nmb B ws bad).2.1, w.length ≤ n := by
 have := (nx_len (bad := bad) h).2
 unfold nmb
 split <;> exact this
theorem split_len {t : List UInt8} (h : t.length ≤ 1048576) : ∀ w ∈ splitL t 32, w.length ≤ 1048576 := fun w hw => Nat.le_trans (split_mem_le t 32 w hw) h
def endB (x : List (List UInt8) × Bool) : Bool := !x.2 && decide (x.1 = [])
abbrev HeadIs (i : Nat) (t : List UInt8) (c : SCfg) (R : D) (res : Bool) (c' : SCfg) : Prop := FnIs Tryz.prog 47 [.int .i64 i, .d (strD t), .ptr 0 [.fld 0 0]] [(0, rowC c R)] (.bool res) [(0, rowC c' R)]
theorem head_0 (t : List UInt8) (c : SCfg) (R : D) (ht : t.length ≤ 1048576) (r0 r1 r2 r3 r4 : List (List UInt8)) (b0 b1 b2 b3 b4 : Bool) (n1 n2 n3 n4 : Nat) (e0 : (nx (splitL t 32) false).2.1 = r0) (f0 : wd sVolume (splitL t 32) false = b0)
  (e1 : nmb 31 r0 b0 = (n1, r1, b1)) (e2 : nmb 31 r1 b1 = (n2, r2, b2)) (e3 : nmb 31 r2 b2 = (n3, r3, b3)) (e4 : nmb 31 r3 b3 = (n4, r4, b4)) :
  HeadIs 0 t c R (endB (r4, b4)) { c with blocks := n1, shards := n2, frames := n3, clients := n4 } := by
 have hsp := split_is (l := t) (c := 32) (by omega)
 have q0 := split_len ht
 have g0 : ∀ w ∈ r0, w.length ≤ 1048576 := by rw [← e0]; exact (nx_len q0).2
 have g1 : ∀ w ∈ r1, w.length ≤ 1048576 := by have := nmb_len (B := 31) (bad := b0) g0; rw [e1] at this; exact this
 have g2 : ∀ w ∈ r2, w.length ≤ 1048576 := by have := nmb_len (B := 31) (bad := b1) g1; rw [e2] at this; exact this
 have g3 : ∀ w ∈ r3, w.length ≤ 1048576 := by have := nmb_len (B := 31) (bad := b2) g2; rw [e3] at this; exact this
 have w0 := word_is sVolume (splitL t 32) false
 have c1 := count_isR r0 b0 g0
 have c2 := count_isR r1 b1 g1
 have c3 := count_isR r2 b2 g2
 have c4 := count_isR r3 b3 g3
 rw [e0, f0] at w0
 rw [e1] at c1
 rw [e2] at c2
 rw [e3] at c3
 rw [e4] at c4
 have ce := isend_is r4 b4
 have d0 : decide ((0 : Int) = 0) = true := rfl
 refine fnIs_of tab_ok Tryz.func47 rfl rfl rfl ?_;refine sR ?_;refine rC ?_;refine nR ?_;refine rC ?_;refine rQ (call_r hsp rfl rfl (arg_e (arg_e arg_nil)) (.inl rfl) (fun _ => rfl)) ?_
 refine rQ iS ?_;refine rN ?_;refine rC ?_;refine nQ ?_;refine sR ?_;refine rC ?_;refine nS ?_;refine wc_block ?_;refine sR ?_;iterate 2 refine rC ?_
 refine nS ?_;refine wV ?_;refine sR ?_;refine rC ?_;refine reg_new2 (call_h [(0, some _)] w0 rfl rfl rfl (arg_ptr rfl rfl (arg_e arg_nil)) ⟨⟨rfl, rfl, _, _, rfl, rfl, .refl _⟩, trivial⟩ rfl rfl (.inl rfl) rfl rfl) rfl ?_
 refine nS ?_;refine wc_region ?_;iterate 5 refine rC ?_
 refine reg_new2 (call_h [(0, some _)] c1 rfl rfl rfl (arg_ptr rfl rfl arg_nil) ⟨⟨rfl, rfl, _, _, rfl, rfl, .refl _⟩, trivial⟩ rfl rfl (.inl rfl) rfl rfl) rfl ?_
 refine rC ?_;refine reg_new2 (call_h [(0, some _)] c2 rfl rfl rfl (arg_ptr rfl rfl arg_nil) ⟨⟨rfl, rfl, _, _, rfl, rfl, .refl _⟩, trivial⟩ rfl rfl (.inl rfl) rfl rfl) rfl ?_
 refine rC ?_;refine reg_new2 (call_h [(0, some _)] c3 rfl rfl rfl (arg_ptr rfl rfl arg_nil) ⟨⟨rfl, rfl, _, _, rfl, rfl, .refl _⟩, trivial⟩ rfl rfl (.inl rfl) rfl rfl) rfl ?_
 refine rC ?_;refine reg_new2 (call_h [(0, some _)] c4 rfl rfl rfl (arg_ptr rfl rfl arg_nil) ⟨⟨rfl, rfl, _, _, rfl, rfl, .refl _⟩, trivial⟩ rfl rfl (.inl rfl) rfl rfl) rfl ?_
 iterate 2 refine rC ?_
 refine reg_store (store_row tab_ok rfl rfl rfl ⟨_, ⟨_, ⟨_, ⟨_, ⟨rfl, rfl, rfl⟩, rfl⟩, rfl⟩, rfl⟩, rfl⟩ rfl) ?_;iterate 2 refine rC ?_
 refine reg_store (store_row tab_ok rfl rfl rfl ⟨_, ⟨_, ⟨_, ⟨_, ⟨rfl, rfl, rfl⟩, rfl⟩, rfl⟩, rfl⟩, rfl⟩ rfl) ?_;iterate 2 refine rC ?_
 refine reg_store (store_row tab_ok rfl rfl rfl ⟨_, ⟨_, ⟨_, ⟨_, ⟨rfl, rfl, rfl⟩, rfl⟩, rfl⟩, rfl⟩, rfl⟩ rfl) ?_;iterate 2 refine rC ?_
 refine reg_store (store_row tab_ok rfl rfl rfl ⟨_, ⟨_, ⟨_, ⟨_, ⟨rfl, rfl, rfl⟩, rfl⟩, rfl⟩, rfl⟩, rfl⟩ rfl) ?_;refine reg_nil ?_;refine blk_n ?_;refine seq_n ?_
 refine sR ?_;refine rC ?_;refine reg_new2 (call_h [(0, some _)] ce rfl rfl rfl (arg_ptr rfl rfl arg_nil) ⟨⟨rfl, rfl, _, _, rfl, rfl, .refl _⟩, trivial⟩ rfl rfl (.inl rfl) rfl rfl) rfl ?_
 refine rC ?_;refine nS ?_;refine wc_ret ?_
 exact ⟨trivial, [], .of rfl rfl rfl rfl rfl ⟨⟨_, rfl, AVLe.of_eq rfl⟩, rfl, trivial⟩ ⟨⟨rfl, rfl, _, rfl, .refl _⟩, trivial⟩⟩
theorem head_1 (t : List UInt8) (c : SCfg) (R : D) (ht : t.length ≤ 1048576) (r0 r1 r2 : List (List UInt8)) (b0 b1 b2 : Bool) (n1 n2 : Nat) (e0 : (nx (splitL t 32) false).2.1 = r0) (f0 : wd sNonces (splitL t 32) false = b0)
  (e1 : nmb 64 r0 b0 = (n1, r1, b1)) (e2 : nmb 64 r1 b1 = (n2, r2, b2)) : HeadIs 1 t c R (endB (r2, b2)) { c with limit := n1, reserve := n2 } := by
 have hsp := split_is (l := t) (c := 32) (by omega)
 have q0 := split_len ht
 have g0 : ∀ w ∈ r0, w.length ≤ 1048576 := by rw [← e0]; exact (nx_len q0).2
 have g1 : ∀ w ∈ r1, w.length ≤ 1048576 := by have := nmb_len (B := 64) (bad := b0) g0; rw [e1] at this; exact this
 have w0 := word_is sNonces (splitL t 32) false
 have c1 := numberR_is 64 (by decide) r0 b0 (pu64_is (by have := (nx_len (bad := b0) g0).1; omega))
 have c2 := numberR_is 64 (by decide) r1 b1 (pu64_is (by have := (nx_len (bad := b1) g1).1; omega))
 rw [e0, f0] at w0
 rw [e1] at c1
 rw [e2] at c2
 have ce := isend_is r2 b2
 have d0 : decide ((1 : Int) = 0) = false := rfl
 have d1 : decide ((1 : Int) = 1) = true := rfl
 refine fnIs_of tab_ok Tryz.func47 rfl rfl rfl ?_;refine sR ?_;refine rC ?_;refine nR ?_;refine rC ?_;refine rQ (call_r hsp rfl rfl (arg_e (arg_e arg_nil)) (.inl rfl) (fun _ => rfl)) ?_
 refine rQ iS ?_;refine rN ?_;refine rC ?_;refine nQ ?_;refine sR ?_;refine rC ?_;refine nS ?_;refine wc_block ?_;refine sR ?_;iterate 2 refine rC ?_
 refine nS ?_;refine wG ?_;refine sR ?_;iterate 2 refine rC ?_
 refine nS ?_;refine wV ?_;refine sR ?_;refine rC ?_;refine reg_new2 (call_h [(0, some _)] w0 rfl rfl rfl (arg_ptr rfl rfl (arg_e arg_nil)) ⟨⟨rfl, rfl, _, _, rfl, rfl, .refl _⟩, trivial⟩ rfl rfl (.inl rfl) rfl rfl) rfl ?_
 refine nS ?_;refine wc_region ?_;iterate 3 refine rC ?_
 refine reg_new2 (call_h [(0, some _)] c1 rfl rfl rfl (arg_ptr rfl rfl (arg_e arg_nil)) ⟨⟨rfl, rfl, _, _, rfl, rfl, .refl _⟩, trivial⟩ rfl rfl (.inl rfl) rfl rfl) rfl ?_
 refine rC ?_;refine reg_new2 (call_h [(0, some _)] c2 rfl rfl rfl (arg_ptr rfl rfl (arg_e arg_nil)) ⟨⟨rfl, rfl, _, _, rfl, rfl, .refl _⟩, trivial⟩ rfl rfl (.inl rfl) rfl rfl) rfl ?_
 iterate 2 refine rC ?_
 refine reg_store (store_row tab_ok rfl rfl rfl ⟨_, ⟨_, ⟨_, ⟨_, ⟨rfl, rfl, rfl⟩, rfl⟩, rfl⟩, rfl⟩, rfl⟩ rfl) ?_;iterate 2 refine rC ?_
 refine reg_store (store_row tab_ok rfl rfl rfl ⟨_, ⟨_, ⟨_, ⟨_, ⟨rfl, rfl, rfl⟩, rfl⟩, rfl⟩, rfl⟩, rfl⟩ rfl) ?_;refine reg_nil ?_;refine blk_n ?_;refine seq_n ?_
 refine sR ?_;refine rC ?_;refine reg_new2 (call_h [(0, some _)] ce rfl rfl rfl (arg_ptr rfl rfl arg_nil) ⟨⟨rfl, rfl, _, _, rfl, rfl, .refl _⟩, trivial⟩ rfl rfl (.inl rfl) rfl rfl) rfl ?_
 refine rC ?_;refine nS ?_;refine wc_ret ?_
 exact ⟨trivial, [], .of rfl rfl rfl rfl rfl ⟨⟨_, rfl, AVLe.of_eq rfl⟩, rfl, trivial⟩ ⟨⟨rfl, rfl, _, rfl, .refl _⟩, trivial⟩⟩
theorem head_2 (t : List UInt8) (c : SCfg) (R : D) (ht : t.length ≤ 1048576) (r0 r1 : List (List UInt8)) (b0 b1 : Bool) (n1 : Nat) (e0 : (nx (splitL t 32) false).2.1 = r0) (f0 : wd sFlaw (splitL t 32) false = b0)
  (e1 : nmb 8 r0 b0 = (n1, r1, b1)) : HeadIs 2 t c R (endB (r1, b1)) { c with flaw := n1 } := by
 have hsp := split_is (l := t) (c := 32) (by omega)
 have q0 := split_len ht
 have g0 : ∀ w ∈ r0, w.length ≤ 1048576 := by rw [← e0]; exact (nx_len q0).2
 have w0 := word_is sFlaw (splitL t 32) false
 have c1 := numberR_is 8 (by decide) r0 b0 (pu8_is (by have := (nx_len (bad := b0) g0).1; omega))
 rw [e0, f0] at w0
 have hlt := nmb_lt (B := 8) (ws := r0) (bad := b0)
 rw [e1] at c1 hlt
 have hw : IntKind.u8.wrap (n1 : Int) = (n1 : Int) := wrap_u8n (by simpa using hlt)
 have ce := isend_is r1 b1
 have d0 : decide ((2 : Int) = 0) = false := rfl
 have d1 : decide ((2 : Int) = 1) = false := rfl
 have d2 : decide ((2 : Int) = 2) = true := rfl
 refine fnIs_of tab_ok Tryz.func47 rfl rfl rfl ?_;refine sR ?_;refine rC ?_;refine nR ?_;refine rC ?_;refine rQ (call_r hsp rfl rfl (arg_e (arg_e arg_nil)) (.inl rfl) (fun _ => rfl)) ?_
 refine rQ iS ?_;refine rN ?_;refine rC ?_;refine nQ ?_;refine sR ?_;refine rC ?_;refine nS ?_;refine wc_block ?_;refine sR ?_;iterate 2 refine rC ?_
 refine nS ?_;refine wG ?_;refine sR ?_;iterate 2 refine rC ?_
 refine nS ?_;refine wG ?_;refine sR ?_;iterate 2 refine rC ?_
 refine nS ?_;refine wV ?_;refine sR ?_;refine rC ?_;refine reg_new2 (call_h [(0, some _)] w0 rfl rfl rfl (arg_ptr rfl rfl (arg_e arg_nil)) ⟨⟨rfl, rfl, _, _, rfl, rfl, .refl _⟩, trivial⟩ rfl rfl (.inl rfl) rfl rfl) rfl ?_
 refine nS ?_;refine wc_region ?_;iterate 2 refine rC ?_
 refine reg_new2 (call_h [(0, some _)] c1 rfl rfl rfl (arg_ptr rfl rfl (arg_e arg_nil)) ⟨⟨rfl, rfl, _, _, rfl, rfl, .refl _⟩, trivial⟩ rfl rfl (.inl rfl) rfl rfl) rfl ?_
 refine rQ (conv_int (m := (n1 : Int)) tab_ok rfl rfl rfl hw) ?_;iterate 2 refine rC ?_
 refine reg_store (store_row tab_ok rfl rfl rfl ⟨_, ⟨_, ⟨_, ⟨_, ⟨rfl, rfl, rfl⟩, rfl⟩, rfl⟩, rfl⟩, rfl⟩ rfl) ?_;refine reg_nil ?_;refine blk_n ?_;refine seq_n ?_
 refine sR ?_;refine rC ?_;refine reg_new2 (call_h [(0, some _)] ce rfl rfl rfl (arg_ptr rfl rfl arg_nil) ⟨⟨rfl, rfl, _, _, rfl, rfl, .refl _⟩, trivial⟩ rfl rfl (.inl rfl) rfl rfl) rfl ?_
 refine rC ?_;refine nS ?_;refine wc_ret ?_
 exact ⟨trivial, [], .of rfl rfl rfl rfl rfl ⟨⟨_, rfl, AVLe.of_eq rfl⟩, rfl, trivial⟩ ⟨⟨rfl, rfl, _, rfl, .refl _⟩, trivial⟩⟩
theorem head_3 (t : List UInt8) (c : SCfg) (R : D) (ht : t.length ≤ 1048576) (r0 r1 : List (List UInt8)) (b0 b1 : Bool) (m : List UInt8) (e0 : (nx (splitL t 32) false).2.1 = r0) (f0 : wd sMaster (splitL t 32) false = b0)
  (e1 : byt r0 b0 = (m, r1, b1)) : if m.length = 32 then HeadIs 3 t c R (endB (r1, b1)) { c with master := m } else HeadIs 3 t c R false c := by
 have hsp := split_is (l := t) (c := 32) (by omega)
 have q0 := split_len ht
 have g0 : ∀ w ∈ r0, w.length ≤ 1048576 := by rw [← e0]; exact (nx_len q0).2
 have w0 := word_is sMaster (splitL t 32) false
 have c1 := bytesR_is r0 b0 g0
 rw [e0, f0] at w0
 rw [e1] at c1
 have ce := isend_is r1 b1
 have d0 : decide ((3 : Int) = 0) = false := rfl
 have d1 : decide ((3 : Int) = 1) = false := rfl
 have d2 : decide ((3 : Int) = 2) = false := rfl
 have d3 : decide ((3 : Int) = 3) = true := rfl
 by_cases hm : m.length = 32
 ·rw [if_pos hm]
  have hl32 : (byI m).length = 32 := by rw [byI_len, hm]
  have hd : (!decide (((byI m).length : Int) = 32)) = false := by rw [hl32]; rfl
  refine fnIs_of tab_ok Tryz.func47 rfl rfl rfl ?_;refine sR ?_;refine rC ?_;refine nR ?_;refine rC ?_;refine rQ (call_r hsp rfl rfl (arg_e (arg_e arg_nil)) (.inl rfl) (fun _ => rfl)) ?_
  refine rQ iS ?_;refine rN ?_;refine rC ?_;refine nQ ?_;refine sR ?_;refine rC ?_;refine nS ?_;refine wc_block ?_;refine sR ?_;iterate 2 refine rC ?_
  refine nS ?_;refine wG ?_;refine sR ?_;iterate 2 refine rC ?_
  refine nS ?_;refine wG ?_;refine sR ?_;iterate 2 refine rC ?_
  refine nS ?_;refine wG ?_;refine sR ?_;iterate 2 refine rC ?_
  refine nS ?_;refine wV ?_;refine sR ?_;refine rC ?_;refine reg_new2 (call_h [(0, some _)] w0 rfl rfl rfl (arg_ptr rfl rfl (arg_e arg_nil)) ⟨⟨rfl, rfl, _, _, rfl, rfl, .refl _⟩, trivial⟩ rfl rfl (.inl rfl) rfl rfl) rfl ?_
  refine nR ?_;refine rC ?_;refine reg_new2 (call_h [(0, some _)] c1 rfl rfl rfl (arg_ptr rfl rfl arg_nil) ⟨⟨rfl, rfl, _, _, rfl, rfl, .refl _⟩, trivial⟩ rfl rfl (.inl rfl) rfl rfl) rfl ?_
  refine rC ?_;refine nQ ?_;refine sR ?_;refine rC ?_;refine rQ iE ?_;refine rC ?_;refine nS ?_;refine wF ?_;refine kS ?_;refine wc_region ?_;iterate 3 refine rC ?_
  refine rQ (slice_ptr tab_ok rfl rfl rfl) ?_;refine rC ?_;refine reg_new (copy_asl (enc := encU8) (s := 1) (ys := byI m) tab_ok rfl rfl rfl rfl rfl rfl rfl hl32 rfl ⟨_, ⟨_, ⟨_, ⟨_, ⟨rfl, rfl, rfl⟩, rfl⟩, rfl⟩, rfl⟩, rfl⟩) rfl ?_
  refine reg_nil ?_;refine blk_n ?_;refine seq_n ?_;refine sR ?_;refine rC ?_;refine reg_new2 (call_h [(0, some _)] ce rfl rfl rfl (arg_ptr rfl rfl arg_nil) ⟨⟨rfl, rfl, _, _, rfl, rfl, .refl _⟩, trivial⟩ rfl rfl (.inl rfl) rfl rfl) rfl ?_
  refine rC ?_;refine nS ?_;refine wc_ret ?_
  exact ⟨trivial, [], .of rfl rfl rfl rfl rfl ⟨⟨_, rfl, AVLe.of_eq rfl⟩, rfl, trivial⟩ ⟨⟨rfl, rfl, _, rfl, .refl _⟩, trivial⟩⟩
 ·rw [if_neg hm]
  have hd : (!decide (((byI m).length : Int) = 32)) = true := by rw [byI_len, dF (by omega)]; rfl
  refine fnIs_of tab_ok Tryz.func47 rfl rfl rfl ?_;refine sR ?_;refine rC ?_;refine nR ?_;refine rC ?_;refine rQ (call_r hsp rfl rfl (arg_e (arg_e arg_nil)) (.inl rfl) (fun _ => rfl)) ?_
  refine rQ iS ?_;refine rN ?_;refine rC ?_;refine nQ ?_;refine sR ?_;refine rC ?_;refine nS ?_;refine wc_block ?_;refine sR ?_;iterate 2 refine rC ?_
  refine nS ?_;refine wG ?_;refine sR ?_;iterate 2 refine rC ?_
  refine nS ?_;refine wG ?_;refine sR ?_;iterate 2 refine rC ?_
  refine nS ?_;refine wG ?_;refine sR ?_;iterate 2 refine rC ?_
  refine nS ?_;refine wV ?_;refine sR ?_;refine rC ?_;refine reg_new2 (call_h [(0, some _)] w0 rfl rfl rfl (arg_ptr rfl rfl (arg_e arg_nil)) ⟨⟨rfl, rfl, _, _, rfl, rfl, .refl _⟩, trivial⟩ rfl rfl (.inl rfl) rfl rfl) rfl ?_
  refine nR ?_;refine rC ?_;refine reg_new2 (call_h [(0, some _)] c1 rfl rfl rfl (arg_ptr rfl rfl arg_nil) ⟨⟨rfl, rfl, _, _, rfl, rfl, .refl _⟩, trivial⟩ rfl rfl (.inl rfl) rfl rfl) rfl ?_
  refine rC ?_;refine nQ ?_;refine sR ?_;refine rC ?_;refine rQ iE ?_;refine rC ?_;refine nS ?_;refine wT ?_;refine sR ?_;refine rC ?_;refine nS ?_;refine wc_ret ?_
  refine seq_r ?_;refine blk_r ?_;refine seq_r ?_
  exact ⟨trivial, [], .of rfl rfl rfl rfl rfl ⟨⟨_, rfl, AVLe.of_eq rfl⟩, rfl, trivial⟩ ⟨⟨rfl, rfl, _, rfl, .refl _⟩, trivial⟩⟩
theorem head_4 (t : List UInt8) (c : SCfg) (R : D) (ht : t.length ≤ 1048576) (r0 : List (List UInt8)) (b0 : Bool) (e0 : (nx (splitL t 32) false).2.1 = r0) (f0 : wd sPrograms (splitL t 32) false = b0) : HeadIs 4 t c R (endB (r0, b0)) c := by
 have hsp := split_is (l := t) (c := 32) (by omega)
 have w0 := word_is sPrograms (splitL t 32) false
 rw [e0, f0] at w0
 have ce := isend_is r0 b0
 have d0 : decide ((4 : Int) = 0) = false := rfl
 have d1 : decide ((4 : Int) = 1) = false := rfl
 have d2 : decide ((4 : Int) = 2) = false := rfl
 have d3 : decide ((4 : Int) = 3) = false := rfl
 refine fnIs_of tab_ok Tryz.func47 rfl rfl rfl ?_;refine sR ?_;refine rC ?_;refine nR ?_;refine rC ?_;refine rQ (call_r hsp rfl rfl (arg_e (arg_e arg_nil)) (.inl rfl) (fun _ => rfl)) ?_
 refine rQ iS ?_;refine rN ?_;refine rC ?_;refine nQ ?_;refine sR ?_;refine rC ?_;refine nS ?_;refine wc_block ?_;refine sR ?_;iterate 2 refine rC ?_
 refine nS ?_;refine wG ?_;refine sR ?_;iterate 2 refine rC ?_
 refine nS ?_;refine wG ?_;refine sR ?_;iterate 2 refine rC ?_
 refine nS ?_;refine wG ?_;refine sR ?_;iterate 2 refine rC ?_
 refine nS ?_;refine wG ?_;refine wc_region ?_;refine rC ?_;refine reg_new2 (call_h [(0, some _)] w0 rfl rfl rfl (arg_ptr rfl rfl (arg_e arg_nil)) ⟨⟨rfl, rfl, _, _, rfl, rfl, .refl _⟩, trivial⟩ rfl rfl (.inl rfl) rfl rfl) rfl ?_
 refine reg_nil ?_;refine blk_n ?_;refine seq_n ?_;refine sR ?_;refine rC ?_;refine reg_new2 (call_h [(0, some _)] ce rfl rfl rfl (arg_ptr rfl rfl arg_nil) ⟨⟨rfl, rfl, _, _, rfl, rfl, .refl _⟩, trivial⟩ rfl rfl (.inl rfl) rfl rfl) rfl ?_
 refine rC ?_;refine nS ?_;refine wc_ret ?_
 exact ⟨trivial, [], .of rfl rfl rfl rfl rfl ⟨⟨_, rfl, AVLe.of_eq rfl⟩, rfl, trivial⟩ ⟨⟨rfl, rfl, _, rfl, .refl _⟩, trivial⟩⟩
end Go.Proofs.YthiijfbcfoifnaaGreatDoor
namespace Go.Proofs.YthiijfbcfoifnaaGreatDoor
open Go.Eng Go.Plain
theorem nmb_fwd {B n : Nat} {r r' : List (List UInt8)} {b : Bool} (h : nmb B r b = (n, r', false)) : ∃ w, r = w :: r' ∧ b = false ∧ numS B w = some n := by
 cases r with
 | nil => rw [nmb_nil] at h; cases h
 | cons w r =>
  cases hn : numS B w with
  | none => rw [nmb_none hn] at h; cases h
  | some k => rw [nmb_some hn] at h; cases h; exact ⟨w, rfl, rfl, hn⟩
theorem byt_fwd {m : List UInt8} {r r' : List (List UInt8)} {b : Bool} (h : byt r b = (m, r', false)) : ∃ w, r = w :: r' ∧ b = false ∧ unhexP w = some m := by
 cases r with
 | nil => cases h
 | cons w r =>
  cases hn : unhexP w with
  | none => simp only [byt, nx, hn] at h; cases h
  | some k => simp only [byt, nx, hn] at h; cases h; exact ⟨w, rfl, rfl, hn⟩
theorem byt_some {m w : List UInt8} {r : List (List UInt8)} {b : Bool} (h : unhexP w = some m) : byt (w :: r) b = (m, r, b) := by simp only [byt, nx, h]
theorem wd_fwd {v : List UInt8} {ws r : List (List UInt8)} (h : (nx ws false).2.1 = r) (hb : wd v ws false = false) : ws = v :: r := by
 cases ws with
 | nil => simp [wd, nx] at hb
 | cons w r' =>
  have h : r' = r := h
  have hb : (if w = v then false else true) = false := hb
  by_cases e : w = v
  ·rw [e, h]
  ·rw [if_neg e] at hb; cases hb
theorem wd_self (v : List UInt8) (r : List (List UInt8)) : wd v (v :: r) false = false := by show (if v = v then false else true) = false; rw [if_pos rfl]
theorem endB_true {r : List (List UInt8)} {b : Bool} (h : endB (r, b) = true) : r = [] ∧ b = false := by
 cases b with
 | true => cases h
 | false => exact ⟨by simpa [endB] using h, rfl⟩
theorem head_is (i : Nat) (hi : i < 5) (t : List UInt8) (c : SCfg) (R : D) (ht : t.length ≤ 1048576) : ∃ res c', HeadIs i t c R res c' ∧ headS i t c = if res = true then some c' else none := by
 have key : ∀ (res : Bool) (c' : SCfg), HeadIs i t c R res c' → (res = true → headS i t c = some c') → (∀ d, headS i t c = some d → res = true) → ∃ res c', HeadIs i t c R res c' ∧ headS i t c = if res = true then some c' else none := by
  intro res c' h1 h2 h3
  refine ⟨res, c', h1, ?_⟩
  cases res with
  | true => rw [if_pos rfl]; exact h2 rfl
  | false =>
   rw [if_neg (by decide)]
   cases hq : headS i t c with
   | none => rfl
   | some d => have := h3 d hq; cases this
 match i, hi, key with
 | 0, _, key =>
  obtain ⟨⟨n1, r1, b1⟩, e1⟩ : ∃ x, nmb 31 (nx (splitL t 32) false).2.1 (wd sVolume (splitL t 32) false) = x := ⟨_, rfl⟩
  obtain ⟨⟨n2, r2, b2⟩, e2⟩ : ∃ x, nmb 31 r1 b1 = x := ⟨_, rfl⟩
  obtain ⟨⟨n3, r3, b3⟩, e3⟩ : ∃ x, nmb 31 r2 b2 = x := ⟨_, rfl⟩
  obtain ⟨⟨n4, r4, b4⟩, e4⟩ : ∃ x, nmb 31 r3 b3 = x := ⟨_, rfl⟩
  refine key _ _ (head_0 t c R ht _ r1 r2 r3 r4 _ b1 b2 b3 b4 n1 n2 n3 n4 rfl rfl e1 e2 e3 e4) (fun h => ?_) (fun d h => ?_)
  ·obtain ⟨rfl, rfl⟩ := endB_true h
   obtain ⟨w4, rfl, rfl, h4⟩ := nmb_fwd e4
   obtain ⟨w3, rfl, rfl, h3⟩ := nmb_fwd e3
   obtain ⟨w2, rfl, rfl, h2⟩ := nmb_fwd e2
   obtain ⟨w1, hr, hb, h1⟩ := nmb_fwd e1
   have hs := wd_fwd hr hb
   rw [headS0, hs]
   simp only [hd0, if_pos, h1, h2, h3, h4]
  ·rw [headS0] at h
   unfold hd0 at h
   split at h
   ·rename_i v x1 x2 x3 x4 hs
    split at h
    ·rename_i hv
     split at h
     ·rename_i m1 m2 m3 m4 g1 g2 g3 g4
      rw [hs, hv, wd_self] at e1
      rw [show (nx (sVolume :: [x1, x2, x3, x4]) false).2.1 = [x1, x2, x3, x4] from rfl, nmb_some g1] at e1
      cases e1
      rw [nmb_some g2] at e2
      cases e2
      rw [nmb_some g3] at e3
      cases e3
      rw [nmb_some g4] at e4
      cases e4
      rfl
     ·cases h
    ·cases h
   ·cases h
 | 1, _, key =>
  obtain ⟨⟨n1, r1, b1⟩, e1⟩ : ∃ x, nmb 64 (nx (splitL t 32) false).2.1 (wd sNonces (splitL t 32) false) = x := ⟨_, rfl⟩
  obtain ⟨⟨n2, r2, b2⟩, e2⟩ : ∃ x, nmb 64 r1 b1 = x := ⟨_, rfl⟩
  refine key _ _ (head_1 t c R ht _ r1 r2 _ b1 b2 n1 n2 rfl rfl e1 e2) (fun h => ?_) (fun d h => ?_)
  ·obtain ⟨rfl, rfl⟩ := endB_true h
   obtain ⟨w2, rfl, rfl, h2⟩ := nmb_fwd e2
   obtain ⟨w1, hr, hb, h1⟩ := nmb_fwd e1
   have hs := wd_fwd hr hb
   rw [headS1, hs]
   simp only [hd1, if_pos, h1, h2]
  ·rw [headS1] at h
   unfold hd1 at h
   split at h
   ·rename_i v x1 x2 hs
    split at h
    ·rename_i hv
     split at h
     ·rename_i m1 m2 g1 g2
      rw [hs, hv, wd_self] at e1
      rw [show (nx (sNonces :: [x1, x2]) false).2.1 = [x1, x2] from rfl, nmb_some g1] at e1
      cases e1
      rw [nmb_some g2] at e2
      cases e2
      rfl
     ·cases h
    ·cases h
   ·cases h
 | 2, _, key =>
  obtain ⟨⟨n1, r1, b1⟩, e1⟩ : ∃ x, nmb 8 (nx (splitL t 32) false).2.1 (wd sFlaw (splitL t 32) false) = x := ⟨_, rfl⟩
  refine key _ _ (head_2 t c R ht _ r1 _ b1 n1 rfl rfl e1) (fun h => ?_) (fun d h => ?_)
  ·obtain ⟨rfl, rfl⟩ := endB_true h
   obtain ⟨w1, hr, hb, h1⟩ := nmb_fwd e1
   have hs := wd_fwd hr hb
   rw [headS2, hs]
   simp only [hd2, if_pos, h1]
  ·rw [headS2] at h
   unfold hd2 at h
   split at h
   ·rename_i v x1 hs
    split at h
    ·rename_i hv
     split at h
     ·rename_i m1 g1
      rw [hs, hv, wd_self] at e1
      rw [show (nx (sFlaw :: [x1]) false).2.1 = [x1] from rfl, nmb_some g1] at e1
      cases e1
      rfl
     ·cases h
    ·cases h
   ·cases h
 | 3, _, key =>
  obtain ⟨⟨m, r1, b1⟩, e1⟩ : ∃ x, byt (nx (splitL t 32) false).2.1 (wd sMaster (splitL t 32) false) = x := ⟨_, rfl⟩
  have hh := head_3 t c R ht _ r1 _ b1 m rfl rfl e1
  by_cases hm : m.length = 32
  ·rw [if_pos hm] at hh
   refine key _ _ hh (fun h => ?_) (fun d h => ?_)
   ·obtain ⟨rfl, rfl⟩ := endB_true h
    obtain ⟨w1, hr, hb, h1⟩ := byt_fwd e1
    have hs := wd_fwd hr hb
    rw [headS3, hs]
    simp only [hd3, if_pos, h1, hm]
   ·rw [headS3] at h
    unfold hd3 at h
    split at h
    ·rename_i v x1 hs
     split at h
     ·rename_i hv
      split at h
      ·rename_i m1 g1
       rw [hs, hv, wd_self] at e1
       rw [show (nx (sMaster :: [x1]) false).2.1 = [x1] from rfl, byt_some g1] at e1
       cases e1
       rfl
      ·cases h
     ·cases h
    ·cases h
  ·rw [if_neg hm] at hh
   refine key _ _ hh (fun h => by cases h) (fun d h => ?_)
   rw [headS3] at h
   unfold hd3 at h
   split at h
   ·rename_i v x1 hs
    split at h
    ·rename_i hv
     split at h
     ·rename_i m1 g1
      rw [hs, hv, wd_self] at e1
      rw [show (nx (sMaster :: [x1]) false).2.1 = [x1] from rfl, byt_some g1] at e1
      cases e1
      rw [if_neg hm] at h
      cases h
     ·cases h
    ·cases h
   ·cases h
 | 4, _, key =>
  refine key _ _ (head_4 t c R ht _ _ rfl rfl) (fun h => ?_) (fun d h => ?_)
  ·obtain ⟨hr, hb⟩ := endB_true h
   have hs := wd_fwd hr hb
   rw [headS4, hs]
   simp only [hd4, if_pos]
  ·rw [headS4] at h
   unfold hd4 at h
   split at h
   ·rename_i v hs
    split at h
    ·rename_i hv
     rw [hs, hv, wd_self]
     rfl
    ·cases h
   ·cases h
end Go.Proofs.YthiijfbcfoifnaaGreatDoor
namespace Go.Proofs.YthiijfbcfoifnaaGreatDoor
open Go.Eng Go.Plain
set_option maxHeartbeats 4000000
set_option maxRecDepth 20000
attribute [local irreducible] WC RegS RegD SeqQ BlkQ ScoQ RegK CutK Sat SatN FnIs LoopQ StepIs OpIs
abbrev KindIs (f : Nat) (ws : List (List UInt8)) (bad : Bool) (a : SAct) (x : List (List UInt8) × Bool) : Prop := FnIs Tryz.prog f [.ptr 0 []] [(0, rdB ws bad)] (.d (encAct a)) [(0, rdB x.1 x.2)]
theorem act_le (k t s b : Int) : AVLe (.d (.cons (u8s k) (.cons (i6 t) (.cons (i6 s) (.cons (.sc nil_) (.cons (i6 b) .nil)))))) (.d (encAct ⟨k, t, s, [], b⟩)) := AVLe.d (act_dle k t s b) rfl
theorem kind1_is (ws : List (List UInt8)) (bad : Bool) (hl : ∀ w ∈ ws, w.length ≤ 1048576) : KindIs 122 ws bad ⟨1, (nmb 31 ws bad).1, 0, [], 0⟩ (nmb 31 ws bad).2 := by
 have hc := count_isR ws bad hl
 refine fnIs_of tab_ok Tryz.func122 rfl rfl rfl ?_;refine sR ?_;refine rN ?_;refine nR ?_;refine rC ?_;refine reg_new2 (call_h [(0, some _)] hc rfl rfl rfl (arg_ptr rfl rfl arg_nil) ⟨⟨rfl, rfl, _, _, rfl, rfl, .refl _⟩, trivial⟩ rfl rfl (.inl rfl) rfl rfl) rfl ?_
 refine rQ iS ?_;refine rW ?_;refine nS ?_;refine wc_ret ?_
 exact ⟨trivial, _, rfl, [], .of rfl rfl rfl rfl rfl ⟨⟨_, rfl, act_le _ _ _ _⟩, rfl, trivial⟩ ⟨⟨rfl, rfl, _, rfl, .refl _⟩, trivial⟩⟩
theorem kind3_is (ws : List (List UInt8)) (bad : Bool) (hl : ∀ w ∈ ws, w.length ≤ 1048576) : KindIs 124 ws bad ⟨3, 0, (nmb 31 ws bad).1, [], 0⟩ (nmb 31 ws bad).2 := by
 have hc := count_isR ws bad hl
 refine fnIs_of tab_ok Tryz.func124 rfl rfl rfl ?_;refine sR ?_;refine rN ?_;refine nR ?_;refine rC ?_;refine reg_new2 (call_h [(0, some _)] hc rfl rfl rfl (arg_ptr rfl rfl arg_nil) ⟨⟨rfl, rfl, _, _, rfl, rfl, .refl _⟩, trivial⟩ rfl rfl (.inl rfl) rfl rfl) rfl ?_
 refine rQ iS ?_;refine rW ?_;refine nS ?_;refine wc_ret ?_
 exact ⟨trivial, _, rfl, [], .of rfl rfl rfl rfl rfl ⟨⟨_, rfl, act_le _ _ _ _⟩, rfl, trivial⟩ ⟨⟨rfl, rfl, _, rfl, .refl _⟩, trivial⟩⟩
theorem kind5_is (ws : List (List UInt8)) (bad : Bool) : KindIs 126 ws bad ⟨5, 0, 0, [], 0⟩ (ws, bad) := by
 refine fnIs_of tab_ok Tryz.func126 rfl rfl rfl ?_;refine sR ?_;refine rN ?_;refine nR ?_;refine rQ iS ?_;refine rW ?_;refine nS ?_;refine wc_ret ?_
 exact ⟨trivial, _, rfl, [], .of rfl rfl rfl rfl rfl ⟨⟨_, rfl, act_le _ _ _ _⟩, rfl, trivial⟩ ⟨⟨rfl, rfl, _, rfl, .refl _⟩, trivial⟩⟩
theorem kind2_is (ws : List (List UInt8)) (bad : Bool) (hl : ∀ w ∈ ws, w.length ≤ 1048576) : KindIs 123 ws bad ⟨2, 0, (nmb 31 ws bad).1, (byt (nmb 31 ws bad).2.1 (nmb 31 ws bad).2.2).1, 0⟩ (byt (nmb 31 ws bad).2.1 (nmb 31 ws bad).2.2).2 := by
 have hc := count_isR ws bad hl
 have hb := bytesR_is (nmb 31 ws bad).2.1 (nmb 31 ws bad).2.2 (nmb_len hl)
 refine fnIs_of tab_ok Tryz.func123 rfl rfl rfl ?_;refine sR ?_;refine rN ?_;refine nR ?_;refine rC ?_;refine reg_new2 (call_h [(0, some _)] hc rfl rfl rfl (arg_ptr rfl rfl arg_nil) ⟨⟨rfl, rfl, _, _, rfl, rfl, .refl _⟩, trivial⟩ rfl rfl (.inl rfl) rfl rfl) rfl ?_
 refine rQ iS ?_;refine rN ?_;refine rW ?_;refine nR ?_;refine rC ?_;refine reg_new2 (call_h [(0, some _)] hb rfl rfl rfl (arg_ptr rfl rfl arg_nil) ⟨⟨rfl, rfl, _, _, rfl, rfl, .refl _⟩, trivial⟩ rfl rfl (.inl rfl) rfl rfl) rfl ?_
 refine rC ?_;refine rX ?_;refine nR ?_;refine rQ iM ?_;refine rW ?_;refine nS ?_;refine wc_ret ?_
 exact ⟨trivial, _, rfl, [], .of rfl rfl rfl rfl rfl ⟨⟨_, rfl, AVLe.of_eq rfl⟩, rfl, trivial⟩ ⟨⟨rfl, rfl, _, rfl, .refl _⟩, trivial⟩⟩
theorem kind4_is (ws : List (List UInt8)) (bad : Bool) (hl : ∀ w ∈ ws, w.length ≤ 1048576) : KindIs 125 ws bad ⟨4, 0, (nmb 31 ws bad).1, [], (nmb 31 (nmb 31 ws bad).2.1 (nmb 31 ws bad).2.2).1⟩ (nmb 31 (nmb 31 ws bad).2.1 (nmb 31 ws bad).2.2).2 := by
 have hc := count_isR ws bad hl
 have hb := count_isR (nmb 31 ws bad).2.1 (nmb 31 ws bad).2.2 (nmb_len hl)
 refine fnIs_of tab_ok Tryz.func125 rfl rfl rfl ?_;refine sR ?_;refine rN ?_;refine nR ?_;refine rC ?_;refine reg_new2 (call_h [(0, some _)] hc rfl rfl rfl (arg_ptr rfl rfl arg_nil) ⟨⟨rfl, rfl, _, _, rfl, rfl, .refl _⟩, trivial⟩ rfl rfl (.inl rfl) rfl rfl) rfl ?_
 refine rQ iS ?_;refine rN ?_;refine rW ?_;refine nR ?_;refine rC ?_;refine reg_new2 (call_h [(0, some _)] hb rfl rfl rfl (arg_ptr rfl rfl arg_nil) ⟨⟨rfl, rfl, _, _, rfl, rfl, .refl _⟩, trivial⟩ rfl rfl (.inl rfl) rfl rfl) rfl ?_
 refine rC ?_;refine rX ?_;refine nR ?_;refine rQ iM ?_;refine rW ?_;refine nS ?_;refine wc_ret ?_
 exact ⟨trivial, _, rfl, [], .of rfl rfl rfl rfl rfl ⟨⟨_, rfl, act_le _ _ _ _⟩, rfl, trivial⟩ ⟨⟨rfl, rfl, _, rfl, .refl _⟩, trivial⟩⟩
def kindL : List (List UInt8 × AV) := [(sPick, fnA 122), (sEdit, fnA 123), (sErase, fnA 124), (sReplay, fnA 125), (sFall, fnA 126)]
theorem fnk_zero : ZeroIs Tryz.prog 153 (.sc .nilFunc) := zero_of (by kernel_rfl) rfl
theorem kinds_none (w : List UInt8) (hf : findC w kindL 0 = none) : FnIs Tryz.prog 88 [.d (strD w)] [] (.tup (.acons (.d (.sc .nilFunc)) (.acons (.bool false) .anil))) [] := by
 refine fnIs_of tab_ok Tryz.func88 rfl rfl rfl ?_;refine sR ?_;iterate 2 refine rC ?_
 refine nR ?_;refine reg_new (make_map) rfl ?_;refine reg_do rfl (insert_new (κ := List UInt8) (enc := strD) (l := kindL.take 0) (k := sPick) key_str Tryz.underlying182 rfl rfl rfl rfl rfl) rfl rfl ?_
 refine reg_do rfl (insert_new (κ := List UInt8) (enc := strD) (l := kindL.take 1) (k := sEdit) key_str Tryz.underlying182 rfl rfl rfl rfl rfl) rfl rfl ?_;refine reg_do rfl (insert_new (κ := List UInt8) (enc := strD) (l := kindL.take 2) (k := sErase) key_str Tryz.underlying182 rfl rfl rfl rfl rfl) rfl rfl ?_
 refine reg_do rfl (insert_new (κ := List UInt8) (enc := strD) (l := kindL.take 3) (k := sReplay) key_str Tryz.underlying182 rfl rfl rfl rfl rfl) rfl rfl ?_;refine reg_do rfl (insert_new (κ := List UInt8) (enc := strD) (l := kindL.take 4) (k := sFall) key_str Tryz.underlying182 rfl rfl rfl rfl rfl) rfl rfl ?_
 iterate 2 refine rC ?_
 refine rQ (lookup2_none (κ := List UInt8) (enc := strD) (l := kindL) (k := w) key_str Tryz.underlying182 fnk_zero rfl rfl rfl hf) ?_;iterate 5 refine rC ?_
 refine nR ?_;iterate 4 refine rC ?_
 refine nS ?_;refine wc_ret ?_
 exact ⟨trivial, [], lf⟩
theorem kinds_some (w : List UInt8) (j f : Nat) (hf : findC w kindL 0 = some (j, fnA f)) : FnIs Tryz.prog 88 [.d (strD w)] [] (.tup (.acons (fnA f) (.acons (.bool true) .anil))) [] := by
 refine fnIs_of tab_ok Tryz.func88 rfl rfl rfl ?_;refine sR ?_;iterate 2 refine rC ?_
 refine nR ?_;refine reg_new (make_map) rfl ?_;refine reg_do rfl (insert_new (κ := List UInt8) (enc := strD) (l := kindL.take 0) (k := sPick) key_str Tryz.underlying182 rfl rfl rfl rfl rfl) rfl rfl ?_
 refine reg_do rfl (insert_new (κ := List UInt8) (enc := strD) (l := kindL.take 1) (k := sEdit) key_str Tryz.underlying182 rfl rfl rfl rfl rfl) rfl rfl ?_;refine reg_do rfl (insert_new (κ := List UInt8) (enc := strD) (l := kindL.take 2) (k := sErase) key_str Tryz.underlying182 rfl rfl rfl rfl rfl) rfl rfl ?_
 refine reg_do rfl (insert_new (κ := List UInt8) (enc := strD) (l := kindL.take 3) (k := sReplay) key_str Tryz.underlying182 rfl rfl rfl rfl rfl) rfl rfl ?_;refine reg_do rfl (insert_new (κ := List UInt8) (enc := strD) (l := kindL.take 4) (k := sFall) key_str Tryz.underlying182 rfl rfl rfl rfl rfl) rfl rfl ?_
 iterate 2 refine rC ?_
 refine rQ (lookup2_some (κ := List UInt8) (enc := strD) (l := kindL) (k := w) key_str Tryz.underlying182 rfl rfl rfl hf) ?_;iterate 5 refine rC ?_
 refine nR ?_;iterate 4 refine rC ?_
 refine nS ?_;refine wc_ret ?_
 exact ⟨trivial, [], lf⟩
abbrev ActIs (t : List UInt8) (a : SAct) (res : Bool) : Prop := FnIs Tryz.prog 49 [.d (strD t)] [] (.tup (.acons (.d (encAct a)) (.acons (.bool res) .anil))) []
theorem action_none (t : List UInt8) (ht : t.length ≤ 1048576) (hf : findC (nx (splitL t 32) false).1 kindL 0 = none) : ActIs t ⟨0, 0, 0, [], 0⟩ false := by
 have hsp := split_is (l := t) (c := 32) (by omega)
 have hn := next_is (splitL t 32) false
 have hk := kinds_none _ hf
 refine fnIs_of tab_ok Tryz.func49 rfl rfl rfl ?_;refine sR ?_;refine rN ?_;refine rC ?_;refine nR ?_;refine rC ?_;refine rQ (call_r hsp rfl rfl (arg_e (arg_e arg_nil)) (.inl rfl) (fun _ => rfl)) ?_
 refine rQ iS ?_;refine rN ?_;refine rC ?_;refine nR ?_;refine rC ?_;refine reg_new2 (call_h [(0, some _)] hn rfl rfl rfl (arg_ptr rfl rfl arg_nil) ⟨⟨rfl, rfl, _, _, rfl, rfl, .refl _⟩, trivial⟩ rfl rfl (.inl rfl) rfl rfl) rfl ?_
 refine rQ (call_r hk rfl rfl (arg_e arg_nil) (.inl rfl) (fun _ => rfl)) ?_;iterate 5 refine rC ?_
 refine nQ ?_;refine sR ?_;iterate 2 refine rC ?_
 refine nS ?_;refine wV ?_;refine sR ?_;refine rQ iS ?_;refine rW ?_;refine rC ?_;refine nS ?_;refine wc_ret ?_;refine seq_r ?_
 exact ⟨trivial, _, rfl, [], .of rfl rfl rfl rfl rfl ⟨⟨_, rfl, AVLe.tup1 (act_le _ _ _ _) rfl⟩, rfl, trivial⟩ trivial⟩
theorem action_some (t : List UInt8) (ht : t.length ≤ 1048576) (j f : Nat) (hf : findC (nx (splitL t 32) false).1 kindL 0 = some (j, fnA f)) (a : SAct) (x : List (List UInt8) × Bool) (hcall : KindIs f (nx (splitL t 32) false).2.1 (nx (splitL t 32) false).2.2 a x) : ActIs t a (endB x) := by
 have hsp := split_is (l := t) (c := 32) (by omega)
 have hn := next_is (splitL t 32) false
 have hk := kinds_some _ j f hf
 have he := isend_is x.1 x.2
 unfold KindIs at hcall
 refine fnIs_of tab_ok Tryz.func49 rfl rfl rfl ?_;refine sR ?_;refine rN ?_;refine rC ?_;refine nR ?_;refine rC ?_;refine rQ (call_r hsp rfl rfl (arg_e (arg_e arg_nil)) (.inl rfl) (fun _ => rfl)) ?_
 refine rQ iS ?_;refine rN ?_;refine rC ?_;refine nR ?_;refine rC ?_;refine reg_new2 (call_h [(0, some _)] hn rfl rfl rfl (arg_ptr rfl rfl arg_nil) ⟨⟨rfl, rfl, _, _, rfl, rfl, .refl _⟩, trivial⟩ rfl rfl (.inl rfl) rfl rfl) rfl ?_
 refine rQ (call_r hk rfl rfl (arg_e arg_nil) (.inl rfl) (fun _ => rfl)) ?_;iterate 5 refine rC ?_
 refine nQ ?_;refine sR ?_;iterate 2 refine rC ?_
 refine nS ?_;refine wG ?_;refine kS ?_;refine sR ?_;iterate 2 refine rC ?_
 refine reg_new2 (call_h [(0, some _)] hcall rfl rfl rfl (arg_ptr rfl rfl arg_nil) ⟨⟨rfl, rfl, _, _, rfl, rfl, .refl _⟩, trivial⟩ rfl rfl (.inl rfl) rfl rfl) rfl ?_
 refine rN ?_;refine rW ?_;refine nQ ?_;refine wc_draw (by kernel_rfl) ?_;refine dQ [7] [224] iM ?_;refine dC [4] [] ?_;refine dreg_w2 [25] [104] rfl (call_h [(0, some _)] he rfl rfl rfl (arg_ptr rfl rfl arg_nil) ⟨⟨rfl, rfl, _, _, rfl, rfl, .refl _⟩, trivial⟩ rfl rfl (.inl rfl) rfl rfl) ?_
 refine dreg_s [2, 24] [64] (store_row tab_ok rfl rfl rfl ⟨_, ⟨rfl, rfl, rfl⟩, rfl⟩ rfl) ?_;refine dC [26] [] ?_;refine dreg_end (by kernel_rfl) ?_;refine seq_n ?_
 refine wc_ret ?_
 exact ⟨trivial, _, rfl, [], lf⟩
end Go.Proofs.YthiijfbcfoifnaaGreatDoor
namespace Go.Proofs.YthiijfbcfoifnaaGreatDoor
open Go.Eng Go.Plain
set_option maxHeartbeats 8000000
set_option maxRecDepth 20000
attribute [local irreducible] WC RegS RegD SeqQ BlkQ ScoQ RegK CutK Sat SatN FnIs LoopQ StepIs OpIs
structure XA where
 k : UInt8
 a : UInt8
 b : UInt8
 bytes : List UInt8
def encXA (x : XA) : D := .cons (u8s x.k.toNat) (.cons (u8s x.a.toNat) (.cons (u8s x.b.toNat) (.cons (encB x.bytes) .nil)))
def aOf (x : XA) (y : CX) : SAct :=
 if x.k.toNat % 8 = 4 then ⟨2, 0, (x.a.toNat % sectN y.blocks : Nat), x.bytes.take 200, 0⟩
 else if x.k.toNat % 8 = 5 then ⟨3, 0, (x.a.toNat % sectN y.blocks : Nat), [], 0⟩
 else if x.k.toNat % 8 = 6 then ⟨4, 0, (x.a.toNat % sectN y.blocks : Nat), [], (x.b.toNat % 4 : Nat)⟩
 else if x.k.toNat % 8 = 7 then ⟨5, 0, 0, [], 0⟩
 else ⟨1, (x.a.toNat % (y.clients + y.shards) : Nat), 0, [], 0⟩
theorem aof_is (x : XA) (y : CX) : FnIs Tryz.prog 25 [.d (encXA x), .d (encCfg (cfgOf y))] [] (.d (encAct (aOf x y))) [] := by
 obtain ⟨a1, a2, a3, a4, a5, a6, a7, a8, a9, a10⟩ := cx_small y
 have hs := sect_pos (n := y.blocks) (by omega) (by omega)
 rw [Int.toNat_natCast] at hs
 obtain ⟨s1, s2⟩ := hs
 have hse := rsect34_is y.blocks a1 (by omega)
 have ha8 : x.a.toNat < 256 := x.a.toNat_lt
 have hw9 : IntKind.i64.wrap (x.a.toNat : Int) = (x.a.toNat : Int) := wrap_i64 (by omega) (by omega)
 have hw43 : IntKind.i64.wrap ((x.b.toNat % 4 : Nat) : Int) = ((x.b.toNat % 4 : Nat) : Int) := wrap_i64 (by omega) (by omega)
 have hw55 : IntKind.i64.wrap ((y.clients : Int) + (y.shards : Int)) = ((y.clients + y.shards : Nat) : Int) := by rw [show (y.clients : Int) + (y.shards : Int) = ((y.clients + y.shards : Nat) : Int) by omega]; exact wrap_i64 (by omega) (by omega)
 refine fnIs_of tab_ok Tryz.func25 rfl rfl rfl ?_
 by_cases k4 : x.k.toNat % 8 = 4
 ·have d4 : decide (((x.k.toNat % 8 : Nat) : Int) = 4) = true := dT (by omega)
  rw [show aOf x y = ⟨2, 0, (x.a.toNat % sectN y.blocks : Nat), x.bytes.take 200, 0⟩ from if_pos k4]
  have hbl : (byI x.bytes).length = x.bytes.length := byI_len x.bytes
  obtain ⟨q, hq⟩ : ∃ q, min 200 x.bytes.length = q := ⟨_, rfl⟩
  have hmin : min (200 : Int) ((byI x.bytes).length : Int) = (q : Int) := by omega
  have hql : (q : Int) ≤ ((byI x.bytes).length : Int) := by omega
  have htq : x.bytes.take 200 = x.bytes.take q := by
   rw [← hq]
   rcases Nat.le_total 200 x.bytes.length with h | h
   ·rw [Nat.min_eq_left h]
   ·rw [Nat.min_eq_right h, List.take_length, List.take_of_length_le h]
  have htk : (byI x.bytes).take ((q : Int)).toNat = byI (x.bytes.take q) := by rw [Int.toNat_natCast, byI, byI, List.map_take]
  by_cases hz : x.bytes = []
  ·obtain rfl : 0 = q := by rw [← hq, hz]; rfl
   rw [show x.bytes.take 200 = [] by rw [hz]; rfl]
   refine sR ?_;iterate 3 refine rN ?_
   refine nQ ?_;refine wc_draw (by kernel_rfl) ?_;refine dC [2] [] ?_;refine dQ [7] [64] iB ?_;refine dQ [8] [] (conv_int (m := (x.a.toNat : Int)) tab_ok rfl rfl rfl hw9) ?_
   refine dC [3] [] ?_;refine dQ [10] [72] iB ?_;refine dQ [11] [] (call_r hse rfl rfl (arg_e arg_nil) (.inl rfl) (fun _ => rfl)) ?_;refine dQ [9, 12] [] (rem_nat (a := x.a.toNat) (b := sectN y.blocks) tab_ok rfl rfl rfl (by omega)) ?_
   refine dC [13] [] ?_;refine dreg_end (by kernel_rfl) ?_;refine seq_n ?_;refine qR ?_;refine rC ?_;refine rQ iB ?_;refine rQ (rem_nat (a := x.k.toNat) (b := 8) tab_ok rfl rfl rfl (by decide)) ?_
   refine nS ?_;refine wc_block ?_;refine sR ?_;iterate 2 refine rC ?_
   refine nS ?_;refine wT ?_;refine sR ?_;refine rC ?_;refine rQ iS ?_;refine rN ?_;refine rW ?_;refine nQ ?_;refine wc_draw (by kernel_rfl) ?_;refine dC [6] [] ?_
   refine dQ [21] [208] iB ?_;refine dC [2] [] ?_;refine dQ [23] [64] iB ?_;refine dC [2] [] ?_;refine dQ [25] [64] iB ?_;refine dQ [26] [] iE ?_;refine dQ [27] [] (min_int (m := ((0 : Nat) : Int)) rfl rfl hmin) ?_
   refine dQ [24, 28] [] (slice_to (m := ((0 : Nat) : Int)) tab_ok rfl rfl rfl rfl (by omega) hql) ?_;refine dQ [22, 29] [] (append_n_e tab_ok rfl rfl rfl rfl) ?_;refine dC [6] [] ?_
   refine dreg_s [31, 30] [208] (store_row tab_ok rfl rfl rfl ⟨_, ⟨_, ⟨_, ⟨rfl, rfl, rfl⟩, rfl⟩, rfl⟩, rfl⟩ rfl) ?_;refine dreg_end (by kernel_rfl) ?_;refine seq_n ?_
   refine sR ?_;refine rQ iM ?_;refine rW ?_;refine nS ?_;refine wc_ret ?_;refine blk_r ?_;refine seq_r ?_
   exact ⟨trivial, _, rfl, [], .of rfl rfl rfl rfl rfl ⟨⟨_, rfl, act_le _ _ _ _⟩, rfl, trivial⟩ trivial⟩
  ·have hbp : 0 < x.bytes.length := List.length_pos_iff.2 hz
   have hpos : 0 < ((byI x.bytes).take ((q : Int)).toNat).length := by rw [Int.toNat_natCast, List.length_take]; omega
   have hbig : ((byI x.bytes).take ((q : Int)).toNat).length ≤ 1048576 := by rw [Int.toNat_natCast, List.length_take]; omega
   rw [htq]
   refine sR ?_;iterate 3 refine rN ?_
   refine nQ ?_;refine wc_draw (by kernel_rfl) ?_;refine dC [2] [] ?_;refine dQ [7] [64] iB ?_;refine dQ [8] [] (conv_int (m := (x.a.toNat : Int)) tab_ok rfl rfl rfl hw9) ?_
   refine dC [3] [] ?_;refine dQ [10] [72] iB ?_;refine dQ [11] [] (call_r hse rfl rfl (arg_e arg_nil) (.inl rfl) (fun _ => rfl)) ?_;refine dQ [9, 12] [] (rem_nat (a := x.a.toNat) (b := sectN y.blocks) tab_ok rfl rfl rfl (by omega)) ?_
   refine dC [13] [] ?_;refine dreg_end (by kernel_rfl) ?_;refine seq_n ?_;refine qR ?_;refine rC ?_;refine rQ iB ?_;refine rQ (rem_nat (a := x.k.toNat) (b := 8) tab_ok rfl rfl rfl (by decide)) ?_
   refine nS ?_;refine wc_block ?_;refine sR ?_;iterate 2 refine rC ?_
   refine nS ?_;refine wT ?_;refine sR ?_;refine rC ?_;refine rQ iS ?_;refine rN ?_;refine rW ?_;refine nQ ?_;refine wc_draw (by kernel_rfl) ?_;refine dC [6] [] ?_
   refine dQ [21] [208] iB ?_;refine dC [2] [] ?_;refine dQ [23] [64] iB ?_;refine dC [2] [] ?_;refine dQ [25] [64] iB ?_;refine dQ [26] [] iE ?_;refine dQ [27] [] (min_int (m := ((q : Nat) : Int)) rfl rfl hmin) ?_
   refine dQ [24, 28] [] (slice_to (m := (q : Int)) tab_ok rfl rfl rfl rfl (by omega) hql) ?_;refine dQ [22, 29] [] (StepIs.frozen (append_empty_arr (s := 1) (enc := encU8) (ys := (byI x.bytes).take ((q : Int)).toNat) tab_ok rfl rfl rfl rfl rfl (.inr rfl) rfl hpos hbig rfl) (Frz.own rfl)) ?_
   refine dC [6] [] ?_;refine dreg_s [31, 30] [208] (store_row tab_ok rfl rfl rfl ⟨_, ⟨_, ⟨_, ⟨rfl, rfl, rfl⟩, rfl⟩, rfl⟩, rfl⟩ rfl) ?_;refine dreg_end (by kernel_rfl) ?_
   refine seq_n ?_;refine sR ?_;refine rQ iM ?_;refine rW ?_;refine nS ?_;refine wc_ret ?_;refine blk_r ?_;refine seq_r ?_
   exact ⟨trivial, _, rfl, [], .of rfl rfl rfl rfl rfl ⟨⟨_, rfl, AVLe.of_eq (by rw [htk]; rfl)⟩, rfl, trivial⟩ trivial⟩
 have d4 : decide (((x.k.toNat % 8 : Nat) : Int) = 4) = false := dF (by omega)
 by_cases k5 : x.k.toNat % 8 = 5
 ·have d5 : decide (((x.k.toNat % 8 : Nat) : Int) = 5) = true := dT (by omega)
  rw [show aOf x y = ⟨3, 0, (x.a.toNat % sectN y.blocks : Nat), [], 0⟩ by rw [aOf, if_neg k4, if_pos k5]]
  refine sR ?_;iterate 3 refine rN ?_
  refine nQ ?_;refine wc_draw (by kernel_rfl) ?_;refine dC [2] [] ?_;refine dQ [7] [64] iB ?_;refine dQ [8] [] (conv_int (m := (x.a.toNat : Int)) tab_ok rfl rfl rfl hw9) ?_
  refine dC [3] [] ?_;refine dQ [10] [72] iB ?_;refine dQ [11] [] (call_r hse rfl rfl (arg_e arg_nil) (.inl rfl) (fun _ => rfl)) ?_;refine dQ [9, 12] [] (rem_nat (a := x.a.toNat) (b := sectN y.blocks) tab_ok rfl rfl rfl (by omega)) ?_
  refine dC [13] [] ?_;refine dreg_end (by kernel_rfl) ?_;refine seq_n ?_;refine qR ?_;refine rC ?_;refine rQ iB ?_;refine rQ (rem_nat (a := x.k.toNat) (b := 8) tab_ok rfl rfl rfl (by decide)) ?_
  refine nS ?_;refine wc_block ?_;refine sR ?_;iterate 2 refine rC ?_
  refine nS ?_;refine wF ?_;refine sR ?_;iterate 2 refine rC ?_
  refine nS ?_;refine wT ?_;refine sR ?_;refine rC ?_;refine rQ iS ?_;refine rW ?_;refine nS ?_;refine wc_ret ?_;refine blk_r ?_;refine seq_r ?_
  exact ⟨trivial, _, rfl, [], .of rfl rfl rfl rfl rfl ⟨⟨_, rfl, act_le _ _ _ _⟩, rfl, trivial⟩ trivial⟩
 have d5 : decide (((x.k.toNat % 8 : Nat) : Int) = 5) = false := dF (by omega)
 by_cases k6 : x.k.toNat % 8 = 6
 ·have d6 : decide (((x.k.toNat % 8 : Nat) : Int) = 6) = true := dT (by omega)
  rw [show aOf x y = ⟨4, 0, (x.a.toNat % sectN y.blocks : Nat), [], (x.b.toNat % 4 : Nat)⟩ by rw [aOf, if_neg k4, if_neg k5, if_pos k6]]
  refine sR ?_;iterate 3 refine rN ?_
  refine nQ ?_;refine wc_draw (by kernel_rfl) ?_;refine dC [2] [] ?_;refine dQ [7] [64] iB ?_;refine dQ [8] [] (conv_int (m := (x.a.toNat : Int)) tab_ok rfl rfl rfl hw9) ?_
  refine dC [3] [] ?_;refine dQ [10] [72] iB ?_;refine dQ [11] [] (call_r hse rfl rfl (arg_e arg_nil) (.inl rfl) (fun _ => rfl)) ?_;refine dQ [9, 12] [] (rem_nat (a := x.a.toNat) (b := sectN y.blocks) tab_ok rfl rfl rfl (by omega)) ?_
  refine dC [13] [] ?_;refine dreg_end (by kernel_rfl) ?_;refine seq_n ?_;refine qR ?_;refine rC ?_;refine rQ iB ?_;refine rQ (rem_nat (a := x.k.toNat) (b := 8) tab_ok rfl rfl rfl (by decide)) ?_
  refine nS ?_;refine wc_block ?_;refine sR ?_;iterate 2 refine rC ?_
  refine nS ?_;refine wF ?_;refine sR ?_;iterate 2 refine rC ?_
  refine nS ?_;refine wF ?_;refine sR ?_;iterate 2 refine rC ?_
  refine nS ?_;refine wT ?_;refine sR ?_;iterate 2 refine rC ?_
  refine rQ iB ?_;refine rQ (rem_nat (a := x.b.toNat) (b := 4) tab_ok rfl rfl rfl (by decide)) ?_;refine rQ (conv_int (m := ((x.b.toNat % 4 : Nat) : Int)) tab_ok rfl rfl rfl hw43) ?_
  refine rQ iS ?_;refine rW ?_;refine nS ?_;refine wc_ret ?_;refine blk_r ?_;refine seq_r ?_
  exact ⟨trivial, _, rfl, [], .of rfl rfl rfl rfl rfl ⟨⟨_, rfl, act_le _ _ _ _⟩, rfl, trivial⟩ trivial⟩
 have d6 : decide (((x.k.toNat % 8 : Nat) : Int) = 6) = false := dF (by omega)
 by_cases k7 : x.k.toNat % 8 = 7
 ·have d7 : decide (((x.k.toNat % 8 : Nat) : Int) = 7) = true := dT (by omega)
  rw [show aOf x y = ⟨5, 0, 0, [], 0⟩ by rw [aOf, if_neg k4, if_neg k5, if_neg k6, if_pos k7]]
  refine sR ?_;iterate 3 refine rN ?_
  refine nQ ?_;refine wc_draw (by kernel_rfl) ?_;refine dC [2] [] ?_;refine dQ [7] [64] iB ?_;refine dQ [8] [] (conv_int (m := (x.a.toNat : Int)) tab_ok rfl rfl rfl hw9) ?_
  refine dC [3] [] ?_;refine dQ [10] [72] iB ?_;refine dQ [11] [] (call_r hse rfl rfl (arg_e arg_nil) (.inl rfl) (fun _ => rfl)) ?_;refine dQ [9, 12] [] (rem_nat (a := x.a.toNat) (b := sectN y.blocks) tab_ok rfl rfl rfl (by omega)) ?_
  refine dC [13] [] ?_;refine dreg_end (by kernel_rfl) ?_;refine seq_n ?_;refine qR ?_;refine rC ?_;refine rQ iB ?_;refine rQ (rem_nat (a := x.k.toNat) (b := 8) tab_ok rfl rfl rfl (by decide)) ?_
  refine nS ?_;refine wc_block ?_;refine sR ?_;iterate 2 refine rC ?_
  refine nS ?_;refine wF ?_;refine sR ?_;iterate 2 refine rC ?_
  refine nS ?_;refine wF ?_;refine sR ?_;iterate 2 refine rC ?_
  refine nS ?_;refine wF ?_;refine sR ?_;iterate 2 refine rC ?_
  refine nS ?_;refine wT ?_;refine sR ?_;refine rQ iS ?_;refine rW ?_;refine nS ?_;refine wc_ret ?_;refine blk_r ?_;refine seq_r ?_
  exact ⟨trivial, _, rfl, [], .of rfl rfl rfl rfl rfl ⟨⟨_, rfl, act_le _ _ _ _⟩, rfl, trivial⟩ trivial⟩
 have d7 : decide (((x.k.toNat % 8 : Nat) : Int) = 7) = false := dF (by omega)
 rw [show aOf x y = ⟨1, (x.a.toNat % (y.clients + y.shards) : Nat), 0, [], 0⟩ by rw [aOf, if_neg k4, if_neg k5, if_neg k6, if_neg k7]]
 refine sR ?_;iterate 3 refine rN ?_
 refine nQ ?_;refine wc_draw (by kernel_rfl) ?_;refine dC [2] [] ?_;refine dQ [7] [64] iB ?_;refine dQ [8] [] (conv_int (m := (x.a.toNat : Int)) tab_ok rfl rfl rfl hw9) ?_
 refine dC [3] [] ?_;refine dQ [10] [72] iB ?_;refine dQ [11] [] (call_r hse rfl rfl (arg_e arg_nil) (.inl rfl) (fun _ => rfl)) ?_;refine dQ [9, 12] [] (rem_nat (a := x.a.toNat) (b := sectN y.blocks) tab_ok rfl rfl rfl (by omega)) ?_
 refine dC [13] [] ?_;refine dreg_end (by kernel_rfl) ?_;refine seq_n ?_;refine qR ?_;refine rC ?_;refine rQ iB ?_;refine rQ (rem_nat (a := x.k.toNat) (b := 8) tab_ok rfl rfl rfl (by decide)) ?_
 refine nS ?_;refine wc_block ?_;refine sR ?_;iterate 2 refine rC ?_
 refine nS ?_;refine wF ?_;refine sR ?_;iterate 2 refine rC ?_
 refine nS ?_;refine wF ?_;refine sR ?_;iterate 2 refine rC ?_
 refine nS ?_;refine wF ?_;refine sR ?_;iterate 2 refine rC ?_
 refine nS ?_;refine wF ?_;refine wc_skip ?_;refine blk_n ?_;refine seq_n ?_;refine sR ?_;refine rC ?_;refine rQ iB ?_;refine rQ (conv_int (m := (x.a.toNat : Int)) tab_ok rfl rfl rfl hw9) ?_
 refine rC ?_;refine rQ iB ?_;refine rC ?_;refine rQ iB ?_;refine rQ (add_int (m := ((y.clients + y.shards : Nat) : Int)) tab_ok rfl rfl hw55) ?_;refine rQ (rem_nat (a := x.a.toNat) (b := y.clients + y.shards) tab_ok rfl rfl rfl (by omega)) ?_
 refine rQ iS ?_;refine rW ?_;refine nS ?_;refine wc_ret ?_
 exact ⟨trivial, _, rfl, [], .of rfl rfl rfl rfl rfl ⟨⟨_, rfl, act_le _ _ _ _⟩, rfl, trivial⟩ trivial⟩
end Go.Proofs.YthiijfbcfoifnaaGreatDoor
namespace Go.Proofs.YthiijfbcfoifnaaGreatDoor
open Go.Eng Go.Plain
def encV : Bool × POp → D
 | (true, o) => .cons (u8s o.kind) (.cons (i6 o.index) (.cons (.sc nil_) .nil))
 | (false, o) => encPOp o
def VOk (x : Bool × POp) : Prop := x.1 = true → x.2.data = []
theorem encV_le {w : World} {X : Nat → Prop} {x : Bool × POp} (hx : VOk x) {cs : List Value} (h : Enc w X (encV x) cs) : Enc w X (encPOp x.2) cs := by
 obtain ⟨b, o⟩ := x
 cases b with
 | false => exact h
 | true =>
  have hd : o.data = [] := hx rfl
  obtain ⟨c1, r1, rfl, h1, c2, r2, rfl, h2, c3, r3, rfl, h3, h4⟩ := h
  exact ⟨c1, _, rfl, h1, c2, _, rfl, h2, c3, r3, rfl, .inl ⟨by rw [hd]; rfl, h3.1⟩, h4⟩
theorem dle_arr {α β : Type} {s : Nat} {enc : α → D} {enc' : β → D} {g : α → β} {xs : List α} {ys : List β} (hy : ys = xs.map g) (h : ∀ x ∈ xs, DLe (enc x) (enc' (g x))) : DLe (.arr s enc xs) (.arr s enc' ys) := by
 subst hy
 rintro w X cs (⟨rfl, rfl⟩ | ⟨a, c, rfl, h1, h2, f, hf⟩)
 ·exact .inl ⟨rfl, rfl⟩
 ·refine .inr ⟨a, c, by rw [List.length_map], by rw [List.length_map]; exact h1, h2, f, fun i hi => ?_⟩
  rw [List.length_map] at hi
  obtain ⟨g1, g2, g3⟩ := hf i hi
  refine ⟨?_, g2, g3⟩
  rw [List.getElem_map]
  exact h _ (List.getElem_mem _) _ _ _ g1
abbrev encPV (l : List (Bool × POp)) : D := .arr 3 encV l
end Go.Proofs.YthiijfbcfoifnaaGreatDoor
namespace Go.Proofs.YthiijfbcfoifnaaGreatDoor
open Go.Eng Go.Plain
set_option maxHeartbeats 4000000
set_option maxRecDepth 20000
attribute [local irreducible] WC RegS RegD SeqQ BlkQ ScoQ RegK CutK Sat SatN FnIs LoopQ StepIs OpIs
structure PQ where
 kind : UInt8
 index : UInt8
 data : UInt8
def encQ (x : PQ) : D := .cons (u8s x.kind.toNat) (.cons (u8s x.index.toNat) (.cons (u8s x.data.toNat) .nil))
def qOf (x : PQ) : POp :=
 if x.kind.toNat % 9 < 4 then ⟨1, ((x.index.toNat % 22 : Nat) : Int) - 1, []⟩
 else if x.kind.toNat % 9 < 7 then ⟨2, ((x.index.toNat % 22 : Nat) : Int) - 1, List.replicate 32 x.data⟩
 else if x.kind.toNat % 9 = 8 then ⟨((x.data.toNat % 4 : Nat) : Int), (x.index.toNat : Int) - 100, List.replicate (x.index.toNat % 32) x.data⟩
 else ⟨3, 0, []⟩
theorem op_nil_le (k i : Int) : AVLe (.d (.cons (.sc (.int .u8 k)) (.cons (.sc (.int .i64 i)) (.cons (.sc nil_) .nil)))) (.d (encPOp ⟨k, i, []⟩)) :=
 AVLe.d (x := encV (true, ⟨k, i, []⟩)) (fun w X cs h => encV_le (x := (true, ⟨k, i, []⟩)) (fun _ => rfl) h) rfl
def fillL (d : Int) (n i : Nat) : List Int := List.replicate i d ++ List.replicate (n - i) 0
theorem fillL_zero (d : Int) (n : Nat) : fillL d n 0 = List.replicate n 0 := by simp [fillL]
theorem fillL_get {d : Int} {n i : Nat} (h : i < n) : (fillL d n i)[i]? = some 0 := by
 obtain ⟨k, hk⟩ : ∃ k, n - i = k + 1 := ⟨n - i - 1, by omega⟩
 rw [fillL, hk, List.getElem?_append_right (by simp), List.length_replicate, Nat.sub_self]
 rfl
theorem fillL_set {d : Int} {n i : Nat} (h : i < n) : (fillL d n i).set i d = fillL d n (i + 1) := by
 obtain ⟨k, hk⟩ : ∃ k, n - i = k + 1 := ⟨n - i - 1, by omega⟩
 rw [fillL, fillL, List.set_append_right _ _ (by simp), List.replicate_succ' (n := i), List.append_assoc, hk, show n - (i + 1) = k by omega, List.length_replicate, Nat.sub_self]
 rfl
theorem fillL_end (d : UInt8) (n : Nat) : fillL d.toNat n n = byI (List.replicate n d) := by simp [fillL, byI]
theorem qof_is (x : PQ) : FnIs Tryz.prog 128 [.d (encQ x)] [] (.d (encPOp (qOf x))) [] := by
 have hx1 := x.kind.toNat_lt
 have hx2 := x.index.toNat_lt
 have hx3 := x.data.toNat_lt
 refine fnIs_of tab_ok Tryz.func128 rfl rfl rfl ?_;refine sR ?_;iterate 2 refine rN ?_
 refine nR ?_;refine rQ iS ?_;refine rN ?_;refine rW ?_;refine nR ?_;refine reg_new (make_full (enc := encU8) (s := 1) (N := 32) tab_ok (0 : Int) rfl rfl rfl rfl rfl rfl rfl (by decide) rfl) rfl ?_
 refine rC ?_;refine nQ ?_;refine sR ?_;refine rC ?_;refine nS ?_;refine wc_block ?_
 refine wc_inv (fun i : Nat => ⟨[(5, .int .i64 i), (4, .own 67 0 32 1 none), (3, .ptr 66 []), (2, .ptr 65 []), (1, .ptr 64 [])], [(64, some (.box 185 (.d (encQ x)))), (65, some (.box 36 (.d (encV (true, opNil))))), (66, some (.box 36 (.d (encV (true, ⟨3, 0, []⟩))))), (67, some (.ds 5 1 true encU8 (fillL x.data.toNat 32 i)))], 72, Tryz.f128.ntmps, 64⟩) (fun i => i ≤ 32) (fun i => 32 - i) 0 [(64, some _), (65, some _), (66, some _), (67, some _)] (Nat.zero_le _)
  (.of rfl rfl rfl rfl rfl ⟨⟨_, rfl, .refl _⟩, rfl, ⟨_, rfl, .refl _⟩, rfl, ⟨_, rfl, .refl _⟩, rfl, ⟨_, rfl, .refl _⟩, rfl, ⟨_, rfl, .refl _⟩, rfl, trivial⟩ ⟨⟨rfl, rfl, _, rfl, .refl _⟩, ⟨rfl, rfl, _, rfl, .refl _⟩, ⟨rfl, rfl, _, rfl, .refl _⟩, ⟨rfl, rfl, _, rfl, RowLe.of_eq (by rw [fillL_zero]; rfl)⟩, trivial⟩) ?_
 intro i hi
 by_cases hlt : i < 32
 ·have h3 : decide ((i : Int) < 32) = true := dT (by omega)
  have hg : (fillL x.data.toNat 32 i)[((i : Int)).toNat]? = some 0 := by rw [Int.toNat_natCast]; exact fillL_get hlt
  have hset := fillL_set (d := (x.data.toNat : Int)) hlt
  refine wc_of ?_;refine qR ?_;iterate 2 refine rC ?_
  refine nS ?_;refine wT ?_;refine kS ?_;refine wc_seq ?_;refine wc_block ?_;refine wc_region ?_;iterate 3 refine rC ?_
  refine rQ iB ?_;refine rQ (index_own tab_ok rfl rfl rfl rfl rfl (by omega) (by omega)) ?_;refine reg_store (store_row tab_ok rfl rfl rfl ⟨rfl, (0 : Int), (x.data.toNat : Int), hg, ⟨rfl, rfl, rfl⟩, rfl⟩ rfl) ?_
  refine reg_nil ?_;refine blk_n ?_;refine seq_n ?_;refine wc_region ?_;refine rC ?_;refine rQ iD ?_;refine rC ?_;refine reg_nil ?_
  exact loop_n (i + 1) [] hlt (by omega) (.of rfl rfl rfl rfl rfl ⟨⟨_, rfl, .refl _⟩, rfl, ⟨_, rfl, .refl _⟩, rfl, ⟨_, rfl, .refl _⟩, rfl, ⟨_, rfl, .refl _⟩, rfl, ⟨_, rfl, .refl _⟩, rfl, trivial⟩ ⟨⟨rfl, rfl, _, rfl, .refl _⟩, ⟨rfl, rfl, _, rfl, .refl _⟩, ⟨rfl, rfl, _, rfl, .refl _⟩, ⟨rfl, rfl, _, rfl, RowLe.of_eq (congrArg (Row.ds 5 1 true encU8) hset)⟩, trivial⟩)
 ·have he : i = 32 := by omega
  subst he
  rw [fillL_end]
  have h3 : decide (((32 : Nat) : Int) < 32) = false := rfl
  have hl32 : 32 = (byI (List.replicate 32 x.data)).length := by rw [byI_len, List.length_replicate]
  refine wc_of ?_;refine wc_freeze (env' := [(5, _), (4, _), (3, _), (2, _), (1, _)]) (h' := [(64, some _), (65, some _), (66, some _)]) 67 _ rfl ⟨⟨_, rfl, .refl _⟩, ⟨_, rfl, Frz.own hl32⟩, ⟨_, rfl, .refl _⟩, ⟨_, rfl, .refl _⟩, ⟨_, rfl, .refl _⟩, trivial⟩ ⟨⟨rfl, _, rfl, .refl _⟩, ⟨rfl, _, rfl, .refl _⟩, ⟨rfl, _, rfl, .refl _⟩, trivial⟩ ?_
  have hw27 : IntKind.i64.wrap ((x.index.toNat % 22 : Nat) : Int) = ((x.index.toNat % 22 : Nat) : Int) := wrap_i64 (by omega) (by omega)
  have hw48 : IntKind.i64.wrap (x.index.toNat : Int) = (x.index.toNat : Int) := wrap_i64 (by omega) (by omega)
  have h54 : ((x.index.toNat % 32 : Nat) : Int) ≤ (byI (List.replicate 32 x.data)).length := by rw [byI_len, List.length_replicate]; omega
  by_cases q4 : x.kind.toNat % 9 < 4
  ·have d4 : decide (((x.kind.toNat % 9 : Nat) : Int) < 4) = true := dT (by omega)
   rw [show qOf x = ⟨1, ((x.index.toNat % 22 : Nat) : Int) - 1, []⟩ by rw [qOf, if_pos q4]]
   refine qR ?_;iterate 2 refine rC ?_
   refine nS ?_;refine wG ?_;refine wc_exit ?_;refine seq_x ?_;refine loop_x ?_;refine blk_x ?_;refine seq_n ?_;refine qR ?_;refine rC ?_;refine rQ iB ?_;refine rQ (rem_nat (a := x.kind.toNat) (b := 9) tab_ok rfl rfl rfl (by decide)) ?_
   refine rC ?_;refine nS ?_;refine wc_block ?_;refine sR ?_;iterate 3 refine rC ?_
   refine nS ?_;refine wT ?_;refine wc_region ?_;refine rC ?_;refine rQ iB ?_;refine rQ (rem_nat (a := x.index.toNat) (b := 22) tab_ok rfl rfl rfl (by decide)) ?_;refine rQ (conv_int (m := ((x.index.toNat % 22 : Nat) : Int)) tab_ok rfl rfl rfl hw27) ?_
   refine rQ (sub_int tab_ok rfl rfl (wrap_i64 (by omega) (by omega))) ?_;refine rQ iS ?_;refine rW ?_;refine reg_nil ?_;refine blk_n ?_;refine seq_n ?_;refine sR ?_
   refine rQ iM ?_;refine rW ?_;refine nS ?_;refine wc_ret ?_
   exact ⟨trivial, _, rfl, [], .of rfl rfl rfl rfl rfl ⟨⟨_, rfl, op_nil_le _ _⟩, rfl, trivial⟩ trivial⟩
  have d4 : decide (((x.kind.toNat % 9 : Nat) : Int) < 4) = false := dF (by omega)
  by_cases q7 : x.kind.toNat % 9 < 7
  ·have d7 : decide (((x.kind.toNat % 9 : Nat) : Int) < 7) = true := dT (by omega)
   rw [show qOf x = ⟨2, ((x.index.toNat % 22 : Nat) : Int) - 1, List.replicate 32 x.data⟩ by rw [qOf, if_neg q4, if_pos q7]]
   refine qR ?_;iterate 2 refine rC ?_
   refine nS ?_;refine wG ?_;refine wc_exit ?_;refine seq_x ?_;refine loop_x ?_;refine blk_x ?_;refine seq_n ?_;refine qR ?_;refine rC ?_;refine rQ iB ?_;refine rQ (rem_nat (a := x.kind.toNat) (b := 9) tab_ok rfl rfl rfl (by decide)) ?_
   refine rC ?_;refine nS ?_;refine wc_block ?_;refine sR ?_;iterate 3 refine rC ?_
   refine nS ?_;refine wF ?_;refine sR ?_;iterate 3 refine rC ?_
   refine nS ?_;refine wT ?_;refine wc_region ?_;refine rC ?_;refine rQ iB ?_;refine rQ (rem_nat (a := x.index.toNat) (b := 22) tab_ok rfl rfl rfl (by decide)) ?_;refine rQ (conv_int (m := ((x.index.toNat % 22 : Nat) : Int)) tab_ok rfl rfl rfl hw27) ?_
   refine rQ (sub_int tab_ok rfl rfl (wrap_i64 (by omega) (by omega))) ?_;refine rC ?_;refine rQ iS ?_;refine rW ?_;refine reg_nil ?_;refine blk_n ?_;refine seq_n ?_
   refine sR ?_;refine rQ iM ?_;refine rW ?_;refine nS ?_;refine wc_ret ?_
   exact ⟨trivial, _, rfl, [], lf⟩
  have d7 : decide (((x.kind.toNat % 9 : Nat) : Int) < 7) = false := dF (by omega)
  by_cases q8 : x.kind.toNat % 9 = 8
  ·have d8 : decide (((x.kind.toNat % 9 : Nat) : Int) = 8) = true := dT (by omega)
   rw [show qOf x = ⟨((x.data.toNat % 4 : Nat) : Int), (x.index.toNat : Int) - 100, List.replicate (x.index.toNat % 32) x.data⟩ by rw [qOf, if_neg q4, if_neg q7, if_pos q8]]
   have ht : (byI (List.replicate 32 x.data)).take (((x.index.toNat % 32 : Nat) : Int)).toNat = byI (List.replicate (x.index.toNat % 32) x.data) := by
    rw [Int.toNat_natCast, byI, byI, ← List.map_take, List.take_replicate, Nat.min_eq_left (by omega)]
   refine qR ?_;iterate 2 refine rC ?_
   refine nS ?_;refine wG ?_;refine wc_exit ?_;refine seq_x ?_;refine loop_x ?_;refine blk_x ?_;refine seq_n ?_;refine qR ?_;refine rC ?_;refine rQ iB ?_;refine rQ (rem_nat (a := x.kind.toNat) (b := 9) tab_ok rfl rfl rfl (by decide)) ?_
   refine rC ?_;refine nS ?_;refine wc_block ?_;refine sR ?_;iterate 3 refine rC ?_
   refine nS ?_;refine wF ?_;refine sR ?_;iterate 3 refine rC ?_
   refine nS ?_;refine wF ?_;refine sR ?_;iterate 3 refine rC ?_
   refine nS ?_;refine wT ?_;refine wc_draw (by kernel_rfl) ?_;refine dC [1] [] ?_;refine dQ [43] [64] iB ?_;refine dQ [44] [] (rem_nat (a := x.data.toNat) (b := 4) tab_ok rfl rfl rfl (by decide)) ?_
   refine dC [1] [] ?_;refine dQ [46] [64] iB ?_;refine dQ [47] [] (conv_int (m := (x.index.toNat : Int)) tab_ok rfl rfl rfl hw48) ?_;refine dQ [48] [] (sub_int tab_ok rfl rfl (wrap_i64 (by omega) (by omega))) ?_
   refine dC [4] [] ?_;refine dC [1] [] ?_;refine dQ [51] [64] iB ?_;refine dQ [52] [] (rem_nat (a := x.index.toNat) (b := 32) tab_ok rfl rfl rfl (by decide)) ?_;refine dQ [50, 53] [] (slice_to (m := ((x.index.toNat % 32 : Nat) : Int)) tab_ok rfl rfl rfl rfl (by omega) h54) ?_
   refine dQ [45, 49, 54] [] iS ?_;refine dreg_s [3, 55] [66] (store_row tab_ok rfl rfl rfl ⟨_, ⟨rfl, rfl, rfl⟩, rfl⟩ rfl) ?_;refine dreg_end (by kernel_rfl) ?_;refine blk_n ?_
   refine seq_n ?_;refine sR ?_;refine rQ iM ?_;refine rW ?_;refine nS ?_;refine wc_ret ?_
   rw [ht]
   exact ⟨trivial, _, rfl, [], lf⟩
  ·have d8 : decide (((x.kind.toNat % 9 : Nat) : Int) = 8) = false := dF (by omega)
   rw [show qOf x = ⟨3, 0, []⟩ by rw [qOf, if_neg q4, if_neg q7, if_neg q8]]
   refine qR ?_;iterate 2 refine rC ?_
   refine nS ?_;refine wG ?_;refine wc_exit ?_;refine seq_x ?_;refine loop_x ?_;refine blk_x ?_;refine seq_n ?_;refine qR ?_;refine rC ?_;refine rQ iB ?_;refine rQ (rem_nat (a := x.kind.toNat) (b := 9) tab_ok rfl rfl rfl (by decide)) ?_
   refine rC ?_;refine nS ?_;refine wc_block ?_;refine sR ?_;iterate 3 refine rC ?_
   refine nS ?_;refine wF ?_;refine sR ?_;iterate 3 refine rC ?_
   refine nS ?_;refine wF ?_;refine sR ?_;iterate 3 refine rC ?_
   refine nS ?_;refine wF ?_;refine wc_skip ?_;refine blk_n ?_;refine seq_n ?_;refine sR ?_;refine rQ iM ?_;refine rW ?_;refine nS ?_;refine wc_ret ?_
   exact ⟨trivial, _, rfl, [], .of rfl rfl rfl rfl rfl ⟨⟨_, rfl, op_nil_le _ _⟩, rfl, trivial⟩ trivial⟩
abbrev encQs (q : List PQ) : D := .arr 3 encQ q
def encPP (l : List (List PQ)) : D := .cons (.arr 1 encQs l) .nil
def opsOf (q : List PQ) : List POp := (q.take 3).map qOf
def pOf (l : List (List PQ)) : List (List POp) := (l.take 3).map opsOf
theorem take3 {α : Type} {l : List α} {i : Nat} (h : i ≤ 3) (h2 : i = l.length ∨ i = 3) : l.take i = l.take 3 := by
 rcases h2 with rfl | rfl
 ·rw [List.take_length, List.take_of_length_le h]
 ·rfl
theorem pof_own (l : List (List PQ)) : FnIs Tryz.prog 91 [.d (encPP l)] [] (.own 64 0 (pOf l).length 1 none) [(64, .ds 32 1 false encP (pOf l))] := by
 refine fnIs_of tab_ok Tryz.func91 rfl rfl rfl ?_;refine sR ?_;refine rN ?_;refine rC ?_;refine nR ?_;refine rC ?_;refine nQ ?_;refine sR ?_;refine rC ?_;refine nS ?_
 refine wc_block ?_
 refine wc_inv (fun i : Nat => ⟨[(4, .int .i64 i), (3, .own 65 0 ((l.take i).map opsOf).length 1 none), (1, .ptr 64 [])], [(64, some (.box 59 (.d (encPP l)))), (65, some (.ds 32 1 false encP ((l.take i).map opsOf)))], 72, Tryz.f91.ntmps, 64⟩) (fun i => i ≤ l.length ∧ i ≤ 3) (fun i => l.length - i) 0 [(64, some _), (65, none)] ⟨Nat.zero_le _, by decide⟩
  (.of rfl rfl rfl rfl rfl ⟨⟨_, rfl, .refl _⟩, rfl, ⟨_, rfl, .refl _⟩, rfl, ⟨_, rfl, .refl _⟩, rfl, trivial⟩ ⟨⟨rfl, rfl, _, rfl, .refl _⟩, ⟨rfl, rfl, rfl⟩, trivial⟩) ?_
 intro i hi
 obtain ⟨hi, hi3⟩ := hi
 by_cases hlt : i < l.length ∧ i < 3
 ·obtain ⟨h1, h2⟩ := hlt
  have d1 : decide ((i : Int) < (l.length : Int)) = true := dT (by omega)
  have d2 : decide ((i : Int) < 3) = true := dT (by omega)
  obtain ⟨q, hq0⟩ : ∃ q, l[i]? = some q := ⟨_, List.getElem?_eq_getElem h1⟩
  have hq : l[((i : Int)).toNat]? = some q := by rw [Int.toNat_natCast]; exact hq0
  have htk : (l.take (i + 1)).map opsOf = (l.take i).map opsOf ++ [opsOf q] := by rw [List.take_add_one, hq0]; simp
  have hln : ((l.take i).map opsOf).length = i := by rw [List.length_map, List.length_take]; omega
  have hB : ((l.take i).map opsOf).length + 1 ≤ 1048576 := by omega
  have hlq : ((l.take (i + 1)).map opsOf).length = ((l.take i).map opsOf).length + 1 := by rw [htk]; simp
  refine wc_of ?_;refine qR ?_;iterate 2 refine rC ?_
  refine rQ iB ?_;refine rQ iE ?_;iterate 2 refine rC ?_
  refine rO ?_;refine rC ?_;refine rO ?_;refine rC ?_;refine rQ iT ?_;refine nS ?_;refine wT ?_;refine kS ?_;refine wc_seq ?_;refine wc_block ?_;refine sR ?_;refine rC ?_
  refine nQ ?_;refine sR ?_;refine rC ?_;refine nS ?_;refine wc_block ?_
  refine wc_inv (fun j : Nat => ⟨[(6, .int .i64 j), (5, .own 66 0 ((q.take j).map qOf).length 3 none), (4, .int .i64 i), (3, .own 65 0 ((l.take i).map opsOf).length 1 none), (1, .ptr 64 [])], [(64, some (.box 59 (.d (encPP l)))), (65, some (.ds 32 1 false encP ((l.take i).map opsOf))), (66, some (.ds 36 3 false encPOp ((q.take j).map qOf)))], 72, Tryz.f91.ntmps, 64⟩) (fun j => j ≤ q.length ∧ j ≤ 3) (fun j => q.length - j) 0 [(66, none)] ⟨Nat.zero_le _, by decide⟩
   (.of rfl rfl rfl rfl rfl ⟨⟨_, rfl, .refl _⟩, rfl, ⟨_, rfl, .refl _⟩, rfl, ⟨_, rfl, .refl _⟩, rfl, ⟨_, rfl, .refl _⟩, rfl, ⟨_, rfl, .refl _⟩, rfl, trivial⟩ ⟨⟨rfl, rfl, _, rfl, .refl _⟩, ⟨rfl, rfl, _, rfl, .refl _⟩, ⟨rfl, rfl, rfl⟩, trivial⟩) ?_
  intro j hj
  obtain ⟨hj, hj3⟩ := hj
  by_cases hjl : j < q.length ∧ j < 3
  ·obtain ⟨h3, h4⟩ := hjl
   have d3 : decide ((j : Int) < (q.length : Int)) = true := dT (by omega)
   have d4 : decide ((j : Int) < 3) = true := dT (by omega)
   obtain ⟨x, hx0⟩ : ∃ x, q[j]? = some x := ⟨_, List.getElem?_eq_getElem h3⟩
   have hx : q[((j : Int)).toNat]? = some x := by rw [Int.toNat_natCast]; exact hx0
   have htj : (q.take (j + 1)).map qOf = (q.take j).map qOf ++ [qOf x] := by rw [List.take_add_one, hx0]; simp
   have hlj : ((q.take (j + 1)).map qOf).length = ((q.take j).map qOf).length + 1 := by rw [htj]; simp
   have hA : ((q.take j).map qOf).length + 1 ≤ 1048576 := by rw [List.length_map, List.length_take]; omega
   refine wc_of ?_;refine qR ?_;iterate 2 refine rC ?_
   refine rQ iB ?_;refine rC ?_;refine rQ (index_arr tab_ok rfl rfl rfl rfl rfl (by omega) hq) ?_;refine rQ iL ?_;refine rQ iE ?_;iterate 2 refine rC ?_
   refine rO ?_;refine rC ?_;refine rO ?_;refine rC ?_;refine rQ iT ?_;refine nS ?_;refine wT ?_;refine kS ?_;refine wc_seq ?_;refine wc_block ?_;refine wc_region ?_
   iterate 2 refine rC ?_
   refine rQ iB ?_;refine rC ?_;refine rQ (index_arr tab_ok rfl rfl rfl rfl rfl (by omega) hq) ?_;refine rQ iL ?_;refine rC ?_;refine rQ (index_arr tab_ok rfl rfl rfl rfl rfl (by omega) hx) ?_
   refine rQ iL ?_;refine rQ (call_r (qof_is x) rfl rfl (arg_e arg_nil) (.inl rfl) (fun _ => rfl)) ?_;refine reg_new (build_slice (s := 3) tab_ok rfl rfl rfl rfl rfl rfl rfl rfl) rfl ?_
   refine reg_new2 (append_one (xs := (q.take j).map qOf) (s := 3) (enc := encPOp) tab_ok (qOf x) rfl rfl rfl rfl rfl rfl rfl rfl rfl hA rfl) rfl ?_;refine rC ?_;refine reg_nil ?_
   refine blk_n ?_;refine seq_n ?_;refine wc_region ?_;refine rC ?_;refine rQ iD ?_;refine rC ?_;refine reg_nil ?_
   exact loop_n (j + 1) [(66, some _)] ⟨h3, by omega⟩ (by omega) (.of rfl rfl rfl rfl rfl ⟨⟨_, rfl, .refl _⟩, rfl, ⟨_, rfl, AVLe.of_eq (by rw [hlj]; rfl)⟩, rfl, ⟨_, rfl, .refl _⟩, rfl, ⟨_, rfl, .refl _⟩, rfl, ⟨_, rfl, .refl _⟩, rfl, trivial⟩ ⟨⟨rfl, rfl, _, rfl, .refl _⟩, ⟨rfl, rfl, _, rfl, .refl _⟩, ⟨rfl, rfl, _, rfl, RowLe.of_eq (by rw [htj]; rfl)⟩, trivial⟩)
  ·have hops : (q.take j).map qOf = opsOf q := by rw [opsOf, take3 hj3 (by omega)]
   rw [hops]
   refine wc_of ?_;refine wc_freeze (env' := [(6, _), (5, _), (4, _), (3, _), (1, _)]) (h' := [(64, some _), (65, some _)]) 66 _ rfl ⟨⟨_, rfl, .refl _⟩, ⟨_, rfl, Frz.own rfl⟩, ⟨_, rfl, .refl _⟩, ⟨_, rfl, .refl _⟩, ⟨_, rfl, .refl _⟩, trivial⟩ ⟨⟨rfl, _, rfl, .refl _⟩, ⟨rfl, _, rfl, .refl _⟩, trivial⟩ ?_
   by_cases h5 : j < q.length
   ·have d3 : decide ((j : Int) < (q.length : Int)) = true := dT (by omega)
    have d4 : decide ((j : Int) < 3) = false := dF (by omega)
    refine qR ?_;iterate 2 refine rC ?_
    refine rQ iB ?_;refine rC ?_;refine rQ (index_arr tab_ok rfl rfl rfl rfl rfl (by omega) hq) ?_;refine rQ iL ?_;refine rQ iE ?_;iterate 2 refine rC ?_
    refine rO ?_;refine rC ?_;refine rO ?_;refine rC ?_;refine rQ iT ?_;refine nS ?_;refine wF ?_;refine wc_exit ?_;refine seq_x ?_;refine loop_x ?_;refine blk_x ?_
    refine seq_n ?_;refine wc_region ?_;iterate 2 refine rC ?_
    refine reg_new (build_slice (s := 1) tab_ok rfl rfl rfl rfl rfl rfl rfl rfl) rfl ?_;refine reg_new2 (append_one (xs := (l.take i).map opsOf) (s := 1) (enc := encP) tab_ok (opsOf q) rfl rfl rfl rfl rfl rfl rfl rfl rfl hB rfl) rfl ?_
    refine rC ?_;refine reg_nil ?_;refine blk_n ?_;refine seq_n ?_;refine wc_region ?_;refine rC ?_;refine rQ iD ?_;refine rC ?_;refine reg_nil ?_
    exact loop_n (i + 1) [(65, some _)] ⟨h1, by omega⟩ (by omega) (.of rfl rfl rfl rfl rfl ⟨⟨_, rfl, .refl _⟩, rfl, ⟨_, rfl, AVLe.of_eq (by rw [hlq]; rfl)⟩, rfl, ⟨_, rfl, .refl _⟩, rfl, trivial⟩ ⟨⟨rfl, rfl, _, rfl, .refl _⟩, ⟨rfl, rfl, _, rfl, RowLe.of_eq (by rw [htk]; rfl)⟩, trivial⟩)
   ·have d3 : decide ((j : Int) < (q.length : Int)) = false := dF (by omega)
    refine qR ?_;iterate 2 refine rC ?_
    refine rQ iB ?_;refine rC ?_;refine rQ (index_arr tab_ok rfl rfl rfl rfl rfl (by omega) hq) ?_;refine rQ iL ?_;refine rQ iE ?_;iterate 2 refine rC ?_
    iterate 2 refine rS ?_
    refine rQ iF ?_;refine nS ?_;refine wG ?_;refine wc_exit ?_;refine seq_x ?_;refine loop_x ?_;refine blk_x ?_;refine seq_n ?_;refine wc_region ?_;iterate 2 refine rC ?_
    refine reg_new (build_slice (s := 1) tab_ok rfl rfl rfl rfl rfl rfl rfl rfl) rfl ?_;refine reg_new2 (append_one (xs := (l.take i).map opsOf) (s := 1) (enc := encP) tab_ok (opsOf q) rfl rfl rfl rfl rfl rfl rfl rfl rfl hB rfl) rfl ?_
    refine rC ?_;refine reg_nil ?_;refine blk_n ?_;refine seq_n ?_;refine wc_region ?_;refine rC ?_;refine rQ iD ?_;refine rC ?_;refine reg_nil ?_
    exact loop_n (i + 1) [(65, some _)] ⟨h1, by omega⟩ (by omega) (.of rfl rfl rfl rfl rfl ⟨⟨_, rfl, .refl _⟩, rfl, ⟨_, rfl, AVLe.of_eq (by rw [hlq]; rfl)⟩, rfl, ⟨_, rfl, .refl _⟩, rfl, trivial⟩ ⟨⟨rfl, rfl, _, rfl, .refl _⟩, ⟨rfl, rfl, _, rfl, RowLe.of_eq (by rw [htk]; rfl)⟩, trivial⟩)
 ·have hops : (l.take i).map opsOf = pOf l := by rw [pOf, take3 hi3 (by omega)]
  rw [hops]
  refine wc_of ?_
  by_cases h5 : i < l.length
  ·have d1 : decide ((i : Int) < (l.length : Int)) = true := dT (by omega)
   have d2 : decide ((i : Int) < 3) = false := dF (by omega)
   refine qR ?_;iterate 2 refine rC ?_
   refine rQ iB ?_;refine rQ iE ?_;iterate 2 refine rC ?_
   refine rO ?_;refine rC ?_;refine rO ?_;refine rC ?_;refine rQ iT ?_;refine nS ?_;refine wF ?_;refine wc_exit ?_;refine seq_x ?_;refine loop_x ?_;refine blk_x ?_
   refine seq_n ?_;refine sR ?_;iterate 2 refine rC ?_
   refine nS ?_;refine wc_ret ?_
   exact ⟨trivial, [(64, some 65)], .of rfl rfl rfl rfl rfl ⟨⟨_, rfl, AVLe.of_eq rfl⟩, rfl, trivial⟩ ⟨⟨rfl, rfl, _, rfl, .refl _⟩, trivial⟩⟩
  ·have d1 : decide ((i : Int) < (l.length : Int)) = false := dF (by omega)
   refine qR ?_;iterate 2 refine rC ?_
   refine rQ iB ?_;refine rQ iE ?_;iterate 2 refine rC ?_
   iterate 2 refine rS ?_
   refine rQ iF ?_;refine nS ?_;refine wG ?_;refine wc_exit ?_;refine seq_x ?_;refine loop_x ?_;refine blk_x ?_;refine seq_n ?_;refine sR ?_;iterate 2 refine rC ?_
   refine nS ?_;refine wc_ret ?_
   exact ⟨trivial, [(64, some 65)], .of rfl rfl rfl rfl rfl ⟨⟨_, rfl, AVLe.of_eq rfl⟩, rfl, trivial⟩ ⟨⟨rfl, rfl, _, rfl, .refl _⟩, trivial⟩⟩
theorem pof_is (l : List (List PQ)) : FnIs Tryz.prog 91 [.d (encPP l)] [] (.d (encPL (pOf l))) [] := (pof_own l).freeze_out 64 _ rfl (Frz.own rfl) trivial
end Go.Proofs.YthiijfbcfoifnaaGreatDoor
namespace Go.Proofs.YthiijfbcfoifnaaGreatDoor
open Go.Eng Go.Plain
set_option maxHeartbeats 8000000
set_option maxRecDepth 20000
attribute [local irreducible] WC RegS RegD SeqQ BlkQ ScoQ RegK CutK Sat SatN FnIs LoopQ StepIs OpIs
def idxM (n : Nat) (o : POp) : POp := if (n : Int) < o.index then ⟨o.kind, ((o.index.toNat % n : Nat) : Int), o.data⟩ else o
def progM (n : Nat) (all : List (List POp)) (i : Nat) : List POp := ((all[i]?).getD []).map (idxM n)
def progsM (n m : Nat) (all : List (List POp)) : List (List POp) := (List.range m).map (progM n all)
theorem progsM_go (n m : Nat) (all : List (List POp)) : progsM n (m + 1) all = progsM n m all ++ [progM n all m] := by
 rw [progsM, progsM, List.range_succ, List.map_append]; rfl
theorem progsM_len (n m : Nat) (all : List (List POp)) : (progsM n m all).length = m := by simp [progsM]
theorem cof_is (x : CX) (ps : List (List PQ)) (all : List (List POp)) (hall : pOf ps = all) (hb : ∀ p ∈ all, p.length ≤ 1000) (hal : all.length ≤ 1000) : FnIs Tryz.prog 52 [.d (encCX x (encPP ps))] [] (.tup (.acons (.d (encCfg (cfgOf x))) (.acons (.d (encPL (progsM x.blocks x.clients all))) .anil))) [] := by
 obtain ⟨a1, a2, a3, a4, a5, a6, a7, a8, a9, a10⟩ := cx_small x
 have hcf := config_is x encQs ps
 have hpo := pof_is ps
 rw [hall] at hpo
 refine fnIs_of tab_ok Tryz.func52 rfl rfl rfl ?_;refine sR ?_;iterate 2 refine rN ?_
 refine rC ?_;refine nR ?_;refine rQ iM ?_;refine rQ (call_r hcf rfl rfl (arg_e arg_nil) (.inl rfl) (fun _ => rfl)) ?_;refine rN ?_;refine rW ?_;refine nR ?_;refine rC ?_
 refine rQ iB ?_;refine rQ (call_r hpo rfl rfl (arg_e arg_nil) (.inl rfl) (fun _ => rfl)) ?_;refine rC ?_;refine nR ?_;refine rC ?_;refine nQ ?_;refine sR ?_;refine rC ?_
 refine nS ?_;refine wc_block ?_
 refine wc_inv (fun i : Nat => ⟨[(7, .int .i64 i), (6, .own 67 0 (progsM x.blocks i all).length 1 none), (5, .d (encPL all)), (4, .ptr 65 []), (2, .ptr 66 [])], [(65, some (.box 26 (.d (encCfg (cfgOf x))))), (66, some (.box 26 (.d r26.zero))), (67, some (.ds 32 1 false encP (progsM x.blocks i all)))], 72, Tryz.f52.ntmps, 64⟩) (fun i => i ≤ x.clients) (fun i => x.clients - i) 0 [(65, some _), (66, some _), (67, none)] (Nat.zero_le _)
  (.of rfl rfl rfl rfl rfl ⟨⟨_, rfl, .refl _⟩, rfl, ⟨_, rfl, .refl _⟩, rfl, ⟨_, rfl, .refl _⟩, rfl, ⟨_, rfl, .refl _⟩, rfl, ⟨_, rfl, .refl _⟩, rfl, trivial⟩ ⟨⟨rfl, rfl, _, rfl, .refl _⟩, ⟨rfl, rfl, _, rfl, .refl _⟩, ⟨rfl, rfl, rfl⟩, trivial⟩) ?_
 intro i hi
 refine wc_of ?_
 by_cases hlt : i < x.clients
 ·have d1 : decide ((i : Int) < (x.clients : Int)) = true := dT (by omega)
  obtain ⟨p, hp⟩ : ∃ p, (all[i]?).getD [] = p := ⟨_, rfl⟩
  have hpl : p.length ≤ 1000 := by
   rw [← hp]
   cases hq : all[i]? with
   | none => simp
   | some q => exact hb q (List.mem_of_getElem? hq)
  have hgo := progsM_go x.blocks i all
  rw [show progM x.blocks all i = p.map (idxM x.blocks) by rw [progM, hp]] at hgo
  have hln := progsM_len x.blocks i all
  have hA2 : (progsM x.blocks i all).length + 1 ≤ 1048576 := by omega
  have hlq : (progsM x.blocks (i + 1) all).length = (progsM x.blocks i all).length + 1 := by rw [hgo]; simp
  refine qR ?_;iterate 2 refine rC ?_
  refine rQ iB ?_;refine rC ?_;refine nS ?_;refine wT ?_;refine kS ?_;refine wc_seq ?_;refine wc_block ?_;refine sR ?_;refine rC ?_;refine nQ ?_;refine sR ?_;refine rC ?_
  refine nS ?_;refine wc_block ?_
  refine wc_inv (fun k : Nat => ⟨[(9, .int .i64 k), (8, .own 68 0 ((p.take k).map (idxM x.blocks)).length 3 none), (7, .int .i64 i), (6, .own 67 0 (progsM x.blocks i all).length 1 none), (5, .d (encPL all)), (4, .ptr 65 []), (2, .ptr 66 [])], [(65, some (.box 26 (.d (encCfg (cfgOf x))))), (66, some (.box 26 (.d r26.zero))), (67, some (.ds 32 1 false encP (progsM x.blocks i all))), (68, some (.ds 36 3 false encPOp ((p.take k).map (idxM x.blocks))))], 72, Tryz.f52.ntmps, 64⟩) (fun k => k ≤ p.length) (fun k => p.length - k) 0 [(65, some _), (66, some _), (67, some _), (68, none)] (Nat.zero_le _)
   (.of rfl rfl rfl rfl rfl ⟨⟨_, rfl, .refl _⟩, rfl, ⟨_, rfl, .refl _⟩, rfl, ⟨_, rfl, .refl _⟩, rfl, ⟨_, rfl, .refl _⟩, rfl, ⟨_, rfl, .refl _⟩, rfl, ⟨_, rfl, .refl _⟩, rfl, ⟨_, rfl, .refl _⟩, rfl, trivial⟩ ⟨⟨rfl, rfl, _, rfl, .refl _⟩, ⟨rfl, rfl, _, rfl, .refl _⟩, ⟨rfl, rfl, _, rfl, .refl _⟩, ⟨rfl, rfl, rfl⟩, trivial⟩) ?_
  intro k hk
  refine wc_of ?_
  by_cases hkl : k < p.length
  ·have hia : i < all.length := by
    rcases Nat.lt_or_ge i all.length with h | h
    ·exact h
    ·rw [List.getElem?_eq_none h] at hp; rw [← hp] at hkl; exact absurd hkl (Nat.not_lt_zero _)
   have hp0 : all[i]? = some p := by rw [List.getElem?_eq_getElem hia] at hp ⊢; rw [← hp]; rfl
   have hp2 : all[((i : Int)).toNat]? = some p := by rw [Int.toNat_natCast]; exact hp0
   have d2 : decide ((i : Int) < (all.length : Int)) = true := dT (by omega)
   have d3 : decide ((k : Int) < (p.length : Int)) = true := dT (by omega)
   obtain ⟨o, ho⟩ : ∃ o, p[k]? = some o := ⟨_, List.getElem?_eq_getElem hkl⟩
   have hA : ((p.take k).map (idxM x.blocks)).length + 1 ≤ 1048576 := by rw [List.length_map, List.length_take]; omega
   have htj : (p.take (k + 1)).map (idxM x.blocks) = (p.take k).map (idxM x.blocks) ++ [idxM x.blocks o] := by rw [List.take_add_one, ho]; simp
   have hlj : ((p.take (k + 1)).map (idxM x.blocks)).length = ((p.take k).map (idxM x.blocks)).length + 1 := by rw [htj]; simp
   by_cases hbig : (x.blocks : Int) < o.index
   ·rw [show idxM x.blocks o = ⟨o.kind, ((o.index.toNat % x.blocks : Nat) : Int), o.data⟩ from if_pos hbig] at htj
    obtain ⟨w, hw⟩ : ∃ w : Nat, o.index = w := ⟨o.index.toNat, by omega⟩
    obtain ⟨kd, ix, dt⟩ := o
    simp only at hw hbig htj
    subst hw
    rw [Int.toNat_natCast] at htj
    have ho2 : p[((k : Int)).toNat]? = some ⟨kd, (w : Int), dt⟩ := by rw [Int.toNat_natCast]; exact ho
    have d4 : decide ((x.blocks : Int) < (w : Int)) = true := dT hbig
    refine qR ?_;iterate 2 refine rC ?_
    refine rQ iE ?_;iterate 2 refine rC ?_
    refine rO ?_;refine rC ?_;refine rO ?_;refine rC ?_;refine rO ?_;refine rC ?_;refine rO ?_;refine rQ (index_arr tab_ok rfl rfl rfl rfl rfl (by omega) hp2) ?_;refine rO ?_
    refine rQ iL ?_;refine rO ?_;refine rQ iE ?_;refine rO ?_;refine rC ?_;refine rQ iT ?_;refine nS ?_;refine wT ?_;refine kS ?_;refine wc_seq ?_;refine wc_block ?_
    refine sR ?_;iterate 2 refine rC ?_
    refine rQ (index_arr tab_ok rfl rfl rfl rfl rfl (by omega) hp2) ?_;refine rQ iL ?_;refine rC ?_;refine rQ (index_arr tab_ok rfl rfl rfl rfl rfl (by omega) ho2) ?_
    refine rQ iL ?_;refine rN ?_;refine rW ?_;refine nQ ?_;refine sR ?_;refine rC ?_;refine rQ iB ?_;refine rC ?_;refine rQ iB ?_;refine rC ?_;refine nS ?_;refine wT ?_
    refine wc_region ?_;refine rC ?_;refine rQ iB ?_;refine rC ?_;refine rQ iB ?_;refine rQ (rem_nat (a := w) (b := x.blocks) tab_ok rfl rfl rfl (by omega)) ?_;refine rC ?_
    refine rX ?_;refine nS ?_;refine wc_region ?_;refine rC ?_;refine rQ iM ?_;refine reg_new (build_slice (s := 3) tab_ok rfl rfl rfl rfl rfl rfl rfl rfl) rfl ?_;refine reg_new2 (append_one (xs := (p.take k).map (idxM x.blocks)) (s := 3) (enc := encPOp) tab_ok (⟨kd, ((w % x.blocks : Nat) : Int), dt⟩ : POp) rfl rfl rfl rfl rfl rfl rfl rfl rfl hA rfl) rfl ?_
    refine rC ?_;refine reg_nil ?_;refine blk_n ?_;refine seq_n ?_;refine wc_region ?_;refine rC ?_;refine rQ iD ?_;refine rC ?_;refine reg_nil ?_
    exact loop_n (k + 1) [(65, some _), (66, some _), (67, some _), (68, some _)] hkl (by omega) (.of rfl rfl rfl rfl rfl ⟨⟨_, rfl, .refl _⟩, rfl, ⟨_, rfl, AVLe.of_eq (by rw [hlj]; rfl)⟩, rfl, ⟨_, rfl, .refl _⟩, rfl, ⟨_, rfl, .refl _⟩, rfl, ⟨_, rfl, .refl _⟩, rfl, ⟨_, rfl, .refl _⟩, rfl, ⟨_, rfl, .refl _⟩, rfl, trivial⟩ ⟨⟨rfl, rfl, _, rfl, .refl _⟩, ⟨rfl, rfl, _, rfl, .refl _⟩, ⟨rfl, rfl, _, rfl, .refl _⟩, ⟨rfl, rfl, _, rfl, RowLe.of_eq (by rw [htj]; rfl)⟩, trivial⟩)
   ·rw [show idxM x.blocks o = o from if_neg hbig] at htj
    have ho2 : p[((k : Int)).toNat]? = some o := by rw [Int.toNat_natCast]; exact ho
    have d4 : decide ((x.blocks : Int) < o.index) = false := dF hbig
    refine qR ?_;iterate 2 refine rC ?_
    refine rQ iE ?_;iterate 2 refine rC ?_
    refine rO ?_;refine rC ?_;refine rO ?_;refine rC ?_;refine rO ?_;refine rC ?_;refine rO ?_;refine rQ (index_arr tab_ok rfl rfl rfl rfl rfl (by omega) hp2) ?_;refine rO ?_
    refine rQ iL ?_;refine rO ?_;refine rQ iE ?_;refine rO ?_;refine rC ?_;refine rQ iT ?_;refine nS ?_;refine wT ?_;refine kS ?_;refine wc_seq ?_;refine wc_block ?_
    refine sR ?_;iterate 2 refine rC ?_
    refine rQ (index_arr tab_ok rfl rfl rfl rfl rfl (by omega) hp2) ?_;refine rQ iL ?_;refine rC ?_;refine rQ (index_arr tab_ok rfl rfl rfl rfl rfl (by omega) ho2) ?_
    refine rQ iL ?_;refine rN ?_;refine rW ?_;refine nQ ?_;refine sR ?_;refine rC ?_;refine rQ iB ?_;refine rC ?_;refine rQ iB ?_;refine rC ?_;refine nS ?_;refine wF ?_
    refine kS ?_;refine wc_region ?_;refine rC ?_;refine rQ iM ?_;refine reg_new (build_slice (s := 3) tab_ok rfl rfl rfl rfl rfl rfl rfl rfl) rfl ?_;refine reg_new2 (append_one (xs := (p.take k).map (idxM x.blocks)) (s := 3) (enc := encPOp) tab_ok o rfl rfl rfl rfl rfl rfl rfl rfl rfl hA rfl) rfl ?_
    refine rC ?_;refine reg_nil ?_;refine blk_n ?_;refine seq_n ?_;refine wc_region ?_;refine rC ?_;refine rQ iD ?_;refine rC ?_;refine reg_nil ?_
    exact loop_n (k + 1) [(65, some _), (66, some _), (67, some _), (68, some _)] hkl (by omega) (.of rfl rfl rfl rfl rfl ⟨⟨_, rfl, .refl _⟩, rfl, ⟨_, rfl, AVLe.of_eq (by rw [hlj]; rfl)⟩, rfl, ⟨_, rfl, .refl _⟩, rfl, ⟨_, rfl, .refl _⟩, rfl, ⟨_, rfl, .refl _⟩, rfl, ⟨_, rfl, .refl _⟩, rfl, ⟨_, rfl, .refl _⟩, rfl, trivial⟩ ⟨⟨rfl, rfl, _, rfl, .refl _⟩, ⟨rfl, rfl, _, rfl, .refl _⟩, ⟨rfl, rfl, _, rfl, .refl _⟩, ⟨rfl, rfl, _, rfl, RowLe.of_eq (by rw [htj]; rfl)⟩, trivial⟩)
  ·have he : k = p.length := by omega
   subst he
   rw [List.take_length]
   refine wc_freeze (env' := [(9, _), (8, _), (7, _), (6, _), (5, _), (4, _), (2, _)]) (h' := [(65, some _), (66, some _), (67, some _)]) 68 _ rfl ⟨⟨_, rfl, .refl _⟩, ⟨_, rfl, Frz.own rfl⟩, ⟨_, rfl, .refl _⟩, ⟨_, rfl, .refl _⟩, ⟨_, rfl, .refl _⟩, ⟨_, rfl, .refl _⟩, ⟨_, rfl, .refl _⟩, trivial⟩ ⟨⟨rfl, _, rfl, .refl _⟩, ⟨rfl, _, rfl, .refl _⟩, ⟨rfl, _, rfl, .refl _⟩, trivial⟩ ?_
   by_cases hia : i < all.length
   ·have hp0 : all[i]? = some p := by rw [List.getElem?_eq_getElem hia] at hp ⊢; rw [← hp]; rfl
    have hp2 : all[((i : Int)).toNat]? = some p := by rw [Int.toNat_natCast]; exact hp0
    have d2 : decide ((i : Int) < (all.length : Int)) = true := dT (by omega)
    have d3 : decide ((p.length : Int) < (p.length : Int)) = false := dF (by omega)
    refine qR ?_;iterate 2 refine rC ?_
    refine rQ iE ?_;iterate 2 refine rC ?_
    refine rO ?_;refine rC ?_;refine rO ?_;refine rC ?_;refine rO ?_;refine rC ?_;refine rO ?_;refine rQ (index_arr tab_ok rfl rfl rfl rfl rfl (by omega) hp2) ?_;refine rO ?_
    refine rQ iL ?_;refine rO ?_;refine rQ iE ?_;refine rO ?_;refine rC ?_;refine rQ iT ?_;refine nS ?_;refine wF ?_;refine wc_exit ?_;refine seq_x ?_;refine loop_x ?_
    refine blk_x ?_;refine seq_n ?_;refine wc_region ?_;iterate 2 refine rC ?_
    refine reg_new (build_slice (s := 1) tab_ok rfl rfl rfl rfl rfl rfl rfl rfl) rfl ?_;refine reg_new2 (append_one (xs := progsM x.blocks i all) (s := 1) (enc := encP) tab_ok (p.map (idxM x.blocks)) rfl rfl rfl rfl rfl rfl rfl rfl rfl hA2 rfl) rfl ?_
    refine rC ?_;refine reg_nil ?_;refine blk_n ?_;refine seq_n ?_;refine wc_region ?_;refine rC ?_;refine rQ iD ?_;refine rC ?_;refine reg_nil ?_
    exact loop_n (i + 1) [(65, some _), (66, some _), (67, some _)] hlt (by omega) (.of rfl rfl rfl rfl rfl ⟨⟨_, rfl, .refl _⟩, rfl, ⟨_, rfl, AVLe.of_eq (by rw [hlq]; rfl)⟩, rfl, ⟨_, rfl, .refl _⟩, rfl, ⟨_, rfl, .refl _⟩, rfl, ⟨_, rfl, .refl _⟩, rfl, trivial⟩ ⟨⟨rfl, rfl, _, rfl, .refl _⟩, ⟨rfl, rfl, _, rfl, .refl _⟩, ⟨rfl, rfl, _, rfl, RowLe.of_eq (by rw [hgo]; rfl)⟩, trivial⟩)
   ·have d2 : decide ((i : Int) < (all.length : Int)) = false := dF (by omega)
    refine qR ?_;iterate 2 refine rC ?_
    refine rQ iE ?_;iterate 2 refine rC ?_
    iterate 7 refine rS ?_
    refine rQ iF ?_;refine nS ?_;refine wG ?_;refine wc_exit ?_;refine seq_x ?_;refine loop_x ?_;refine blk_x ?_;refine seq_n ?_;refine wc_region ?_;iterate 2 refine rC ?_
    refine reg_new (build_slice (s := 1) tab_ok rfl rfl rfl rfl rfl rfl rfl rfl) rfl ?_;refine reg_new2 (append_one (xs := progsM x.blocks i all) (s := 1) (enc := encP) tab_ok (p.map (idxM x.blocks)) rfl rfl rfl rfl rfl rfl rfl rfl rfl hA2 rfl) rfl ?_
    refine rC ?_;refine reg_nil ?_;refine blk_n ?_;refine seq_n ?_;refine wc_region ?_;refine rC ?_;refine rQ iD ?_;refine rC ?_;refine reg_nil ?_
    exact loop_n (i + 1) [(65, some _), (66, some _), (67, some _)] hlt (by omega) (.of rfl rfl rfl rfl rfl ⟨⟨_, rfl, .refl _⟩, rfl, ⟨_, rfl, AVLe.of_eq (by rw [hlq]; rfl)⟩, rfl, ⟨_, rfl, .refl _⟩, rfl, ⟨_, rfl, .refl _⟩, rfl, ⟨_, rfl, .refl _⟩, rfl, trivial⟩ ⟨⟨rfl, rfl, _, rfl, .refl _⟩, ⟨rfl, rfl, _, rfl, .refl _⟩, ⟨rfl, rfl, _, rfl, RowLe.of_eq (by rw [hgo]; rfl)⟩, trivial⟩)
 ·have he : i = x.clients := by omega
  subst he
  have d1 : decide ((x.clients : Int) < (x.clients : Int)) = false := dF (by omega)
  refine wc_freeze (env' := [(7, _), (6, _), (5, _), (4, _), (2, _)]) (h' := [(65, some _), (66, some _)]) 67 _ rfl ⟨⟨_, rfl, .refl _⟩, ⟨_, rfl, Frz.own rfl⟩, ⟨_, rfl, .refl _⟩, ⟨_, rfl, .refl _⟩, ⟨_, rfl, .refl _⟩, trivial⟩ ⟨⟨rfl, _, rfl, .refl _⟩, ⟨rfl, _, rfl, .refl _⟩, trivial⟩ ?_
  refine qR ?_;iterate 2 refine rC ?_
  refine rQ iB ?_;refine rC ?_;refine nS ?_;refine wF ?_;refine wc_exit ?_;refine seq_x ?_;refine loop_x ?_;refine blk_x ?_;refine seq_n ?_;refine sR ?_;refine rQ iM ?_
  refine rC ?_;refine rW ?_;refine rC ?_;refine nS ?_;refine wc_ret ?_
  exact ⟨trivial, _, rfl, [], lf⟩
end Go.Proofs.YthiijfbcfoifnaaGreatDoor
