/- Texts of the proof: Z31, ZS, Z23, Eng95, Z32, ZO. -/
import Derived.Test.YthiijfbcfoifnaaGreatDoorG05
import Derived.Test.YthiijfbcfoifnaaGreatDoorG04
import Derived.Test.YthiijfbcfoifnaaGreatDoorG02

set_option linter.unusedVariables false
set_option linter.unusedSimpArgs false
set_option linter.unusedSectionVars false

namespace Go.Proofs.YthiijfbcfoifnaaGreatDoor
open Go.Eng Go.Plain
set_option maxHeartbeats 8000000
set_option maxRecDepth 20000
attribute [local irreducible] WC RegS RegD SeqQ BlkQ ScoQ RegK CutK Sat SatN FnIs LoopQ StepIs OpIs
theorem key_eq (a b : List UInt8) : EqOk Tryz.prog 2 24 (encK a) (encK b) (decide (byI a = byI b)) :=
 eq_vec tab_ok (P := Tryz.prog) Tryz.underlying24 rfl (fun _ => rfl) rfl (fun _ _ => eq_int (P := Tryz.prog) Tryz.underlying5)
theorem cfg_eq (c : SCfg) : EqOk Tryz.prog 3 26 (encCfg c) (encCfg c) true := by
 refine (eq_struct (P := Tryz.prog) Tryz.underlying26 (by kernel_rfl) rfl rfl (eqf_cons tab_ok rfl (by kernel_rfl) rfl rfl ((eq_int (P := Tryz.prog) Tryz.underlying3).up (by decide)) rfl (eqf_cons tab_ok rfl (by kernel_rfl) rfl rfl ((eq_int (P := Tryz.prog) Tryz.underlying3).up (by decide)) rfl (eqf_cons tab_ok rfl (by kernel_rfl) rfl rfl ((eq_int (P := Tryz.prog) Tryz.underlying3).up (by decide)) rfl (eqf_cons tab_ok rfl (by kernel_rfl) rfl rfl ((eq_int (P := Tryz.prog) Tryz.underlying3).up (by decide)) rfl (eqf_cons tab_ok rfl (by kernel_rfl) rfl rfl ((eq_int (P := Tryz.prog) Tryz.underlying22).up (by decide)) rfl (eqf_cons tab_ok rfl (by kernel_rfl) rfl rfl ((eq_int (P := Tryz.prog) Tryz.underlying22).up (by decide)) rfl (eqf_cons tab_ok rfl (by kernel_rfl) rfl rfl (key_eq _ _) rfl (eqf_cons tab_ok rfl (by kernel_rfl) rfl rfl ((eq_int (P := Tryz.prog) Tryz.underlying5).up (by decide)) rfl eqf_nil))))))))).cast ?_
 simp
theorem lsame_is (c : SCfg) (l : List (List POp)) (bs : List SAct) (hl : Bd l) (hb : bs.length ≤ 1000000000) : FnIs Tryz.prog 16 [.d (encScr c l bs), .d (encScr c l bs)] [] (.int .i64 1) [] := by
 have hal := alike_is bs bs hb hb
 rw [if_pos rfl] at hal
 have hl0 := hl.1
 have d0 : (!true) = false := rfl
 have q1 : (!decide ((l.length : Int) = (l.length : Int))) = false := by simp
 refine fnIs_of tab_ok Tryz.func16 rfl rfl rfl ?_;refine sR ?_;iterate 2 refine rN ?_
 refine rC ?_;refine nQ ?_;refine sR ?_;refine rC ?_;refine rQ iB ?_;refine rC ?_;refine rQ iB ?_;refine rQ (neq_data rfl rfl rfl rfl (by kernel_rfl) (by decide) (cfg_eq c)) ?_
 refine rC ?_;refine rP ?_;refine rC ?_;refine rP ?_;refine rQ iB ?_;refine rP ?_;refine rQ iE ?_;refine rP ?_;refine rC ?_;refine rP ?_;refine rQ iB ?_;refine rP ?_
 refine rQ iE ?_;refine rP ?_;refine rC ?_;refine rQ iG ?_;refine nS ?_;refine wF ?_;refine kS ?_;refine qR ?_;refine rC ?_;refine nS ?_;refine wc_block ?_
 refine wc_inv (fun i : Nat => ⟨[(5, .int .i64 i), (3, .ptr 65 []), (2, .ptr 64 [])], [(64, some (.box 30 (.d (encScr c l bs)))), (65, some (.box 30 (.d (encScr c l bs))))], 72, Tryz.f16.ntmps, 64⟩) (fun i => i ≤ l.length) (fun i => l.length - i) 0 [(64, some _), (65, some _)] (Nat.zero_le _)
  (.of rfl rfl rfl rfl rfl ⟨⟨_, rfl, .refl _⟩, rfl, ⟨_, rfl, .refl _⟩, rfl, ⟨_, rfl, .refl _⟩, rfl, trivial⟩ ⟨⟨rfl, rfl, _, rfl, .refl _⟩, ⟨rfl, rfl, _, rfl, .refl _⟩, trivial⟩) ?_
 intro i hi
 refine wc_of ?_
 by_cases hlt : i < l.length
 ·have d1 : decide ((i : Int) < (l.length : Int)) = true := dT (by omega)
  obtain ⟨p, hp⟩ : ∃ p, l[i]? = some p := ⟨_, List.getElem?_eq_getElem hlt⟩
  have hp2 : l[((i : Int)).toNat]? = some p := by rw [Int.toNat_natCast]; exact hp
  have hpl := hl.2 p (List.mem_of_getElem? hp)
  have q2 : (!decide ((p.length : Int) = (p.length : Int))) = false := by simp
  refine qR ?_;iterate 2 refine rC ?_
  refine rQ iB ?_;refine rQ iE ?_;refine rC ?_;refine nS ?_;refine wT ?_;refine kS ?_;refine wc_seq ?_;refine wc_block ?_;refine wc_seq ?_;refine wc_draw (by kernel_rfl) ?_
  refine dC [2] [] ?_;refine dQ [30] [64] iB ?_;refine dC [5] [] ?_;refine dQ [31, 32] [] (index_arr tab_ok rfl rfl rfl rfl rfl (by omega) hp2) ?_;refine dQ [33] [] iL ?_
  refine dC [3] [] ?_;refine dQ [35] [65] iB ?_;refine dC [5] [] ?_;refine dQ [36, 37] [] (index_arr tab_ok rfl rfl rfl rfl rfl (by omega) hp2) ?_;refine dQ [38] [] iL ?_
  refine dC [34] [] ?_;refine dC [39] [] ?_;refine dreg_end (by kernel_rfl) ?_;refine seq_n ?_;refine qR ?_;refine rC ?_;refine rQ iE ?_;refine rC ?_;refine rQ iE ?_
  refine rC ?_;refine nS ?_;refine wF ?_;refine kS ?_;refine sR ?_;refine rC ?_;refine nS ?_;refine wc_block ?_
  refine wc_inv (fun k : Nat => ⟨[(8, .int .i64 k), (7, .d (encP p)), (6, .d (encP p)), (5, .int .i64 i), (3, .ptr 65 []), (2, .ptr 64 [])], [(64, some (.box 30 (.d (encScr c l bs)))), (65, some (.box 30 (.d (encScr c l bs))))], 72, Tryz.f16.ntmps, 64⟩) (fun k => k ≤ p.length) (fun k => p.length - k) 0 [(64, some _), (65, some _)] (Nat.zero_le _)
   (.of rfl rfl rfl rfl rfl ⟨⟨_, rfl, .refl _⟩, rfl, ⟨_, rfl, .refl _⟩, rfl, ⟨_, rfl, .refl _⟩, rfl, ⟨_, rfl, .refl _⟩, rfl, ⟨_, rfl, .refl _⟩, rfl, ⟨_, rfl, .refl _⟩, rfl, trivial⟩ ⟨⟨rfl, rfl, _, rfl, .refl _⟩, ⟨rfl, rfl, _, rfl, .refl _⟩, trivial⟩) ?_
  intro k hk
  refine wc_of ?_
  by_cases hkl : k < p.length
  ·have d2 : decide ((k : Int) < (p.length : Int)) = true := dT (by omega)
   obtain ⟨o, ho⟩ : ∃ o, p[k]? = some o := ⟨_, List.getElem?_eq_getElem hkl⟩
   have ho2 : p[((k : Int)).toNat]? = some o := by rw [Int.toNat_natCast]; exact ho
   have e1 : (!decide (o.kind = o.kind)) = false := by simp
   have e2 : (!decide (o.index = o.index)) = false := by simp
   have e3 : (!decide (strOf (byI o.data) = strOf (byI o.data))) = false := by simp
   refine qR ?_;iterate 2 refine rC ?_
   refine rQ iE ?_;refine rC ?_;refine nS ?_;refine wT ?_;refine kS ?_;refine wc_seq ?_;refine wc_block ?_;refine wc_seq ?_;refine wc_draw (by kernel_rfl) ?_;refine dC [6] [] ?_
   refine dC [8] [] ?_;refine dQ [51, 52] [] (index_arr tab_ok rfl rfl rfl rfl rfl (by omega) ho2) ?_;refine dC [53] [] ?_;refine dQ [54] [] iL ?_;refine dC [7] [] ?_
   refine dC [8] [] ?_;refine dQ [56, 57] [] (index_arr tab_ok rfl rfl rfl rfl rfl (by omega) ho2) ?_;refine dC [58] [] ?_;refine dQ [59] [] iL ?_;refine dC [55, 60] [] ?_
   refine dC [61] [] ?_;refine dreg_onq [62, 6] [] rfl rfl (by assumption) rfl (step_C tab_ok (fun K hk => hk)) ?_;refine dreg_onq [62, 8] [] rfl rfl (by assumption) rfl (step_C tab_ok (fun K hk => hk)) ?_
   refine dreg_onq [62, 63, 64] [] rfl rfl (by assumption) rfl (index_arr tab_ok rfl rfl rfl rfl rfl (by omega) ho2) ?_;refine dreg_onq [62, 65] [] rfl rfl (by assumption) rfl (step_C tab_ok (fun K hk => hk)) ?_
   refine dreg_onq [62, 66] [] rfl rfl (by assumption) rfl (load_i tab_ok rfl rfl) ?_;refine dreg_onq [62, 7] [] rfl rfl (by assumption) rfl (step_C tab_ok (fun K hk => hk)) ?_
   refine dreg_onq [62, 8] [] rfl rfl (by assumption) rfl (step_C tab_ok (fun K hk => hk)) ?_;refine dreg_onq [62, 68, 69] [] rfl rfl (by assumption) rfl (index_arr tab_ok rfl rfl rfl rfl rfl (by omega) ho2) ?_
   refine dreg_onq [62, 70] [] rfl rfl (by assumption) rfl (step_C tab_ok (fun K hk => hk)) ?_;refine dreg_onq [62, 71] [] rfl rfl (by assumption) rfl (load_i tab_ok rfl rfl) ?_
   refine dreg_onq [62, 67, 72] [] rfl rfl (by assumption) rfl (step_C tab_ok (fun K hk => hk)) ?_;refine dQ [62, 73] [] iF ?_;refine dC [74] [] ?_;refine dreg_onq [75, 6] [] rfl rfl (by assumption) rfl (step_C tab_ok (fun K hk => hk)) ?_
   refine dreg_onq [75, 8] [] rfl rfl (by assumption) rfl (step_C tab_ok (fun K hk => hk)) ?_;refine dreg_onq [75, 76, 77] [] rfl rfl (by assumption) rfl (index_arr tab_ok rfl rfl rfl rfl rfl (by omega) ho2) ?_
   refine dreg_onq [75, 78] [] rfl rfl (by assumption) rfl (step_C tab_ok (fun K hk => hk)) ?_;refine dreg_onq [75, 79] [] rfl rfl (by assumption) rfl (load_i tab_ok rfl rfl) ?_
   refine dreg_onq [75, 80] [] rfl rfl (by assumption) rfl (conv_bytes tab_ok rfl rfl rfl rfl) ?_;refine dreg_onq [75, 7] [] rfl rfl (by assumption) rfl (step_C tab_ok (fun K hk => hk)) ?_
   refine dreg_onq [75, 8] [] rfl rfl (by assumption) rfl (step_C tab_ok (fun K hk => hk)) ?_;refine dreg_onq [75, 82, 83] [] rfl rfl (by assumption) rfl (index_arr tab_ok rfl rfl rfl rfl rfl (by omega) ho2) ?_
   refine dreg_onq [75, 84] [] rfl rfl (by assumption) rfl (step_C tab_ok (fun K hk => hk)) ?_;refine dreg_onq [75, 85] [] rfl rfl (by assumption) rfl (load_i tab_ok rfl rfl) ?_
   refine dreg_onq [75, 86] [] rfl rfl (by assumption) rfl (conv_bytes tab_ok rfl rfl rfl rfl) ?_;refine dreg_onq [75, 81, 87] [] rfl rfl (by assumption) rfl (neq_str tab_ok rfl rfl rfl) ?_
   refine dQ [75, 88] [] iF ?_;refine dreg_end (by kernel_rfl) ?_;refine seq_n ?_;refine wF ?_;refine wc_skip ?_;refine blk_n ?_;refine seq_n ?_;refine wc_region ?_
   refine rC ?_;refine rQ iD ?_;refine rC ?_;refine reg_nil ?_
   exact loop_n (k + 1) [(64, some _), (65, some _)] hkl (by omega) (.of rfl rfl rfl rfl rfl ⟨⟨_, rfl, .refl _⟩, rfl, ⟨_, rfl, .refl _⟩, rfl, ⟨_, rfl, .refl _⟩, rfl, ⟨_, rfl, .refl _⟩, rfl, ⟨_, rfl, .refl _⟩, rfl, ⟨_, rfl, .refl _⟩, rfl, trivial⟩ ⟨⟨rfl, rfl, _, rfl, .refl _⟩, ⟨rfl, rfl, _, rfl, .refl _⟩, trivial⟩)
  ·have d2 : decide ((k : Int) < (p.length : Int)) = false := dF (by omega)
   refine qR ?_;iterate 2 refine rC ?_
   refine rQ iE ?_;refine rC ?_;refine nS ?_;refine wF ?_;refine wc_exit ?_;refine seq_x ?_;refine loop_x ?_;refine blk_x ?_;refine blk_n ?_;refine seq_n ?_;refine wc_region ?_
   refine rC ?_;refine rQ iD ?_;refine rC ?_;refine reg_nil ?_
   exact loop_n (i + 1) [(64, some _), (65, some _)] hlt (by omega) (.of rfl rfl rfl rfl rfl ⟨⟨_, rfl, .refl _⟩, rfl, ⟨_, rfl, .refl _⟩, rfl, ⟨_, rfl, .refl _⟩, rfl, trivial⟩ ⟨⟨rfl, rfl, _, rfl, .refl _⟩, ⟨rfl, rfl, _, rfl, .refl _⟩, trivial⟩)
 ·have d1 : decide ((i : Int) < (l.length : Int)) = false := dF (by omega)
  refine qR ?_;iterate 2 refine rC ?_
  refine rQ iB ?_;refine rQ iE ?_;refine rC ?_;refine nS ?_;refine wF ?_;refine wc_exit ?_;refine seq_x ?_;refine loop_x ?_;refine blk_x ?_;refine seq_n ?_;refine sR ?_
  refine rC ?_;refine rQ iB ?_;refine rC ?_;refine rQ iB ?_;refine rQ (call_r hal rfl rfl (arg_e (arg_e arg_nil)) (.inl rfl) (fun _ => rfl)) ?_;refine rC ?_;refine nS ?_
  refine wc_ret ?_
  exact ⟨trivial, [], lf⟩
end Go.Proofs.YthiijfbcfoifnaaGreatDoor
namespace Go.Plain
open Go.Eng Go.Lib
theorem parse_lines {c : SCfg} {l : List (List POp)} {xs : List (List UInt8)} (hc : c.Wr) (hl : OkL l) (hP : chkP l = 0) (hx : ∀ w ∈ xs, (10 : UInt8) ∉ w) : parseS (linesT (headsT c ++ (linesP l ++ (sActions :: xs)))) = match actsS xs (6 + (linesP l).length) with
  | .inr i => (zScr, i + 1, 5)
  | .inl bs => if schk c l bs ≠ 0 then (zScr, 0, schk c l bs) else ((c, l, bs), 0, 0) := by
 obtain ⟨L, hL⟩ : ∃ L, headsT c ++ (linesP l ++ (sActions :: xs)) = L := ⟨_, rfl⟩
 have hne : L ≠ [] := by rw [← hL]; simp [headsT]
 have hlast : (linesT L).getLast? = some 10 := linesT_last hne
 have hsp : splitL (linesT L).dropLast 10 = L := by
  refine split_of 10 _ _ hne ?_ ?_
  ·intro w hw
   rw [← hL] at hw
   simp only [List.mem_append, List.mem_cons] at hw
   rcases hw with hw | hw | rfl | hw
   ·exact headsT_no10 c w hw
   ·exact (linesP_ne hw).2
   ·decide
   ·exact hx w hw
  ·rw [← last_drop hlast]; rfl
 rw [hL, parseS, if_pos hlast, hsp, parseLs, ← hL]
 have hd : (headsT c ++ (linesP l ++ (sActions :: xs))).drop 5 = linesP l ++ sActions :: xs := by
  rw [List.drop_left' (by rfl)]
 have hd2 : ∀ k, k = (linesP l).length → (headsT c ++ (linesP l ++ (sActions :: xs))).drop (6 + k) = xs := by
  rintro _ rfl
  rw [show 6 + (linesP l).length = 5 + ((linesP l).length + 1) by omega, ← List.drop_drop, hd, List.drop_append]
  simp
 simp only [show headsS 5 0 (headsT c ++ (linesP l ++ (sActions :: xs))) zCfg = .inl c from heads_back hc _, hd, find_actions fun w hw => (linesP_ne hw).1, List.take_left, linesP_text, parse_back hl hP, hd2 _ rfl]
 rfl
theorem acts_bad : ∀ (bs : List SAct) (w : List UInt8) (i : Nat), (∀ a ∈ bs, a.Wr) → readA w = none → actsS (bs.map lineA ++ [w]) i = .inr (i + bs.length)
 | [], w, i, _, hw => by simp [actsS, hw]
 | a :: bs, w, i, h, hw => by
  rw [List.map_cons, List.cons_append, actsS, readA_back (h a (by simp))]
  simp only [acts_bad bs w (i + 1) (fun x hx => h x (by simp [hx])) hw, List.length_cons]
  congr 1; omega
theorem linesT_snoc (l : List (List UInt8)) (w : List UInt8) : linesT (l ++ [w]) = linesT l ++ (w ++ [10]) := by simp [linesT]
theorem textS_snoc (c : SCfg) (l : List (List POp)) (bs : List SAct) (w : List UInt8) : linesT (headsT c ++ (linesP l ++ (sActions :: (bs.map lineA ++ [w])))) = textS c (textP l) bs ++ (w ++ [10]) := by
 rw [← linesS_text, ← linesT_snoc, linesS]
 congr 1
 simp
theorem actsT_rep (n : Nat) (a : SAct) : (actsT (List.replicate n a)).length = n * ((lineA a).length + 1) := by
 induction n with
 | zero => simp [actsT]
 | succ n ih => rw [List.replicate_succ, actsT, List.flatMap_cons, List.length_append]; unfold actsT at ih; rw [ih, Nat.succ_mul]; simp; omega
theorem fill_set {α : Type} (a z : α) (i N : Nat) (h : i < N) : (List.replicate i a ++ List.replicate (N - i) z).set i a = List.replicate (i + 1) a ++ List.replicate (N - (i + 1)) z := by
 rw [List.set_append_right _ _ (by simp), List.length_replicate, Nat.sub_self, show N - i = (N - (i + 1)) + 1 by omega, List.replicate_succ, List.set_cons_zero, List.replicate_succ', List.append_assoc]
 rfl
theorem fill_get {α : Type} (a z : α) (i N : Nat) (h : i < N) : (List.replicate i a ++ List.replicate (N - i) z)[i]? = some z := by
 rw [List.getElem?_append_right (by simp), List.length_replicate, Nat.sub_self, show N - i = (N - (i + 1)) + 1 by omega, List.replicate_succ]; rfl
end Go.Plain
namespace Go.Proofs.YthiijfbcfoifnaaGreatDoor
open Go.Eng Go.Plain
set_option maxHeartbeats 8000000
set_option maxRecDepth 20000
attribute [local irreducible] WC RegS RegD SeqQ BlkQ ScoQ RegK CutK Sat SatN FnIs LoopQ StepIs OpIs
def encScrV (c : SCfg) (l : List (List POp)) (V : List (Bool × SAct)) : D := .cons (encCfg c) (.cons (encPL l) (.cons (.arr 5 encAV V) .nil))
abbrev zAct : SAct := ⟨0, 0, 0, [], 0⟩
def manyV (bs : List SAct) : List (Bool × SAct) := List.replicate 4097 (true, zAct) ++ bs.map (Prod.mk false)
def manyA (bs : List SAct) : List SAct := List.replicate 4097 zAct ++ bs
end Go.Proofs.YthiijfbcfoifnaaGreatDoor
namespace Go.Eng
open Go.RowKit
section
variable {P : Program} {T : Tab} {env : Env} {h : Upds} {n : Nat}
theorem make_fullB (hT : TabOk P T) {t e : Nat} {re : TyR} {s : Nat} {α : Type} {enc : α → D} {x y : Operand} {k k' : IntKind} {N : Nat} (z : α) (ht : tdesc T t = some (.slice e)) (he : lk T e = some re) (hs : Nat.beq re.size s = true) (hs0 : Nat.blt 0 s = true) (hz : re.zero = enc z)
  (hx : evalA env x = some (.int k N)) (hy : evalA env y = some (.int k' N)) (hlen : N ≤ 4194304) (hbytes : Nat.ble re.bytes 33554432 = true) :
  StepIs P (.makeSlice t x y) env h n (some (.own n 0 N s none)) [(n, some (.ds e s true enc (List.replicate N z)))] := .of_comes fun C G st σ w a o ho hA hdst hst hn => by
 have hs0 := Nat.le_of_ble_eq_true hs0
 have hs := Nat.eq_of_beq_eq_true hs
 have hb := Nat.le_of_ble_eq_true hbytes
 obtain ⟨ud, hud, hdd⟩ := tdesc_und hT ht
 cases hdd
 obtain ⟨i, zv, hi, hi1, hi2, hi3, hi4⟩ := (hT e re he).info
 obtain ⟨hx1, _⟩ := RelV.sc.1 (ev_sound hst (hA.ev hx)).1
 obtain ⟨hy1, _⟩ := RelV.sc.1 (ev_sound hst (hA.ev hy)).1
 have hzl : zv.cells.toList.length = s := by
  have h1 := Enc.len _ _ (Enc.closed w (fun _ => False) _ (hT e re he).zero)
  rw [hi4, (hT e re he).zsize, hs] at h1
  exact h1
 have henc : Enc w (st.X C.X0 σ) (enc z) zv.cells.toList := by rw [← hz, ← hi4]; exact Enc.closed _ _ _ (hT e re he).zero
 have hnn : ¬ G n := hn n (Nat.le_refl _) (by omega)
 have hmade : (madeCells zv.cells (N * s)).toList = cat (fun _ => zv.cells.toList) N := by
  have := made_cells zv.cells.toList (by omega) N
  rw [hzl] at this
  rw [cat_const, ← this]
  simp [madeCells]
 have hcl : (cat (fun _ => zv.cells.toList) N).length = N * s := cat_len _ fun _ _ => hzl
 have hsz : (madeCells zv.cells (N * s)).size = N * s := by rw [← Array.length_toList, hmade, hcl]
 obtain ⟨hst', hσn⟩ := hst.new hnn (madeCells zv.cells (N * s)) e N (.ds e s true enc (List.replicate N z)) trivial (fun σ' w' X' hk1 hk2 hσn hh => by
  refine .inr ⟨w.heap.size, N, madeCells zv.cells (N * s), hσn, fun _ => by simp, hh, hsz, by simp, by simp only [maxLen]; omega, fun _ => zv.cells.toList, fun i hi => ⟨by simpa using hk2 _ _ henc, hzl⟩, ?_⟩
  rw [hmade, List.length_replicate, ← hcl, List.take_length])
 have hbb : i.bytes * N ≤ 33554432 * 4194304 := Nat.mul_le_mul (by omega) hlen
 have hrun := run_make (P := P) w t e i zv hud hi hi3 k k' N N (by omega) (Int.le_refl _) (by
  have : ((i.bytes * N : Nat) : Int) ≤ 281474976710656 := by omega
  rwa [Int.natCast_mul] at this) (by omega)
 simp only [Int.toNat_natCast, hi1, hs] at hrun
 refine ⟨_, _, .value (.slice (some ⟨w.heap.size, 0, none⟩) N N), _, _, _, fun r => G r ∨ r = n, ⟨rfl, rfl⟩, ?_, .inl rfl, by rw [St.put_upd]; exact hst'.set hdst (u := .slice (some ⟨w.heap.size, 0, none⟩) N N) (RelV.own.2 (.inr ⟨w.heap.size, N, ⟨w.heap.size, 0, none⟩, hσn, by simp, by simp, by simp, by simp, fun _ => by simp⟩)) (.inr rfl),
  fun r hr => Or.inl hr, fun r hr => Or.imp id (fun h => ⟨by omega, by omega⟩) hr⟩
 simp only [execOp, ho, hx1, hy1, Sem.run_bind, hrun, Result.andThen_ok, Sem.run_pure]
end
end Go.Eng
namespace Go.Proofs.YthiijfbcfoifnaaGreatDoor
open Go.Eng Go.Plain
set_option maxHeartbeats 8000000
set_option maxRecDepth 20000
attribute [local irreducible] WC RegS RegD SeqQ BlkQ ScoQ RegK CutK Sat SatN FnIs LoopQ StepIs OpIs
theorem exD_is : FnIs Tryz.prog 17 [] [] (.d (.cons (encCfg exC) (.cons (.arr 1 encNL [()]) (.cons (.arr 5 encAV exV) .nil)))) [] :=
 ex_is.freeze_out 64 _ rfl (Frz.dcons (.refl _) (Frz.dcons (.refl _) (Frz.dcons (Frz.own rfl) (.refl _)))) trivial
theorem scrE_le (V : List (Bool × SAct)) (bs : List SAct) (hb : bs = V.map (·.2)) (hV : ∀ x ∈ V, AVOk x) : DLe (.cons (encCfg exC) (.cons (.arr 1 encNL [()]) (.cons (.arr 5 encAV V) .nil))) (encScr exC [[]] bs) := DLe.cons (.refl _) (DLe.cons nl_le (DLe.cons (encAVs_le hb hV) (.refl _)))
def zB (n : Nat) : List UInt8 := List.replicate n 0
theorem zB_byI (n : Nat) : byI (zB n) = List.replicate n (0 : Int) := by rw [byI, zB, List.map_replicate]; rfl
theorem frzN {r n m : Nat} {t : TypeId} {ex : Bool} {cap : Option Nat} (h : n = m) : Frz r (.ds t 1 ex encU8 (List.replicate n (0 : Int))) (.own r 0 m 1 cap) (.d (encB (zB n))) := by
 have := Frz.own (r := r) (te := t) (ex := ex) (enc := encU8) (xs := List.replicate n (0 : Int)) (s := 1) (len := m) (cap := cap) (by rw [List.length_replicate]; exact h.symm)
 show Frz r _ _ (.d (.arr 1 encU8 (byI (zB n))))
 rw [zB_byI]
 exact this
abbrev b257 : List UInt8 := zB 257
abbrev b256 : List UInt8 := zB 256
abbrev V13 : List (Bool × SAct) := [(true, ⟨0, 0, 0, [], 0⟩), (true, ⟨6, 0, 0, [], 0⟩), (true, ⟨1, 0, 1, [], 0⟩), (true, ⟨1, -1, 0, [], 0⟩), (true, ⟨2, 0, 4, [], 0⟩), (false, ⟨2, 0, 0, b257, 0⟩), (true, ⟨2, 1, 0, [], 0⟩), (false, ⟨3, 0, 0, [0], 0⟩), (true, ⟨3, 0, -1, [], 0⟩), (true, ⟨4, 0, 0, [], -1⟩), (true, ⟨4, 1, 0, [], 0⟩), (true, ⟨5, 0, 0, [], 1⟩), (true, ⟨5, 0, 1, [], 0⟩)]
theorem V13_bad : ∀ v ∈ V13, schk exC [[]] [v.2] = 1 := by decide +kernel
theorem V13_ok : ∀ v ∈ V13, AVOk v := by unfold AVOk; decide +kernel
abbrev aZ : Bool × SAct := (true, zAct)
abbrev aA : Bool × SAct := (false, ⟨2, 0, 3, b256, 0⟩)
abbrev aB : Bool × SAct := (true, ⟨2, 0, 3, [], 0⟩)
abbrev aF : SAct := ⟨5, 0, 0, [], 0⟩
def lA : List SAct := List.replicate 4096 aA.2
def lB : List SAct := List.replicate 4096 aB.2
theorem schk_rep {a : SAct} (h : actB 2 4 a = true) : schk exC [[]] (List.replicate 4096 a) = 0 := by
 have h1 : wchk exC = 0 := by decide +kernel
 have h2 : chkP [[]] = 0 := exP
 have h3 : (sectN exC.blocks.toNat : Int) = 4 := by decide +kernel
 rw [schk, if_neg (fun e => e h1), if_neg (fun e => e h2), if_neg (fun e => e (by decide)), if_neg (by rw [List.length_replicate]; omega), h3, if_pos]
 refine List.all_eq_true.2 fun x hx => ?_
 obtain ⟨_, rfl⟩ := List.mem_replicate.1 hx
 exact h
theorem lA_chk : schk exC [[]] lA = 0 := schk_rep (by decide +kernel)
theorem lB_chk : schk exC [[]] lB = 0 := schk_rep (by decide +kernel)
theorem lBF_chk : schk exC [[]] (lB ++ [aF]) = 3 := by
 have h1 : wchk exC = 0 := by decide +kernel
 have h2 : chkP [[]] = 0 := exP
 rw [schk, if_neg (fun e => e h1), if_neg (fun e => e h2), if_neg (fun e => e (by decide)), if_pos (by rw [List.length_append, lB, List.length_replicate]; decide)]
def hdT : List UInt8 := linesT (headsT exC) ++ textP [[]] ++ (sActions ++ [10])
theorem hdT_len : hdT.length ≤ 1000 := by decide +kernel
theorem textS_hd (bs : List SAct) : textS exC (textP [[]]) bs = hdT ++ actsT bs := rfl
theorem tA : textP2 exC [[]] lA = ([], 3) := by
 have h1 : (lineA aA.2).length = 519 := by decide +kernel
 rw [textP2, if_neg (fun e => e lA_chk), if_pos]
 rw [textS_hd, List.length_append, lA, actsT_rep, h1]
 clear h1
 generalize hdT.length = q at *
 omega
def tX : List UInt8 := textS exC (textP [[]]) lB
theorem tX_len : tX.length ≤ 50000 := by
 have h1 : (lineA aB.2).length = 8 := by decide +kernel
 have h2 := hdT_len
 rw [tX, textS_hd, List.length_append, lB, actsT_rep, h1]
 clear h1
 generalize hdT.length = q at *
 omega
theorem tB : textP2 exC [[]] lB = (tX, 0) := by
 have := tX_len
 rw [textP2, if_neg (fun e => e lB_chk), if_neg (by show ¬ 1048576 < tX.length; omega)]
 rfl
theorem lB_wr : ∀ a ∈ lB, a.Wr := by
 intro a ha
 obtain ⟨_, rfl⟩ := List.mem_replicate.1 ha
 exact ⟨by decide, by decide, by decide, fun _ => rfl, by decide⟩
theorem exC_wr : exC.Wr := exC_ok.wr (by decide +kernel)
theorem pX : parseX tX = ((exC, [[]], lB), 0, 0) := by
 have := tX_len
 rw [parseX, if_neg (by omega)]
 exact parse_textS exC_wr nok lB_wr lB_chk
abbrev fF : List UInt8 := [102, 97, 108, 108, 10]
abbrev fG : List UInt8 := [102, 97, 108, 108, 32, 10]
theorem pF : parseX (tX ++ fF) = (zScr, 0, 3) := by
 have := tX_len
 have hw : ∀ a ∈ lB ++ [aF], a.Wr := by
  intro a ha
  rcases List.mem_append.1 ha with h | h
  ·exact lB_wr a h
  ·obtain rfl := List.mem_singleton.1 h
   exact ⟨by decide, by decide, by decide, fun _ => rfl, by decide⟩
 rw [parseX, if_neg (by rw [List.length_append]; show ¬ 1048576 < tX.length + 5; omega)]
 have e : tX ++ fF = linesT (headsT exC ++ (linesP [[]] ++ (sActions :: (lB ++ [aF]).map lineA))) := by
  rw [List.map_append, List.map_cons, List.map_nil, textS_snoc]; rfl
 rw [e, parse_lines exC_wr nok exP (fun w hw => by
  obtain ⟨a, _, rfl⟩ := List.mem_map.1 hw
  exact lineA_no10 a), acts_back _ _ hw]
 simp only [lBF_chk]
 rfl
theorem pG : ∃ n : Nat, 4096 < n ∧ parseX (tX ++ fG) = (zScr, n, 5) := by
 have := tX_len
 have hr : readA [102, 97, 108, 108, 32] = none := by decide +kernel
 refine ⟨6 + (linesP [[]]).length + lB.length + 1, by rw [lB, List.length_replicate]; omega, ?_⟩
 rw [parseX, if_neg (by rw [List.length_append]; show ¬ 1048576 < tX.length + 6; omega)]
 have e : tX ++ fG = linesT (headsT exC ++ (linesP [[]] ++ (sActions :: (lB.map lineA ++ [[102, 97, 108, 108, 32]])))) := by rw [textS_snoc]; rfl
 rw [e, parse_lines exC_wr nok exP (fun w hw => by
  rcases List.mem_append.1 hw with h | h
  ·obtain ⟨a, _, rfl⟩ := List.mem_map.1 h
   exact lineA_no10 a
  ·obtain rfl := List.mem_singleton.1 h
   decide), acts_bad _ _ _ lB_wr hr]
theorem pH : parseX (zB 1048577) = (zScr, 0, 3) := by rw [parseX, if_pos (by rw [zB, List.length_replicate]; omega)]
theorem pI : parseX (zB 1048576) = (zScr, 0, 5) := by
 rw [parseX, if_neg (by rw [zB, List.length_replicate]; omega), parseS, if_neg]
 rw [zB, List.getLast?_replicate]
 simp
theorem rep_ok {x : Bool × SAct} (hx : AVOk x) (i : Nat) : ∀ v ∈ List.replicate i x, AVOk v := fun v hv => by
 obtain ⟨_, rfl⟩ := List.mem_replicate.1 hv; exact hx
theorem aA_ok : AVOk aA := fun h => by cases h
theorem aB_ok : AVOk aB := fun _ => rfl
theorem lA_map : lA = (List.replicate 4096 aA).map (·.2) := by rw [lA, List.map_replicate]
theorem lB_map : lB = (List.replicate 4096 aB).map (·.2) := by rw [lB, List.map_replicate]
theorem lBF_map : lB ++ [aF] = (List.replicate 4096 aB ++ [(true, aF)]).map (·.2) := by rw [List.map_append, ← lB_map]; rfl
theorem lBF_ok : ∀ v ∈ List.replicate 4096 aB ++ [(true, aF)], AVOk v := by
 intro v hv
 rcases List.mem_append.1 hv with h | h
 ·exact rep_ok aB_ok _ v h
 ·obtain rfl := List.mem_singleton.1 h; exact fun _ => rfl
theorem lX_len (a : SAct) : (List.replicate 4096 a).length ≤ 1000000000 := by rw [List.length_replicate]; omega
theorem lA_Ok : ∀ a ∈ lA, a.Ok := by
 intro a ha
 obtain ⟨_, rfl⟩ := List.mem_replicate.1 ha
 exact ⟨by decide, by unfold InI; decide, by unfold InI; decide, by unfold InI; decide⟩
theorem lB_Ok : ∀ a ∈ lB, a.Ok := fun a ha => (lB_wr a ha).ok
theorem law34_known : FnIs Tryz.prog 5 [] [] (.bool true) [] := by
 have hTA := stext_is exC [[]] lA exC_ok nb nok (lX_len _) lA_Ok
 have hTB := stext_is exC [[]] lB exC_ok nb nok (lX_len _) lB_Ok
 have hPX := sparse_is tX
 have hPH := sparse_is (zB 1048577)
 have hPI := sparse_is (zB 1048576)
 have hPF := sparse_is (tX ++ fF)
 have hPG := sparse_is (tX ++ fG)
 have hCB := scheck_is exC [[]] lB exC_ok nb (lX_len _)
 have hCF := scheck_is exC [[]] (lB ++ [aF]) exC_ok nb (by rw [List.length_append, lB, List.length_replicate]; decide)
 have hSM := lsame_is exC [[]] lB nb (lX_len _)
 obtain ⟨ng, hng, hpg⟩ := pG
 rw [tA] at hTA
 rw [tB] at hTB
 rw [pX] at hPX
 rw [pH] at hPH
 rw [pI] at hPI
 rw [pF] at hPF
 rw [hpg] at hPG
 rw [lB_chk] at hCB
 rw [lBF_chk] at hCF
 have hXl := tX_len
 have hl151 : tX.length + fF.length ≤ 9223372036854775807 := by show tX.length + 5 ≤ _; omega
 have hl158 : tX.length + fG.length ≤ 9223372036854775807 := by show tX.length + 6 ≤ _; omega
 have hN : 4096 = (List.replicate 4096 aA).length := (List.length_replicate).symm
 have hNB : 4096 = (List.replicate 4096 aB).length := (List.length_replicate).symm
 have hlenB : (List.replicate 4096 aB).length + [(true, aF)].length ≤ 1048576 := by rw [← hNB]; decide
 have hNF : (List.replicate 4096 aB).length + [(true, aF)].length = (List.replicate 4096 aB ++ [(true, aF)]).length := (List.length_append).symm
 have dng : decide (4096 < (ng : Int)) = true := dT (by omega)
 clear hXl
 generalize tX = tx at *
 refine fnIs_of tab_ok Tryz.func5 rfl rfl rfl ?_;refine sR ?_;refine rC ?_;refine nR ?_;refine rQ (call_r exD_is rfl rfl arg_nil (.inl rfl) (fun _ => rfl)) ?_;refine rN ?_
 refine rW ?_;refine nQ ?_;refine sR ?_;iterate 5 refine rQ iS ?_
 refine rQ (StepIs.frozen (make_full (enc := encU8) (s := 1) (N := 257) tab_ok 0 rfl rfl rfl rfl rfl rfl rfl (by decide) rfl) (frzN rfl)) ?_;iterate 2 refine rQ iS ?_
 refine rQ (StepIs.frozen (build_slice (s := 1) tab_ok rfl rfl rfl rfl rfl rfl rfl rfl) (Frz.lits1 (enc := encU8) (0 : Int) rfl rfl)) ?_;iterate 6 refine rQ iS ?_
 refine rQ (StepIs.frozen (build_slice (s := 5) tab_ok rfl rfl rfl rfl rfl rfl rfl rfl) (Frz.litsN (enc := encAV) V13 rfl (fun x _ => encAV_size x))) ?_;refine rQ iE ?_
 refine rC ?_;refine nS ?_;refine wc_block ?_
 refine wc_inv (fun x : Nat × List (Bool × SAct) => ⟨[(40, .int .i64 x.1), (39, .int .i64 13), (38, .d (.arr 5 encAV V13)), (1, .ptr 64 [])], [(64, some (.box 30 (.d (.cons (encCfg exC) (.cons (.arr 1 encNL [()]) (.cons (.arr 5 encAV x.2) .nil))))))], 72, Tryz.f5.ntmps, 64⟩) (fun x => x.1 ≤ 13) (fun x => 13 - x.1) (0, exV) [(64, some _)] (Nat.zero_le _)
  (.of rfl rfl rfl rfl rfl ⟨⟨_, rfl, .refl _⟩, rfl, ⟨_, rfl, .refl _⟩, rfl, ⟨_, rfl, .refl _⟩, rfl, ⟨_, rfl, .refl _⟩, rfl, trivial⟩ ⟨⟨rfl, rfl, _, rfl, .refl _⟩, trivial⟩) ?_
 rintro ⟨i, W⟩ hi
 simp only at hi
 refine wc_of ?_
 by_cases hlt : i < 13
 ·have d1 : decide ((i : Int) < 13) = true := dT (by omega)
  obtain ⟨v, hv⟩ : ∃ v, V13[i]? = some v := ⟨_, List.getElem?_eq_getElem hlt⟩
  have hv2 : V13[((i : Int)).toNat]? = some v := by rw [Int.toNat_natCast]; exact hv
  have hvm := List.mem_of_getElem? hv
  have hvk : ∀ x ∈ [v], AVOk x := fun x hx => by
   obtain rfl := List.mem_singleton.1 hx
   exact V13_ok x hvm
  have hck := scheck_is exC [[]] [v.2] exC_ok nb (by show 1 ≤ _; decide)
  rw [V13_bad v hvm] at hck
  obtain ⟨fl, a⟩ := v
  cases fl with
  | false =>
   refine sR ?_;refine rC ?_;refine nQ ?_;refine wT ?_;refine kS ?_;refine wc_seq ?_;refine wc_block ?_;refine sR ?_;refine rQ (index_arr tab_ok rfl rfl rfl rfl rfl (by omega) hv2) ?_
   refine rQ iL ?_;refine rN ?_;refine rW ?_;refine nR ?_;refine rQ iM ?_;refine rQ (StepIs.frozen (build_slice (s := 5) tab_ok rfl rfl rfl rfl rfl rfl rfl rfl) (Frz.lits1 (enc := encAV) (false, a) rfl rfl)) ?_
   refine rC ?_;refine rX ?_;refine nR ?_;refine rQ iM ?_;refine rQ (call_r hck rfl rfl (arg_d rfl trivial (scrE_le [(false, a)] [a] rfl hvk) arg_nil) (.inl rfl) (fun _ => rfl)) ?_
   refine rC ?_;refine nS ?_;refine wG ?_;refine wc_skip ?_;refine blk_n ?_;refine seq_n ?_;refine wc_region ?_;refine rQ iD ?_;refine rC ?_;refine reg_nil ?_
   exact loop_n (i + 1, [(false, a)]) [(64, some _)] hlt (by show 13 - (i + 1) < 13 - i; omega) (.of rfl rfl rfl rfl rfl ⟨⟨_, rfl, .refl _⟩, rfl, ⟨_, rfl, .refl _⟩, rfl, ⟨_, rfl, .refl _⟩, rfl, ⟨_, rfl, .refl _⟩, rfl, trivial⟩ ⟨⟨rfl, rfl, _, rfl, .refl _⟩, trivial⟩)
  | true =>
   refine sR ?_;refine rC ?_;refine nQ ?_;refine wT ?_;refine kS ?_;refine wc_seq ?_;refine wc_block ?_;refine sR ?_;refine rQ (index_arr tab_ok rfl rfl rfl rfl rfl (by omega) hv2) ?_
   refine rQ iL ?_;refine rN ?_;refine rW ?_;refine nR ?_;refine rQ iM ?_;refine rQ (StepIs.frozen (build_slice (s := 5) tab_ok rfl rfl rfl rfl rfl rfl rfl rfl) (Frz.lits1 (enc := encAV) (true, a) rfl rfl)) ?_
   refine rC ?_;refine rX ?_;refine nR ?_;refine rQ iM ?_;refine rQ (call_r hck rfl rfl (arg_d rfl trivial (scrE_le [(true, a)] [a] rfl hvk) arg_nil) (.inl rfl) (fun _ => rfl)) ?_
   refine rC ?_;refine nS ?_;refine wG ?_;refine wc_skip ?_;refine blk_n ?_;refine seq_n ?_;refine wc_region ?_;refine rQ iD ?_;refine rC ?_;refine reg_nil ?_
   exact loop_n (i + 1, [(true, a)]) [(64, some _)] hlt (by show 13 - (i + 1) < 13 - i; omega) (.of rfl rfl rfl rfl rfl ⟨⟨_, rfl, .refl _⟩, rfl, ⟨_, rfl, .refl _⟩, rfl, ⟨_, rfl, .refl _⟩, rfl, ⟨_, rfl, .refl _⟩, rfl, trivial⟩ ⟨⟨rfl, rfl, _, rfl, .refl _⟩, trivial⟩)
 have he : i = 13 := by omega
 subst he
 have d1 : decide (((13 : Nat) : Int) < 13) = false := rfl
 refine sR ?_;refine rC ?_;refine nQ ?_;refine wG ?_;refine wc_exit ?_;refine seq_x ?_;refine loop_x ?_;refine blk_x ?_;refine seq_n ?_;refine sR ?_;refine reg_new (make_full (enc := encAV) (s := 5) (N := 4096) tab_ok aZ rfl rfl rfl rfl rfl rfl rfl (by decide) rfl) rfl ?_
 refine rC ?_;refine reg_store (store_row tab_ok rfl rfl rfl ⟨_, ⟨_, ⟨rfl, rfl, rfl⟩, rfl⟩, rfl⟩ rfl) ?_;refine nQ ?_;refine sR ?_;refine rC ?_;refine nS ?_;refine wc_block ?_
 refine wc_inv (fun i : Nat => ⟨[(4, .int .i64 i), (1, .ptr 64 [])], [(64, some (.box 30 (.acons (.d (encCfg exC)) (.acons (.d (.arr 1 encNL [()])) (.acons (.own 65 0 4096 5 none) (.d .nil)))))), (65, some (.ds 39 5 true encAV (List.replicate i aA ++ List.replicate (4096 - i) aZ)))], 72, Tryz.f5.ntmps, 64⟩) (fun i => i ≤ 4096) (fun i => 4096 - i) 0 [(64, some _), (65, some _)] (Nat.zero_le _)
  (.of rfl rfl rfl rfl rfl ⟨⟨_, rfl, .refl _⟩, rfl, ⟨_, rfl, .refl _⟩, rfl, trivial⟩ ⟨⟨rfl, rfl, _, rfl, .refl _⟩, ⟨rfl, rfl, _, rfl, RowLe.of_eq (by rw [List.replicate_zero, List.nil_append]; rfl)⟩, trivial⟩) ?_
 intro i hi
 refine wc_of ?_
 by_cases hlt : i < 4096
 ·have d2 : decide ((i : Int) < 4096) = true := dT (by omega)
  have hget : (List.replicate i aA ++ List.replicate (4096 - i) aZ)[((i : Int)).toNat]? = some aZ := by rw [Int.toNat_natCast]; exact fill_get aA aZ i 4096 hlt
  have hset := fill_set aA aZ i 4096 hlt
  refine qR ?_;iterate 2 refine rC ?_
  refine nS ?_;refine wT ?_;refine kS ?_;refine wc_seq ?_;refine wc_block ?_;refine wc_draw (by kernel_rfl) ?_;refine dC [1] [] ?_;refine dQ [57] [64] iM ?_;refine dC [4] [] ?_
  refine dQ [] [] (StepIs.frozen (make_full (enc := encU8) (s := 1) (N := 256) tab_ok 0 rfl rfl rfl rfl rfl rfl rfl (by decide) rfl) (frzN rfl)) ?_;refine dQ [60] [] iS ?_
  refine dQ [58, 59] [] (index_own tab_ok rfl rfl rfl rfl rfl (by omega) (by omega)) ?_;refine dreg_s [62, 61] [65] (store_row tab_ok rfl rfl rfl ⟨rfl, aZ, aA, hget, ⟨rfl, rfl, rfl⟩, rfl⟩ rfl) ?_
  refine dreg_end (by kernel_rfl) ?_;refine blk_n ?_;refine seq_n ?_;refine wc_region ?_;refine rC ?_;refine rQ iD ?_;refine rC ?_;refine reg_nil ?_
  exact loop_n (i + 1) [(64, some _), (65, some _)] hlt (by omega) (.of rfl rfl rfl rfl rfl ⟨⟨_, rfl, .refl _⟩, rfl, ⟨_, rfl, .refl _⟩, rfl, trivial⟩ ⟨⟨rfl, rfl, _, rfl, .refl _⟩, ⟨rfl, rfl, _, rfl, RowLe.of_eq (by rw [← hset]; rfl)⟩, trivial⟩)
 have he : i = 4096 := by omega
 subst he
 have d2 : decide (((4096 : Nat) : Int) < 4096) = false := rfl
 rw [Nat.sub_self, List.replicate_zero, List.append_nil]
 refine qR ?_;iterate 2 refine rC ?_
 refine nS ?_;refine wG ?_;refine wc_exit ?_;refine seq_x ?_;refine loop_x ?_;refine blk_x ?_;refine seq_n ?_;refine sR ?_;refine rQ iM ?_;refine rQ (call_r hTA rfl rfl (arg_scr rfl hN nl_le lA_map (rep_ok aA_ok _) arg_nil) (.inr (plT _ _)) (fun _ => rfl)) ?_
 iterate 5 refine rC ?_
 refine nQ ?_;refine sR ?_;refine rC ?_;refine nS ?_;refine wc_block ?_
 refine wc_inv (fun i : Nat => ⟨[(7, .int .i64 i), (6, .d (i6 3)), (1, .ptr 64 [])], [(64, some (.box 30 (.acons (.d (encCfg exC)) (.acons (.d (.arr 1 encNL [()])) (.acons (.own 65 0 4096 5 none) (.d .nil)))))), (65, some (.ds 39 5 true encAV (List.replicate i aB ++ List.replicate (4096 - i) aA)))], 72, Tryz.f5.ntmps, 64⟩) (fun i => i ≤ 4096) (fun i => 4096 - i) 0 [(64, some _), (65, some _)] (Nat.zero_le _)
  (.of rfl rfl rfl rfl rfl ⟨⟨_, rfl, .refl _⟩, rfl, ⟨_, rfl, .refl _⟩, rfl, ⟨_, rfl, .refl _⟩, rfl, trivial⟩ ⟨⟨rfl, rfl, _, rfl, .refl _⟩, ⟨rfl, rfl, _, rfl, RowLe.of_eq (by rw [List.replicate_zero, List.nil_append]; rfl)⟩, trivial⟩) ?_
 intro i hi
 refine wc_of ?_
 by_cases hlt : i < 4096
 ·have d3 : decide ((i : Int) < 4096) = true := dT (by omega)
  have hget : (List.replicate i aB ++ List.replicate (4096 - i) aA)[((i : Int)).toNat]? = some aA := by rw [Int.toNat_natCast]; exact fill_get aB aA i 4096 hlt
  have hset := fill_set aB aA i 4096 hlt
  refine qR ?_;iterate 2 refine rC ?_
  refine nS ?_;refine wT ?_;refine kS ?_;refine wc_seq ?_;refine wc_block ?_;refine wc_region ?_;refine rC ?_;refine rQ iM ?_;refine rC ?_;refine rQ (index_own tab_ok rfl rfl rfl rfl rfl (by omega) (by omega)) ?_
  refine rC ?_;refine reg_store (store_row tab_ok rfl rfl rfl ⟨rfl, aA, aB, hget, ⟨_, ⟨rfl, rfl, rfl⟩, rfl⟩, rfl⟩ rfl) ?_;refine reg_nil ?_;refine blk_n ?_;refine seq_n ?_
  refine wc_region ?_;refine rC ?_;refine rQ iD ?_;refine rC ?_;refine reg_nil ?_
  exact loop_n (i + 1) [(64, some _), (65, some _)] hlt (by omega) (.of rfl rfl rfl rfl rfl ⟨⟨_, rfl, .refl _⟩, rfl, ⟨_, rfl, .refl _⟩, rfl, ⟨_, rfl, .refl _⟩, rfl, trivial⟩ ⟨⟨rfl, rfl, _, rfl, .refl _⟩, ⟨rfl, rfl, _, rfl, RowLe.of_eq (by rw [← hset]; rfl)⟩, trivial⟩)
 have he : i = 4096 := by omega
 subst he
 have d3 : decide (((4096 : Nat) : Int) < 4096) = false := rfl
 rw [Nat.sub_self, List.replicate_zero, List.append_nil]
 refine qR ?_;iterate 2 refine rC ?_
 refine nS ?_;refine wG ?_;refine wc_exit ?_;refine seq_x ?_;refine loop_x ?_;refine blk_x ?_;refine seq_n ?_;refine sR ?_;refine rQ iM ?_;refine rQ (call_r hTB rfl rfl (arg_scr rfl hNB nl_le lB_map (rep_ok aB_ok _) arg_nil) (.inr (plT _ _)) (fun _ => rfl)) ?_
 iterate 5 refine rC ?_
 refine nR ?_;refine rC ?_;refine rQ (call_r hPX rfl rfl (arg_e arg_nil) (.inl rfl) (fun _ => rfl)) ?_;iterate 4 refine rC ?_
 refine rN ?_;refine rW ?_;iterate 2 refine rC ?_
 refine nR ?_;refine rQ (StepIs.frozen (make_fullB (enc := encU8) (s := 1) (N := 1048577) tab_ok 0 rfl rfl rfl rfl rfl rfl rfl (by decide) rfl) (frzN rfl)) ?_;refine rQ (conv_bytesS (l := zB 1048577) tab_ok rfl rfl rfl rfl) ?_
 refine rQ (call_r hPH rfl rfl (arg_e arg_nil) (.inl rfl) (fun _ => rfl)) ?_;iterate 4 refine rC ?_
 refine rN ?_;refine rW ?_;iterate 2 refine rC ?_
 refine nR ?_;refine rQ (StepIs.frozen (make_full (enc := encU8) (s := 1) (N := 1048576) tab_ok 0 rfl rfl rfl rfl rfl rfl rfl (by decide) rfl) (frzN rfl)) ?_;refine rQ (conv_bytesS (l := zB 1048576) tab_ok rfl rfl rfl rfl) ?_
 refine rQ (call_r hPI rfl rfl (arg_e arg_nil) (.inl rfl) (fun _ => rfl)) ?_;iterate 4 refine rC ?_
 refine rN ?_;refine rW ?_;iterate 2 refine rC ?_
 refine nQ ?_;refine sR ?_;refine rQ iM ?_;refine rQ (call_r hCB rfl rfl (arg_scr rfl hNB nl_le lB_map (rep_ok aB_ok _) arg_nil) (.inr (PlainRes.sc _)) (fun _ => rfl)) ?_
 iterate 2 refine rC ?_
 refine rP ?_;refine rC ?_;refine rP ?_;refine rC ?_;refine rQ iG ?_;refine rC ?_;refine rP ?_;refine rC ?_;refine rP ?_;refine rC ?_;refine rQ iG ?_;refine rC ?_
 refine rP ?_;refine rC ?_;refine rP ?_;refine rC ?_;refine rQ iG ?_;refine rC ?_;refine rP ?_;refine rC ?_;refine rP ?_;refine rC ?_;refine rQ iG ?_;refine rC ?_
 refine rP ?_;refine rQ iM ?_;refine rP ?_;refine rQ iM ?_;refine rP ?_;refine rQ (call_r hSM rfl rfl (arg_d rfl trivial (xs_le _ _ _) (arg_scr rfl hNB nl_le lB_map (rep_ok aB_ok _) arg_nil)) (.inr (PlainRes.sc _)) (fun _ => rfl)) ?_
 refine rP ?_;refine rC ?_;refine rQ iG ?_;refine rC ?_;refine rP ?_;refine rC ?_;refine rP ?_;refine rC ?_;refine rQ iG ?_;refine rC ?_;refine rP ?_;refine rC ?_
 refine rP ?_;refine rC ?_;refine rQ iG ?_;refine rC ?_;refine rP ?_;refine rC ?_;refine rP ?_;refine rC ?_;refine rQ iG ?_;refine rC ?_;refine rP ?_;refine rC ?_
 refine rP ?_;refine rC ?_;refine rQ iG ?_;refine nS ?_;refine wG ?_;refine kS ?_;refine sR ?_;refine rC ?_;refine rQ iM ?_;refine rQ iS ?_;refine reg_new (build_slice (s := 5) tab_ok rfl rfl rfl rfl rfl rfl rfl rfl) rfl ?_
 refine reg_new2 (append_litsL (α := Bool × SAct) (s := 5) (enc := encAV) (xs := List.replicate 4096 aB) tab_ok [(true, aF)] rfl rfl rfl rfl rfl hNB rfl rfl rfl rfl (fun x _ => encAV_size x) (by decide) hlenB rfl) rfl ?_
 refine rC ?_;refine reg_store (store_row tab_ok rfl rfl rfl ⟨_, ⟨_, ⟨rfl, rfl, rfl⟩, rfl⟩, rfl⟩ rfl) ?_;refine nR ?_;refine rC ?_;refine rQ (add_str (a := tx) (b := fF) rfl rfl hl151 rfl) ?_
 refine rQ (call_r hPF rfl rfl (arg_e arg_nil) (.inl rfl) (fun _ => rfl)) ?_;iterate 6 refine rC ?_
 refine nR ?_;refine rC ?_;refine rQ (add_str (a := tx) (b := fG) rfl rfl hl158 rfl) ?_;refine rQ (call_r hPG rfl rfl (arg_e arg_nil) (.inl rfl) (fun _ => rfl)) ?_
 iterate 4 refine rC ?_
 refine rN ?_;refine rW ?_;iterate 2 refine rC ?_
 refine nR ?_;refine rQ iM ?_;refine rQ (call_r hCF rfl rfl (arg_scr rfl hNF nl_le lBF_map lBF_ok arg_nil) (.inr (PlainRes.sc _)) (fun _ => rfl)) ?_;iterate 2 refine rC ?_
 refine rP ?_;refine rC ?_;refine rP ?_;refine rC ?_;refine rQ iU ?_;refine rC ?_;refine rP ?_;refine rC ?_;refine rP ?_;refine rC ?_;refine rQ iU ?_;refine rC ?_
 refine rP ?_;refine rC ?_;refine rP ?_;refine rC ?_;refine rQ iU ?_;refine rC ?_;refine rP ?_;refine rC ?_;refine rP ?_;refine rC ?_;refine rQ iU ?_;refine rC ?_
 refine rO ?_;refine rQ (call_r lives_is rfl rfl arg_nil (.inl rfl) (fun _ => rfl)) ?_;refine rQ iT ?_;refine rC ?_;refine nS ?_;refine wc_ret ?_
 exact ⟨trivial, [], lf⟩
end Go.Proofs.YthiijfbcfoifnaaGreatDoor
namespace Go.Proofs.YthiijfbcfoifnaaGreatDoor
open Go.Eng Go.Plain
def toB (l : List Int) : List UInt8 := l.map fun z => z.toNat.toUInt8
abbrev encS3 (s : SScr) : D := encScr s.1 s.2.1 s.2.2
abbrev encIs (l : List Int) : D := .arr 1 i6 l
end Go.Proofs.YthiijfbcfoifnaaGreatDoor
