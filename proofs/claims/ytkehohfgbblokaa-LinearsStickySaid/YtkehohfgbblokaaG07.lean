/- Texts of the proof: Y5, YT9, Y27, Y28, Y30, YO. -/
import Derived.Test.YtkehohfgbblokaaG04
import Derived.Test.YtkehohfgbblokaaG06
import Derived.Test.YtkehohfgbblokaaG03
import Derived.Test.YtkehohfgbblokaaG02

set_option linter.unusedVariables false
set_option linter.unusedSimpArgs false
set_option linter.unusedSectionVars false

namespace Go.Proofs.Ytkehohfgbblokaa
open Go.Eng Go.Plain
set_option maxHeartbeats 8000000
set_option maxRecDepth 20000
attribute [local irreducible] WC RegS RegD SeqQ BlkQ ScoQ RegK CutK Sat SatN FnIs LoopQ StepIs OpIs
abbrev encBo (b : Bool) : D := .sc (.bool b)
abbrev encIs (l : List Int) : D := .arr 1 i6 l
abbrev opBox (o : HOp) : Row := .box 30 (.d (encOpn o))
theorem acc1_is (o x : HOp) : FnIs Try.prog 44 [.d (encOpn x), .d (.pt (encOpn o))] [] (.bool (befB o x)) [] := by
 refine fnIs_of tab_ok Try.func44 rfl rfl rfl ?_;refine sR ?_;refine rN ?_;refine rC ?_;refine nR ?_;refine rQ (load_pt tab_ok rfl rfl) ?_;refine rQ iM ?_;refine rQ (call_r (before_is o x) rfl rfl (arg_e (arg_e arg_nil)) (.inl rfl) (fun _ => rfl)) ?_
 refine rC ?_;refine nS ?_;refine wc_ret ?_
 exact ⟨trivial, [], lf⟩
theorem ahead_is (o : HOp) (ah : List HOp) (hL : ah.length ≤ 9223372036854775807) : FnIs Try.prog 43 [.own 1 0 ah.length 41 none, .fn (.func 44) .anil (.acons (.ptr 0 []) .anil)] [(0, opBox o), (1, opRow ah)] (.bool (ah.any (befB o))) [(0, opBox o), (1, opRow ah)] :=
 FnIs.lend (.freeze (avs' := [.own 1 0 ah.length 41 none, .fn (.func 44) .anil (.acons (.d (.pt (encOpn o))) .anil)]) (h0' := [(1, opRow ah)]) 0 _ rfl ⟨zE, ⟨_, rfl, Frz.fn .nil (.cons Frz.ptr .nil)⟩, trivial⟩ ⟨⟨rfl, _, rfl, .refl _⟩, trivial⟩ rfl
  (.freeze (avs' := [.d (encOps ah), .fn (.func 44) .anil (.acons (.d (.pt (encOpn o))) .anil)]) (h0' := []) 1 _ rfl ⟨⟨_, rfl, Frz.own rfl⟩, zE, trivial⟩ trivial rfl (.refl _ _))) (FreeRes.sc _)
  (cfA_is ah 44 (encOpn o) (befB o) hL (acc1_is o))
theorem vol_le {t : TypeId} {A B : AV} : RowLe (.box t (.acons A (.acons B (.d .nil)))) (.box t (.acons A (.acons B .anil))) := by
 rintro σ w X r ⟨hf, b, cs, h1, h2, c1, c2, h3, h4, c3, c4, h5, h6, h7⟩
 refine ⟨?_, b, cs, h1, h2, c1, c2, h3, h4, c3, c4, h5, h6, h7⟩
 simp only [AV.flat] at hf ⊢
 exact hf
theorem mq_nil : RowLe (.mo .anil) (mqRow []) := RowLe.mo_mq (l' := []) (.refl _)
def lateB (ah : List HOp) (o : HOp) : Bool := match ah.getLast? with
 | some y => decide (y.era < o.era)
 | none => decide (0 < o.era)
def hapV (a d : VMap) (o : HOp) : Bool × VMap × VMap :=
 if o.op.kind = 1 then (!mustB o || decide (getV a o.op.index = o.value), a, d)
 else if o.op.kind = 2 then (true, putV a o.op.index o.op.data, d)
 else (true, a, a)
def accL (b : Int) (l : List HOp) : List Int → List Bool → List HOp → VMap → VMap → Int × List Bool
 | [], tk, _, _, _ => (0, tk)
 | i :: os, tk, ah, a, d =>
  if i < 0 then (1, tk) else match l[i.toNat]? with
  | none => (1, tk)
  | some o => if tk[i.toNat]? = some true then (1, tk) else if mayB o b = false then (1, tk) else if ah.any (befB o) = true then (13, tk)
   else if (hapV (if lateB ah o = true then d else a) d o).1 = false then (15, tk)
   else accL b l os (tk.set i.toNat true) (ah ++ [o]) (hapV (if lateB ah o = true then d else a) d o).2.1 (hapV (if lateB ah o = true then d else a) d o).2.2
def misB : List HOp → List Bool → Bool
 | o :: l, t :: tk => (mustB o && !t) || misB l tk
 | _, _ => false
theorem misB_nil (tk : List Bool) : misB [] tk = false := by cases tk <;> rfl
def accS (b : Int) (l : List HOp) (order : List Int) : Int :=
 if (accL b l order (List.replicate l.length false) [] [] []).1 = 0 then (if misB l (accL b l order (List.replicate l.length false) [] [] []).2 = true then 15 else 0) else (accL b l order (List.replicate l.length false) [] [] []).1
theorem accL_step {b : Int} {l : List HOp} {order : List Int} {k : Nat} {i : Int} (h : order[k]? = some i) (tk : List Bool) (ah : List HOp) (a d : VMap) : accL b l (order.drop k) tk ah a d = accL b l (i :: order.drop (k + 1)) tk ah a d := by
 have hlt := (List.getElem?_eq_some_iff.1 h).1
 rw [List.drop_eq_getElem_cons hlt, (List.getElem?_eq_some_iff.1 h).2]
theorem may_kind {o : HOp} {b : Int} (h : mayB o b = true) : o.op.kind = 1 ∨ (o.op.kind = 2 ∧ o.op.data.length = 32) ∨ o.op.kind = 3 := by
 unfold mayB badO at h
 by_cases k1 : o.op.kind = 1
 ·exact .inl k1
 ·by_cases k2 : o.op.kind = 2
  ·refine .inr (.inl ⟨k2, ?_⟩)
   simp [k2] at h
   exact h.1.2
  ·refine .inr (.inr ?_)
   simp [k1, k2] at h
   exact h.1
structure AccSt where
 k : Nat
 tk : List Bool
 ah : List HOp
 a : VMap
 d : VMap
structure AccSt.Ok (b : Int) (l : List HOp) (order : List Int) (q : AccSt) : Prop where
 le : q.k ≤ order.length
 tkl : q.tk.length = l.length
 ahl : q.ah.length ≤ q.k
 na : (keysV q.a).Nodup
 nd : (keysV q.d).Nodup
 res : accL b l (order.drop q.k) q.tk q.ah q.a q.d = accL b l order (List.replicate l.length false) [] [] []
abbrev tkRow (tk : List Bool) : Row := .ds 4 1 true encBo tk
theorem accept_is (h : List HEv) (b : Int) (order : List Int) (hh : h.length ≤ 9223372036854775807) (hal0 : (rdH h).all.length ≤ 1048576) (ho : order.length ≤ 1000000) : FnIs Try.prog 18 [.d (encH h), .int .i64 b, .d (encIs order)] [] (.d (i6 (if opE h b = 0 then accS b (opsH h) order else opE h b))) [] := by
 have hop := operations_is h b hh hal0
 refine fnIs_of tab_ok Try.func18 rfl rfl rfl ?_
 by_cases he : opE h b = 0
 case neg =>
  have d0 : (!decide (opE h b = 0)) = true := by rw [dF he]; rfl
  rw [if_neg he]
  refine sR ?_;refine rC ?_;refine nR ?_;iterate 2 refine rC ?_
  refine rQ (call_r hop rfl rfl (arg_e (arg_e arg_nil)) (.inl rfl) (fun _ => rfl)) ?_;iterate 5 refine rC ?_
  refine nQ ?_;refine sR ?_;iterate 2 refine rC ?_
  refine nS ?_;refine wT ?_;refine sR ?_;iterate 2 refine rC ?_
  refine nS ?_;refine wc_ret ?_;refine seq_r ?_
  exact ⟨trivial, [], lf⟩
 rw [if_pos he]
 rw [show opL h b = opsH h by rw [opL, if_pos he], he] at hop
 have hal : (opsH h).length ≤ 1048576 := by unfold opsH; split <;> first | omega | simp
 generalize opsH h = l at *
 refine sR ?_;refine rC ?_;refine nR ?_;iterate 2 refine rC ?_
 refine rQ (call_r hop rfl rfl (arg_e (arg_e arg_nil)) (.inl rfl) (fun _ => rfl)) ?_;iterate 5 refine rC ?_
 refine nQ ?_;refine sR ?_;iterate 2 refine rC ?_
 refine nS ?_;refine wG ?_;refine kS ?_;refine sR ?_;iterate 2 refine reg_new (make_map) rfl ?_
 refine rQ iS ?_;refine rN ?_;refine rW ?_;refine nR ?_;refine rC ?_;refine rQ (len_arx tab_ok rfl rfl) ?_;refine reg_do rfl (make_full (s := 1) (enc := encBo) (N := l.length) tab_ok false rfl rfl rfl rfl rfl rfl rfl hal rfl) rfl rfl ?_
 refine rC ?_;refine nR ?_;refine rC ?_;refine nQ ?_;refine sR ?_;refine rC ?_;refine rQ iE ?_;refine rC ?_;refine nS ?_;refine wc_block ?_
 refine wc_inv (fun q : AccSt => ⟨[(34, .int .i64 q.k), (33, .int .i64 order.length), (32, .d (encIs order)), (7, .d (encOX l)), (1, .int .i64 b), (9, .ptr 64 []), (10, .own 65 0 l.length 1 none), (11, .own 68 0 q.ah.length 41 none)], [(64, some (volRow 66 67)), (65, some (tkRow q.tk)), (66, some (mqRow q.a)), (67, some (mqRow q.d)), (68, some (opRow q.ah))], 72, Try.f18.ntmps, 64⟩) (AccSt.Ok b l order) (fun q => order.length - q.k) ⟨0, List.replicate l.length false, [], [], []⟩ [(64, some 176), (65, some 208), (66, some 152), (67, some 160), (68, none)] ⟨Nat.zero_le _, by simp, Nat.zero_le _, by simp, by simp, rfl⟩
  (lg ze ⟨⟨rfl, rfl, _, rfl, vol_le⟩, zR, ⟨rfl, rfl, _, rfl, mq_nil⟩, ⟨rfl, rfl, _, rfl, mq_nil⟩, ⟨rfl, rfl, rfl⟩, trivial⟩) ?_
 rintro ⟨k, tk, ah, a, d⟩ ⟨hk, htk, hah, hna, hnd, hres⟩
 simp only at hk htk hah hna hnd hres
 refine wc_of ?_
 by_cases hlt : k < order.length
 ·have d1 : decide ((k : Int) < (order.length : Int)) = true := dT (by omega)
  obtain ⟨i, hi⟩ : ∃ i, order[k]? = some i := ⟨_, List.getElem?_eq_getElem hlt⟩
  have hi2 : order[((k : Int)).toNat]? = some i := by rw [Int.toNat_natCast]; exact hi
  rw [accL_step hi, accL] at hres
  have bad : ∀ {e : Int} {x : List Bool}, e ≠ 0 → (e, x) = accL b l order (List.replicate l.length false) [] [] [] → accS b l order = e := fun he h => by
   rw [accS, ← h, if_neg he]
  by_cases c1 : i < 0
  ·have e1 : decide (i < 0) = true := dT c1
   rw [if_pos c1] at hres
   rw [bad (by decide) hres]
   refine sR ?_;refine rC ?_;refine nQ ?_;refine wT ?_;refine kS ?_;refine wc_seq ?_;refine wc_block ?_;refine sR ?_;refine rQ (index_arr tab_ok rfl rfl rfl rfl rfl (by omega) hi2) ?_
   refine rQ iL ?_;refine rC ?_;refine nQ ?_;refine sR ?_;iterate 3 refine rC ?_
   iterate 4 refine rS ?_
   refine rQ iT ?_;refine rC ?_;iterate 4 refine rT ?_
   refine rQ iU ?_;refine rC ?_;iterate 7 refine rT ?_
   refine rQ iU ?_;refine nS ?_;refine wV ?_;refine sR ?_;refine rC ?_;refine nS ?_;refine wc_ret ?_;refine seq_r ?_;refine blk_r ?_;refine seq_r ?_;refine loop_r ?_
   refine blk_r ?_;refine seq_r ?_
   exact ⟨trivial, [], lf⟩
  have e1 : decide (i < 0) = false := dF c1
  rw [if_neg c1] at hres
  cases hl : l[i.toNat]? with
  | none =>
   have hge := List.getElem?_eq_none_iff.1 hl
   have e2 : decide ((l.length : Int) ≤ i) = true := dT (by omega)
   rw [hl] at hres
   rw [bad (by decide) hres]
   refine sR ?_;refine rC ?_;refine nQ ?_;refine wT ?_;refine kS ?_;refine wc_seq ?_;refine wc_block ?_;refine sR ?_;refine rQ (index_arr tab_ok rfl rfl rfl rfl rfl (by omega) hi2) ?_
   refine rQ iL ?_;refine rC ?_;refine nQ ?_;refine sR ?_;iterate 3 refine rC ?_
   refine rO ?_;refine rC ?_;refine rO ?_;refine rC ?_;refine rO ?_;refine rQ (len_arx tab_ok rfl rfl) ?_;refine rO ?_;refine rC ?_;refine rQ iF ?_;refine rC ?_;iterate 4 refine rS ?_
   refine rQ iT ?_;refine rC ?_;iterate 7 refine rT ?_
   refine rQ iU ?_;refine nS ?_;refine wV ?_;refine sR ?_;refine rC ?_;refine nS ?_;refine wc_ret ?_;refine seq_r ?_;refine blk_r ?_;refine seq_r ?_;refine loop_r ?_
   refine blk_r ?_;refine seq_r ?_
   exact ⟨trivial, [], lf⟩
  | some o =>
   have hil := (List.getElem?_eq_some_iff.1 hl).1
   have e2 : decide ((l.length : Int) ≤ i) = false := dF (by omega)
   rw [hl] at hres
   simp only at hres
   obtain ⟨t, ht⟩ : ∃ t, tk[i.toNat]? = some t := ⟨_, List.getElem?_eq_getElem (by omega)⟩
   cases t with
   | true =>
    rw [ht, if_pos rfl] at hres
    rw [bad (by decide) hres]
    refine sR ?_;refine rC ?_;refine nQ ?_;refine wT ?_;refine kS ?_;refine wc_seq ?_;refine wc_block ?_;refine sR ?_;refine rQ (index_arr tab_ok rfl rfl rfl rfl rfl (by omega) hi2) ?_
    refine rQ iL ?_;refine rC ?_;refine nQ ?_;refine sR ?_;iterate 3 refine rC ?_
    refine rO ?_;refine rC ?_;refine rO ?_;refine rC ?_;refine rO ?_;refine rQ (len_arx tab_ok rfl rfl) ?_;refine rO ?_;refine rC ?_;refine rQ iF ?_;refine rC ?_;refine rO ?_
    refine rC ?_;refine rO ?_;refine rC ?_;refine rO ?_;refine rQ (index_own tab_ok rfl rfl rfl rfl rfl (by omega) (by omega)) ?_;refine rO ?_;refine rQ (load_row tab_ok rfl rfl ⟨rfl, _, ht, _, rfl, rfl⟩ rfl) ?_
    refine rQ iF ?_;refine rC ?_;iterate 7 refine rT ?_
    refine rQ iU ?_;refine nS ?_;refine wV ?_;refine sR ?_;refine rC ?_;refine nS ?_;refine wc_ret ?_;refine seq_r ?_;refine blk_r ?_;refine seq_r ?_;refine loop_r ?_
    refine blk_r ?_;refine seq_r ?_
    exact ⟨trivial, [], lf⟩
   | false =>
    rw [ht, if_neg (by decide)] at hres
    have hmy := may_is o b
    cases hm : mayB o b with
    | false =>
     rw [hm, if_pos rfl] at hres
     rw [hm] at hmy
     rw [bad (by decide) hres]
     refine sR ?_;refine rC ?_;refine nQ ?_;refine wT ?_;refine kS ?_;refine wc_seq ?_;refine wc_block ?_;refine sR ?_;refine rQ (index_arr tab_ok rfl rfl rfl rfl rfl (by omega) hi2) ?_
     refine rQ iL ?_;refine rC ?_;refine nQ ?_;refine sR ?_;iterate 3 refine rC ?_
     refine rO ?_;refine rC ?_;refine rO ?_;refine rC ?_;refine rO ?_;refine rQ (len_arx tab_ok rfl rfl) ?_;refine rO ?_;refine rC ?_;refine rQ iF ?_;refine rC ?_;refine rO ?_
     refine rC ?_;refine rO ?_;refine rC ?_;refine rO ?_;refine rQ (index_own tab_ok rfl rfl rfl rfl rfl (by omega) (by omega)) ?_;refine rO ?_;refine rQ (load_row tab_ok rfl rfl ⟨rfl, _, ht, _, rfl, rfl⟩ rfl) ?_
     refine rQ iF ?_;refine rC ?_;refine rP ?_;refine rC ?_;refine rP ?_;refine rC ?_;refine rP ?_;refine rQ (index_arx tab_ok rfl rfl rfl rfl rfl (by omega) hl) ?_;refine rP ?_
     refine rQ iL ?_;refine rP ?_;refine rC ?_;refine rP ?_;refine rQ (call_r hmy rfl rfl (arg_e (arg_e arg_nil)) (.inl rfl) (fun _ => rfl)) ?_;refine rP ?_;refine rC ?_
     refine rQ iG ?_;refine nS ?_;refine wV ?_;refine sR ?_;refine rC ?_;refine nS ?_;refine wc_ret ?_;refine seq_r ?_;refine blk_r ?_;refine seq_r ?_;refine loop_r ?_
     refine blk_r ?_;refine seq_r ?_
     exact ⟨trivial, [], lf⟩
    | true =>
     rw [hm, if_neg (by decide)] at hres
     rw [hm] at hmy
     have hab := ahead_is o ah (by omega)
     cases hany : ah.any (befB o) with
     | true =>
      rw [hany] at hab
      rw [hany, if_pos rfl] at hres
      rw [bad (by decide) hres]
      refine sR ?_;refine rC ?_;refine nQ ?_;refine wT ?_;refine kS ?_;refine wc_seq ?_;refine wc_block ?_;refine sR ?_;refine rQ (index_arr tab_ok rfl rfl rfl rfl rfl (by omega) hi2) ?_
      refine rQ iL ?_;refine rC ?_;refine nQ ?_;refine sR ?_;iterate 3 refine rC ?_
      refine rO ?_;refine rC ?_;refine rO ?_;refine rC ?_;refine rO ?_;refine rQ (len_arx tab_ok rfl rfl) ?_;refine rO ?_;refine rC ?_;refine rQ iF ?_;refine rC ?_;refine rO ?_
      refine rC ?_;refine rO ?_;refine rC ?_;refine rO ?_;refine rQ (index_own tab_ok rfl rfl rfl rfl rfl (by omega) (by omega)) ?_;refine rO ?_;refine rQ (load_row tab_ok rfl rfl ⟨rfl, _, ht, _, rfl, rfl⟩ rfl) ?_
      refine rQ iF ?_;refine rC ?_;refine rP ?_;refine rC ?_;refine rP ?_;refine rC ?_;refine rP ?_;refine rQ (index_arx tab_ok rfl rfl rfl rfl rfl (by omega) hl) ?_;refine rP ?_
      refine rQ iL ?_;refine rP ?_;refine rC ?_;refine rP ?_;refine rQ (call_r hmy rfl rfl (arg_e (arg_e arg_nil)) (.inl rfl) (fun _ => rfl)) ?_;refine rP ?_;refine rC ?_
      refine rQ iG ?_;refine nS ?_;refine wG ?_;refine kS ?_;refine sR ?_;iterate 2 refine rC ?_
      refine rQ (index_arx tab_ok rfl rfl rfl rfl rfl (by omega) hl) ?_;refine rQ iL ?_;refine rN ?_;refine rW ?_;refine nQ ?_;refine sR ?_;iterate 2 refine rC ?_
      refine reg_do rfl (call_h [(0, some 320), (1, some 68)] hab rfl rfl rfl (arg_give rfl rfl (arg_fn1 rfl rfl arg_nil)) ⟨zH, zH, trivial⟩ rfl rfl (.inl rfl) rfl rfl) rfl rfl ?_
      refine nS ?_;refine wV ?_;refine sR ?_;refine rC ?_;refine nS ?_;refine wc_ret ?_;refine seq_r ?_;refine blk_r ?_;refine seq_r ?_;refine loop_r ?_;refine blk_r ?_
      refine seq_r ?_
      exact ⟨trivial, [], lf⟩
     | false =>
      rw [hany] at hab
      rw [hany, if_neg (by decide)] at hres
      refine sR ?_;refine rC ?_;refine nQ ?_;refine wT ?_;refine kS ?_;refine wc_seq ?_;refine wc_block ?_;refine sR ?_;refine rQ (index_arr tab_ok rfl rfl rfl rfl rfl (by omega) hi2) ?_
      refine rQ iL ?_;refine rC ?_;refine nQ ?_;refine sR ?_;iterate 3 refine rC ?_
      refine rO ?_;refine rC ?_;refine rO ?_;refine rC ?_;refine rO ?_;refine rQ (len_arx tab_ok rfl rfl) ?_;refine rO ?_;refine rC ?_;refine rQ iF ?_;refine rC ?_;refine rO ?_
      refine rC ?_;refine rO ?_;refine rC ?_;refine rO ?_;refine rQ (index_own tab_ok rfl rfl rfl rfl rfl (by omega) (by omega)) ?_;refine rO ?_;refine rQ (load_row tab_ok rfl rfl ⟨rfl, _, ht, _, rfl, rfl⟩ rfl) ?_
      refine rQ iF ?_;refine rC ?_;refine rP ?_;refine rC ?_;refine rP ?_;refine rC ?_;refine rP ?_;refine rQ (index_arx tab_ok rfl rfl rfl rfl rfl (by omega) hl) ?_;refine rP ?_
      refine rQ iL ?_;refine rP ?_;refine rC ?_;refine rP ?_;refine rQ (call_r hmy rfl rfl (arg_e (arg_e arg_nil)) (.inl rfl) (fun _ => rfl)) ?_;refine rP ?_;refine rC ?_
      refine rQ iG ?_;refine nS ?_;refine wG ?_;refine kS ?_;refine sR ?_;iterate 2 refine rC ?_
      refine rQ (index_arx tab_ok rfl rfl rfl rfl rfl (by omega) hl) ?_;refine rQ iL ?_;refine rN ?_;refine rW ?_;refine nQ ?_;refine sR ?_;iterate 2 refine rC ?_
      refine reg_do rfl (call_h [(0, some 320), (1, some 68)] hab rfl rfl rfl (arg_give rfl rfl (arg_fn1 rfl rfl arg_nil)) ⟨zH, zH, trivial⟩ rfl rfl (.inl rfl) rfl rfl) rfl rfl ?_
      refine nS ?_;refine wG ?_;refine kS ?_;refine wc_mid (fun a2 : VMap => ⟨[(34, .int .i64 k), (33, .int .i64 order.length), (32, .d (encIs order)), (7, .d (encOX l)), (1, .int .i64 b), (9, .ptr 64 []), (10, .own 65 0 l.length 1 none), (11, .own 68 0 ah.length 41 none), (13, .int .i64 i), (14, .ptr 69 [])], [(64, some (volRow 66 67)), (65, some (tkRow tk)), (66, some (mqRow a2)), (67, some (mqRow d)), (68, some (opRow ah)), (69, some (opBox o))], 72, Try.f18.ntmps, 64⟩) (fun a2 => a2 = (if lateB ah o = true then d else a)) ?_ ?_
      ·by_cases hah0 : ah = []
       ·subst hah0
        have f1 : decide ((0 : Int) < (([] : List HOp).length : Int)) = false := rfl
        have f2 : decide ((([] : List HOp).length : Int) = 0) = true := rfl
        cases hlt2 : decide (0 < o.era) with
        | false =>
         refine wc_seq ?_;refine wc_draw (by kernel_rfl) ?_;refine dC [11] [] ?_;refine dQ [68] [68] (len_own tab_ok rfl rfl) ?_;refine dC [69] [] ?_;refine dC [70] [] ?_
         iterate 2 refine dreg_offq [71, 11] rfl rfl rfl rfl ?_
         refine dreg_offq [71, 73] rfl rfl rfl rfl ?_;refine dreg_offq [71, 74] rfl rfl rfl rfl ?_;refine dreg_offq [71, 72, 75] rfl rfl rfl rfl ?_;refine dreg_offq [71, 76] rfl rfl rfl rfl ?_
         refine dreg_offq [71, 77] rfl rfl rfl rfl ?_;refine dreg_offq [71, 14] rfl rfl rfl rfl ?_;refine dreg_offq [71, 79] rfl rfl rfl rfl ?_;refine dreg_offq [71, 78, 80] rfl rfl rfl rfl ?_
         refine dQ [71, 81] [] iG ?_;refine dC [82] [] ?_;refine dreg_onq [83, 11] [] rfl rfl rfl rfl (step_C tab_ok (fun K hk => hk)) ?_;refine dreg_onq [83, 84] [68] rfl rfl rfl rfl (len_own tab_ok rfl rfl) ?_
         refine dreg_onq [83, 85] [] rfl rfl rfl rfl (step_C tab_ok (fun K hk => hk)) ?_;refine dreg_onq [83, 86] [] rfl rfl rfl rfl (step_C tab_ok (fun K hk => hk)) ?_;refine dreg_onq [87, 14] [] rfl rfl rfl rfl (step_C tab_ok (fun K hk => hk)) ?_
         refine dreg_onq [87, 88] [320] rfl rfl rfl rfl (load_box tab_ok rfl rfl ⟨_, rfl, rfl⟩ rfl) ?_;refine dreg_onq [87, 89] [] rfl rfl rfl rfl (step_C tab_ok (fun K hk => hk)) ?_
         refine dreg_onq [83, 87, 90] [] rfl rfl rfl rfl (pick_T tab_ok rfl rfl rfl) ?_;refine dQ [83, 91] [] iG ?_;refine dreg_end (by kernel_rfl) ?_;refine seq_n ?_;refine wF ?_
         refine wc_skip ?_
         exact mid_n a [(64, some _), (65, some 65), (66, some 66), (67, some 67), (68, some 68), (69, some 320)] (by rw [show lateB [] o = false from hlt2]; rfl) (lg zc ⟨zR, zR, zR, zR, zR, zR, trivial⟩)
        | true =>
         refine wc_seq ?_;refine wc_draw (by kernel_rfl) ?_;refine dC [11] [] ?_;refine dQ [68] [68] (len_own tab_ok rfl rfl) ?_;refine dC [69] [] ?_;refine dC [70] [] ?_
         iterate 2 refine dreg_offq [71, 11] rfl rfl rfl rfl ?_
         refine dreg_offq [71, 73] rfl rfl rfl rfl ?_;refine dreg_offq [71, 74] rfl rfl rfl rfl ?_;refine dreg_offq [71, 72, 75] rfl rfl rfl rfl ?_;refine dreg_offq [71, 76] rfl rfl rfl rfl ?_
         refine dreg_offq [71, 77] rfl rfl rfl rfl ?_;refine dreg_offq [71, 14] rfl rfl rfl rfl ?_;refine dreg_offq [71, 79] rfl rfl rfl rfl ?_;refine dreg_offq [71, 78, 80] rfl rfl rfl rfl ?_
         refine dQ [71, 81] [] iG ?_;refine dC [82] [] ?_;refine dreg_onq [83, 11] [] rfl rfl rfl rfl (step_C tab_ok (fun K hk => hk)) ?_;refine dreg_onq [83, 84] [68] rfl rfl rfl rfl (len_own tab_ok rfl rfl) ?_
         refine dreg_onq [83, 85] [] rfl rfl rfl rfl (step_C tab_ok (fun K hk => hk)) ?_;refine dreg_onq [83, 86] [] rfl rfl rfl rfl (step_C tab_ok (fun K hk => hk)) ?_;refine dreg_onq [87, 14] [] rfl rfl rfl rfl (step_C tab_ok (fun K hk => hk)) ?_
         refine dreg_onq [87, 88] [320] rfl rfl rfl rfl (load_box tab_ok rfl rfl ⟨_, rfl, rfl⟩ rfl) ?_;refine dreg_onq [87, 89] [] rfl rfl rfl rfl (step_C tab_ok (fun K hk => hk)) ?_
         refine dreg_onq [83, 87, 90] [] rfl rfl rfl rfl (pick_T tab_ok rfl rfl rfl) ?_;refine dQ [83, 91] [] iG ?_;refine dreg_end (by kernel_rfl) ?_;refine seq_n ?_;refine wT ?_
         refine wc_region ?_;iterate 2 refine rC ?_
         refine rQ iM ?_;refine reg_do rfl (call_h [(0, some 64), (1, some 66), (2, some 67)] (crash_arr a d hnd) rfl rfl rfl (arg_ptr rfl rfl (arg_ptr rfl rfl (arg_map rfl rfl arg_nil))) ⟨zH, zH, zH, trivial⟩ rfl rfl (.inl rfl) rfl rfl) rfl rfl ?_
         refine reg_nil ?_
         exact mid_n d [(64, some _), (65, some 65), (66, some _), (67, some 67), (68, some 68), (69, some 320)] (by rw [show lateB [] o = true from hlt2]; rfl) (lg zc ⟨zR, zR, zR, zR, zR, zR, trivial⟩)
       ·have hpos : 0 < ah.length := List.length_pos_iff.2 hah0
        have f1 : decide ((0 : Int) < (ah.length : Int)) = true := dT (by omega)
        have f2 : decide ((ah.length : Int) = 0) = false := dF (by omega)
        have hw75 : IntKind.i64.wrap ((ah.length : Int) - 1) = (ah.length : Int) - 1 := wrap_i64 (by omega) (by omega)
        have hx0 : (0 : Int) ≤ (ah.length : Int) - 1 := by omega
        have hx1 : (ah.length : Int) - 1 < (ah.length : Int) := by omega
        obtain ⟨y, hy⟩ : ∃ y, ah[((ah.length : Int) - 1).toNat]? = some y := ⟨_, List.getElem?_eq_getElem (by omega)⟩
        have hyl : ah.getLast? = some y := by rw [List.getLast?_eq_getElem?, ← hy]; congr 1; omega
        cases hlt2 : decide (y.era < o.era) with
        | false =>
         refine wc_seq ?_;refine wc_draw (by kernel_rfl) ?_;refine dC [11] [] ?_;refine dQ [68] [68] (len_own tab_ok rfl rfl) ?_;refine dC [69] [] ?_;refine dC [70] [] ?_
         iterate 2 refine dreg_onq [71, 11] [] rfl rfl (by assumption) rfl (step_C tab_ok (fun K hk => hk)) ?_
         refine dreg_onq [71, 73] [68] rfl rfl (by assumption) rfl (len_own tab_ok rfl rfl) ?_;refine dreg_onq [71, 74] [] rfl rfl (by assumption) rfl (sub_int (m := (ah.length : Int) - 1) tab_ok rfl rfl hw75) ?_
         refine dreg_onq [71, 72, 75] [] rfl rfl (by assumption) rfl (index_own tab_ok rfl rfl rfl rfl rfl hx0 hx1) ?_;refine dreg_onq [71, 76] [] rfl rfl (by assumption) rfl (step_C tab_ok (fun K hk => hk)) ?_
         refine dreg_onq [71, 77] [68] rfl rfl (by assumption) rfl (load_row tab_ok rfl rfl ⟨rfl, y, hy, _, rfl, rfl⟩ rfl) ?_;refine dreg_onq [71, 14] [] rfl rfl (by assumption) rfl (step_C tab_ok (fun K hk => hk)) ?_
         refine dreg_onq [71, 79] [320] rfl rfl (by assumption) rfl (load_box tab_ok rfl rfl ⟨_, rfl, rfl⟩ rfl) ?_;refine dreg_onq [71, 78, 80] [] rfl rfl (by assumption) rfl (step_C tab_ok (fun K hk => hk)) ?_
         refine dQ [71, 81] [] iT ?_;refine dC [82] [] ?_;refine dreg_onq [83, 11] [] rfl rfl (by assumption) rfl (step_C tab_ok (fun K hk => hk)) ?_;refine dreg_onq [83, 84] [68] rfl rfl (by assumption) rfl (len_own tab_ok rfl rfl) ?_
         refine dreg_onq [83, 85] [] rfl rfl (by assumption) rfl (step_C tab_ok (fun K hk => hk)) ?_;refine dreg_onq [83, 86] [] rfl rfl (by assumption) rfl (step_C tab_ok (fun K hk => hk)) ?_
         refine dreg_offq [87, 14] rfl rfl (by assumption) rfl ?_;refine dreg_offq [87, 88] rfl rfl (by assumption) rfl ?_;refine dreg_offq [87, 89] rfl rfl (by assumption) rfl ?_
         refine dreg_onq [83, 87, 90] [] rfl rfl (by assumption) rfl (pick_F tab_ok rfl (by assumption) rfl) ?_;refine dQ [83, 91] [] iF ?_;refine dreg_end (by kernel_rfl) ?_
         refine seq_n ?_;refine wG ?_;refine wc_skip ?_
         exact mid_n a [(64, some _), (65, some 65), (66, some 66), (67, some 67), (68, some 68), (69, some 320)] (by rw [show lateB ah o = false by rw [lateB, hyl]; exact hlt2]; rfl) (lg zc ⟨zR, zR, zR, zR, zR, zR, trivial⟩)
        | true =>
         refine wc_seq ?_;refine wc_draw (by kernel_rfl) ?_;refine dC [11] [] ?_;refine dQ [68] [68] (len_own tab_ok rfl rfl) ?_;refine dC [69] [] ?_;refine dC [70] [] ?_
         iterate 2 refine dreg_onq [71, 11] [] rfl rfl (by assumption) rfl (step_C tab_ok (fun K hk => hk)) ?_
         refine dreg_onq [71, 73] [68] rfl rfl (by assumption) rfl (len_own tab_ok rfl rfl) ?_;refine dreg_onq [71, 74] [] rfl rfl (by assumption) rfl (sub_int (m := (ah.length : Int) - 1) tab_ok rfl rfl hw75) ?_
         refine dreg_onq [71, 72, 75] [] rfl rfl (by assumption) rfl (index_own tab_ok rfl rfl rfl rfl rfl hx0 hx1) ?_;refine dreg_onq [71, 76] [] rfl rfl (by assumption) rfl (step_C tab_ok (fun K hk => hk)) ?_
         refine dreg_onq [71, 77] [68] rfl rfl (by assumption) rfl (load_row tab_ok rfl rfl ⟨rfl, y, hy, _, rfl, rfl⟩ rfl) ?_;refine dreg_onq [71, 14] [] rfl rfl (by assumption) rfl (step_C tab_ok (fun K hk => hk)) ?_
         refine dreg_onq [71, 79] [320] rfl rfl (by assumption) rfl (load_box tab_ok rfl rfl ⟨_, rfl, rfl⟩ rfl) ?_;refine dreg_onq [71, 78, 80] [] rfl rfl (by assumption) rfl (step_C tab_ok (fun K hk => hk)) ?_
         refine dQ [71, 81] [] iT ?_;refine dC [82] [] ?_;refine dreg_offq [83, 11] rfl rfl (by assumption) rfl ?_;refine dreg_offq [83, 84] rfl rfl (by assumption) rfl ?_
         refine dreg_offq [83, 85] rfl rfl (by assumption) rfl ?_;refine dreg_offq [83, 86] rfl rfl (by assumption) rfl ?_;refine dreg_offUq [87, 14] rfl rfl rfl ?_;refine dreg_offUq [87, 88] rfl rfl rfl ?_
         refine dreg_offUq [87, 89] rfl rfl rfl ?_;refine dreg_offq [83, 87, 90] rfl rfl (by assumption) rfl ?_;refine dQ [83, 91] [] iT ?_;refine dreg_end (by kernel_rfl) ?_
         refine seq_n ?_;refine wV ?_;refine wc_region ?_;iterate 2 refine rC ?_
         refine rQ iM ?_;refine reg_do rfl (call_h [(0, some 64), (1, some 66), (2, some 67)] (crash_arr a d hnd) rfl rfl rfl (arg_ptr rfl rfl (arg_ptr rfl rfl (arg_map rfl rfl arg_nil))) ⟨zH, zH, zH, trivial⟩ rfl rfl (.inl rfl) rfl rfl) rfl rfl ?_
         refine reg_nil ?_
         exact mid_n d [(64, some _), (65, some 65), (66, some _), (67, some 67), (68, some 68), (69, some 320)] (by rw [show lateB ah o = true by rw [lateB, hyl]; exact hlt2]; rfl) (lg zc ⟨zR, zR, zR, zR, zR, zR, trivial⟩)
      ·rintro a2 ha2
       rw [← ha2] at hres
       have hna2 : (keysV a2).Nodup := by rw [ha2]; split <;> assumption
       have hahl : ah.length + 1 ≤ 1048576 := by omega
       have hset : (tk.set i.toNat true).length = l.length := by rw [List.length_set]; exact htk
       refine wc_of ?_
       rcases may_kind hm with hkd | ⟨hkd, hdt⟩ | hkd
       ·have hhp := hap_read a2 d o hkd hna2
        obtain ⟨v, hv⟩ : ∃ v, (!mustB o || decide (getV a2 o.op.index = o.value)) = v := ⟨_, rfl⟩
        rw [hv] at hhp
        rw [show hapV a2 d o = (v, a2, d) by rw [hapV, if_pos hkd, hv]] at hres
        cases v with
        | false =>
         rw [if_pos rfl] at hres
         rw [bad (by decide) hres]
         refine qR ?_;refine rQ iM ?_;refine reg_do rfl (call_h [(0, some 64), (1, some 66), (2, some 67)] hhp rfl rfl rfl (arg_ptr rfl rfl (arg_e arg_nil)) ⟨zH, zH, zH, trivial⟩ rfl rfl (.inl rfl) rfl rfl) rfl rfl ?_
         refine rC ?_;refine nS ?_;refine wV ?_;refine sR ?_;refine rC ?_;refine nS ?_;refine wc_ret ?_;refine seq_r ?_;refine blk_r ?_;refine seq_r ?_;refine loop_r ?_;refine blk_r ?_
         refine seq_r ?_
         exact ⟨trivial, [], lf⟩
        | true =>
         rw [if_neg (by simp)] at hres
         refine qR ?_;refine rQ iM ?_;refine reg_do rfl (call_h [(0, some 64), (1, some 66), (2, some 67)] hhp rfl rfl rfl (arg_ptr rfl rfl (arg_e arg_nil)) ⟨zH, zH, zH, trivial⟩ rfl rfl (.inl rfl) rfl rfl) rfl rfl ?_
         refine rC ?_;refine nS ?_;refine wG ?_;refine kS ?_;refine sR ?_;iterate 2 refine rC ?_
         refine rQ (index_own tab_ok rfl rfl rfl rfl rfl (by omega) (by omega)) ?_;refine reg_store (store_row tab_ok rfl rfl rfl ⟨rfl, false, true, ht, ⟨rfl, rfl, rfl⟩, rfl⟩ rfl) ?_
         refine nS ?_;refine wc_region ?_;refine rC ?_;refine rQ iM ?_;refine reg_new (build_slice (s := 41) tab_ok rfl rfl rfl rfl rfl rfl rfl rfl) rfl ?_;refine reg_new2 (append_one (xs := ah) (s := 41) (enc := encOpn) tab_ok o rfl rfl rfl rfl rfl rfl rfl rfl rfl hahl rfl) rfl ?_
         refine rC ?_;refine reg_nil ?_;refine blk_n ?_;refine seq_n ?_;refine wc_region ?_;refine rQ iD ?_;refine rC ?_;refine reg_nil ?_
         exact loop_n ⟨k + 1, tk.set i.toNat true, ah ++ [o], a2, d⟩ [(64, some 64), (65, some 65), (66, some 66), (67, some 67), (68, some _)] ⟨hlt, hset, by simp only [List.length_append, List.length_cons, List.length_nil]; omega, hna2, hnd, hres⟩ (by simp only; omega) (lg ⟨zE, rfl, zE, rfl, zE, rfl, zE, rfl, zE, rfl, zE, rfl, zE, rfl, ⟨_, rfl, AVLe.of_eq (by simp only [List.length_append]; rfl)⟩, rfl, trivial⟩ ⟨zR, zR, zR, zR, zR, trivial⟩)
       ·have hhp := hap_write a2 d o hkd hdt hna2
        rw [show hapV a2 d o = (true, putV a2 o.op.index o.op.data, d) by rw [hapV, if_neg (by omega), if_pos hkd], if_neg (by simp)] at hres
        refine qR ?_;refine rQ iM ?_;refine reg_do rfl (call_h [(0, some 64), (1, some 66), (2, some 67)] hhp rfl rfl rfl (arg_ptr rfl rfl (arg_e arg_nil)) ⟨zH, zH, zH, trivial⟩ rfl rfl (.inl rfl) rfl rfl) rfl rfl ?_
        refine rC ?_;refine nS ?_;refine wG ?_;refine kS ?_;refine sR ?_;iterate 2 refine rC ?_
        refine rQ (index_own tab_ok rfl rfl rfl rfl rfl (by omega) (by omega)) ?_;refine reg_store (store_row tab_ok rfl rfl rfl ⟨rfl, false, true, ht, ⟨rfl, rfl, rfl⟩, rfl⟩ rfl) ?_
        refine nS ?_;refine wc_region ?_;refine rC ?_;refine rQ iM ?_;refine reg_new (build_slice (s := 41) tab_ok rfl rfl rfl rfl rfl rfl rfl rfl) rfl ?_;refine reg_new2 (append_one (xs := ah) (s := 41) (enc := encOpn) tab_ok o rfl rfl rfl rfl rfl rfl rfl rfl rfl hahl rfl) rfl ?_
        refine rC ?_;refine reg_nil ?_;refine blk_n ?_;refine seq_n ?_;refine wc_region ?_;refine rQ iD ?_;refine rC ?_;refine reg_nil ?_
        exact loop_n ⟨k + 1, tk.set i.toNat true, ah ++ [o], putV a2 o.op.index o.op.data, d⟩ [(64, some 64), (65, some 65), (66, some 66), (67, some 67), (68, some _)] ⟨hlt, hset, by simp only [List.length_append, List.length_cons, List.length_nil]; omega, keysV_put _ _ _ hna2, hnd, hres⟩ (by simp only; omega) (lg ⟨zE, rfl, zE, rfl, zE, rfl, zE, rfl, zE, rfl, zE, rfl, zE, rfl, ⟨_, rfl, AVLe.of_eq (by simp only [List.length_append]; rfl)⟩, rfl, trivial⟩ ⟨zR, zR, zR, zR, zR, trivial⟩)
       ·have hhp := hap_flush a2 d o hkd hna2
        rw [show hapV a2 d o = (true, a2, a2) by rw [hapV, if_neg (by omega), if_neg (by omega)], if_neg (by simp)] at hres
        refine qR ?_;refine rQ iM ?_;refine reg_do rfl (call_h [(0, some 64), (1, some 66), (2, some 67)] hhp rfl rfl rfl (arg_ptr rfl rfl (arg_e arg_nil)) ⟨zH, zH, zH, trivial⟩ rfl rfl (.inl rfl) rfl rfl) rfl rfl ?_
        refine rC ?_;refine nS ?_;refine wG ?_;refine kS ?_;refine sR ?_;iterate 2 refine rC ?_
        refine rQ (index_own tab_ok rfl rfl rfl rfl rfl (by omega) (by omega)) ?_;refine reg_store (store_row tab_ok rfl rfl rfl ⟨rfl, false, true, ht, ⟨rfl, rfl, rfl⟩, rfl⟩ rfl) ?_
        refine nS ?_;refine wc_region ?_;refine rC ?_;refine rQ iM ?_;refine reg_new (build_slice (s := 41) tab_ok rfl rfl rfl rfl rfl rfl rfl rfl) rfl ?_;refine reg_new2 (append_one (xs := ah) (s := 41) (enc := encOpn) tab_ok o rfl rfl rfl rfl rfl rfl rfl rfl rfl hahl rfl) rfl ?_
        refine rC ?_;refine reg_nil ?_;refine blk_n ?_;refine seq_n ?_;refine wc_region ?_;refine rQ iD ?_;refine rC ?_;refine reg_nil ?_
        exact loop_n ⟨k + 1, tk.set i.toNat true, ah ++ [o], a2, a2⟩ [(64, some 64), (65, some 65), (66, some 66), (67, some _), (68, some _)] ⟨hlt, hset, by simp only [List.length_append, List.length_cons, List.length_nil]; omega, hna2, hna2, hres⟩ (by simp only; omega) (lg ⟨zE, rfl, zE, rfl, zE, rfl, zE, rfl, zE, rfl, zE, rfl, zE, rfl, ⟨_, rfl, AVLe.of_eq (by simp only [List.length_append]; rfl)⟩, rfl, trivial⟩ ⟨zR, zR, zR, zR, zR, trivial⟩)
 ·have d1 : decide ((k : Int) < (order.length : Int)) = false := dF (by omega)
  rw [show order.drop k = [] from List.drop_eq_nil_of_le (by omega), accL] at hres
  have hS : accS b l order = if misB l tk = true then 15 else 0 := by rw [accS, ← hres, if_pos rfl]
  rw [hS]
  refine sR ?_;refine rC ?_;refine nQ ?_;refine wF ?_;refine wc_exit ?_;refine seq_x ?_;refine loop_x ?_;refine blk_x ?_;refine seq_n ?_;refine qR ?_;refine rC ?_
  refine rQ (len_arx tab_ok rfl rfl) ?_;refine rC ?_;refine nS ?_;refine wc_block ?_
  refine wc_inv (fun i : Nat => ⟨[(110, .int .i64 i), (109, .int .i64 l.length), (108, .d (encOX l)), (10, .own 65 0 l.length 1 none)], [(65, some (tkRow tk))], 72, Try.f18.ntmps, 64⟩) (fun i => i ≤ l.length ∧ misB (l.drop i) (tk.drop i) = misB l tk) (fun i => l.length - i) 0 [(65, some 65)] ⟨Nat.zero_le _, rfl⟩
   (lg zi ⟨zR, trivial⟩) ?_
  rintro i ⟨hi, hmis⟩
  refine wc_of ?_
  by_cases hil : i < l.length
  ·have d2 : decide ((i : Int) < (l.length : Int)) = true := dT (by omega)
   obtain ⟨o, hl⟩ : ∃ o, l[((i : Int)).toNat]? = some o := ⟨_, List.getElem?_eq_getElem (by rw [Int.toNat_natCast]; exact hil)⟩
   obtain ⟨t, ht⟩ : ∃ t, tk[((i : Int)).toNat]? = some t := ⟨_, List.getElem?_eq_getElem (by rw [Int.toNat_natCast]; omega)⟩
   have hstep : misB (l.drop i) (tk.drop i) = ((mustB o && !t) || misB (l.drop (i + 1)) (tk.drop (i + 1))) := by
    rw [Int.toNat_natCast] at hl ht
    rw [List.drop_eq_getElem_cons hil, List.drop_eq_getElem_cons (show i < tk.length by omega), (List.getElem?_eq_some_iff.1 hl).2, (List.getElem?_eq_some_iff.1 ht).2, misB]
   rw [hstep] at hmis
   have hmu := must_is o
   cases hmo : mustB o with
   | false =>
    rw [hmo] at hmu hmis
    simp only [Bool.false_and, Bool.false_or] at hmis
    refine sR ?_;refine rC ?_;refine nQ ?_;refine wT ?_;refine kS ?_;refine wc_seq ?_;refine wc_block ?_;refine sR ?_;refine rC ?_;refine rQ (index_arx tab_ok rfl rfl rfl rfl rfl (by omega) hl) ?_
    refine rQ iL ?_;refine rN ?_;refine rC ?_;refine rW ?_;refine nR ?_;refine rQ iM ?_;refine rQ (call_r hmu rfl rfl (arg_e arg_nil) (.inl rfl) (fun _ => rfl)) ?_;refine rC ?_
    iterate 5 refine rT ?_
    refine rQ iG ?_;refine nS ?_;refine wG ?_;refine wc_skip ?_;refine blk_n ?_;refine seq_n ?_;refine wc_region ?_;refine rQ iD ?_;refine rC ?_;refine reg_nil ?_
    exact loop_n (i + 1) [(65, some 65)] ⟨hil, hmis⟩ (by omega) (lg zi ⟨zR, trivial⟩)
   | true =>
    rw [hmo] at hmu hmis
    cases t with
    | true =>
     simp only [Bool.not_true, Bool.and_false, Bool.false_or] at hmis
     refine sR ?_;refine rC ?_;refine nQ ?_;refine wT ?_;refine kS ?_;refine wc_seq ?_;refine wc_block ?_;refine sR ?_;refine rC ?_;refine rQ (index_arx tab_ok rfl rfl rfl rfl rfl (by omega) hl) ?_
     refine rQ iL ?_;refine rN ?_;refine rC ?_;refine rW ?_;refine nR ?_;refine rQ iM ?_;refine rQ (call_r hmu rfl rfl (arg_e arg_nil) (.inl rfl) (fun _ => rfl)) ?_;refine rC ?_
     refine rP ?_;refine rC ?_;refine rP ?_;refine rC ?_;refine rP ?_;refine rQ (index_own tab_ok rfl rfl rfl rfl rfl (by omega) (by omega)) ?_;refine rP ?_;refine rQ (load_row tab_ok rfl rfl ⟨rfl, _, ht, _, rfl, rfl⟩ rfl) ?_
     refine rP ?_;refine rC ?_;refine rQ iU ?_;refine nS ?_;refine wG ?_;refine wc_skip ?_;refine blk_n ?_;refine seq_n ?_;refine wc_region ?_;refine rQ iD ?_;refine rC ?_
     refine reg_nil ?_
     exact loop_n (i + 1) [(65, some 65)] ⟨hil, hmis⟩ (by omega) (lg zi ⟨zR, trivial⟩)
    | false =>
     simp only [Bool.not_false, Bool.and_true, Bool.true_or] at hmis
     rw [← hmis, if_pos rfl]
     refine sR ?_;refine rC ?_;refine nQ ?_;refine wT ?_;refine kS ?_;refine wc_seq ?_;refine wc_block ?_;refine sR ?_;refine rC ?_;refine rQ (index_arx tab_ok rfl rfl rfl rfl rfl (by omega) hl) ?_
     refine rQ iL ?_;refine rN ?_;refine rC ?_;refine rW ?_;refine nR ?_;refine rQ iM ?_;refine rQ (call_r hmu rfl rfl (arg_e arg_nil) (.inl rfl) (fun _ => rfl)) ?_;refine rC ?_
     refine rP ?_;refine rC ?_;refine rP ?_;refine rC ?_;refine rP ?_;refine rQ (index_own tab_ok rfl rfl rfl rfl rfl (by omega) (by omega)) ?_;refine rP ?_;refine rQ (load_row tab_ok rfl rfl ⟨rfl, _, ht, _, rfl, rfl⟩ rfl) ?_
     refine rP ?_;refine rC ?_;refine rQ iU ?_;refine nS ?_;refine wV ?_;refine sR ?_;refine rC ?_;refine nS ?_;refine wc_ret ?_;refine blk_r ?_;refine seq_r ?_;refine loop_r ?_
     refine blk_r ?_;refine seq_r ?_
     exact ⟨trivial, [], lf⟩
  ·have d2 : decide ((i : Int) < (l.length : Int)) = false := dF (by omega)
   rw [show l.drop i = [] from List.drop_eq_nil_of_le (by omega), misB_nil] at hmis
   rw [← hmis, if_neg (by decide)]
   refine sR ?_;refine rC ?_;refine nQ ?_;refine wF ?_;refine wc_exit ?_;refine seq_x ?_;refine loop_x ?_;refine blk_x ?_;refine seq_n ?_;refine sR ?_;refine rC ?_
   refine nS ?_;refine wc_ret ?_
   exact ⟨trivial, [], lf⟩
end Go.Proofs.Ytkehohfgbblokaa
namespace Go.Proofs.Ytkehohfgbblokaa
open Go.Eng Go.Plain
def lostL : List HEv := [⟨1, 0, wrO 1, zBk, 0⟩, ⟨3, 0, zOp, zBk, 0⟩]
def keptL : List HEv := [⟨1, 0, wrO 1, zBk, 0⟩, ⟨1, 1, flO, zBk, 0⟩, ⟨3, 0, zOp, zBk, 0⟩]
def badL0 : List HEv := [⟨1, 0, rdO, zBk, 0⟩, ⟨2, 0, zOp, zBk, 9⟩]
def badL : List HEv := badL0 ++ didL (wrO 1) zBk
theorem ex1 : findH (bothL onesB) 1 9 = (([0, 1], true), 0) := by decide +kernel
theorem ex2 : findH (bothL zBk) 1 9 = (([1, 0], true), 0) := by decide +kernel
theorem ex3 : statesH (bothL onesB) 1 3 = (3, 0) := by decide +kernel
theorem ex4 : statesH (bothL onesB) 1 2 = (0, 4) := by decide +kernel
theorem ex5 : statesH (bothL zBk) 1 4 = (4, 0) := by decide +kernel
theorem ex6 : findH (crashL true) 1 99 = (([0, 1, 2, 3], true), 0) := by decide +kernel
theorem ex7 : (findH (crashL false) 1 99).1.2 = false ∧ (findH (crashL false) 1 99).2 = 0 := by decide +kernel
theorem ex8 : (findH (lostL ++ didL rdO onesB) 1 99).1.2 = false ∧ (findH (lostL ++ didL rdO onesB) 1 99).2 = 0 := by decide +kernel
theorem ex9 : findH (keptL ++ didL rdO onesB) 1 99 = (([0, 1, 2], true), 0) := by decide +kernel
theorem ex10 : (if (chkH badL).2 = 0 then stV (opsH badL) else false) = false ∧ (chkH badL).2 = 0 := by decide +kernel
theorem ex11 : (findH badL 1 9).1.2 = true ∧ (findH badL 1 9).2 = 0 := by decide +kernel
theorem acA (o : List Int) (e : Int) (h : _root_.Go.Proofs.Ytkehohfgbblokaa.accS 1 (opsH (bothL onesB)) o = e) : (if opE (bothL onesB) 1 = 0 then _root_.Go.Proofs.Ytkehohfgbblokaa.accS 1 (opsH (bothL onesB)) o else opE (bothL onesB) 1) = e := by
 rw [if_pos (by decide +kernel), h]
theorem ex12 : _root_.Go.Proofs.Ytkehohfgbblokaa.accS 1 (opsH (bothL onesB)) [1, 0] = 15 ∧ _root_.Go.Proofs.Ytkehohfgbblokaa.accS 1 (opsH (bothL onesB)) [0] = 15 ∧ _root_.Go.Proofs.Ytkehohfgbblokaa.accS 1 (opsH (bothL onesB)) [0, 0] = 1 ∧ _root_.Go.Proofs.Ytkehohfgbblokaa.accS 1 (opsH (bothL onesB)) [0, 1] = 0 := by decide +kernel
end Go.Proofs.Ytkehohfgbblokaa
namespace Go.Proofs.Ytkehohfgbblokaa
open Go.Eng Go.Plain
set_option maxHeartbeats 16000000
set_option maxRecDepth 20000
attribute [local irreducible] WC RegS RegD SeqQ BlkQ ScoQ RegK CutK Sat SatN FnIs LoopQ StepIs OpIs
def eqN (a b : List Int) : Int := if a = b then 1 else 0
def eqG : List Int → List Int → Int
 | [], [] => 1
 | x :: a, y :: b => if x = y then eqG a b else 0
 | _, _ => 0
theorem eqG_eq : ∀ (a b : List Int), eqG a b = eqN a b
 | [], [] => rfl
 | x :: a, y :: b => by
  have ih := eqG_eq a b
  unfold eqN at ih ⊢
  unfold eqG
  by_cases h : x = y
  ·subst h; simp [ih]
  ·simp [h]
 | [], _ :: _ => by simp [eqG, eqN]
 | _ :: _, [] => by simp [eqG, eqN]
theorem equal_is (a b : List Int) (ha : a.length ≤ 1048576) : FnIs Try.prog 25 [.d (encIX a), .d (encL b)] [] (.d (i6 (eqN a b))) [] := by
 refine fnIs_of tab_ok Try.func25 rfl rfl rfl ?_
 by_cases hl : a.length = b.length
 ·have d1 : decide ((a.length : Int) = (b.length : Int)) = true := dT (by omega)
  have d1n : (!decide ((a.length : Int) = (b.length : Int))) = false := by rw [d1]; rfl
  have d2n : (!decide ((a.length : Int) = (a.length : Int))) = false := by rw [dT rfl]; rfl
  refine sR ?_;refine rC ?_;refine nQ ?_;refine sR ?_;refine rC ?_;refine rQ (len_arx tab_ok rfl rfl) ?_;refine rC ?_;refine rQ iE ?_;iterate 2 refine rC ?_
  refine rO ?_;refine rC ?_;refine rO ?_;refine rQ (cap_arx tab_ok rfl rfl) ?_;refine rO ?_;refine rC ?_;refine rO ?_;refine rQ (len_arx tab_ok rfl rfl) ?_;refine rO ?_
  refine rC ?_;refine rQ iF ?_;refine nS ?_;refine wF ?_;refine kS ?_;refine qR ?_;refine rC ?_;refine nS ?_;refine wc_block ?_
  refine wc_inv (fun i : Nat => ⟨[(5, .int .i64 i), (0, .d (encIX a)), (1, .d (encL b))], [], 72, Try.f25.ntmps, 64⟩) (fun i => i ≤ a.length ∧ eqG (a.drop i) (b.drop i) = eqG a b) (fun i => a.length - i) 0 [] ⟨Nat.zero_le _, rfl⟩
   (lg zj trivial) ?_
  rintro i ⟨hi, hinv⟩
  refine wc_of ?_
  by_cases hlt : i < a.length
  ·have d3 : decide ((i : Int) < (a.length : Int)) = true := dT (by omega)
   obtain ⟨x, hx⟩ : ∃ x, a[i]? = some x := ⟨_, List.getElem?_eq_getElem hlt⟩
   obtain ⟨y, hy⟩ : ∃ y, b[i]? = some y := ⟨_, List.getElem?_eq_getElem (by omega)⟩
   have hx2 : a[((i : Int)).toNat]? = some x := by rw [Int.toNat_natCast]; exact hx
   have hy2 : b[((i : Int)).toNat]? = some y := by rw [Int.toNat_natCast]; exact hy
   have hs : eqG (a.drop i) (b.drop i) = if x = y then eqG (a.drop (i + 1)) (b.drop (i + 1)) else 0 := by
    rw [List.drop_eq_getElem_cons (List.getElem?_eq_some_iff.1 hx).1, (List.getElem?_eq_some_iff.1 hx).2, List.drop_eq_getElem_cons (List.getElem?_eq_some_iff.1 hy).1, (List.getElem?_eq_some_iff.1 hy).2]
    rfl
   rw [hs] at hinv
   by_cases he : x = y
   ·have d4 : (!decide (x = y)) = false := by rw [dT he]; rfl
    rw [if_pos he] at hinv
    refine qR ?_;iterate 2 refine rC ?_
    refine rQ (len_arx tab_ok rfl rfl) ?_;refine rC ?_;refine nS ?_;refine wT ?_;refine kS ?_;refine wc_seq ?_;refine wc_block ?_;refine wc_seq ?_;refine wc_draw (by kernel_rfl) ?_
    refine dC [0] [] ?_;refine dC [5] [] ?_;refine dQ [24, 25] [] (index_arx tab_ok rfl rfl rfl rfl rfl (by omega) hx2) ?_;refine dQ [26] [] iL ?_;refine dC [1] [] ?_
    refine dC [5] [] ?_;refine dQ [28, 29] [] (index_arr tab_ok rfl rfl rfl rfl rfl (by omega) hy2) ?_;refine dQ [30] [] iL ?_;refine dC [27, 31] [] ?_;refine dreg_end (by kernel_rfl) ?_
    refine seq_n ?_;refine wF ?_;refine wc_skip ?_;refine blk_n ?_;refine seq_n ?_;refine wc_region ?_;refine rC ?_;refine rQ iD ?_;refine rC ?_;refine reg_nil ?_
    exact loop_n (i + 1) [] ⟨hlt, hinv⟩ (by omega) (lg zj trivial)
   ·have d4 : (!decide (x = y)) = true := by rw [dF he]; rfl
    rw [if_neg he] at hinv
    rw [← eqG_eq, ← hinv]
    refine qR ?_;iterate 2 refine rC ?_
    refine rQ (len_arx tab_ok rfl rfl) ?_;refine rC ?_;refine nS ?_;refine wT ?_;refine kS ?_;refine wc_seq ?_;refine wc_block ?_;refine wc_seq ?_;refine wc_draw (by kernel_rfl) ?_
    refine dC [0] [] ?_;refine dC [5] [] ?_;refine dQ [24, 25] [] (index_arx tab_ok rfl rfl rfl rfl rfl (by omega) hx2) ?_;refine dQ [26] [] iL ?_;refine dC [1] [] ?_
    refine dC [5] [] ?_;refine dQ [28, 29] [] (index_arr tab_ok rfl rfl rfl rfl rfl (by omega) hy2) ?_;refine dQ [30] [] iL ?_;refine dC [27, 31] [] ?_;refine dreg_end (by kernel_rfl) ?_
    refine seq_n ?_;refine wT ?_;refine sR ?_;refine rC ?_;refine nS ?_;refine wc_ret ?_;refine blk_r ?_;refine seq_r ?_;refine loop_r ?_;refine blk_r ?_;refine seq_r ?_
    exact ⟨trivial, [], lf⟩
  ·have d3 : decide ((i : Int) < (a.length : Int)) = false := dF (by omega)
   rw [List.drop_eq_nil_of_le (by omega), List.drop_eq_nil_of_le (by omega)] at hinv
   rw [← eqG_eq, ← hinv]
   refine qR ?_;iterate 2 refine rC ?_
   refine rQ (len_arx tab_ok rfl rfl) ?_;refine rC ?_;refine nS ?_;refine wF ?_;refine wc_exit ?_;refine seq_x ?_;refine loop_x ?_;refine blk_x ?_;refine seq_n ?_;refine sR ?_
   refine rC ?_;refine nS ?_;refine wc_ret ?_
   exact ⟨trivial, [], lf⟩
 ·have d1 : decide ((a.length : Int) = (b.length : Int)) = false := dF (by omega)
  have d1n : (!decide ((a.length : Int) = (b.length : Int))) = true := by rw [d1]; rfl
  have he : eqN a b = 0 := by rw [eqN, if_neg fun e => hl (by rw [e])]
  rw [he]
  refine sR ?_;refine rC ?_;refine nQ ?_;refine sR ?_;refine rC ?_;refine rQ (len_arx tab_ok rfl rfl) ?_;refine rC ?_;refine rQ iE ?_;iterate 2 refine rC ?_
  iterate 5 refine rS ?_
  refine rQ iT ?_;refine nS ?_;refine wV ?_;refine sR ?_;refine rC ?_;refine nS ?_;refine wc_ret ?_;refine seq_r ?_
  exact ⟨trivial, [], lf⟩
theorem equal_t (a : List Int) (ha : a.length ≤ 1048576) : FnIs Try.prog 25 [.d (encIX a), .d (encL a)] [] (.d (i6 1)) [] := by
 have := equal_is a a ha
 rwa [eqN, if_pos rfl] at this
abbrev fndE (o : List Int) (f : Bool) (e : Int) : AV := .tup (.acons (.d (encIX o)) (.acons (.bool f) (.acons (.int .i64 e) .anil)))
abbrev legE (f : Bool) (e : Int) : AV := .tup (.acons (.bool f) (.acons (.int .i64 e) .anil))
abbrev stsE (m e : Int) : AV := .tup (.acons (.int .i64 m) (.acons (.int .i64 e) .anil))
theorem lives_go (H G C1 C2 : List HEv) (hb1 : FnIs Try.prog 35 [.d (encBk onesB)] [] (.d (encH H)) []) (hb2 : FnIs Try.prog 35 [.d (encBk zBk)] [] (.d (encH G)) [])
  (crashed_t : FnIs Try.prog 37 [.bool true] [] (.d (encH C1)) []) (crashed_f : FnIs Try.prog 37 [.bool false] [] (.d (encH C2)) [])
  (hf1 : FnIs Try.prog 23 [.d (encH H), .int .i64 1, .int .i64 9] [] (fndE [0, 1] true 0) []) (hf2 : FnIs Try.prog 23 [.d (encH G), .int .i64 1, .int .i64 9] [] (fndE [1, 0] true 0) [])
  (hs1 : FnIs Try.prog 21 [.d (encH H), .int .i64 1, .int .i64 3] [] (stsE 3 0) []) (hs2 : FnIs Try.prog 21 [.d (encH H), .int .i64 1, .int .i64 2] [] (stsE 0 4) []) (hs3 : FnIs Try.prog 21 [.d (encH G), .int .i64 1, .int .i64 4] [] (stsE 4 0) [])
  (hacs : ∀ (k : Nat) o e, [[1, 0], [0], [0, 0], [0, 1]][k]? = some o → ([15, 15, 1, 0] : List Int)[k]? = some e → FnIs Try.prog 18 [.d (encH H), .int .i64 1, .d (encL o)] [] (.d (i6 e)) [])
  (hf3 : FnIs Try.prog 23 [.d (encH C1), .int .i64 1, .int .i64 99] [] (fndE [0, 1, 2, 3] true 0) []) (hl1 : FnIs Try.prog 22 [.d (encH C2), .int .i64 1, .int .i64 99] [] (legE false 0) [])
  (hl2 : FnIs Try.prog 22 [.d (encH (lostL ++ didL rdO onesB)), .int .i64 1, .int .i64 99] [] (legE false 0) []) (hf4 : FnIs Try.prog 23 [.d (encH (keptL ++ didL rdO onesB)), .int .i64 1, .int .i64 99] [] (fndE [0, 1, 2] true 0) [])
  (hsk : FnIs Try.prog 27 [.d (encH (badL0 ++ didL (wrO 1) zBk))] [] (legE false 0) []) (hl3 : FnIs Try.prog 22 [.d (encH (badL0 ++ didL (wrO 1) zBk)), .int .i64 1, .int .i64 9] [] (legE true 0) []) :
  FnIs Try.prog 12 [] [] (.bool true) [] := by
 refine fnIs_of tab_ok Try.func12 rfl rfl rfl ?_;refine sR ?_;refine rC ?_;refine nR ?_;refine rQ (call_r ones_is rfl rfl arg_nil (.inl rfl) (fun _ => rfl)) ?_;refine rQ (call_r hb1 rfl rfl (arg_e arg_nil) (.inl rfl) (fun _ => rfl)) ?_
 refine rQ (build_array tab_ok rfl rfl rfl) ?_;refine rQ (call_r hb2 rfl rfl (arg_e arg_nil) (.inl rfl) (fun _ => rfl)) ?_;iterate 2 refine rC ?_
 refine nR ?_;refine rC ?_;refine rQ (call_r hf1 rfl rfl (arg_e (arg_e (arg_e arg_nil))) (.inl rfl) (fun _ => rfl)) ?_;iterate 7 refine rC ?_
 refine nR ?_;refine rC ?_;refine rQ (call_r hf2 rfl rfl (arg_e (arg_e (arg_e arg_nil))) (.inl rfl) (fun _ => rfl)) ?_;iterate 7 refine rC ?_
 refine nR ?_;refine rC ?_;refine rQ (call_r hs1 rfl rfl (arg_e (arg_e (arg_e arg_nil))) (.inl rfl) (fun _ => rfl)) ?_;iterate 5 refine rC ?_
 refine nR ?_;refine rC ?_;refine rQ (call_r hs2 rfl rfl (arg_e (arg_e (arg_e arg_nil))) (.inl rfl) (fun _ => rfl)) ?_;iterate 5 refine rC ?_
 refine nR ?_;refine rC ?_;refine rQ (call_r hs3 rfl rfl (arg_e (arg_e (arg_e arg_nil))) (.inl rfl) (fun _ => rfl)) ?_;iterate 5 refine rC ?_
 refine nQ ?_;refine sR ?_;iterate 3 refine rC ?_
 refine rP ?_;refine rC ?_;refine rP ?_;refine rC ?_;refine rQ iG ?_;refine rC ?_;refine rP ?_;refine rC ?_;refine rP ?_;refine rC ?_;refine rQ iG ?_;refine rC ?_
 refine rP ?_;refine rC ?_;refine rP ?_;refine rC ?_;refine rQ iG ?_;refine rC ?_;refine rP ?_;refine rC ?_;refine rP ?_;refine rC ?_;refine rQ iG ?_;refine rC ?_
 refine rP ?_;refine rC ?_;refine rP ?_;refine rC ?_;refine rQ iG ?_;refine rC ?_;refine rP ?_;refine rC ?_;refine rP ?_;refine rC ?_;refine rQ iG ?_;refine rC ?_
 refine rP ?_;refine rC ?_;refine rP ?_;refine rC ?_;refine rQ iG ?_;refine rC ?_;refine rP ?_;refine rC ?_;refine rP ?_;refine rC ?_;refine rQ iG ?_;refine rC ?_
 refine rP ?_;refine rC ?_;refine rP ?_;refine rQ (StepIs.frozen (build_slice (s := 1) tab_ok rfl rfl rfl rfl rfl rfl rfl rfl) (Frz.litsN (enc := i6) [0, 1] rfl (fun _ _ => rfl))) ?_
 refine rP ?_;refine rQ (call_r (equal_t [0, 1] (by decide)) rfl rfl (arg_e (arg_e arg_nil)) (.inl rfl) (fun _ => rfl)) ?_;refine rP ?_;refine rC ?_;refine rP ?_
 refine rQ (StepIs.frozen (build_slice (s := 1) tab_ok rfl rfl rfl rfl rfl rfl rfl rfl) (Frz.litsN (enc := i6) [1, 0] rfl (fun _ _ => rfl))) ?_;refine rP ?_;refine rQ (call_r (equal_t [1, 0] (by decide)) rfl rfl (arg_e (arg_e arg_nil)) (.inl rfl) (fun _ => rfl)) ?_
 refine rP ?_;refine rQ (mul_int (m := 1) tab_ok rfl rfl rfl) ?_;refine rP ?_;refine rC ?_;refine rQ iG ?_;refine nS ?_;refine wG ?_;refine kS ?_;refine qR ?_;refine rQ (StepIs.frozen (build_slice (s := 1) tab_ok rfl rfl rfl rfl rfl rfl rfl rfl) (Frz.litsN (enc := i6) [1, 0] rfl (fun _ _ => rfl))) ?_
 refine rQ (StepIs.frozen (build_slice (s := 1) tab_ok rfl rfl rfl rfl rfl rfl rfl rfl) (Frz.litsN (enc := i6) [0] rfl (fun _ _ => rfl))) ?_;refine rQ (StepIs.frozen (build_slice (s := 1) tab_ok rfl rfl rfl rfl rfl rfl rfl rfl) (Frz.litsN (enc := i6) [0, 0] rfl (fun _ _ => rfl))) ?_
 refine rQ (StepIs.frozen (build_slice (s := 1) tab_ok rfl rfl rfl rfl rfl rfl rfl rfl) (Frz.litsN (enc := i6) [0, 1] rfl (fun _ _ => rfl))) ?_;refine rQ (StepIs.frozen (build_slice (s := 1) tab_ok rfl rfl rfl rfl rfl rfl rfl rfl) (Frz.litsN (enc := encL) [[1, 0], [0], [0, 0], [0, 1]] rfl (fun _ _ => rfl))) ?_
 refine rQ iE ?_;refine rC ?_;refine nS ?_;refine wc_block ?_
 refine wc_inv (fun k : Nat => ⟨[(107, .int .i64 k), (106, .int .i64 4), (105, .d (.arr 1 encL [[1, 0], [0], [0, 0], [0, 1]])), (1, .d (encH H))], [], 72, Try.f12.ntmps, 64⟩) (fun k => k ≤ 4) (fun k => 4 - k) 0 [] (Nat.zero_le _)
  (lg zi trivial) ?_
 intro k hk
 refine wc_of ?_
 by_cases h4 : k = 4
 ·subst h4
  refine sR ?_;refine rC ?_;refine nQ ?_;refine wG ?_;refine wc_exit ?_;refine seq_x ?_;refine loop_x ?_;refine blk_x ?_;refine seq_n ?_;refine sR ?_;refine rQ (call_r crashed_t rfl rfl (arg_e arg_nil) (.inl rfl) (fun _ => rfl)) ?_
  refine rQ (call_r hf3 rfl rfl (arg_e (arg_e (arg_e arg_nil))) (.inl rfl) (fun _ => rfl)) ?_;iterate 7 refine rC ?_
  refine nR ?_;refine rQ (call_r crashed_f rfl rfl (arg_e arg_nil) (.inl rfl) (fun _ => rfl)) ?_;refine rQ (call_r hl1 rfl rfl (arg_e (arg_e (arg_e arg_nil))) (.inl rfl) (fun _ => rfl)) ?_
  iterate 5 refine rC ?_
  refine nR ?_;refine rQ (call_r (write_is 1) rfl rfl (arg_e arg_nil) (.inl rfl) (fun _ => rfl)) ?_;refine rQ iS ?_;refine rQ (StepIs.val_le (build_struct tab_ok rfl rfl rfl rfl) (evn_le 3 0 0 0 0 zBk) rfl) ?_
  refine rQ (StepIs.frozen (build_slice (s := 38) tab_ok rfl rfl rfl rfl rfl rfl rfl rfl) (Frz.litsX (enc := encEv) lostL rfl (fun _ => rfl))) ?_;refine rC ?_;refine nR ?_
  refine rQ (call_r (write_is 1) rfl rfl (arg_e arg_nil) (.inl rfl) (fun _ => rfl)) ?_;iterate 2 refine rQ iS ?_
  refine rQ (StepIs.val_le (build_struct tab_ok rfl rfl rfl rfl) (evn_le 1 1 3 0 0 zBk) rfl) ?_;refine rQ (StepIs.val_le (build_struct tab_ok rfl rfl rfl rfl) (evn_le 3 0 0 0 0 zBk) rfl) ?_
  refine rQ (StepIs.frozen (build_slice (s := 38) tab_ok rfl rfl rfl rfl rfl rfl rfl rfl) (Frz.litsX (enc := encEv) keptL rfl (fun _ => rfl))) ?_;refine rC ?_;refine nR ?_
  refine rC ?_;refine rQ (StepIs.val_le (build_struct tab_ok rfl rfl rfl rfl) (opn_le 1 0) rfl) ?_;refine rQ (call_r ones_is rfl rfl arg_nil (.inl rfl) (fun _ => rfl)) ?_
  refine rQ (call_r (did_is rdO onesB) rfl rfl (arg_e (arg_e arg_nil)) (.inl rfl) (fun _ => rfl)) ?_;refine rQ (StepIs.frozen (append_arx_arr (s := 38) (enc := encEv) (xs := lostL) (ys := didL rdO onesB) tab_ok rfl rfl rfl rfl rfl rfl (by decide) (by decide) rfl) (Frz.own (by decide))) ?_
  refine rQ (call_r hl2 rfl rfl (arg_e (arg_e (arg_e arg_nil))) (.inl rfl) (fun _ => rfl)) ?_;iterate 5 refine rC ?_
  refine nR ?_;refine rC ?_;refine rQ (StepIs.val_le (build_struct tab_ok rfl rfl rfl rfl) (opn_le 1 0) rfl) ?_;refine rQ (call_r ones_is rfl rfl arg_nil (.inl rfl) (fun _ => rfl)) ?_
  refine rQ (call_r (did_is rdO onesB) rfl rfl (arg_e (arg_e arg_nil)) (.inl rfl) (fun _ => rfl)) ?_;refine rQ (StepIs.frozen (append_arx_arr (s := 38) (enc := encEv) (xs := keptL) (ys := didL rdO onesB) tab_ok rfl rfl rfl rfl rfl rfl (by decide) (by decide) rfl) (Frz.own (by decide))) ?_
  refine rQ (call_r hf4 rfl rfl (arg_e (arg_e (arg_e arg_nil))) (.inl rfl) (fun _ => rfl)) ?_;iterate 7 refine rC ?_
  refine nQ ?_;refine sR ?_;iterate 3 refine rC ?_
  refine rP ?_;refine rC ?_;refine rP ?_;refine rC ?_;refine rQ iG ?_;refine rC ?_;refine rP ?_;refine rC ?_;refine rP ?_;refine rC ?_;refine rQ iG ?_;refine rC ?_
  refine rP ?_;refine rC ?_;refine rP ?_;refine rC ?_;refine rQ iG ?_;refine rC ?_;refine rP ?_;refine rC ?_;refine rP ?_;refine rC ?_;refine rQ iG ?_;refine rC ?_
  refine rP ?_;refine rC ?_;refine rQ iG ?_;refine rC ?_;refine rP ?_;refine rC ?_;refine rQ iG ?_;refine rC ?_;refine rP ?_;refine rC ?_;refine rP ?_;refine rC ?_
  refine rQ iG ?_;refine rC ?_;refine rP ?_;refine rC ?_;refine rP ?_;refine rQ (StepIs.frozen (build_slice (s := 1) tab_ok rfl rfl rfl rfl rfl rfl rfl rfl) (Frz.litsN (enc := i6) [0, 1, 2, 3] rfl (fun _ _ => rfl))) ?_
  refine rP ?_;refine rQ (call_r (equal_t [0, 1, 2, 3] (by decide)) rfl rfl (arg_e (arg_e arg_nil)) (.inl rfl) (fun _ => rfl)) ?_;refine rP ?_;refine rC ?_;refine rP ?_
  refine rQ (StepIs.frozen (build_slice (s := 1) tab_ok rfl rfl rfl rfl rfl rfl rfl rfl) (Frz.litsN (enc := i6) [0, 1, 2] rfl (fun _ _ => rfl))) ?_;refine rP ?_;refine rQ (call_r (equal_t [0, 1, 2] (by decide)) rfl rfl (arg_e (arg_e arg_nil)) (.inl rfl) (fun _ => rfl)) ?_
  refine rP ?_;refine rQ (mul_int (m := 1) tab_ok rfl rfl rfl) ?_;refine rP ?_;refine rC ?_;refine rQ iG ?_;refine nS ?_;refine wG ?_;refine kS ?_;refine sR ?_;refine rQ iS ?_
  refine rQ (StepIs.val_le (build_struct tab_ok rfl rfl rfl rfl) (evn_le 1 0 1 0 0 zBk) rfl) ?_;refine rQ (StepIs.val_le (build_struct tab_ok rfl rfl rfl rfl) (evn_le 2 0 0 0 9 zBk) rfl) ?_
  refine rQ (StepIs.frozen (build_slice (s := 38) tab_ok rfl rfl rfl rfl rfl rfl rfl rfl) (Frz.litsX (enc := encEv) badL0 rfl (fun _ => rfl))) ?_;refine rQ (call_r (write_is 1) rfl rfl (arg_e arg_nil) (.inl rfl) (fun _ => rfl)) ?_
  refine rQ (build_array tab_ok rfl rfl rfl) ?_;refine rQ (call_r (did_is (wrO 1) zBk) rfl rfl (arg_e (arg_e arg_nil)) (.inl rfl) (fun _ => rfl)) ?_;refine rQ (StepIs.frozen (append_arx_arr (s := 38) (enc := encEv) (xs := badL0) (ys := didL (wrO 1) zBk) tab_ok rfl rfl rfl rfl rfl rfl (by decide) (by decide) rfl) (Frz.own (by decide))) ?_
  refine rC ?_;refine nR ?_;refine rC ?_;refine rQ (call_r hsk rfl rfl (arg_e arg_nil) (.inl rfl) (fun _ => rfl)) ?_;iterate 5 refine rC ?_
  refine nR ?_;refine rC ?_;refine rQ (call_r hl3 rfl rfl (arg_e (arg_e (arg_e arg_nil))) (.inl rfl) (fun _ => rfl)) ?_;iterate 5 refine rC ?_
  refine nR ?_;iterate 3 refine rC ?_
  refine rP ?_;refine rC ?_;refine rP ?_;refine rC ?_;refine rQ iU ?_;refine rC ?_;refine rP ?_;refine rC ?_;refine rP ?_;refine rC ?_;refine rQ iU ?_;refine rC ?_
  refine rP ?_;refine rC ?_;refine rQ iU ?_;refine rC ?_;refine nS ?_;refine wc_ret ?_
  exact ⟨trivial, [], lf⟩
 by_cases h0 : k = 0
 ·subst h0
  have hac := hacs 0 [1, 0] 15 rfl rfl
  have hod : ([[1, 0], [0], [0, 0], [0, 1]] : List (List Int))[(((0 : Nat) : Int)).toNat]? = some [1, 0] := rfl
  refine sR ?_;refine rC ?_;refine nQ ?_;refine wV ?_;refine kS ?_;refine wc_seq ?_;refine wc_block ?_;refine sR ?_;refine rC ?_;refine rQ (index_arr tab_ok rfl rfl rfl rfl rfl (by omega) hod) ?_
  refine rQ iL ?_;iterate 2 refine rC ?_
  refine nQ ?_;refine wc_draw (by kernel_rfl) ?_;refine dC [1] [] ?_;refine dC [16] [] ?_;refine dQ [112, 113] [] (call_r hac rfl rfl (arg_e (arg_e (arg_e arg_nil))) (.inl rfl) (fun _ => rfl)) ?_
  refine dQ [] [] (build_arr tab_ok rfl rfl rfl rfl rfl) ?_;refine dC [15] [] ?_;refine dQ [115, 116] [] (step_C tab_ok (fun K hk => ⟨by decide, by decide, _, rfl, hk⟩)) ?_
  refine dC [114, 117] [] ?_;refine dreg_end (by kernel_rfl) ?_;refine seq_n ?_;refine wG ?_;refine wc_skip ?_;refine blk_n ?_;refine seq_n ?_;refine wc_region ?_
  refine rQ iD ?_;refine rC ?_;refine reg_nil ?_
  exact loop_n 1 [] (by decide) (by decide) (lg zi trivial)
 by_cases h1 : k = 1
 ·subst h1
  have hac := hacs 1 [0] 15 rfl rfl
  have hod : ([[1, 0], [0], [0, 0], [0, 1]] : List (List Int))[(((1 : Nat) : Int)).toNat]? = some [0] := rfl
  refine sR ?_;refine rC ?_;refine nQ ?_;refine wV ?_;refine kS ?_;refine wc_seq ?_;refine wc_block ?_;refine sR ?_;refine rC ?_;refine rQ (index_arr tab_ok rfl rfl rfl rfl rfl (by omega) hod) ?_
  refine rQ iL ?_;iterate 2 refine rC ?_
  refine nQ ?_;refine wc_draw (by kernel_rfl) ?_;refine dC [1] [] ?_;refine dC [16] [] ?_;refine dQ [112, 113] [] (call_r hac rfl rfl (arg_e (arg_e (arg_e arg_nil))) (.inl rfl) (fun _ => rfl)) ?_
  refine dQ [] [] (build_arr tab_ok rfl rfl rfl rfl rfl) ?_;refine dC [15] [] ?_;refine dQ [115, 116] [] (step_C tab_ok (fun K hk => ⟨by decide, by decide, _, rfl, hk⟩)) ?_
  refine dC [114, 117] [] ?_;refine dreg_end (by kernel_rfl) ?_;refine seq_n ?_;refine wG ?_;refine wc_skip ?_;refine blk_n ?_;refine seq_n ?_;refine wc_region ?_
  refine rQ iD ?_;refine rC ?_;refine reg_nil ?_
  exact loop_n 2 [] (by decide) (by decide) (lg zi trivial)
 by_cases h2 : k = 2
 ·subst h2
  have hac := hacs 2 [0, 0] 1 rfl rfl
  have hod : ([[1, 0], [0], [0, 0], [0, 1]] : List (List Int))[(((2 : Nat) : Int)).toNat]? = some [0, 0] := rfl
  refine sR ?_;refine rC ?_;refine nQ ?_;refine wV ?_;refine kS ?_;refine wc_seq ?_;refine wc_block ?_;refine sR ?_;refine rC ?_;refine rQ (index_arr tab_ok rfl rfl rfl rfl rfl (by omega) hod) ?_
  refine rQ iL ?_;iterate 2 refine rC ?_
  refine nQ ?_;refine wc_draw (by kernel_rfl) ?_;refine dC [1] [] ?_;refine dC [16] [] ?_;refine dQ [112, 113] [] (call_r hac rfl rfl (arg_e (arg_e (arg_e arg_nil))) (.inl rfl) (fun _ => rfl)) ?_
  refine dQ [] [] (build_arr tab_ok rfl rfl rfl rfl rfl) ?_;refine dC [15] [] ?_;refine dQ [115, 116] [] (step_C tab_ok (fun K hk => ⟨by decide, by decide, _, rfl, hk⟩)) ?_
  refine dC [114, 117] [] ?_;refine dreg_end (by kernel_rfl) ?_;refine seq_n ?_;refine wG ?_;refine wc_skip ?_;refine blk_n ?_;refine seq_n ?_;refine wc_region ?_
  refine rQ iD ?_;refine rC ?_;refine reg_nil ?_
  exact loop_n 3 [] (by decide) (by decide) (lg zi trivial)
 ·obtain rfl : k = 3 := by omega
  have hac := hacs 3 [0, 1] 0 rfl rfl
  have hod : ([[1, 0], [0], [0, 0], [0, 1]] : List (List Int))[(((3 : Nat) : Int)).toNat]? = some [0, 1] := rfl
  refine sR ?_;refine rC ?_;refine nQ ?_;refine wV ?_;refine kS ?_;refine wc_seq ?_;refine wc_block ?_;refine sR ?_;refine rC ?_;refine rQ (index_arr tab_ok rfl rfl rfl rfl rfl (by omega) hod) ?_
  refine rQ iL ?_;iterate 2 refine rC ?_
  refine nQ ?_;refine wc_draw (by kernel_rfl) ?_;refine dC [1] [] ?_;refine dC [16] [] ?_;refine dQ [112, 113] [] (call_r hac rfl rfl (arg_e (arg_e (arg_e arg_nil))) (.inl rfl) (fun _ => rfl)) ?_
  refine dQ [] [] (build_arr tab_ok rfl rfl rfl rfl rfl) ?_;refine dC [15] [] ?_;refine dQ [115, 116] [] (step_C tab_ok (fun K hk => ⟨by decide, by decide, _, rfl, hk⟩)) ?_
  refine dC [114, 117] [] ?_;refine dreg_end (by kernel_rfl) ?_;refine seq_n ?_;refine wG ?_;refine wc_skip ?_;refine blk_n ?_;refine seq_n ?_;refine wc_region ?_
  refine rQ iD ?_;refine rC ?_;refine reg_nil ?_
  exact loop_n 4 [] (by decide) (by decide) (lg zi trivial)
theorem lives_is : FnIs Try.prog 12 [] [] (.bool true) [] := by
 have fnd : ∀ (h : List HEv) (fuel : Int) r, findH h 1 fuel = r → h.length ≤ 100 → fuel ≤ 100 → FnIs Try.prog 23 [.d (encH h), .int .i64 1, .int .i64 fuel] [] (fndE r.1.1 r.1.2 r.2) [] := fun h fuel r hr hh hf => by
  have := find_is (run_small h 1 fuel (by omega) (.inl (by omega)) (fun _ => by have := Nat.mul_le_mul (show fuel.toNat ≤ 100 by omega) (show h.length + 1 ≤ 101 by omega); omega))
  rwa [hr] at this
 have sts : ∀ (h : List HEv) (fuel : Int) r, statesH h 1 fuel = r → h.length ≤ 100 → fuel ≤ 100 → FnIs Try.prog 21 [.d (encH h), .int .i64 1, .int .i64 fuel] [] (stsE r.1 r.2) [] := fun h fuel r hr hh hf => by
  have := states_is (run_small h 1 fuel (by omega) (.inl (by omega)) (fun _ => by have := Nat.mul_le_mul (show fuel.toNat ≤ 100 by omega) (show h.length + 1 ≤ 101 by omega); omega))
  rwa [hr] at this
 have leg : ∀ (h : List HEv) (fuel : Int) (f : Bool) (e : Int), (findH h 1 fuel).1.2 = f ∧ (findH h 1 fuel).2 = e → h.length ≤ 100 → fuel ≤ 100 → FnIs Try.prog 22 [.d (encH h), .int .i64 1, .int .i64 fuel] [] (legE f e) [] := fun h fuel f e hr hh hf => by
  have := legal_is (run_small h 1 fuel (by omega) (.inl (by omega)) (fun _ => by have := Nat.mul_le_mul (show fuel.toNat ≤ 100 by omega) (show h.length + 1 ≤ 101 by omega); omega))
  rwa [hr.1, hr.2] at this
 refine lives_go (bothL onesB) (bothL zBk) (crashL true) (crashL false) (both_is _) (both_is _) crashed_t crashed_f (fnd _ 9 _ ex1 (by decide) (by decide)) (fnd _ 9 _ ex2 (by decide) (by decide)) (sts _ 3 _ ex3 (by decide) (by decide)) (sts _ 2 _ ex4 (by decide) (by decide)) (sts _ 4 _ ex5 (by decide) (by decide)) (fun k o e ho he => ?_) (fnd _ 99 _ ex6 (by decide) (by decide)) (leg _ 99 _ _ ex7 (by decide) (by decide)) (leg _ 99 _ _ ex8 (by decide) (by decide)) (fnd _ 99 _ ex9 (by decide) (by decide)) ?_ (leg _ 9 _ _ ex11 (by decide) (by decide))
 ·have hal : (rdH (bothL onesB)).all.length ≤ 1048576 := Nat.le_trans (rdH_all_len _) (by decide)
  have key : ∀ (o : List Int) (e : Int), _root_.Go.Proofs.Ytkehohfgbblokaa.accS 1 (opsH (bothL onesB)) o = e → o.length ≤ 100 → FnIs Try.prog 18 [.d (encH (bothL onesB)), .int .i64 1, .d (encL o)] [] (.d (i6 e)) [] := fun o e h1 h2 => by
   have := accept_is (bothL onesB) 1 o (by decide) hal (by omega)
   rwa [acA o e h1] at this
  match k, ho, he with
  | 0, ho, he => cases ho; cases he; exact key _ _ ex12.1 (by decide)
  | 1, ho, he => cases ho; cases he; exact key _ _ ex12.2.1 (by decide)
  | 2, ho, he => cases ho; cases he; exact key _ _ ex12.2.2.1 (by decide)
  | 3, ho, he => cases ho; cases he; exact key _ _ ex12.2.2.2 (by decide)
  | k + 4, ho, he => simp at ho
 ·have hal : (rdH badL).all.length ≤ 1048576 := Nat.le_trans (rdH_all_len _) (by decide)
  have := sticky_is badL (by decide) hal
  rw [ex10.1, ex10.2] at this
  exact this
abbrev r01d (b : Bool) : AV := .d (i6 (if b then 1 else 0))
def stB (o p : HOp) : Bool := decide (o.err = 9) && (decide (o.era = p.era) && (decide (o.returned < p.invoked) && (decide (0 ≤ p.returned) && (decide (p.err = 0) || decide (p.err = 8)))))
def rstV (l : List HOp) : Bool := !l.any fun o => l.any (stB o)
theorem getA_put {κ ν : Type} [DecidableEq κ] (k e : κ) (v : ν) : ∀ m : List (κ × ν), getA (putA m k v) e = if e = k then some v else getA m e
 | [] => rfl
 | (k', v') :: m => by
  by_cases h : k = k'
  ·subst h
   simp only [putA, if_true, getA]
   split <;> rfl
  ·simp only [putA, if_neg h, getA, getA_put k e v m]
   by_cases h2 : e = k'
   ·subst h2
    rw [if_pos rfl, if_neg (fun x => h x.symm), if_pos rfl]
   ·rw [if_neg h2, if_neg h2]
theorem stG_get (e v : Int) : ∀ (l : List HOp) (m : IMap), (∃ t, getA (stG l m) e = some t ∧ t < v) ↔ ((∃ t, getA m e = some t ∧ t < v) ∨ ∃ o ∈ l, o.err = 9 ∧ o.era = e ∧ o.returned < v)
 | [], m => by simp [stG]
 | o :: l, m => by
  have put : (∃ t, getA (putA m o.era o.returned) e = some t ∧ t < v) ↔ if e = o.era then o.returned < v else ∃ t, getA m e = some t ∧ t < v := by
   rw [getA_put]
   by_cases h : e = o.era
   ·rw [if_pos h, if_pos h]
    exact ⟨fun ⟨t, h1, h2⟩ => by cases h1; exact h2, fun h1 => ⟨_, rfl, h1⟩⟩
   ·rw [if_neg h, if_neg h]
  rw [stG]
  by_cases h9 : o.err = 9
  ·rw [if_pos h9]
   cases hg : getA m o.era with
   | none =>
    simp only
    rw [stG_get e v l, put]
    by_cases h : e = o.era
    ·subst h
     rw [if_pos rfl, hg]
     constructor
     ·rintro (h1 | ⟨x, hx, h1⟩)
      ·exact .inr ⟨o, List.mem_cons_self, h9, rfl, h1⟩
      ·exact .inr ⟨x, List.mem_cons_of_mem _ hx, h1⟩
     ·rintro (⟨t, h1, _⟩ | ⟨x, hx, h1⟩)
      ·cases h1
      ·rcases List.mem_cons.1 hx with rfl | hx
       ·exact .inl h1.2.2
       ·exact .inr ⟨x, hx, h1⟩
    ·rw [if_neg h]
     constructor
     ·rintro (h1 | ⟨x, hx, h1⟩)
      ·exact .inl h1
      ·exact .inr ⟨x, List.mem_cons_of_mem _ hx, h1⟩
     ·rintro (h1 | ⟨x, hx, h1⟩)
      ·exact .inl h1
      ·rcases List.mem_cons.1 hx with rfl | hx
       ·exact absurd h1.2.1.symm h
       ·exact .inr ⟨x, hx, h1⟩
   | some t0 =>
    simp only
    by_cases hr : o.returned < t0
    ·rw [if_pos hr, stG_get e v l, put]
     by_cases h : e = o.era
     ·subst h
      rw [if_pos rfl, hg]
      constructor
      ·rintro (h1 | ⟨x, hx, h1⟩)
       ·exact .inr ⟨o, List.mem_cons_self, h9, rfl, h1⟩
       ·exact .inr ⟨x, List.mem_cons_of_mem _ hx, h1⟩
      ·rintro (⟨t, h1, h2⟩ | ⟨x, hx, h1⟩)
       ·cases h1
        exact .inl (by omega)
       ·rcases List.mem_cons.1 hx with rfl | hx
        ·exact .inl h1.2.2
        ·exact .inr ⟨x, hx, h1⟩
     ·rw [if_neg h]
      constructor
      ·rintro (h1 | ⟨x, hx, h1⟩)
       ·exact .inl h1
       ·exact .inr ⟨x, List.mem_cons_of_mem _ hx, h1⟩
      ·rintro (h1 | ⟨x, hx, h1⟩)
       ·exact .inl h1
       ·rcases List.mem_cons.1 hx with rfl | hx
        ·exact absurd h1.2.1.symm h
        ·exact .inr ⟨x, hx, h1⟩
    ·rw [if_neg hr, stG_get e v l]
     constructor
     ·rintro (h1 | ⟨x, hx, h1⟩)
      ·exact .inl h1
      ·exact .inr ⟨x, List.mem_cons_of_mem _ hx, h1⟩
     ·rintro (h1 | ⟨x, hx, h1⟩)
      ·exact .inl h1
      ·rcases List.mem_cons.1 hx with rfl | hx
       ·exact .inl ⟨t0, by rw [← h1.2.1]; exact hg, by omega⟩
       ·exact .inr ⟨x, hx, h1⟩
  ·rw [if_neg h9, stG_get e v l]
   constructor
   ·rintro (h1 | ⟨x, hx, h1⟩)
    ·exact .inl h1
    ·exact .inr ⟨x, List.mem_cons_of_mem _ hx, h1⟩
   ·rintro (h1 | ⟨x, hx, h1⟩)
    ·exact .inl h1
    ·rcases List.mem_cons.1 hx with rfl | hx
     ·exact absurd h1.1 h9
     ·exact .inr ⟨x, hx, h1⟩
theorem afterB_iff (m : IMap) (p : HOp) : afterB m p = true ↔ (∃ t, getA m p.era = some t ∧ t < p.invoked) ∧ 0 ≤ p.returned ∧ (p.err = 0 ∨ p.err = 8) := by
 unfold afterB
 cases getA m p.era with
 | none => simp
 | some t => simp
theorem stB_iff (o p : HOp) : stB o p = true ↔ (o.err = 9 ∧ o.era = p.era ∧ o.returned < p.invoked) ∧ 0 ≤ p.returned ∧ (p.err = 0 ∨ p.err = 8) := by
 simp only [stB, Bool.and_eq_true, Bool.or_eq_true, decide_eq_true_eq]
 constructor
 ·rintro ⟨a, b, c, d, e⟩
  exact ⟨⟨a, b, c⟩, d, e⟩
 ·rintro ⟨⟨a, b, c⟩, d, e⟩
  exact ⟨a, b, c, d, e⟩
theorem stV_eq (l : List HOp) : stV l = rstV l := by
 have : l.any (afterB (stG l [])) = l.any fun o => l.any (stB o) := by
  rw [Bool.eq_iff_iff, List.any_eq_true, List.any_eq_true]
  constructor
  ·rintro ⟨p, hp, h⟩
   rw [afterB_iff, stG_get] at h
   obtain ⟨h1, h2⟩ := h
   rcases h1 with ⟨t, h1, _⟩ | ⟨o, ho, h1⟩
   ·cases h1
   ·exact ⟨o, ho, List.any_eq_true.2 ⟨p, hp, (stB_iff o p).2 ⟨h1, h2⟩⟩⟩
  ·rintro ⟨o, ho, h⟩
   obtain ⟨p, hp, h⟩ := List.any_eq_true.1 h
   obtain ⟨h1, h2⟩ := (stB_iff o p).1 h
   exact ⟨p, hp, (afterB_iff _ _).2 ⟨(stG_get _ _ _ _).2 (.inr ⟨o, ho, h1⟩), h2⟩⟩
 rw [stV, rstV, this]
theorem any_drop {α : Type} (f : α → Bool) {l : List α} {i : Nat} {o : α} (h : l[i]? = some o) : (l.drop i).any f = (f o || (l.drop (i + 1)).any f) := by
 have hlt := (List.getElem?_eq_some_iff.1 h).1
 rw [List.drop_eq_getElem_cons hlt, (List.getElem?_eq_some_iff.1 h).2, List.any_cons]
theorem opsRG_len (h : List HEv) : ∀ (n i : Nat) (out : List HOp) (era : Int), (opsRG h n i out era).length ≤ out.length + n
 | 0, _, out, _ => by simp [opsRG]
 | n + 1, i, out, era => by
  rw [opsRG]
  split
  ·omega
  ·split
   ·have := opsRG_len h n (i + 1) out (era + 1); omega
   ·split
    ·rename_i x _ _ _
     have := opsRG_len h n (i + 1) (out ++ [mkOp h i x out era]) era
     rw [List.length_append, List.length_singleton] at this
     omega
    ·have := opsRG_len h n (i + 1) out era; omega
theorem opsR_len (h : List HEv) : (opsR h).length ≤ h.length := by
 have := opsRG_len h h.length 0 [] 0
 simpa [opsR] using this
theorem rsticky_is (h : List HEv) (hL : h.length ≤ 1000000) : FnIs Try.prog 28 [.d (encH h)] [] (r01d (rstV (opsR h))) [] := by
 have hop := rops_is h hL
 have hl := opsR_len h
 refine fnIs_of tab_ok Try.func28 rfl rfl rfl ?_
 generalize opsR h = l at *
 have hl2 : l.length ≤ 1000000 := by omega
 clear hl
 refine sR ?_;refine rC ?_;refine nR ?_;refine rC ?_;refine rQ (call_r hop rfl rfl (arg_e arg_nil) (.inl rfl) (fun _ => rfl)) ?_;refine rC ?_;refine nQ ?_;refine sR ?_
 refine rC ?_;refine nS ?_;refine wc_block ?_
 refine wc_inv (fun i : Nat => ⟨[(4, .int .i64 i), (3, .d (encOps l))], [], 72, Try.f28.ntmps, 64⟩) (fun i => i ≤ l.length ∧ ((l.drop i).any fun o => l.any (stB o)) = l.any fun o => l.any (stB o)) (fun i => l.length - i) 0 [] ⟨Nat.zero_le _, rfl⟩
  (lg zk trivial) ?_
 rintro i ⟨hi, hd⟩
 refine wc_of ?_
 by_cases hlt : i < l.length
 ·have d1 : decide ((i : Int) < (l.length : Int)) = true := dT (by omega)
  obtain ⟨x, hx⟩ : ∃ x, l[i]? = some x := ⟨_, List.getElem?_eq_getElem hlt⟩
  have hx2 : l[((i : Int)).toNat]? = some x := by rw [Int.toNat_natCast]; exact hx
  rw [any_drop _ hx] at hd
  refine qR ?_;iterate 2 refine rC ?_
  refine rQ iE ?_;refine rC ?_;refine nS ?_;refine wT ?_;refine kS ?_;refine wc_seq ?_;refine wc_block ?_;refine sR ?_;refine rC ?_;refine nS ?_;refine wc_block ?_
  refine wc_inv (fun j : Nat => ⟨[(5, .int .i64 j), (4, .int .i64 i), (3, .d (encOps l))], [], 72, Try.f28.ntmps, 64⟩) (fun j => j ≤ l.length ∧ (l.drop j).any (stB x) = l.any (stB x)) (fun j => l.length - j) 0 [] ⟨Nat.zero_le _, rfl⟩
   (lg zj trivial) ?_
  rintro j ⟨hj, he⟩
  refine wc_of ?_
  by_cases hjt : j < l.length
  ·have d2 : decide ((j : Int) < (l.length : Int)) = true := dT (by omega)
   obtain ⟨y, hy⟩ : ∃ y, l[j]? = some y := ⟨_, List.getElem?_eq_getElem hjt⟩
   have hy2 : l[((j : Int)).toNat]? = some y := by rw [Int.toNat_natCast]; exact hy
   rw [any_drop _ hy] at he
   have bad : stB x y = true → rstV l = false := fun hb => by
    rw [hb, Bool.true_or] at he
    rw [← he, Bool.true_or] at hd
    rw [rstV, ← hd]; rfl
   have nxt : stB x y = false → (l.drop (j + 1)).any (stB x) = l.any (stB x) := fun hb => by rw [hb, Bool.false_or] at he; exact he
   clear he hd
   have hB : stB x y = (decide (x.err = 9) && (decide (x.era = y.era) && (decide (x.returned < y.invoked) && (decide (0 ≤ y.returned) && (decide (y.err = 0) || decide (y.err = 8)))))) := rfl
   cases k1 : decide (x.err = 9) with
   | false =>
    rw [k1] at hB
    refine qR ?_;iterate 2 refine rC ?_
    refine rQ iE ?_;refine rC ?_;refine nS ?_;refine wT ?_;refine kS ?_;refine wc_seq ?_;refine wc_block ?_;refine wc_seq ?_;refine wc_draw (by kernel_rfl) ?_;refine dC [3] [] ?_
    refine dC [4] [] ?_;refine dQ [20, 21] [] (index_arr tab_ok rfl rfl rfl rfl rfl (by omega) hx2) ?_;refine dC [22] [] ?_;refine dQ [23] [] iL ?_;refine dC [24] [] ?_
    refine dC [25] [] ?_;refine dreg_offq [26, 3] rfl rfl (by assumption) rfl ?_;refine dreg_offq [26, 4] rfl rfl (by assumption) rfl ?_;refine dreg_offq [26, 27, 28] rfl rfl (by assumption) rfl ?_
    refine dreg_offq [26, 29] rfl rfl (by assumption) rfl ?_;refine dreg_offq [26, 30] rfl rfl (by assumption) rfl ?_;refine dreg_offq [26, 3] rfl rfl (by assumption) rfl ?_
    refine dreg_offq [26, 5] rfl rfl (by assumption) rfl ?_;refine dreg_offq [26, 32, 33] rfl rfl (by assumption) rfl ?_;refine dreg_offq [26, 34] rfl rfl (by assumption) rfl ?_
    refine dreg_offq [26, 35] rfl rfl (by assumption) rfl ?_;refine dreg_offq [26, 31, 36] rfl rfl (by assumption) rfl ?_;refine dQ [26, 37] [] iF ?_;refine dC [38] [] ?_
    refine dreg_offq [39, 3] rfl rfl rfl rfl ?_;refine dreg_offq [39, 4] rfl rfl rfl rfl ?_;refine dreg_offq [39, 40, 41] rfl rfl rfl rfl ?_;refine dreg_offq [39, 42] rfl rfl rfl rfl ?_
    refine dreg_offq [39, 43] rfl rfl rfl rfl ?_;refine dreg_offq [39, 3] rfl rfl rfl rfl ?_;refine dreg_offq [39, 5] rfl rfl rfl rfl ?_;refine dreg_offq [39, 45, 46] rfl rfl rfl rfl ?_
    refine dreg_offq [39, 47] rfl rfl rfl rfl ?_;refine dreg_offq [39, 48] rfl rfl rfl rfl ?_;refine dreg_offq [39, 44, 49] rfl rfl rfl rfl ?_;refine dQ [39, 50] [] iG ?_
    refine dC [51] [] ?_;refine dreg_offq [52, 3] rfl rfl rfl rfl ?_;refine dreg_offq [52, 5] rfl rfl rfl rfl ?_;refine dreg_offq [52, 53, 54] rfl rfl rfl rfl ?_;refine dreg_offq [52, 55] rfl rfl rfl rfl ?_
    refine dreg_offq [52, 56] rfl rfl rfl rfl ?_;refine dreg_offq [52, 57] rfl rfl rfl rfl ?_;refine dQ [52, 58] [] iG ?_;refine dC [59] [] ?_;refine dreg_offq [60, 3] rfl rfl rfl rfl ?_
    refine dreg_offq [60, 5] rfl rfl rfl rfl ?_;refine dreg_offq [60, 61, 62] rfl rfl rfl rfl ?_;refine dreg_offq [60, 63] rfl rfl rfl rfl ?_;refine dreg_offq [60, 64] rfl rfl rfl rfl ?_
    refine dreg_offq [60, 65] rfl rfl rfl rfl ?_;refine dreg_offq [60, 66] rfl rfl rfl rfl ?_;refine dreg_offUq [67, 3] rfl rfl rfl ?_;refine dreg_offUq [67, 5] rfl rfl rfl ?_
    refine dreg_offUq [67, 68, 69] rfl rfl rfl ?_;refine dreg_offUq [67, 70] rfl rfl rfl ?_;refine dreg_offUq [67, 71] rfl rfl rfl ?_;refine dreg_offUq [67, 72] rfl rfl rfl ?_
    refine dreg_offq [60, 67, 73] rfl rfl rfl rfl ?_;refine dQ [60, 74] [] iG ?_;refine dreg_end (by kernel_rfl) ?_;refine seq_n ?_;refine wG ?_;refine wc_skip ?_;refine blk_n ?_
    refine seq_n ?_;refine wc_region ?_;refine rC ?_;refine rQ iD ?_;refine rC ?_;refine reg_nil ?_
    exact loop_n (j + 1) [] ⟨hjt, nxt hB⟩ (by omega) (lg zj trivial)
   | true =>
    cases k2 : decide (x.era = y.era) with
    | false =>
     rw [k1, k2] at hB
     refine qR ?_;iterate 2 refine rC ?_
     refine rQ iE ?_;refine rC ?_;refine nS ?_;refine wT ?_;refine kS ?_;refine wc_seq ?_;refine wc_block ?_;refine wc_seq ?_;refine wc_draw (by kernel_rfl) ?_;refine dC [3] [] ?_
     refine dC [4] [] ?_;refine dQ [20, 21] [] (index_arr tab_ok rfl rfl rfl rfl rfl (by omega) hx2) ?_;refine dC [22] [] ?_;refine dQ [23] [] iL ?_;refine dC [24] [] ?_
     refine dC [25] [] ?_;refine dreg_onq [26, 3] [] rfl rfl (by assumption) rfl (step_C tab_ok (fun K hk => hk)) ?_;refine dreg_onq [26, 4] [] rfl rfl (by assumption) rfl (step_C tab_ok (fun K hk => hk)) ?_
     refine dreg_onq [26, 27, 28] [] rfl rfl (by assumption) rfl (index_arr tab_ok rfl rfl rfl rfl rfl (by omega) hx2) ?_;refine dreg_onq [26, 29] [] rfl rfl (by assumption) rfl (step_C tab_ok (fun K hk => hk)) ?_
     refine dreg_onq [26, 30] [] rfl rfl (by assumption) rfl (load_i tab_ok rfl rfl) ?_;refine dreg_onq [26, 3] [] rfl rfl (by assumption) rfl (step_C tab_ok (fun K hk => hk)) ?_
     refine dreg_onq [26, 5] [] rfl rfl (by assumption) rfl (step_C tab_ok (fun K hk => hk)) ?_;refine dreg_onq [26, 32, 33] [] rfl rfl (by assumption) rfl (index_arr tab_ok rfl rfl rfl rfl rfl (by omega) hy2) ?_
     refine dreg_onq [26, 34] [] rfl rfl (by assumption) rfl (step_C tab_ok (fun K hk => hk)) ?_;refine dreg_onq [26, 35] [] rfl rfl (by assumption) rfl (load_i tab_ok rfl rfl) ?_
     refine dreg_onq [26, 31, 36] [] rfl rfl (by assumption) rfl (step_C tab_ok (fun K hk => hk)) ?_;refine dQ [26, 37] [] iT ?_;refine dC [38] [] ?_;refine dreg_offq [39, 3] rfl rfl (by assumption) rfl ?_
     refine dreg_offq [39, 4] rfl rfl (by assumption) rfl ?_;refine dreg_offq [39, 40, 41] rfl rfl (by assumption) rfl ?_;refine dreg_offq [39, 42] rfl rfl (by assumption) rfl ?_
     refine dreg_offq [39, 43] rfl rfl (by assumption) rfl ?_;refine dreg_offq [39, 3] rfl rfl (by assumption) rfl ?_;refine dreg_offq [39, 5] rfl rfl (by assumption) rfl ?_
     refine dreg_offq [39, 45, 46] rfl rfl (by assumption) rfl ?_;refine dreg_offq [39, 47] rfl rfl (by assumption) rfl ?_;refine dreg_offq [39, 48] rfl rfl (by assumption) rfl ?_
     refine dreg_offq [39, 44, 49] rfl rfl (by assumption) rfl ?_;refine dQ [39, 50] [] iF ?_;refine dC [51] [] ?_;refine dreg_offq [52, 3] rfl rfl rfl rfl ?_;refine dreg_offq [52, 5] rfl rfl rfl rfl ?_
     refine dreg_offq [52, 53, 54] rfl rfl rfl rfl ?_;refine dreg_offq [52, 55] rfl rfl rfl rfl ?_;refine dreg_offq [52, 56] rfl rfl rfl rfl ?_;refine dreg_offq [52, 57] rfl rfl rfl rfl ?_
     refine dQ [52, 58] [] iG ?_;refine dC [59] [] ?_;refine dreg_offq [60, 3] rfl rfl rfl rfl ?_;refine dreg_offq [60, 5] rfl rfl rfl rfl ?_;refine dreg_offq [60, 61, 62] rfl rfl rfl rfl ?_
     refine dreg_offq [60, 63] rfl rfl rfl rfl ?_;refine dreg_offq [60, 64] rfl rfl rfl rfl ?_;refine dreg_offq [60, 65] rfl rfl rfl rfl ?_;refine dreg_offq [60, 66] rfl rfl rfl rfl ?_
     refine dreg_offUq [67, 3] rfl rfl rfl ?_;refine dreg_offUq [67, 5] rfl rfl rfl ?_;refine dreg_offUq [67, 68, 69] rfl rfl rfl ?_;refine dreg_offUq [67, 70] rfl rfl rfl ?_
     refine dreg_offUq [67, 71] rfl rfl rfl ?_;refine dreg_offUq [67, 72] rfl rfl rfl ?_;refine dreg_offq [60, 67, 73] rfl rfl rfl rfl ?_;refine dQ [60, 74] [] iG ?_
     refine dreg_end (by kernel_rfl) ?_;refine seq_n ?_;refine wG ?_;refine wc_skip ?_;refine blk_n ?_;refine seq_n ?_;refine wc_region ?_;refine rC ?_;refine rQ iD ?_
     refine rC ?_;refine reg_nil ?_
     exact loop_n (j + 1) [] ⟨hjt, nxt hB⟩ (by omega) (lg zj trivial)
    | true =>
     cases k3 : decide (x.returned < y.invoked) with
     | false =>
      rw [k1, k2, k3] at hB
      refine qR ?_;iterate 2 refine rC ?_
      refine rQ iE ?_;refine rC ?_;refine nS ?_;refine wT ?_;refine kS ?_;refine wc_seq ?_;refine wc_block ?_;refine wc_seq ?_;refine wc_draw (by kernel_rfl) ?_;refine dC [3] [] ?_
      refine dC [4] [] ?_;refine dQ [20, 21] [] (index_arr tab_ok rfl rfl rfl rfl rfl (by omega) hx2) ?_;refine dC [22] [] ?_;refine dQ [23] [] iL ?_;refine dC [24] [] ?_
      refine dC [25] [] ?_;refine dreg_onq [26, 3] [] rfl rfl (by assumption) rfl (step_C tab_ok (fun K hk => hk)) ?_;refine dreg_onq [26, 4] [] rfl rfl (by assumption) rfl (step_C tab_ok (fun K hk => hk)) ?_
      refine dreg_onq [26, 27, 28] [] rfl rfl (by assumption) rfl (index_arr tab_ok rfl rfl rfl rfl rfl (by omega) hx2) ?_;refine dreg_onq [26, 29] [] rfl rfl (by assumption) rfl (step_C tab_ok (fun K hk => hk)) ?_
      refine dreg_onq [26, 30] [] rfl rfl (by assumption) rfl (load_i tab_ok rfl rfl) ?_;refine dreg_onq [26, 3] [] rfl rfl (by assumption) rfl (step_C tab_ok (fun K hk => hk)) ?_
      refine dreg_onq [26, 5] [] rfl rfl (by assumption) rfl (step_C tab_ok (fun K hk => hk)) ?_;refine dreg_onq [26, 32, 33] [] rfl rfl (by assumption) rfl (index_arr tab_ok rfl rfl rfl rfl rfl (by omega) hy2) ?_
      refine dreg_onq [26, 34] [] rfl rfl (by assumption) rfl (step_C tab_ok (fun K hk => hk)) ?_;refine dreg_onq [26, 35] [] rfl rfl (by assumption) rfl (load_i tab_ok rfl rfl) ?_
      refine dreg_onq [26, 31, 36] [] rfl rfl (by assumption) rfl (step_C tab_ok (fun K hk => hk)) ?_;refine dQ [26, 37] [] iT ?_;refine dC [38] [] ?_;refine dreg_onq [39, 3] [] rfl rfl (by assumption) rfl (step_C tab_ok (fun K hk => hk)) ?_
      refine dreg_onq [39, 4] [] rfl rfl (by assumption) rfl (step_C tab_ok (fun K hk => hk)) ?_;refine dreg_onq [39, 40, 41] [] rfl rfl (by assumption) rfl (index_arr tab_ok rfl rfl rfl rfl rfl (by omega) hx2) ?_
      refine dreg_onq [39, 42] [] rfl rfl (by assumption) rfl (step_C tab_ok (fun K hk => hk)) ?_;refine dreg_onq [39, 43] [] rfl rfl (by assumption) rfl (load_i tab_ok rfl rfl) ?_
      refine dreg_onq [39, 3] [] rfl rfl (by assumption) rfl (step_C tab_ok (fun K hk => hk)) ?_;refine dreg_onq [39, 5] [] rfl rfl (by assumption) rfl (step_C tab_ok (fun K hk => hk)) ?_
      refine dreg_onq [39, 45, 46] [] rfl rfl (by assumption) rfl (index_arr tab_ok rfl rfl rfl rfl rfl (by omega) hy2) ?_;refine dreg_onq [39, 47] [] rfl rfl (by assumption) rfl (step_C tab_ok (fun K hk => hk)) ?_
      refine dreg_onq [39, 48] [] rfl rfl (by assumption) rfl (load_i tab_ok rfl rfl) ?_;refine dreg_onq [39, 44, 49] [] rfl rfl (by assumption) rfl (step_C tab_ok (fun K hk => hk)) ?_
      refine dQ [39, 50] [] iT ?_;refine dC [51] [] ?_;refine dreg_offq [52, 3] rfl rfl (by assumption) rfl ?_;refine dreg_offq [52, 5] rfl rfl (by assumption) rfl ?_
      refine dreg_offq [52, 53, 54] rfl rfl (by assumption) rfl ?_;refine dreg_offq [52, 55] rfl rfl (by assumption) rfl ?_;refine dreg_offq [52, 56] rfl rfl (by assumption) rfl ?_
      refine dreg_offq [52, 57] rfl rfl (by assumption) rfl ?_;refine dQ [52, 58] [] iF ?_;refine dC [59] [] ?_;refine dreg_offq [60, 3] rfl rfl rfl rfl ?_;refine dreg_offq [60, 5] rfl rfl rfl rfl ?_
      refine dreg_offq [60, 61, 62] rfl rfl rfl rfl ?_;refine dreg_offq [60, 63] rfl rfl rfl rfl ?_;refine dreg_offq [60, 64] rfl rfl rfl rfl ?_;refine dreg_offq [60, 65] rfl rfl rfl rfl ?_
      refine dreg_offq [60, 66] rfl rfl rfl rfl ?_;refine dreg_offUq [67, 3] rfl rfl rfl ?_;refine dreg_offUq [67, 5] rfl rfl rfl ?_;refine dreg_offUq [67, 68, 69] rfl rfl rfl ?_
      refine dreg_offUq [67, 70] rfl rfl rfl ?_;refine dreg_offUq [67, 71] rfl rfl rfl ?_;refine dreg_offUq [67, 72] rfl rfl rfl ?_;refine dreg_offq [60, 67, 73] rfl rfl rfl rfl ?_
      refine dQ [60, 74] [] iG ?_;refine dreg_end (by kernel_rfl) ?_;refine seq_n ?_;refine wG ?_;refine wc_skip ?_;refine blk_n ?_;refine seq_n ?_;refine wc_region ?_
      refine rC ?_;refine rQ iD ?_;refine rC ?_;refine reg_nil ?_
      exact loop_n (j + 1) [] ⟨hjt, nxt hB⟩ (by omega) (lg zj trivial)
     | true =>
      cases k4 : decide (0 ≤ y.returned) with
      | false =>
       rw [k1, k2, k3, k4] at hB
       refine qR ?_;iterate 2 refine rC ?_
       refine rQ iE ?_;refine rC ?_;refine nS ?_;refine wT ?_;refine kS ?_;refine wc_seq ?_;refine wc_block ?_;refine wc_seq ?_;refine wc_draw (by kernel_rfl) ?_;refine dC [3] [] ?_
       refine dC [4] [] ?_;refine dQ [20, 21] [] (index_arr tab_ok rfl rfl rfl rfl rfl (by omega) hx2) ?_;refine dC [22] [] ?_;refine dQ [23] [] iL ?_;refine dC [24] [] ?_
       refine dC [25] [] ?_;refine dreg_onq [26, 3] [] rfl rfl (by assumption) rfl (step_C tab_ok (fun K hk => hk)) ?_;refine dreg_onq [26, 4] [] rfl rfl (by assumption) rfl (step_C tab_ok (fun K hk => hk)) ?_
       refine dreg_onq [26, 27, 28] [] rfl rfl (by assumption) rfl (index_arr tab_ok rfl rfl rfl rfl rfl (by omega) hx2) ?_;refine dreg_onq [26, 29] [] rfl rfl (by assumption) rfl (step_C tab_ok (fun K hk => hk)) ?_
       refine dreg_onq [26, 30] [] rfl rfl (by assumption) rfl (load_i tab_ok rfl rfl) ?_;refine dreg_onq [26, 3] [] rfl rfl (by assumption) rfl (step_C tab_ok (fun K hk => hk)) ?_
       refine dreg_onq [26, 5] [] rfl rfl (by assumption) rfl (step_C tab_ok (fun K hk => hk)) ?_;refine dreg_onq [26, 32, 33] [] rfl rfl (by assumption) rfl (index_arr tab_ok rfl rfl rfl rfl rfl (by omega) hy2) ?_
       refine dreg_onq [26, 34] [] rfl rfl (by assumption) rfl (step_C tab_ok (fun K hk => hk)) ?_;refine dreg_onq [26, 35] [] rfl rfl (by assumption) rfl (load_i tab_ok rfl rfl) ?_
       refine dreg_onq [26, 31, 36] [] rfl rfl (by assumption) rfl (step_C tab_ok (fun K hk => hk)) ?_;refine dQ [26, 37] [] iT ?_;refine dC [38] [] ?_;refine dreg_onq [39, 3] [] rfl rfl (by assumption) rfl (step_C tab_ok (fun K hk => hk)) ?_
       refine dreg_onq [39, 4] [] rfl rfl (by assumption) rfl (step_C tab_ok (fun K hk => hk)) ?_;refine dreg_onq [39, 40, 41] [] rfl rfl (by assumption) rfl (index_arr tab_ok rfl rfl rfl rfl rfl (by omega) hx2) ?_
       refine dreg_onq [39, 42] [] rfl rfl (by assumption) rfl (step_C tab_ok (fun K hk => hk)) ?_;refine dreg_onq [39, 43] [] rfl rfl (by assumption) rfl (load_i tab_ok rfl rfl) ?_
       refine dreg_onq [39, 3] [] rfl rfl (by assumption) rfl (step_C tab_ok (fun K hk => hk)) ?_;refine dreg_onq [39, 5] [] rfl rfl (by assumption) rfl (step_C tab_ok (fun K hk => hk)) ?_
       refine dreg_onq [39, 45, 46] [] rfl rfl (by assumption) rfl (index_arr tab_ok rfl rfl rfl rfl rfl (by omega) hy2) ?_;refine dreg_onq [39, 47] [] rfl rfl (by assumption) rfl (step_C tab_ok (fun K hk => hk)) ?_
       refine dreg_onq [39, 48] [] rfl rfl (by assumption) rfl (load_i tab_ok rfl rfl) ?_;refine dreg_onq [39, 44, 49] [] rfl rfl (by assumption) rfl (step_C tab_ok (fun K hk => hk)) ?_
       refine dQ [39, 50] [] iT ?_;refine dC [51] [] ?_;refine dreg_onq [52, 3] [] rfl rfl (by assumption) rfl (step_C tab_ok (fun K hk => hk)) ?_;refine dreg_onq [52, 5] [] rfl rfl (by assumption) rfl (step_C tab_ok (fun K hk => hk)) ?_
       refine dreg_onq [52, 53, 54] [] rfl rfl (by assumption) rfl (index_arr tab_ok rfl rfl rfl rfl rfl (by omega) hy2) ?_;refine dreg_onq [52, 55] [] rfl rfl (by assumption) rfl (step_C tab_ok (fun K hk => hk)) ?_
       refine dreg_onq [52, 56] [] rfl rfl (by assumption) rfl (load_i tab_ok rfl rfl) ?_;refine dreg_onq [52, 57] [] rfl rfl (by assumption) rfl (step_C tab_ok (fun K hk => hk)) ?_
       refine dQ [52, 58] [] iT ?_;refine dC [59] [] ?_;refine dreg_offq [60, 3] rfl rfl (by assumption) rfl ?_;refine dreg_offq [60, 5] rfl rfl (by assumption) rfl ?_
       refine dreg_offq [60, 61, 62] rfl rfl (by assumption) rfl ?_;refine dreg_offq [60, 63] rfl rfl (by assumption) rfl ?_;refine dreg_offq [60, 64] rfl rfl (by assumption) rfl ?_
       refine dreg_offq [60, 65] rfl rfl (by assumption) rfl ?_;refine dreg_offq [60, 66] rfl rfl (by assumption) rfl ?_;refine dreg_offUq [67, 3] rfl rfl rfl ?_;refine dreg_offUq [67, 5] rfl rfl rfl ?_
       refine dreg_offUq [67, 68, 69] rfl rfl rfl ?_;refine dreg_offUq [67, 70] rfl rfl rfl ?_;refine dreg_offUq [67, 71] rfl rfl rfl ?_;refine dreg_offUq [67, 72] rfl rfl rfl ?_
       refine dreg_offq [60, 67, 73] rfl rfl (by assumption) rfl ?_;refine dQ [60, 74] [] iF ?_;refine dreg_end (by kernel_rfl) ?_;refine seq_n ?_;refine wG ?_;refine wc_skip ?_
       refine blk_n ?_;refine seq_n ?_;refine wc_region ?_;refine rC ?_;refine rQ iD ?_;refine rC ?_;refine reg_nil ?_
       exact loop_n (j + 1) [] ⟨hjt, nxt hB⟩ (by omega) (lg zj trivial)
      | true =>
       cases k5 : decide (y.err = 0) with
       | true =>
        rw [k1, k2, k3, k4, k5] at hB
        rw [bad hB]
        refine qR ?_;iterate 2 refine rC ?_
        refine rQ iE ?_;refine rC ?_;refine nS ?_;refine wT ?_;refine kS ?_;refine wc_seq ?_;refine wc_block ?_;refine wc_seq ?_;refine wc_draw (by kernel_rfl) ?_;refine dC [3] [] ?_
        refine dC [4] [] ?_;refine dQ [20, 21] [] (index_arr tab_ok rfl rfl rfl rfl rfl (by omega) hx2) ?_;refine dC [22] [] ?_;refine dQ [23] [] iL ?_;refine dC [24] [] ?_
        refine dC [25] [] ?_;refine dreg_onq [26, 3] [] rfl rfl (by assumption) rfl (step_C tab_ok (fun K hk => hk)) ?_;refine dreg_onq [26, 4] [] rfl rfl (by assumption) rfl (step_C tab_ok (fun K hk => hk)) ?_
        refine dreg_onq [26, 27, 28] [] rfl rfl (by assumption) rfl (index_arr tab_ok rfl rfl rfl rfl rfl (by omega) hx2) ?_;refine dreg_onq [26, 29] [] rfl rfl (by assumption) rfl (step_C tab_ok (fun K hk => hk)) ?_
        refine dreg_onq [26, 30] [] rfl rfl (by assumption) rfl (load_i tab_ok rfl rfl) ?_;refine dreg_onq [26, 3] [] rfl rfl (by assumption) rfl (step_C tab_ok (fun K hk => hk)) ?_
        refine dreg_onq [26, 5] [] rfl rfl (by assumption) rfl (step_C tab_ok (fun K hk => hk)) ?_;refine dreg_onq [26, 32, 33] [] rfl rfl (by assumption) rfl (index_arr tab_ok rfl rfl rfl rfl rfl (by omega) hy2) ?_
        refine dreg_onq [26, 34] [] rfl rfl (by assumption) rfl (step_C tab_ok (fun K hk => hk)) ?_;refine dreg_onq [26, 35] [] rfl rfl (by assumption) rfl (load_i tab_ok rfl rfl) ?_
        refine dreg_onq [26, 31, 36] [] rfl rfl (by assumption) rfl (step_C tab_ok (fun K hk => hk)) ?_;refine dQ [26, 37] [] iT ?_;refine dC [38] [] ?_;refine dreg_onq [39, 3] [] rfl rfl (by assumption) rfl (step_C tab_ok (fun K hk => hk)) ?_
        refine dreg_onq [39, 4] [] rfl rfl (by assumption) rfl (step_C tab_ok (fun K hk => hk)) ?_;refine dreg_onq [39, 40, 41] [] rfl rfl (by assumption) rfl (index_arr tab_ok rfl rfl rfl rfl rfl (by omega) hx2) ?_
        refine dreg_onq [39, 42] [] rfl rfl (by assumption) rfl (step_C tab_ok (fun K hk => hk)) ?_;refine dreg_onq [39, 43] [] rfl rfl (by assumption) rfl (load_i tab_ok rfl rfl) ?_
        refine dreg_onq [39, 3] [] rfl rfl (by assumption) rfl (step_C tab_ok (fun K hk => hk)) ?_;refine dreg_onq [39, 5] [] rfl rfl (by assumption) rfl (step_C tab_ok (fun K hk => hk)) ?_
        refine dreg_onq [39, 45, 46] [] rfl rfl (by assumption) rfl (index_arr tab_ok rfl rfl rfl rfl rfl (by omega) hy2) ?_;refine dreg_onq [39, 47] [] rfl rfl (by assumption) rfl (step_C tab_ok (fun K hk => hk)) ?_
        refine dreg_onq [39, 48] [] rfl rfl (by assumption) rfl (load_i tab_ok rfl rfl) ?_;refine dreg_onq [39, 44, 49] [] rfl rfl (by assumption) rfl (step_C tab_ok (fun K hk => hk)) ?_
        refine dQ [39, 50] [] iT ?_;refine dC [51] [] ?_;refine dreg_onq [52, 3] [] rfl rfl (by assumption) rfl (step_C tab_ok (fun K hk => hk)) ?_;refine dreg_onq [52, 5] [] rfl rfl (by assumption) rfl (step_C tab_ok (fun K hk => hk)) ?_
        refine dreg_onq [52, 53, 54] [] rfl rfl (by assumption) rfl (index_arr tab_ok rfl rfl rfl rfl rfl (by omega) hy2) ?_;refine dreg_onq [52, 55] [] rfl rfl (by assumption) rfl (step_C tab_ok (fun K hk => hk)) ?_
        refine dreg_onq [52, 56] [] rfl rfl (by assumption) rfl (load_i tab_ok rfl rfl) ?_;refine dreg_onq [52, 57] [] rfl rfl (by assumption) rfl (step_C tab_ok (fun K hk => hk)) ?_
        refine dQ [52, 58] [] iT ?_;refine dC [59] [] ?_;refine dreg_onq [60, 3] [] rfl rfl (by assumption) rfl (step_C tab_ok (fun K hk => hk)) ?_;refine dreg_onq [60, 5] [] rfl rfl (by assumption) rfl (step_C tab_ok (fun K hk => hk)) ?_
        refine dreg_onq [60, 61, 62] [] rfl rfl (by assumption) rfl (index_arr tab_ok rfl rfl rfl rfl rfl (by omega) hy2) ?_;refine dreg_onq [60, 63] [] rfl rfl (by assumption) rfl (step_C tab_ok (fun K hk => hk)) ?_
        refine dreg_onq [60, 64] [] rfl rfl (by assumption) rfl (load_i tab_ok rfl rfl) ?_;refine dreg_onq [60, 65] [] rfl rfl (by assumption) rfl (step_C tab_ok (fun K hk => hk)) ?_
        refine dreg_onq [60, 66] [] rfl rfl (by assumption) rfl (step_C tab_ok (fun K hk => hk)) ?_;refine dreg_offq [67, 3] rfl rfl (by assumption) rfl ?_;refine dreg_offq [67, 5] rfl rfl (by assumption) rfl ?_
        refine dreg_offq [67, 68, 69] rfl rfl (by assumption) rfl ?_;refine dreg_offq [67, 70] rfl rfl (by assumption) rfl ?_;refine dreg_offq [67, 71] rfl rfl (by assumption) rfl ?_
        refine dreg_offq [67, 72] rfl rfl (by assumption) rfl ?_;refine dreg_onq [60, 67, 73] [] rfl rfl (by assumption) rfl (pick_T tab_ok rfl (by assumption) rfl) ?_;refine dQ [60, 74] [] iT ?_
        refine dreg_end (by kernel_rfl) ?_;refine seq_n ?_;refine wV ?_;refine sR ?_;refine rC ?_;refine nS ?_;refine wc_ret ?_;refine blk_r ?_;refine seq_r ?_;refine loop_r ?_
        iterate 2 refine blk_r ?_
        refine seq_r ?_;refine loop_r ?_;refine blk_r ?_;refine seq_r ?_
        exact ⟨trivial, [], lf⟩
       | false =>
        cases k6 : decide (y.err = 8) with
        | true =>
         rw [k1, k2, k3, k4, k5, k6] at hB
         rw [bad hB]
         refine qR ?_;iterate 2 refine rC ?_
         refine rQ iE ?_;refine rC ?_;refine nS ?_;refine wT ?_;refine kS ?_;refine wc_seq ?_;refine wc_block ?_;refine wc_seq ?_;refine wc_draw (by kernel_rfl) ?_;refine dC [3] [] ?_
         refine dC [4] [] ?_;refine dQ [20, 21] [] (index_arr tab_ok rfl rfl rfl rfl rfl (by omega) hx2) ?_;refine dC [22] [] ?_;refine dQ [23] [] iL ?_;refine dC [24] [] ?_
         refine dC [25] [] ?_;refine dreg_onq [26, 3] [] rfl rfl (by assumption) rfl (step_C tab_ok (fun K hk => hk)) ?_;refine dreg_onq [26, 4] [] rfl rfl (by assumption) rfl (step_C tab_ok (fun K hk => hk)) ?_
         refine dreg_onq [26, 27, 28] [] rfl rfl (by assumption) rfl (index_arr tab_ok rfl rfl rfl rfl rfl (by omega) hx2) ?_;refine dreg_onq [26, 29] [] rfl rfl (by assumption) rfl (step_C tab_ok (fun K hk => hk)) ?_
         refine dreg_onq [26, 30] [] rfl rfl (by assumption) rfl (load_i tab_ok rfl rfl) ?_;refine dreg_onq [26, 3] [] rfl rfl (by assumption) rfl (step_C tab_ok (fun K hk => hk)) ?_
         refine dreg_onq [26, 5] [] rfl rfl (by assumption) rfl (step_C tab_ok (fun K hk => hk)) ?_;refine dreg_onq [26, 32, 33] [] rfl rfl (by assumption) rfl (index_arr tab_ok rfl rfl rfl rfl rfl (by omega) hy2) ?_
         refine dreg_onq [26, 34] [] rfl rfl (by assumption) rfl (step_C tab_ok (fun K hk => hk)) ?_;refine dreg_onq [26, 35] [] rfl rfl (by assumption) rfl (load_i tab_ok rfl rfl) ?_
         refine dreg_onq [26, 31, 36] [] rfl rfl (by assumption) rfl (step_C tab_ok (fun K hk => hk)) ?_;refine dQ [26, 37] [] iT ?_;refine dC [38] [] ?_;refine dreg_onq [39, 3] [] rfl rfl (by assumption) rfl (step_C tab_ok (fun K hk => hk)) ?_
         refine dreg_onq [39, 4] [] rfl rfl (by assumption) rfl (step_C tab_ok (fun K hk => hk)) ?_;refine dreg_onq [39, 40, 41] [] rfl rfl (by assumption) rfl (index_arr tab_ok rfl rfl rfl rfl rfl (by omega) hx2) ?_
         refine dreg_onq [39, 42] [] rfl rfl (by assumption) rfl (step_C tab_ok (fun K hk => hk)) ?_;refine dreg_onq [39, 43] [] rfl rfl (by assumption) rfl (load_i tab_ok rfl rfl) ?_
         refine dreg_onq [39, 3] [] rfl rfl (by assumption) rfl (step_C tab_ok (fun K hk => hk)) ?_;refine dreg_onq [39, 5] [] rfl rfl (by assumption) rfl (step_C tab_ok (fun K hk => hk)) ?_
         refine dreg_onq [39, 45, 46] [] rfl rfl (by assumption) rfl (index_arr tab_ok rfl rfl rfl rfl rfl (by omega) hy2) ?_;refine dreg_onq [39, 47] [] rfl rfl (by assumption) rfl (step_C tab_ok (fun K hk => hk)) ?_
         refine dreg_onq [39, 48] [] rfl rfl (by assumption) rfl (load_i tab_ok rfl rfl) ?_;refine dreg_onq [39, 44, 49] [] rfl rfl (by assumption) rfl (step_C tab_ok (fun K hk => hk)) ?_
         refine dQ [39, 50] [] iT ?_;refine dC [51] [] ?_;refine dreg_onq [52, 3] [] rfl rfl (by assumption) rfl (step_C tab_ok (fun K hk => hk)) ?_;refine dreg_onq [52, 5] [] rfl rfl (by assumption) rfl (step_C tab_ok (fun K hk => hk)) ?_
         refine dreg_onq [52, 53, 54] [] rfl rfl (by assumption) rfl (index_arr tab_ok rfl rfl rfl rfl rfl (by omega) hy2) ?_;refine dreg_onq [52, 55] [] rfl rfl (by assumption) rfl (step_C tab_ok (fun K hk => hk)) ?_
         refine dreg_onq [52, 56] [] rfl rfl (by assumption) rfl (load_i tab_ok rfl rfl) ?_;refine dreg_onq [52, 57] [] rfl rfl (by assumption) rfl (step_C tab_ok (fun K hk => hk)) ?_
         refine dQ [52, 58] [] iT ?_;refine dC [59] [] ?_;refine dreg_onq [60, 3] [] rfl rfl (by assumption) rfl (step_C tab_ok (fun K hk => hk)) ?_;refine dreg_onq [60, 5] [] rfl rfl (by assumption) rfl (step_C tab_ok (fun K hk => hk)) ?_
         refine dreg_onq [60, 61, 62] [] rfl rfl (by assumption) rfl (index_arr tab_ok rfl rfl rfl rfl rfl (by omega) hy2) ?_;refine dreg_onq [60, 63] [] rfl rfl (by assumption) rfl (step_C tab_ok (fun K hk => hk)) ?_
         refine dreg_onq [60, 64] [] rfl rfl (by assumption) rfl (load_i tab_ok rfl rfl) ?_;refine dreg_onq [60, 65] [] rfl rfl (by assumption) rfl (step_C tab_ok (fun K hk => hk)) ?_
         refine dreg_onq [60, 66] [] rfl rfl (by assumption) rfl (step_C tab_ok (fun K hk => hk)) ?_;refine dreg_onq [67, 3] [] rfl rfl (by assumption) rfl (step_C tab_ok (fun K hk => hk)) ?_
         refine dreg_onq [67, 5] [] rfl rfl (by assumption) rfl (step_C tab_ok (fun K hk => hk)) ?_;refine dreg_onq [67, 68, 69] [] rfl rfl (by assumption) rfl (index_arr tab_ok rfl rfl rfl rfl rfl (by omega) hy2) ?_
         refine dreg_onq [67, 70] [] rfl rfl (by assumption) rfl (step_C tab_ok (fun K hk => hk)) ?_;refine dreg_onq [67, 71] [] rfl rfl (by assumption) rfl (load_i tab_ok rfl rfl) ?_
         refine dreg_onq [67, 72] [] rfl rfl (by assumption) rfl (step_C tab_ok (fun K hk => hk)) ?_;refine dreg_onq [60, 67, 73] [] rfl rfl (by assumption) rfl (pick_F tab_ok rfl (by assumption) rfl) ?_
         refine dQ [60, 74] [] iT ?_;refine dreg_end (by kernel_rfl) ?_;refine seq_n ?_;refine wT ?_;refine sR ?_;refine rC ?_;refine nS ?_;refine wc_ret ?_;refine blk_r ?_
         refine seq_r ?_;refine loop_r ?_;iterate 2 refine blk_r ?_
         refine seq_r ?_;refine loop_r ?_;refine blk_r ?_;refine seq_r ?_
         exact ⟨trivial, [], lf⟩
        | false =>
         rw [k1, k2, k3, k4, k5, k6] at hB
         refine qR ?_;iterate 2 refine rC ?_
         refine rQ iE ?_;refine rC ?_;refine nS ?_;refine wT ?_;refine kS ?_;refine wc_seq ?_;refine wc_block ?_;refine wc_seq ?_;refine wc_draw (by kernel_rfl) ?_;refine dC [3] [] ?_
         refine dC [4] [] ?_;refine dQ [20, 21] [] (index_arr tab_ok rfl rfl rfl rfl rfl (by omega) hx2) ?_;refine dC [22] [] ?_;refine dQ [23] [] iL ?_;refine dC [24] [] ?_
         refine dC [25] [] ?_;refine dreg_onq [26, 3] [] rfl rfl (by assumption) rfl (step_C tab_ok (fun K hk => hk)) ?_;refine dreg_onq [26, 4] [] rfl rfl (by assumption) rfl (step_C tab_ok (fun K hk => hk)) ?_
         refine dreg_onq [26, 27, 28] [] rfl rfl (by assumption) rfl (index_arr tab_ok rfl rfl rfl rfl rfl (by omega) hx2) ?_;refine dreg_onq [26, 29] [] rfl rfl (by assumption) rfl (step_C tab_ok (fun K hk => hk)) ?_
         refine dreg_onq [26, 30] [] rfl rfl (by assumption) rfl (load_i tab_ok rfl rfl) ?_;refine dreg_onq [26, 3] [] rfl rfl (by assumption) rfl (step_C tab_ok (fun K hk => hk)) ?_
         refine dreg_onq [26, 5] [] rfl rfl (by assumption) rfl (step_C tab_ok (fun K hk => hk)) ?_;refine dreg_onq [26, 32, 33] [] rfl rfl (by assumption) rfl (index_arr tab_ok rfl rfl rfl rfl rfl (by omega) hy2) ?_
         refine dreg_onq [26, 34] [] rfl rfl (by assumption) rfl (step_C tab_ok (fun K hk => hk)) ?_;refine dreg_onq [26, 35] [] rfl rfl (by assumption) rfl (load_i tab_ok rfl rfl) ?_
         refine dreg_onq [26, 31, 36] [] rfl rfl (by assumption) rfl (step_C tab_ok (fun K hk => hk)) ?_;refine dQ [26, 37] [] iT ?_;refine dC [38] [] ?_;refine dreg_onq [39, 3] [] rfl rfl (by assumption) rfl (step_C tab_ok (fun K hk => hk)) ?_
         refine dreg_onq [39, 4] [] rfl rfl (by assumption) rfl (step_C tab_ok (fun K hk => hk)) ?_;refine dreg_onq [39, 40, 41] [] rfl rfl (by assumption) rfl (index_arr tab_ok rfl rfl rfl rfl rfl (by omega) hx2) ?_
         refine dreg_onq [39, 42] [] rfl rfl (by assumption) rfl (step_C tab_ok (fun K hk => hk)) ?_;refine dreg_onq [39, 43] [] rfl rfl (by assumption) rfl (load_i tab_ok rfl rfl) ?_
         refine dreg_onq [39, 3] [] rfl rfl (by assumption) rfl (step_C tab_ok (fun K hk => hk)) ?_;refine dreg_onq [39, 5] [] rfl rfl (by assumption) rfl (step_C tab_ok (fun K hk => hk)) ?_
         refine dreg_onq [39, 45, 46] [] rfl rfl (by assumption) rfl (index_arr tab_ok rfl rfl rfl rfl rfl (by omega) hy2) ?_;refine dreg_onq [39, 47] [] rfl rfl (by assumption) rfl (step_C tab_ok (fun K hk => hk)) ?_
         refine dreg_onq [39, 48] [] rfl rfl (by assumption) rfl (load_i tab_ok rfl rfl) ?_;refine dreg_onq [39, 44, 49] [] rfl rfl (by assumption) rfl (step_C tab_ok (fun K hk => hk)) ?_
         refine dQ [39, 50] [] iT ?_;refine dC [51] [] ?_;refine dreg_onq [52, 3] [] rfl rfl (by assumption) rfl (step_C tab_ok (fun K hk => hk)) ?_;refine dreg_onq [52, 5] [] rfl rfl (by assumption) rfl (step_C tab_ok (fun K hk => hk)) ?_
         refine dreg_onq [52, 53, 54] [] rfl rfl (by assumption) rfl (index_arr tab_ok rfl rfl rfl rfl rfl (by omega) hy2) ?_;refine dreg_onq [52, 55] [] rfl rfl (by assumption) rfl (step_C tab_ok (fun K hk => hk)) ?_
         refine dreg_onq [52, 56] [] rfl rfl (by assumption) rfl (load_i tab_ok rfl rfl) ?_;refine dreg_onq [52, 57] [] rfl rfl (by assumption) rfl (step_C tab_ok (fun K hk => hk)) ?_
         refine dQ [52, 58] [] iT ?_;refine dC [59] [] ?_;refine dreg_onq [60, 3] [] rfl rfl (by assumption) rfl (step_C tab_ok (fun K hk => hk)) ?_;refine dreg_onq [60, 5] [] rfl rfl (by assumption) rfl (step_C tab_ok (fun K hk => hk)) ?_
         refine dreg_onq [60, 61, 62] [] rfl rfl (by assumption) rfl (index_arr tab_ok rfl rfl rfl rfl rfl (by omega) hy2) ?_;refine dreg_onq [60, 63] [] rfl rfl (by assumption) rfl (step_C tab_ok (fun K hk => hk)) ?_
         refine dreg_onq [60, 64] [] rfl rfl (by assumption) rfl (load_i tab_ok rfl rfl) ?_;refine dreg_onq [60, 65] [] rfl rfl (by assumption) rfl (step_C tab_ok (fun K hk => hk)) ?_
         refine dreg_onq [60, 66] [] rfl rfl (by assumption) rfl (step_C tab_ok (fun K hk => hk)) ?_;refine dreg_onq [67, 3] [] rfl rfl (by assumption) rfl (step_C tab_ok (fun K hk => hk)) ?_
         refine dreg_onq [67, 5] [] rfl rfl (by assumption) rfl (step_C tab_ok (fun K hk => hk)) ?_;refine dreg_onq [67, 68, 69] [] rfl rfl (by assumption) rfl (index_arr tab_ok rfl rfl rfl rfl rfl (by omega) hy2) ?_
         refine dreg_onq [67, 70] [] rfl rfl (by assumption) rfl (step_C tab_ok (fun K hk => hk)) ?_;refine dreg_onq [67, 71] [] rfl rfl (by assumption) rfl (load_i tab_ok rfl rfl) ?_
         refine dreg_onq [67, 72] [] rfl rfl (by assumption) rfl (step_C tab_ok (fun K hk => hk)) ?_;refine dreg_onq [60, 67, 73] [] rfl rfl (by assumption) rfl (pick_F tab_ok rfl (by assumption) rfl) ?_
         refine dQ [60, 74] [] iT ?_;refine dreg_end (by kernel_rfl) ?_;refine seq_n ?_;refine wF ?_;refine wc_skip ?_;refine blk_n ?_;refine seq_n ?_;refine wc_region ?_
         refine rC ?_;refine rQ iD ?_;refine rC ?_;refine reg_nil ?_
         exact loop_n (j + 1) [] ⟨hjt, nxt hB⟩ (by omega) (lg zj trivial)
  ·have d2 : decide ((j : Int) < (l.length : Int)) = false := dF (by omega)
   rw [List.drop_eq_nil_of_le (by omega), List.any_nil] at he
   rw [← he, Bool.false_or] at hd
   refine qR ?_;iterate 2 refine rC ?_
   refine rQ iE ?_;refine rC ?_;refine nS ?_;refine wF ?_;refine wc_exit ?_;refine seq_x ?_;refine loop_x ?_;refine blk_x ?_;refine blk_n ?_;refine seq_n ?_;refine wc_region ?_
   refine rC ?_;refine rQ iD ?_;refine rC ?_;refine reg_nil ?_
   exact loop_n (i + 1) [] ⟨hlt, hd⟩ (by omega) (lg zk trivial)
 ·have d1 : decide ((i : Int) < (l.length : Int)) = false := dF (by omega)
  rw [List.drop_eq_nil_of_le (by omega), List.any_nil] at hd
  have hv : rstV l = true := by rw [rstV, ← hd]; rfl
  rw [hv]
  refine qR ?_;iterate 2 refine rC ?_
  refine rQ iE ?_;refine rC ?_;refine nS ?_;refine wF ?_;refine wc_exit ?_;refine seq_x ?_;refine loop_x ?_;refine blk_x ?_;refine seq_n ?_;refine sR ?_;refine rC ?_
  refine nS ?_;refine wc_ret ?_
  exact ⟨trivial, [], lf⟩
theorem law25_sticky (x : List XE) : FnIs Try.prog 8 [.d (encXH x)] [] (.bool true) [] := by
 have hof : FnIs Try.prog 17 [.d (encXH x)] [] (.d (encH (hOf x))) [] := (hof_own x).freeze_out 64 _ rfl (Frz.own rfl) trivial
 have hn := hOf_len x
 have hc := hOf_chk x
 have hsk := sticky_is (hOf x) (by omega) (by have := rdH_all_len (hOf x); omega)
 have hrs := rsticky_is (hOf x) (by omega)
 generalize hOf x = h at *
 rw [if_pos (by rw [hc])] at hsk
 rw [hc] at hsk
 have hs : opsH h = opsR h := by rw [opsH, if_pos (by rw [hc]), ops_same (by rw [hc])]
 rw [hs, stV_eq] at hsk
 generalize rstV (opsR h) = b at hsk hrs
 refine fnIs_of tab_ok Try.func8 rfl rfl rfl ?_
 cases b
 ·refine sR ?_;refine rN ?_;refine rC ?_;refine nR ?_;refine rQ iM ?_;refine rQ (call_r hof rfl rfl (arg_e arg_nil) (.inl rfl) (fun _ => rfl)) ?_;refine rC ?_;refine nR ?_
  refine rC ?_;refine rQ (call_r hsk rfl rfl (arg_e arg_nil) (.inl rfl) (fun _ => rfl)) ?_;iterate 5 refine rC ?_
  refine nR ?_;iterate 3 refine rC ?_
  refine rP ?_;refine rC ?_;refine rP ?_;refine rC ?_;refine rP ?_;refine rQ (call_r hrs rfl rfl (arg_e arg_nil) (.inl rfl) (fun _ => rfl)) ?_;refine rP ?_;refine rC ?_
  refine rP ?_;refine rC ?_;refine rQ iU ?_;refine rC ?_;refine rP ?_;refine rQ (call_r lives_is rfl rfl arg_nil (.inl rfl) (fun _ => rfl)) ?_;refine rQ iU ?_;refine rC ?_
  refine nS ?_;refine wc_ret ?_
  exact ⟨trivial, [], lf⟩
 ·refine sR ?_;refine rN ?_;refine rC ?_;refine nR ?_;refine rQ iM ?_;refine rQ (call_r hof rfl rfl (arg_e arg_nil) (.inl rfl) (fun _ => rfl)) ?_;refine rC ?_;refine nR ?_
  refine rC ?_;refine rQ (call_r hsk rfl rfl (arg_e arg_nil) (.inl rfl) (fun _ => rfl)) ?_;iterate 5 refine rC ?_
  refine nR ?_;iterate 3 refine rC ?_
  refine rP ?_;refine rC ?_;refine rP ?_;refine rC ?_;refine rP ?_;refine rQ (call_r hrs rfl rfl (arg_e arg_nil) (.inl rfl) (fun _ => rfl)) ?_;refine rP ?_;refine rC ?_
  refine rP ?_;refine rC ?_;refine rQ iU ?_;refine rC ?_;refine rP ?_;refine rQ (call_r lives_is rfl rfl arg_nil (.inl rfl) (fun _ => rfl)) ?_;refine rQ iU ?_;refine rC ?_
  refine nS ?_;refine wc_ret ?_
  exact ⟨trivial, [], lf⟩
end Go.Proofs.Ytkehohfgbblokaa
namespace Go.Proofs.Ytkehohfgbblokaa
open Go.Eng Go.Plain
theorem pu8_of {a : Int} (h : (Lit.int .u8 a).wf = true) : 0 ≤ a ∧ a ≤ 255 := by
 simp [Lit.wf, IntKind.min, IntKind.max, IntKind.bits, IntKind.signed] at h
 omega
def toB (l : List Int) : List UInt8 := l.map fun z => z.toNat.toUInt8
theorem u8_back {a : Int} (h : (Lit.int .u8 a).wf = true) : ((a.toNat.toUInt8.toNat : Nat) : Int) = a := by
 obtain ⟨h1, h2⟩ := pu8_of h
 simp only [Nat.toUInt8_eq, UInt8.toNat_ofNat']
 omega
theorem opens_x : Opens Try.prog 74 3 encXE fun _ => True :=
 Opens.map (opens_struct (P := Try.prog) Try.underlying74 (by kernel_rfl) (fun _ => rfl) (opensF_cons rfl (by kernel_rfl) (opens_int (P := Try.prog) Try.underlying5) (opensF_cons rfl (by kernel_rfl) (opens_int (P := Try.prog) Try.underlying5) (opensF_cons rfl (by kernel_rfl) (opens_int (P := Try.prog) Try.underlying5) opensF_nil))))
  (fun q => ⟨q.1.toNat.toUInt8, q.2.1.toNat.toUInt8, q.2.2.1.toNat.toUInt8⟩) (fun q h => by simp only [encXE, u8_back h.1, u8_back h.2.1, u8_back h.2.2.1]) (fun _ _ => trivial)
theorem opens_xh : Opens Try.prog 38 1 encXH fun _ => True :=
 Opens.map (opens_struct (P := Try.prog) Try.underlying38 (by kernel_rfl) (fun _ => rfl) (opensF_cons rfl (by kernel_rfl)
  (opens_slice (P := Try.prog) Try.underlying36 (by kernel_rfl) opens_x) opensF_nil))
  (fun q => q.1) (fun _ _ => rfl) (fun _ _ => trivial)
end Go.Proofs.Ytkehohfgbblokaa
