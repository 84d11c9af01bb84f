/- Texts of the proof: Y28, YO. -/
import Derived.Test.YtkehohfgbblokaaG06
import Derived.Test.YtkehohfgbblokaaG03
import Derived.Test.YtkehohfgbblokaaG02

set_option linter.unusedVariables false
set_option linter.unusedSimpArgs false
set_option linter.unusedSectionVars false

namespace Go.Proofs.Ytkehohfgbblokaa
open Go.Eng Go.Plain
set_option maxHeartbeats 16000000
set_option maxRecDepth 20000
attribute [local irreducible] WC RegS RegD SeqQ BlkQ ScoQ RegK CutK Sat SatN FnIs LoopQ StepIs OpIs
abbrev r01d (b : Bool) : AV := .d (i6 (if b then 1 else 0))
theorem rmay_is (o : HOp) (b : Int) : FnIs Try.prog 14 [.d (encOpn o), .int .i64 b] [] (r01d (mayB o b)) [] := by
 have hb := rbad_is o.op b
 refine fnIs_of tab_ok Try.func14 rfl rfl rfl ?_
 unfold mayB
 cases hbd : badO o.op b with
 | true =>
  rw [hbd] at hb
  refine sR ?_;refine rN ?_;refine rC ?_;refine nQ ?_;refine sR ?_;refine rC ?_;refine rQ iB ?_;refine rC ?_;refine rQ (call_r hb rfl rfl (arg_e (arg_e arg_nil)) (.inl rfl) (fun _ => rfl)) ?_
  refine rC ?_;refine nS ?_;refine wV ?_;refine sR ?_;refine rC ?_;refine nS ?_;refine wc_ret ?_;refine seq_r ?_
  exact ⟨trivial, [], lf⟩
 | false =>
  rw [hbd] at hb
  cases h1 : decide (o.returned < 0) with
  | true =>
   refine sR ?_;refine rN ?_;refine rC ?_;refine nQ ?_;refine sR ?_;refine rC ?_;refine rQ iB ?_;refine rC ?_;refine rQ (call_r hb rfl rfl (arg_e (arg_e arg_nil)) (.inl rfl) (fun _ => rfl)) ?_
   refine rC ?_;refine nS ?_;refine wG ?_;refine kS ?_;refine qR ?_;refine rC ?_;refine rQ iB ?_;iterate 2 refine rC ?_
   iterate 3 refine rS ?_
   refine rQ iT ?_;refine rC ?_;iterate 3 refine rT ?_
   refine rQ iU ?_;refine nS ?_;refine wV ?_;refine sR ?_;refine rC ?_;refine nS ?_;refine wc_ret ?_;refine seq_r ?_
   exact ⟨trivial, [], lf⟩
  | false =>
   cases h2 : decide (o.err = 0) with
   | true =>
    refine sR ?_;refine rN ?_;refine rC ?_;refine nQ ?_;refine sR ?_;refine rC ?_;refine rQ iB ?_;refine rC ?_;refine rQ (call_r hb rfl rfl (arg_e (arg_e arg_nil)) (.inl rfl) (fun _ => rfl)) ?_
    refine rC ?_;refine nS ?_;refine wG ?_;refine kS ?_;refine qR ?_;refine rC ?_;refine rQ iB ?_;iterate 2 refine rC ?_
    refine rO ?_;refine rC ?_;refine rO ?_;refine rQ iB ?_;refine rO ?_;refine rC ?_;refine rQ iF ?_;refine rC ?_;iterate 3 refine rS ?_
    refine rQ iT ?_;refine nS ?_;refine wV ?_;refine sR ?_;refine rC ?_;refine nS ?_;refine wc_ret ?_;refine seq_r ?_
    exact ⟨trivial, [], lf⟩
   | false =>
    cases h3 : decide (o.err = 9) with
    | true =>
     refine sR ?_;refine rN ?_;refine rC ?_;refine nQ ?_;refine sR ?_;refine rC ?_;refine rQ iB ?_;refine rC ?_;refine rQ (call_r hb rfl rfl (arg_e (arg_e arg_nil)) (.inl rfl) (fun _ => rfl)) ?_
     refine rC ?_;refine nS ?_;refine wG ?_;refine kS ?_;refine qR ?_;refine rC ?_;refine rQ iB ?_;iterate 2 refine rC ?_
     refine rO ?_;refine rC ?_;refine rO ?_;refine rQ iB ?_;refine rO ?_;refine rC ?_;refine rQ iF ?_;refine rC ?_;refine rO ?_;refine rC ?_;refine rO ?_;refine rQ iB ?_
     refine rO ?_;refine rC ?_;refine rQ iF ?_;refine nS ?_;refine wT ?_;refine sR ?_;refine rC ?_;refine nS ?_;refine wc_ret ?_;refine seq_r ?_
     exact ⟨trivial, [], lf⟩
    | false =>
     refine sR ?_;refine rN ?_;refine rC ?_;refine nQ ?_;refine sR ?_;refine rC ?_;refine rQ iB ?_;refine rC ?_;refine rQ (call_r hb rfl rfl (arg_e (arg_e arg_nil)) (.inl rfl) (fun _ => rfl)) ?_
     refine rC ?_;refine nS ?_;refine wG ?_;refine kS ?_;refine qR ?_;refine rC ?_;refine rQ iB ?_;iterate 2 refine rC ?_
     refine rO ?_;refine rC ?_;refine rO ?_;refine rQ iB ?_;refine rO ?_;refine rC ?_;refine rQ iF ?_;refine rC ?_;refine rO ?_;refine rC ?_;refine rO ?_;refine rQ iB ?_
     refine rO ?_;refine rC ?_;refine rQ iF ?_;refine nS ?_;refine wF ?_;refine kS ?_;refine sR ?_;refine rC ?_;refine nS ?_;refine wc_ret ?_
     exact ⟨trivial, [], lf⟩
theorem rmust_is (o : HOp) : FnIs Try.prog 16 [.d (encOpn o)] [] (r01d (mustB o)) [] := by
 refine fnIs_of tab_ok Try.func16 rfl rfl rfl ?_
 unfold mustB
 cases h1 : decide (0 ≤ o.returned) with
 | true =>
  cases h2 : decide (o.err = 0) with
  | true =>
   refine sR ?_;refine rN ?_;refine rC ?_;refine nQ ?_;refine sR ?_;refine rC ?_;refine rQ iB ?_;iterate 2 refine rC ?_
   refine rO ?_;refine rC ?_;refine rO ?_;refine rQ iB ?_;refine rO ?_;refine rC ?_;refine rQ iT ?_;refine nS ?_;refine wT ?_;refine sR ?_;refine rC ?_;refine nS ?_
   refine wc_ret ?_;refine seq_r ?_
   exact ⟨trivial, [], lf⟩
  | false =>
   refine sR ?_;refine rN ?_;refine rC ?_;refine nQ ?_;refine sR ?_;refine rC ?_;refine rQ iB ?_;iterate 2 refine rC ?_
   refine rO ?_;refine rC ?_;refine rO ?_;refine rQ iB ?_;refine rO ?_;refine rC ?_;refine rQ iT ?_;refine nS ?_;refine wF ?_;refine kS ?_;refine sR ?_;refine rC ?_
   refine nS ?_;refine wc_ret ?_
   exact ⟨trivial, [], lf⟩
 | false =>
  refine sR ?_;refine rN ?_;refine rC ?_;refine nQ ?_;refine sR ?_;refine rC ?_;refine rQ iB ?_;iterate 2 refine rC ?_
  iterate 3 refine rS ?_
  refine rQ iF ?_;refine nS ?_;refine wG ?_;refine kS ?_;refine sR ?_;refine rC ?_;refine nS ?_;refine wc_ret ?_
  exact ⟨trivial, [], lf⟩
theorem law25_may (o : HOp) (b : Int) : FnIs Try.prog 3 [.d (encOpn o), .int .i64 b] [] (.bool true) [] := by
 have hma := may_is o b
 have hra := rmay_is o b
 have hmu := must_is o
 have hru := rmust_is o
 refine fnIs_of tab_ok Try.func3 rfl rfl rfl ?_
 cases d0 : decide ((100 : Int) < ((byI o.op.data).length : Int)) with
 | true =>
  refine sR ?_;refine rN ?_;refine rC ?_;refine nQ ?_;refine sR ?_;iterate 2 refine rC ?_
  refine rQ iB ?_;refine rQ iE ?_;refine rC ?_;refine nS ?_;refine wT ?_;refine sR ?_;refine rQ (call_r lives_is rfl rfl arg_nil (.inl rfl) (fun _ => rfl)) ?_;refine rC ?_
  refine nS ?_;refine wc_ret ?_;refine seq_r ?_
  exact ⟨trivial, [], lf⟩
 | false =>
  cases h1 : mayB o b <;> cases h2 : mustB o <;> rw [h1] at hma hra <;> rw [h2] at hmu hru
  ·refine sR ?_;refine rN ?_;refine rC ?_;refine nQ ?_;refine sR ?_;iterate 2 refine rC ?_
   refine rQ iB ?_;refine rQ iE ?_;refine rC ?_;refine nS ?_;refine wF ?_;refine kS ?_;refine wc_seq ?_;refine wc_draw (by kernel_rfl) ?_;refine dQ [2] [64] iM ?_;refine dC [1] [] ?_
   refine dQ [11, 12] [] (call_r hma rfl rfl (arg_e (arg_e arg_nil)) (.inl rfl) (fun _ => rfl)) ?_;refine dQ [2] [64] iM ?_;refine dC [1] [] ?_;refine dQ [14, 15] [] (call_r hra rfl rfl (arg_e (arg_e arg_nil)) (.inl rfl) (fun _ => rfl)) ?_
   refine dC [16] [] ?_;refine dC [13, 17] [] ?_;refine dC [18] [] ?_;refine dreg_onq [19, 2] [64] rfl rfl rfl rfl (load_box tab_ok rfl rfl rfl rfl) ?_;refine dreg_onq [19, 20] [] rfl rfl rfl rfl (call_r hmu rfl rfl (arg_e arg_nil) (.inl rfl) (fun _ => rfl)) ?_
   refine dreg_onq [19, 2] [64] rfl rfl rfl rfl (load_box tab_ok rfl rfl rfl rfl) ?_;refine dreg_onq [19, 22] [] rfl rfl rfl rfl (call_r hru rfl rfl (arg_e arg_nil) (.inl rfl) (fun _ => rfl)) ?_
   refine dreg_onq [19, 23] [] rfl rfl rfl rfl (step_C tab_ok (fun K hk => hk)) ?_;refine dreg_onq [19, 21, 24] [] rfl rfl rfl rfl (step_C tab_ok (fun K hk => hk)) ?_
   refine dQ [19, 25] [] iU ?_;refine dC [26] [] ?_;refine dreg_onq [27] [] rfl rfl rfl rfl (call_r lives_is rfl rfl arg_nil (.inl rfl) (fun _ => rfl)) ?_;refine dQ [27, 28] [] iU ?_
   refine dC [29] [] ?_;refine dreg_end (by kernel_rfl) ?_;refine seq_n ?_;refine wc_ret ?_
   exact ⟨trivial, [], lf⟩
  ·refine sR ?_;refine rN ?_;refine rC ?_;refine nQ ?_;refine sR ?_;iterate 2 refine rC ?_
   refine rQ iB ?_;refine rQ iE ?_;refine rC ?_;refine nS ?_;refine wF ?_;refine kS ?_;refine wc_seq ?_;refine wc_draw (by kernel_rfl) ?_;refine dQ [2] [64] iM ?_;refine dC [1] [] ?_
   refine dQ [11, 12] [] (call_r hma rfl rfl (arg_e (arg_e arg_nil)) (.inl rfl) (fun _ => rfl)) ?_;refine dQ [2] [64] iM ?_;refine dC [1] [] ?_;refine dQ [14, 15] [] (call_r hra rfl rfl (arg_e (arg_e arg_nil)) (.inl rfl) (fun _ => rfl)) ?_
   refine dC [16] [] ?_;refine dC [13, 17] [] ?_;refine dC [18] [] ?_;refine dreg_onq [19, 2] [64] rfl rfl rfl rfl (load_box tab_ok rfl rfl rfl rfl) ?_;refine dreg_onq [19, 20] [] rfl rfl rfl rfl (call_r hmu rfl rfl (arg_e arg_nil) (.inl rfl) (fun _ => rfl)) ?_
   refine dreg_onq [19, 2] [64] rfl rfl rfl rfl (load_box tab_ok rfl rfl rfl rfl) ?_;refine dreg_onq [19, 22] [] rfl rfl rfl rfl (call_r hru rfl rfl (arg_e arg_nil) (.inl rfl) (fun _ => rfl)) ?_
   refine dreg_onq [19, 23] [] rfl rfl rfl rfl (step_C tab_ok (fun K hk => hk)) ?_;refine dreg_onq [19, 21, 24] [] rfl rfl rfl rfl (step_C tab_ok (fun K hk => hk)) ?_
   refine dQ [19, 25] [] iU ?_;refine dC [26] [] ?_;refine dreg_onq [27] [] rfl rfl rfl rfl (call_r lives_is rfl rfl arg_nil (.inl rfl) (fun _ => rfl)) ?_;refine dQ [27, 28] [] iU ?_
   refine dC [29] [] ?_;refine dreg_end (by kernel_rfl) ?_;refine seq_n ?_;refine wc_ret ?_
   exact ⟨trivial, [], lf⟩
  ·refine sR ?_;refine rN ?_;refine rC ?_;refine nQ ?_;refine sR ?_;iterate 2 refine rC ?_
   refine rQ iB ?_;refine rQ iE ?_;refine rC ?_;refine nS ?_;refine wF ?_;refine kS ?_;refine wc_seq ?_;refine wc_draw (by kernel_rfl) ?_;refine dQ [2] [64] iM ?_;refine dC [1] [] ?_
   refine dQ [11, 12] [] (call_r hma rfl rfl (arg_e (arg_e arg_nil)) (.inl rfl) (fun _ => rfl)) ?_;refine dQ [2] [64] iM ?_;refine dC [1] [] ?_;refine dQ [14, 15] [] (call_r hra rfl rfl (arg_e (arg_e arg_nil)) (.inl rfl) (fun _ => rfl)) ?_
   refine dC [16] [] ?_;refine dC [13, 17] [] ?_;refine dC [18] [] ?_;refine dreg_onq [19, 2] [64] rfl rfl rfl rfl (load_box tab_ok rfl rfl rfl rfl) ?_;refine dreg_onq [19, 20] [] rfl rfl rfl rfl (call_r hmu rfl rfl (arg_e arg_nil) (.inl rfl) (fun _ => rfl)) ?_
   refine dreg_onq [19, 2] [64] rfl rfl rfl rfl (load_box tab_ok rfl rfl rfl rfl) ?_;refine dreg_onq [19, 22] [] rfl rfl rfl rfl (call_r hru rfl rfl (arg_e arg_nil) (.inl rfl) (fun _ => rfl)) ?_
   refine dreg_onq [19, 23] [] rfl rfl rfl rfl (step_C tab_ok (fun K hk => hk)) ?_;refine dreg_onq [19, 21, 24] [] rfl rfl rfl rfl (step_C tab_ok (fun K hk => hk)) ?_
   refine dQ [19, 25] [] iU ?_;refine dC [26] [] ?_;refine dreg_onq [27] [] rfl rfl rfl rfl (call_r lives_is rfl rfl arg_nil (.inl rfl) (fun _ => rfl)) ?_;refine dQ [27, 28] [] iU ?_
   refine dC [29] [] ?_;refine dreg_end (by kernel_rfl) ?_;refine seq_n ?_;refine wc_ret ?_
   exact ⟨trivial, [], lf⟩
  ·refine sR ?_;refine rN ?_;refine rC ?_;refine nQ ?_;refine sR ?_;iterate 2 refine rC ?_
   refine rQ iB ?_;refine rQ iE ?_;refine rC ?_;refine nS ?_;refine wF ?_;refine kS ?_;refine wc_seq ?_;refine wc_draw (by kernel_rfl) ?_;refine dQ [2] [64] iM ?_;refine dC [1] [] ?_
   refine dQ [11, 12] [] (call_r hma rfl rfl (arg_e (arg_e arg_nil)) (.inl rfl) (fun _ => rfl)) ?_;refine dQ [2] [64] iM ?_;refine dC [1] [] ?_;refine dQ [14, 15] [] (call_r hra rfl rfl (arg_e (arg_e arg_nil)) (.inl rfl) (fun _ => rfl)) ?_
   refine dC [16] [] ?_;refine dC [13, 17] [] ?_;refine dC [18] [] ?_;refine dreg_onq [19, 2] [64] rfl rfl rfl rfl (load_box tab_ok rfl rfl rfl rfl) ?_;refine dreg_onq [19, 20] [] rfl rfl rfl rfl (call_r hmu rfl rfl (arg_e arg_nil) (.inl rfl) (fun _ => rfl)) ?_
   refine dreg_onq [19, 2] [64] rfl rfl rfl rfl (load_box tab_ok rfl rfl rfl rfl) ?_;refine dreg_onq [19, 22] [] rfl rfl rfl rfl (call_r hru rfl rfl (arg_e arg_nil) (.inl rfl) (fun _ => rfl)) ?_
   refine dreg_onq [19, 23] [] rfl rfl rfl rfl (step_C tab_ok (fun K hk => hk)) ?_;refine dreg_onq [19, 21, 24] [] rfl rfl rfl rfl (step_C tab_ok (fun K hk => hk)) ?_
   refine dQ [19, 25] [] iU ?_;refine dC [26] [] ?_;refine dreg_onq [27] [] rfl rfl rfl rfl (call_r lives_is rfl rfl arg_nil (.inl rfl) (fun _ => rfl)) ?_;refine dQ [27, 28] [] iU ?_
   refine dC [29] [] ?_;refine dreg_end (by kernel_rfl) ?_;refine seq_n ?_;refine wc_ret ?_
   exact ⟨trivial, [], lf⟩
end Go.Proofs.Ytkehohfgbblokaa
namespace Go.Proofs.Ytkehohfgbblokaa
open Go.Eng Go.Plain
theorem pu8_of {a : Int} (h : (Lit.int .u8 a).wf = true) : 0 ≤ a ∧ a ≤ 255 := by
 simp [Lit.wf, IntKind.min, IntKind.max, IntKind.bits, IntKind.signed] at h
 omega
theorem pi64_of {a : Int} (h : (Lit.int .i64 a).wf = true) : -9223372036854775808 ≤ a ∧ a ≤ 9223372036854775807 := by
 simp [Lit.wf, IntKind.min, IntKind.max, IntKind.bits, IntKind.signed] at h
 omega
def toB (l : List Int) : List UInt8 := l.map fun z => z.toNat.toUInt8
theorem toB_byI {l : List Int} (h : ∀ a ∈ l, (Lit.int .u8 a).wf = true) : byI (toB l) = l := by
 rw [byI, toB, List.map_map]
 have : ∀ a ∈ l, ((fun b : UInt8 => (b.toNat : Int)) ∘ fun z : Int => z.toNat.toUInt8) a = a := fun a ha => by
  obtain ⟨h1, h2⟩ := pu8_of (h a ha)
  simp only [Function.comp_apply, Nat.toUInt8_eq, UInt8.toNat_ofNat']
  omega
 rw [List.map_congr_left this, List.map_id'']
 exact fun _ => rfl
theorem opens_bytes : Opens Try.prog 23 1 (fun l : List UInt8 => encB l) fun _ => True :=
 Opens.map (opens_slice (P := Try.prog) Try.underlying23 (by kernel_rfl) (opens_int (P := Try.prog) Try.underlying5))
  toB (fun l h => by show D.arr 1 encU8 (byI (toB l)) = _; rw [toB_byI h.2]; rfl) (fun _ _ => trivial)
theorem opens_pop : Opens Try.prog 25 3 encPOp POp.Ok :=
 Opens.map (opens_struct (P := Try.prog) Try.underlying25 (by kernel_rfl) (fun _ => rfl) (opensF_cons rfl (by kernel_rfl) (opens_int (P := Try.prog) Try.underlying22) (opensF_cons rfl (by kernel_rfl) (opens_int (P := Try.prog) Try.underlying3) (opensF_cons rfl (by kernel_rfl) opens_bytes opensF_nil))))
  (fun q => ⟨q.1, q.2.1, q.2.2.1⟩) (fun _ _ => rfl) (fun _ h => ⟨pu8_of h.1, pi64_of h.2.1⟩)
theorem toB_len (l : List Int) : (toB l).length = l.length := by simp [toB]
theorem opens_block : Opens Try.prog 27 32 (fun l : List UInt8 => encBk l) fun l => l.length = 32 :=
 Opens.map (opens_array (P := Try.prog) Try.underlying27 (by kernel_rfl) (by kernel_rfl) (opens_int (P := Try.prog) Try.underlying5))
  toB (fun l h => by show D.vec 32 1 encU8 (byI (toB l)) = _; rw [toB_byI h.2]; rfl) (fun l h => by rw [toB_len]; exact h.1)
theorem opens_opn : Opens Try.prog 30 41 encOpn fun _ => True :=
 Opens.map (opens_struct (P := Try.prog) Try.underlying30 (by kernel_rfl) (fun _ => rfl) (opensF_cons rfl (by kernel_rfl) (opens_int (P := Try.prog) Try.underlying3) (opensF_cons rfl (by kernel_rfl) (opens_int (P := Try.prog) Try.underlying3) (opensF_cons rfl (by kernel_rfl) (opens_int (P := Try.prog) Try.underlying3) (opensF_cons rfl (by kernel_rfl) opens_pop (opensF_cons rfl (by kernel_rfl) (opens_int (P := Try.prog) Try.underlying3) (opensF_cons rfl (by kernel_rfl) (opens_int (P := Try.prog) Try.underlying3) (opensF_cons rfl (by kernel_rfl) opens_block (opensF_cons rfl (by kernel_rfl) (opens_int (P := Try.prog) Try.underlying28) opensF_nil)))))))))
  (fun q => ⟨q.1, q.2.1, q.2.2.1, q.2.2.2.1, q.2.2.2.2.1, q.2.2.2.2.2.1, q.2.2.2.2.2.2.1, q.2.2.2.2.2.2.2.1⟩) (fun _ _ => rfl) (fun _ _ => trivial)
end Go.Proofs.Ytkehohfgbblokaa
