/- A change leaves all other sectors as they are, and a replay of the last change is what was there before it. No condition. -/
import Derived.Test.YtfmemklkkmiicaaDC
import Derived.Test.YtfmemklkkmiicaaRows

set_option linter.unusedVariables false
set_option linter.unusedSimpArgs false

/- DisksOther: the law. -/
namespace Go.Proofs.Ytfmemklkkmiicaa
open Go.Eng
theorem refL_len (M : List Vs) : (refL M).length = M.length := by simp [refL]
theorem Rep.last {N j : Nat} {d : Dk} {M : List Vs} (h : Rep N j d M) {i : Nat} (hi : i < N) : FnIs Try.prog 20 [.d (encRD (refL M)), .d (i6 i)] [] (.d (encV (topV (verAt M i)))) [] := by
  have hiM : i < M.length := by rw [h.l]; exact hi
  have hv := h.vlen hi
  have hj := h.jb
  refine last_is (refL M) i (hist (verAt M i)) (topV (verAt M i)) (by rw [hist_len]; omega) (by rw [hist_len]; omega) (by rw [Int.toNat_natCast]; exact refL_get hiM) ?_
  have := hist_get (verAt M i) 0 (Nat.zero_le _)
  rw [show (((hist (verAt M i)).length : Int) - 1).toNat = (verAt M i).length - 0 by rw [hist_len]; omega]
  exact this
theorem other_is (z : Int) (ops : List Opr) (y : Opr) (t : Int) (h : 0 ≤ z ∧ z ≤ 255) (hl : ∀ o ∈ ops, OpOk o) (hy : OpOk y) (ht : 0 ≤ t ∧ t ≤ 255) : FnIs Try.prog 6 [.d (encX (z, ops)), .d (encOpr y), .d (u8s t)] [] (.bool true) [] := by
  obtain ⟨h1, h2, -⟩ := size_ok h
  obtain ⟨N, hN⟩ : ∃ N, N = sizeN z := ⟨_, rfl⟩
  have hOf := of_is z ops h hl
  have hRef := refOf_is z ops h hl
  rw [← hN] at h1 h2 hOf hRef
  have rep := rep_run (N := N) ⟨h1, by omega⟩ ops hl (min ops.length 60) (by omega)
  obtain ⟨d, hd⟩ : ∃ d, d = runD N ops (min ops.length 60) := ⟨_, rfl⟩
  obtain ⟨M, hM⟩ : ∃ M, M = runM N ops (min ops.length 60) := ⟨_, rfl⟩
  obtain ⟨j, hj⟩ : ∃ j, j = min ops.length 60 := ⟨_, rfl⟩
  have hj60 : j ≤ 60 := by omega
  rw [← hd, ← hM, ← hj] at rep
  rw [← hd] at hOf
  rw [← hM] at hRef
  have rep2 := rep.step (by omega) y hy
  obtain ⟨hs, hse⟩ := sec_lt y hy (N := N) h1
  have ti0 : 0 ≤ t.tmod (N : Int) := Int.tmod_nonneg _ ht.1
  have ti1 : t.tmod (N : Int) < N := Int.tmod_lt_of_pos _ (by omega)
  obtain ⟨i, hi⟩ : ∃ i : Nat, t.tmod (N : Int) = i := ⟨(t.tmod (N : Int)).toNat, by omega⟩
  have hiN : i < N := by omega
  obtain ⟨p, q, hpq, hcon⟩ := contR_ab (verAt (stepM y M) i)
  have hRead := read_ok _ i _ _ (rep2.at hiN)
  rw [hpq] at hRead
  have hsM : sec y N < M.length := by rw [rep.l]; exact hs
  by_cases he : errM y M = 0
  · -- the change was made
    have hst : stepM y M = M.set (sec y N) ((chg y (verAt M (sec y N))).2 :: verAt M (sec y N)) := by
      unfold stepM
      unfold errM at he
      rw [rep.l] at he ⊢
      rw [if_pos he]
    have hvs : verAt (stepM y M) (sec y N) = (chg y (verAt M (sec y N))).2 :: verAt M (sec y N) := by rw [hst, verAt_set hsM, if_pos rfl]
    have hA2 := rep2.at hs
    have hR := replay_ok _ (sec y N) 1 _ _ hA2 (by rw [hvs]; simp)
    have rep3 := rep2.put (by omega) hs (topV ((verAt (stepM y M) (sec y N)).drop 1)) (by
      rw [hvs]
      show (topV (verAt M (sec y N))).b.length ≤ 256
      cases hv : verAt M (sec y N) with
      | nil => simp [topV]
      | cons x l => exact rep.b _ (rep.vmem hs) x (by rw [hv]; simp)) (by
      rw [hvs]
      show (topV (verAt M (sec y N))).there = false → _
      cases hv : verAt M (sec y N) with
      | nil => intro _; rfl
      | cons x l => exact rep.a _ (rep.vmem hs) x (by rw [hv]; simp))
    obtain ⟨p2, q2, hpq2, hcon2⟩ := contR_ab (verAt ((stepM y M).set (sec y N) (topV ((verAt (stepM y M) (sec y N)).drop 1) :: verAt (stepM y M) (sec y N))) (sec y N))
    have hRd2 := read_ok _ (sec y N) _ _ (rep3.at hs)
    rw [hpq2] at hRd2
    rw [verAt_set (by rw [stepM_len]; exact hsM), if_pos rfl, hvs] at hcon2
    refine other_core z ops y t h hy ht N _ i hN ⟨h1, h2⟩ d _ _ _ _ _ hse hi p q p2 q2 (topV (verAt M i)) (topV (verAt M (sec y N))) hOf hRef (do_is rep y hy) (ref_is rep y hy) hRead (fun hne => ⟨rep.last hiN, ?_⟩) (fun hne => absurd he hne) (fun _ => ⟨hR, hRd2, rep.last hs, hcon2⟩)
    rw [hst, verAt_set hsM, if_neg hne] at hcon
    exact hcon
  · have hst : stepM y M = M := by
      unfold stepM
      unfold errM at he
      rw [if_neg he]
    refine other_core z ops y t h hy ht N _ i hN ⟨h1, h2⟩ d _ zeroK _ _ _ hse hi p q (.sc nil_) (.sc nil_) (topV (verAt M i)) noV hOf hRef (do_is rep y hy) (ref_is rep y hy) hRead (fun hne => ⟨rep.last hiN, ?_⟩) (fun _ => ?_) (fun e => absurd e he)
    · rw [hst] at hcon
      exact hcon
    · have := equal_is rep2
      rw [hst] at this
      exact this
end Go.Proofs.Ytfmemklkkmiicaa

/- DisksOther: the walked law is the statement. -/
namespace Go.Proofs.Ytfmemklkkmiicaa
open Go.ChangeShapes Go.WideShapes Go.ChangeAt Go.RowKit Go.Eng
theorem own : ownKnob Try.prog.godebug = none := by kernel_rfl
theorem laidOut : laidOutB Try.prog = true := by kernel_rfl
set_option maxRecDepth 100000 in
theorem lifted (os : Os) (started : os.Started) (H : Type) (enc : TypeId × Value → H) :
    ReturnsInHanded {} Try.checked os 6 .any (Rows.disksOtherSpec.pre6 enc Try.prog Try.f6 Rows.disksOtherRow.domain false) (Rows.disksOtherSpec.post enc Try.prog Try.f6 false true false false) := by
  refine returnsInHanded_of_change (C := Try.checked) own started (by kernel_rfl) Try.func6
    (ChangeSpec.witness6 (enc := enc) (C := Try.checked) false ⟨#[], #[(.agg #[.int .u8 0, .slice none 0 0]), (.agg #[.int .u8 0, .int .u8 0, .int .u8 0, .slice none 0 0]), (.int .u8 0)], []⟩ 8 (by kernel_rfl) (by kernel_rfl) (by kernel_rfl) (by kernel_rfl)) ?_
  intro W base args ds gs before hval0 hW hcnd _
  have hval : ∀ (j : Nat) t v, Try.f6.params[j]? = some t → args[j]? = some v → Value.okWide Try.prog W .any base t v := hval0
  have hW' := hW
  obtain ⟨p, q, hA0, hV, rfl, hfz, hnd⟩ := hW
  have hA : DataW.TrodAll enc Try.prog W 0 (fun _ => true) true Try.f6.params.toList args.toList ds p := hA0
  rw [Try.params6] at hA hval
  obtain ⟨v0, vs0, d0, ds0, p0, q0, hargs, rfl, rfl, h0, r0⟩ := trodAll_cons hA
  obtain ⟨v1, vs1, d1, ds1, p1, q1, rfl, rfl, rfl, h1, r1⟩ := trodAll_cons r0
  obtain ⟨v2, vs2, d2, ds2, p2, q2, rfl, rfl, rfl, h2, r2⟩ := trodAll_cons r1
  obtain ⟨rfl, rfl, rfl⟩ := trodAll_nil r2
  obtain rfl : args = #[v0, v1, v2] := Array.ext' (by simpa using hargs)
  obtain ⟨rfl, rfl⟩ := trodVars_none hV
  have k0 := h0
  have lt0 : ∀ x ∈ p0, x.block < W.heap.size := by obtain ⟨m, hm⟩ := k0; exact DataW.trod_lt m _ _ _ hm
  obtain ⟨fuel0, hfu0⟩ := h0
  obtain ⟨x0, e0, _, w0⟩ := opens_X H enc W _ _ fuel0 _ _ hfu0
  obtain ⟨cs0, hcs0, _⟩ := okWide_struct Try.underlying24 (hval 0 24 v0 rfl rfl)
  have rel0 : RelV (fun _ => none) W (fun _ => False) (.d (encX x0)) v0 := e0.relV ⟨fun _ => rfl, fun _ => ⟨cs0, hcs0⟩⟩
  have k1 := h1
  have lt1 : ∀ x ∈ p1, x.block < W.heap.size := by obtain ⟨m, hm⟩ := k1; exact DataW.trod_lt m _ _ _ hm
  obtain ⟨fuel1, hfu1⟩ := h1
  obtain ⟨x1, e1, _, w1⟩ := opens_Opr H enc W _ _ fuel1 _ _ hfu1
  obtain ⟨cs1, hcs1, _⟩ := okWide_struct Try.underlying39 (hval 1 39 v1 rfl rfl)
  have rel1 : RelV (fun _ => none) W (fun _ => False) (.d (encOpr x1)) v1 := e1.relV ⟨fun _ => rfl, fun _ => ⟨cs1, hcs1⟩⟩
  have k2 := h2
  have lt2 : ∀ x ∈ p2, x.block < W.heap.size := by obtain ⟨m, hm⟩ := k2; exact DataW.trod_lt m _ _ _ hm
  obtain ⟨x2, e2, _, w2⟩ : ∃ m : Int, Enc W (fun _ => False) (.sc (.int .u8 m)) v2.cells.toList ∧ v2.cells.toList.length = 1 ∧ (Lit.int .u8 m).wf = true := by obtain ⟨fuel, hfu⟩ := h2; exact opens_int (P := Try.prog) Try.underlying5 H enc W _ _ fuel _ _ hfu
  obtain ⟨m2, hcs2⟩ := okWide_int Try.underlying5 (hval 2 5 v2 rfl rfl)
  have rel2 : RelV (fun _ => none) W (fun _ => False) (.d (.sc (.int .u8 x2))) v2 := e2.relV ⟨fun ⟨c, hc⟩ => (by rw [hcs2] at hc; cases hc), fun hc => (by cases hc)⟩
  clear hA0 hval0
  refine (law_calls (other_is x0.1 x0.2 x1 x2 w0.1 w0.2 w1 (u8_of w2)) (W := W) (args := #[v0, v1, v2]) ⟨v0, [v1, v2], rfl, ⟨rel0, trivial⟩, ⟨v1, [v2], rfl, ⟨rel1, trivial⟩, ⟨v2, [], rfl, ⟨rel2, trivial⟩, rfl⟩⟩⟩).mono fun e W' ⟨he, bel⟩ => ?_
  subst he
  exact ⟨_, rfl, _, _, _, [], _, [], hW', trodAll_mk1 (shut_bool Try.underlying4 _), (trodAll_cons_mk (Below.trod laidOut (by kernel_rfl) (of_decide_eq_true (by kernel_rfl)) k0 bel lt0) (trodAll_cons_mk (Below.trod laidOut (by kernel_rfl) (of_decide_eq_true (by kernel_rfl)) k1 bel lt1) (trodAll_cons_mk (Below.trod laidOut (by kernel_rfl) (of_decide_eq_true (by kernel_rfl)) k2 bel lt2) trodAll_mk0))), rfl, bel.frame _, fun h => by cases h⟩

theorem over : Rows.disksOtherRow.holds Try.pinned (OpenSpec.ofChange Rows.disksOtherSpec) :=
  OpenClaim.holds_of_wide 6 Try.f6 rfl rfl rfl rfl rfl rfl rfl ⟨rfl, rfl, rfl, rfl, rfl⟩ rfl rfl rfl rfl rfl (by kernel_rfl) Try.func6 (by kernel_rfl)
    (of_decide_eq_true (by kernel_rfl)) (by unfold Func.isWrapper; first | (rw [if_pos (by decide +kernel)]; kernel_rfl) | (rw [if_neg (by decide +kernel)]; exact ⟨rfl, rfl⟩))
    (fun os started H enc _ => lifted os started H enc)
theorem disksOther_holds : Rows.DisksOtherSaid := over
end Go.Proofs.Ytfmemklkkmiicaa
