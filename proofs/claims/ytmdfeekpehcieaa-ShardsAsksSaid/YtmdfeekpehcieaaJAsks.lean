/- Questions about the blocks of any two shards are answered as the definition says. No condition. -/
import Derived.Test.YtmdfeekpehcieaaSD
import Derived.Test.YtmdfeekpehcieaaFC
import Derived.Test.YtmdfeekpehcieaaRows

set_option linter.unusedVariables false
set_option linter.unusedSimpArgs false

/- ShardsAsks: questions about blocks are answered as the definition says. -/
namespace Go.Proofs.Ytmdfeekpehcieaa
open Go.Eng
set_option maxHeartbeats 2000000
attribute [local irreducible] WC RegS RegD SeqQ BlkQ ScoQ RegK CutK Sat SatN FnIs LoopQ StepIs OpIs
def askI (l : List Frame) (block q : Int) : Int := if l.any (askP block q) = true then 1 else if decide (q = 2) = true then (if (l.any fun f => !f.used || evB f) = true then 1 else 0) else 0
theorem ask0 (l : List Frame) (block : Int) : ((l.any fun f => f.used && decide (f.block = block) && f.loading) != decide (askI l block 0 = 1)) = false := by
  have : askP block 0 = fun f => f.used && decide (f.block = block) && f.loading := by funext f; simp [askP]
  rw [askI, this]
  cases l.any fun f => f.used && decide (f.block = block) && f.loading <;> simp
theorem ask1 (l : List Frame) (block : Int) : ((l.any fun f => f.used && decide (f.block = block) && (f.loading || f.busy)) != decide (askI l block 1 = 1)) = false := by
  have : askP block 1 = fun f => f.used && decide (f.block = block) && (f.loading || f.busy) := by funext f; simp [askP]
  rw [askI, this]
  cases l.any fun f => f.used && decide (f.block = block) && (f.loading || f.busy) <;> simp
theorem ask2 (l : List Frame) (block : Int) : (((l.any fun f => !f.used || evB f) || (l.any fun f => f.used && decide (f.block = block) && true)) != decide (askI l block 2 = 1)) = false := by
  have : askP block 2 = fun f => f.used && decide (f.block = block) && true := by funext f; simp [askP]
  rw [askI, this]
  cases l.any fun f => f.used && decide (f.block = block) && true <;> cases l.any fun f => !f.used || evB f <;> simp
theorem shardsAsks_is (l m : List Frame) (h g block : Int) : FnIs Try.prog 10 [.d (encS l h), .d (encS m g), .d (i6 block)] [] (.bool true) [] := by
  refine fnIs_of tab_ok Try.func10 rfl rfl rfl ?_
  refine wc_seq ?_
  refine wc_region ?_
  refine reg_new (step_C tab_ok (fun K hk => hk)) rfl ?_
  refine reg_new (step_C tab_ok (fun K hk => hk)) rfl ?_
  refine reg_quiet rfl (step_C tab_ok (fun K hk => hk)) ?_
  refine reg_nil ?_
  refine seq_n ?_
  refine wc_seq ?_
  refine wc_seq_cut 19 (.bool (decide ((l.length : Int) > 70) || decide ((m.length : Int) > 70))) _ rfl ?_ ?_
  · refine reg_quiet rfl (step_C tab_ok (fun K hk => hk)) ?_
    refine reg_quiet rfl (load_box tab_ok rfl rfl ⟨_, rfl, rfl⟩ rfl) ?_
    refine reg_quiet rfl (len_arr tab_ok rfl rfl) ?_
    refine reg_quiet rfl (step_C tab_ok (fun K hk => hk)) ?_
    refine reg_quiet rfl (step_C tab_ok (fun K hk => hk)) ?_
    refine reg_split rfl rfl rfl (fun hb => ?_) (fun hb => ?_)
    refine reg_on rfl rfl (by assumption) ?_
    refine reg_quiet rfl (step_C tab_ok (fun K hk => hk)) ?_
    refine reg_on rfl rfl (by assumption) ?_
    refine reg_quiet rfl (load_box tab_ok rfl rfl ⟨_, rfl, rfl⟩ rfl) ?_
    refine reg_on rfl rfl (by assumption) ?_
    refine reg_quiet rfl (len_arr tab_ok rfl rfl) ?_
    refine reg_on rfl rfl (by assumption) ?_
    refine reg_quiet rfl (step_C tab_ok (fun K hk => hk)) ?_
    refine reg_quiet rfl (pick_F tab_ok rfl (by assumption) rfl) ?_
    rotate_left
    refine reg_skip rfl rfl (by assumption) rfl rfl ?_
    refine reg_skip rfl rfl (by assumption) rfl rfl ?_
    refine reg_skip rfl rfl (by assumption) rfl rfl ?_
    refine reg_skip rfl rfl (by assumption) rfl rfl ?_
    refine reg_quiet rfl (pick_T tab_ok rfl (by assumption) rfl) ?_
    rotate_left
    all_goals refine reg_cut 10 rfl rfl rfl rfl rfl rfl rfl rfl rfl (AVLe.of_eq ?_)
    all_goals (first | rfl | (simp_all; done) | (simp_all; omega))
  refine wc_cond rfl (fun hb => ?_) (fun hb => ?_)
  · refine wc_seq ?_
    refine wc_region ?_
    refine reg_quiet rfl (call_r shlives_is rfl rfl arg_nil (.inl rfl) (fun _ => rfl)) ?_
    refine reg_quiet rfl (step_C tab_ok (fun K hk => hk)) ?_
    refine reg_nil ?_
    refine seq_n ?_
    refine wc_ret ?_
    refine seq_r ?_
    exact ⟨trivial, [], .of rfl rfl rfl rfl rfl ⟨⟨_, rfl, AVLe.of_eq rfl⟩, rfl, trivial⟩ trivial⟩
  · have hl : l.length ≤ 1000000 := by rw [Bool.or_eq_false_iff] at hb; have := of_decide_eq_false hb.1; omega
    have hm : m.length ≤ 1000000 := by rw [Bool.or_eq_false_iff] at hb; have := of_decide_eq_false hb.2; omega
    have hF1 := found_eq (fun f => f.used && decide (f.block = block)) l
    have hM1 := at_eq (fun f => f.used && decide (f.block = block)) l
    have hA0 := ask0 l block
    have hA1 := ask1 l block
    have hA2 := ask2 l block
    have hS1 := one_eq2 (decide (h = g) && decide (l = m))
    have hS2 : (decide (h = h) && decide (l = l)) = true := by simp
    refine wc_skip ?_
    refine seq_n ?_
    refine wc_seq ?_
    refine wc_region ?_
    refine reg_quiet rfl (load_box tab_ok rfl rfl rfl rfl) ?_
    refine reg_quiet rfl (step_C tab_ok (fun K hk => hk)) ?_
    refine reg_quiet rfl (call_r (shfind_is l h block hl) rfl rfl (arg_e (arg_e arg_nil)) (.inl rfl) (fun _ => rfl)) ?_
    refine reg_quiet rfl (step_C tab_ok (fun K hk => hk)) ?_
    refine reg_quiet rfl (step_C tab_ok (fun K hk => hk)) ?_
    refine reg_quiet rfl (step_C tab_ok (fun K hk => hk)) ?_
    refine reg_quiet rfl (step_C tab_ok (fun K hk => hk)) ?_
    refine reg_quiet rfl (step_C tab_ok (fun K hk => hk)) ?_
    refine reg_nil ?_
    refine seq_n ?_
    refine wc_seq ?_
    refine wc_region ?_
    refine reg_quiet rfl (step_C tab_ok (fun K hk => hk)) ?_
    refine reg_quiet rfl (load_box tab_ok rfl rfl ⟨_, rfl, rfl⟩ rfl) ?_
    refine reg_quiet rfl (step_C tab_ok (fun K hk => hk)) ?_
    refine reg_quiet rfl (call_r (reffind_is l block hl) rfl rfl (arg_e (arg_e arg_nil)) (.inl rfl) (fun _ => rfl)) ?_
    refine reg_quiet rfl (step_C tab_ok (fun K hk => hk)) ?_
    refine reg_nil ?_
    refine seq_n ?_
    refine wc_seq ?_
    refine wc_seq ?_
    refine wc_region ?_
    refine reg_quiet rfl (step_C tab_ok (fun K hk => hk)) ?_
    refine reg_quiet rfl (step_C tab_ok (fun K hk => hk)) ?_
    refine reg_quiet rfl (step_C tab_ok (fun K hk => hk)) ?_
    refine reg_quiet rfl (step_C tab_ok (fun K hk => hk)) ?_
    refine reg_quiet rfl (step_C tab_ok (fun K hk => hk)) ?_
    refine reg_on rfl rfl (by assumption) ?_
    refine reg_quiet rfl (step_C tab_ok (fun K hk => hk)) ?_
    refine reg_on rfl rfl (by assumption) ?_
    refine reg_quiet rfl (step_C tab_ok (fun K hk => hk)) ?_
    refine reg_on rfl rfl (by assumption) ?_
    refine reg_quiet rfl (max_int rfl rfl rfl) ?_
    refine reg_on rfl rfl (by assumption) ?_
    refine reg_quiet rfl (step_C tab_ok (fun K hk => hk)) ?_
    refine reg_quiet rfl (pick_F tab_ok rfl (by assumption) rfl) ?_
    refine reg_nil ?_
    refine seq_n ?_
    refine wc_false rfl (by assumption) ?_
    refine wc_skip ?_
    refine seq_n ?_
    refine wc_seq ?_
    refine wc_seq ?_
    refine wc_draw (by kernel_rfl) ?_
    refine dreg_q [3] [64] rfl (load_box tab_ok rfl rfl rfl rfl) ?_
    refine dreg_q [2] [] rfl (step_C tab_ok (fun K hk => hk)) ?_
    refine dreg_q [41, 42] [] rfl (call_r (loading_is l h block hl) rfl rfl (arg_e (arg_e arg_nil)) (.inl rfl) (fun _ => rfl)) ?_
    refine dreg_q [3] [64] rfl (load_box tab_ok rfl rfl rfl rfl) ?_
    refine dreg_q [2] [] rfl (step_C tab_ok (fun K hk => hk)) ?_
    refine dreg_q [44, 45] [] rfl (call_r (asks_is l h block 0 hl) rfl rfl (arg_e (arg_e (arg_e arg_nil))) (.inl rfl) (fun _ => rfl)) ?_
    refine dreg_q [46] [] rfl (step_C tab_ok (fun K hk => hk)) ?_
    refine dreg_q [43, 47] [] rfl (step_C tab_ok (fun K hk => hk)) ?_
    refine dreg_q [48] [] rfl (step_C tab_ok (fun K hk => hk)) ?_
    refine dreg_onq [49, 3] [64] rfl rfl (by assumption) rfl (load_box tab_ok rfl rfl rfl rfl) ?_
    refine dreg_onq [49, 2] [] rfl rfl (by assumption) rfl (step_C tab_ok (fun K hk => hk)) ?_
    refine dreg_onq [49, 50, 51] [] rfl rfl (by assumption) rfl (call_r (held_is l h block hl) rfl rfl (arg_e (arg_e arg_nil)) (.inl rfl) (fun _ => rfl)) ?_
    refine dreg_onq [49, 3] [64] rfl rfl (by assumption) rfl (load_box tab_ok rfl rfl rfl rfl) ?_
    refine dreg_onq [49, 2] [] rfl rfl (by assumption) rfl (step_C tab_ok (fun K hk => hk)) ?_
    refine dreg_onq [49, 53, 54] [] rfl rfl (by assumption) rfl (call_r (asks_is l h block 1 hl) rfl rfl (arg_e (arg_e (arg_e arg_nil))) (.inl rfl) (fun _ => rfl)) ?_
    refine dreg_onq [49, 55] [] rfl rfl (by assumption) rfl (step_C tab_ok (fun K hk => hk)) ?_
    refine dreg_onq [49, 52, 56] [] rfl rfl (by assumption) rfl (step_C tab_ok (fun K hk => hk)) ?_
    refine dreg_q [49, 57] [] rfl (pick_F tab_ok rfl (by assumption) rfl) ?_
    refine dreg_q [58] [] rfl (step_C tab_ok (fun K hk => hk)) ?_
    refine dreg_onq [59, 3] [64] rfl rfl (by assumption) rfl (load_box tab_ok rfl rfl rfl rfl) ?_
    refine dreg_onq [59, 2] [] rfl rfl (by assumption) rfl (step_C tab_ok (fun K hk => hk)) ?_
    refine dreg_onq [59, 60, 61] [] rfl rfl (by assumption) rfl (call_r (room_is l h block hl) rfl rfl (arg_e (arg_e arg_nil)) (.inl rfl) (fun _ => rfl)) ?_
    refine dreg_onq [59, 3] [64] rfl rfl (by assumption) rfl (load_box tab_ok rfl rfl rfl rfl) ?_
    refine dreg_onq [59, 2] [] rfl rfl (by assumption) rfl (step_C tab_ok (fun K hk => hk)) ?_
    refine dreg_onq [59, 63, 64] [] rfl rfl (by assumption) rfl (call_r (asks_is l h block 2 hl) rfl rfl (arg_e (arg_e (arg_e arg_nil))) (.inl rfl) (fun _ => rfl)) ?_
    refine dreg_onq [59, 65] [] rfl rfl (by assumption) rfl (step_C tab_ok (fun K hk => hk)) ?_
    refine dreg_onq [59, 62, 66] [] rfl rfl (by assumption) rfl (step_C tab_ok (fun K hk => hk)) ?_
    refine dreg_q [59, 67] [] rfl (pick_F tab_ok rfl (by assumption) rfl) ?_
    refine dreg_end (by kernel_rfl) ?_
    refine seq_n ?_
    refine wc_false rfl (by assumption) ?_
    refine wc_skip ?_
    refine seq_n ?_
    refine wc_seq ?_
    refine wc_draw (by kernel_rfl) ?_
    refine dreg_q [3] [64] rfl (load_box tab_ok rfl rfl rfl rfl) ?_
    refine dreg_q [4] [72] rfl (load_box tab_ok rfl rfl rfl rfl) ?_
    refine dreg_q [69, 70] [] rfl (call_r (shsame_is l m h g hl hm) rfl rfl (arg_e (arg_e arg_nil)) (.inl rfl) (fun _ => rfl)) ?_
    refine dreg_q [3] [64] rfl (load_box tab_ok rfl rfl rfl rfl) ?_
    refine dreg_q [4] [72] rfl (load_box tab_ok rfl rfl rfl rfl) ?_
    refine dreg_q [72, 73] [] rfl (call_r (refshsame_is l m h g hl hm) rfl rfl (arg_e (arg_e arg_nil)) (.inl rfl) (fun _ => rfl)) ?_
    refine dreg_q [74] [] rfl (step_C tab_ok (fun K hk => hk)) ?_
    refine dreg_q [71, 75] [] rfl (step_C tab_ok (fun K hk => hk)) ?_
    refine dreg_q [76] [] rfl (step_C tab_ok (fun K hk => hk)) ?_
    refine dreg_onq [77, 3] [64] rfl rfl (by assumption) rfl (load_box tab_ok rfl rfl rfl rfl) ?_
    refine dreg_onq [77, 3] [64] rfl rfl (by assumption) rfl (load_box tab_ok rfl rfl rfl rfl) ?_
    refine dreg_onq [77, 78, 79] [] rfl rfl (by assumption) rfl (call_r (shsame_is l l h h hl hl) rfl rfl (arg_e (arg_e arg_nil)) (.inl rfl) (fun _ => rfl)) ?_
    refine dreg_q [77, 80] [] rfl (pick_T tab_ok rfl (by assumption) rfl) ?_
    refine dreg_q [81] [] rfl (step_C tab_ok (fun K hk => hk)) ?_
    refine dreg_onq [82] [] rfl rfl (by assumption) rfl (call_r shlives_is rfl rfl arg_nil (.inl rfl) (fun _ => rfl)) ?_
    refine dreg_q [82, 83] [] rfl (pick_T tab_ok rfl (by assumption) rfl) ?_
    refine dreg_q [84] [] rfl (step_C tab_ok (fun K hk => hk)) ?_
    refine dreg_end (by kernel_rfl) ?_
    refine seq_n ?_
    refine wc_ret ?_
    exact ⟨trivial, [], .of rfl rfl rfl rfl rfl ⟨⟨_, rfl, AVLe.of_eq rfl⟩, rfl, trivial⟩ trivial⟩
end Go.Proofs.Ytmdfeekpehcieaa

/- ShardsAsks: the walked law is the statement. -/
namespace Go.Proofs.Ytmdfeekpehcieaa
open Go.ChangeShapes Go.WideShapes Go.ChangeAt Go.RowKit Go.Eng
theorem own : ownKnob Try.prog.godebug = none := by kernel_rfl
theorem laidOut : laidOutB Try.prog = true := by kernel_rfl
set_option maxRecDepth 100000 in
theorem lifted (os : Os) (started : os.Started) (H : Type) (enc : TypeId × Value → H) :
    ReturnsInHanded {} Try.checked os 10 .any (Rows.shardsAsksSpec.pre6 enc Try.prog Try.f10 Rows.shardsAsksRow.domain false) (Rows.shardsAsksSpec.post enc Try.prog Try.f10 false true false false) := by
  refine returnsInHanded_of_change (C := Try.checked) own started (by kernel_rfl) Try.func10
    (ChangeSpec.witness6 (enc := enc) (C := Try.checked) false ⟨#[], #[(.agg #[.slice none 0 0, .int .i64 0]), (.agg #[.slice none 0 0, .int .i64 0]), (.int .i64 0)], []⟩ 8 (by kernel_rfl) (by kernel_rfl) (by kernel_rfl) (by kernel_rfl)) ?_
  intro W base args ds gs before hval0 hW hcnd _
  have hval : ∀ (j : Nat) t v, Try.f10.params[j]? = some t → args[j]? = some v → Value.okWide Try.prog W .any base t v := hval0
  have hW' := hW
  obtain ⟨p, q, hA0, hV, rfl, hfz, hnd⟩ := hW
  have hA : DataW.TrodAll enc Try.prog W 0 (fun _ => true) true Try.f10.params.toList args.toList ds p := hA0
  rw [Try.params10] at hA hval
  obtain ⟨v0, vs0, d0, ds0, p0, q0, hargs, rfl, rfl, h0, r0⟩ := trodAll_cons hA
  obtain ⟨v1, vs1, d1, ds1, p1, q1, rfl, rfl, rfl, h1, r1⟩ := trodAll_cons r0
  obtain ⟨v2, vs2, d2, ds2, p2, q2, rfl, rfl, rfl, h2, r2⟩ := trodAll_cons r1
  obtain ⟨rfl, rfl, rfl⟩ := trodAll_nil r2
  obtain rfl : args = #[v0, v1, v2] := Array.ext' (by simpa using hargs)
  obtain ⟨rfl, rfl⟩ := trodVars_none hV
  have k0 := h0
  have lt0 : ∀ x ∈ p0, x.block < W.heap.size := by obtain ⟨m, hm⟩ := k0; exact DataW.trod_lt m _ _ _ hm
  obtain ⟨fuel0, hfu0⟩ := h0
  obtain ⟨x0, e0, _, w0⟩ := opens_S H enc W _ _ fuel0 _ _ hfu0
  obtain ⟨cs0, hcs0, _⟩ := okWide_struct Try.underlying61 (hval 0 61 v0 rfl rfl)
  have rel0 : RelV (fun _ => none) W (fun _ => False) (.d (encSh x0)) v0 := e0.relV ⟨fun _ => rfl, fun _ => ⟨cs0, hcs0⟩⟩
  have k1 := h1
  have lt1 : ∀ x ∈ p1, x.block < W.heap.size := by obtain ⟨m, hm⟩ := k1; exact DataW.trod_lt m _ _ _ hm
  obtain ⟨fuel1, hfu1⟩ := h1
  obtain ⟨x1, e1, _, w1⟩ := opens_S H enc W _ _ fuel1 _ _ hfu1
  obtain ⟨cs1, hcs1, _⟩ := okWide_struct Try.underlying61 (hval 1 61 v1 rfl rfl)
  have rel1 : RelV (fun _ => none) W (fun _ => False) (.d (encSh x1)) v1 := e1.relV ⟨fun _ => rfl, fun _ => ⟨cs1, hcs1⟩⟩
  have k2 := h2
  have lt2 : ∀ x ∈ p2, x.block < W.heap.size := by obtain ⟨m, hm⟩ := k2; exact DataW.trod_lt m _ _ _ hm
  obtain ⟨x2, e2, _, w2⟩ : ∃ m : Int, Enc W (fun _ => False) (.sc (.int .i64 m)) v2.cells.toList ∧ v2.cells.toList.length = 1 ∧ (Lit.int .i64 m).wf = true := by obtain ⟨fuel, hfu⟩ := h2; exact opens_int (P := Try.prog) Try.underlying3 H enc W _ _ fuel _ _ hfu
  obtain ⟨m2, hcs2⟩ := okWide_int Try.underlying3 (hval 2 3 v2 rfl rfl)
  have rel2 : RelV (fun _ => none) W (fun _ => False) (.d (.sc (.int .i64 x2))) v2 := e2.relV ⟨fun ⟨c, hc⟩ => (by rw [hcs2] at hc; cases hc), fun hc => (by cases hc)⟩
  clear hA0 hval0
  refine (law_calls (shardsAsks_is x0.1 x1.1 x0.2 x1.2 x2) (W := W) (args := #[v0, v1, v2]) ⟨v0, [v1, v2], rfl, ⟨rel0, trivial⟩, ⟨v1, [v2], rfl, ⟨rel1, trivial⟩, ⟨v2, [], rfl, ⟨rel2, trivial⟩, rfl⟩⟩⟩).mono fun e W' ⟨he, bel⟩ => ?_
  subst he
  exact ⟨_, rfl, _, _, _, [], _, [], hW', trodAll_mk1 (shut_bool Try.underlying4 _), (trodAll_cons_mk (Below.trod laidOut (by kernel_rfl) (of_decide_eq_true (by kernel_rfl)) k0 bel lt0) (trodAll_cons_mk (Below.trod laidOut (by kernel_rfl) (of_decide_eq_true (by kernel_rfl)) k1 bel lt1) (trodAll_cons_mk (Below.trod laidOut (by kernel_rfl) (of_decide_eq_true (by kernel_rfl)) k2 bel lt2) trodAll_mk0))), rfl, bel.frame _, fun h => by cases h⟩

theorem over : Rows.shardsAsksRow.holds Try.pinned (OpenSpec.ofChange Rows.shardsAsksSpec) :=
  OpenClaim.holds_of_wide 10 Try.f10 rfl rfl rfl rfl rfl rfl rfl ⟨rfl, rfl, rfl, rfl, rfl⟩ rfl rfl rfl rfl rfl (by kernel_rfl) Try.func10 (by kernel_rfl)
    (of_decide_eq_true (by kernel_rfl)) (by unfold Func.isWrapper; first | (rw [if_pos (by decide +kernel)]; kernel_rfl) | (rw [if_neg (by decide +kernel)]; exact ⟨rfl, rfl⟩))
    (fun os started H enc _ => lifted os started H enc)
theorem shardsAsks_holds : Rows.ShardsAsksSaid := over
end Go.Proofs.Ytmdfeekpehcieaa
