/- The examples of the chapter, full shards, shards that are not valid, and all acts on all kinds of frames. A closed statement without conditions. -/
import Derived.Test.YtmdfeekpehcieaaEngC
import Derived.Test.YtmdfeekpehcieaaEngB
import Derived.Test.YtmdfeekpehcieaaSE
import Derived.Test.YtmdfeekpehcieaaSD
import Derived.Test.YtmdfeekpehcieaaFC
import Derived.Test.YtmdfeekpehcieaaRows

set_option linter.unusedVariables false
set_option linter.unusedSimpArgs false

/- Ways that part and meet again. -/
namespace Go.Eng
open Go.RowKit
section
variable {P : Program} {sz : Nat} {env : Env} {h : Upds} {n : Nat} {Q : Exit → St → Prop} {st : St}
universe u
def MidQ {α : Type u} (mk : α → St) (Inv : α → Prop) (Q : Exit → St → Prop) (e : Exit) (st : St) : Prop := match e with
  | .normal => ∃ a l, Inv a ∧ Le l st (mk a)
  | e => Q e st
theorem wc_mid {α : Type u} (mk : α → St) (Inv : α → Prop) {x y : Code} (hx : WC P sz x (MidQ mk Inv Q) env h n) (hy : ∀ a, Inv a → Sat P y Q (mk a)) : WC P sz (.seq x y) Q env h n := by
  refine wc_seq (Sat.mono ?_ hx)
  intro e st hq
  cases e with
  | normal => obtain ⟨a, l, h1, h2⟩ := hq; exact Sat.le l h2 (hy a h1)
  | _ => exact hq
variable {α : Type u} {mk : α → St} {Inv : α → Prop}
theorem mid_n (a : α) (l : Names) (h1 : Inv a) (h2 : Le l st (mk a)) : MidQ mk Inv Q .normal st := ⟨a, l, h1, h2⟩
theorem mid_r (h : Q .ret st) : MidQ mk Inv Q .ret st := h
theorem mid_x {i : Nat} (h : Q (.exit i) st) : MidQ mk Inv Q (.exit i) st := h
end
end Go.Eng

/- A value told otherwise; arrays that are written out. -/
namespace Go.Eng
open Go.RowKit
section
variable {P : Program} {T : Tab} {env : Env} {h : Upds} {n : Nat}
theorem StepIs.val_le {op : Op} {x y : D} {u : Upds} (hs : StepIs P op env h n (some (.d x)) u) (hle : DLe x y) (hag : x.isAgg = y.isAgg) : StepIs P op env h n (some (.d y)) u := by
  intro C G st σ w a o ho hA hd hst hn hbs next Q hnext
  refine hs C G st σ w a o ho hA hd hst hn hbs next Q fun z w' σ' G' g1 g2 g3 => hnext z w' σ' G' ?_ g2 g3
  refine ⟨?_, ?_, g1.rows, g1.rowsG, g1.inj, g1.high, g1.size, g1.below, g1.defers, g1.sz, g1.x0, g1.agree, g1.baseG, g1.bs, g1.rok⟩
  · intro i v hv
    cases hdst : o.dst with
    | none =>
      rw [hdst] at hv
      have := g1.env i v (by rw [hdst]; exact hv)
      rw [hdst] at this
      exact this
    | some d =>
      rw [hdst] at hv
      simp only [St.put, Option.getD_some, lk_cons] at hv
      split at hv
      · rename_i e
        subst e
        cases hv
        obtain ⟨q, hq1, hq2⟩ := g1.env d (.d x) (by rw [hdst]; simp [St.put, lk_cons])
        rw [hdst] at hq1 hq2
        refine ⟨q, hq1, ?_⟩
        unfold RelV at hq2 ⊢
        by_cases hy : y.isAgg = true
        · rw [if_pos (show (AV.d x).isAgg = true from hag.trans hy)] at hq2
          rw [if_pos (show (AV.d y).isAgg = true from hy)]
          obtain ⟨cs, hcs, he⟩ := hq2
          exact ⟨cs, hcs, hle _ _ _ he⟩
        · rw [if_neg (show ¬ (AV.d x).isAgg = true from fun e => hy (hag.symm.trans e))] at hq2
          rw [if_neg (show ¬ (AV.d y).isAgg = true from hy)]
          exact hle _ _ _ hq2
      · rename_i e
        have := g1.env i v (by rw [hdst]; simp only [St.put, Option.getD_some, lk_cons]; rw [if_neg e]; exact hv)
        rw [hdst] at this
        exact this
  · intro i v hv
    cases hdst : o.dst with
    | none => rw [hdst] at hv; exact g1.envG i v (by rw [hdst]; exact hv)
    | some d =>
      rw [hdst] at hv
      simp only [St.put, Option.getD_some, lk_cons] at hv
      split at hv
      · cases hv; trivial
      · rename_i e
        exact g1.envG i v (by rw [hdst]; simp only [St.put, Option.getD_some, lk_cons]; rw [if_neg e]; exact hv)
/-- A written-out chain of cells is an array. -/
theorem DLe.chain_vec {α : Type} {enc : α → D} {s : Nat} (hsz : ∀ (w : World) (X : Nat → Prop) (x : α) (cs : List Value), Enc w X (enc x) cs → cs.length = s) : ∀ (xs : List α), ∀ (d : D), d = (xs.foldr (fun x r => D.cons (enc x) r) .nil) → DLe d (.vec xs.length s enc xs)
  | [], d, hd => by
    subst hd
    intro w X cs h
    exact ⟨rfl, fun _ => [], fun i h => absurd h (Nat.not_lt_zero _), h⟩
  | x :: xs, d, hd => by
    subst hd
    rintro w X cs ⟨c1, c2, rfl, h1, h2⟩
    obtain ⟨-, f, hf, hc⟩ := DLe.chain_vec hsz xs _ rfl w X c2 h2
    refine ⟨rfl, fun i => match i with | 0 => c1 | j + 1 => f j, fun i hi => ?_, ?_⟩
    · cases i with
      | zero => exact ⟨h1, hsz w X x c1 h1⟩
      | succ j => exact hf j (by simpa using hi)
    · subst hc
      have h3 := cat_add (f := fun i => match i with | 0 => c1 | j + 1 => f j) 1 xs.length
      rw [show (x :: xs).length = 1 + xs.length by simp [Nat.add_comm], h3]
      congr 1
      exact cat_congr _ fun i _ => by rw [Nat.add_comm]
end
end Go.Eng

/- ShardsActs: what happens to a frame is what the definition says. -/
namespace Go.Proofs.Ytmdfeekpehcieaa
open Go.Eng
set_option maxHeartbeats 2000000
attribute [local irreducible] WC RegS RegD SeqQ BlkQ ScoQ RegK CutK Sat SatN FnIs LoopQ StepIs OpIs
abbrev nonceN (n2 : Int) : Nonce := ⟨n2 / 16, n2⟩
theorem actsLaw_bad_none (L : List Int) (hand : Int) (l : List Frame) (hd : Nat) (at_ n0 n1 n2 : Int) (b0 : 0 ≤ n0 ∧ n0 ≤ 255) (b2 : 0 ≤ n2 ∧ n2 ≤ 255) (hO : FnIs Try.prog 32 [.d (encSx L hand)] [] (ownS 64 l.length hd) [(64, .ds 39 40 false encFrame l)]) (hlen : l.length ≤ 1000000)
    (e : Int) (hQe : FnIs Try.prog 46 (actArgs l hd at_ (n0.tmod 6) (dataB n1) (nonceN n2)) [] (err2 e) []) (hPe : FnIs Try.prog 47 (actArgs l hd at_ (n0.tmod 6) (dataB n1) (nonceN n2)) [] (err2 e) []) (hBe : FnIs Try.prog 48 [.d (encS l hd)] [] (err3 11) []) (hCe : FnIs Try.prog 49 [.d (encS l hd)] [] (err3 11) []) :
    FnIs Try.prog 11 [.d (encSx L hand), .d (i6 at_), .d (encT [n0, n1, n2])] [] (.bool true) [] := by
  have s1 := same0 hd l
  have s2 := same1 hd l
  have s3 := refl_no e
  refine fnIs_of tab_ok Try.func11 rfl rfl rfl ?_
  refine wc_seq ?_
  refine wc_region ?_
  refine reg_new (step_C tab_ok (fun K hk => hk)) rfl ?_
  refine reg_new (step_C tab_ok (fun K hk => hk)) rfl ?_
  refine reg_quiet rfl (step_C tab_ok (fun K hk => hk)) ?_
  refine reg_nil ?_
  refine seq_n ?_
  refine wc_seq ?_
  refine wc_region ?_
  refine reg_quiet rfl (load_box tab_ok rfl rfl rfl rfl) ?_
  refine reg_new (call_new hO rfl rfl (arg_e arg_nil) (.inl rfl) rfl rfl) rfl ?_
  refine reg_new (step_C tab_ok (fun K hk => hk)) rfl ?_
  refine reg_store (store_row tab_ok rfl rfl rfl ⟨_, ⟨rfl, rfl, rfl⟩, rfl⟩ rfl) ?_
  refine reg_nil ?_
  refine seq_n ?_
  refine wc_seq ?_
  refine wc_draw (by kernel_rfl) ?_
  refine dreg_q [5] [72] rfl (step_C tab_ok (fun K hk => ⟨by omega, by omega, hk⟩)) ?_
  refine dreg_q [23] [72] rfl (load_box (v := .int .u8 n0) tab_ok rfl rfl ⟨.sc (.int .u8 n0), ⟨rfl, n0, rfl, rfl⟩, rfl⟩ rfl) ?_
  refine dreg_q [24] [] rfl (conv_int tab_ok rfl rfl rfl (wrap_i64 (by omega) (by omega))) ?_
  refine dreg_q [25] [] rfl (rem_int tab_ok rfl rfl (by omega)) ?_
  refine dreg_q [5] [72] rfl (step_C tab_ok (fun K hk => ⟨by omega, by omega, hk⟩)) ?_
  refine dreg_q [27] [72] rfl (load_box (v := .int .u8 n1) tab_ok rfl rfl ⟨.sc (.int .u8 n1), ⟨rfl, n1, rfl, rfl⟩, rfl⟩ rfl) ?_
  refine dreg_q [28] [] rfl (call_r (data_is n1) rfl rfl (arg_e arg_nil) (.inl rfl) (fun _ => rfl)) ?_
  refine dreg_q [5] [72] rfl (step_C tab_ok (fun K hk => ⟨by omega, by omega, hk⟩)) ?_
  refine dreg_q [30] [72] rfl (load_box (v := .int .u8 n2) tab_ok rfl rfl ⟨.sc (.int .u8 n2), ⟨rfl, n2, rfl, rfl⟩, rfl⟩ rfl) ?_
  refine dreg_q [31] [] rfl (quo_int tab_ok rfl rfl (by omega) (IntWalk.u8_quo n2 16 ⟨by omega, by omega, by omega⟩)) ?_
  refine dreg_q [32] [] rfl (conv_int tab_ok rfl rfl rfl (IntWalk.u32_in (n2 / 16) ⟨by omega, by omega⟩)) ?_
  refine dreg_q [5] [72] rfl (step_C tab_ok (fun K hk => ⟨by omega, by omega, hk⟩)) ?_
  refine dreg_q [34] [72] rfl (load_box (v := .int .u8 n2) tab_ok rfl rfl ⟨.sc (.int .u8 n2), ⟨rfl, n2, rfl, rfl⟩, rfl⟩ rfl) ?_
  refine dreg_q [35] [] rfl (conv_int tab_ok rfl rfl rfl (IntWalk.u64_in n2 ⟨by omega, by omega⟩)) ?_
  refine dreg_q [33, 36] [] rfl (build_struct tab_ok rfl rfl rfl rfl) ?_
  refine dreg_w [] [] rfl (step_C tab_ok (fun K hk => hk)) ?_
  refine dreg_w [] [] rfl (step_C tab_ok (fun K hk => hk)) ?_
  refine dreg_q [26] [] rfl (step_C tab_ok (fun K hk => hk)) ?_
  refine dreg_s [9, 29] [240] (store_row tab_ok rfl rfl rfl ⟨_, ⟨rfl, rfl, rfl⟩, rfl⟩ rfl) ?_
  refine dreg_s [10, 37] [248] (store_row tab_ok rfl rfl rfl ⟨_, ⟨rfl, rfl, rfl⟩, rfl⟩ rfl) ?_
  refine dreg_end (by kernel_rfl) ?_
  refine seq_n ?_
  refine wc_seq ?_
  refine wc_region ?_
  refine reg_quiet rfl (load_box tab_ok rfl rfl rfl rfl) ?_
  refine reg_quiet rfl (step_C tab_ok (fun K hk => hk)) ?_
  refine reg_quiet rfl (step_C tab_ok (fun K hk => hk)) ?_
  refine reg_quiet rfl (load_box tab_ok rfl rfl rfl rfl) ?_
  refine reg_quiet rfl (load_box tab_ok rfl rfl rfl rfl) ?_
  refine reg_quiet rfl (call_r hQe rfl rfl (arg_S rfl rfl (arg_e (arg_e (arg_e (arg_e arg_nil))))) (.inr (err2_plain _)) (fun _ => rfl)) ?_
  refine reg_quiet rfl (step_C tab_ok (fun K hk => hk)) ?_
  refine reg_quiet rfl (step_C tab_ok (fun K hk => hk)) ?_
  refine reg_quiet rfl (step_C tab_ok (fun K hk => hk)) ?_
  refine reg_new (step_C tab_ok (fun K hk => hk)) rfl ?_
  refine reg_store (store_row tab_ok rfl rfl rfl ⟨_, ⟨rfl, rfl, rfl⟩, rfl⟩ rfl) ?_
  refine reg_quiet rfl (step_C tab_ok (fun K hk => hk)) ?_
  refine reg_nil ?_
  refine seq_n ?_
  refine wc_seq ?_
  refine wc_region ?_
  refine reg_quiet rfl (load_box tab_ok rfl rfl rfl rfl) ?_
  refine reg_quiet rfl (step_C tab_ok (fun K hk => hk)) ?_
  refine reg_quiet rfl (step_C tab_ok (fun K hk => hk)) ?_
  refine reg_quiet rfl (load_box tab_ok rfl rfl rfl rfl) ?_
  refine reg_quiet rfl (load_box tab_ok rfl rfl rfl rfl) ?_
  refine reg_quiet rfl (call_r hPe rfl rfl (arg_S rfl rfl (arg_e (arg_e (arg_e (arg_e arg_nil))))) (.inr (err2_plain _)) (fun _ => rfl)) ?_
  refine reg_quiet rfl (step_C tab_ok (fun K hk => hk)) ?_
  refine reg_quiet rfl (step_C tab_ok (fun K hk => hk)) ?_
  refine reg_quiet rfl (step_C tab_ok (fun K hk => hk)) ?_
  refine reg_new (step_C tab_ok (fun K hk => hk)) rfl ?_
  refine reg_store (store_row tab_ok rfl rfl rfl ⟨_, ⟨rfl, rfl, rfl⟩, rfl⟩ rfl) ?_
  refine reg_quiet rfl (step_C tab_ok (fun K hk => hk)) ?_
  refine reg_nil ?_
  refine seq_n ?_
  refine wc_seq ?_
  refine wc_seq ?_
  refine wc_draw (by kernel_rfl) ?_
  refine dreg_q [14] [] rfl (step_C tab_ok (fun K hk => hk)) ?_
  refine dreg_q [12] [] rfl (step_C tab_ok (fun K hk => hk)) ?_
  refine dreg_q [56, 57] [] rfl (step_C tab_ok (fun K hk => hk)) ?_
  refine dreg_q [58] [] rfl (step_C tab_ok (fun K hk => hk)) ?_
  refine dreg_onq [59, 13] [448] rfl rfl (by assumption) rfl (load_box tab_ok rfl rfl rfl rfl) ?_
  refine dreg_onq [59, 11] [352] rfl rfl (by assumption) rfl (load_box tab_ok rfl rfl rfl rfl) ?_
  refine dreg_onq [59, 60, 61] [] rfl rfl (by assumption) rfl (call_r lawsame_zero rfl rfl (arg_e (arg_e arg_nil)) (.inl rfl) (fun _ => rfl)) ?_
  refine dreg_onq [59, 62] [] rfl rfl (by assumption) rfl (step_C tab_ok (fun K hk => hk)) ?_
  refine dreg_q [59, 63] [] rfl (pick_F tab_ok rfl (by assumption) rfl) ?_
  refine dreg_q [64] [] rfl (step_C tab_ok (fun K hk => hk)) ?_
  refine dreg_onq [65, 7] [104, 96] rfl rfl rfl rfl (load_box tab_ok rfl rfl rfl rfl) ?_
  refine dreg_onq [65, 3] [64] rfl rfl rfl rfl (load_box tab_ok rfl rfl rfl rfl) ?_
  refine dreg_onw [65, 67] [] rfl rfl rfl rfl (call_new hO rfl rfl (arg_e arg_nil) (.inl rfl) rfl rfl) ?_
  refine dreg_onq [65, 66, 68] [96, 568] rfl rfl rfl rfl (call_r (refshsame_is l l hd hd hlen hlen) rfl rfl (arg_S rfl rfl (arg_S rfl rfl arg_nil)) (.inr (int_plain _ _)) (fun _ => rfl)) ?_
  refine dreg_onq [65, 69] [] rfl rfl rfl rfl (step_C tab_ok (fun K hk => hk)) ?_
  refine dreg_q [65, 70] [] rfl (pick_F tab_ok rfl rfl rfl) ?_
  refine dreg_end (by kernel_rfl) ?_
  refine seq_n ?_
  refine wc_false rfl (by assumption) ?_
  refine wc_skip ?_
  refine seq_n ?_
  refine wc_seq ?_
  refine wc_region ?_
  refine reg_quiet rfl (load_box tab_ok rfl rfl rfl rfl) ?_
  refine reg_quiet rfl (call_r hBe rfl rfl (arg_S rfl rfl arg_nil) (.inr (err3_plain _)) (fun _ => rfl)) ?_
  refine reg_quiet rfl (step_C tab_ok (fun K hk => hk)) ?_
  refine reg_quiet rfl (step_C tab_ok (fun K hk => hk)) ?_
  refine reg_quiet rfl (step_C tab_ok (fun K hk => hk)) ?_
  refine reg_quiet rfl (step_C tab_ok (fun K hk => hk)) ?_
  refine reg_new (step_C tab_ok (fun K hk => hk)) rfl ?_
  refine reg_store (store_row tab_ok rfl rfl rfl ⟨_, ⟨rfl, rfl, rfl⟩, rfl⟩ rfl) ?_
  refine reg_quiet rfl (step_C tab_ok (fun K hk => hk)) ?_
  refine reg_quiet rfl (step_C tab_ok (fun K hk => hk)) ?_
  refine reg_nil ?_
  refine seq_n ?_
  refine wc_seq ?_
  refine wc_region ?_
  refine reg_quiet rfl (load_box tab_ok rfl rfl rfl rfl) ?_
  refine reg_quiet rfl (call_r hCe rfl rfl (arg_S rfl rfl arg_nil) (.inr (err3_plain _)) (fun _ => rfl)) ?_
  refine reg_quiet rfl (step_C tab_ok (fun K hk => hk)) ?_
  refine reg_quiet rfl (step_C tab_ok (fun K hk => hk)) ?_
  refine reg_quiet rfl (step_C tab_ok (fun K hk => hk)) ?_
  refine reg_quiet rfl (step_C tab_ok (fun K hk => hk)) ?_
  refine reg_new (step_C tab_ok (fun K hk => hk)) rfl ?_
  refine reg_store (store_row tab_ok rfl rfl rfl ⟨_, ⟨rfl, rfl, rfl⟩, rfl⟩ rfl) ?_
  refine reg_quiet rfl (step_C tab_ok (fun K hk => hk)) ?_
  refine reg_quiet rfl (step_C tab_ok (fun K hk => hk)) ?_
  refine reg_nil ?_
  refine seq_n ?_
  refine wc_seq ?_
  refine wc_draw (by kernel_rfl) ?_
  refine dreg_q [17] [] rfl (step_C tab_ok (fun K hk => hk)) ?_
  refine dreg_q [20] [] rfl (step_C tab_ok (fun K hk => hk)) ?_
  refine dreg_q [84, 85] [] rfl (step_C tab_ok (fun K hk => hk)) ?_
  refine dreg_q [86] [] rfl (step_C tab_ok (fun K hk => hk)) ?_
  refine dreg_onq [87, 16] [] rfl rfl rfl rfl (step_C tab_ok (fun K hk => hk)) ?_
  refine dreg_onq [87, 19] [] rfl rfl rfl rfl (step_C tab_ok (fun K hk => hk)) ?_
  refine dreg_onq [87, 88, 89] [] rfl rfl rfl rfl (step_C tab_ok (fun K hk => hk)) ?_
  refine dreg_q [87, 90] [] rfl (pick_T tab_ok rfl rfl rfl) ?_
  refine dreg_q [91] [] rfl (step_C tab_ok (fun K hk => hk)) ?_
  refine dreg_onq [92, 15] [648] rfl rfl rfl rfl (load_box tab_ok rfl rfl rfl rfl) ?_
  refine dreg_onq [92, 18] [728] rfl rfl rfl rfl (load_box tab_ok rfl rfl rfl rfl) ?_
  refine dreg_onq [92, 93, 94] [] rfl rfl rfl rfl (call_r lawsame_zero rfl rfl (arg_e (arg_e arg_nil)) (.inl rfl) (fun _ => rfl)) ?_
  refine dreg_onq [92, 95] [] rfl rfl rfl rfl (step_C tab_ok (fun K hk => hk)) ?_
  refine dreg_q [92, 96] [] rfl (pick_T tab_ok rfl rfl rfl) ?_
  refine dreg_q [97] [] rfl (step_C tab_ok (fun K hk => hk)) ?_
  refine dreg_onq [98, 7] [104, 96] rfl rfl rfl rfl (load_box tab_ok rfl rfl rfl rfl) ?_
  refine dreg_onq [98, 3] [64] rfl rfl rfl rfl (load_box tab_ok rfl rfl rfl rfl) ?_
  refine dreg_onw [98, 100] [] rfl rfl rfl rfl (call_new hO rfl rfl (arg_e arg_nil) (.inl rfl) rfl rfl) ?_
  refine dreg_onq [98, 99, 101] [96, 896] rfl rfl rfl rfl (call_r (refshsame_is l l hd hd hlen hlen) rfl rfl (arg_S rfl rfl (arg_S rfl rfl arg_nil)) (.inr (int_plain _ _)) (fun _ => rfl)) ?_
  refine dreg_onq [98, 102] [] rfl rfl rfl rfl (step_C tab_ok (fun K hk => hk)) ?_
  refine dreg_q [98, 103] [] rfl (pick_T tab_ok rfl rfl rfl) ?_
  refine dreg_q [104] [] rfl (step_C tab_ok (fun K hk => hk)) ?_
  refine dreg_onq [105] [] rfl rfl (by assumption) rfl (call_r shlives_is rfl rfl arg_nil (.inl rfl) (fun _ => rfl)) ?_
  refine dreg_q [105, 106] [] rfl (pick_T tab_ok rfl (by assumption) rfl) ?_
  refine dreg_q [107] [] rfl (step_C tab_ok (fun K hk => hk)) ?_
  refine dreg_end (by kernel_rfl) ?_
  refine seq_n ?_
  refine wc_ret ?_
  exact ⟨trivial, [], .of rfl rfl rfl rfl rfl ⟨⟨_, rfl, AVLe.of_eq rfl⟩, rfl, trivial⟩ trivial⟩
theorem actsLaw_bad_ok (L : List Int) (hand : Int) (l : List Frame) (hd : Nat) (at_ n0 n1 n2 : Int) (b0 : 0 ≤ n0 ∧ n0 ≤ 255) (b2 : 0 ≤ n2 ∧ n2 ≤ 255) (hO : FnIs Try.prog 32 [.d (encSx L hand)] [] (ownS 64 l.length hd) [(64, .ds 39 40 false encFrame l)]) (hlen : l.length ≤ 1000000)
    (e : Int) (hQe : FnIs Try.prog 46 (actArgs l hd at_ (n0.tmod 6) (dataB n1) (nonceN n2)) [] (err2 e) []) (hPe : FnIs Try.prog 47 (actArgs l hd at_ (n0.tmod 6) (dataB n1) (nonceN n2)) [] (err2 e) []) (U : List Frame) (hlU : U.length ≤ 1000000) (i : Int) (hB : FnIs Try.prog 48 [.d (encS l hd)] [] (tup3 (ownS 64 U.length hd) (.int .i64 i) (.int .i64 0)) [(64, .ds 39 40 true encFrame U)]) (hC : FnIs Try.prog 49 [.d (encS l hd)] [] (tup3 (ownS 64 U.length hd) (.int .i64 i) (.int .i64 0)) [(64, .ds 39 40 false encFrame U)]) :
    FnIs Try.prog 11 [.d (encSx L hand), .d (i6 at_), .d (encT [n0, n1, n2])] [] (.bool true) [] := by
  have s1 := same0 hd l
  have s2 := same1 hd l
  have s3 := refl_no e
  have s4 := same1 hd U
  have s5 : decide (i = i) = true := decide_eq_true rfl
  refine fnIs_of tab_ok Try.func11 rfl rfl rfl ?_
  refine wc_seq ?_
  refine wc_region ?_
  refine reg_new (step_C tab_ok (fun K hk => hk)) rfl ?_
  refine reg_new (step_C tab_ok (fun K hk => hk)) rfl ?_
  refine reg_quiet rfl (step_C tab_ok (fun K hk => hk)) ?_
  refine reg_nil ?_
  refine seq_n ?_
  refine wc_seq ?_
  refine wc_region ?_
  refine reg_quiet rfl (load_box tab_ok rfl rfl rfl rfl) ?_
  refine reg_new (call_new hO rfl rfl (arg_e arg_nil) (.inl rfl) rfl rfl) rfl ?_
  refine reg_new (step_C tab_ok (fun K hk => hk)) rfl ?_
  refine reg_store (store_row tab_ok rfl rfl rfl ⟨_, ⟨rfl, rfl, rfl⟩, rfl⟩ rfl) ?_
  refine reg_nil ?_
  refine seq_n ?_
  refine wc_seq ?_
  refine wc_draw (by kernel_rfl) ?_
  refine dreg_q [5] [72] rfl (step_C tab_ok (fun K hk => ⟨by omega, by omega, hk⟩)) ?_
  refine dreg_q [23] [72] rfl (load_box (v := .int .u8 n0) tab_ok rfl rfl ⟨.sc (.int .u8 n0), ⟨rfl, n0, rfl, rfl⟩, rfl⟩ rfl) ?_
  refine dreg_q [24] [] rfl (conv_int tab_ok rfl rfl rfl (wrap_i64 (by omega) (by omega))) ?_
  refine dreg_q [25] [] rfl (rem_int tab_ok rfl rfl (by omega)) ?_
  refine dreg_q [5] [72] rfl (step_C tab_ok (fun K hk => ⟨by omega, by omega, hk⟩)) ?_
  refine dreg_q [27] [72] rfl (load_box (v := .int .u8 n1) tab_ok rfl rfl ⟨.sc (.int .u8 n1), ⟨rfl, n1, rfl, rfl⟩, rfl⟩ rfl) ?_
  refine dreg_q [28] [] rfl (call_r (data_is n1) rfl rfl (arg_e arg_nil) (.inl rfl) (fun _ => rfl)) ?_
  refine dreg_q [5] [72] rfl (step_C tab_ok (fun K hk => ⟨by omega, by omega, hk⟩)) ?_
  refine dreg_q [30] [72] rfl (load_box (v := .int .u8 n2) tab_ok rfl rfl ⟨.sc (.int .u8 n2), ⟨rfl, n2, rfl, rfl⟩, rfl⟩ rfl) ?_
  refine dreg_q [31] [] rfl (quo_int tab_ok rfl rfl (by omega) (IntWalk.u8_quo n2 16 ⟨by omega, by omega, by omega⟩)) ?_
  refine dreg_q [32] [] rfl (conv_int tab_ok rfl rfl rfl (IntWalk.u32_in (n2 / 16) ⟨by omega, by omega⟩)) ?_
  refine dreg_q [5] [72] rfl (step_C tab_ok (fun K hk => ⟨by omega, by omega, hk⟩)) ?_
  refine dreg_q [34] [72] rfl (load_box (v := .int .u8 n2) tab_ok rfl rfl ⟨.sc (.int .u8 n2), ⟨rfl, n2, rfl, rfl⟩, rfl⟩ rfl) ?_
  refine dreg_q [35] [] rfl (conv_int tab_ok rfl rfl rfl (IntWalk.u64_in n2 ⟨by omega, by omega⟩)) ?_
  refine dreg_q [33, 36] [] rfl (build_struct tab_ok rfl rfl rfl rfl) ?_
  refine dreg_w [] [] rfl (step_C tab_ok (fun K hk => hk)) ?_
  refine dreg_w [] [] rfl (step_C tab_ok (fun K hk => hk)) ?_
  refine dreg_q [26] [] rfl (step_C tab_ok (fun K hk => hk)) ?_
  refine dreg_s [9, 29] [240] (store_row tab_ok rfl rfl rfl ⟨_, ⟨rfl, rfl, rfl⟩, rfl⟩ rfl) ?_
  refine dreg_s [10, 37] [248] (store_row tab_ok rfl rfl rfl ⟨_, ⟨rfl, rfl, rfl⟩, rfl⟩ rfl) ?_
  refine dreg_end (by kernel_rfl) ?_
  refine seq_n ?_
  refine wc_seq ?_
  refine wc_region ?_
  refine reg_quiet rfl (load_box tab_ok rfl rfl rfl rfl) ?_
  refine reg_quiet rfl (step_C tab_ok (fun K hk => hk)) ?_
  refine reg_quiet rfl (step_C tab_ok (fun K hk => hk)) ?_
  refine reg_quiet rfl (load_box tab_ok rfl rfl rfl rfl) ?_
  refine reg_quiet rfl (load_box tab_ok rfl rfl rfl rfl) ?_
  refine reg_quiet rfl (call_r hQe rfl rfl (arg_S rfl rfl (arg_e (arg_e (arg_e (arg_e arg_nil))))) (.inr (err2_plain _)) (fun _ => rfl)) ?_
  refine reg_quiet rfl (step_C tab_ok (fun K hk => hk)) ?_
  refine reg_quiet rfl (step_C tab_ok (fun K hk => hk)) ?_
  refine reg_quiet rfl (step_C tab_ok (fun K hk => hk)) ?_
  refine reg_new (step_C tab_ok (fun K hk => hk)) rfl ?_
  refine reg_store (store_row tab_ok rfl rfl rfl ⟨_, ⟨rfl, rfl, rfl⟩, rfl⟩ rfl) ?_
  refine reg_quiet rfl (step_C tab_ok (fun K hk => hk)) ?_
  refine reg_nil ?_
  refine seq_n ?_
  refine wc_seq ?_
  refine wc_region ?_
  refine reg_quiet rfl (load_box tab_ok rfl rfl rfl rfl) ?_
  refine reg_quiet rfl (step_C tab_ok (fun K hk => hk)) ?_
  refine reg_quiet rfl (step_C tab_ok (fun K hk => hk)) ?_
  refine reg_quiet rfl (load_box tab_ok rfl rfl rfl rfl) ?_
  refine reg_quiet rfl (load_box tab_ok rfl rfl rfl rfl) ?_
  refine reg_quiet rfl (call_r hPe rfl rfl (arg_S rfl rfl (arg_e (arg_e (arg_e (arg_e arg_nil))))) (.inr (err2_plain _)) (fun _ => rfl)) ?_
  refine reg_quiet rfl (step_C tab_ok (fun K hk => hk)) ?_
  refine reg_quiet rfl (step_C tab_ok (fun K hk => hk)) ?_
  refine reg_quiet rfl (step_C tab_ok (fun K hk => hk)) ?_
  refine reg_new (step_C tab_ok (fun K hk => hk)) rfl ?_
  refine reg_store (store_row tab_ok rfl rfl rfl ⟨_, ⟨rfl, rfl, rfl⟩, rfl⟩ rfl) ?_
  refine reg_quiet rfl (step_C tab_ok (fun K hk => hk)) ?_
  refine reg_nil ?_
  refine seq_n ?_
  refine wc_seq ?_
  refine wc_seq ?_
  refine wc_draw (by kernel_rfl) ?_
  refine dreg_q [14] [] rfl (step_C tab_ok (fun K hk => hk)) ?_
  refine dreg_q [12] [] rfl (step_C tab_ok (fun K hk => hk)) ?_
  refine dreg_q [56, 57] [] rfl (step_C tab_ok (fun K hk => hk)) ?_
  refine dreg_q [58] [] rfl (step_C tab_ok (fun K hk => hk)) ?_
  refine dreg_onq [59, 13] [448] rfl rfl (by assumption) rfl (load_box tab_ok rfl rfl rfl rfl) ?_
  refine dreg_onq [59, 11] [352] rfl rfl (by assumption) rfl (load_box tab_ok rfl rfl rfl rfl) ?_
  refine dreg_onq [59, 60, 61] [] rfl rfl (by assumption) rfl (call_r lawsame_zero rfl rfl (arg_e (arg_e arg_nil)) (.inl rfl) (fun _ => rfl)) ?_
  refine dreg_onq [59, 62] [] rfl rfl (by assumption) rfl (step_C tab_ok (fun K hk => hk)) ?_
  refine dreg_q [59, 63] [] rfl (pick_F tab_ok rfl (by assumption) rfl) ?_
  refine dreg_q [64] [] rfl (step_C tab_ok (fun K hk => hk)) ?_
  refine dreg_onq [65, 7] [104, 96] rfl rfl rfl rfl (load_box tab_ok rfl rfl rfl rfl) ?_
  refine dreg_onq [65, 3] [64] rfl rfl rfl rfl (load_box tab_ok rfl rfl rfl rfl) ?_
  refine dreg_onw [65, 67] [] rfl rfl rfl rfl (call_new hO rfl rfl (arg_e arg_nil) (.inl rfl) rfl rfl) ?_
  refine dreg_onq [65, 66, 68] [96, 568] rfl rfl rfl rfl (call_r (refshsame_is l l hd hd hlen hlen) rfl rfl (arg_S rfl rfl (arg_S rfl rfl arg_nil)) (.inr (int_plain _ _)) (fun _ => rfl)) ?_
  refine dreg_onq [65, 69] [] rfl rfl rfl rfl (step_C tab_ok (fun K hk => hk)) ?_
  refine dreg_q [65, 70] [] rfl (pick_F tab_ok rfl rfl rfl) ?_
  refine dreg_end (by kernel_rfl) ?_
  refine seq_n ?_
  refine wc_false rfl (by assumption) ?_
  refine wc_skip ?_
  refine seq_n ?_
  refine wc_seq ?_
  refine wc_region ?_
  refine reg_quiet rfl (load_box tab_ok rfl rfl rfl rfl) ?_
  refine reg_new (call_new hB rfl rfl (arg_S rfl rfl arg_nil) (.inr (ok3_plain _ _ _ _ _ _)) rfl rfl) rfl ?_
  refine reg_quiet rfl (step_C tab_ok (fun K hk => hk)) ?_
  refine reg_quiet rfl (step_C tab_ok (fun K hk => hk)) ?_
  refine reg_quiet rfl (step_C tab_ok (fun K hk => hk)) ?_
  refine reg_quiet rfl (step_C tab_ok (fun K hk => hk)) ?_
  refine reg_new (step_C tab_ok (fun K hk => hk)) rfl ?_
  refine reg_store (store_row tab_ok rfl rfl rfl ⟨_, ⟨rfl, rfl, rfl⟩, rfl⟩ rfl) ?_
  refine reg_quiet rfl (step_C tab_ok (fun K hk => hk)) ?_
  refine reg_quiet rfl (step_C tab_ok (fun K hk => hk)) ?_
  refine reg_nil ?_
  refine seq_n ?_
  refine wc_seq ?_
  refine wc_region ?_
  refine reg_quiet rfl (load_box tab_ok rfl rfl rfl rfl) ?_
  refine reg_new (call_new hC rfl rfl (arg_S rfl rfl arg_nil) (.inr (ok3_plain _ _ _ _ _ _)) rfl rfl) rfl ?_
  refine reg_quiet rfl (step_C tab_ok (fun K hk => hk)) ?_
  refine reg_quiet rfl (step_C tab_ok (fun K hk => hk)) ?_
  refine reg_quiet rfl (step_C tab_ok (fun K hk => hk)) ?_
  refine reg_quiet rfl (step_C tab_ok (fun K hk => hk)) ?_
  refine reg_new (step_C tab_ok (fun K hk => hk)) rfl ?_
  refine reg_store (store_row tab_ok rfl rfl rfl ⟨_, ⟨rfl, rfl, rfl⟩, rfl⟩ rfl) ?_
  refine reg_quiet rfl (step_C tab_ok (fun K hk => hk)) ?_
  refine reg_quiet rfl (step_C tab_ok (fun K hk => hk)) ?_
  refine reg_nil ?_
  refine seq_n ?_
  refine wc_seq ?_
  refine wc_draw (by kernel_rfl) ?_
  refine dreg_q [17] [] rfl (step_C tab_ok (fun K hk => hk)) ?_
  refine dreg_q [20] [] rfl (step_C tab_ok (fun K hk => hk)) ?_
  refine dreg_q [84, 85] [] rfl (step_C tab_ok (fun K hk => hk)) ?_
  refine dreg_q [86] [] rfl (step_C tab_ok (fun K hk => hk)) ?_
  refine dreg_onq [87, 16] [] rfl rfl rfl rfl (step_C tab_ok (fun K hk => hk)) ?_
  refine dreg_onq [87, 19] [] rfl rfl rfl rfl (step_C tab_ok (fun K hk => hk)) ?_
  refine dreg_onq [87, 88, 89] [] rfl rfl rfl rfl (step_C tab_ok (fun K hk => hk)) ?_
  refine dreg_q [87, 90] [] rfl (pick_T tab_ok rfl rfl rfl) ?_
  refine dreg_q [91] [] rfl (step_C tab_ok (fun K hk => hk)) ?_
  refine dreg_onq [92, 15] [648, 608] rfl rfl (by assumption) rfl (load_box tab_ok rfl rfl rfl rfl) ?_
  refine dreg_onq [92, 18] [728, 688] rfl rfl (by assumption) rfl (load_box tab_ok rfl rfl rfl rfl) ?_
  refine dreg_on rfl rfl (by assumption) rfl (call_h [(0, some 608), (1, some 688)] (lawsame_is U U hd hd false hlU hlU) rfl rfl rfl (arg_giveS rfl rfl (arg_giveS rfl rfl arg_nil)) ⟨⟨rfl, rfl, _, _, rfl, rfl, .refl _⟩, ⟨rfl, rfl, _, _, rfl, rfl, .refl _⟩, trivial⟩ rfl rfl (.inl rfl) rfl rfl) rfl rfl ?_
  refine dreg_onq [92, 95] [] rfl rfl (by assumption) rfl (step_C tab_ok (fun K hk => hk)) ?_
  refine dreg_q [92, 96] [] rfl (pick_T tab_ok rfl (by assumption) rfl) ?_
  refine dreg_q [97] [] rfl (step_C tab_ok (fun K hk => hk)) ?_
  refine dreg_onq [98, 7] [104, 96] rfl rfl (by assumption) rfl (load_box tab_ok rfl rfl rfl rfl) ?_
  refine dreg_onq [98, 3] [64] rfl rfl (by assumption) rfl (load_box tab_ok rfl rfl rfl rfl) ?_
  refine dreg_onw [98, 100] [] rfl rfl (by assumption) rfl (call_new hO rfl rfl (arg_e arg_nil) (.inl rfl) rfl rfl) ?_
  refine dreg_onq [98, 99, 101] [96, 896] rfl rfl (by assumption) rfl (call_r (refshsame_is l l hd hd hlen hlen) rfl rfl (arg_S rfl rfl (arg_S rfl rfl arg_nil)) (.inr (int_plain _ _)) (fun _ => rfl)) ?_
  refine dreg_onq [98, 102] [] rfl rfl (by assumption) rfl (step_C tab_ok (fun K hk => hk)) ?_
  refine dreg_q [98, 103] [] rfl (pick_T tab_ok rfl (by assumption) rfl) ?_
  refine dreg_q [104] [] rfl (step_C tab_ok (fun K hk => hk)) ?_
  refine dreg_onq [105] [] rfl rfl (by assumption) rfl (call_r shlives_is rfl rfl arg_nil (.inl rfl) (fun _ => rfl)) ?_
  refine dreg_q [105, 106] [] rfl (pick_T tab_ok rfl (by assumption) rfl) ?_
  refine dreg_q [107] [] rfl (step_C tab_ok (fun K hk => hk)) ?_
  refine dreg_end (by kernel_rfl) ?_
  refine seq_n ?_
  refine wc_ret ?_
  exact ⟨trivial, [], .of rfl rfl rfl rfl rfl ⟨⟨_, rfl, AVLe.of_eq rfl⟩, rfl, trivial⟩ trivial⟩
theorem actsLaw_good_none (L : List Int) (hand : Int) (l : List Frame) (hd : Nat) (at_ n0 n1 n2 : Int) (b0 : 0 ≤ n0 ∧ n0 ≤ 255) (b2 : 0 ≤ n2 ∧ n2 ≤ 255) (hO : FnIs Try.prog 32 [.d (encSx L hand)] [] (ownS 64 l.length hd) [(64, .ds 39 40 false encFrame l)]) (hlen : l.length ≤ 1000000)
    (T : List Frame) (hlT : T.length ≤ 1000000) (hQ : FnIs Try.prog 46 (actArgs l hd at_ (n0.tmod 6) (dataB n1) (nonceN n2)) [] (ok2 T.length hd) [(64, .ds 39 40 false encFrame T)]) (hP : FnIs Try.prog 47 (actArgs l hd at_ (n0.tmod 6) (dataB n1) (nonceN n2)) [] (ok2 T.length hd) [(64, .ds 39 40 true encFrame T)]) (hBe : FnIs Try.prog 48 [.d (encS l hd)] [] (err3 11) []) (hCe : FnIs Try.prog 49 [.d (encS l hd)] [] (err3 11) []) :
    FnIs Try.prog 11 [.d (encSx L hand), .d (i6 at_), .d (encT [n0, n1, n2])] [] (.bool true) [] := by
  have s1 := same0 hd l
  have s2 := same1 hd l
  have s3 := same0 hd T
  refine fnIs_of tab_ok Try.func11 rfl rfl rfl ?_
  refine wc_seq ?_
  refine wc_region ?_
  refine reg_new (step_C tab_ok (fun K hk => hk)) rfl ?_
  refine reg_new (step_C tab_ok (fun K hk => hk)) rfl ?_
  refine reg_quiet rfl (step_C tab_ok (fun K hk => hk)) ?_
  refine reg_nil ?_
  refine seq_n ?_
  refine wc_seq ?_
  refine wc_region ?_
  refine reg_quiet rfl (load_box tab_ok rfl rfl rfl rfl) ?_
  refine reg_new (call_new hO rfl rfl (arg_e arg_nil) (.inl rfl) rfl rfl) rfl ?_
  refine reg_new (step_C tab_ok (fun K hk => hk)) rfl ?_
  refine reg_store (store_row tab_ok rfl rfl rfl ⟨_, ⟨rfl, rfl, rfl⟩, rfl⟩ rfl) ?_
  refine reg_nil ?_
  refine seq_n ?_
  refine wc_seq ?_
  refine wc_draw (by kernel_rfl) ?_
  refine dreg_q [5] [72] rfl (step_C tab_ok (fun K hk => ⟨by omega, by omega, hk⟩)) ?_
  refine dreg_q [23] [72] rfl (load_box (v := .int .u8 n0) tab_ok rfl rfl ⟨.sc (.int .u8 n0), ⟨rfl, n0, rfl, rfl⟩, rfl⟩ rfl) ?_
  refine dreg_q [24] [] rfl (conv_int tab_ok rfl rfl rfl (wrap_i64 (by omega) (by omega))) ?_
  refine dreg_q [25] [] rfl (rem_int tab_ok rfl rfl (by omega)) ?_
  refine dreg_q [5] [72] rfl (step_C tab_ok (fun K hk => ⟨by omega, by omega, hk⟩)) ?_
  refine dreg_q [27] [72] rfl (load_box (v := .int .u8 n1) tab_ok rfl rfl ⟨.sc (.int .u8 n1), ⟨rfl, n1, rfl, rfl⟩, rfl⟩ rfl) ?_
  refine dreg_q [28] [] rfl (call_r (data_is n1) rfl rfl (arg_e arg_nil) (.inl rfl) (fun _ => rfl)) ?_
  refine dreg_q [5] [72] rfl (step_C tab_ok (fun K hk => ⟨by omega, by omega, hk⟩)) ?_
  refine dreg_q [30] [72] rfl (load_box (v := .int .u8 n2) tab_ok rfl rfl ⟨.sc (.int .u8 n2), ⟨rfl, n2, rfl, rfl⟩, rfl⟩ rfl) ?_
  refine dreg_q [31] [] rfl (quo_int tab_ok rfl rfl (by omega) (IntWalk.u8_quo n2 16 ⟨by omega, by omega, by omega⟩)) ?_
  refine dreg_q [32] [] rfl (conv_int tab_ok rfl rfl rfl (IntWalk.u32_in (n2 / 16) ⟨by omega, by omega⟩)) ?_
  refine dreg_q [5] [72] rfl (step_C tab_ok (fun K hk => ⟨by omega, by omega, hk⟩)) ?_
  refine dreg_q [34] [72] rfl (load_box (v := .int .u8 n2) tab_ok rfl rfl ⟨.sc (.int .u8 n2), ⟨rfl, n2, rfl, rfl⟩, rfl⟩ rfl) ?_
  refine dreg_q [35] [] rfl (conv_int tab_ok rfl rfl rfl (IntWalk.u64_in n2 ⟨by omega, by omega⟩)) ?_
  refine dreg_q [33, 36] [] rfl (build_struct tab_ok rfl rfl rfl rfl) ?_
  refine dreg_w [] [] rfl (step_C tab_ok (fun K hk => hk)) ?_
  refine dreg_w [] [] rfl (step_C tab_ok (fun K hk => hk)) ?_
  refine dreg_q [26] [] rfl (step_C tab_ok (fun K hk => hk)) ?_
  refine dreg_s [9, 29] [240] (store_row tab_ok rfl rfl rfl ⟨_, ⟨rfl, rfl, rfl⟩, rfl⟩ rfl) ?_
  refine dreg_s [10, 37] [248] (store_row tab_ok rfl rfl rfl ⟨_, ⟨rfl, rfl, rfl⟩, rfl⟩ rfl) ?_
  refine dreg_end (by kernel_rfl) ?_
  refine seq_n ?_
  refine wc_seq ?_
  refine wc_region ?_
  refine reg_quiet rfl (load_box tab_ok rfl rfl rfl rfl) ?_
  refine reg_quiet rfl (step_C tab_ok (fun K hk => hk)) ?_
  refine reg_quiet rfl (step_C tab_ok (fun K hk => hk)) ?_
  refine reg_quiet rfl (load_box tab_ok rfl rfl rfl rfl) ?_
  refine reg_quiet rfl (load_box tab_ok rfl rfl rfl rfl) ?_
  refine reg_new (call_new hQ rfl rfl (arg_S rfl rfl (arg_e (arg_e (arg_e (arg_e arg_nil))))) (.inr (ok2_plain _ _ _ _)) rfl rfl) rfl ?_
  refine reg_quiet rfl (step_C tab_ok (fun K hk => hk)) ?_
  refine reg_quiet rfl (step_C tab_ok (fun K hk => hk)) ?_
  refine reg_quiet rfl (step_C tab_ok (fun K hk => hk)) ?_
  refine reg_new (step_C tab_ok (fun K hk => hk)) rfl ?_
  refine reg_store (store_row tab_ok rfl rfl rfl ⟨_, ⟨rfl, rfl, rfl⟩, rfl⟩ rfl) ?_
  refine reg_quiet rfl (step_C tab_ok (fun K hk => hk)) ?_
  refine reg_nil ?_
  refine seq_n ?_
  refine wc_seq ?_
  refine wc_region ?_
  refine reg_quiet rfl (load_box tab_ok rfl rfl rfl rfl) ?_
  refine reg_quiet rfl (step_C tab_ok (fun K hk => hk)) ?_
  refine reg_quiet rfl (step_C tab_ok (fun K hk => hk)) ?_
  refine reg_quiet rfl (load_box tab_ok rfl rfl rfl rfl) ?_
  refine reg_quiet rfl (load_box tab_ok rfl rfl rfl rfl) ?_
  refine reg_new (call_new hP rfl rfl (arg_S rfl rfl (arg_e (arg_e (arg_e (arg_e arg_nil))))) (.inr (ok2_plain _ _ _ _)) rfl rfl) rfl ?_
  refine reg_quiet rfl (step_C tab_ok (fun K hk => hk)) ?_
  refine reg_quiet rfl (step_C tab_ok (fun K hk => hk)) ?_
  refine reg_quiet rfl (step_C tab_ok (fun K hk => hk)) ?_
  refine reg_new (step_C tab_ok (fun K hk => hk)) rfl ?_
  refine reg_store (store_row tab_ok rfl rfl rfl ⟨_, ⟨rfl, rfl, rfl⟩, rfl⟩ rfl) ?_
  refine reg_quiet rfl (step_C tab_ok (fun K hk => hk)) ?_
  refine reg_nil ?_
  refine seq_n ?_
  refine wc_seq ?_
  refine wc_seq ?_
  refine wc_draw (by kernel_rfl) ?_
  refine dreg_q [14] [] rfl (step_C tab_ok (fun K hk => hk)) ?_
  refine dreg_q [12] [] rfl (step_C tab_ok (fun K hk => hk)) ?_
  refine dreg_q [56, 57] [] rfl (step_C tab_ok (fun K hk => hk)) ?_
  refine dreg_q [58] [] rfl (step_C tab_ok (fun K hk => hk)) ?_
  refine dreg_onq [59, 13] [448, 416] rfl rfl rfl rfl (load_box tab_ok rfl rfl rfl rfl) ?_
  refine dreg_onq [59, 11] [352, 320] rfl rfl rfl rfl (load_box tab_ok rfl rfl rfl rfl) ?_
  refine dreg_on rfl rfl rfl rfl (call_h [(0, some 416), (1, some 320)] (lawsame_is T T hd hd false hlT hlT) rfl rfl rfl (arg_giveS rfl rfl (arg_giveS rfl rfl arg_nil)) ⟨⟨rfl, rfl, _, _, rfl, rfl, .refl _⟩, ⟨rfl, rfl, _, _, rfl, rfl, .refl _⟩, trivial⟩ rfl rfl (.inl rfl) rfl rfl) rfl rfl ?_
  refine dreg_onq [59, 62] [] rfl rfl rfl rfl (step_C tab_ok (fun K hk => hk)) ?_
  refine dreg_q [59, 63] [] rfl (pick_F tab_ok rfl rfl rfl) ?_
  refine dreg_q [64] [] rfl (step_C tab_ok (fun K hk => hk)) ?_
  refine dreg_onq [65, 7] [104, 96] rfl rfl (by assumption) rfl (load_box tab_ok rfl rfl rfl rfl) ?_
  refine dreg_onq [65, 3] [64] rfl rfl (by assumption) rfl (load_box tab_ok rfl rfl rfl rfl) ?_
  refine dreg_onw [65, 67] [] rfl rfl (by assumption) rfl (call_new hO rfl rfl (arg_e arg_nil) (.inl rfl) rfl rfl) ?_
  refine dreg_onq [65, 66, 68] [96, 568] rfl rfl (by assumption) rfl (call_r (refshsame_is l l hd hd hlen hlen) rfl rfl (arg_S rfl rfl (arg_S rfl rfl arg_nil)) (.inr (int_plain _ _)) (fun _ => rfl)) ?_
  refine dreg_onq [65, 69] [] rfl rfl (by assumption) rfl (step_C tab_ok (fun K hk => hk)) ?_
  refine dreg_q [65, 70] [] rfl (pick_F tab_ok rfl (by assumption) rfl) ?_
  refine dreg_end (by kernel_rfl) ?_
  refine seq_n ?_
  refine wc_false rfl (by assumption) ?_
  refine wc_skip ?_
  refine seq_n ?_
  refine wc_seq ?_
  refine wc_region ?_
  refine reg_quiet rfl (load_box tab_ok rfl rfl rfl rfl) ?_
  refine reg_quiet rfl (call_r hBe rfl rfl (arg_S rfl rfl arg_nil) (.inr (err3_plain _)) (fun _ => rfl)) ?_
  refine reg_quiet rfl (step_C tab_ok (fun K hk => hk)) ?_
  refine reg_quiet rfl (step_C tab_ok (fun K hk => hk)) ?_
  refine reg_quiet rfl (step_C tab_ok (fun K hk => hk)) ?_
  refine reg_quiet rfl (step_C tab_ok (fun K hk => hk)) ?_
  refine reg_new (step_C tab_ok (fun K hk => hk)) rfl ?_
  refine reg_store (store_row tab_ok rfl rfl rfl ⟨_, ⟨rfl, rfl, rfl⟩, rfl⟩ rfl) ?_
  refine reg_quiet rfl (step_C tab_ok (fun K hk => hk)) ?_
  refine reg_quiet rfl (step_C tab_ok (fun K hk => hk)) ?_
  refine reg_nil ?_
  refine seq_n ?_
  refine wc_seq ?_
  refine wc_region ?_
  refine reg_quiet rfl (load_box tab_ok rfl rfl rfl rfl) ?_
  refine reg_quiet rfl (call_r hCe rfl rfl (arg_S rfl rfl arg_nil) (.inr (err3_plain _)) (fun _ => rfl)) ?_
  refine reg_quiet rfl (step_C tab_ok (fun K hk => hk)) ?_
  refine reg_quiet rfl (step_C tab_ok (fun K hk => hk)) ?_
  refine reg_quiet rfl (step_C tab_ok (fun K hk => hk)) ?_
  refine reg_quiet rfl (step_C tab_ok (fun K hk => hk)) ?_
  refine reg_new (step_C tab_ok (fun K hk => hk)) rfl ?_
  refine reg_store (store_row tab_ok rfl rfl rfl ⟨_, ⟨rfl, rfl, rfl⟩, rfl⟩ rfl) ?_
  refine reg_quiet rfl (step_C tab_ok (fun K hk => hk)) ?_
  refine reg_quiet rfl (step_C tab_ok (fun K hk => hk)) ?_
  refine reg_nil ?_
  refine seq_n ?_
  refine wc_seq ?_
  refine wc_draw (by kernel_rfl) ?_
  refine dreg_q [17] [] rfl (step_C tab_ok (fun K hk => hk)) ?_
  refine dreg_q [20] [] rfl (step_C tab_ok (fun K hk => hk)) ?_
  refine dreg_q [84, 85] [] rfl (step_C tab_ok (fun K hk => hk)) ?_
  refine dreg_q [86] [] rfl (step_C tab_ok (fun K hk => hk)) ?_
  refine dreg_onq [87, 16] [] rfl rfl rfl rfl (step_C tab_ok (fun K hk => hk)) ?_
  refine dreg_onq [87, 19] [] rfl rfl rfl rfl (step_C tab_ok (fun K hk => hk)) ?_
  refine dreg_onq [87, 88, 89] [] rfl rfl rfl rfl (step_C tab_ok (fun K hk => hk)) ?_
  refine dreg_q [87, 90] [] rfl (pick_T tab_ok rfl rfl rfl) ?_
  refine dreg_q [91] [] rfl (step_C tab_ok (fun K hk => hk)) ?_
  refine dreg_onq [92, 15] [648] rfl rfl rfl rfl (load_box tab_ok rfl rfl rfl rfl) ?_
  refine dreg_onq [92, 18] [728] rfl rfl rfl rfl (load_box tab_ok rfl rfl rfl rfl) ?_
  refine dreg_onq [92, 93, 94] [] rfl rfl rfl rfl (call_r lawsame_zero rfl rfl (arg_e (arg_e arg_nil)) (.inl rfl) (fun _ => rfl)) ?_
  refine dreg_onq [92, 95] [] rfl rfl rfl rfl (step_C tab_ok (fun K hk => hk)) ?_
  refine dreg_q [92, 96] [] rfl (pick_T tab_ok rfl rfl rfl) ?_
  refine dreg_q [97] [] rfl (step_C tab_ok (fun K hk => hk)) ?_
  refine dreg_onq [98, 7] [104, 96] rfl rfl rfl rfl (load_box tab_ok rfl rfl rfl rfl) ?_
  refine dreg_onq [98, 3] [64] rfl rfl rfl rfl (load_box tab_ok rfl rfl rfl rfl) ?_
  refine dreg_onw [98, 100] [] rfl rfl rfl rfl (call_new hO rfl rfl (arg_e arg_nil) (.inl rfl) rfl rfl) ?_
  refine dreg_onq [98, 99, 101] [96, 896] rfl rfl rfl rfl (call_r (refshsame_is l l hd hd hlen hlen) rfl rfl (arg_S rfl rfl (arg_S rfl rfl arg_nil)) (.inr (int_plain _ _)) (fun _ => rfl)) ?_
  refine dreg_onq [98, 102] [] rfl rfl rfl rfl (step_C tab_ok (fun K hk => hk)) ?_
  refine dreg_q [98, 103] [] rfl (pick_T tab_ok rfl rfl rfl) ?_
  refine dreg_q [104] [] rfl (step_C tab_ok (fun K hk => hk)) ?_
  refine dreg_onq [105] [] rfl rfl (by assumption) rfl (call_r shlives_is rfl rfl arg_nil (.inl rfl) (fun _ => rfl)) ?_
  refine dreg_q [105, 106] [] rfl (pick_T tab_ok rfl (by assumption) rfl) ?_
  refine dreg_q [107] [] rfl (step_C tab_ok (fun K hk => hk)) ?_
  refine dreg_end (by kernel_rfl) ?_
  refine seq_n ?_
  refine wc_ret ?_
  exact ⟨trivial, [], .of rfl rfl rfl rfl rfl ⟨⟨_, rfl, AVLe.of_eq rfl⟩, rfl, trivial⟩ trivial⟩
theorem actsLaw_good_ok (L : List Int) (hand : Int) (l : List Frame) (hd : Nat) (at_ n0 n1 n2 : Int) (b0 : 0 ≤ n0 ∧ n0 ≤ 255) (b2 : 0 ≤ n2 ∧ n2 ≤ 255) (hO : FnIs Try.prog 32 [.d (encSx L hand)] [] (ownS 64 l.length hd) [(64, .ds 39 40 false encFrame l)]) (hlen : l.length ≤ 1000000)
    (T : List Frame) (hlT : T.length ≤ 1000000) (hQ : FnIs Try.prog 46 (actArgs l hd at_ (n0.tmod 6) (dataB n1) (nonceN n2)) [] (ok2 T.length hd) [(64, .ds 39 40 false encFrame T)]) (hP : FnIs Try.prog 47 (actArgs l hd at_ (n0.tmod 6) (dataB n1) (nonceN n2)) [] (ok2 T.length hd) [(64, .ds 39 40 true encFrame T)]) (U : List Frame) (hlU : U.length ≤ 1000000) (i : Int) (hB : FnIs Try.prog 48 [.d (encS l hd)] [] (tup3 (ownS 64 U.length hd) (.int .i64 i) (.int .i64 0)) [(64, .ds 39 40 true encFrame U)]) (hC : FnIs Try.prog 49 [.d (encS l hd)] [] (tup3 (ownS 64 U.length hd) (.int .i64 i) (.int .i64 0)) [(64, .ds 39 40 false encFrame U)]) :
    FnIs Try.prog 11 [.d (encSx L hand), .d (i6 at_), .d (encT [n0, n1, n2])] [] (.bool true) [] := by
  have s1 := same0 hd l
  have s2 := same1 hd l
  have s3 := same0 hd T
  have s4 := same1 hd U
  have s5 : decide (i = i) = true := decide_eq_true rfl
  refine fnIs_of tab_ok Try.func11 rfl rfl rfl ?_
  refine wc_seq ?_
  refine wc_region ?_
  refine reg_new (step_C tab_ok (fun K hk => hk)) rfl ?_
  refine reg_new (step_C tab_ok (fun K hk => hk)) rfl ?_
  refine reg_quiet rfl (step_C tab_ok (fun K hk => hk)) ?_
  refine reg_nil ?_
  refine seq_n ?_
  refine wc_seq ?_
  refine wc_region ?_
  refine reg_quiet rfl (load_box tab_ok rfl rfl rfl rfl) ?_
  refine reg_new (call_new hO rfl rfl (arg_e arg_nil) (.inl rfl) rfl rfl) rfl ?_
  refine reg_new (step_C tab_ok (fun K hk => hk)) rfl ?_
  refine reg_store (store_row tab_ok rfl rfl rfl ⟨_, ⟨rfl, rfl, rfl⟩, rfl⟩ rfl) ?_
  refine reg_nil ?_
  refine seq_n ?_
  refine wc_seq ?_
  refine wc_draw (by kernel_rfl) ?_
  refine dreg_q [5] [72] rfl (step_C tab_ok (fun K hk => ⟨by omega, by omega, hk⟩)) ?_
  refine dreg_q [23] [72] rfl (load_box (v := .int .u8 n0) tab_ok rfl rfl ⟨.sc (.int .u8 n0), ⟨rfl, n0, rfl, rfl⟩, rfl⟩ rfl) ?_
  refine dreg_q [24] [] rfl (conv_int tab_ok rfl rfl rfl (wrap_i64 (by omega) (by omega))) ?_
  refine dreg_q [25] [] rfl (rem_int tab_ok rfl rfl (by omega)) ?_
  refine dreg_q [5] [72] rfl (step_C tab_ok (fun K hk => ⟨by omega, by omega, hk⟩)) ?_
  refine dreg_q [27] [72] rfl (load_box (v := .int .u8 n1) tab_ok rfl rfl ⟨.sc (.int .u8 n1), ⟨rfl, n1, rfl, rfl⟩, rfl⟩ rfl) ?_
  refine dreg_q [28] [] rfl (call_r (data_is n1) rfl rfl (arg_e arg_nil) (.inl rfl) (fun _ => rfl)) ?_
  refine dreg_q [5] [72] rfl (step_C tab_ok (fun K hk => ⟨by omega, by omega, hk⟩)) ?_
  refine dreg_q [30] [72] rfl (load_box (v := .int .u8 n2) tab_ok rfl rfl ⟨.sc (.int .u8 n2), ⟨rfl, n2, rfl, rfl⟩, rfl⟩ rfl) ?_
  refine dreg_q [31] [] rfl (quo_int tab_ok rfl rfl (by omega) (IntWalk.u8_quo n2 16 ⟨by omega, by omega, by omega⟩)) ?_
  refine dreg_q [32] [] rfl (conv_int tab_ok rfl rfl rfl (IntWalk.u32_in (n2 / 16) ⟨by omega, by omega⟩)) ?_
  refine dreg_q [5] [72] rfl (step_C tab_ok (fun K hk => ⟨by omega, by omega, hk⟩)) ?_
  refine dreg_q [34] [72] rfl (load_box (v := .int .u8 n2) tab_ok rfl rfl ⟨.sc (.int .u8 n2), ⟨rfl, n2, rfl, rfl⟩, rfl⟩ rfl) ?_
  refine dreg_q [35] [] rfl (conv_int tab_ok rfl rfl rfl (IntWalk.u64_in n2 ⟨by omega, by omega⟩)) ?_
  refine dreg_q [33, 36] [] rfl (build_struct tab_ok rfl rfl rfl rfl) ?_
  refine dreg_w [] [] rfl (step_C tab_ok (fun K hk => hk)) ?_
  refine dreg_w [] [] rfl (step_C tab_ok (fun K hk => hk)) ?_
  refine dreg_q [26] [] rfl (step_C tab_ok (fun K hk => hk)) ?_
  refine dreg_s [9, 29] [240] (store_row tab_ok rfl rfl rfl ⟨_, ⟨rfl, rfl, rfl⟩, rfl⟩ rfl) ?_
  refine dreg_s [10, 37] [248] (store_row tab_ok rfl rfl rfl ⟨_, ⟨rfl, rfl, rfl⟩, rfl⟩ rfl) ?_
  refine dreg_end (by kernel_rfl) ?_
  refine seq_n ?_
  refine wc_seq ?_
  refine wc_region ?_
  refine reg_quiet rfl (load_box tab_ok rfl rfl rfl rfl) ?_
  refine reg_quiet rfl (step_C tab_ok (fun K hk => hk)) ?_
  refine reg_quiet rfl (step_C tab_ok (fun K hk => hk)) ?_
  refine reg_quiet rfl (load_box tab_ok rfl rfl rfl rfl) ?_
  refine reg_quiet rfl (load_box tab_ok rfl rfl rfl rfl) ?_
  refine reg_new (call_new hQ rfl rfl (arg_S rfl rfl (arg_e (arg_e (arg_e (arg_e arg_nil))))) (.inr (ok2_plain _ _ _ _)) rfl rfl) rfl ?_
  refine reg_quiet rfl (step_C tab_ok (fun K hk => hk)) ?_
  refine reg_quiet rfl (step_C tab_ok (fun K hk => hk)) ?_
  refine reg_quiet rfl (step_C tab_ok (fun K hk => hk)) ?_
  refine reg_new (step_C tab_ok (fun K hk => hk)) rfl ?_
  refine reg_store (store_row tab_ok rfl rfl rfl ⟨_, ⟨rfl, rfl, rfl⟩, rfl⟩ rfl) ?_
  refine reg_quiet rfl (step_C tab_ok (fun K hk => hk)) ?_
  refine reg_nil ?_
  refine seq_n ?_
  refine wc_seq ?_
  refine wc_region ?_
  refine reg_quiet rfl (load_box tab_ok rfl rfl rfl rfl) ?_
  refine reg_quiet rfl (step_C tab_ok (fun K hk => hk)) ?_
  refine reg_quiet rfl (step_C tab_ok (fun K hk => hk)) ?_
  refine reg_quiet rfl (load_box tab_ok rfl rfl rfl rfl) ?_
  refine reg_quiet rfl (load_box tab_ok rfl rfl rfl rfl) ?_
  refine reg_new (call_new hP rfl rfl (arg_S rfl rfl (arg_e (arg_e (arg_e (arg_e arg_nil))))) (.inr (ok2_plain _ _ _ _)) rfl rfl) rfl ?_
  refine reg_quiet rfl (step_C tab_ok (fun K hk => hk)) ?_
  refine reg_quiet rfl (step_C tab_ok (fun K hk => hk)) ?_
  refine reg_quiet rfl (step_C tab_ok (fun K hk => hk)) ?_
  refine reg_new (step_C tab_ok (fun K hk => hk)) rfl ?_
  refine reg_store (store_row tab_ok rfl rfl rfl ⟨_, ⟨rfl, rfl, rfl⟩, rfl⟩ rfl) ?_
  refine reg_quiet rfl (step_C tab_ok (fun K hk => hk)) ?_
  refine reg_nil ?_
  refine seq_n ?_
  refine wc_seq ?_
  refine wc_seq ?_
  refine wc_draw (by kernel_rfl) ?_
  refine dreg_q [14] [] rfl (step_C tab_ok (fun K hk => hk)) ?_
  refine dreg_q [12] [] rfl (step_C tab_ok (fun K hk => hk)) ?_
  refine dreg_q [56, 57] [] rfl (step_C tab_ok (fun K hk => hk)) ?_
  refine dreg_q [58] [] rfl (step_C tab_ok (fun K hk => hk)) ?_
  refine dreg_onq [59, 13] [448, 416] rfl rfl rfl rfl (load_box tab_ok rfl rfl rfl rfl) ?_
  refine dreg_onq [59, 11] [352, 320] rfl rfl rfl rfl (load_box tab_ok rfl rfl rfl rfl) ?_
  refine dreg_on rfl rfl rfl rfl (call_h [(0, some 416), (1, some 320)] (lawsame_is T T hd hd false hlT hlT) rfl rfl rfl (arg_giveS rfl rfl (arg_giveS rfl rfl arg_nil)) ⟨⟨rfl, rfl, _, _, rfl, rfl, .refl _⟩, ⟨rfl, rfl, _, _, rfl, rfl, .refl _⟩, trivial⟩ rfl rfl (.inl rfl) rfl rfl) rfl rfl ?_
  refine dreg_onq [59, 62] [] rfl rfl rfl rfl (step_C tab_ok (fun K hk => hk)) ?_
  refine dreg_q [59, 63] [] rfl (pick_F tab_ok rfl rfl rfl) ?_
  refine dreg_q [64] [] rfl (step_C tab_ok (fun K hk => hk)) ?_
  refine dreg_onq [65, 7] [104, 96] rfl rfl (by assumption) rfl (load_box tab_ok rfl rfl rfl rfl) ?_
  refine dreg_onq [65, 3] [64] rfl rfl (by assumption) rfl (load_box tab_ok rfl rfl rfl rfl) ?_
  refine dreg_onw [65, 67] [] rfl rfl (by assumption) rfl (call_new hO rfl rfl (arg_e arg_nil) (.inl rfl) rfl rfl) ?_
  refine dreg_onq [65, 66, 68] [96, 568] rfl rfl (by assumption) rfl (call_r (refshsame_is l l hd hd hlen hlen) rfl rfl (arg_S rfl rfl (arg_S rfl rfl arg_nil)) (.inr (int_plain _ _)) (fun _ => rfl)) ?_
  refine dreg_onq [65, 69] [] rfl rfl (by assumption) rfl (step_C tab_ok (fun K hk => hk)) ?_
  refine dreg_q [65, 70] [] rfl (pick_F tab_ok rfl (by assumption) rfl) ?_
  refine dreg_end (by kernel_rfl) ?_
  refine seq_n ?_
  refine wc_false rfl (by assumption) ?_
  refine wc_skip ?_
  refine seq_n ?_
  refine wc_seq ?_
  refine wc_region ?_
  refine reg_quiet rfl (load_box tab_ok rfl rfl rfl rfl) ?_
  refine reg_new (call_new hB rfl rfl (arg_S rfl rfl arg_nil) (.inr (ok3_plain _ _ _ _ _ _)) rfl rfl) rfl ?_
  refine reg_quiet rfl (step_C tab_ok (fun K hk => hk)) ?_
  refine reg_quiet rfl (step_C tab_ok (fun K hk => hk)) ?_
  refine reg_quiet rfl (step_C tab_ok (fun K hk => hk)) ?_
  refine reg_quiet rfl (step_C tab_ok (fun K hk => hk)) ?_
  refine reg_new (step_C tab_ok (fun K hk => hk)) rfl ?_
  refine reg_store (store_row tab_ok rfl rfl rfl ⟨_, ⟨rfl, rfl, rfl⟩, rfl⟩ rfl) ?_
  refine reg_quiet rfl (step_C tab_ok (fun K hk => hk)) ?_
  refine reg_quiet rfl (step_C tab_ok (fun K hk => hk)) ?_
  refine reg_nil ?_
  refine seq_n ?_
  refine wc_seq ?_
  refine wc_region ?_
  refine reg_quiet rfl (load_box tab_ok rfl rfl rfl rfl) ?_
  refine reg_new (call_new hC rfl rfl (arg_S rfl rfl arg_nil) (.inr (ok3_plain _ _ _ _ _ _)) rfl rfl) rfl ?_
  refine reg_quiet rfl (step_C tab_ok (fun K hk => hk)) ?_
  refine reg_quiet rfl (step_C tab_ok (fun K hk => hk)) ?_
  refine reg_quiet rfl (step_C tab_ok (fun K hk => hk)) ?_
  refine reg_quiet rfl (step_C tab_ok (fun K hk => hk)) ?_
  refine reg_new (step_C tab_ok (fun K hk => hk)) rfl ?_
  refine reg_store (store_row tab_ok rfl rfl rfl ⟨_, ⟨rfl, rfl, rfl⟩, rfl⟩ rfl) ?_
  refine reg_quiet rfl (step_C tab_ok (fun K hk => hk)) ?_
  refine reg_quiet rfl (step_C tab_ok (fun K hk => hk)) ?_
  refine reg_nil ?_
  refine seq_n ?_
  refine wc_seq ?_
  refine wc_draw (by kernel_rfl) ?_
  refine dreg_q [17] [] rfl (step_C tab_ok (fun K hk => hk)) ?_
  refine dreg_q [20] [] rfl (step_C tab_ok (fun K hk => hk)) ?_
  refine dreg_q [84, 85] [] rfl (step_C tab_ok (fun K hk => hk)) ?_
  refine dreg_q [86] [] rfl (step_C tab_ok (fun K hk => hk)) ?_
  refine dreg_onq [87, 16] [] rfl rfl rfl rfl (step_C tab_ok (fun K hk => hk)) ?_
  refine dreg_onq [87, 19] [] rfl rfl rfl rfl (step_C tab_ok (fun K hk => hk)) ?_
  refine dreg_onq [87, 88, 89] [] rfl rfl rfl rfl (step_C tab_ok (fun K hk => hk)) ?_
  refine dreg_q [87, 90] [] rfl (pick_T tab_ok rfl rfl rfl) ?_
  refine dreg_q [91] [] rfl (step_C tab_ok (fun K hk => hk)) ?_
  refine dreg_onq [92, 15] [648, 608] rfl rfl (by assumption) rfl (load_box tab_ok rfl rfl rfl rfl) ?_
  refine dreg_onq [92, 18] [728, 688] rfl rfl (by assumption) rfl (load_box tab_ok rfl rfl rfl rfl) ?_
  refine dreg_on rfl rfl (by assumption) rfl (call_h [(0, some 608), (1, some 688)] (lawsame_is U U hd hd false hlU hlU) rfl rfl rfl (arg_giveS rfl rfl (arg_giveS rfl rfl arg_nil)) ⟨⟨rfl, rfl, _, _, rfl, rfl, .refl _⟩, ⟨rfl, rfl, _, _, rfl, rfl, .refl _⟩, trivial⟩ rfl rfl (.inl rfl) rfl rfl) rfl rfl ?_
  refine dreg_onq [92, 95] [] rfl rfl (by assumption) rfl (step_C tab_ok (fun K hk => hk)) ?_
  refine dreg_q [92, 96] [] rfl (pick_T tab_ok rfl (by assumption) rfl) ?_
  refine dreg_q [97] [] rfl (step_C tab_ok (fun K hk => hk)) ?_
  refine dreg_onq [98, 7] [104, 96] rfl rfl (by assumption) rfl (load_box tab_ok rfl rfl rfl rfl) ?_
  refine dreg_onq [98, 3] [64] rfl rfl (by assumption) rfl (load_box tab_ok rfl rfl rfl rfl) ?_
  refine dreg_onw [98, 100] [] rfl rfl (by assumption) rfl (call_new hO rfl rfl (arg_e arg_nil) (.inl rfl) rfl rfl) ?_
  refine dreg_onq [98, 99, 101] [96, 896] rfl rfl (by assumption) rfl (call_r (refshsame_is l l hd hd hlen hlen) rfl rfl (arg_S rfl rfl (arg_S rfl rfl arg_nil)) (.inr (int_plain _ _)) (fun _ => rfl)) ?_
  refine dreg_onq [98, 102] [] rfl rfl (by assumption) rfl (step_C tab_ok (fun K hk => hk)) ?_
  refine dreg_q [98, 103] [] rfl (pick_T tab_ok rfl (by assumption) rfl) ?_
  refine dreg_q [104] [] rfl (step_C tab_ok (fun K hk => hk)) ?_
  refine dreg_onq [105] [] rfl rfl (by assumption) rfl (call_r shlives_is rfl rfl arg_nil (.inl rfl) (fun _ => rfl)) ?_
  refine dreg_q [105, 106] [] rfl (pick_T tab_ok rfl (by assumption) rfl) ?_
  refine dreg_q [107] [] rfl (step_C tab_ok (fun K hk => hk)) ?_
  refine dreg_end (by kernel_rfl) ?_
  refine seq_n ?_
  refine wc_ret ?_
  exact ⟨trivial, [], .of rfl rfl rfl rfl rfl ⟨⟨_, rfl, AVLe.of_eq rfl⟩, rfl, trivial⟩ trivial⟩
/-- The first error of an act. -/
theorem refact_bad {a : Nat} (ha : a < 6) (data : List Int) (n : Nonce) {l : List Frame} {h j : Int} (hc : chkS l h = 0) (he : actE (actP a) l h j ≠ 0) : FnIs Try.prog 46 (actArgs l h j a data n) [] (err2 (actE (actP a) l h j)) [] := by
  unfold actE at he ⊢
  rw [if_neg (fun n => n hc)] at he ⊢
  cases ho : outB l j with
  | true => rw [if_pos rfl]; exact refact_out l h j a data n ho
  | false =>
    obtain ⟨f, hf⟩ := outB_get ho
    rw [ho, if_neg (by simp), hf] at he
    rw [if_neg (by simp), hf]
    simp only at he ⊢
    cases hp : actP a f with
    | true => rw [hp] at he; exact absurd rfl he
    | false => exact refact_no l h j a data n ho f hf (by rw [fits_actP a ha, hp])
theorem refact_same {a : Nat} (ha : a < 6) (data : List Int) (n : Nonce) {l : List Frame} {h j : Int} (hlen : l.length ≤ 1000000) (he : actE (actP a) l h j = 0) : FnIs Try.prog 46 (actArgs l h j a data n) [] (ok2 l.length h) [(64, .ds 39 40 false encFrame (updL (actG a data n) l j))] := by
  obtain ⟨h1, h2, f, hf, hp⟩ := actE_zero he
  have hv := (chkS_valid.1 h1).2.2.1
  have := refact_good a ha data n l h j hlen h2 f hf (by rw [fits_actP a ha, hp])
  rw [updL_some hf, act_ref a ha data n f (hv.ok _ f hf) hp]
  exact this
theorem shardsActs_is (L : List Int) (hand : Int) (hL : Bytes L) (hh : 0 ≤ hand ∧ hand ≤ 255) (at_ : Int) (n : List Int) (hn : n.length = 3) (hb : ∀ a ∈ n, 0 ≤ a ∧ a ≤ 255) : FnIs Try.prog 11 [.d (encSx L hand), .d (i6 at_), .d (encT n)] [] (.bool true) [] := by
  obtain ⟨n0, n1, n2, rfl⟩ : ∃ n0 n1 n2, n = [n0, n1, n2] := by
    match n, hn with
    | [a, b, c], _ => exact ⟨a, b, c, rfl⟩
  have b0 := hb n0 (by simp)
  have b2 := hb n2 (by simp)
  obtain ⟨hd, h1, h2⟩ := hand_mod hh (ofS_pos L)
  have hO := ofS_is L hand hL hh
  have hc := ofS_chk hL hh
  have hlen := ofS_len L
  rw [h1] at hO hc
  generalize ofS L = l at *
  have hlen' : l.length ≤ 1000000 := by omega
  obtain ⟨a, ha, hae⟩ : ∃ a : Nat, a < 6 ∧ n0.tmod 6 = a := by
    refine ⟨(n0 % 6).toNat, by omega, ?_⟩
    rw [Int.tmod_eq_emod_of_nonneg b0.1]
    omega
  have hul := updL_len (g := actG a (dataB n1) (nonceN n2)) (l := l) (j := at_)
  have hbl := beginL_len (l := l)
  by_cases he : actE (actP a) l hd at_ = 0
  · have hP := act_good a ha (dataB n1) (nonceN n2) l hd at_ he
    have hQ := refact_same ha (dataB n1) (nonceN n2) hlen' he
    rw [← hae, ← hul] at hP hQ
    cases hw : waitB l with
    | false => exact actsLaw_good_none L hand l hd at_ n0 n1 n2 b0 b2 hO hlen' _ (by omega) hQ hP (begin_none l hd hc hw) (refbegin_none l hd hlen' hw)
    | true =>
      have hB := begin_ok l hd hc hw
      have hC := refbegin_ok l hd hlen' hw
      rw [← hbl] at hB hC
      exact actsLaw_good_ok L hand l hd at_ n0 n1 n2 b0 b2 hO hlen' _ (by omega) hQ hP _ (by omega) _ hB hC
  · have hP := act_bad a ha (dataB n1) (nonceN n2) l hd at_ he
    have hQ := refact_bad ha (dataB n1) (nonceN n2) hc he
    rw [← hae] at hP hQ
    cases hw : waitB l with
    | false => exact actsLaw_bad_none L hand l hd at_ n0 n1 n2 b0 b2 hO hlen' _ hQ hP (begin_none l hd hc hw) (refbegin_none l hd hlen' hw)
    | true =>
      have hB := begin_ok l hd hc hw
      have hC := refbegin_ok l hd hlen' hw
      rw [← hbl] at hB hC
      exact actsLaw_bad_ok L hand l hd at_ n0 n1 n2 b0 b2 hO hlen' _ hQ hP _ (by omega) _ hB hC
end Go.Proofs.Ytmdfeekpehcieaa

/- What a step does to a valid shard, as ShardsPlay asks. -/
namespace Go.Proofs.Ytmdfeekpehcieaa
open Go.Eng
abbrev offB (a at_ : Int) (k : Nat) (f g : Frame) : Bool := !decide ((k : Int) = at_) && (g.ref && !f.ref || (g.ref != f.ref) && decide (a < 7))
abbrev lostB (f g : Frame) : Bool := f.busy && (!decide (g.block = f.block) || !decide (g.data = f.data) || !g.used) || f.dirty && g.dirty && !decide (g.nonce = f.nonce)
abbrev othB (at_ : Int) (k : Nat) (f g : Frame) : Bool := !decide ((k : Int) = at_) && !decide (f = { g with ref := f.ref })
structure StepOk (a at_ : Int) (l t : List Frame) : Prop where
  len : t.length = l.length
  ok : ∀ (k : Nat) (f g : Frame), l[k]? = some f → t[k]? = some g → offB a at_ k f g = false ∧ lostB f g = false ∧ othB at_ k f g = false
theorem lost_same (f : Frame) (h : f.busy = true → f.used = true) : lostB f f = false := by
  cases hb : f.busy <;> cases hd : f.dirty <;> simp [hb, hd] <;> simp_all
theorem busy_used {f : Frame} (hc : chk f = 0) (hb : f.busy = true) : f.used = true := by
  cases hu : f.used with
  | true => rfl
  | false => rw [chk_unused hu] at hc; subst hc; cases hb
theorem ok_same {a at_ : Int} {k : Nat} {f : Frame} (hc : chk f = 0) : offB a at_ k f f = false ∧ lostB f f = false ∧ othB at_ k f f = false := by
  refine ⟨?_, lost_same f (busy_used hc), ?_⟩
  · cases hr : f.ref <;> simp [hr]
  · simp
theorem ok_here {a at_ : Int} {k : Nat} {f g : Frame} (hk : (k : Int) = at_) (hl : lostB f g = false) : offB a at_ k f g = false ∧ lostB f g = false ∧ othB at_ k f g = false :=
  ⟨by simp [hk], hl, by simp [hk]⟩
theorem lost_of {f g : Frame} (h1 : f.busy = true → g.block = f.block ∧ g.data = f.data ∧ g.used = true) (h2 : f.dirty = true → g.dirty = true → g.nonce = f.nonce) : lostB f g = false := by
  rw [Bool.or_eq_false_iff]
  constructor
  · cases hb : f.busy with
    | false => rfl
    | true => obtain ⟨e1, e2, e3⟩ := h1 hb; simp [e1, e2, e3]
  · cases hd : f.dirty with
    | false => rfl
    | true =>
      cases hg : g.dirty with
      | false => rfl
      | true => simp [h2 hd hg]
theorem step_set {a at_ : Int} {l : List Frame} {i : Nat} {f0 g0 : Frame} (hv : Valid l) (hi : (i : Int) = at_) (hf : l[i]? = some f0) (hl : lostB f0 g0 = false) : StepOk a at_ l (l.set i g0) := by
  refine ⟨by simp, fun k f g hk hg => ?_⟩
  rw [set_at hf] at hg
  split at hg
  · rename_i e
    subst e
    cases hg
    rw [hf] at hk
    cases hk
    exact ok_here hi hl
  · rw [hk] at hg
    cases hg
    exact ok_same (hv.ok k f hk)
theorem step_act {a : Nat} (ha : a < 6) (data : List Int) (n : Nonce) {l : List Frame} {h j : Int} (he : actE (actP a) l h j = 0) : StepOk a j l (updL (actG a data n) l j) := by
  obtain ⟨h1, h2, f, hf, hp⟩ := actE_zero he
  have hv := (chkS_valid.1 h1).2.2.1
  obtain ⟨-, -, c3, c4⟩ := act_chk ha data n (hv.ok _ f hf) hp
  rw [updL_some hf]
  rw [outB, Bool.or_eq_false_iff] at h2
  have := of_decide_eq_false h2.1
  exact step_set hv (by omega) hf (lost_of c3 c4)
theorem step_begin {l : List Frame} {h : Int} (he : chkS l h = 0) (hw : waitB l = true) : StepOk 6 (wAt l) l (beginL l) := by
  have hv := (chkS_valid.1 he).2.2.1
  obtain ⟨i, f, h1, h2, h3, h4⟩ := wait_spec hw
  have h5 : l[(wAt l).toNat]? = some f := by rw [h1]; exact h2
  rw [beginL, updL_some h5]
  exact step_set hv (by omega) h5 (lost_of (fun hb => by rw [h4] at hb; cases hb) fun _ _ => rfl)
theorem step_place {a : Int} (ha : 7 ≤ a) {l : List Frame} {hand : Nat} {block : Int} {loading : Bool} (he : chkS l hand = 0) (hv : vicB l = true) : StepOk a (vAt l hand) l (placeL l hand block loading) := by
  obtain ⟨v1, v2, v3, v4, v5⟩ := chkS_valid.1 he
  obtain ⟨i, f0, g0, hi1, hi2, hi3, hi4, hi5⟩ := victim_facts (show hand < l.length by omega) hv
  refine ⟨placeL_len, fun k f g hk hg => ?_⟩
  rw [placeL, hi1, Int.toNat_natCast, set_at hi4] at hg
  split at hg
  · rename_i e
    subst e
    cases hg
    rw [hi3] at hk
    cases hk
    refine ok_here hi1.symm (lost_of (fun hb => ?_) fun _ hd => by cases hd)
    exfalso
    rcases hi5 with hu | ⟨-, hev, -⟩
    · have := (chk_unused hu).1 (v3.ok _ _ hi3)
      subst this
      cases hb
    · simp only [evB, hb, Bool.not_true, Bool.and_false, Bool.false_and] at hev
      cases hev
  · obtain ⟨g', hg', e1, e2⟩ := next_facts (hand := hand) hk
    rw [hg] at hg'
    cases hg'
    have hbu := busy_used (v3.ok _ _ hk)
    obtain ⟨u, b, d, di, bu, lo, rf, no⟩ := f
    obtain ⟨u', b', d', di', bu', lo', rf', no'⟩ := g
    simp only [Frame.mk.injEq] at e2
    obtain ⟨rfl, rfl, rfl, rfl, rfl, rfl, -, rfl⟩ := e2
    refine ⟨?_, lost_of (fun hb => ⟨rfl, rfl, hbu hb⟩) fun _ _ => rfl, by simp⟩
    simp only [offB]
    rw [e1, decide_eq_false (show ¬ a < 7 by omega)]
    simp
end Go.Proofs.Ytmdfeekpehcieaa

/- ShardsPlay: whatever happens, the shard is valid, and one frame changes at most, but for Ref. -/
namespace Go.Proofs.Ytmdfeekpehcieaa
open Go.Eng
set_option maxHeartbeats 4000000
set_option maxRecDepth 4000
attribute [local irreducible] WC RegS RegD SeqQ BlkQ ScoQ RegK CutK Sat SatN FnIs LoopQ StepIs OpIs
attribute [local irreducible] MidQ
abbrev playEnv (ts : List (List Int)) (i : Nat) : Env := [(6, .int .i64 i), (1, .d (encTs ts)), (5, .ptr 64 [])]
abbrev playRows (l : List Frame) (hd : Int) : Upds := [(64, some (.box 61 (ownS 65 l.length hd))), (65, some (.ds 39 40 false encFrame l))]
abbrev playOkEnv (ts : List (List Int)) (i : Nat) (a at_ : Int) : Env := [(7, .int .i64 at_), (8, .int .i64 a), (9, .ptr 66 []), (6, .int .i64 i), (1, .d (encTs ts)), (5, .ptr 64 [])]
abbrev playOkRows (l t : List Frame) (hd h2 : Int) : Upds := [(64, some (.box 61 (ownS 65 l.length hd))), (65, some (.ds 39 40 false encFrame l)), (66, some (.box 61 (ownS 67 t.length h2))), (67, some (.ds 39 40 true encFrame t))]
def PlayInv (a : Int) (l : List Frame) : Int ⊕ (List Frame × Nat × Int) → Prop
  | .inl e => e ≠ 0
  | .inr x => chkS x.1 x.2.1 = 0 ∧ StepOk a x.2.2 l x.1
theorem nat_hand {l : List Frame} {h : Int} (he : chkS l h = 0) : ∃ k : Nat, h = k := by
  obtain ⟨k, h1, -⟩ := chkS_nat he
  exact ⟨k, h1⟩
theorem placeOr {l : List Frame} {hd : Nat} (hc : chkS l hd = 0) (block : Int) (loading : Bool) :
    (∃ e : Int, e ≠ 0 ∧ FnIs Try.prog 34 [.d (encS l hd), .d (i6 block), .bool loading] [] (err3 e) []) ∨
    (∃ (t : List Frame) (h2 : Nat) (at_ : Int), FnIs Try.prog 34 [.d (encS l hd), .d (i6 block), .bool loading] [] (tup3 (ownS 64 t.length h2) (.int .i64 at_) (.int .i64 0)) [(64, .ds 39 40 true encFrame t)] ∧ chkS t h2 = 0 ∧ ∀ a : Int, 7 ≤ a → StepOk a at_ l t) := by
  cases hk : blkB block with
  | true => exact .inl ⟨1, by decide, place_blk l hd block loading hc hk⟩
  | false =>
    cases hb : hasB block l with
    | true => exact .inl ⟨12, by decide, place_twice l hd block loading hc hk hb⟩
    | false =>
      cases hv : vicB l with
      | false => exact .inl ⟨11, by decide, place_none l hd block loading hc hk hb hv⟩
      | true =>
        have hP := place_ok l hd block loading hc hk hb hv
        have hl := placeL_len (l := l) (hand := hd) (block := block) (loading := loading)
        have hn := place_valid (loading := loading) hc hk hb hv
        rw [← hl] at hP
        obtain ⟨k, h1⟩ := nat_hand hn
        rw [h1] at hP hn
        exact .inr ⟨_, k, _, hP, hn, fun a ha => step_place ha hc hv⟩
theorem shardsPlay_is (L : List Int) (hand : Int) (hL : Bytes L) (hh : 0 ≤ hand ∧ hand ≤ 255) (ts : List (List Int)) (hts : ∀ t ∈ ts, t.length = 3 ∧ ∀ a ∈ t, 0 ≤ a ∧ a ≤ 255) : FnIs Try.prog 12 [.d (encSx L hand), .d (encTs ts)] [] (.bool true) [] := by
  obtain ⟨hd0, h1, h2⟩ := hand_mod hh (ofS_pos L)
  have hO := ofS_is L hand hL hh
  have hc0 := ofS_chk hL hh
  rw [h1] at hO hc0
  generalize ofS L = l0 at *
  refine fnIs_of tab_ok Try.func12 rfl rfl rfl ?_
  refine wc_seq ?_
  refine wc_region ?_
  refine reg_new (step_C tab_ok (fun K hk => hk)) rfl ?_
  refine reg_quiet rfl (step_C tab_ok (fun K hk => hk)) ?_
  refine reg_nil ?_
  refine seq_n ?_
  refine wc_seq ?_
  refine wc_seq ?_
  refine wc_region ?_
  refine reg_quiet rfl (step_C tab_ok (fun K hk => hk)) ?_
  refine reg_quiet rfl (len_arr tab_ok rfl rfl) ?_
  refine reg_quiet rfl (step_C tab_ok (fun K hk => hk)) ?_
  refine reg_nil ?_
  refine seq_n ?_
  refine wc_cond rfl (fun hb => ?_) (fun hb => ?_)
  · refine wc_seq ?_
    refine wc_region ?_
    refine reg_quiet rfl (call_r shlives_is rfl rfl arg_nil (.inl rfl) (fun _ => rfl)) ?_
    refine reg_quiet rfl (step_C tab_ok (fun K hk => hk)) ?_
    refine reg_nil ?_
    refine seq_n ?_
    refine wc_ret ?_
    refine seq_r ?_
    exact ⟨trivial, [], .of rfl rfl rfl rfl rfl ⟨⟨_, rfl, AVLe.of_eq rfl⟩, rfl, trivial⟩ trivial⟩
  have hlen : ts.length ≤ 60 := by have := of_decide_eq_false hb; omega
  refine wc_skip ?_
  refine seq_n ?_
  refine wc_seq ?_
  refine wc_region ?_
  refine reg_quiet rfl (load_box tab_ok rfl rfl rfl rfl) ?_
  refine reg_new (call_new hO rfl rfl (arg_e arg_nil) (.inl rfl) rfl rfl) rfl ?_
  refine reg_new (step_C tab_ok (fun K hk => hk)) rfl ?_
  refine reg_store (store_row tab_ok rfl rfl rfl ⟨_, ⟨rfl, rfl, rfl⟩, rfl⟩ rfl) ?_
  refine reg_nil ?_
  refine seq_n ?_
  refine wc_seq ?_
  refine wc_seq ?_
  refine wc_region ?_
  refine reg_quiet rfl (step_C tab_ok (fun K hk => hk)) ?_
  refine reg_nil ?_
  refine seq_n ?_
  refine wc_block ?_
  refine wc_inv (fun x : Nat × List Frame × Nat => ⟨playEnv ts x.1, playRows x.2.1 x.2.2, 72, Try.f12.ntmps, 64⟩) (fun x => x.1 ≤ ts.length ∧ chkS x.2.1 x.2.2 = 0) (fun x => ts.length - x.1) (0, l0, hd0) [(64, some 120), (65, some 112)] ⟨Nat.zero_le _, hc0⟩
    (.of rfl rfl rfl rfl rfl ⟨⟨_, rfl, .refl _⟩, rfl, ⟨_, rfl, .refl _⟩, rfl, ⟨_, rfl, .refl _⟩, rfl, trivial⟩ ⟨⟨rfl, rfl, _, rfl, .refl _⟩, ⟨rfl, rfl, _, rfl, .refl _⟩, trivial⟩) ?_
  clear hc0 h1 h2 hO
  rintro ⟨i, l, hd⟩ ⟨hi, hc⟩
  simp only at hi hc
  obtain ⟨v1, v2, v3, v4, v5⟩ := chkS_valid.1 hc
  refine wc_of ?_
  refine wc_seq ?_
  refine wc_seq ?_
  refine wc_region ?_
  refine reg_quiet rfl (step_C tab_ok (fun K hk => hk)) ?_
  refine reg_quiet rfl (step_C tab_ok (fun K hk => hk)) ?_
  refine reg_quiet rfl (len_arr tab_ok rfl rfl) ?_
  refine reg_quiet rfl (step_C tab_ok (fun K hk => hk)) ?_
  refine reg_nil ?_
  refine seq_n ?_
  refine wc_cond rfl (fun hb => ?_) (fun hb => ?_)
  · have hlt : i < ts.length := by have := of_decide_eq_true hb; omega
    obtain ⟨n0, n1, n2, hti0⟩ : ∃ n0 n1 n2, ts[i]? = some [n0, n1, n2] := by
      have h3 : ts[i]? = some ts[i] := by simp [hlt]
      obtain ⟨hl3, -⟩ := hts ts[i] (List.getElem_mem _)
      match hm : ts[i], hl3 with
      | [a, b, c], _ => exact ⟨a, b, c, by rw [h3, hm]⟩
    have hby := (hts _ (List.mem_of_getElem? hti0)).2
    have b0 := hby n0 (by simp)
    have b1 := hby n1 (by simp)
    have b2 := hby n2 (by simp)
    have hti : ts[((i : Int)).toNat]? = some [n0, n1, n2] := by rw [Int.toNat_natCast]; exact hti0
    obtain ⟨a, ha9, ha⟩ : ∃ a : Nat, a < 9 ∧ n0.tmod 9 = a := by
      refine ⟨(n0 % 9).toNat, by omega, ?_⟩
      rw [Int.tmod_eq_emod_of_nonneg b0.1]
      omega
    have hpos : (l.length : Int) ≠ 0 := by omega
    refine wc_skip ?_
    refine seq_n ?_
    refine wc_seq ?_
    refine wc_block ?_
    refine wc_seq ?_
    refine wc_draw (by kernel_rfl) ?_
    refine dreg_q [1] [] rfl (step_C tab_ok (fun K hk => hk)) ?_
    refine dreg_q [6] [] rfl (step_C tab_ok (fun K hk => hk)) ?_
    refine dreg_q [26, 27] [] rfl (index_arr tab_ok rfl rfl rfl rfl rfl (by omega) hti) ?_
    refine dreg_q [28] [] rfl (step_C tab_ok (fun K hk => ⟨by omega, by omega, .sc (.int .u8 n1), ⟨rfl, n1, rfl, rfl⟩, hk⟩)) ?_
    refine dreg_q [29] [] rfl (load_i tab_ok rfl rfl) ?_
    refine dreg_q [30] [] rfl (conv_int tab_ok rfl rfl rfl (wrap_i64 (by omega) (by omega))) ?_
    refine dreg_q [5] [64, 65] rfl (step_C tab_ok (fun K hk => hk)) ?_
    refine dreg_q [32] [64, 65] rfl (load_box tab_ok rfl rfl rfl rfl) ?_
    refine dreg_q [33] [65] rfl (len_own tab_ok rfl rfl) ?_
    refine dreg_q [31, 34] [] rfl (rem_int tab_ok rfl rfl (by omega)) ?_
    refine dreg_q [35] [] rfl (step_C tab_ok (fun K hk => hk)) ?_
    refine dreg_end (by kernel_rfl) ?_
    refine seq_n ?_
    refine wc_seq ?_
    refine wc_region ?_
    refine reg_quiet rfl (step_C tab_ok (fun K hk => hk)) ?_
    refine reg_quiet rfl (step_C tab_ok (fun K hk => hk)) ?_
    refine reg_quiet rfl (index_arr tab_ok rfl rfl rfl rfl rfl (by omega) hti) ?_
    refine reg_quiet rfl (step_C tab_ok (fun K hk => ⟨by omega, by omega, .sc (.int .u8 n0), ⟨rfl, n0, rfl, rfl⟩, hk⟩)) ?_
    refine reg_quiet rfl (load_i tab_ok rfl rfl) ?_
    refine reg_quiet rfl (rem_int tab_ok rfl rfl (by omega)) ?_
    refine reg_quiet rfl (conv_int tab_ok rfl rfl rfl (wrap_i64 (by omega) (by omega))) ?_
    refine reg_quiet rfl (step_C tab_ok (fun K hk => hk)) ?_
    refine reg_nil ?_
    refine seq_n ?_
    refine wc_seq ?_
    refine wc_region ?_
    refine reg_new (step_C tab_ok (fun K hk => hk)) rfl ?_
    refine reg_nil ?_
    refine seq_n ?_
    refine wc_seq ?_
    refine wc_region ?_
    refine reg_quiet rfl (step_C tab_ok (fun K hk => hk)) ?_
    refine reg_nil ?_
    refine seq_n ?_
    refine wc_mid (Sum.elim (fun e : Int => (⟨(10, .int .i64 e) :: playEnv ts i, playRows l hd, 72, Try.f12.ntmps, 64⟩ : St)) (fun x : List Frame × Nat × Int => (⟨(10, .int .i64 0) :: playOkEnv ts i (n0.tmod 9) x.2.2, playOkRows l x.1 hd x.2.1, 72, Try.f12.ntmps, 64⟩ : St))) (PlayInv (n0.tmod 9) l) ?_ ?_
    · rcases (by omega : a < 6 ∨ a = 6 ∨ 7 ≤ a) with h6 | h6 | h6
      · have c1 : decide (n0.tmod 9 < 6) = true := decide_eq_true (by omega)
        by_cases he : actE (actP a) l hd (n1.tmod l.length) = 0
        · have hul := updL_len (g := actG a (dataB n2) ⟨0, i⟩) (l := l) (j := n1.tmod l.length)
          have hA : FnIs Try.prog 47 (actArgs l hd (n1.tmod l.length) (n0.tmod 9) (dataB n2) ⟨0, i⟩) [] (ok2 (updL (actG a (dataB n2) ⟨0, i⟩) l (n1.tmod l.length)).length hd) [(64, .ds 39 40 true encFrame (updL (actG a (dataB n2) ⟨0, i⟩) l (n1.tmod l.length)))] := by
            rw [ha, hul]
            exact act_good a h6 (dataB n2) ⟨0, i⟩ l hd (n1.tmod l.length) he
          have hv := act_valid h6 (dataB n2) ⟨0, i⟩ he
          have hs := step_act h6 (dataB n2) ⟨0, i⟩ he
          rw [← ha] at hs
          generalize updL (actG a (dataB n2) ⟨0, i⟩) l (n1.tmod l.length) = t at *
          refine wc_block ?_
          refine wc_seq ?_
          refine wc_region ?_
          refine reg_quiet rfl (step_C tab_ok (fun K hk => hk)) ?_
          refine reg_quiet rfl (step_C tab_ok (fun K hk => hk)) ?_
          refine reg_quiet rfl (step_C tab_ok (fun K hk => hk)) ?_
          refine reg_nil ?_
          refine seq_n ?_
          refine wc_true rfl (by assumption) ?_
          refine wc_draw (by kernel_rfl) ?_
          refine dreg_q [5] [64, 65] rfl (load_box tab_ok rfl rfl rfl rfl) ?_
          refine dreg_q [7] [] rfl (step_C tab_ok (fun K hk => hk)) ?_
          refine dreg_q [8] [] rfl (step_C tab_ok (fun K hk => hk)) ?_
          refine dreg_q [1] [] rfl (step_C tab_ok (fun K hk => hk)) ?_
          refine dreg_q [6] [] rfl (step_C tab_ok (fun K hk => hk)) ?_
          refine dreg_q [64, 65] [] rfl (index_arr tab_ok rfl rfl rfl rfl rfl (by omega) hti) ?_
          refine dreg_q [66] [] rfl (step_C tab_ok (fun K hk => ⟨by omega, by omega, .sc (.int .u8 n2), ⟨rfl, n2, rfl, rfl⟩, hk⟩)) ?_
          refine dreg_q [67] [] rfl (load_i tab_ok rfl rfl) ?_
          refine dreg_q [68] [] rfl (call_r (data_is n2) rfl rfl (arg_e arg_nil) (.inl rfl) (fun _ => rfl)) ?_
          refine dreg_q [6] [] rfl (step_C tab_ok (fun K hk => hk)) ?_
          refine dreg_q [70] [] rfl (conv_int tab_ok rfl rfl rfl (IntWalk.u64_in (i : Int) ⟨by omega, by omega⟩)) ?_
          refine dreg_q [71] [] rfl (build_struct tab_ok rfl rfl rfl rfl) ?_
          refine dreg_w [61, 62, 63, 69, 72] [65] rfl (call_new hA rfl rfl (arg_S rfl rfl (arg_e (arg_e (arg_e (arg_e arg_nil))))) (.inr (ok2_plain _ _ _ _)) rfl rfl) ?_
          refine dreg_q [73] [392] rfl (step_C tab_ok (fun K hk => hk)) ?_
          refine dreg_q [60] [392] rfl (step_C tab_ok (fun K hk => hk)) ?_
          refine dreg_q [60] [392] rfl (step_C tab_ok (fun K hk => hk)) ?_
          refine dreg_s [9, 74] [256, 392] (store_row tab_ok rfl rfl rfl ⟨_, ⟨rfl, rfl, rfl⟩, rfl⟩ rfl) ?_
          refine dreg_q [75] [] rfl (step_C tab_ok (fun K hk => hk)) ?_
          refine dreg_end (by kernel_rfl) ?_
          refine blk_n ?_
          refine mid_n (Sum.inr (t, hd, n1.tmod l.length)) [(64, some 64), (65, some 65), (66, some 256), (67, some 392)] ⟨hv, hs⟩ ?_
          exact .of rfl rfl rfl rfl rfl ⟨⟨_, rfl, .refl _⟩, rfl, ⟨_, rfl, .refl _⟩, rfl, ⟨_, rfl, .refl _⟩, rfl, ⟨_, rfl, .refl _⟩, rfl, ⟨_, rfl, .refl _⟩, rfl, ⟨_, rfl, .refl _⟩, rfl, ⟨_, rfl, .refl _⟩, rfl, trivial⟩ ⟨⟨rfl, rfl, _, rfl, .refl _⟩, ⟨rfl, rfl, _, rfl, .refl _⟩, ⟨rfl, rfl, _, rfl, .refl _⟩, ⟨rfl, rfl, _, rfl, .refl _⟩, trivial⟩
        · have hAe := act_bad a h6 (dataB n2) ⟨0, i⟩ l hd (n1.tmod l.length) he
          rw [← ha] at hAe
          generalize actE (actP a) l hd (n1.tmod l.length) = e at *
          refine wc_block ?_
          refine wc_seq ?_
          refine wc_region ?_
          refine reg_quiet rfl (step_C tab_ok (fun K hk => hk)) ?_
          refine reg_quiet rfl (step_C tab_ok (fun K hk => hk)) ?_
          refine reg_quiet rfl (step_C tab_ok (fun K hk => hk)) ?_
          refine reg_nil ?_
          refine seq_n ?_
          refine wc_true rfl (by assumption) ?_
          refine wc_draw (by kernel_rfl) ?_
          refine dreg_q [5] [64, 65] rfl (load_box tab_ok rfl rfl rfl rfl) ?_
          refine dreg_q [7] [] rfl (step_C tab_ok (fun K hk => hk)) ?_
          refine dreg_q [8] [] rfl (step_C tab_ok (fun K hk => hk)) ?_
          refine dreg_q [1] [] rfl (step_C tab_ok (fun K hk => hk)) ?_
          refine dreg_q [6] [] rfl (step_C tab_ok (fun K hk => hk)) ?_
          refine dreg_q [64, 65] [] rfl (index_arr tab_ok rfl rfl rfl rfl rfl (by omega) hti) ?_
          refine dreg_q [66] [] rfl (step_C tab_ok (fun K hk => ⟨by omega, by omega, .sc (.int .u8 n2), ⟨rfl, n2, rfl, rfl⟩, hk⟩)) ?_
          refine dreg_q [67] [] rfl (load_i tab_ok rfl rfl) ?_
          refine dreg_q [68] [] rfl (call_r (data_is n2) rfl rfl (arg_e arg_nil) (.inl rfl) (fun _ => rfl)) ?_
          refine dreg_q [6] [] rfl (step_C tab_ok (fun K hk => hk)) ?_
          refine dreg_q [70] [] rfl (conv_int tab_ok rfl rfl rfl (IntWalk.u64_in (i : Int) ⟨by omega, by omega⟩)) ?_
          refine dreg_q [71] [] rfl (build_struct tab_ok rfl rfl rfl rfl) ?_
          refine dreg_q [61, 62, 63, 69, 72] [65] rfl (call_r hAe rfl rfl (arg_S rfl rfl (arg_e (arg_e (arg_e (arg_e arg_nil))))) (.inr (err2_plain _)) (fun _ => rfl)) ?_
          refine dreg_q [73] [] rfl (step_C tab_ok (fun K hk => hk)) ?_
          refine dreg_q [60] [] rfl (step_C tab_ok (fun K hk => hk)) ?_
          refine dreg_q [60] [] rfl (step_C tab_ok (fun K hk => hk)) ?_
          refine dreg_s [9, 74] [256] (store_row tab_ok rfl rfl rfl ⟨_, ⟨rfl, rfl, rfl⟩, rfl⟩ rfl) ?_
          refine dreg_q [75] [] rfl (step_C tab_ok (fun K hk => hk)) ?_
          refine dreg_end (by kernel_rfl) ?_
          refine blk_n ?_
          refine mid_n (Sum.inl e) [(64, some 64), (65, some 65)] he ?_
          exact .of rfl rfl rfl rfl rfl ⟨⟨_, rfl, .refl _⟩, rfl, ⟨_, rfl, .refl _⟩, rfl, ⟨_, rfl, .refl _⟩, rfl, ⟨_, rfl, .refl _⟩, rfl, trivial⟩ ⟨⟨rfl, rfl, _, rfl, .refl _⟩, ⟨rfl, rfl, _, rfl, .refl _⟩, trivial⟩
      · have c1 : decide (n0.tmod 9 < 6) = false := decide_eq_false (by omega)
        have c2 : decide (n0.tmod 9 = 6) = true := decide_eq_true (by omega)
        cases hw : waitB l with
        | true =>
          have hB := begin_ok l hd hc hw
          have hv := begin_valid hc hw
          have hs := step_begin hc hw
          have hbl := beginL_len (l := l)
          rw [show (6 : Int) = n0.tmod 9 by omega] at hs
          rw [← hbl] at hB
          generalize beginL l = t at *
          refine wc_block ?_
          refine wc_seq ?_
          refine wc_region ?_
          refine reg_quiet rfl (step_C tab_ok (fun K hk => hk)) ?_
          refine reg_quiet rfl (step_C tab_ok (fun K hk => hk)) ?_
          refine reg_quiet rfl (step_C tab_ok (fun K hk => hk)) ?_
          refine reg_nil ?_
          refine seq_n ?_
          refine wc_false rfl (by assumption) ?_
          refine wc_seq ?_
          refine wc_region ?_
          refine reg_quiet rfl (step_C tab_ok (fun K hk => hk)) ?_
          refine reg_quiet rfl (step_C tab_ok (fun K hk => hk)) ?_
          refine reg_quiet rfl (step_C tab_ok (fun K hk => hk)) ?_
          refine reg_nil ?_
          refine seq_n ?_
          refine wc_true rfl (by assumption) ?_
          refine wc_region ?_
          refine reg_quiet rfl (load_box tab_ok rfl rfl rfl rfl) ?_
          refine reg_new (call_new hB rfl rfl (arg_S rfl rfl arg_nil) (.inr (ok3_plain _ _ _ _ _ _)) rfl rfl) rfl ?_
          refine reg_quiet rfl (step_C tab_ok (fun K hk => hk)) ?_
          refine reg_quiet rfl (step_C tab_ok (fun K hk => hk)) ?_
          refine reg_quiet rfl (step_C tab_ok (fun K hk => hk)) ?_
          refine reg_quiet rfl (step_C tab_ok (fun K hk => hk)) ?_
          refine reg_store (store_row tab_ok rfl rfl rfl ⟨_, ⟨rfl, rfl, rfl⟩, rfl⟩ rfl) ?_
          refine reg_quiet rfl (step_C tab_ok (fun K hk => hk)) ?_
          refine reg_quiet rfl (step_C tab_ok (fun K hk => hk)) ?_
          refine reg_nil ?_
          refine blk_n ?_
          refine mid_n (Sum.inr (t, hd, wAt l)) [(64, some 64), (65, some 65), (66, some 256), (67, some 328)] ⟨hv, hs⟩ ?_
          exact .of rfl rfl rfl rfl rfl ⟨⟨_, rfl, .refl _⟩, rfl, ⟨_, rfl, .refl _⟩, rfl, ⟨_, rfl, .refl _⟩, rfl, ⟨_, rfl, .refl _⟩, rfl, ⟨_, rfl, .refl _⟩, rfl, ⟨_, rfl, .refl _⟩, rfl, ⟨_, rfl, .refl _⟩, rfl, trivial⟩ ⟨⟨rfl, rfl, _, rfl, .refl _⟩, ⟨rfl, rfl, _, rfl, .refl _⟩, ⟨rfl, rfl, _, rfl, .refl _⟩, ⟨rfl, rfl, _, rfl, .refl _⟩, trivial⟩
        | false =>
          have hBe := begin_none l hd hc hw
          refine wc_block ?_
          refine wc_seq ?_
          refine wc_region ?_
          refine reg_quiet rfl (step_C tab_ok (fun K hk => hk)) ?_
          refine reg_quiet rfl (step_C tab_ok (fun K hk => hk)) ?_
          refine reg_quiet rfl (step_C tab_ok (fun K hk => hk)) ?_
          refine reg_nil ?_
          refine seq_n ?_
          refine wc_false rfl (by assumption) ?_
          refine wc_seq ?_
          refine wc_region ?_
          refine reg_quiet rfl (step_C tab_ok (fun K hk => hk)) ?_
          refine reg_quiet rfl (step_C tab_ok (fun K hk => hk)) ?_
          refine reg_quiet rfl (step_C tab_ok (fun K hk => hk)) ?_
          refine reg_nil ?_
          refine seq_n ?_
          refine wc_true rfl (by assumption) ?_
          refine wc_region ?_
          refine reg_quiet rfl (load_box tab_ok rfl rfl rfl rfl) ?_
          refine reg_quiet rfl (call_r hBe rfl rfl (arg_S rfl rfl arg_nil) (.inr (err3_plain _)) (fun _ => rfl)) ?_
          refine reg_quiet rfl (step_C tab_ok (fun K hk => hk)) ?_
          refine reg_quiet rfl (step_C tab_ok (fun K hk => hk)) ?_
          refine reg_quiet rfl (step_C tab_ok (fun K hk => hk)) ?_
          refine reg_quiet rfl (step_C tab_ok (fun K hk => hk)) ?_
          refine reg_store (store_row tab_ok rfl rfl rfl ⟨_, ⟨rfl, rfl, rfl⟩, rfl⟩ rfl) ?_
          refine reg_quiet rfl (step_C tab_ok (fun K hk => hk)) ?_
          refine reg_quiet rfl (step_C tab_ok (fun K hk => hk)) ?_
          refine reg_nil ?_
          refine blk_n ?_
          refine mid_n (Sum.inl 11) [(64, some 64), (65, some 65)] (show (11 : Int) ≠ 0 by decide) ?_
          exact .of rfl rfl rfl rfl rfl ⟨⟨_, rfl, .refl _⟩, rfl, ⟨_, rfl, .refl _⟩, rfl, ⟨_, rfl, .refl _⟩, rfl, ⟨_, rfl, .refl _⟩, rfl, trivial⟩ ⟨⟨rfl, rfl, _, rfl, .refl _⟩, ⟨rfl, rfl, _, rfl, .refl _⟩, trivial⟩
      · have c1 : decide (n0.tmod 9 < 6) = false := decide_eq_false (by omega)
        have c2 : decide (n0.tmod 9 = 6) = false := decide_eq_false (by omega)
        rcases placeOr hc n1 (decide (n0.tmod 9 = 7)) with ⟨e, he, hPe⟩ | ⟨t, h2, at_, hP, hv, hs⟩
        · refine wc_block ?_
          refine wc_seq ?_
          refine wc_region ?_
          refine reg_quiet rfl (step_C tab_ok (fun K hk => hk)) ?_
          refine reg_quiet rfl (step_C tab_ok (fun K hk => hk)) ?_
          refine reg_quiet rfl (step_C tab_ok (fun K hk => hk)) ?_
          refine reg_nil ?_
          refine seq_n ?_
          refine wc_false rfl (by assumption) ?_
          refine wc_seq ?_
          refine wc_region ?_
          refine reg_quiet rfl (step_C tab_ok (fun K hk => hk)) ?_
          refine reg_quiet rfl (step_C tab_ok (fun K hk => hk)) ?_
          refine reg_quiet rfl (step_C tab_ok (fun K hk => hk)) ?_
          refine reg_nil ?_
          refine seq_n ?_
          refine wc_false rfl (by assumption) ?_
          refine wc_draw (by kernel_rfl) ?_
          refine dreg_q [5] [64, 65] rfl (load_box tab_ok rfl rfl rfl rfl) ?_
          refine dreg_q [1] [] rfl (step_C tab_ok (fun K hk => hk)) ?_
          refine dreg_q [6] [] rfl (step_C tab_ok (fun K hk => hk)) ?_
          refine dreg_q [45, 46] [] rfl (index_arr tab_ok rfl rfl rfl rfl rfl (by omega) hti) ?_
          refine dreg_q [47] [] rfl (step_C tab_ok (fun K hk => ⟨by omega, by omega, .sc (.int .u8 n1), ⟨rfl, n1, rfl, rfl⟩, hk⟩)) ?_
          refine dreg_q [48] [] rfl (load_i tab_ok rfl rfl) ?_
          refine dreg_q [49] [] rfl (conv_int tab_ok rfl rfl rfl (wrap_i64 (by omega) (by omega))) ?_
          refine dreg_q [8] [] rfl (step_C tab_ok (fun K hk => hk)) ?_
          refine dreg_q [51] [] rfl (step_C tab_ok (fun K hk => hk)) ?_
          refine dreg_q [44, 50, 52] [65] rfl (call_r hPe rfl rfl (arg_S rfl rfl (arg_e (arg_e arg_nil))) (.inr (err3_plain _)) (fun _ => rfl)) ?_
          refine dreg_q [53] [] rfl (step_C tab_ok (fun K hk => hk)) ?_
          refine dreg_q [43] [] rfl (step_C tab_ok (fun K hk => hk)) ?_
          refine dreg_q [43] [] rfl (step_C tab_ok (fun K hk => hk)) ?_
          refine dreg_q [43] [] rfl (step_C tab_ok (fun K hk => hk)) ?_
          refine dreg_s [9, 54] [256] (store_row tab_ok rfl rfl rfl ⟨_, ⟨rfl, rfl, rfl⟩, rfl⟩ rfl) ?_
          refine dreg_q [55] [] rfl (step_C tab_ok (fun K hk => hk)) ?_
          refine dreg_q [56] [] rfl (step_C tab_ok (fun K hk => hk)) ?_
          refine dreg_end (by kernel_rfl) ?_
          refine blk_n ?_
          refine mid_n (Sum.inl e) [(64, some 64), (65, some 65)] he ?_
          exact .of rfl rfl rfl rfl rfl ⟨⟨_, rfl, .refl _⟩, rfl, ⟨_, rfl, .refl _⟩, rfl, ⟨_, rfl, .refl _⟩, rfl, ⟨_, rfl, .refl _⟩, rfl, trivial⟩ ⟨⟨rfl, rfl, _, rfl, .refl _⟩, ⟨rfl, rfl, _, rfl, .refl _⟩, trivial⟩
        · replace hs := hs (n0.tmod 9) (by omega)
          refine wc_block ?_
          refine wc_seq ?_
          refine wc_region ?_
          refine reg_quiet rfl (step_C tab_ok (fun K hk => hk)) ?_
          refine reg_quiet rfl (step_C tab_ok (fun K hk => hk)) ?_
          refine reg_quiet rfl (step_C tab_ok (fun K hk => hk)) ?_
          refine reg_nil ?_
          refine seq_n ?_
          refine wc_false rfl (by assumption) ?_
          refine wc_seq ?_
          refine wc_region ?_
          refine reg_quiet rfl (step_C tab_ok (fun K hk => hk)) ?_
          refine reg_quiet rfl (step_C tab_ok (fun K hk => hk)) ?_
          refine reg_quiet rfl (step_C tab_ok (fun K hk => hk)) ?_
          refine reg_nil ?_
          refine seq_n ?_
          refine wc_false rfl (by assumption) ?_
          refine wc_draw (by kernel_rfl) ?_
          refine dreg_q [5] [64, 65] rfl (load_box tab_ok rfl rfl rfl rfl) ?_
          refine dreg_q [1] [] rfl (step_C tab_ok (fun K hk => hk)) ?_
          refine dreg_q [6] [] rfl (step_C tab_ok (fun K hk => hk)) ?_
          refine dreg_q [45, 46] [] rfl (index_arr tab_ok rfl rfl rfl rfl rfl (by omega) hti) ?_
          refine dreg_q [47] [] rfl (step_C tab_ok (fun K hk => ⟨by omega, by omega, .sc (.int .u8 n1), ⟨rfl, n1, rfl, rfl⟩, hk⟩)) ?_
          refine dreg_q [48] [] rfl (load_i tab_ok rfl rfl) ?_
          refine dreg_q [49] [] rfl (conv_int tab_ok rfl rfl rfl (wrap_i64 (by omega) (by omega))) ?_
          refine dreg_q [8] [] rfl (step_C tab_ok (fun K hk => hk)) ?_
          refine dreg_q [51] [] rfl (step_C tab_ok (fun K hk => hk)) ?_
          refine dreg_w [44, 50, 52] [65] rfl (call_new hP rfl rfl (arg_S rfl rfl (arg_e (arg_e arg_nil))) (.inr (ok3_plain _ _ _ _ _ _)) rfl rfl) ?_
          refine dreg_q [53] [392] rfl (step_C tab_ok (fun K hk => hk)) ?_
          refine dreg_q [43] [392] rfl (step_C tab_ok (fun K hk => hk)) ?_
          refine dreg_q [43] [392] rfl (step_C tab_ok (fun K hk => hk)) ?_
          refine dreg_q [43] [392] rfl (step_C tab_ok (fun K hk => hk)) ?_
          refine dreg_s [9, 54] [256, 392] (store_row tab_ok rfl rfl rfl ⟨_, ⟨rfl, rfl, rfl⟩, rfl⟩ rfl) ?_
          refine dreg_q [55] [] rfl (step_C tab_ok (fun K hk => hk)) ?_
          refine dreg_q [56] [] rfl (step_C tab_ok (fun K hk => hk)) ?_
          refine dreg_end (by kernel_rfl) ?_
          refine blk_n ?_
          refine mid_n (Sum.inr (t, h2, at_)) [(64, some 64), (65, some 65), (66, some 256), (67, some 392)] ⟨hv, hs⟩ ?_
          exact .of rfl rfl rfl rfl rfl ⟨⟨_, rfl, .refl _⟩, rfl, ⟨_, rfl, .refl _⟩, rfl, ⟨_, rfl, .refl _⟩, rfl, ⟨_, rfl, .refl _⟩, rfl, ⟨_, rfl, .refl _⟩, rfl, ⟨_, rfl, .refl _⟩, rfl, ⟨_, rfl, .refl _⟩, rfl, trivial⟩ ⟨⟨rfl, rfl, _, rfl, .refl _⟩, ⟨rfl, rfl, _, rfl, .refl _⟩, ⟨rfl, rfl, _, rfl, .refl _⟩, ⟨rfl, rfl, _, rfl, .refl _⟩, trivial⟩
    · rintro (e | ⟨t, h2, at_⟩) hm
      · have hm' : (!decide (e = 0)) = true := by rw [decide_eq_false hm]; rfl
        refine wc_of ?_
        refine wc_seq ?_
        refine wc_seq ?_
        refine wc_region ?_
        refine reg_quiet rfl (step_C tab_ok (fun K hk => hk)) ?_
        refine reg_quiet rfl (step_C tab_ok (fun K hk => hk)) ?_
        refine reg_nil ?_
        refine seq_n ?_
        refine wc_true rfl (by assumption) ?_
        refine wc_exit ?_
        refine seq_x ?_
        refine blk_x ?_
        refine seq_n ?_
        refine wc_region ?_
        refine reg_quiet rfl (step_C tab_ok (fun K hk => hk)) ?_
        refine reg_quiet rfl (add_int tab_ok rfl rfl (wrap_i64 (by omega) (by omega))) ?_
        refine reg_quiet rfl (step_C tab_ok (fun K hk => hk)) ?_
        refine reg_nil ?_
        refine loop_n (i + 1, l, hd) [(64, some 64), (65, some 65)] ⟨hlt, hc⟩ (by simp only; omega) ?_
        exact .of rfl rfl rfl rfl rfl ⟨⟨_, rfl, .refl _⟩, rfl, ⟨_, rfl, .refl _⟩, rfl, ⟨_, rfl, .refl _⟩, rfl, trivial⟩ ⟨⟨rfl, rfl, _, rfl, .refl _⟩, ⟨rfl, rfl, _, rfl, .refl _⟩, trivial⟩
      · obtain ⟨hm1, hm2⟩ := hm
        simp only at hm1 hm2
        have q1 : (!decide (chkS t h2 = 0)) = false := by rw [decide_eq_true hm1]; rfl
        have q2 : (!decide ((t.length : Int) = l.length)) = false := by rw [decide_eq_true (by rw [hm2.len])]; rfl
        refine wc_of ?_
        refine wc_seq ?_
        refine wc_seq ?_
        refine wc_region ?_
        refine reg_quiet rfl (step_C tab_ok (fun K hk => hk)) ?_
        refine reg_quiet rfl (step_C tab_ok (fun K hk => hk)) ?_
        refine reg_nil ?_
        refine seq_n ?_
        refine wc_false rfl rfl ?_
        refine wc_skip ?_
        refine seq_n ?_
        refine wc_seq ?_
        refine wc_seq ?_
        refine wc_region ?_
        refine reg_quiet rfl (load_box tab_ok rfl rfl rfl rfl) ?_
        refine reg_quiet rfl (call_r (shcheck_is t h2) rfl rfl (arg_S rfl rfl arg_nil) (.inr (int_plain _ _)) (fun _ => rfl)) ?_
        refine reg_quiet rfl (step_C tab_ok (fun K hk => hk)) ?_
        refine reg_quiet rfl (step_C tab_ok (fun K hk => hk)) ?_
        refine reg_on rfl rfl (by assumption) ?_
        refine reg_quiet rfl (load_box tab_ok rfl rfl rfl rfl) ?_
        refine reg_on rfl rfl (by assumption) ?_
        refine reg_quiet rfl (call_r (refshcheck_is t h2) rfl rfl (arg_S rfl rfl arg_nil) (.inr (int_plain _ _)) (fun _ => rfl)) ?_
        refine reg_on rfl rfl (by assumption) ?_
        refine reg_quiet rfl (step_C tab_ok (fun K hk => hk)) ?_
        refine reg_quiet rfl (pick_F tab_ok rfl (by assumption) rfl) ?_
        refine reg_quiet rfl (step_C tab_ok (fun K hk => hk)) ?_
        refine reg_on rfl rfl (by assumption) ?_
        refine reg_quiet rfl (step_C tab_ok (fun K hk => hk)) ?_
        refine reg_on rfl rfl (by assumption) ?_
        refine reg_quiet rfl (load_box tab_ok rfl rfl rfl rfl) ?_
        refine reg_on rfl rfl (by assumption) ?_
        refine reg_quiet rfl (len_own tab_ok rfl rfl) ?_
        refine reg_on rfl rfl (by assumption) ?_
        refine reg_quiet rfl (step_C tab_ok (fun K hk => hk)) ?_
        refine reg_on rfl rfl (by assumption) ?_
        refine reg_quiet rfl (load_box tab_ok rfl rfl rfl rfl) ?_
        refine reg_on rfl rfl (by assumption) ?_
        refine reg_quiet rfl (len_own tab_ok rfl rfl) ?_
        refine reg_on rfl rfl (by assumption) ?_
        refine reg_quiet rfl (step_C tab_ok (fun K hk => hk)) ?_
        refine reg_quiet rfl (pick_F tab_ok rfl (by assumption) rfl) ?_
        refine reg_nil ?_
        refine seq_n ?_
        refine wc_false rfl (by assumption) ?_
        refine wc_skip ?_
        refine seq_n ?_
        refine wc_seq ?_
        refine wc_seq ?_
        refine wc_region ?_
        refine reg_quiet rfl (step_C tab_ok (fun K hk => hk)) ?_
        refine reg_nil ?_
        refine seq_n ?_
        refine wc_block ?_
        refine wc_inv (fun k : Nat => ⟨(11, .int .i64 k) :: playOkEnv ts i (n0.tmod 9) at_, playOkRows l t hd h2, 72, Try.f12.ntmps, 64⟩) (fun k => k ≤ t.length) (fun k => t.length - k) 0 [(64, some 64), (65, some 65), (66, some 66), (67, some 67)] (Nat.zero_le _)
          (.of rfl rfl rfl rfl rfl ⟨⟨_, rfl, .refl _⟩, rfl, ⟨_, rfl, .refl _⟩, rfl, ⟨_, rfl, .refl _⟩, rfl, ⟨_, rfl, .refl _⟩, rfl, ⟨_, rfl, .refl _⟩, rfl, ⟨_, rfl, .refl _⟩, rfl, ⟨_, rfl, .refl _⟩, rfl, trivial⟩ ⟨⟨rfl, rfl, _, rfl, .refl _⟩, ⟨rfl, rfl, _, rfl, .refl _⟩, ⟨rfl, rfl, _, rfl, .refl _⟩, ⟨rfl, rfl, _, rfl, .refl _⟩, trivial⟩) ?_
        intro k hk
        refine wc_of ?_
        refine wc_seq ?_
        refine wc_seq ?_
        refine wc_region ?_
        refine reg_quiet rfl (step_C tab_ok (fun K hk => hk)) ?_
        refine reg_quiet rfl (step_C tab_ok (fun K hk => hk)) ?_
        refine reg_quiet rfl (load_box tab_ok rfl rfl rfl rfl) ?_
        refine reg_quiet rfl (len_own tab_ok rfl rfl) ?_
        refine reg_quiet rfl (step_C tab_ok (fun K hk => hk)) ?_
        refine reg_nil ?_
        refine seq_n ?_
        refine wc_cond rfl (fun hb2 => ?_) (fun hb2 => ?_)
        · have hlt2 : k < t.length := by have := of_decide_eq_true hb2; omega
          have hlt3 : k < l.length := by rw [← hm2.len]; exact hlt2
          obtain ⟨f, hf0⟩ : ∃ f, l[k]? = some f := ⟨_, List.getElem?_eq_getElem hlt3⟩
          obtain ⟨g, hg0⟩ : ∃ g, t[k]? = some g := ⟨_, List.getElem?_eq_getElem hlt2⟩
          obtain ⟨q3, q4, q5⟩ := hm2.ok k f g hf0 hg0
          have hf : l[((k : Int)).toNat]? = some f := by rw [Int.toNat_natCast]; exact hf0
          have hg : t[((k : Int)).toNat]? = some g := by rw [Int.toNat_natCast]; exact hg0
          simp only [offB] at q3
          simp only [lostB] at q4
          simp only [othB] at q5
          clear q1 q2 hm1 hm2 hts hby hti hti0 b0 b1 b2 ha ha9 hc v1 v3 v4 v5 hpos hlen hL hh hb hlt hi hb2 hf0 hg0
          refine wc_skip ?_
          refine seq_n ?_
          refine wc_seq ?_
          refine wc_block ?_
          refine wc_seq ?_
          refine wc_draw (by kernel_rfl) ?_
          refine dreg_q [5] [64, 65] rfl (step_C tab_ok (fun K hk => hk)) ?_
          refine dreg_q [111] [64, 65] rfl (load_box tab_ok rfl rfl rfl rfl) ?_
          refine dreg_q [11] [] rfl (step_C tab_ok (fun K hk => hk)) ?_
          refine dreg_q [112, 113] [65] rfl (index_own tab_ok rfl rfl rfl rfl rfl (by omega) (by omega)) ?_
          refine dreg_q [114] [65] rfl (load_row (v := .d (encFrame f)) tab_ok rfl rfl ⟨rfl, f, hf, encFrame f, rfl, rfl⟩ rfl) ?_
          refine dreg_q [9] [66, 67] rfl (step_C tab_ok (fun K hk => hk)) ?_
          refine dreg_q [116] [66, 67] rfl (load_box tab_ok rfl rfl rfl rfl) ?_
          refine dreg_q [11] [] rfl (step_C tab_ok (fun K hk => hk)) ?_
          refine dreg_q [117, 118] [67] rfl (index_own tab_ok rfl rfl rfl rfl rfl (by omega) (by omega)) ?_
          refine dreg_q [119] [67] rfl (load_row (v := .d (encFrame g)) tab_ok rfl rfl ⟨rfl, g, hg, encFrame g, rfl, rfl⟩ rfl) ?_
          refine dreg_w [] [] rfl (step_C tab_ok (fun K hk => hk)) ?_
          refine dreg_w [] [] rfl (step_C tab_ok (fun K hk => hk)) ?_
          refine dreg_s [12, 115] [192] (store_row tab_ok rfl rfl rfl ⟨_, ⟨rfl, rfl, rfl⟩, rfl⟩ rfl) ?_
          refine dreg_s [13, 120] [200] (store_row tab_ok rfl rfl rfl ⟨_, ⟨rfl, rfl, rfl⟩, rfl⟩ rfl) ?_
          refine dreg_end (by kernel_rfl) ?_
          refine seq_n ?_
          refine wc_seq ?_
          refine wc_seq_cut 143 (.bool (!decide ((k : Int) = at_) && (g.ref && !f.ref || (g.ref != f.ref) && decide (n0.tmod 9 < 7)))) _ rfl ?_ ?_
          · refine reg_quiet rfl (step_C tab_ok (fun K hk => hk)) ?_
            refine reg_quiet rfl (step_C tab_ok (fun K hk => hk)) ?_
            refine reg_quiet rfl (step_C tab_ok (fun K hk => hk)) ?_
            refine reg_quiet rfl (step_C tab_ok (fun K hk => hk)) ?_
            refine reg_split rfl rfl rfl (fun hb => ?_) (fun hb => ?_)
            refine reg_on rfl rfl (by assumption) ?_
            refine reg_quiet rfl (step_C tab_ok (fun K hk => hk)) ?_
            refine reg_on rfl rfl (by assumption) ?_
            refine reg_quiet rfl (load_box tab_ok rfl rfl ⟨_, rfl, rfl⟩ rfl) ?_
            refine reg_on rfl rfl (by assumption) ?_
            refine reg_quiet rfl (step_C tab_ok (fun K hk => hk)) ?_
            refine reg_split rfl rfl rfl (fun hb => ?_) (fun hb => ?_)
            refine reg_on rfl rfl (by assumption) ?_
            refine reg_quiet rfl (step_C tab_ok (fun K hk => hk)) ?_
            refine reg_on rfl rfl (by assumption) ?_
            refine reg_quiet rfl (load_box tab_ok rfl rfl ⟨_, rfl, rfl⟩ rfl) ?_
            refine reg_on rfl rfl (by assumption) ?_
            refine reg_quiet rfl (step_C tab_ok (fun K hk => hk)) ?_
            refine reg_on rfl rfl (by assumption) ?_
            refine reg_quiet rfl (pick_T tab_ok rfl (by assumption) rfl) ?_
            refine reg_on rfl rfl (by assumption) ?_
            refine reg_quiet rfl (step_C tab_ok (fun K hk => hk)) ?_
            refine reg_split rfl rfl rfl (fun hb => ?_) (fun hb => ?_)
            refine reg_on rfl rfl (by assumption) ?_
            refine reg_quiet rfl (step_C tab_ok (fun K hk => hk)) ?_
            refine reg_on rfl rfl (by assumption) ?_
            refine reg_quiet rfl (load_box tab_ok rfl rfl ⟨_, rfl, rfl⟩ rfl) ?_
            refine reg_on rfl rfl (by assumption) ?_
            refine reg_quiet rfl (step_C tab_ok (fun K hk => hk)) ?_
            refine reg_on rfl rfl (by assumption) ?_
            refine reg_quiet rfl (load_box tab_ok rfl rfl ⟨_, rfl, rfl⟩ rfl) ?_
            refine reg_on rfl rfl (by assumption) ?_
            refine reg_quiet rfl (step_C tab_ok (fun K hk => hk)) ?_
            refine reg_on rfl rfl (by assumption) ?_
            refine reg_quiet rfl (step_C tab_ok (fun K hk => hk)) ?_
            refine reg_split rfl rfl rfl (fun hb => ?_) (fun hb => ?_)
            refine reg_on rfl rfl (by assumption) ?_
            refine reg_quiet rfl (step_C tab_ok (fun K hk => hk)) ?_
            refine reg_on rfl rfl (by assumption) ?_
            refine reg_quiet rfl (step_C tab_ok (fun K hk => hk)) ?_
            refine reg_on rfl rfl (by assumption) ?_
            refine reg_quiet rfl (pick_T tab_ok rfl (by assumption) rfl) ?_
            refine reg_on rfl rfl (by assumption) ?_
            refine reg_quiet rfl (pick_F tab_ok rfl (by assumption) rfl) ?_
            refine reg_quiet rfl (pick_T tab_ok rfl (by assumption) rfl) ?_
            rotate_left
            refine reg_skip rfl rfl (by assumption) rfl rfl ?_
            refine reg_skip rfl rfl (by assumption) rfl rfl ?_
            refine reg_on rfl rfl (by assumption) ?_
            refine reg_quiet rfl (pick_F tab_ok rfl (by assumption) rfl) ?_
            refine reg_on rfl rfl (by assumption) ?_
            refine reg_quiet rfl (pick_F tab_ok rfl (by assumption) rfl) ?_
            refine reg_quiet rfl (pick_T tab_ok rfl (by assumption) rfl) ?_
            rotate_left
            refine reg_skip rfl rfl (by assumption) rfl rfl ?_
            refine reg_skip rfl rfl (by assumption) rfl rfl ?_
            refine reg_skip rfl rfl (by assumption) rfl rfl ?_
            refine reg_skip rfl rfl (by assumption) rfl rfl ?_
            refine reg_skip rfl rfl (by assumption) rfl rfl ?_
            refine reg_skip rfl rfl (by assumption) rfl rfl ?_
            refine reg_skipU rfl rfl rfl rfl ?_
            refine reg_skipU rfl rfl rfl rfl ?_
            refine reg_skip rfl rfl (by assumption) rfl rfl ?_
            refine reg_on rfl rfl (by assumption) ?_
            refine reg_quiet rfl (pick_T tab_ok rfl (by assumption) rfl) ?_
            refine reg_quiet rfl (pick_T tab_ok rfl (by assumption) rfl) ?_
            rotate_left
            refine reg_skip rfl rfl (by assumption) rfl rfl ?_
            refine reg_skip rfl rfl (by assumption) rfl rfl ?_
            refine reg_skip rfl rfl (by assumption) rfl rfl ?_
            refine reg_on rfl rfl (by assumption) ?_
            refine reg_quiet rfl (pick_F tab_ok rfl (by assumption) rfl) ?_
            refine reg_on rfl rfl (by assumption) ?_
            refine reg_quiet rfl (step_C tab_ok (fun K hk => hk)) ?_
            refine reg_on rfl rfl rfl ?_
            refine reg_quiet rfl (step_C tab_ok (fun K hk => hk)) ?_
            refine reg_on rfl rfl rfl ?_
            refine reg_quiet rfl (load_box tab_ok rfl rfl ⟨_, rfl, rfl⟩ rfl) ?_
            refine reg_on rfl rfl rfl ?_
            refine reg_quiet rfl (step_C tab_ok (fun K hk => hk)) ?_
            refine reg_on rfl rfl rfl ?_
            refine reg_quiet rfl (load_box tab_ok rfl rfl ⟨_, rfl, rfl⟩ rfl) ?_
            refine reg_on rfl rfl rfl ?_
            refine reg_quiet rfl (step_C tab_ok (fun K hk => hk)) ?_
            refine reg_on rfl rfl rfl ?_
            refine reg_quiet rfl (step_C tab_ok (fun K hk => hk)) ?_
            refine reg_split rfl rfl rfl (fun hb => ?_) (fun hb => ?_)
            refine reg_on rfl rfl (by assumption) ?_
            refine reg_quiet rfl (step_C tab_ok (fun K hk => hk)) ?_
            refine reg_on rfl rfl (by assumption) ?_
            refine reg_quiet rfl (step_C tab_ok (fun K hk => hk)) ?_
            refine reg_on rfl rfl rfl ?_
            refine reg_quiet rfl (pick_T tab_ok rfl (by assumption) rfl) ?_
            refine reg_on rfl rfl (by assumption) ?_
            refine reg_quiet rfl (pick_F tab_ok rfl rfl rfl) ?_
            refine reg_quiet rfl (pick_T tab_ok rfl (by assumption) rfl) ?_
            rotate_left
            refine reg_skip rfl rfl (by assumption) rfl rfl ?_
            refine reg_skip rfl rfl (by assumption) rfl rfl ?_
            refine reg_on rfl rfl rfl ?_
            refine reg_quiet rfl (pick_F tab_ok rfl (by assumption) rfl) ?_
            refine reg_on rfl rfl (by assumption) ?_
            refine reg_quiet rfl (pick_F tab_ok rfl rfl rfl) ?_
            refine reg_quiet rfl (pick_T tab_ok rfl (by assumption) rfl) ?_
            rotate_left
            refine reg_skip rfl rfl (by assumption) rfl rfl ?_
            refine reg_skip rfl rfl (by assumption) rfl rfl ?_
            refine reg_skip rfl rfl (by assumption) rfl rfl ?_
            refine reg_skipU rfl rfl rfl rfl ?_
            refine reg_skipU rfl rfl rfl rfl ?_
            refine reg_skipU rfl rfl rfl rfl ?_
            refine reg_skip rfl rfl (by assumption) rfl rfl ?_
            refine reg_skip rfl rfl (by assumption) rfl rfl ?_
            refine reg_skipU rfl rfl rfl rfl ?_
            refine reg_skipU rfl rfl rfl rfl ?_
            refine reg_skipU rfl rfl rfl rfl ?_
            refine reg_skipU rfl rfl rfl rfl ?_
            refine reg_skipU rfl rfl rfl rfl ?_
            refine reg_skipU rfl rfl rfl rfl ?_
            refine reg_skipU rfl rfl rfl rfl ?_
            refine reg_skipU rfl rfl rfl rfl ?_
            refine reg_skipU rfl rfl rfl rfl ?_
            refine reg_skip rfl rfl (by assumption) rfl rfl ?_
            refine reg_quiet rfl (pick_F tab_ok rfl (by assumption) rfl) ?_
            rotate_left
            all_goals refine reg_cut 23 rfl rfl rfl rfl rfl rfl rfl rfl rfl (AVLe.of_eq ?_)
            all_goals (first | rfl | (clear q5; simp_all; done) | (simp_all; done) | (simp_all; omega))
          refine wc_false rfl (by assumption) ?_
          refine wc_skip ?_
          refine seq_n ?_
          refine wc_seq ?_
          refine wc_seq_cut 179 (.bool (f.busy && (!decide (g.block = f.block) || !decide (g.data = f.data) || !g.used) || f.dirty && g.dirty && !decide (g.nonce = f.nonce))) _ rfl ?_ ?_
          · refine reg_quiet rfl (step_C tab_ok (fun K hk => hk)) ?_
            refine reg_quiet rfl (load_box tab_ok rfl rfl ⟨_, rfl, rfl⟩ rfl) ?_
            refine reg_quiet rfl (step_C tab_ok (fun K hk => hk)) ?_
            refine reg_split rfl rfl rfl (fun hb => ?_) (fun hb => ?_)
            refine reg_on rfl rfl (by assumption) ?_
            refine reg_quiet rfl (step_C tab_ok (fun K hk => hk)) ?_
            refine reg_on rfl rfl (by assumption) ?_
            refine reg_quiet rfl (load_box tab_ok rfl rfl ⟨_, rfl, rfl⟩ rfl) ?_
            refine reg_on rfl rfl (by assumption) ?_
            refine reg_quiet rfl (step_C tab_ok (fun K hk => hk)) ?_
            refine reg_on rfl rfl (by assumption) ?_
            refine reg_quiet rfl (load_box tab_ok rfl rfl ⟨_, rfl, rfl⟩ rfl) ?_
            refine reg_on rfl rfl (by assumption) ?_
            refine reg_quiet rfl (step_C tab_ok (fun K hk => hk)) ?_
            refine reg_on rfl rfl (by assumption) ?_
            refine reg_quiet rfl (step_C tab_ok (fun K hk => hk)) ?_
            refine reg_split rfl rfl rfl (fun hb => ?_) (fun hb => ?_)
            refine reg_on rfl rfl (by assumption) ?_
            refine reg_quiet rfl (step_C tab_ok (fun K hk => hk)) ?_
            refine reg_on rfl rfl (by assumption) ?_
            refine reg_quiet rfl (load_box tab_ok rfl rfl ⟨_, rfl, rfl⟩ rfl) ?_
            refine reg_on rfl rfl (by assumption) ?_
            refine reg_quiet rfl (step_C tab_ok (fun K hk => hk)) ?_
            refine reg_on rfl rfl (by assumption) ?_
            refine reg_quiet rfl (load_box tab_ok rfl rfl ⟨_, rfl, rfl⟩ rfl) ?_
            refine reg_on rfl rfl (by assumption) ?_
            refine reg_quiet rfl (neq_data rfl rfl rfl rfl (by kernel_rfl) (by decide) (block_eq g.data f.data)) ?_
            refine reg_on rfl rfl (by assumption) ?_
            refine reg_quiet rfl (pick_F tab_ok rfl (by assumption) rfl) ?_
            refine reg_on rfl rfl (by assumption) ?_
            refine reg_quiet rfl (step_C tab_ok (fun K hk => hk)) ?_
            refine reg_split rfl rfl rfl (fun hb => ?_) (fun hb => ?_)
            refine reg_on rfl rfl (by assumption) ?_
            refine reg_quiet rfl (step_C tab_ok (fun K hk => hk)) ?_
            refine reg_on rfl rfl (by assumption) ?_
            refine reg_quiet rfl (load_box tab_ok rfl rfl ⟨_, rfl, rfl⟩ rfl) ?_
            refine reg_on rfl rfl (by assumption) ?_
            refine reg_quiet rfl (step_C tab_ok (fun K hk => hk)) ?_
            refine reg_on rfl rfl (by assumption) ?_
            refine reg_quiet rfl (pick_F tab_ok rfl (by assumption) rfl) ?_
            refine reg_quiet rfl (pick_T tab_ok rfl (by assumption) rfl) ?_
            refine reg_quiet rfl (step_C tab_ok (fun K hk => hk)) ?_
            refine reg_split rfl rfl rfl (fun hb => ?_) (fun hb => ?_)
            refine reg_on rfl rfl (by assumption) ?_
            refine reg_quiet rfl (step_C tab_ok (fun K hk => hk)) ?_
            refine reg_on rfl rfl (by assumption) ?_
            refine reg_quiet rfl (load_box tab_ok rfl rfl ⟨_, rfl, rfl⟩ rfl) ?_
            refine reg_on rfl rfl (by assumption) ?_
            refine reg_quiet rfl (step_C tab_ok (fun K hk => hk)) ?_
            refine reg_split rfl rfl rfl (fun hb => ?_) (fun hb => ?_)
            refine reg_on rfl rfl (by assumption) ?_
            refine reg_quiet rfl (step_C tab_ok (fun K hk => hk)) ?_
            refine reg_on rfl rfl (by assumption) ?_
            refine reg_quiet rfl (load_box tab_ok rfl rfl ⟨_, rfl, rfl⟩ rfl) ?_
            refine reg_on rfl rfl (by assumption) ?_
            refine reg_quiet rfl (pick_T tab_ok rfl (by assumption) rfl) ?_
            refine reg_on rfl rfl (by assumption) ?_
            refine reg_quiet rfl (step_C tab_ok (fun K hk => hk)) ?_
            refine reg_split rfl rfl rfl (fun hb => ?_) (fun hb => ?_)
            refine reg_on rfl rfl (by assumption) ?_
            refine reg_quiet rfl (step_C tab_ok (fun K hk => hk)) ?_
            refine reg_on rfl rfl (by assumption) ?_
            refine reg_quiet rfl (load_box tab_ok rfl rfl ⟨_, rfl, rfl⟩ rfl) ?_
            refine reg_on rfl rfl (by assumption) ?_
            refine reg_quiet rfl (step_C tab_ok (fun K hk => hk)) ?_
            refine reg_on rfl rfl (by assumption) ?_
            refine reg_quiet rfl (load_box tab_ok rfl rfl ⟨_, rfl, rfl⟩ rfl) ?_
            refine reg_on rfl rfl (by assumption) ?_
            refine reg_quiet rfl (neq_data rfl rfl rfl rfl (by kernel_rfl) (by decide) (nonce_eq g.nonce f.nonce)) ?_
            refine reg_on rfl rfl (by assumption) ?_
            refine reg_quiet rfl (pick_T tab_ok rfl (by assumption) rfl) ?_
            refine reg_quiet rfl (pick_F tab_ok rfl (by assumption) rfl) ?_
            rotate_left
            refine reg_skip rfl rfl (by assumption) rfl rfl ?_
            refine reg_skip rfl rfl (by assumption) rfl rfl ?_
            refine reg_skip rfl rfl (by assumption) rfl rfl ?_
            refine reg_skip rfl rfl (by assumption) rfl rfl ?_
            refine reg_skip rfl rfl (by assumption) rfl rfl ?_
            refine reg_on rfl rfl (by assumption) ?_
            refine reg_quiet rfl (pick_F tab_ok rfl (by assumption) rfl) ?_
            refine reg_quiet rfl (pick_F tab_ok rfl (by assumption) rfl) ?_
            rotate_left
            refine reg_skip rfl rfl (by assumption) rfl rfl ?_
            refine reg_skip rfl rfl (by assumption) rfl rfl ?_
            refine reg_on rfl rfl (by assumption) ?_
            refine reg_quiet rfl (pick_F tab_ok rfl (by assumption) rfl) ?_
            refine reg_on rfl rfl (by assumption) ?_
            refine reg_quiet rfl (step_C tab_ok (fun K hk => hk)) ?_
            refine reg_skip rfl rfl rfl rfl rfl ?_
            refine reg_skip rfl rfl rfl rfl rfl ?_
            refine reg_skip rfl rfl rfl rfl rfl ?_
            refine reg_skip rfl rfl rfl rfl rfl ?_
            refine reg_skip rfl rfl rfl rfl rfl ?_
            refine reg_on rfl rfl (by assumption) ?_
            refine reg_quiet rfl (pick_F tab_ok rfl rfl rfl) ?_
            refine reg_quiet rfl (pick_F tab_ok rfl (by assumption) rfl) ?_
            rotate_left
            refine reg_skip rfl rfl (by assumption) rfl rfl ?_
            refine reg_skip rfl rfl (by assumption) rfl rfl ?_
            refine reg_skip rfl rfl (by assumption) rfl rfl ?_
            refine reg_skipU rfl rfl rfl rfl ?_
            refine reg_skipU rfl rfl rfl rfl ?_
            refine reg_skip rfl rfl (by assumption) rfl rfl ?_
            refine reg_skip rfl rfl (by assumption) rfl rfl ?_
            refine reg_skipU rfl rfl rfl rfl ?_
            refine reg_skipU rfl rfl rfl rfl ?_
            refine reg_skipU rfl rfl rfl rfl ?_
            refine reg_skipU rfl rfl rfl rfl ?_
            refine reg_skipU rfl rfl rfl rfl ?_
            refine reg_skip rfl rfl (by assumption) rfl rfl ?_
            refine reg_quiet rfl (pick_T tab_ok rfl (by assumption) rfl) ?_
            rotate_left
            refine reg_skip rfl rfl (by assumption) rfl rfl ?_
            refine reg_skip rfl rfl (by assumption) rfl rfl ?_
            refine reg_skip rfl rfl (by assumption) rfl rfl ?_
            refine reg_on rfl rfl (by assumption) ?_
            refine reg_quiet rfl (pick_T tab_ok rfl (by assumption) rfl) ?_
            refine reg_quiet rfl (pick_T tab_ok rfl (by assumption) rfl) ?_
            refine reg_quiet rfl (step_C tab_ok (fun K hk => hk)) ?_
            refine reg_skip rfl rfl rfl rfl rfl ?_
            refine reg_skip rfl rfl rfl rfl rfl ?_
            refine reg_skip rfl rfl rfl rfl rfl ?_
            refine reg_skipU rfl rfl rfl rfl ?_
            refine reg_skipU rfl rfl rfl rfl ?_
            refine reg_skip rfl rfl rfl rfl rfl ?_
            refine reg_skip rfl rfl rfl rfl rfl ?_
            refine reg_skipU rfl rfl rfl rfl ?_
            refine reg_skipU rfl rfl rfl rfl ?_
            refine reg_skipU rfl rfl rfl rfl ?_
            refine reg_skipU rfl rfl rfl rfl ?_
            refine reg_skipU rfl rfl rfl rfl ?_
            refine reg_skip rfl rfl rfl rfl rfl ?_
            refine reg_quiet rfl (pick_T tab_ok rfl rfl rfl) ?_
            rotate_left
            refine reg_skip rfl rfl (by assumption) rfl rfl ?_
            refine reg_skip rfl rfl (by assumption) rfl rfl ?_
            refine reg_skip rfl rfl (by assumption) rfl rfl ?_
            refine reg_skip rfl rfl (by assumption) rfl rfl ?_
            refine reg_skip rfl rfl (by assumption) rfl rfl ?_
            refine reg_on rfl rfl (by assumption) ?_
            refine reg_quiet rfl (pick_T tab_ok rfl (by assumption) rfl) ?_
            refine reg_on rfl rfl (by assumption) ?_
            refine reg_quiet rfl (step_C tab_ok (fun K hk => hk)) ?_
            refine reg_skip rfl rfl rfl rfl rfl ?_
            refine reg_skip rfl rfl rfl rfl rfl ?_
            refine reg_skip rfl rfl rfl rfl rfl ?_
            refine reg_on rfl rfl (by assumption) ?_
            refine reg_quiet rfl (pick_T tab_ok rfl rfl rfl) ?_
            refine reg_quiet rfl (pick_T tab_ok rfl (by assumption) rfl) ?_
            refine reg_quiet rfl (step_C tab_ok (fun K hk => hk)) ?_
            refine reg_skip rfl rfl rfl rfl rfl ?_
            refine reg_skip rfl rfl rfl rfl rfl ?_
            refine reg_skip rfl rfl rfl rfl rfl ?_
            refine reg_skipU rfl rfl rfl rfl ?_
            refine reg_skipU rfl rfl rfl rfl ?_
            refine reg_skip rfl rfl rfl rfl rfl ?_
            refine reg_skip rfl rfl rfl rfl rfl ?_
            refine reg_skipU rfl rfl rfl rfl ?_
            refine reg_skipU rfl rfl rfl rfl ?_
            refine reg_skipU rfl rfl rfl rfl ?_
            refine reg_skipU rfl rfl rfl rfl ?_
            refine reg_skipU rfl rfl rfl rfl ?_
            refine reg_skip rfl rfl rfl rfl rfl ?_
            refine reg_quiet rfl (pick_T tab_ok rfl rfl rfl) ?_
            rotate_left
            refine reg_skip rfl rfl (by assumption) rfl rfl ?_
            refine reg_skip rfl rfl (by assumption) rfl rfl ?_
            refine reg_skip rfl rfl (by assumption) rfl rfl ?_
            refine reg_skip rfl rfl (by assumption) rfl rfl ?_
            refine reg_skip rfl rfl (by assumption) rfl rfl ?_
            refine reg_skip rfl rfl (by assumption) rfl rfl ?_
            refine reg_skipU rfl rfl rfl rfl ?_
            refine reg_skipU rfl rfl rfl rfl ?_
            refine reg_skipU rfl rfl rfl rfl ?_
            refine reg_skipU rfl rfl rfl rfl ?_
            refine reg_skipU rfl rfl rfl rfl ?_
            refine reg_skip rfl rfl (by assumption) rfl rfl ?_
            refine reg_skip rfl rfl (by assumption) rfl rfl ?_
            refine reg_skipU rfl rfl rfl rfl ?_
            refine reg_skipU rfl rfl rfl rfl ?_
            refine reg_skipU rfl rfl rfl rfl ?_
            refine reg_skip rfl rfl (by assumption) rfl rfl ?_
            refine reg_quiet rfl (pick_F tab_ok rfl (by assumption) rfl) ?_
            refine reg_quiet rfl (step_C tab_ok (fun K hk => hk)) ?_
            refine reg_on rfl rfl rfl ?_
            refine reg_quiet rfl (step_C tab_ok (fun K hk => hk)) ?_
            refine reg_on rfl rfl rfl ?_
            refine reg_quiet rfl (load_box tab_ok rfl rfl ⟨_, rfl, rfl⟩ rfl) ?_
            refine reg_on rfl rfl rfl ?_
            refine reg_quiet rfl (step_C tab_ok (fun K hk => hk)) ?_
            refine reg_split rfl rfl rfl (fun hb => ?_) (fun hb => ?_)
            refine reg_on rfl rfl (by assumption) ?_
            refine reg_quiet rfl (step_C tab_ok (fun K hk => hk)) ?_
            refine reg_on rfl rfl (by assumption) ?_
            refine reg_quiet rfl (load_box tab_ok rfl rfl ⟨_, rfl, rfl⟩ rfl) ?_
            refine reg_on rfl rfl rfl ?_
            refine reg_quiet rfl (pick_T tab_ok rfl (by assumption) rfl) ?_
            refine reg_on rfl rfl rfl ?_
            refine reg_quiet rfl (step_C tab_ok (fun K hk => hk)) ?_
            refine reg_split rfl rfl rfl (fun hb => ?_) (fun hb => ?_)
            refine reg_on rfl rfl (by assumption) ?_
            refine reg_quiet rfl (step_C tab_ok (fun K hk => hk)) ?_
            refine reg_on rfl rfl (by assumption) ?_
            refine reg_quiet rfl (load_box tab_ok rfl rfl ⟨_, rfl, rfl⟩ rfl) ?_
            refine reg_on rfl rfl (by assumption) ?_
            refine reg_quiet rfl (step_C tab_ok (fun K hk => hk)) ?_
            refine reg_on rfl rfl (by assumption) ?_
            refine reg_quiet rfl (load_box tab_ok rfl rfl ⟨_, rfl, rfl⟩ rfl) ?_
            refine reg_on rfl rfl (by assumption) ?_
            refine reg_quiet rfl (neq_data rfl rfl rfl rfl (by kernel_rfl) (by decide) (nonce_eq g.nonce f.nonce)) ?_
            refine reg_on rfl rfl rfl ?_
            refine reg_quiet rfl (pick_T tab_ok rfl (by assumption) rfl) ?_
            refine reg_quiet rfl (pick_F tab_ok rfl rfl rfl) ?_
            rotate_left
            refine reg_skip rfl rfl (by assumption) rfl rfl ?_
            refine reg_skip rfl rfl (by assumption) rfl rfl ?_
            refine reg_skip rfl rfl (by assumption) rfl rfl ?_
            refine reg_skip rfl rfl (by assumption) rfl rfl ?_
            refine reg_skip rfl rfl (by assumption) rfl rfl ?_
            refine reg_on rfl rfl rfl ?_
            refine reg_quiet rfl (pick_F tab_ok rfl (by assumption) rfl) ?_
            refine reg_quiet rfl (pick_F tab_ok rfl rfl rfl) ?_
            rotate_left
            refine reg_skip rfl rfl (by assumption) rfl rfl ?_
            refine reg_skip rfl rfl (by assumption) rfl rfl ?_
            refine reg_on rfl rfl rfl ?_
            refine reg_quiet rfl (pick_F tab_ok rfl (by assumption) rfl) ?_
            refine reg_on rfl rfl rfl ?_
            refine reg_quiet rfl (step_C tab_ok (fun K hk => hk)) ?_
            refine reg_skip rfl rfl rfl rfl rfl ?_
            refine reg_skip rfl rfl rfl rfl rfl ?_
            refine reg_skip rfl rfl rfl rfl rfl ?_
            refine reg_skip rfl rfl rfl rfl rfl ?_
            refine reg_skip rfl rfl rfl rfl rfl ?_
            refine reg_on rfl rfl rfl ?_
            refine reg_quiet rfl (pick_F tab_ok rfl rfl rfl) ?_
            refine reg_quiet rfl (pick_F tab_ok rfl rfl rfl) ?_
            rotate_left
            all_goals refine reg_cut 36 rfl rfl rfl rfl rfl rfl rfl rfl rfl (AVLe.of_eq ?_)
            all_goals (first | rfl | (clear q5; simp_all; done) | (simp_all; done) | (simp_all; omega))
          refine wc_false rfl (by assumption) ?_
          refine wc_skip ?_
          refine seq_n ?_
          refine wc_seq ?_
          refine wc_region ?_
          refine reg_quiet rfl (step_C tab_ok (fun K hk => hk)) ?_
          refine reg_quiet rfl (load_box tab_ok rfl rfl ⟨_, rfl, rfl⟩ rfl) ?_
          refine reg_quiet rfl (step_C tab_ok (fun K hk => hk)) ?_
          refine reg_store (store_row tab_ok rfl rfl rfl ⟨_, ⟨_, ⟨_, ⟨rfl, rfl, rfl⟩, rfl⟩, rfl⟩, rfl⟩ rfl) ?_
          refine reg_nil ?_
          refine seq_n ?_
          refine wc_seq_cut 190 (.bool (!decide ((k : Int) = at_) && !decide (f = { g with ref := f.ref }))) _ rfl ?_ ?_
          · refine reg_quiet rfl (step_C tab_ok (fun K hk => hk)) ?_
            refine reg_quiet rfl (step_C tab_ok (fun K hk => hk)) ?_
            refine reg_quiet rfl (step_C tab_ok (fun K hk => hk)) ?_
            refine reg_quiet rfl (step_C tab_ok (fun K hk => hk)) ?_
            refine reg_split rfl rfl rfl (fun hb => ?_) (fun hb => ?_)
            refine reg_on rfl rfl (by assumption) ?_
            refine reg_quiet rfl (load_box tab_ok rfl rfl rfl rfl) ?_
            refine reg_on rfl rfl (by assumption) ?_
            refine reg_quiet rfl (load_box tab_ok rfl rfl rfl rfl) ?_
            refine reg_on rfl rfl (by assumption) ?_
            refine reg_quiet rfl (neq_data rfl rfl rfl rfl (by kernel_rfl) (by decide) (frame_eq f { g with ref := f.ref })) ?_
            refine reg_quiet rfl (pick_T tab_ok rfl (by assumption) rfl) ?_
            rotate_left
            refine reg_skip rfl rfl (by assumption) rfl rfl ?_
            refine reg_skip rfl rfl (by assumption) rfl rfl ?_
            refine reg_skip rfl rfl (by assumption) rfl rfl ?_
            refine reg_quiet rfl (pick_F tab_ok rfl (by assumption) rfl) ?_
            rotate_left
            all_goals refine reg_cut 8 rfl rfl rfl rfl rfl rfl rfl rfl rfl (AVLe.of_eq ?_)
            all_goals (first | rfl | (clear q5; simp_all; done) | (simp_all; done) | (simp_all; omega))
          refine wc_false rfl (by assumption) ?_
          refine wc_skip ?_
          refine blk_n ?_
          refine seq_n ?_
          refine wc_region ?_
          refine reg_quiet rfl (step_C tab_ok (fun K hk => hk)) ?_
          refine reg_quiet rfl (add_int tab_ok rfl rfl (wrap_i64 (by omega) (by omega))) ?_
          refine reg_quiet rfl (step_C tab_ok (fun K hk => hk)) ?_
          refine reg_nil ?_
          refine loop_n (k + 1) [(64, some 64), (65, some 65), (66, some 66), (67, some 67)] hlt2 (show t.length - (k + 1) < t.length - k by omega) ?_
          exact .of rfl rfl rfl rfl rfl ⟨⟨_, rfl, .refl _⟩, rfl, ⟨_, rfl, .refl _⟩, rfl, ⟨_, rfl, .refl _⟩, rfl, ⟨_, rfl, .refl _⟩, rfl, ⟨_, rfl, .refl _⟩, rfl, ⟨_, rfl, .refl _⟩, rfl, ⟨_, rfl, .refl _⟩, rfl, trivial⟩ ⟨⟨rfl, rfl, _, rfl, .refl _⟩, ⟨rfl, rfl, _, rfl, .refl _⟩, ⟨rfl, rfl, _, rfl, .refl _⟩, ⟨rfl, rfl, _, rfl, .refl _⟩, trivial⟩
        · refine wc_exit ?_
          refine seq_x ?_
          refine loop_x ?_
          refine blk_x ?_
          refine seq_n ?_
          refine wc_region ?_
          refine reg_quiet rfl (load_box tab_ok rfl rfl rfl rfl) ?_
          refine reg_store (store_row tab_ok rfl rfl rfl ⟨_, ⟨rfl, rfl, rfl⟩, rfl⟩ rfl) ?_
          refine reg_nil ?_
          refine blk_n ?_
          refine seq_n ?_
          refine wc_region ?_
          refine reg_quiet rfl (step_C tab_ok (fun K hk => hk)) ?_
          refine reg_quiet rfl (add_int tab_ok rfl rfl (wrap_i64 (by omega) (by omega))) ?_
          refine reg_quiet rfl (step_C tab_ok (fun K hk => hk)) ?_
          refine reg_nil ?_
          refine loop_n (i + 1, t, h2) [(64, some 64), (65, some 67)] ⟨hlt, hm1⟩ (by simp only; omega) ?_
          exact .of rfl rfl rfl rfl rfl ⟨⟨_, rfl, .refl _⟩, rfl, ⟨_, rfl, .refl _⟩, rfl, ⟨_, rfl, .refl _⟩, rfl, trivial⟩ ⟨⟨rfl, rfl, _, rfl, .refl _⟩, ⟨rfl, rfl, _, rfl, RowLe.noex⟩, trivial⟩
  · refine wc_exit ?_
    refine seq_x ?_
    refine loop_x ?_
    refine blk_x ?_
    refine seq_n ?_
    refine wc_seq ?_
    refine wc_region ?_
    refine reg_quiet rfl (call_r shlives_is rfl rfl arg_nil (.inl rfl) (fun _ => rfl)) ?_
    refine reg_quiet rfl (step_C tab_ok (fun K hk => hk)) ?_
    refine reg_nil ?_
    refine seq_n ?_
    refine wc_ret ?_
    exact ⟨trivial, [], .of rfl rfl rfl rfl rfl ⟨⟨_, rfl, AVLe.of_eq rfl⟩, rfl, trivial⟩ trivial⟩
end Go.Proofs.Ytmdfeekpehcieaa

/- The order in which the victims come. -/
namespace Go.Proofs.Ytmdfeekpehcieaa
open Go.Eng
/-- Every frame used, and none Ref. -/
def fillF0 (i : Nat) (f : Frame) : Frame := { fillF i f with ref := false }
def fill0 (l : List Frame) : List Frame := l.mapIdx fillF0
def mix0 (l : List Frame) (i : Nat) : List Frame := (fill0 l).take i ++ l.drop i
theorem fill0_len (l : List Frame) : (fill0 l).length = l.length := by simp [fill0]
theorem fill0_get {l : List Frame} {i : Nat} {f : Frame} (h : l[i]? = some f) : (fill0 l)[i]? = some (fillF0 i f) := by simp [fill0, h]
theorem mix0_len {l : List Frame} {i : Nat} (h : i ≤ l.length) : (mix0 l i).length = l.length := by simp [mix0, fill0_len]; omega
theorem mix0_zero (l : List Frame) : mix0 l 0 = l := by simp [mix0]
theorem mix0_get {l : List Frame} {i : Nat} {f : Frame} (h : l[i]? = some f) : (mix0 l i)[i]? = some f := by
  have := (List.getElem?_eq_some_iff.1 h).1
  rw [mix0, List.getElem?_append_right (by simp [fill0_len]; omega)]
  simp only [List.length_take, fill0_len, List.getElem?_drop]
  rw [show i + (i - min i l.length) = i by omega]; exact h
theorem mix0_set {l : List Frame} {i : Nat} {f : Frame} (h : l[i]? = some f) : (mix0 l i).set i (fillF0 i f) = mix0 l (i + 1) := by
  have hi := (List.getElem?_eq_some_iff.1 h).1
  apply List.ext_getElem?
  intro j
  rw [List.getElem?_set]
  have hlen : i < (mix0 l i).length := by rw [mix0_len (by omega)]; exact hi
  rcases Nat.lt_trichotomy i j with hj | rfl | hj
  · rw [if_neg (by omega), mix0, mix0, List.getElem?_append_right (by simp [fill0_len]; omega), List.getElem?_append_right (by simp [fill0_len]; omega)]
    simp only [List.length_take, fill0_len, List.getElem?_drop]
    rw [show i + (j - min i l.length) = i + 1 + (j - min (i + 1) l.length) by omega]
  · rw [if_pos rfl, if_pos hlen, mix0, List.getElem?_append_left (by simp [fill0_len]; omega), List.getElem?_take, if_pos (by omega), fill0_get h]
  · rw [if_neg (by omega), mix0, mix0, List.getElem?_append_left (by simp [fill0_len]; omega), List.getElem?_append_left (by simp [fill0_len]; omega), List.getElem?_take, List.getElem?_take, if_pos hj, if_pos (by omega)]
theorem mix0_full (l : List Frame) : mix0 l l.length = fill0 l := by simp [mix0, ← fill0_len l]

structure Calm (F : List Frame) : Prop where
  used : ∀ f ∈ F, f.used = true
  ref : ∀ f ∈ F, f.ref = false
theorem fill0_calm (l : List Frame) : Calm (fill0 l) := by
  constructor <;> intro f hf <;> obtain ⟨i, hi, rfl⟩ := List.getElem_of_mem hf
  · simp [fill0, fillF0, fillF_used]
  · simp [fill0, fillF0]

/-- Evictable at an unwrapped place. -/
def evAt (F : List Frame) (p : Nat) : Bool := match F[p % F.length]? with
  | some f => evB f
  | none => false
/-- How many are evictable among the first i. -/
def cntE (F : List Frame) : Nat → Nat
  | 0 => 0
  | i + 1 => cntE F i + (match F[i]? with | some f => (if evB f = true then 1 else 0) | none => 0)
theorem cntE_le (F : List Frame) : ∀ i, cntE F i ≤ i
  | 0 => Nat.le_refl _
  | i + 1 => by
    have := cntE_le F i
    simp only [cntE]
    split
    · split <;> omega
    · omega

/-- The unwrapped places from one on. -/
def places (F : List Frame) (s n : Nat) : List Nat := (List.range' s n).filter (evAt F)
theorem places_add (F : List Frame) (s n m : Nat) : places F s (n + m) = places F s n ++ places F (s + n) m := by
  simp [places, ← List.range'_append_1, List.filter_append]
theorem evAt_add (F : List Frame) (p : Nat) : evAt F (p + F.length) = evAt F p := by simp [evAt]
theorem places_shift (F : List Frame) (s n : Nat) : places F (s + F.length) n = (places F s n).map (· + F.length) := by
  induction n generalizing s with
  | zero => rfl
  | succ n ih =>
    have h := ih (s + 1)
    rw [show s + 1 + F.length = s + F.length + 1 by omega] at h
    simp only [places, List.range'_succ] at h ⊢
    rw [List.filter_cons, List.filter_cons, evAt_add, h]
    split <;> simp
theorem places_len (F : List Frame) : (places F 0 F.length).length = cntE F F.length := by
  have key : ∀ i, i ≤ F.length → (places F 0 i).length = cntE F i := by
    intro i
    induction i with
    | zero => intro _; rfl
    | succ i ih =>
      intro hi
      rw [places_add, List.length_append, ih (by omega), cntE]
      have hlt : i < F.length := by omega
      have : places F (0 + i) 1 = if evAt F i = true then [i] else [] := by
        simp [places, List.range'_succ, List.filter_cons]
      rw [this]
      simp only [evAt, Nat.mod_eq_of_lt hlt]
      have hf : F[i]? = some F[i] := by simp
      rw [hf]
      simp only
      split <;> simp
  exact key _ (Nat.le_refl _)
/-- A whole round holds each once. -/
theorem places_round (F : List Frame) (s : Nat) : (places F s F.length).length = cntE F F.length := by
  rw [← places_len]
  induction s with
  | zero => rfl
  | succ s ih =>
    rw [← ih]
    -- the first goes, and comes again behind the last
    rcases Nat.eq_zero_or_pos F.length with h0 | h0
    · simp [h0, places]
    · obtain ⟨n, hn⟩ : ∃ n, F.length = n + 1 := ⟨F.length - 1, by omega⟩
      have h1 : places F s F.length = places F s 1 ++ places F (s + 1) n := by rw [hn, Nat.add_comm n 1, places_add]
      have h2 : places F (s + 1) F.length = places F (s + 1) n ++ places F (s + 1 + n) 1 := by rw [← places_add, ← hn]
      have h3 : places F (s + 1 + n) 1 = (places F s 1).map (· + F.length) := by rw [← places_shift]; congr 1; omega
      rw [h1, h2, h3]
      simp only [List.length_append, List.length_map]
      omega

theorem places_sorted (F : List Frame) (s n : Nat) : (places F s n).Pairwise (· < ·) := List.Pairwise.filter _ List.pairwise_lt_range'
theorem places_mem {F : List Frame} {s n p : Nat} : p ∈ places F s n ↔ (s ≤ p ∧ p < s + n) ∧ evAt F p = true := by simp [places, List.mem_range'_1]

theorem sweep_calm {F : List Frame} (hF : Calm F) (h : Nat) : ∀ k, sweep F h k = F
  | 0 => rfl
  | k + 1 => by
    rw [sweep, sweep_calm hF h k, bump]
    cases hx : F[(h + k) % F.length]? with
    | none => rfl
    | some f =>
      have hr := hF.ref f (List.mem_of_getElem? hx)
      simp only
      split
      · have hff : ({ f with ref := false } : Frame) = f := by rw [← hr]
        rw [hff]
        apply List.ext_getElem?
        intro j
        rw [List.getElem?_set]
        split
        · rename_i e; subst e
          have := (List.getElem?_eq_some_iff.1 hx).1
          rw [if_pos this, hx]
        · rfl
      · rfl
theorem stop_calm {F : List Frame} (hF : Calm F) (h k : Nat) : stopB F h k = evAt F (h + k) := by
  simp only [stopB, sweep_calm hF, evAt]
  cases hx : F[(h + k) % F.length]? with
  | none => rfl
  | some f => simp [hF.ref f (List.mem_of_getElem? hx)]

/-- The victim of a calm list: the next place that is evictable. -/
theorem calm_victim {F : List Frame} (hF : Calm F) {c p : Nat} (hcp : c ≤ p) (hp : evAt F p = true) (hno : ∀ q, c ≤ q → q < p → evAt F q = false) (hpos : 0 < F.length) :
    vAt F (c % F.length) = ((p % F.length : Nat) : Int) ∧ vNext F (c % F.length) = F ∧ vAfter F (c % F.length) = (((p + 1) % F.length : Nat) : Int) := by
  have hu : (F.any fun f => !f.used) = false := by
    rw [List.any_eq_false]; intro f hf; simp [hF.used f hf]
  have hmod : ∀ k, evAt F (c % F.length + k) = evAt F (c + k) := fun k => by simp [evAt, Nat.mod_add_mod]
  have hev : F.any evB = true := by
    simp only [evAt] at hp
    cases hx : F[p % F.length]? with
    | none => rw [hx] at hp; cases hp
    | some f => rw [hx] at hp; exact any_hit hx hp
  have hclk : clock F (c % F.length) = p - c := by
    refine clock_hit hev (fun j hj => ?_) ?_
    · rw [stop_calm hF, hmod]; exact hno _ (by omega) (by omega)
    · rw [stop_calm hF, hmod, show c + (p - c) = p by omega]; exact hp
  have hat : (c % F.length + (p - c)) % F.length = p % F.length := by rw [Nat.mod_add_mod, show c + (p - c) = p by omega]
  simp only [vAt, vNext, vAfter, hu, Bool.false_eq_true, if_false, hclk, hat, sweep_calm hF, Nat.mod_add_mod, and_self]

/-- The places of two rounds. -/
theorem two_rounds (F : List Frame) (h : Nat) : places F h (2 * F.length) = places F h F.length ++ (places F h F.length).map (· + F.length) := by
  rw [show 2 * F.length = F.length + F.length by omega, places_add, places_shift]

/-- What is known at the head of the law's loop: k victims have come. -/
structure At (F : List Frame) (h k cur : Nat) : Prop where
  lo : h ≤ cur
  hi : cur ≤ h + 2 * F.length
  rest : (places F h (2 * F.length)).drop k = places F cur (h + 2 * F.length - cur)

theorem at_zero (F : List Frame) (h : Nat) : At F h 0 h := ⟨Nat.le_refl _, by omega, by rw [List.drop_zero]; congr 1; omega⟩

/-- The k-th victim. -/
theorem at_next {F : List Frame} {h k cur : Nat} (ha : At F h k cur) (hk : k < (places F h (2 * F.length)).length) :
    ∃ p, (places F h (2 * F.length))[k]? = some p ∧ cur ≤ p ∧ evAt F p = true ∧ (∀ q, cur ≤ q → q < p → evAt F q = false) ∧ At F h (k + 1) (p + 1) := by
  have hp : (places F h (2 * F.length))[k]? = some (places F h (2 * F.length))[k] := by simp
  obtain ⟨p, hpe⟩ : ∃ p, (places F h (2 * F.length))[k] = p := ⟨_, rfl⟩
  rw [hpe] at hp
  have hdrop : (places F h (2 * F.length)).drop k = p :: (places F h (2 * F.length)).drop (k + 1) := by rw [← hpe, List.drop_eq_getElem_cons hk]
  have hcons := ha.rest.symm.trans hdrop
  have hpm : p ∈ places F cur (h + 2 * F.length - cur) := by rw [hcons]; simp
  obtain ⟨⟨h1, h2⟩, h3⟩ := places_mem.1 hpm
  have hsort := places_sorted F cur (h + 2 * F.length - cur)
  rw [hcons, List.pairwise_cons] at hsort
  have hlo := ha.lo
  have hhi := ha.hi
  have hno : ∀ q, cur ≤ q → q < p → evAt F q = false := by
    intro q hq1 hq2
    cases hq : evAt F q
    · rfl
    · exfalso
      have hqm : q ∈ places F cur (h + 2 * F.length - cur) := places_mem.2 ⟨⟨hq1, by omega⟩, hq⟩
      rw [hcons] at hqm
      rcases List.mem_cons.1 hqm with rfl | hqm
      · omega
      · have := hsort.1 q hqm; omega
  refine ⟨p, hp, h1, h3, hno, ⟨by omega, by omega, ?_⟩⟩
  -- what comes behind p
  have hsplit : places F cur (h + 2 * F.length - cur) = places F cur (p - cur) ++ (places F p 1 ++ places F (p + 1) (h + 2 * F.length - (p + 1))) := by
    have e1 : h + 2 * F.length - cur = (p - cur) + (1 + (h + 2 * F.length - (p + 1))) := by omega
    rw [e1, places_add, places_add, show cur + (p - cur) = p by omega]
  have hz : places F cur (p - cur) = [] := by
    rw [List.eq_nil_iff_forall_not_mem]
    intro q hq
    obtain ⟨⟨g1, g2⟩, g3⟩ := places_mem.1 hq
    rw [hno q g1 (by omega)] at g3; cases g3
  have ho : places F p 1 = [p] := by simp [places, List.range'_succ, h3]
  rw [hz, ho, List.nil_append, List.singleton_append] at hsplit
  have := hcons.symm.trans hsplit
  simp only [List.cons.injEq, true_and] at this
  exact this
end Go.Proofs.Ytmdfeekpehcieaa

/- Shards: sixty-four Places, and sixty-four more. -/
namespace Go.Proofs.Ytmdfeekpehcieaa
open Go.Eng
def kA (i : Nat) : List Frame := (List.range 64).map fun j => if j < i then newF (4095 - j) (decide ((j : Int).tmod 2 > 0)) else zeroFrame
theorem kA_len (i : Nat) : (kA i).length = 64 := by simp [kA]
theorem kA_get {i j : Nat} (h : j < 64) : (kA i)[j]? = some (if j < i then newF (4095 - j) (decide ((j : Int).tmod 2 > 0)) else zeroFrame) := by simp [kA, h]
theorem kA_any {i : Nat} (hi : i < 64) : ((kA i).any fun f => !f.used) = true := any_hit (kA_get hi) (by rw [if_neg (Nat.lt_irrefl i)]; rfl)
theorem kA_first {i : Nat} (hi : i < 64) : fidx (fun f : Frame => !f.used) (kA i) = i := by
  refine fidx_hit (f := zeroFrame) ⟨by rw [kA_len]; omega, fun j f hj hf => ?_⟩ (by rw [kA_get hi, if_neg (Nat.lt_irrefl i)]) rfl
  rw [kA_get (by omega), if_pos hj] at hf
  cases hf
  rfl
theorem kA_at {i : Nat} (hi : i < 64) : vAt (kA i) 0 = i := by simp only [vAt, kA_any hi, if_true, kA_first hi]
theorem kA_after {i : Nat} (hi : i < 64) : vAfter (kA i) 0 = 0 := by simp only [vAfter, kA_any hi, if_true]; rfl
theorem kA_next {i : Nat} (hi : i < 64) : vNext (kA i) 0 = kA i := by simp only [vNext, kA_any hi, if_true]
theorem kA_has {i : Nat} (hi : i < 64) : hasB (4095 - i) (kA i) = false := by
  rw [List.any_eq_false]
  intro f hf
  obtain ⟨j, hj⟩ := List.mem_iff_getElem?.1 hf
  have hj64 := get_lt hj
  rw [kA_len] at hj64
  rw [kA_get hj64] at hj
  cases hj
  split
  · intro h; rw [Bool.and_eq_true] at h; have h2 : (4095 - (j : Int)) = 4095 - i := of_decide_eq_true h.2; omega
  · simp [zeroFrame]
theorem kA_vic {i : Nat} (hi : i < 64) : vicB (kA i) = true := any_hit (kA_get hi) (by rw [if_neg (Nat.lt_irrefl i)]; rfl)
theorem kA_place {i : Nat} (hi : i < 64) : placeL (kA i) 0 (4095 - i) (decide ((i : Int).tmod 2 > 0)) = kA (i + 1) := by
  rw [placeL, kA_next hi, kA_at hi, Int.toNat_natCast]
  refine List.ext_getElem? fun j => ?_
  by_cases hj : j < 64
  · rw [set_at (kA_get hi), kA_get hj, kA_get hj]
    by_cases e : i = j
    · subst e; rw [if_pos rfl, if_pos (by omega)]
    · rw [if_neg e]
      by_cases h2 : j < i
      · rw [if_pos h2, if_pos (by omega)]
      · rw [if_neg h2, if_neg (by omega)]
  · rw [List.getElem?_eq_none (by rw [List.length_set, kA_len]; omega), List.getElem?_eq_none (by rw [kA_len]; omega)]
theorem kA_blk {i : Nat} (hi : i < 64) : blkB (4095 - i) = false := by
  rw [Bool.or_eq_false_iff]; exact ⟨decide_eq_false (by omega), decide_eq_false (by omega)⟩
theorem kA_chk : ∀ {i : Nat}, i ≤ 64 → chkS (kA i) 0 = 0
  | 0, _ => by decide +kernel
  | i + 1, hi => by
    have h := place_valid (loading := decide ((i : Int).tmod 2 > 0)) (kA_chk (i := i) (by omega)) (kA_blk (i := i) (by omega)) (kA_has (i := i) (by omega)) (kA_vic (i := i) (by omega))
    rw [kA_place (by omega)] at h
    have h2 : vAfter (kA i) 0 = 0 := kA_after (by omega)
    rw [h2] at h
    exact h
theorem kA_zero : List.replicate 64 zeroFrame = kA 0 := by decide +kernel
theorem kA_is {i : Nat} (hi : i < 64) : FnIs Try.prog 34 [.d (encS (kA i) 0), .d (i6 (4095 - i)), .bool (decide ((i : Int).tmod 2 > 0))] [] (tup3 (ownS 64 64 0) (.int .i64 i) (.int .i64 0)) [(64, .ds 39 40 true encFrame (kA (i + 1)))] := by
  have h := place_ok (kA i) 0 (4095 - i) (decide ((i : Int).tmod 2 > 0)) (kA_chk (by omega)) (kA_blk hi) (kA_has hi) (kA_vic hi)
  rw [kA_len, kA_after hi, kA_at hi, kA_place hi] at h
  exact h
def blkI (i j : Nat) : Int := if j / 2 + 32 < i then 32 + (j / 2 : Nat) else if j / 2 < i then (j / 2 : Nat) else 4095 - j
def kB (i : Nat) : List Frame := (List.range 64).map fun (j : Nat) => if j % 2 = 1 then newF (4095 - j) true else newF (blkI i j) false
theorem kB_len (i : Nat) : (kB i).length = 64 := by simp [kB]
theorem kB_get {i j : Nat} (h : j < 64) : (kB i)[j]? = some (if j % 2 = 1 then newF (4095 - j) true else newF (blkI i j) false) := by simp [kB, h]
theorem kB_zero : kA 64 = kB 0 := by decide +kernel
theorem kB_calm (i : Nat) : Calm (kB i) := by
  have key : ∀ f ∈ kB i, f.used = true ∧ f.ref = false := by
    intro f hf
    obtain ⟨j, hj⟩ := List.mem_iff_getElem?.1 hf
    have hj64 := get_lt hj
    rw [kB_len] at hj64
    rw [kB_get hj64] at hj
    cases hj
    split <;> exact ⟨rfl, rfl⟩
  exact ⟨fun f hf => (key f hf).1, fun f hf => (key f hf).2⟩
def handB (i : Nat) : Nat := (2 * i - 1) % 64
theorem kB_vict {i : Nat} (hi : i < 64) : vAt (kB i) (handB i) = ((2 * i % 64 : Nat) : Int) ∧ vNext (kB i) (handB i) = kB i ∧ vAfter (kB i) (handB i) = (handB (i + 1) : Nat) := by
  have h := calm_victim (kB_calm i) (c := 2 * i - 1) (p := 2 * i) (by omega) (by
      simp only [evAt, kB_len]
      rw [kB_get (Nat.mod_lt _ (by decide)), if_neg (by omega)]
      rfl) (fun q h1 h2 => by
      have hq : q = 2 * i - 1 := by omega
      subst hq
      simp only [evAt, kB_len]
      rw [kB_get (Nat.mod_lt _ (by decide)), if_pos (by omega)]
      rfl) (by rw [kB_len]; decide)
  rw [kB_len] at h
  exact h
theorem kB_has {i : Nat} (hi : i < 64) : hasB i (kB i) = false := by
  rw [List.any_eq_false]
  intro f hf
  obtain ⟨j, hj⟩ := List.mem_iff_getElem?.1 hf
  have hj64 := get_lt hj
  rw [kB_len] at hj64
  rw [kB_get hj64] at hj
  cases hj
  split
  · intro h; rw [Bool.and_eq_true] at h; have h2 : (4095 - (j : Int)) = i := of_decide_eq_true h.2; omega
  · intro h
    rw [Bool.and_eq_true] at h
    have h2 : blkI i j = i := of_decide_eq_true h.2
    unfold blkI at h2
    split at h2
    · omega
    · split at h2 <;> omega
theorem kB_vic {i : Nat} : vicB (kB i) = true := any_hit (kB_get (j := 0) (by decide)) rfl
theorem kB_blk {i : Nat} (hi : i < 64) : blkB i = false := by
  rw [Bool.or_eq_false_iff]; exact ⟨decide_eq_false (by omega), decide_eq_false (by omega)⟩
theorem kB_place {i : Nat} (hi : i < 64) : placeL (kB i) (handB i) i false = kB (i + 1) := by
  obtain ⟨h1, h2, -⟩ := kB_vict hi
  have hm : 2 * i % 64 < 64 := Nat.mod_lt _ (by decide)
  rw [placeL, h2, h1, Int.toNat_natCast]
  refine List.ext_getElem? fun j => ?_
  by_cases hj : j < 64
  · rw [set_at (kB_get hm), kB_get hj, kB_get hj]
    by_cases e : 2 * i % 64 = j
    · rw [if_pos e, if_neg (by omega)]
      congr 2
      simp only [blkI]
      split
      · omega
      · rw [if_pos (by omega)]; omega
    · rw [if_neg e]
      congr 1
      by_cases h2 : j % 2 = 1
      · rw [if_pos h2, if_pos h2]
      · rw [if_neg h2, if_neg h2]
        congr 1
        simp only [blkI]
        (repeat' split) <;> omega
  · rw [List.getElem?_eq_none (by rw [List.length_set, kB_len]; omega), List.getElem?_eq_none (by rw [kB_len]; omega)]
theorem kB_chk : ∀ {i : Nat}, i ≤ 64 → chkS (kB i) (handB i) = 0
  | 0, _ => by rw [← kB_zero]; exact kA_chk (Nat.le_refl _)
  | i + 1, hi => by
    have h := place_valid (loading := false) (kB_chk (i := i) (by omega)) (kB_blk (i := i) (by omega)) (kB_has (i := i) (by omega)) (kB_vic (i := i))
    rw [kB_place (by omega), (kB_vict (by omega)).2.2] at h
    exact h
theorem kB_is {i : Nat} (hi : i < 64) : FnIs Try.prog 34 [.d (encS (kB i) (handB i)), .d (i6 i), .bool false] [] (tup3 (ownS 64 64 (handB (i + 1))) (.int .i64 (2 * (i : Int).tmod 32)) (.int .i64 0)) [(64, .ds 39 40 true encFrame (kB (i + 1)))] := by
  have h := place_ok (kB i) (handB i) i false (kB_chk (by omega)) (kB_blk hi) (kB_has hi) kB_vic
  have ha : ((2 * i % 64 : Nat) : Int) = 2 * (i : Int).tmod 32 := by
    rw [Int.tmod_eq_emod_of_nonneg (by omega)]
    omega
  obtain ⟨h1, -, h3⟩ := kB_vict hi
  rw [kB_len, h3, h1, ha, kB_place hi] at h
  exact h
end Go.Proofs.Ytmdfeekpehcieaa

/- ShardsKnown: the examples of the chapter, full shards, and all acts on all kinds of frames. -/
namespace Go.Proofs.Ytmdfeekpehcieaa
open Go.Eng
set_option maxHeartbeats 4000000
set_option maxRecDepth 4000
attribute [local irreducible] WC RegS RegD SeqQ BlkQ ScoQ RegK CutK Sat SatN FnIs LoopQ StepIs OpIs
attribute [local irreducible] kA kB
theorem byte_wrap (n : Int) : 0 ≤ IntKind.u8.wrap n ∧ IntKind.u8.wrap n ≤ 255 := by
  simp [IntKind.wrap, IntKind.min, IntKind.max, IntKind.bits, IntKind.signed]
  omega
theorem u8_len (w : World) (X : Nat → Prop) (x : Int) (cs : List Value) (h : Enc w X (encU8 x) cs) : cs.length = 1 := by rw [h.1]; rfl
abbrev kXs (n : Nat) : List Int := [IntKind.u8.wrap ((n : Int).tmod 6), IntKind.u8.wrap (((n : Int).tdiv 6).tmod 6), IntKind.u8.wrap ((n : Int).tdiv 36)]
abbrev kTs (n : Nat) : List (List Int) := [[IntKind.u8.wrap n, 0, 1], [6, 0, 0], [2, 1, 9], [3, IntKind.u8.wrap n, 0], [7, IntKind.u8.wrap n, 0]]
theorem chk_is (l : List Frame) (h e : Int) (he : chkS l h = e) : FnIs Try.prog 50 [.d (encS l h)] [] (.int .i64 e) [] := by rw [← he]; exact shcheck_is l h
theorem quo_in {n : Nat} (hn : n < 288) (m : Int) (hm : 1 ≤ m) : IntKind.i64.wrap ((n : Int).tdiv m) = (n : Int).tdiv m := by
  have h1 : (n : Int).tdiv m ≤ n := by
    rw [Int.tdiv_eq_ediv_of_nonneg (by omega)]
    exact Int.ediv_le_self _ (by omega)
  have h2 : 0 ≤ (n : Int).tdiv m := Int.tdiv_nonneg (by omega) (by omega)
  exact wrap_i64 (by omega) (by omega)
theorem shardsKnown_is : FnIs Try.prog 14 [] [] (.bool true) [] := by
  have hN64 : FnIs Try.prog 52 [.d (i6 64)] [] (.tup (.acons (ownS 64 64 0) (.acons (.int .i64 0) .anil))) [(64, .ds 39 40 true encFrame (kA 0))] := by
    rw [← kA_zero]
    exact new_ok 64 (by decide)
  have hC64 := chk_is (kA 0) 0 0 (kA_chk (Nat.zero_le _))
  have hC65 := chk_is (List.replicate 65 zeroFrame) 0 3 (by decide +kernel)
  have hC0 := chk_is [] 0 3 (by decide +kernel)
  have hC2 := chk_is (List.replicate 2 zeroFrame) 2 1 (by decide +kernel)
  have hD1 := chk_is [oneF 1 5, zeroFrame, oneF 1 5] 0 12 (by decide +kernel)
  have hD2 := chk_is [zeroFrame, zeroFrame] (-1) 1 (by decide +kernel)
  have hD3 := chk_is [{ zeroFrame with ref := true }] 9 10 (by decide +kernel)
  have hl64 : 64 = (kA 0).length := (kA_len 0).symm
  have hl65 : 65 = (List.replicate 65 zeroFrame).length := by rw [List.length_replicate]
  refine fnIs_of tab_ok Try.func14 rfl rfl rfl ?_
  refine wc_seq ?_
  refine wc_region ?_
  refine reg_quiet rfl (step_C tab_ok (fun K hk => hk)) ?_
  refine reg_nil ?_
  refine seq_n ?_
  refine wc_seq ?_
  refine wc_region ?_
  refine reg_new (call_new hN64 rfl rfl (arg_e arg_nil) (.inl rfl) rfl rfl) rfl ?_
  refine reg_quiet rfl (step_C tab_ok (fun K hk => hk)) ?_
  refine reg_quiet rfl (step_C tab_ok (fun K hk => hk)) ?_
  refine reg_quiet rfl (step_C tab_ok (fun K hk => hk)) ?_
  refine reg_new (step_C tab_ok (fun K hk => hk)) rfl ?_
  refine reg_store (store_row tab_ok rfl rfl rfl ⟨_, ⟨rfl, rfl, rfl⟩, rfl⟩ rfl) ?_
  refine reg_quiet rfl (step_C tab_ok (fun K hk => hk)) ?_
  refine reg_nil ?_
  refine seq_n ?_
  refine wc_seq ?_
  refine wc_seq ?_
  refine wc_region ?_
  refine reg_quiet rfl (step_C tab_ok (fun K hk => hk)) ?_
  refine reg_quiet rfl (step_C tab_ok (fun K hk => hk)) ?_
  refine reg_quiet rfl (step_C tab_ok (fun K hk => hk)) ?_
  refine reg_on rfl rfl rfl ?_
  refine reg_quiet rfl (load_box tab_ok rfl rfl rfl rfl) ?_
  refine reg_on rfl rfl rfl ?_
  refine reg_quiet rfl (call_r hC64 rfl rfl (arg_S rfl hl64 arg_nil) (.inr (int_plain _ _)) (fun _ => rfl)) ?_
  refine reg_on rfl rfl rfl ?_
  refine reg_quiet rfl (step_C tab_ok (fun K hk => hk)) ?_
  refine reg_quiet rfl (pick_F tab_ok rfl rfl rfl) ?_
  refine reg_quiet rfl (step_C tab_ok (fun K hk => hk)) ?_
  refine reg_on rfl rfl rfl ?_
  refine reg_new (make_full (enc := encFrame) (s := 40) (N := 65) tab_ok zeroFrame rfl rfl rfl rfl rfl rfl rfl (by decide) rfl) rfl ?_
  refine reg_on rfl rfl rfl ?_
  refine reg_quiet rfl (build_struct tab_ok rfl rfl rfl rfl) ?_
  refine reg_on rfl rfl rfl ?_
  refine reg_quiet rfl (call_r hC65 rfl rfl (arg_S rfl hl65 arg_nil) (.inr (int_plain _ _)) (fun _ => rfl)) ?_
  refine reg_on rfl rfl rfl ?_
  refine reg_quiet rfl (step_C tab_ok (fun K hk => hk)) ?_
  refine reg_quiet rfl (pick_F tab_ok rfl rfl rfl) ?_
  refine reg_quiet rfl (step_C tab_ok (fun K hk => hk)) ?_
  refine reg_on rfl rfl rfl ?_
  refine reg_quiet rfl (build_struct tab_ok rfl rfl rfl rfl) ?_
  refine reg_on rfl rfl rfl ?_
  refine reg_quiet rfl (call_r hC0 rfl rfl (arg_zeroS arg_nil) (.inl rfl) (fun _ => rfl)) ?_
  refine reg_on rfl rfl rfl ?_
  refine reg_quiet rfl (step_C tab_ok (fun K hk => hk)) ?_
  refine reg_quiet rfl (pick_F tab_ok rfl rfl rfl) ?_
  refine reg_quiet rfl (step_C tab_ok (fun K hk => hk)) ?_
  refine reg_on rfl rfl rfl ?_
  refine reg_new (make_full (enc := encFrame) (s := 40) (N := 2) tab_ok zeroFrame rfl rfl rfl rfl rfl rfl rfl (by decide) rfl) rfl ?_
  refine reg_on rfl rfl rfl ?_
  refine reg_quiet rfl (build_struct tab_ok rfl rfl rfl rfl) ?_
  refine reg_on rfl rfl rfl ?_
  refine reg_quiet rfl (call_r hC2 rfl rfl (arg_S rfl rfl arg_nil) (.inr (int_plain _ _)) (fun _ => rfl)) ?_
  refine reg_on rfl rfl rfl ?_
  refine reg_quiet rfl (step_C tab_ok (fun K hk => hk)) ?_
  refine reg_quiet rfl (pick_F tab_ok rfl rfl rfl) ?_
  refine reg_nil ?_
  refine seq_n ?_
  refine wc_false rfl rfl ?_
  refine wc_skip ?_
  refine seq_n ?_
  refine wc_seq ?_
  refine wc_seq ?_
  refine wc_region ?_
  refine reg_quiet rfl (step_C tab_ok (fun K hk => hk)) ?_
  refine reg_nil ?_
  refine seq_n ?_
  refine wc_block ?_
  refine wc_inv (fun i : Nat => ⟨[(3, .int .i64 i), (1, .ptr 64 [])], [(64, some (.box 61 (ownS 65 64 0))), (65, some (.ds 39 40 true encFrame (kA i)))], 72, Try.f14.ntmps, 64⟩) (fun i => i ≤ 64) (fun i => 64 - i) 0 [(64, some 104), (65, some 72)] (by omega)
    (.of rfl rfl rfl rfl rfl ⟨⟨_, rfl, .refl _⟩, rfl, ⟨_, rfl, .refl _⟩, rfl, trivial⟩ ⟨⟨rfl, rfl, _, rfl, .refl _⟩, ⟨rfl, rfl, _, rfl, .refl _⟩, trivial⟩) ?_
  intro i hi
  refine wc_of ?_
  refine wc_seq ?_
  refine wc_seq ?_
  refine wc_region ?_
  refine reg_quiet rfl (step_C tab_ok (fun K hk => hk)) ?_
  refine reg_quiet rfl (step_C tab_ok (fun K hk => hk)) ?_
  refine reg_nil ?_
  refine seq_n ?_
  refine wc_cond rfl (fun hb => ?_) (fun hb => ?_)
  · have hlt : i < 64 := by have := of_decide_eq_true hb; omega
    refine wc_skip ?_
    refine seq_n ?_
    refine wc_seq ?_
    refine wc_block ?_
    refine wc_seq ?_
    refine wc_region ?_
    refine reg_quiet rfl (load_box tab_ok rfl rfl rfl rfl) ?_
    refine reg_quiet rfl (step_C tab_ok (fun K hk => hk)) ?_
    refine reg_quiet rfl (sub_int tab_ok rfl rfl (wrap_i64 (by omega) (by omega))) ?_
    refine reg_quiet rfl (step_C tab_ok (fun K hk => hk)) ?_
    refine reg_quiet rfl (rem_int tab_ok rfl rfl (by omega)) ?_
    refine reg_quiet rfl (step_C tab_ok (fun K hk => hk)) ?_
    refine reg_new (call_new (kA_is hlt) rfl rfl (arg_S rfl (kA_len i).symm (arg_e (arg_e arg_nil))) (.inr (ok3_plain _ _ _ _ _ _)) rfl rfl) rfl ?_
    refine reg_quiet rfl (step_C tab_ok (fun K hk => hk)) ?_
    refine reg_quiet rfl (step_C tab_ok (fun K hk => hk)) ?_
    refine reg_quiet rfl (step_C tab_ok (fun K hk => hk)) ?_
    refine reg_quiet rfl (step_C tab_ok (fun K hk => hk)) ?_
    refine reg_store (store_row tab_ok rfl rfl rfl ⟨_, ⟨rfl, rfl, rfl⟩, rfl⟩ rfl) ?_
    refine reg_quiet rfl (step_C tab_ok (fun K hk => hk)) ?_
    refine reg_nil ?_
    refine seq_n ?_
    refine wc_seq ?_
    refine wc_region ?_
    refine reg_quiet rfl (step_C tab_ok (fun K hk => hk)) ?_
    refine reg_quiet rfl (step_C tab_ok (fun K hk => hk)) ?_
    refine reg_nil ?_
    refine seq_n ?_
    refine wc_false rfl rfl ?_
    refine wc_skip ?_
    refine blk_n ?_
    refine seq_n ?_
    refine wc_region ?_
    refine reg_quiet rfl (step_C tab_ok (fun K hk => hk)) ?_
    refine reg_quiet rfl (add_int tab_ok rfl rfl (wrap_i64 (by omega) (by omega))) ?_
    refine reg_quiet rfl (step_C tab_ok (fun K hk => hk)) ?_
    refine reg_nil ?_
    refine loop_n (i + 1) [(64, some 64), (65, some 136)] (show i + 1 ≤ 64 by omega) (show 64 - (i + 1) < 64 - i by omega) ?_
    exact .of rfl rfl rfl rfl rfl ⟨⟨_, rfl, .refl _⟩, rfl, ⟨_, rfl, .refl _⟩, rfl, trivial⟩ ⟨⟨rfl, rfl, _, rfl, .refl _⟩, ⟨rfl, rfl, _, rfl, .refl _⟩, trivial⟩
  obtain rfl : i = 64 := by have := of_decide_eq_false hb; omega
  clear hb hi
  refine wc_exit ?_
  refine seq_x ?_
  refine loop_x ?_
  refine blk_x ?_
  refine seq_n ?_
  refine wc_seq ?_
  refine wc_seq ?_
  refine wc_region ?_
  refine reg_quiet rfl (step_C tab_ok (fun K hk => hk)) ?_
  refine reg_nil ?_
  refine seq_n ?_
  refine wc_block ?_
  refine wc_inv (fun i : Nat => ⟨[(4, .int .i64 i), (1, .ptr 64 [])], [(64, some (.box 61 (ownS 65 64 (handB i)))), (65, some (.ds 39 40 true encFrame (kB i)))], 72, Try.f14.ntmps, 64⟩) (fun i => i ≤ 64) (fun i => 64 - i) 0 [(64, some 64), (65, some 65)] (by omega)
    (.of rfl rfl rfl rfl rfl ⟨⟨_, rfl, .refl _⟩, rfl, ⟨_, rfl, .refl _⟩, rfl, trivial⟩ ⟨⟨rfl, rfl, _, rfl, .refl _⟩, ⟨rfl, rfl, _, rfl, .of_eq (by rw [← kB_zero]; rfl)⟩, trivial⟩) ?_
  intro i hi
  refine wc_of ?_
  refine wc_seq ?_
  refine wc_seq ?_
  refine wc_region ?_
  refine reg_quiet rfl (step_C tab_ok (fun K hk => hk)) ?_
  refine reg_quiet rfl (step_C tab_ok (fun K hk => hk)) ?_
  refine reg_nil ?_
  refine seq_n ?_
  refine wc_cond rfl (fun hb => ?_) (fun hb => ?_)
  · have hlt : i < 64 := by have := of_decide_eq_true hb; omega
    have hm0 : 0 ≤ (i : Int).tmod 32 := Int.tmod_nonneg _ (by omega)
    have hm1 : (i : Int).tmod 32 < 32 := Int.tmod_lt_of_pos _ (by omega)
    have hq := refl_no (2 * (i : Int).tmod 32)
    refine wc_skip ?_
    refine seq_n ?_
    refine wc_seq ?_
    refine wc_block ?_
    refine wc_seq ?_
    refine wc_region ?_
    refine reg_quiet rfl (load_box tab_ok rfl rfl rfl rfl) ?_
    refine reg_quiet rfl (step_C tab_ok (fun K hk => hk)) ?_
    refine reg_new (call_new (kB_is hlt) rfl rfl (arg_S rfl (kB_len i).symm (arg_e (arg_e arg_nil))) (.inr (ok3_plain _ _ _ _ _ _)) rfl rfl) rfl ?_
    refine reg_quiet rfl (step_C tab_ok (fun K hk => hk)) ?_
    refine reg_quiet rfl (step_C tab_ok (fun K hk => hk)) ?_
    refine reg_quiet rfl (step_C tab_ok (fun K hk => hk)) ?_
    refine reg_quiet rfl (step_C tab_ok (fun K hk => hk)) ?_
    refine reg_new (step_C tab_ok (fun K hk => hk)) rfl ?_
    refine reg_store (store_row tab_ok rfl rfl rfl ⟨_, ⟨rfl, rfl, rfl⟩, rfl⟩ rfl) ?_
    refine reg_quiet rfl (step_C tab_ok (fun K hk => hk)) ?_
    refine reg_quiet rfl (step_C tab_ok (fun K hk => hk)) ?_
    refine reg_nil ?_
    refine seq_n ?_
    refine wc_seq ?_
    refine wc_seq ?_
    refine wc_region ?_
    refine reg_quiet rfl (step_C tab_ok (fun K hk => hk)) ?_
    refine reg_quiet rfl (step_C tab_ok (fun K hk => hk)) ?_
    refine reg_quiet rfl (step_C tab_ok (fun K hk => hk)) ?_
    refine reg_on rfl rfl rfl ?_
    refine reg_quiet rfl (step_C tab_ok (fun K hk => hk)) ?_
    refine reg_on rfl rfl rfl ?_
    refine reg_quiet rfl (step_C tab_ok (fun K hk => hk)) ?_
    refine reg_on rfl rfl rfl ?_
    refine reg_quiet rfl (rem_int tab_ok rfl rfl (by omega)) ?_
    refine reg_on rfl rfl rfl ?_
    refine reg_quiet rfl (mul_int tab_ok rfl rfl (wrap_i64 (by omega) (by omega))) ?_
    refine reg_on rfl rfl rfl ?_
    refine reg_quiet rfl (step_C tab_ok (fun K hk => hk)) ?_
    refine reg_quiet rfl (pick_F tab_ok rfl rfl rfl) ?_
    refine reg_nil ?_
    refine seq_n ?_
    refine wc_false rfl (by assumption) ?_
    refine wc_skip ?_
    refine seq_n ?_
    refine wc_region ?_
    refine reg_quiet rfl (load_box tab_ok rfl rfl rfl rfl) ?_
    refine reg_store (store_row tab_ok rfl rfl rfl ⟨_, ⟨rfl, rfl, rfl⟩, rfl⟩ rfl) ?_
    refine reg_nil ?_
    refine blk_n ?_
    refine seq_n ?_
    refine wc_region ?_
    refine reg_quiet rfl (step_C tab_ok (fun K hk => hk)) ?_
    refine reg_quiet rfl (add_int tab_ok rfl rfl (wrap_i64 (by omega) (by omega))) ?_
    refine reg_quiet rfl (step_C tab_ok (fun K hk => hk)) ?_
    refine reg_nil ?_
    refine loop_n (i + 1) [(64, some 64), (65, some 104)] (show i + 1 ≤ 64 by omega) (show 64 - (i + 1) < 64 - i by omega) ?_
    exact .of rfl rfl rfl rfl rfl ⟨⟨_, rfl, .refl _⟩, rfl, ⟨_, rfl, .refl _⟩, rfl, trivial⟩ ⟨⟨rfl, rfl, _, rfl, .refl _⟩, ⟨rfl, rfl, _, rfl, .refl _⟩, trivial⟩
  clear hb hi
  refine wc_exit ?_
  refine seq_x ?_
  refine loop_x ?_
  refine blk_x ?_
  refine seq_n ?_
  refine wc_seq ?_
  refine wc_region ?_
  refine reg_quiet rfl (call_r (one_is 1 5) rfl rfl (arg_e (arg_e arg_nil)) (.inl rfl) (fun _ => rfl)) ?_
  refine reg_new (step_C tab_ok (fun K hk => hk)) rfl ?_
  refine reg_store (store_row tab_ok rfl rfl rfl ⟨_, ⟨rfl, rfl, rfl⟩, rfl⟩ rfl) ?_
  refine reg_nil ?_
  refine seq_n ?_
  refine wc_seq ?_
  refine wc_seq ?_
  refine wc_region ?_
  refine reg_quiet rfl (load_box tab_ok rfl rfl rfl rfl) ?_
  refine reg_quiet rfl (build_struct tab_ok rfl rfl rfl rfl) ?_
  refine reg_quiet rfl (load_box tab_ok rfl rfl rfl rfl) ?_
  refine reg_new (build_list (enc := encFrame) (s := 40) (xs := [oneF 1 5, zeroFrame, oneF 1 5]) tab_ok rfl rfl rfl rfl rfl rfl rfl rfl rfl (fun _ => rfl) rfl) rfl ?_
  refine reg_quiet rfl (build_struct tab_ok rfl rfl rfl rfl) ?_
  refine reg_quiet rfl (call_r hD1 rfl rfl (arg_S rfl rfl arg_nil) (.inr (int_plain _ _)) (fun _ => rfl)) ?_
  refine reg_quiet rfl (step_C tab_ok (fun K hk => hk)) ?_
  refine reg_quiet rfl (step_C tab_ok (fun K hk => hk)) ?_
  refine reg_on rfl rfl rfl ?_
  refine reg_quiet rfl (build_struct tab_ok rfl rfl rfl rfl) ?_
  refine reg_on rfl rfl rfl ?_
  refine reg_quiet rfl (build_struct tab_ok rfl rfl rfl rfl) ?_
  refine reg_on rfl rfl rfl ?_
  refine reg_new (build_list (enc := encFrame) (s := 40) (xs := [zeroFrame, zeroFrame]) tab_ok rfl rfl rfl rfl rfl rfl rfl rfl rfl (fun _ => rfl) rfl) rfl ?_
  refine reg_on rfl rfl rfl ?_
  refine reg_quiet rfl (build_struct tab_ok rfl rfl rfl rfl) ?_
  refine reg_on rfl rfl rfl ?_
  refine reg_quiet rfl (call_r hD2 rfl rfl (arg_S rfl rfl arg_nil) (.inr (int_plain _ _)) (fun _ => rfl)) ?_
  refine reg_on rfl rfl rfl ?_
  refine reg_quiet rfl (step_C tab_ok (fun K hk => hk)) ?_
  refine reg_quiet rfl (pick_F tab_ok rfl rfl rfl) ?_
  refine reg_quiet rfl (step_C tab_ok (fun K hk => hk)) ?_
  refine reg_on rfl rfl rfl ?_
  refine reg_quiet rfl (build_struct tab_ok rfl rfl rfl rfl) ?_
  refine reg_on rfl rfl rfl ?_
  refine reg_new (build_list (enc := encFrame) (s := 40) (xs := [{ zeroFrame with ref := true }]) tab_ok rfl rfl rfl rfl rfl rfl rfl rfl rfl (fun _ => rfl) rfl) rfl ?_
  refine reg_on rfl rfl rfl ?_
  refine reg_quiet rfl (build_struct tab_ok rfl rfl rfl rfl) ?_
  refine reg_on rfl rfl rfl ?_
  refine reg_quiet rfl (call_r hD3 rfl rfl (arg_S rfl rfl arg_nil) (.inr (int_plain _ _)) (fun _ => rfl)) ?_
  refine reg_on rfl rfl rfl ?_
  refine reg_quiet rfl (step_C tab_ok (fun K hk => hk)) ?_
  refine reg_quiet rfl (pick_F tab_ok rfl rfl rfl) ?_
  refine reg_nil ?_
  refine seq_n ?_
  refine wc_false rfl rfl ?_
  refine wc_skip ?_
  refine seq_n ?_
  refine wc_seq ?_
  refine wc_seq ?_
  refine wc_region ?_
  refine reg_quiet rfl (step_C tab_ok (fun K hk => hk)) ?_
  refine reg_nil ?_
  refine seq_n ?_
  refine wc_block ?_
  refine wc_inv (fun n : Nat => ⟨[(9, .int .i64 n)], [], 72, Try.f14.ntmps, 64⟩) (fun n => n ≤ 288) (fun n => 288 - n) 0 [] (by omega)
    (.of rfl rfl rfl rfl rfl ⟨⟨_, rfl, .refl _⟩, rfl, trivial⟩ trivial) ?_
  clear hN64 hC64 hC65 hC0 hC2 hD1 hD2 hD3 hl64 hl65
  intro n hn
  refine wc_of ?_
  refine wc_seq ?_
  refine wc_seq ?_
  refine wc_region ?_
  refine reg_quiet rfl (step_C tab_ok (fun K hk => hk)) ?_
  refine reg_quiet rfl (step_C tab_ok (fun K hk => hk)) ?_
  refine reg_nil ?_
  refine seq_n ?_
  refine wc_cond rfl (fun hb => ?_) (fun hb => ?_)
  · have hlt : n < 288 := by have := of_decide_eq_true hb; omega
    have hx : Bytes (kXs n) := by
      intro a ha
      simp only [List.mem_cons, List.not_mem_nil, or_false] at ha
      rcases ha with rfl | rfl | rfl <;> exact byte_wrap _
    have hA := shardsActs_is (kXs n) (IntKind.u8.wrap n) hx (byte_wrap _) ((n : Int).tmod 4) [IntKind.u8.wrap ((n : Int).tdiv 4), IntKind.u8.wrap n, IntKind.u8.wrap ((n : Int).tdiv 3)] rfl (by
      intro a ha
      simp only [List.mem_cons, List.not_mem_nil, or_false] at ha
      rcases ha with rfl | rfl | rfl <;> exact byte_wrap _)
    have hP := shardsPlace_is (kXs n) (IntKind.u8.wrap n) hx (byte_wrap _) ((n : Int).tmod 5) (decide ((n : Int).tmod 2 > 0))
    have hY := shardsPlay_is (kXs n) (IntKind.u8.wrap n) hx (byte_wrap _) (kTs n) (by
      have h1 := byte_wrap (n : Int)
      intro t ht
      simp only [List.mem_cons, List.not_mem_nil, or_false] at ht
      rcases ht with rfl | rfl | rfl | rfl | rfl <;> refine ⟨rfl, fun a ha => ?_⟩ <;> simp only [List.mem_cons, List.not_mem_nil, or_false] at ha <;> rcases ha with rfl | rfl | rfl <;> first | exact h1 | omega)
    cases h8 : decide ((n : Int).tmod 8 = 0) with
    | true =>
      refine wc_skip ?_
      refine seq_n ?_
      refine wc_seq ?_
      refine wc_block ?_
      refine wc_seq ?_
      refine wc_region ?_
      refine reg_quiet rfl (step_C tab_ok (fun K hk => hk)) ?_
      refine reg_quiet rfl (rem_int tab_ok rfl rfl (by omega)) ?_
      refine reg_quiet rfl (conv_int tab_ok rfl rfl rfl rfl) ?_
      refine reg_quiet rfl (step_C tab_ok (fun K hk => hk)) ?_
      refine reg_quiet rfl (quo_int tab_ok rfl rfl (by omega) (quo_in hlt 6 (by decide))) ?_
      refine reg_quiet rfl (rem_int tab_ok rfl rfl (by omega)) ?_
      refine reg_quiet rfl (conv_int tab_ok rfl rfl rfl rfl) ?_
      refine reg_quiet rfl (step_C tab_ok (fun K hk => hk)) ?_
      refine reg_quiet rfl (quo_int tab_ok rfl rfl (by omega) (quo_in hlt 36 (by decide))) ?_
      refine reg_quiet rfl (conv_int tab_ok rfl rfl rfl rfl) ?_
      refine reg_new (build_list (enc := encU8) (s := 1) (xs := kXs n) tab_ok rfl rfl rfl rfl rfl rfl rfl rfl rfl (fun _ => rfl) rfl) rfl ?_
      refine reg_quiet rfl (build_struct tab_ok rfl rfl rfl rfl) ?_
      refine reg_quiet rfl (step_C tab_ok (fun K hk => hk)) ?_
      refine reg_quiet rfl (conv_int tab_ok rfl rfl rfl rfl) ?_
      refine reg_quiet rfl (build_struct tab_ok rfl rfl rfl rfl) ?_
      refine reg_new (step_C tab_ok (fun K hk => hk)) rfl ?_
      refine reg_store (store_row tab_ok rfl rfl rfl ⟨_, ⟨rfl, rfl, rfl⟩, rfl⟩ rfl) ?_
      refine reg_nil ?_
      refine seq_n ?_
      refine wc_seq ?_
      refine wc_region ?_
      refine reg_quiet rfl (load_box tab_ok rfl rfl rfl rfl) ?_
      refine reg_quiet rfl (step_C tab_ok (fun K hk => hk)) ?_
      refine reg_quiet rfl (rem_int tab_ok rfl rfl (by omega)) ?_
      refine reg_quiet rfl (step_C tab_ok (fun K hk => hk)) ?_
      refine reg_quiet rfl (quo_int tab_ok rfl rfl (by omega) (quo_in hlt 4 (by decide))) ?_
      refine reg_quiet rfl (conv_int tab_ok rfl rfl rfl rfl) ?_
      refine reg_quiet rfl (step_C tab_ok (fun K hk => hk)) ?_
      refine reg_quiet rfl (conv_int tab_ok rfl rfl rfl rfl) ?_
      refine reg_quiet rfl (step_C tab_ok (fun K hk => hk)) ?_
      refine reg_quiet rfl (quo_int tab_ok rfl rfl (by omega) (quo_in hlt 3 (by decide))) ?_
      refine reg_quiet rfl (conv_int tab_ok rfl rfl rfl rfl) ?_
      refine reg_quiet rfl ((build_arr_of tab_ok rfl rfl rfl rfl rfl rfl rfl).val_le (DLe.chain_vec (enc := encU8) u8_len [IntKind.u8.wrap ((n : Int).tdiv 4), IntKind.u8.wrap n, IntKind.u8.wrap ((n : Int).tdiv 3)] _ rfl) rfl) ?_
      refine reg_quiet rfl (call_r hA rfl rfl (arg_Sx rfl rfl (arg_e (arg_e arg_nil))) (.inr (bool_plain _)) (fun _ => rfl)) ?_
      refine reg_quiet rfl (step_C tab_ok (fun K hk => hk)) ?_
      refine reg_quiet rfl (step_C tab_ok (fun K hk => hk)) ?_
      refine reg_on rfl rfl rfl ?_
      refine reg_quiet rfl (load_box tab_ok rfl rfl rfl rfl) ?_
      refine reg_on rfl rfl rfl ?_
      refine reg_quiet rfl (step_C tab_ok (fun K hk => hk)) ?_
      refine reg_on rfl rfl rfl ?_
      refine reg_quiet rfl (rem_int tab_ok rfl rfl (by omega)) ?_
      refine reg_on rfl rfl rfl ?_
      refine reg_quiet rfl (step_C tab_ok (fun K hk => hk)) ?_
      refine reg_on rfl rfl rfl ?_
      refine reg_quiet rfl (rem_int tab_ok rfl rfl (by omega)) ?_
      refine reg_on rfl rfl rfl ?_
      refine reg_quiet rfl (step_C tab_ok (fun K hk => hk)) ?_
      refine reg_on rfl rfl rfl ?_
      refine reg_quiet rfl (call_r hP rfl rfl (arg_Sx rfl rfl (arg_e (arg_e arg_nil))) (.inr (bool_plain _)) (fun _ => rfl)) ?_
      refine reg_on rfl rfl rfl ?_
      refine reg_quiet rfl (step_C tab_ok (fun K hk => hk)) ?_
      refine reg_quiet rfl (pick_F tab_ok rfl rfl rfl) ?_
      refine reg_quiet rfl (step_C tab_ok (fun K hk => hk)) ?_
      refine reg_on rfl rfl rfl ?_
      refine reg_quiet rfl (step_C tab_ok (fun K hk => hk)) ?_
      refine reg_on rfl rfl rfl ?_
      refine reg_quiet rfl (rem_int tab_ok rfl rfl (by omega)) ?_
      refine reg_on rfl rfl rfl ?_
      refine reg_quiet rfl (step_C tab_ok (fun K hk => hk)) ?_
      refine reg_on rfl rfl rfl ?_
      refine reg_quiet rfl (step_C tab_ok (fun K hk => hk)) ?_
      refine reg_on rfl rfl (by assumption) ?_
      refine reg_quiet rfl (load_box tab_ok rfl rfl rfl rfl) ?_
      refine reg_on rfl rfl (by assumption) ?_
      refine reg_quiet rfl (step_C tab_ok (fun K hk => hk)) ?_
      refine reg_on rfl rfl (by assumption) ?_
      refine reg_quiet rfl (conv_int tab_ok rfl rfl rfl rfl) ?_
      refine reg_on rfl rfl (by assumption) ?_
      refine reg_quiet rfl ((build_arr_of tab_ok rfl rfl rfl rfl rfl rfl rfl).val_le (DLe.chain_vec (enc := encU8) u8_len [IntKind.u8.wrap n, 0, 1] _ rfl) rfl) ?_
      refine reg_on rfl rfl (by assumption) ?_
      refine reg_quiet rfl ((build_arr_of tab_ok rfl rfl rfl rfl rfl rfl rfl).val_le (DLe.chain_vec (enc := encU8) u8_len [6, 0, 0] _ rfl) rfl) ?_
      refine reg_on rfl rfl (by assumption) ?_
      refine reg_quiet rfl ((build_arr_of tab_ok rfl rfl rfl rfl rfl rfl rfl).val_le (DLe.chain_vec (enc := encU8) u8_len [2, 1, 9] _ rfl) rfl) ?_
      refine reg_on rfl rfl (by assumption) ?_
      refine reg_quiet rfl (step_C tab_ok (fun K hk => hk)) ?_
      refine reg_on rfl rfl (by assumption) ?_
      refine reg_quiet rfl (conv_int tab_ok rfl rfl rfl rfl) ?_
      refine reg_on rfl rfl (by assumption) ?_
      refine reg_quiet rfl ((build_arr_of tab_ok rfl rfl rfl rfl rfl rfl rfl).val_le (DLe.chain_vec (enc := encU8) u8_len [3, IntKind.u8.wrap n, 0] _ rfl) rfl) ?_
      refine reg_on rfl rfl (by assumption) ?_
      refine reg_quiet rfl (step_C tab_ok (fun K hk => hk)) ?_
      refine reg_on rfl rfl (by assumption) ?_
      refine reg_quiet rfl (conv_int tab_ok rfl rfl rfl rfl) ?_
      refine reg_on rfl rfl (by assumption) ?_
      refine reg_quiet rfl ((build_arr_of tab_ok rfl rfl rfl rfl rfl rfl rfl).val_le (DLe.chain_vec (enc := encU8) u8_len [7, IntKind.u8.wrap n, 0] _ rfl) rfl) ?_
      refine reg_on rfl rfl (by assumption) ?_
      refine reg_new (build_list (enc := encT) (s := 3) (xs := kTs n) tab_ok rfl rfl rfl rfl rfl rfl rfl rfl rfl (fun _ => rfl) rfl) rfl ?_
      refine reg_on rfl rfl (by assumption) ?_
      refine reg_quiet rfl (call_r hY rfl rfl (arg_Sx rfl rfl (arg_own rfl arg_nil)) (.inr (bool_plain _)) (fun _ => rfl)) ?_
      refine reg_on rfl rfl (by assumption) ?_
      refine reg_quiet rfl (step_C tab_ok (fun K hk => hk)) ?_
      refine reg_on rfl rfl rfl ?_
      refine reg_quiet rfl (pick_T tab_ok rfl (by assumption) rfl) ?_
      refine reg_quiet rfl (pick_F tab_ok rfl rfl rfl) ?_
      refine reg_nil ?_
      refine seq_n ?_
      refine wc_false rfl rfl ?_
      refine wc_skip ?_
      refine blk_n ?_
      refine seq_n ?_
      refine wc_region ?_
      refine reg_quiet rfl (step_C tab_ok (fun K hk => hk)) ?_
      refine reg_quiet rfl (add_int tab_ok rfl rfl (wrap_i64 (by omega) (by omega))) ?_
      refine reg_quiet rfl (step_C tab_ok (fun K hk => hk)) ?_
      refine reg_nil ?_
      refine loop_n (n + 1) [] (show n + 1 ≤ 288 by omega) (show 288 - (n + 1) < 288 - n by omega) ?_
      exact .of rfl rfl rfl rfl rfl ⟨⟨_, rfl, .refl _⟩, rfl, trivial⟩ trivial
    | false =>
      refine wc_skip ?_
      refine seq_n ?_
      refine wc_seq ?_
      refine wc_block ?_
      refine wc_seq ?_
      refine wc_region ?_
      refine reg_quiet rfl (step_C tab_ok (fun K hk => hk)) ?_
      refine reg_quiet rfl (rem_int tab_ok rfl rfl (by omega)) ?_
      refine reg_quiet rfl (conv_int tab_ok rfl rfl rfl rfl) ?_
      refine reg_quiet rfl (step_C tab_ok (fun K hk => hk)) ?_
      refine reg_quiet rfl (quo_int tab_ok rfl rfl (by omega) (quo_in hlt 6 (by decide))) ?_
      refine reg_quiet rfl (rem_int tab_ok rfl rfl (by omega)) ?_
      refine reg_quiet rfl (conv_int tab_ok rfl rfl rfl rfl) ?_
      refine reg_quiet rfl (step_C tab_ok (fun K hk => hk)) ?_
      refine reg_quiet rfl (quo_int tab_ok rfl rfl (by omega) (quo_in hlt 36 (by decide))) ?_
      refine reg_quiet rfl (conv_int tab_ok rfl rfl rfl rfl) ?_
      refine reg_new (build_list (enc := encU8) (s := 1) (xs := kXs n) tab_ok rfl rfl rfl rfl rfl rfl rfl rfl rfl (fun _ => rfl) rfl) rfl ?_
      refine reg_quiet rfl (build_struct tab_ok rfl rfl rfl rfl) ?_
      refine reg_quiet rfl (step_C tab_ok (fun K hk => hk)) ?_
      refine reg_quiet rfl (conv_int tab_ok rfl rfl rfl rfl) ?_
      refine reg_quiet rfl (build_struct tab_ok rfl rfl rfl rfl) ?_
      refine reg_new (step_C tab_ok (fun K hk => hk)) rfl ?_
      refine reg_store (store_row tab_ok rfl rfl rfl ⟨_, ⟨rfl, rfl, rfl⟩, rfl⟩ rfl) ?_
      refine reg_nil ?_
      refine seq_n ?_
      refine wc_seq ?_
      refine wc_region ?_
      refine reg_quiet rfl (load_box tab_ok rfl rfl rfl rfl) ?_
      refine reg_quiet rfl (step_C tab_ok (fun K hk => hk)) ?_
      refine reg_quiet rfl (rem_int tab_ok rfl rfl (by omega)) ?_
      refine reg_quiet rfl (step_C tab_ok (fun K hk => hk)) ?_
      refine reg_quiet rfl (quo_int tab_ok rfl rfl (by omega) (quo_in hlt 4 (by decide))) ?_
      refine reg_quiet rfl (conv_int tab_ok rfl rfl rfl rfl) ?_
      refine reg_quiet rfl (step_C tab_ok (fun K hk => hk)) ?_
      refine reg_quiet rfl (conv_int tab_ok rfl rfl rfl rfl) ?_
      refine reg_quiet rfl (step_C tab_ok (fun K hk => hk)) ?_
      refine reg_quiet rfl (quo_int tab_ok rfl rfl (by omega) (quo_in hlt 3 (by decide))) ?_
      refine reg_quiet rfl (conv_int tab_ok rfl rfl rfl rfl) ?_
      refine reg_quiet rfl ((build_arr_of tab_ok rfl rfl rfl rfl rfl rfl rfl).val_le (DLe.chain_vec (enc := encU8) u8_len [IntKind.u8.wrap ((n : Int).tdiv 4), IntKind.u8.wrap n, IntKind.u8.wrap ((n : Int).tdiv 3)] _ rfl) rfl) ?_
      refine reg_quiet rfl (call_r hA rfl rfl (arg_Sx rfl rfl (arg_e (arg_e arg_nil))) (.inr (bool_plain _)) (fun _ => rfl)) ?_
      refine reg_quiet rfl (step_C tab_ok (fun K hk => hk)) ?_
      refine reg_quiet rfl (step_C tab_ok (fun K hk => hk)) ?_
      refine reg_on rfl rfl rfl ?_
      refine reg_quiet rfl (load_box tab_ok rfl rfl rfl rfl) ?_
      refine reg_on rfl rfl rfl ?_
      refine reg_quiet rfl (step_C tab_ok (fun K hk => hk)) ?_
      refine reg_on rfl rfl rfl ?_
      refine reg_quiet rfl (rem_int tab_ok rfl rfl (by omega)) ?_
      refine reg_on rfl rfl rfl ?_
      refine reg_quiet rfl (step_C tab_ok (fun K hk => hk)) ?_
      refine reg_on rfl rfl rfl ?_
      refine reg_quiet rfl (rem_int tab_ok rfl rfl (by omega)) ?_
      refine reg_on rfl rfl rfl ?_
      refine reg_quiet rfl (step_C tab_ok (fun K hk => hk)) ?_
      refine reg_on rfl rfl rfl ?_
      refine reg_quiet rfl (call_r hP rfl rfl (arg_Sx rfl rfl (arg_e (arg_e arg_nil))) (.inr (bool_plain _)) (fun _ => rfl)) ?_
      refine reg_on rfl rfl rfl ?_
      refine reg_quiet rfl (step_C tab_ok (fun K hk => hk)) ?_
      refine reg_quiet rfl (pick_F tab_ok rfl rfl rfl) ?_
      refine reg_quiet rfl (step_C tab_ok (fun K hk => hk)) ?_
      refine reg_on rfl rfl rfl ?_
      refine reg_quiet rfl (step_C tab_ok (fun K hk => hk)) ?_
      refine reg_on rfl rfl rfl ?_
      refine reg_quiet rfl (rem_int tab_ok rfl rfl (by omega)) ?_
      refine reg_on rfl rfl rfl ?_
      refine reg_quiet rfl (step_C tab_ok (fun K hk => hk)) ?_
      refine reg_on rfl rfl rfl ?_
      refine reg_quiet rfl (step_C tab_ok (fun K hk => hk)) ?_
      refine reg_skip rfl rfl (by assumption) rfl rfl ?_
      refine reg_skip rfl rfl (by assumption) rfl rfl ?_
      refine reg_skip rfl rfl (by assumption) rfl rfl ?_
      refine reg_skip rfl rfl (by assumption) rfl rfl ?_
      refine reg_skip rfl rfl (by assumption) rfl rfl ?_
      refine reg_skip rfl rfl (by assumption) rfl rfl ?_
      refine reg_skip rfl rfl (by assumption) rfl rfl ?_
      refine reg_skip rfl rfl (by assumption) rfl rfl ?_
      refine reg_skip rfl rfl (by assumption) rfl rfl ?_
      refine reg_skip rfl rfl (by assumption) rfl rfl ?_
      refine reg_skip rfl rfl (by assumption) rfl rfl ?_
      refine reg_skip rfl rfl (by assumption) rfl rfl ?_
      refine reg_skip rfl rfl (by assumption) rfl rfl ?_
      refine reg_skip rfl rfl (by assumption) rfl rfl ?_
      refine reg_skip rfl rfl (by assumption) rfl rfl ?_
      refine reg_on rfl rfl rfl ?_
      refine reg_quiet rfl (pick_F tab_ok rfl (by assumption) rfl) ?_
      refine reg_quiet rfl (pick_F tab_ok rfl rfl rfl) ?_
      refine reg_nil ?_
      refine seq_n ?_
      refine wc_false rfl rfl ?_
      refine wc_skip ?_
      refine blk_n ?_
      refine seq_n ?_
      refine wc_region ?_
      refine reg_quiet rfl (step_C tab_ok (fun K hk => hk)) ?_
      refine reg_quiet rfl (add_int tab_ok rfl rfl (wrap_i64 (by omega) (by omega))) ?_
      refine reg_quiet rfl (step_C tab_ok (fun K hk => hk)) ?_
      refine reg_nil ?_
      refine loop_n (n + 1) [] (show n + 1 ≤ 288 by omega) (show 288 - (n + 1) < 288 - n by omega) ?_
      exact .of rfl rfl rfl rfl rfl ⟨⟨_, rfl, .refl _⟩, rfl, trivial⟩ trivial
  · refine wc_exit ?_
    refine seq_x ?_
    refine loop_x ?_
    refine blk_x ?_
    refine seq_n ?_
    refine wc_seq ?_
    refine wc_region ?_
    refine reg_quiet rfl (call_r shlives_is rfl rfl arg_nil (.inl rfl) (fun _ => rfl)) ?_
    refine reg_quiet rfl (step_C tab_ok (fun K hk => hk)) ?_
    refine reg_nil ?_
    refine seq_n ?_
    refine wc_ret ?_
    exact ⟨trivial, [], .of rfl rfl rfl rfl rfl ⟨⟨_, rfl, AVLe.of_eq rfl⟩, rfl, trivial⟩ trivial⟩
end Go.Proofs.Ytmdfeekpehcieaa

/- ShardsKnown: the walked law is the statement. -/
namespace Go.Proofs.Ytmdfeekpehcieaa
open Go.ChangeShapes Go.WideShapes Go.ChangeAt Go.RowKit Go.Eng
theorem own : ownKnob Try.prog.godebug = none := by kernel_rfl
theorem laidOut : laidOutB Try.prog = true := by kernel_rfl
set_option maxRecDepth 100000 in
theorem lifted (os : Os) (started : os.Started) (H : Type) (enc : TypeId × Value → H) :
    ReturnsInHanded {} Try.checked os 14 .any (Rows.shardsKnownSpec.pre6 enc Try.prog Try.f14 Rows.shardsKnownRow.domain false) (Rows.shardsKnownSpec.post enc Try.prog Try.f14 false true false false) := by
  refine returnsInHanded_of_change (C := Try.checked) own started (by kernel_rfl) Try.func14
    (ChangeSpec.witness6 (enc := enc) (C := Try.checked) false ⟨#[], #[], []⟩ 8 (by kernel_rfl) (by kernel_rfl) (by kernel_rfl) (by kernel_rfl)) ?_
  intro W base args ds gs before hval0 hW hcnd _
  have hval : ∀ (j : Nat) t v, Try.f14.params[j]? = some t → args[j]? = some v → Value.okWide Try.prog W .any base t v := hval0
  have hW' := hW
  obtain ⟨p, q, hA0, hV, rfl, hfz, hnd⟩ := hW
  have hA : DataW.TrodAll enc Try.prog W 0 (fun _ => true) true Try.f14.params.toList args.toList ds p := hA0
  rw [Try.params14] at hA hval
  obtain ⟨hargs, rfl, rfl⟩ := trodAll_nil hA
  obtain rfl : args = #[] := Array.ext' (by simpa using hargs)
  obtain ⟨rfl, rfl⟩ := trodVars_none hV
  clear hA0 hval0
  refine (law_calls (shardsKnown_is) (W := W) (args := #[]) rfl).mono fun e W' ⟨he, bel⟩ => ?_
  subst he
  exact ⟨_, rfl, _, _, _, [], _, [], hW', trodAll_mk1 (shut_bool Try.underlying4 _), trodAll_mk0, rfl, bel.frame _, fun h => by cases h⟩

theorem over : Rows.shardsKnownRow.holds Try.pinned (OpenSpec.ofChange Rows.shardsKnownSpec) :=
  OpenClaim.holds_of_wide 14 Try.f14 rfl rfl rfl rfl rfl rfl rfl ⟨rfl, rfl, rfl, rfl, rfl⟩ rfl rfl rfl rfl rfl (by kernel_rfl) Try.func14 (by kernel_rfl)
    (of_decide_eq_true (by kernel_rfl)) (by unfold Func.isWrapper; first | (rw [if_pos (by decide +kernel)]; kernel_rfl) | (rw [if_neg (by decide +kernel)]; exact ⟨rfl, rfl⟩))
    (fun os started H enc _ => lifted os started H enc)
theorem shardsKnown_holds : Rows.ShardsKnownSaid := over
end Go.Proofs.Ytmdfeekpehcieaa
