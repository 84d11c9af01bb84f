/- Whatever happens to a valid shard, it stays valid, and one frame changes at most, but for Ref. No condition. -/
import Derived.Test.YtmdfeekpehcieaaEngC
import Derived.Test.YtmdfeekpehcieaaSE
import Derived.Test.YtmdfeekpehcieaaSD
import Derived.Test.YtmdfeekpehcieaaRows

set_option linter.unusedVariables false
set_option linter.unusedSimpArgs false

/- Ways that part and meet again. -/
namespace Go.Eng
open Go.RowKit
section
variable {P : Program} {sz : Nat} {env : Env} {h : Upds} {n : Nat} {Q : Exit → St → Prop} {st : St}
universe u
def MidQ {α : Type u} (mk : α → St) (Inv : α → Prop) (Q : Exit → St → Prop) (e : Exit) (st : St) : Prop := match e with
  | .normal => ∃ a l, Inv a ∧ Le l st (mk a)
  | e => Q e st
theorem wc_mid {α : Type u} (mk : α → St) (Inv : α → Prop) {x y : Code} (hx : WC P sz x (MidQ mk Inv Q) env h n) (hy : ∀ a, Inv a → Sat P y Q (mk a)) : WC P sz (.seq x y) Q env h n := by
  refine wc_seq (Sat.mono ?_ hx)
  intro e st hq
  cases e with
  | normal => obtain ⟨a, l, h1, h2⟩ := hq; exact Sat.le l h2 (hy a h1)
  | _ => exact hq
variable {α : Type u} {mk : α → St} {Inv : α → Prop}
theorem mid_n (a : α) (l : Names) (h1 : Inv a) (h2 : Le l st (mk a)) : MidQ mk Inv Q .normal st := ⟨a, l, h1, h2⟩
theorem mid_r (h : Q .ret st) : MidQ mk Inv Q .ret st := h
theorem mid_x {i : Nat} (h : Q (.exit i) st) : MidQ mk Inv Q (.exit i) st := h
end
end Go.Eng

/- ShardsActs: what happens to a frame is what the definition says. -/
namespace Go.Proofs.Ytmdfeekpehcieaa
open Go.Eng
set_option maxHeartbeats 2000000
attribute [local irreducible] WC RegS RegD SeqQ BlkQ ScoQ RegK CutK Sat SatN FnIs LoopQ StepIs OpIs
abbrev nonceN (n2 : Int) : Nonce := ⟨n2 / 16, n2⟩
theorem actsLaw_bad_none (L : List Int) (hand : Int) (l : List Frame) (hd : Nat) (at_ n0 n1 n2 : Int) (b0 : 0 ≤ n0 ∧ n0 ≤ 255) (b2 : 0 ≤ n2 ∧ n2 ≤ 255) (hO : FnIs Try.prog 32 [.d (encSx L hand)] [] (ownS 64 l.length hd) [(64, .ds 39 40 false encFrame l)]) (hlen : l.length ≤ 1000000)
    (e : Int) (hQe : FnIs Try.prog 46 (actArgs l hd at_ (n0.tmod 6) (dataB n1) (nonceN n2)) [] (err2 e) []) (hPe : FnIs Try.prog 47 (actArgs l hd at_ (n0.tmod 6) (dataB n1) (nonceN n2)) [] (err2 e) []) (hBe : FnIs Try.prog 48 [.d (encS l hd)] [] (err3 11) []) (hCe : FnIs Try.prog 49 [.d (encS l hd)] [] (err3 11) []) :
    FnIs Try.prog 11 [.d (encSx L hand), .d (i6 at_), .d (encT [n0, n1, n2])] [] (.bool true) [] := by
  have s1 := same0 hd l
  have s2 := same1 hd l
  have s3 := refl_no e
  refine fnIs_of tab_ok Try.func11 rfl rfl rfl ?_
  refine wc_seq ?_
  refine wc_region ?_
  refine reg_new (step_C tab_ok (fun K hk => hk)) rfl ?_
  refine reg_new (step_C tab_ok (fun K hk => hk)) rfl ?_
  refine reg_quiet rfl (step_C tab_ok (fun K hk => hk)) ?_
  refine reg_nil ?_
  refine seq_n ?_
  refine wc_seq ?_
  refine wc_region ?_
  refine reg_quiet rfl (load_box tab_ok rfl rfl rfl rfl) ?_
  refine reg_new (call_new hO rfl rfl (arg_e arg_nil) (.inl rfl) rfl rfl) rfl ?_
  refine reg_new (step_C tab_ok (fun K hk => hk)) rfl ?_
  refine reg_store (store_row tab_ok rfl rfl rfl ⟨_, ⟨rfl, rfl, rfl⟩, rfl⟩ rfl) ?_
  refine reg_nil ?_
  refine seq_n ?_
  refine wc_seq ?_
  refine wc_draw (by kernel_rfl) ?_
  refine dreg_q [5] [72] rfl (step_C tab_ok (fun K hk => ⟨by omega, by omega, hk⟩)) ?_
  refine dreg_q [23] [72] rfl (load_box (v := .int .u8 n0) tab_ok rfl rfl ⟨.sc (.int .u8 n0), ⟨rfl, n0, rfl, rfl⟩, rfl⟩ rfl) ?_
  refine dreg_q [24] [] rfl (conv_int tab_ok rfl rfl rfl (wrap_i64 (by omega) (by omega))) ?_
  refine dreg_q [25] [] rfl (rem_int tab_ok rfl rfl (by omega)) ?_
  refine dreg_q [5] [72] rfl (step_C tab_ok (fun K hk => ⟨by omega, by omega, hk⟩)) ?_
  refine dreg_q [27] [72] rfl (load_box (v := .int .u8 n1) tab_ok rfl rfl ⟨.sc (.int .u8 n1), ⟨rfl, n1, rfl, rfl⟩, rfl⟩ rfl) ?_
  refine dreg_q [28] [] rfl (call_r (data_is n1) rfl rfl (arg_e arg_nil) (.inl rfl) (fun _ => rfl)) ?_
  refine dreg_q [5] [72] rfl (step_C tab_ok (fun K hk => ⟨by omega, by omega, hk⟩)) ?_
  refine dreg_q [30] [72] rfl (load_box (v := .int .u8 n2) tab_ok rfl rfl ⟨.sc (.int .u8 n2), ⟨rfl, n2, rfl, rfl⟩, rfl⟩ rfl) ?_
  refine dreg_q [31] [] rfl (quo_int tab_ok rfl rfl (by omega) (IntWalk.u8_quo n2 16 ⟨by omega, by omega, by omega⟩)) ?_
  refine dreg_q [32] [] rfl (conv_int tab_ok rfl rfl rfl (IntWalk.u32_in (n2 / 16) ⟨by omega, by omega⟩)) ?_
  refine dreg_q [5] [72] rfl (step_C tab_ok (fun K hk => ⟨by omega, by omega, hk⟩)) ?_
  refine dreg_q [34] [72] rfl (load_box (v := .int .u8 n2) tab_ok rfl rfl ⟨.sc (.int .u8 n2), ⟨rfl, n2, rfl, rfl⟩, rfl⟩ rfl) ?_
  refine dreg_q [35] [] rfl (conv_int tab_ok rfl rfl rfl (IntWalk.u64_in n2 ⟨by omega, by omega⟩)) ?_
  refine dreg_q [33, 36] [] rfl (build_struct tab_ok rfl rfl rfl rfl) ?_
  refine dreg_w [] [] rfl (step_C tab_ok (fun K hk => hk)) ?_
  refine dreg_w [] [] rfl (step_C tab_ok (fun K hk => hk)) ?_
  refine dreg_q [26] [] rfl (step_C tab_ok (fun K hk => hk)) ?_
  refine dreg_s [9, 29] [240] (store_row tab_ok rfl rfl rfl ⟨_, ⟨rfl, rfl, rfl⟩, rfl⟩ rfl) ?_
  refine dreg_s [10, 37] [248] (store_row tab_ok rfl rfl rfl ⟨_, ⟨rfl, rfl, rfl⟩, rfl⟩ rfl) ?_
  refine dreg_end (by kernel_rfl) ?_
  refine seq_n ?_
  refine wc_seq ?_
  refine wc_region ?_
  refine reg_quiet rfl (load_box tab_ok rfl rfl rfl rfl) ?_
  refine reg_quiet rfl (step_C tab_ok (fun K hk => hk)) ?_
  refine reg_quiet rfl (step_C tab_ok (fun K hk => hk)) ?_
  refine reg_quiet rfl (load_box tab_ok rfl rfl rfl rfl) ?_
  refine reg_quiet rfl (load_box tab_ok rfl rfl rfl rfl) ?_
  refine reg_quiet rfl (call_r hQe rfl rfl (arg_S rfl rfl (arg_e (arg_e (arg_e (arg_e arg_nil))))) (.inr (err2_plain _)) (fun _ => rfl)) ?_
  refine reg_quiet rfl (step_C tab_ok (fun K hk => hk)) ?_
  refine reg_quiet rfl (step_C tab_ok (fun K hk => hk)) ?_
  refine reg_quiet rfl (step_C tab_ok (fun K hk => hk)) ?_
  refine reg_new (step_C tab_ok (fun K hk => hk)) rfl ?_
  refine reg_store (store_row tab_ok rfl rfl rfl ⟨_, ⟨rfl, rfl, rfl⟩, rfl⟩ rfl) ?_
  refine reg_quiet rfl (step_C tab_ok (fun K hk => hk)) ?_
  refine reg_nil ?_
  refine seq_n ?_
  refine wc_seq ?_
  refine wc_region ?_
  refine reg_quiet rfl (load_box tab_ok rfl rfl rfl rfl) ?_
  refine reg_quiet rfl (step_C tab_ok (fun K hk => hk)) ?_
  refine reg_quiet rfl (step_C tab_ok (fun K hk => hk)) ?_
  refine reg_quiet rfl (load_box tab_ok rfl rfl rfl rfl) ?_
  refine reg_quiet rfl (load_box tab_ok rfl rfl rfl rfl) ?_
  refine reg_quiet rfl (call_r hPe rfl rfl (arg_S rfl rfl (arg_e (arg_e (arg_e (arg_e arg_nil))))) (.inr (err2_plain _)) (fun _ => rfl)) ?_
  refine reg_quiet rfl (step_C tab_ok (fun K hk => hk)) ?_
  refine reg_quiet rfl (step_C tab_ok (fun K hk => hk)) ?_
  refine reg_quiet rfl (step_C tab_ok (fun K hk => hk)) ?_
  refine reg_new (step_C tab_ok (fun K hk => hk)) rfl ?_
  refine reg_store (store_row tab_ok rfl rfl rfl ⟨_, ⟨rfl, rfl, rfl⟩, rfl⟩ rfl) ?_
  refine reg_quiet rfl (step_C tab_ok (fun K hk => hk)) ?_
  refine reg_nil ?_
  refine seq_n ?_
  refine wc_seq ?_
  refine wc_seq ?_
  refine wc_draw (by kernel_rfl) ?_
  refine dreg_q [14] [] rfl (step_C tab_ok (fun K hk => hk)) ?_
  refine dreg_q [12] [] rfl (step_C tab_ok (fun K hk => hk)) ?_
  refine dreg_q [56, 57] [] rfl (step_C tab_ok (fun K hk => hk)) ?_
  refine dreg_q [58] [] rfl (step_C tab_ok (fun K hk => hk)) ?_
  refine dreg_onq [59, 13] [448] rfl rfl (by assumption) rfl (load_box tab_ok rfl rfl rfl rfl) ?_
  refine dreg_onq [59, 11] [352] rfl rfl (by assumption) rfl (load_box tab_ok rfl rfl rfl rfl) ?_
  refine dreg_onq [59, 60, 61] [] rfl rfl (by assumption) rfl (call_r lawsame_zero rfl rfl (arg_e (arg_e arg_nil)) (.inl rfl) (fun _ => rfl)) ?_
  refine dreg_onq [59, 62] [] rfl rfl (by assumption) rfl (step_C tab_ok (fun K hk => hk)) ?_
  refine dreg_q [59, 63] [] rfl (pick_F tab_ok rfl (by assumption) rfl) ?_
  refine dreg_q [64] [] rfl (step_C tab_ok (fun K hk => hk)) ?_
  refine dreg_onq [65, 7] [104, 96] rfl rfl rfl rfl (load_box tab_ok rfl rfl rfl rfl) ?_
  refine dreg_onq [65, 3] [64] rfl rfl rfl rfl (load_box tab_ok rfl rfl rfl rfl) ?_
  refine dreg_onw [65, 67] [] rfl rfl rfl rfl (call_new hO rfl rfl (arg_e arg_nil) (.inl rfl) rfl rfl) ?_
  refine dreg_onq [65, 66, 68] [96, 568] rfl rfl rfl rfl (call_r (refshsame_is l l hd hd hlen hlen) rfl rfl (arg_S rfl rfl (arg_S rfl rfl arg_nil)) (.inr (int_plain _ _)) (fun _ => rfl)) ?_
  refine dreg_onq [65, 69] [] rfl rfl rfl rfl (step_C tab_ok (fun K hk => hk)) ?_
  refine dreg_q [65, 70] [] rfl (pick_F tab_ok rfl rfl rfl) ?_
  refine dreg_end (by kernel_rfl) ?_
  refine seq_n ?_
  refine wc_false rfl (by assumption) ?_
  refine wc_skip ?_
  refine seq_n ?_
  refine wc_seq ?_
  refine wc_region ?_
  refine reg_quiet rfl (load_box tab_ok rfl rfl rfl rfl) ?_
  refine reg_quiet rfl (call_r hBe rfl rfl (arg_S rfl rfl arg_nil) (.inr (err3_plain _)) (fun _ => rfl)) ?_
  refine reg_quiet rfl (step_C tab_ok (fun K hk => hk)) ?_
  refine reg_quiet rfl (step_C tab_ok (fun K hk => hk)) ?_
  refine reg_quiet rfl (step_C tab_ok (fun K hk => hk)) ?_
  refine reg_quiet rfl (step_C tab_ok (fun K hk => hk)) ?_
  refine reg_new (step_C tab_ok (fun K hk => hk)) rfl ?_
  refine reg_store (store_row tab_ok rfl rfl rfl ⟨_, ⟨rfl, rfl, rfl⟩, rfl⟩ rfl) ?_
  refine reg_quiet rfl (step_C tab_ok (fun K hk => hk)) ?_
  refine reg_quiet rfl (step_C tab_ok (fun K hk => hk)) ?_
  refine reg_nil ?_
  refine seq_n ?_
  refine wc_seq ?_
  refine wc_region ?_
  refine reg_quiet rfl (load_box tab_ok rfl rfl rfl rfl) ?_
  refine reg_quiet rfl (call_r hCe rfl rfl (arg_S rfl rfl arg_nil) (.inr (err3_plain _)) (fun _ => rfl)) ?_
  refine reg_quiet rfl (step_C tab_ok (fun K hk => hk)) ?_
  refine reg_quiet rfl (step_C tab_ok (fun K hk => hk)) ?_
  refine reg_quiet rfl (step_C tab_ok (fun K hk => hk)) ?_
  refine reg_quiet rfl (step_C tab_ok (fun K hk => hk)) ?_
  refine reg_new (step_C tab_ok (fun K hk => hk)) rfl ?_
  refine reg_store (store_row tab_ok rfl rfl rfl ⟨_, ⟨rfl, rfl, rfl⟩, rfl⟩ rfl) ?_
  refine reg_quiet rfl (step_C tab_ok (fun K hk => hk)) ?_
  refine reg_quiet rfl (step_C tab_ok (fun K hk => hk)) ?_
  refine reg_nil ?_
  refine seq_n ?_
  refine wc_seq ?_
  refine wc_draw (by kernel_rfl) ?_
  refine dreg_q [17] [] rfl (step_C tab_ok (fun K hk => hk)) ?_
  refine dreg_q [20] [] rfl (step_C tab_ok (fun K hk => hk)) ?_
  refine dreg_q [84, 85] [] rfl (step_C tab_ok (fun K hk => hk)) ?_
  refine dreg_q [86] [] rfl (step_C tab_ok (fun K hk => hk)) ?_
  refine dreg_onq [87, 16] [] rfl rfl rfl rfl (step_C tab_ok (fun K hk => hk)) ?_
  refine dreg_onq [87, 19] [] rfl rfl rfl rfl (step_C tab_ok (fun K hk => hk)) ?_
  refine dreg_onq [87, 88, 89] [] rfl rfl rfl rfl (step_C tab_ok (fun K hk => hk)) ?_
  refine dreg_q [87, 90] [] rfl (pick_T tab_ok rfl rfl rfl) ?_
  refine dreg_q [91] [] rfl (step_C tab_ok (fun K hk => hk)) ?_
  refine dreg_onq [92, 15] [648] rfl rfl rfl rfl (load_box tab_ok rfl rfl rfl rfl) ?_
  refine dreg_onq [92, 18] [728] rfl rfl rfl rfl (load_box tab_ok rfl rfl rfl rfl) ?_
  refine dreg_onq [92, 93, 94] [] rfl rfl rfl rfl (call_r lawsame_zero rfl rfl (arg_e (arg_e arg_nil)) (.inl rfl) (fun _ => rfl)) ?_
  refine dreg_onq [92, 95] [] rfl rfl rfl rfl (step_C tab_ok (fun K hk => hk)) ?_
  refine dreg_q [92, 96] [] rfl (pick_T tab_ok rfl rfl rfl) ?_
  refine dreg_q [97] [] rfl (step_C tab_ok (fun K hk => hk)) ?_
  refine dreg_onq [98, 7] [104, 96] rfl rfl rfl rfl (load_box tab_ok rfl rfl rfl rfl) ?_
  refine dreg_onq [98, 3] [64] rfl rfl rfl rfl (load_box tab_ok rfl rfl rfl rfl) ?_
  refine dreg_onw [98, 100] [] rfl rfl rfl rfl (call_new hO rfl rfl (arg_e arg_nil) (.inl rfl) rfl rfl) ?_
  refine dreg_onq [98, 99, 101] [96, 896] rfl rfl rfl rfl (call_r (refshsame_is l l hd hd hlen hlen) rfl rfl (arg_S rfl rfl (arg_S rfl rfl arg_nil)) (.inr (int_plain _ _)) (fun _ => rfl)) ?_
  refine dreg_onq [98, 102] [] rfl rfl rfl rfl (step_C tab_ok (fun K hk => hk)) ?_
  refine dreg_q [98, 103] [] rfl (pick_T tab_ok rfl rfl rfl) ?_
  refine dreg_q [104] [] rfl (step_C tab_ok (fun K hk => hk)) ?_
  refine dreg_onq [105] [] rfl rfl (by assumption) rfl (call_r shlives_is rfl rfl arg_nil (.inl rfl) (fun _ => rfl)) ?_
  refine dreg_q [105, 106] [] rfl (pick_T tab_ok rfl (by assumption) rfl) ?_
  refine dreg_q [107] [] rfl (step_C tab_ok (fun K hk => hk)) ?_
  refine dreg_end (by kernel_rfl) ?_
  refine seq_n ?_
  refine wc_ret ?_
  exact ⟨trivial, [], .of rfl rfl rfl rfl rfl ⟨⟨_, rfl, AVLe.of_eq rfl⟩, rfl, trivial⟩ trivial⟩
theorem actsLaw_bad_ok (L : List Int) (hand : Int) (l : List Frame) (hd : Nat) (at_ n0 n1 n2 : Int) (b0 : 0 ≤ n0 ∧ n0 ≤ 255) (b2 : 0 ≤ n2 ∧ n2 ≤ 255) (hO : FnIs Try.prog 32 [.d (encSx L hand)] [] (ownS 64 l.length hd) [(64, .ds 39 40 false encFrame l)]) (hlen : l.length ≤ 1000000)
    (e : Int) (hQe : FnIs Try.prog 46 (actArgs l hd at_ (n0.tmod 6) (dataB n1) (nonceN n2)) [] (err2 e) []) (hPe : FnIs Try.prog 47 (actArgs l hd at_ (n0.tmod 6) (dataB n1) (nonceN n2)) [] (err2 e) []) (U : List Frame) (hlU : U.length ≤ 1000000) (i : Int) (hB : FnIs Try.prog 48 [.d (encS l hd)] [] (tup3 (ownS 64 U.length hd) (.int .i64 i) (.int .i64 0)) [(64, .ds 39 40 true encFrame U)]) (hC : FnIs Try.prog 49 [.d (encS l hd)] [] (tup3 (ownS 64 U.length hd) (.int .i64 i) (.int .i64 0)) [(64, .ds 39 40 false encFrame U)]) :
    FnIs Try.prog 11 [.d (encSx L hand), .d (i6 at_), .d (encT [n0, n1, n2])] [] (.bool true) [] := by
  have s1 := same0 hd l
  have s2 := same1 hd l
  have s3 := refl_no e
  have s4 := same1 hd U
  have s5 : decide (i = i) = true := decide_eq_true rfl
  refine fnIs_of tab_ok Try.func11 rfl rfl rfl ?_
  refine wc_seq ?_
  refine wc_region ?_
  refine reg_new (step_C tab_ok (fun K hk => hk)) rfl ?_
  refine reg_new (step_C tab_ok (fun K hk => hk)) rfl ?_
  refine reg_quiet rfl (step_C tab_ok (fun K hk => hk)) ?_
  refine reg_nil ?_
  refine seq_n ?_
  refine wc_seq ?_
  refine wc_region ?_
  refine reg_quiet rfl (load_box tab_ok rfl rfl rfl rfl) ?_
  refine reg_new (call_new hO rfl rfl (arg_e arg_nil) (.inl rfl) rfl rfl) rfl ?_
  refine reg_new (step_C tab_ok (fun K hk => hk)) rfl ?_
  refine reg_store (store_row tab_ok rfl rfl rfl ⟨_, ⟨rfl, rfl, rfl⟩, rfl⟩ rfl) ?_
  refine reg_nil ?_
  refine seq_n ?_
  refine wc_seq ?_
  refine wc_draw (by kernel_rfl) ?_
  refine dreg_q [5] [72] rfl (step_C tab_ok (fun K hk => ⟨by omega, by omega, hk⟩)) ?_
  refine dreg_q [23] [72] rfl (load_box (v := .int .u8 n0) tab_ok rfl rfl ⟨.sc (.int .u8 n0), ⟨rfl, n0, rfl, rfl⟩, rfl⟩ rfl) ?_
  refine dreg_q [24] [] rfl (conv_int tab_ok rfl rfl rfl (wrap_i64 (by omega) (by omega))) ?_
  refine dreg_q [25] [] rfl (rem_int tab_ok rfl rfl (by omega)) ?_
  refine dreg_q [5] [72] rfl (step_C tab_ok (fun K hk => ⟨by omega, by omega, hk⟩)) ?_
  refine dreg_q [27] [72] rfl (load_box (v := .int .u8 n1) tab_ok rfl rfl ⟨.sc (.int .u8 n1), ⟨rfl, n1, rfl, rfl⟩, rfl⟩ rfl) ?_
  refine dreg_q [28] [] rfl (call_r (data_is n1) rfl rfl (arg_e arg_nil) (.inl rfl) (fun _ => rfl)) ?_
  refine dreg_q [5] [72] rfl (step_C tab_ok (fun K hk => ⟨by omega, by omega, hk⟩)) ?_
  refine dreg_q [30] [72] rfl (load_box (v := .int .u8 n2) tab_ok rfl rfl ⟨.sc (.int .u8 n2), ⟨rfl, n2, rfl, rfl⟩, rfl⟩ rfl) ?_
  refine dreg_q [31] [] rfl (quo_int tab_ok rfl rfl (by omega) (IntWalk.u8_quo n2 16 ⟨by omega, by omega, by omega⟩)) ?_
  refine dreg_q [32] [] rfl (conv_int tab_ok rfl rfl rfl (IntWalk.u32_in (n2 / 16) ⟨by omega, by omega⟩)) ?_
  refine dreg_q [5] [72] rfl (step_C tab_ok (fun K hk => ⟨by omega, by omega, hk⟩)) ?_
  refine dreg_q [34] [72] rfl (load_box (v := .int .u8 n2) tab_ok rfl rfl ⟨.sc (.int .u8 n2), ⟨rfl, n2, rfl, rfl⟩, rfl⟩ rfl) ?_
  refine dreg_q [35] [] rfl (conv_int tab_ok rfl rfl rfl (IntWalk.u64_in n2 ⟨by omega, by omega⟩)) ?_
  refine dreg_q [33, 36] [] rfl (build_struct tab_ok rfl rfl rfl rfl) ?_
  refine dreg_w [] [] rfl (step_C tab_ok (fun K hk => hk)) ?_
  refine dreg_w [] [] rfl (step_C tab_ok (fun K hk => hk)) ?_
  refine dreg_q [26] [] rfl (step_C tab_ok (fun K hk => hk)) ?_
  refine dreg_s [9, 29] [240] (store_row tab_ok rfl rfl rfl ⟨_, ⟨rfl, rfl, rfl⟩, rfl⟩ rfl) ?_
  refine dreg_s [10, 37] [248] (store_row tab_ok rfl rfl rfl ⟨_, ⟨rfl, rfl, rfl⟩, rfl⟩ rfl) ?_
  refine dreg_end (by kernel_rfl) ?_
  refine seq_n ?_
  refine wc_seq ?_
  refine wc_region ?_
  refine reg_quiet rfl (load_box tab_ok rfl rfl rfl rfl) ?_
  refine reg_quiet rfl (step_C tab_ok (fun K hk => hk)) ?_
  refine reg_quiet rfl (step_C tab_ok (fun K hk => hk)) ?_
  refine reg_quiet rfl (load_box tab_ok rfl rfl rfl rfl) ?_
  refine reg_quiet rfl (load_box tab_ok rfl rfl rfl rfl) ?_
  refine reg_quiet rfl (call_r hQe rfl rfl (arg_S rfl rfl (arg_e (arg_e (arg_e (arg_e arg_nil))))) (.inr (err2_plain _)) (fun _ => rfl)) ?_
  refine reg_quiet rfl (step_C tab_ok (fun K hk => hk)) ?_
  refine reg_quiet rfl (step_C tab_ok (fun K hk => hk)) ?_
  refine reg_quiet rfl (step_C tab_ok (fun K hk => hk)) ?_
  refine reg_new (step_C tab_ok (fun K hk => hk)) rfl ?_
  refine reg_store (store_row tab_ok rfl rfl rfl ⟨_, ⟨rfl, rfl, rfl⟩, rfl⟩ rfl) ?_
  refine reg_quiet rfl (step_C tab_ok (fun K hk => hk)) ?_
  refine reg_nil ?_
  refine seq_n ?_
  refine wc_seq ?_
  refine wc_region ?_
  refine reg_quiet rfl (load_box tab_ok rfl rfl rfl rfl) ?_
  refine reg_quiet rfl (step_C tab_ok (fun K hk => hk)) ?_
  refine reg_quiet rfl (step_C tab_ok (fun K hk => hk)) ?_
  refine reg_quiet rfl (load_box tab_ok rfl rfl rfl rfl) ?_
  refine reg_quiet rfl (load_box tab_ok rfl rfl rfl rfl) ?_
  refine reg_quiet rfl (call_r hPe rfl rfl (arg_S rfl rfl (arg_e (arg_e (arg_e (arg_e arg_nil))))) (.inr (err2_plain _)) (fun _ => rfl)) ?_
  refine reg_quiet rfl (step_C tab_ok (fun K hk => hk)) ?_
  refine reg_quiet rfl (step_C tab_ok (fun K hk => hk)) ?_
  refine reg_quiet rfl (step_C tab_ok (fun K hk => hk)) ?_
  refine reg_new (step_C tab_ok (fun K hk => hk)) rfl ?_
  refine reg_store (store_row tab_ok rfl rfl rfl ⟨_, ⟨rfl, rfl, rfl⟩, rfl⟩ rfl) ?_
  refine reg_quiet rfl (step_C tab_ok (fun K hk => hk)) ?_
  refine reg_nil ?_
  refine seq_n ?_
  refine wc_seq ?_
  refine wc_seq ?_
  refine wc_draw (by kernel_rfl) ?_
  refine dreg_q [14] [] rfl (step_C tab_ok (fun K hk => hk)) ?_
  refine dreg_q [12] [] rfl (step_C tab_ok (fun K hk => hk)) ?_
  refine dreg_q [56, 57] [] rfl (step_C tab_ok (fun K hk => hk)) ?_
  refine dreg_q [58] [] rfl (step_C tab_ok (fun K hk => hk)) ?_
  refine dreg_onq [59, 13] [448] rfl rfl (by assumption) rfl (load_box tab_ok rfl rfl rfl rfl) ?_
  refine dreg_onq [59, 11] [352] rfl rfl (by assumption) rfl (load_box tab_ok rfl rfl rfl rfl) ?_
  refine dreg_onq [59, 60, 61] [] rfl rfl (by assumption) rfl (call_r lawsame_zero rfl rfl (arg_e (arg_e arg_nil)) (.inl rfl) (fun _ => rfl)) ?_
  refine dreg_onq [59, 62] [] rfl rfl (by assumption) rfl (step_C tab_ok (fun K hk => hk)) ?_
  refine dreg_q [59, 63] [] rfl (pick_F tab_ok rfl (by assumption) rfl) ?_
  refine dreg_q [64] [] rfl (step_C tab_ok (fun K hk => hk)) ?_
  refine dreg_onq [65, 7] [104, 96] rfl rfl rfl rfl (load_box tab_ok rfl rfl rfl rfl) ?_
  refine dreg_onq [65, 3] [64] rfl rfl rfl rfl (load_box tab_ok rfl rfl rfl rfl) ?_
  refine dreg_onw [65, 67] [] rfl rfl rfl rfl (call_new hO rfl rfl (arg_e arg_nil) (.inl rfl) rfl rfl) ?_
  refine dreg_onq [65, 66, 68] [96, 568] rfl rfl rfl rfl (call_r (refshsame_is l l hd hd hlen hlen) rfl rfl (arg_S rfl rfl (arg_S rfl rfl arg_nil)) (.inr (int_plain _ _)) (fun _ => rfl)) ?_
  refine dreg_onq [65, 69] [] rfl rfl rfl rfl (step_C tab_ok (fun K hk => hk)) ?_
  refine dreg_q [65, 70] [] rfl (pick_F tab_ok rfl rfl rfl) ?_
  refine dreg_end (by kernel_rfl) ?_
  refine seq_n ?_
  refine wc_false rfl (by assumption) ?_
  refine wc_skip ?_
  refine seq_n ?_
  refine wc_seq ?_
  refine wc_region ?_
  refine reg_quiet rfl (load_box tab_ok rfl rfl rfl rfl) ?_
  refine reg_new (call_new hB rfl rfl (arg_S rfl rfl arg_nil) (.inr (ok3_plain _ _ _ _ _ _)) rfl rfl) rfl ?_
  refine reg_quiet rfl (step_C tab_ok (fun K hk => hk)) ?_
  refine reg_quiet rfl (step_C tab_ok (fun K hk => hk)) ?_
  refine reg_quiet rfl (step_C tab_ok (fun K hk => hk)) ?_
  refine reg_quiet rfl (step_C tab_ok (fun K hk => hk)) ?_
  refine reg_new (step_C tab_ok (fun K hk => hk)) rfl ?_
  refine reg_store (store_row tab_ok rfl rfl rfl ⟨_, ⟨rfl, rfl, rfl⟩, rfl⟩ rfl) ?_
  refine reg_quiet rfl (step_C tab_ok (fun K hk => hk)) ?_
  refine reg_quiet rfl (step_C tab_ok (fun K hk => hk)) ?_
  refine reg_nil ?_
  refine seq_n ?_
  refine wc_seq ?_
  refine wc_region ?_
  refine reg_quiet rfl (load_box tab_ok rfl rfl rfl rfl) ?_
  refine reg_new (call_new hC rfl rfl (arg_S rfl rfl arg_nil) (.inr (ok3_plain _ _ _ _ _ _)) rfl rfl) rfl ?_
  refine reg_quiet rfl (step_C tab_ok (fun K hk => hk)) ?_
  refine reg_quiet rfl (step_C tab_ok (fun K hk => hk)) ?_
  refine reg_quiet rfl (step_C tab_ok (fun K hk => hk)) ?_
  refine reg_quiet rfl (step_C tab_ok (fun K hk => hk)) ?_
  refine reg_new (step_C tab_ok (fun K hk => hk)) rfl ?_
  refine reg_store (store_row tab_ok rfl rfl rfl ⟨_, ⟨rfl, rfl, rfl⟩, rfl⟩ rfl) ?_
  refine reg_quiet rfl (step_C tab_ok (fun K hk => hk)) ?_
  refine reg_quiet rfl (step_C tab_ok (fun K hk => hk)) ?_
  refine reg_nil ?_
  refine seq_n ?_
  refine wc_seq ?_
  refine wc_draw (by kernel_rfl) ?_
  refine dreg_q [17] [] rfl (step_C tab_ok (fun K hk => hk)) ?_
  refine dreg_q [20] [] rfl (step_C tab_ok (fun K hk => hk)) ?_
  refine dreg_q [84, 85] [] rfl (step_C tab_ok (fun K hk => hk)) ?_
  refine dreg_q [86] [] rfl (step_C tab_ok (fun K hk => hk)) ?_
  refine dreg_onq [87, 16] [] rfl rfl rfl rfl (step_C tab_ok (fun K hk => hk)) ?_
  refine dreg_onq [87, 19] [] rfl rfl rfl rfl (step_C tab_ok (fun K hk => hk)) ?_
  refine dreg_onq [87, 88, 89] [] rfl rfl rfl rfl (step_C tab_ok (fun K hk => hk)) ?_
  refine dreg_q [87, 90] [] rfl (pick_T tab_ok rfl rfl rfl) ?_
  refine dreg_q [91] [] rfl (step_C tab_ok (fun K hk => hk)) ?_
  refine dreg_onq [92, 15] [648, 608] rfl rfl (by assumption) rfl (load_box tab_ok rfl rfl rfl rfl) ?_
  refine dreg_onq [92, 18] [728, 688] rfl rfl (by assumption) rfl (load_box tab_ok rfl rfl rfl rfl) ?_
  refine dreg_on rfl rfl (by assumption) rfl (call_h [(0, some 608), (1, some 688)] (lawsame_is U U hd hd false hlU hlU) rfl rfl rfl (arg_giveS rfl rfl (arg_giveS rfl rfl arg_nil)) ⟨⟨rfl, rfl, _, _, rfl, rfl, .refl _⟩, ⟨rfl, rfl, _, _, rfl, rfl, .refl _⟩, trivial⟩ rfl rfl (.inl rfl) rfl rfl) rfl rfl ?_
  refine dreg_onq [92, 95] [] rfl rfl (by assumption) rfl (step_C tab_ok (fun K hk => hk)) ?_
  refine dreg_q [92, 96] [] rfl (pick_T tab_ok rfl (by assumption) rfl) ?_
  refine dreg_q [97] [] rfl (step_C tab_ok (fun K hk => hk)) ?_
  refine dreg_onq [98, 7] [104, 96] rfl rfl (by assumption) rfl (load_box tab_ok rfl rfl rfl rfl) ?_
  refine dreg_onq [98, 3] [64] rfl rfl (by assumption) rfl (load_box tab_ok rfl rfl rfl rfl) ?_
  refine dreg_onw [98, 100] [] rfl rfl (by assumption) rfl (call_new hO rfl rfl (arg_e arg_nil) (.inl rfl) rfl rfl) ?_
  refine dreg_onq [98, 99, 101] [96, 896] rfl rfl (by assumption) rfl (call_r (refshsame_is l l hd hd hlen hlen) rfl rfl (arg_S rfl rfl (arg_S rfl rfl arg_nil)) (.inr (int_plain _ _)) (fun _ => rfl)) ?_
  refine dreg_onq [98, 102] [] rfl rfl (by assumption) rfl (step_C tab_ok (fun K hk => hk)) ?_
  refine dreg_q [98, 103] [] rfl (pick_T tab_ok rfl (by assumption) rfl) ?_
  refine dreg_q [104] [] rfl (step_C tab_ok (fun K hk => hk)) ?_
  refine dreg_onq [105] [] rfl rfl (by assumption) rfl (call_r shlives_is rfl rfl arg_nil (.inl rfl) (fun _ => rfl)) ?_
  refine dreg_q [105, 106] [] rfl (pick_T tab_ok rfl (by assumption) rfl) ?_
  refine dreg_q [107] [] rfl (step_C tab_ok (fun K hk => hk)) ?_
  refine dreg_end (by kernel_rfl) ?_
  refine seq_n ?_
  refine wc_ret ?_
  exact ⟨trivial, [], .of rfl rfl rfl rfl rfl ⟨⟨_, rfl, AVLe.of_eq rfl⟩, rfl, trivial⟩ trivial⟩
theorem actsLaw_good_none (L : List Int) (hand : Int) (l : List Frame) (hd : Nat) (at_ n0 n1 n2 : Int) (b0 : 0 ≤ n0 ∧ n0 ≤ 255) (b2 : 0 ≤ n2 ∧ n2 ≤ 255) (hO : FnIs Try.prog 32 [.d (encSx L hand)] [] (ownS 64 l.length hd) [(64, .ds 39 40 false encFrame l)]) (hlen : l.length ≤ 1000000)
    (T : List Frame) (hlT : T.length ≤ 1000000) (hQ : FnIs Try.prog 46 (actArgs l hd at_ (n0.tmod 6) (dataB n1) (nonceN n2)) [] (ok2 T.length hd) [(64, .ds 39 40 false encFrame T)]) (hP : FnIs Try.prog 47 (actArgs l hd at_ (n0.tmod 6) (dataB n1) (nonceN n2)) [] (ok2 T.length hd) [(64, .ds 39 40 true encFrame T)]) (hBe : FnIs Try.prog 48 [.d (encS l hd)] [] (err3 11) []) (hCe : FnIs Try.prog 49 [.d (encS l hd)] [] (err3 11) []) :
    FnIs Try.prog 11 [.d (encSx L hand), .d (i6 at_), .d (encT [n0, n1, n2])] [] (.bool true) [] := by
  have s1 := same0 hd l
  have s2 := same1 hd l
  have s3 := same0 hd T
  refine fnIs_of tab_ok Try.func11 rfl rfl rfl ?_
  refine wc_seq ?_
  refine wc_region ?_
  refine reg_new (step_C tab_ok (fun K hk => hk)) rfl ?_
  refine reg_new (step_C tab_ok (fun K hk => hk)) rfl ?_
  refine reg_quiet rfl (step_C tab_ok (fun K hk => hk)) ?_
  refine reg_nil ?_
  refine seq_n ?_
  refine wc_seq ?_
  refine wc_region ?_
  refine reg_quiet rfl (load_box tab_ok rfl rfl rfl rfl) ?_
  refine reg_new (call_new hO rfl rfl (arg_e arg_nil) (.inl rfl) rfl rfl) rfl ?_
  refine reg_new (step_C tab_ok (fun K hk => hk)) rfl ?_
  refine reg_store (store_row tab_ok rfl rfl rfl ⟨_, ⟨rfl, rfl, rfl⟩, rfl⟩ rfl) ?_
  refine reg_nil ?_
  refine seq_n ?_
  refine wc_seq ?_
  refine wc_draw (by kernel_rfl) ?_
  refine dreg_q [5] [72] rfl (step_C tab_ok (fun K hk => ⟨by omega, by omega, hk⟩)) ?_
  refine dreg_q [23] [72] rfl (load_box (v := .int .u8 n0) tab_ok rfl rfl ⟨.sc (.int .u8 n0), ⟨rfl, n0, rfl, rfl⟩, rfl⟩ rfl) ?_
  refine dreg_q [24] [] rfl (conv_int tab_ok rfl rfl rfl (wrap_i64 (by omega) (by omega))) ?_
  refine dreg_q [25] [] rfl (rem_int tab_ok rfl rfl (by omega)) ?_
  refine dreg_q [5] [72] rfl (step_C tab_ok (fun K hk => ⟨by omega, by omega, hk⟩)) ?_
  refine dreg_q [27] [72] rfl (load_box (v := .int .u8 n1) tab_ok rfl rfl ⟨.sc (.int .u8 n1), ⟨rfl, n1, rfl, rfl⟩, rfl⟩ rfl) ?_
  refine dreg_q [28] [] rfl (call_r (data_is n1) rfl rfl (arg_e arg_nil) (.inl rfl) (fun _ => rfl)) ?_
  refine dreg_q [5] [72] rfl (step_C tab_ok (fun K hk => ⟨by omega, by omega, hk⟩)) ?_
  refine dreg_q [30] [72] rfl (load_box (v := .int .u8 n2) tab_ok rfl rfl ⟨.sc (.int .u8 n2), ⟨rfl, n2, rfl, rfl⟩, rfl⟩ rfl) ?_
  refine dreg_q [31] [] rfl (quo_int tab_ok rfl rfl (by omega) (IntWalk.u8_quo n2 16 ⟨by omega, by omega, by omega⟩)) ?_
  refine dreg_q [32] [] rfl (conv_int tab_ok rfl rfl rfl (IntWalk.u32_in (n2 / 16) ⟨by omega, by omega⟩)) ?_
  refine dreg_q [5] [72] rfl (step_C tab_ok (fun K hk => ⟨by omega, by omega, hk⟩)) ?_
  refine dreg_q [34] [72] rfl (load_box (v := .int .u8 n2) tab_ok rfl rfl ⟨.sc (.int .u8 n2), ⟨rfl, n2, rfl, rfl⟩, rfl⟩ rfl) ?_
  refine dreg_q [35] [] rfl (conv_int tab_ok rfl rfl rfl (IntWalk.u64_in n2 ⟨by omega, by omega⟩)) ?_
  refine dreg_q [33, 36] [] rfl (build_struct tab_ok rfl rfl rfl rfl) ?_
  refine dreg_w [] [] rfl (step_C tab_ok (fun K hk => hk)) ?_
  refine dreg_w [] [] rfl (step_C tab_ok (fun K hk => hk)) ?_
  refine dreg_q [26] [] rfl (step_C tab_ok (fun K hk => hk)) ?_
  refine dreg_s [9, 29] [240] (store_row tab_ok rfl rfl rfl ⟨_, ⟨rfl, rfl, rfl⟩, rfl⟩ rfl) ?_
  refine dreg_s [10, 37] [248] (store_row tab_ok rfl rfl rfl ⟨_, ⟨rfl, rfl, rfl⟩, rfl⟩ rfl) ?_
  refine dreg_end (by kernel_rfl) ?_
  refine seq_n ?_
  refine wc_seq ?_
  refine wc_region ?_
  refine reg_quiet rfl (load_box tab_ok rfl rfl rfl rfl) ?_
  refine reg_quiet rfl (step_C tab_ok (fun K hk => hk)) ?_
  refine reg_quiet rfl (step_C tab_ok (fun K hk => hk)) ?_
  refine reg_quiet rfl (load_box tab_ok rfl rfl rfl rfl) ?_
  refine reg_quiet rfl (load_box tab_ok rfl rfl rfl rfl) ?_
  refine reg_new (call_new hQ rfl rfl (arg_S rfl rfl (arg_e (arg_e (arg_e (arg_e arg_nil))))) (.inr (ok2_plain _ _ _ _)) rfl rfl) rfl ?_
  refine reg_quiet rfl (step_C tab_ok (fun K hk => hk)) ?_
  refine reg_quiet rfl (step_C tab_ok (fun K hk => hk)) ?_
  refine reg_quiet rfl (step_C tab_ok (fun K hk => hk)) ?_
  refine reg_new (step_C tab_ok (fun K hk => hk)) rfl ?_
  refine reg_store (store_row tab_ok rfl rfl rfl ⟨_, ⟨rfl, rfl, rfl⟩, rfl⟩ rfl) ?_
  refine reg_quiet rfl (step_C tab_ok (fun K hk => hk)) ?_
  refine reg_nil ?_
  refine seq_n ?_
  refine wc_seq ?_
  refine wc_region ?_
  refine reg_quiet rfl (load_box tab_ok rfl rfl rfl rfl) ?_
  refine reg_quiet rfl (step_C tab_ok (fun K hk => hk)) ?_
  refine reg_quiet rfl (step_C tab_ok (fun K hk => hk)) ?_
  refine reg_quiet rfl (load_box tab_ok rfl rfl rfl rfl) ?_
  refine reg_quiet rfl (load_box tab_ok rfl rfl rfl rfl) ?_
  refine reg_new (call_new hP rfl rfl (arg_S rfl rfl (arg_e (arg_e (arg_e (arg_e arg_nil))))) (.inr (ok2_plain _ _ _ _)) rfl rfl) rfl ?_
  refine reg_quiet rfl (step_C tab_ok (fun K hk => hk)) ?_
  refine reg_quiet rfl (step_C tab_ok (fun K hk => hk)) ?_
  refine reg_quiet rfl (step_C tab_ok (fun K hk => hk)) ?_
  refine reg_new (step_C tab_ok (fun K hk => hk)) rfl ?_
  refine reg_store (store_row tab_ok rfl rfl rfl ⟨_, ⟨rfl, rfl, rfl⟩, rfl⟩ rfl) ?_
  refine reg_quiet rfl (step_C tab_ok (fun K hk => hk)) ?_
  refine reg_nil ?_
  refine seq_n ?_
  refine wc_seq ?_
  refine wc_seq ?_
  refine wc_draw (by kernel_rfl) ?_
  refine dreg_q [14] [] rfl (step_C tab_ok (fun K hk => hk)) ?_
  refine dreg_q [12] [] rfl (step_C tab_ok (fun K hk => hk)) ?_
  refine dreg_q [56, 57] [] rfl (step_C tab_ok (fun K hk => hk)) ?_
  refine dreg_q [58] [] rfl (step_C tab_ok (fun K hk => hk)) ?_
  refine dreg_onq [59, 13] [448, 416] rfl rfl rfl rfl (load_box tab_ok rfl rfl rfl rfl) ?_
  refine dreg_onq [59, 11] [352, 320] rfl rfl rfl rfl (load_box tab_ok rfl rfl rfl rfl) ?_
  refine dreg_on rfl rfl rfl rfl (call_h [(0, some 416), (1, some 320)] (lawsame_is T T hd hd false hlT hlT) rfl rfl rfl (arg_giveS rfl rfl (arg_giveS rfl rfl arg_nil)) ⟨⟨rfl, rfl, _, _, rfl, rfl, .refl _⟩, ⟨rfl, rfl, _, _, rfl, rfl, .refl _⟩, trivial⟩ rfl rfl (.inl rfl) rfl rfl) rfl rfl ?_
  refine dreg_onq [59, 62] [] rfl rfl rfl rfl (step_C tab_ok (fun K hk => hk)) ?_
  refine dreg_q [59, 63] [] rfl (pick_F tab_ok rfl rfl rfl) ?_
  refine dreg_q [64] [] rfl (step_C tab_ok (fun K hk => hk)) ?_
  refine dreg_onq [65, 7] [104, 96] rfl rfl (by assumption) rfl (load_box tab_ok rfl rfl rfl rfl) ?_
  refine dreg_onq [65, 3] [64] rfl rfl (by assumption) rfl (load_box tab_ok rfl rfl rfl rfl) ?_
  refine dreg_onw [65, 67] [] rfl rfl (by assumption) rfl (call_new hO rfl rfl (arg_e arg_nil) (.inl rfl) rfl rfl) ?_
  refine dreg_onq [65, 66, 68] [96, 568] rfl rfl (by assumption) rfl (call_r (refshsame_is l l hd hd hlen hlen) rfl rfl (arg_S rfl rfl (arg_S rfl rfl arg_nil)) (.inr (int_plain _ _)) (fun _ => rfl)) ?_
  refine dreg_onq [65, 69] [] rfl rfl (by assumption) rfl (step_C tab_ok (fun K hk => hk)) ?_
  refine dreg_q [65, 70] [] rfl (pick_F tab_ok rfl (by assumption) rfl) ?_
  refine dreg_end (by kernel_rfl) ?_
  refine seq_n ?_
  refine wc_false rfl (by assumption) ?_
  refine wc_skip ?_
  refine seq_n ?_
  refine wc_seq ?_
  refine wc_region ?_
  refine reg_quiet rfl (load_box tab_ok rfl rfl rfl rfl) ?_
  refine reg_quiet rfl (call_r hBe rfl rfl (arg_S rfl rfl arg_nil) (.inr (err3_plain _)) (fun _ => rfl)) ?_
  refine reg_quiet rfl (step_C tab_ok (fun K hk => hk)) ?_
  refine reg_quiet rfl (step_C tab_ok (fun K hk => hk)) ?_
  refine reg_quiet rfl (step_C tab_ok (fun K hk => hk)) ?_
  refine reg_quiet rfl (step_C tab_ok (fun K hk => hk)) ?_
  refine reg_new (step_C tab_ok (fun K hk => hk)) rfl ?_
  refine reg_store (store_row tab_ok rfl rfl rfl ⟨_, ⟨rfl, rfl, rfl⟩, rfl⟩ rfl) ?_
  refine reg_quiet rfl (step_C tab_ok (fun K hk => hk)) ?_
  refine reg_quiet rfl (step_C tab_ok (fun K hk => hk)) ?_
  refine reg_nil ?_
  refine seq_n ?_
  refine wc_seq ?_
  refine wc_region ?_
  refine reg_quiet rfl (load_box tab_ok rfl rfl rfl rfl) ?_
  refine reg_quiet rfl (call_r hCe rfl rfl (arg_S rfl rfl arg_nil) (.inr (err3_plain _)) (fun _ => rfl)) ?_
  refine reg_quiet rfl (step_C tab_ok (fun K hk => hk)) ?_
  refine reg_quiet rfl (step_C tab_ok (fun K hk => hk)) ?_
  refine reg_quiet rfl (step_C tab_ok (fun K hk => hk)) ?_
  refine reg_quiet rfl (step_C tab_ok (fun K hk => hk)) ?_
  refine reg_new (step_C tab_ok (fun K hk => hk)) rfl ?_
  refine reg_store (store_row tab_ok rfl rfl rfl ⟨_, ⟨rfl, rfl, rfl⟩, rfl⟩ rfl) ?_
  refine reg_quiet rfl (step_C tab_ok (fun K hk => hk)) ?_
  refine reg_quiet rfl (step_C tab_ok (fun K hk => hk)) ?_
  refine reg_nil ?_
  refine seq_n ?_
  refine wc_seq ?_
  refine wc_draw (by kernel_rfl) ?_
  refine dreg_q [17] [] rfl (step_C tab_ok (fun K hk => hk)) ?_
  refine dreg_q [20] [] rfl (step_C tab_ok (fun K hk => hk)) ?_
  refine dreg_q [84, 85] [] rfl (step_C tab_ok (fun K hk => hk)) ?_
  refine dreg_q [86] [] rfl (step_C tab_ok (fun K hk => hk)) ?_
  refine dreg_onq [87, 16] [] rfl rfl rfl rfl (step_C tab_ok (fun K hk => hk)) ?_
  refine dreg_onq [87, 19] [] rfl rfl rfl rfl (step_C tab_ok (fun K hk => hk)) ?_
  refine dreg_onq [87, 88, 89] [] rfl rfl rfl rfl (step_C tab_ok (fun K hk => hk)) ?_
  refine dreg_q [87, 90] [] rfl (pick_T tab_ok rfl rfl rfl) ?_
  refine dreg_q [91] [] rfl (step_C tab_ok (fun K hk => hk)) ?_
  refine dreg_onq [92, 15] [648] rfl rfl rfl rfl (load_box tab_ok rfl rfl rfl rfl) ?_
  refine dreg_onq [92, 18] [728] rfl rfl rfl rfl (load_box tab_ok rfl rfl rfl rfl) ?_
  refine dreg_onq [92, 93, 94] [] rfl rfl rfl rfl (call_r lawsame_zero rfl rfl (arg_e (arg_e arg_nil)) (.inl rfl) (fun _ => rfl)) ?_
  refine dreg_onq [92, 95] [] rfl rfl rfl rfl (step_C tab_ok (fun K hk => hk)) ?_
  refine dreg_q [92, 96] [] rfl (pick_T tab_ok rfl rfl rfl) ?_
  refine dreg_q [97] [] rfl (step_C tab_ok (fun K hk => hk)) ?_
  refine dreg_onq [98, 7] [104, 96] rfl rfl rfl rfl (load_box tab_ok rfl rfl rfl rfl) ?_
  refine dreg_onq [98, 3] [64] rfl rfl rfl rfl (load_box tab_ok rfl rfl rfl rfl) ?_
  refine dreg_onw [98, 100] [] rfl rfl rfl rfl (call_new hO rfl rfl (arg_e arg_nil) (.inl rfl) rfl rfl) ?_
  refine dreg_onq [98, 99, 101] [96, 896] rfl rfl rfl rfl (call_r (refshsame_is l l hd hd hlen hlen) rfl rfl (arg_S rfl rfl (arg_S rfl rfl arg_nil)) (.inr (int_plain _ _)) (fun _ => rfl)) ?_
  refine dreg_onq [98, 102] [] rfl rfl rfl rfl (step_C tab_ok (fun K hk => hk)) ?_
  refine dreg_q [98, 103] [] rfl (pick_T tab_ok rfl rfl rfl) ?_
  refine dreg_q [104] [] rfl (step_C tab_ok (fun K hk => hk)) ?_
  refine dreg_onq [105] [] rfl rfl (by assumption) rfl (call_r shlives_is rfl rfl arg_nil (.inl rfl) (fun _ => rfl)) ?_
  refine dreg_q [105, 106] [] rfl (pick_T tab_ok rfl (by assumption) rfl) ?_
  refine dreg_q [107] [] rfl (step_C tab_ok (fun K hk => hk)) ?_
  refine dreg_end (by kernel_rfl) ?_
  refine seq_n ?_
  refine wc_ret ?_
  exact ⟨trivial, [], .of rfl rfl rfl rfl rfl ⟨⟨_, rfl, AVLe.of_eq rfl⟩, rfl, trivial⟩ trivial⟩
theorem actsLaw_good_ok (L : List Int) (hand : Int) (l : List Frame) (hd : Nat) (at_ n0 n1 n2 : Int) (b0 : 0 ≤ n0 ∧ n0 ≤ 255) (b2 : 0 ≤ n2 ∧ n2 ≤ 255) (hO : FnIs Try.prog 32 [.d (encSx L hand)] [] (ownS 64 l.length hd) [(64, .ds 39 40 false encFrame l)]) (hlen : l.length ≤ 1000000)
    (T : List Frame) (hlT : T.length ≤ 1000000) (hQ : FnIs Try.prog 46 (actArgs l hd at_ (n0.tmod 6) (dataB n1) (nonceN n2)) [] (ok2 T.length hd) [(64, .ds 39 40 false encFrame T)]) (hP : FnIs Try.prog 47 (actArgs l hd at_ (n0.tmod 6) (dataB n1) (nonceN n2)) [] (ok2 T.length hd) [(64, .ds 39 40 true encFrame T)]) (U : List Frame) (hlU : U.length ≤ 1000000) (i : Int) (hB : FnIs Try.prog 48 [.d (encS l hd)] [] (tup3 (ownS 64 U.length hd) (.int .i64 i) (.int .i64 0)) [(64, .ds 39 40 true encFrame U)]) (hC : FnIs Try.prog 49 [.d (encS l hd)] [] (tup3 (ownS 64 U.length hd) (.int .i64 i) (.int .i64 0)) [(64, .ds 39 40 false encFrame U)]) :
    FnIs Try.prog 11 [.d (encSx L hand), .d (i6 at_), .d (encT [n0, n1, n2])] [] (.bool true) [] := by
  have s1 := same0 hd l
  have s2 := same1 hd l
  have s3 := same0 hd T
  have s4 := same1 hd U
  have s5 : decide (i = i) = true := decide_eq_true rfl
  refine fnIs_of tab_ok Try.func11 rfl rfl rfl ?_
  refine wc_seq ?_
  refine wc_region ?_
  refine reg_new (step_C tab_ok (fun K hk => hk)) rfl ?_
  refine reg_new (step_C tab_ok (fun K hk => hk)) rfl ?_
  refine reg_quiet rfl (step_C tab_ok (fun K hk => hk)) ?_
  refine reg_nil ?_
  refine seq_n ?_
  refine wc_seq ?_
  refine wc_region ?_
  refine reg_quiet rfl (load_box tab_ok rfl rfl rfl rfl) ?_
  refine reg_new (call_new hO rfl rfl (arg_e arg_nil) (.inl rfl) rfl rfl) rfl ?_
  refine reg_new (step_C tab_ok (fun K hk => hk)) rfl ?_
  refine reg_store (store_row tab_ok rfl rfl rfl ⟨_, ⟨rfl, rfl, rfl⟩, rfl⟩ rfl) ?_
  refine reg_nil ?_
  refine seq_n ?_
  refine wc_seq ?_
  refine wc_draw (by kernel_rfl) ?_
  refine dreg_q [5] [72] rfl (step_C tab_ok (fun K hk => ⟨by omega, by omega, hk⟩)) ?_
  refine dreg_q [23] [72] rfl (load_box (v := .int .u8 n0) tab_ok rfl rfl ⟨.sc (.int .u8 n0), ⟨rfl, n0, rfl, rfl⟩, rfl⟩ rfl) ?_
  refine dreg_q [24] [] rfl (conv_int tab_ok rfl rfl rfl (wrap_i64 (by omega) (by omega))) ?_
  refine dreg_q [25] [] rfl (rem_int tab_ok rfl rfl (by omega)) ?_
  refine dreg_q [5] [72] rfl (step_C tab_ok (fun K hk => ⟨by omega, by omega, hk⟩)) ?_
  refine dreg_q [27] [72] rfl (load_box (v := .int .u8 n1) tab_ok rfl rfl ⟨.sc (.int .u8 n1), ⟨rfl, n1, rfl, rfl⟩, rfl⟩ rfl) ?_
  refine dreg_q [28] [] rfl (call_r (data_is n1) rfl rfl (arg_e arg_nil) (.inl rfl) (fun _ => rfl)) ?_
  refine dreg_q [5] [72] rfl (step_C tab_ok (fun K hk => ⟨by omega, by omega, hk⟩)) ?_
  refine dreg_q [30] [72] rfl (load_box (v := .int .u8 n2) tab_ok rfl rfl ⟨.sc (.int .u8 n2), ⟨rfl, n2, rfl, rfl⟩, rfl⟩ rfl) ?_
  refine dreg_q [31] [] rfl (quo_int tab_ok rfl rfl (by omega) (IntWalk.u8_quo n2 16 ⟨by omega, by omega, by omega⟩)) ?_
  refine dreg_q [32] [] rfl (conv_int tab_ok rfl rfl rfl (IntWalk.u32_in (n2 / 16) ⟨by omega, by omega⟩)) ?_
  refine dreg_q [5] [72] rfl (step_C tab_ok (fun K hk => ⟨by omega, by omega, hk⟩)) ?_
  refine dreg_q [34] [72] rfl (load_box (v := .int .u8 n2) tab_ok rfl rfl ⟨.sc (.int .u8 n2), ⟨rfl, n2, rfl, rfl⟩, rfl⟩ rfl) ?_
  refine dreg_q [35] [] rfl (conv_int tab_ok rfl rfl rfl (IntWalk.u64_in n2 ⟨by omega, by omega⟩)) ?_
  refine dreg_q [33, 36] [] rfl (build_struct tab_ok rfl rfl rfl rfl) ?_
  refine dreg_w [] [] rfl (step_C tab_ok (fun K hk => hk)) ?_
  refine dreg_w [] [] rfl (step_C tab_ok (fun K hk => hk)) ?_
  refine dreg_q [26] [] rfl (step_C tab_ok (fun K hk => hk)) ?_
  refine dreg_s [9, 29] [240] (store_row tab_ok rfl rfl rfl ⟨_, ⟨rfl, rfl, rfl⟩, rfl⟩ rfl) ?_
  refine dreg_s [10, 37] [248] (store_row tab_ok rfl rfl rfl ⟨_, ⟨rfl, rfl, rfl⟩, rfl⟩ rfl) ?_
  refine dreg_end (by kernel_rfl) ?_
  refine seq_n ?_
  refine wc_seq ?_
  refine wc_region ?_
  refine reg_quiet rfl (load_box tab_ok rfl rfl rfl rfl) ?_
  refine reg_quiet rfl (step_C tab_ok (fun K hk => hk)) ?_
  refine reg_quiet rfl (step_C tab_ok (fun K hk => hk)) ?_
  refine reg_quiet rfl (load_box tab_ok rfl rfl rfl rfl) ?_
  refine reg_quiet rfl (load_box tab_ok rfl rfl rfl rfl) ?_
  refine reg_new (call_new hQ rfl rfl (arg_S rfl rfl (arg_e (arg_e (arg_e (arg_e arg_nil))))) (.inr (ok2_plain _ _ _ _)) rfl rfl) rfl ?_
  refine reg_quiet rfl (step_C tab_ok (fun K hk => hk)) ?_
  refine reg_quiet rfl (step_C tab_ok (fun K hk => hk)) ?_
  refine reg_quiet rfl (step_C tab_ok (fun K hk => hk)) ?_
  refine reg_new (step_C tab_ok (fun K hk => hk)) rfl ?_
  refine reg_store (store_row tab_ok rfl rfl rfl ⟨_, ⟨rfl, rfl, rfl⟩, rfl⟩ rfl) ?_
  refine reg_quiet rfl (step_C tab_ok (fun K hk => hk)) ?_
  refine reg_nil ?_
  refine seq_n ?_
  refine wc_seq ?_
  refine wc_region ?_
  refine reg_quiet rfl (load_box tab_ok rfl rfl rfl rfl) ?_
  refine reg_quiet rfl (step_C tab_ok (fun K hk => hk)) ?_
  refine reg_quiet rfl (step_C tab_ok (fun K hk => hk)) ?_
  refine reg_quiet rfl (load_box tab_ok rfl rfl rfl rfl) ?_
  refine reg_quiet rfl (load_box tab_ok rfl rfl rfl rfl) ?_
  refine reg_new (call_new hP rfl rfl (arg_S rfl rfl (arg_e (arg_e (arg_e (arg_e arg_nil))))) (.inr (ok2_plain _ _ _ _)) rfl rfl) rfl ?_
  refine reg_quiet rfl (step_C tab_ok (fun K hk => hk)) ?_
  refine reg_quiet rfl (step_C tab_ok (fun K hk => hk)) ?_
  refine reg_quiet rfl (step_C tab_ok (fun K hk => hk)) ?_
  refine reg_new (step_C tab_ok (fun K hk => hk)) rfl ?_
  refine reg_store (store_row tab_ok rfl rfl rfl ⟨_, ⟨rfl, rfl, rfl⟩, rfl⟩ rfl) ?_
  refine reg_quiet rfl (step_C tab_ok (fun K hk => hk)) ?_
  refine reg_nil ?_
  refine seq_n ?_
  refine wc_seq ?_
  refine wc_seq ?_
  refine wc_draw (by kernel_rfl) ?_
  refine dreg_q [14] [] rfl (step_C tab_ok (fun K hk => hk)) ?_
  refine dreg_q [12] [] rfl (step_C tab_ok (fun K hk => hk)) ?_
  refine dreg_q [56, 57] [] rfl (step_C tab_ok (fun K hk => hk)) ?_
  refine dreg_q [58] [] rfl (step_C tab_ok (fun K hk => hk)) ?_
  refine dreg_onq [59, 13] [448, 416] rfl rfl rfl rfl (load_box tab_ok rfl rfl rfl rfl) ?_
  refine dreg_onq [59, 11] [352, 320] rfl rfl rfl rfl (load_box tab_ok rfl rfl rfl rfl) ?_
  refine dreg_on rfl rfl rfl rfl (call_h [(0, some 416), (1, some 320)] (lawsame_is T T hd hd false hlT hlT) rfl rfl rfl (arg_giveS rfl rfl (arg_giveS rfl rfl arg_nil)) ⟨⟨rfl, rfl, _, _, rfl, rfl, .refl _⟩, ⟨rfl, rfl, _, _, rfl, rfl, .refl _⟩, trivial⟩ rfl rfl (.inl rfl) rfl rfl) rfl rfl ?_
  refine dreg_onq [59, 62] [] rfl rfl rfl rfl (step_C tab_ok (fun K hk => hk)) ?_
  refine dreg_q [59, 63] [] rfl (pick_F tab_ok rfl rfl rfl) ?_
  refine dreg_q [64] [] rfl (step_C tab_ok (fun K hk => hk)) ?_
  refine dreg_onq [65, 7] [104, 96] rfl rfl (by assumption) rfl (load_box tab_ok rfl rfl rfl rfl) ?_
  refine dreg_onq [65, 3] [64] rfl rfl (by assumption) rfl (load_box tab_ok rfl rfl rfl rfl) ?_
  refine dreg_onw [65, 67] [] rfl rfl (by assumption) rfl (call_new hO rfl rfl (arg_e arg_nil) (.inl rfl) rfl rfl) ?_
  refine dreg_onq [65, 66, 68] [96, 568] rfl rfl (by assumption) rfl (call_r (refshsame_is l l hd hd hlen hlen) rfl rfl (arg_S rfl rfl (arg_S rfl rfl arg_nil)) (.inr (int_plain _ _)) (fun _ => rfl)) ?_
  refine dreg_onq [65, 69] [] rfl rfl (by assumption) rfl (step_C tab_ok (fun K hk => hk)) ?_
  refine dreg_q [65, 70] [] rfl (pick_F tab_ok rfl (by assumption) rfl) ?_
  refine dreg_end (by kernel_rfl) ?_
  refine seq_n ?_
  refine wc_false rfl (by assumption) ?_
  refine wc_skip ?_
  refine seq_n ?_
  refine wc_seq ?_
  refine wc_region ?_
  refine reg_quiet rfl (load_box tab_ok rfl rfl rfl rfl) ?_
  refine reg_new (call_new hB rfl rfl (arg_S rfl rfl arg_nil) (.inr (ok3_plain _ _ _ _ _ _)) rfl rfl) rfl ?_
  refine reg_quiet rfl (step_C tab_ok (fun K hk => hk)) ?_
  refine reg_quiet rfl (step_C tab_ok (fun K hk => hk)) ?_
  refine reg_quiet rfl (step_C tab_ok (fun K hk => hk)) ?_
  refine reg_quiet rfl (step_C tab_ok (fun K hk => hk)) ?_
  refine reg_new (step_C tab_ok (fun K hk => hk)) rfl ?_
  refine reg_store (store_row tab_ok rfl rfl rfl ⟨_, ⟨rfl, rfl, rfl⟩, rfl⟩ rfl) ?_
  refine reg_quiet rfl (step_C tab_ok (fun K hk => hk)) ?_
  refine reg_quiet rfl (step_C tab_ok (fun K hk => hk)) ?_
  refine reg_nil ?_
  refine seq_n ?_
  refine wc_seq ?_
  refine wc_region ?_
  refine reg_quiet rfl (load_box tab_ok rfl rfl rfl rfl) ?_
  refine reg_new (call_new hC rfl rfl (arg_S rfl rfl arg_nil) (.inr (ok3_plain _ _ _ _ _ _)) rfl rfl) rfl ?_
  refine reg_quiet rfl (step_C tab_ok (fun K hk => hk)) ?_
  refine reg_quiet rfl (step_C tab_ok (fun K hk => hk)) ?_
  refine reg_quiet rfl (step_C tab_ok (fun K hk => hk)) ?_
  refine reg_quiet rfl (step_C tab_ok (fun K hk => hk)) ?_
  refine reg_new (step_C tab_ok (fun K hk => hk)) rfl ?_
  refine reg_store (store_row tab_ok rfl rfl rfl ⟨_, ⟨rfl, rfl, rfl⟩, rfl⟩ rfl) ?_
  refine reg_quiet rfl (step_C tab_ok (fun K hk => hk)) ?_
  refine reg_quiet rfl (step_C tab_ok (fun K hk => hk)) ?_
  refine reg_nil ?_
  refine seq_n ?_
  refine wc_seq ?_
  refine wc_draw (by kernel_rfl) ?_
  refine dreg_q [17] [] rfl (step_C tab_ok (fun K hk => hk)) ?_
  refine dreg_q [20] [] rfl (step_C tab_ok (fun K hk => hk)) ?_
  refine dreg_q [84, 85] [] rfl (step_C tab_ok (fun K hk => hk)) ?_
  refine dreg_q [86] [] rfl (step_C tab_ok (fun K hk => hk)) ?_
  refine dreg_onq [87, 16] [] rfl rfl rfl rfl (step_C tab_ok (fun K hk => hk)) ?_
  refine dreg_onq [87, 19] [] rfl rfl rfl rfl (step_C tab_ok (fun K hk => hk)) ?_
  refine dreg_onq [87, 88, 89] [] rfl rfl rfl rfl (step_C tab_ok (fun K hk => hk)) ?_
  refine dreg_q [87, 90] [] rfl (pick_T tab_ok rfl rfl rfl) ?_
  refine dreg_q [91] [] rfl (step_C tab_ok (fun K hk => hk)) ?_
  refine dreg_onq [92, 15] [648, 608] rfl rfl (by assumption) rfl (load_box tab_ok rfl rfl rfl rfl) ?_
  refine dreg_onq [92, 18] [728, 688] rfl rfl (by assumption) rfl (load_box tab_ok rfl rfl rfl rfl) ?_
  refine dreg_on rfl rfl (by assumption) rfl (call_h [(0, some 608), (1, some 688)] (lawsame_is U U hd hd false hlU hlU) rfl rfl rfl (arg_giveS rfl rfl (arg_giveS rfl rfl arg_nil)) ⟨⟨rfl, rfl, _, _, rfl, rfl, .refl _⟩, ⟨rfl, rfl, _, _, rfl, rfl, .refl _⟩, trivial⟩ rfl rfl (.inl rfl) rfl rfl) rfl rfl ?_
  refine dreg_onq [92, 95] [] rfl rfl (by assumption) rfl (step_C tab_ok (fun K hk => hk)) ?_
  refine dreg_q [92, 96] [] rfl (pick_T tab_ok rfl (by assumption) rfl) ?_
  refine dreg_q [97] [] rfl (step_C tab_ok (fun K hk => hk)) ?_
  refine dreg_onq [98, 7] [104, 96] rfl rfl (by assumption) rfl (load_box tab_ok rfl rfl rfl rfl) ?_
  refine dreg_onq [98, 3] [64] rfl rfl (by assumption) rfl (load_box tab_ok rfl rfl rfl rfl) ?_
  refine dreg_onw [98, 100] [] rfl rfl (by assumption) rfl (call_new hO rfl rfl (arg_e arg_nil) (.inl rfl) rfl rfl) ?_
  refine dreg_onq [98, 99, 101] [96, 896] rfl rfl (by assumption) rfl (call_r (refshsame_is l l hd hd hlen hlen) rfl rfl (arg_S rfl rfl (arg_S rfl rfl arg_nil)) (.inr (int_plain _ _)) (fun _ => rfl)) ?_
  refine dreg_onq [98, 102] [] rfl rfl (by assumption) rfl (step_C tab_ok (fun K hk => hk)) ?_
  refine dreg_q [98, 103] [] rfl (pick_T tab_ok rfl (by assumption) rfl) ?_
  refine dreg_q [104] [] rfl (step_C tab_ok (fun K hk => hk)) ?_
  refine dreg_onq [105] [] rfl rfl (by assumption) rfl (call_r shlives_is rfl rfl arg_nil (.inl rfl) (fun _ => rfl)) ?_
  refine dreg_q [105, 106] [] rfl (pick_T tab_ok rfl (by assumption) rfl) ?_
  refine dreg_q [107] [] rfl (step_C tab_ok (fun K hk => hk)) ?_
  refine dreg_end (by kernel_rfl) ?_
  refine seq_n ?_
  refine wc_ret ?_
  exact ⟨trivial, [], .of rfl rfl rfl rfl rfl ⟨⟨_, rfl, AVLe.of_eq rfl⟩, rfl, trivial⟩ trivial⟩
/-- The first error of an act. -/
theorem refact_bad {a : Nat} (ha : a < 6) (data : List Int) (n : Nonce) {l : List Frame} {h j : Int} (hc : chkS l h = 0) (he : actE (actP a) l h j ≠ 0) : FnIs Try.prog 46 (actArgs l h j a data n) [] (err2 (actE (actP a) l h j)) [] := by
  unfold actE at he ⊢
  rw [if_neg (fun n => n hc)] at he ⊢
  cases ho : outB l j with
  | true => rw [if_pos rfl]; exact refact_out l h j a data n ho
  | false =>
    obtain ⟨f, hf⟩ := outB_get ho
    rw [ho, if_neg (by simp), hf] at he
    rw [if_neg (by simp), hf]
    simp only at he ⊢
    cases hp : actP a f with
    | true => rw [hp] at he; exact absurd rfl he
    | false => exact refact_no l h j a data n ho f hf (by rw [fits_actP a ha, hp])
theorem refact_same {a : Nat} (ha : a < 6) (data : List Int) (n : Nonce) {l : List Frame} {h j : Int} (hlen : l.length ≤ 1000000) (he : actE (actP a) l h j = 0) : FnIs Try.prog 46 (actArgs l h j a data n) [] (ok2 l.length h) [(64, .ds 39 40 false encFrame (updL (actG a data n) l j))] := by
  obtain ⟨h1, h2, f, hf, hp⟩ := actE_zero he
  have hv := (chkS_valid.1 h1).2.2.1
  have := refact_good a ha data n l h j hlen h2 f hf (by rw [fits_actP a ha, hp])
  rw [updL_some hf, act_ref a ha data n f (hv.ok _ f hf) hp]
  exact this
theorem shardsActs_is (L : List Int) (hand : Int) (hL : Bytes L) (hh : 0 ≤ hand ∧ hand ≤ 255) (at_ : Int) (n : List Int) (hn : n.length = 3) (hb : ∀ a ∈ n, 0 ≤ a ∧ a ≤ 255) : FnIs Try.prog 11 [.d (encSx L hand), .d (i6 at_), .d (encT n)] [] (.bool true) [] := by
  obtain ⟨n0, n1, n2, rfl⟩ : ∃ n0 n1 n2, n = [n0, n1, n2] := by
    match n, hn with
    | [a, b, c], _ => exact ⟨a, b, c, rfl⟩
  have b0 := hb n0 (by simp)
  have b2 := hb n2 (by simp)
  obtain ⟨hd, h1, h2⟩ := hand_mod hh (ofS_pos L)
  have hO := ofS_is L hand hL hh
  have hc := ofS_chk hL hh
  have hlen := ofS_len L
  rw [h1] at hO hc
  generalize ofS L = l at *
  have hlen' : l.length ≤ 1000000 := by omega
  obtain ⟨a, ha, hae⟩ : ∃ a : Nat, a < 6 ∧ n0.tmod 6 = a := by
    refine ⟨(n0 % 6).toNat, by omega, ?_⟩
    rw [Int.tmod_eq_emod_of_nonneg b0.1]
    omega
  have hul := updL_len (g := actG a (dataB n1) (nonceN n2)) (l := l) (j := at_)
  have hbl := beginL_len (l := l)
  by_cases he : actE (actP a) l hd at_ = 0
  · have hP := act_good a ha (dataB n1) (nonceN n2) l hd at_ he
    have hQ := refact_same ha (dataB n1) (nonceN n2) hlen' he
    rw [← hae, ← hul] at hP hQ
    cases hw : waitB l with
    | false => exact actsLaw_good_none L hand l hd at_ n0 n1 n2 b0 b2 hO hlen' _ (by omega) hQ hP (begin_none l hd hc hw) (refbegin_none l hd hlen' hw)
    | true =>
      have hB := begin_ok l hd hc hw
      have hC := refbegin_ok l hd hlen' hw
      rw [← hbl] at hB hC
      exact actsLaw_good_ok L hand l hd at_ n0 n1 n2 b0 b2 hO hlen' _ (by omega) hQ hP _ (by omega) _ hB hC
  · have hP := act_bad a ha (dataB n1) (nonceN n2) l hd at_ he
    have hQ := refact_bad ha (dataB n1) (nonceN n2) hc he
    rw [← hae] at hP hQ
    cases hw : waitB l with
    | false => exact actsLaw_bad_none L hand l hd at_ n0 n1 n2 b0 b2 hO hlen' _ hQ hP (begin_none l hd hc hw) (refbegin_none l hd hlen' hw)
    | true =>
      have hB := begin_ok l hd hc hw
      have hC := refbegin_ok l hd hlen' hw
      rw [← hbl] at hB hC
      exact actsLaw_bad_ok L hand l hd at_ n0 n1 n2 b0 b2 hO hlen' _ hQ hP _ (by omega) _ hB hC
end Go.Proofs.Ytmdfeekpehcieaa

/- What a step does to a valid shard, as ShardsPlay asks. -/
namespace Go.Proofs.Ytmdfeekpehcieaa
open Go.Eng
abbrev offB (a at_ : Int) (k : Nat) (f g : Frame) : Bool := !decide ((k : Int) = at_) && (g.ref && !f.ref || (g.ref != f.ref) && decide (a < 7))
abbrev lostB (f g : Frame) : Bool := f.busy && (!decide (g.block = f.block) || !decide (g.data = f.data) || !g.used) || f.dirty && g.dirty && !decide (g.nonce = f.nonce)
abbrev othB (at_ : Int) (k : Nat) (f g : Frame) : Bool := !decide ((k : Int) = at_) && !decide (f = { g with ref := f.ref })
structure StepOk (a at_ : Int) (l t : List Frame) : Prop where
  len : t.length = l.length
  ok : ∀ (k : Nat) (f g : Frame), l[k]? = some f → t[k]? = some g → offB a at_ k f g = false ∧ lostB f g = false ∧ othB at_ k f g = false
theorem lost_same (f : Frame) (h : f.busy = true → f.used = true) : lostB f f = false := by
  cases hb : f.busy <;> cases hd : f.dirty <;> simp [hb, hd] <;> simp_all
theorem busy_used {f : Frame} (hc : chk f = 0) (hb : f.busy = true) : f.used = true := by
  cases hu : f.used with
  | true => rfl
  | false => rw [chk_unused hu] at hc; subst hc; cases hb
theorem ok_same {a at_ : Int} {k : Nat} {f : Frame} (hc : chk f = 0) : offB a at_ k f f = false ∧ lostB f f = false ∧ othB at_ k f f = false := by
  refine ⟨?_, lost_same f (busy_used hc), ?_⟩
  · cases hr : f.ref <;> simp [hr]
  · simp
theorem ok_here {a at_ : Int} {k : Nat} {f g : Frame} (hk : (k : Int) = at_) (hl : lostB f g = false) : offB a at_ k f g = false ∧ lostB f g = false ∧ othB at_ k f g = false :=
  ⟨by simp [hk], hl, by simp [hk]⟩
theorem lost_of {f g : Frame} (h1 : f.busy = true → g.block = f.block ∧ g.data = f.data ∧ g.used = true) (h2 : f.dirty = true → g.dirty = true → g.nonce = f.nonce) : lostB f g = false := by
  rw [Bool.or_eq_false_iff]
  constructor
  · cases hb : f.busy with
    | false => rfl
    | true => obtain ⟨e1, e2, e3⟩ := h1 hb; simp [e1, e2, e3]
  · cases hd : f.dirty with
    | false => rfl
    | true =>
      cases hg : g.dirty with
      | false => rfl
      | true => simp [h2 hd hg]
theorem step_set {a at_ : Int} {l : List Frame} {i : Nat} {f0 g0 : Frame} (hv : Valid l) (hi : (i : Int) = at_) (hf : l[i]? = some f0) (hl : lostB f0 g0 = false) : StepOk a at_ l (l.set i g0) := by
  refine ⟨by simp, fun k f g hk hg => ?_⟩
  rw [set_at hf] at hg
  split at hg
  · rename_i e
    subst e
    cases hg
    rw [hf] at hk
    cases hk
    exact ok_here hi hl
  · rw [hk] at hg
    cases hg
    exact ok_same (hv.ok k f hk)
theorem step_act {a : Nat} (ha : a < 6) (data : List Int) (n : Nonce) {l : List Frame} {h j : Int} (he : actE (actP a) l h j = 0) : StepOk a j l (updL (actG a data n) l j) := by
  obtain ⟨h1, h2, f, hf, hp⟩ := actE_zero he
  have hv := (chkS_valid.1 h1).2.2.1
  obtain ⟨-, -, c3, c4⟩ := act_chk ha data n (hv.ok _ f hf) hp
  rw [updL_some hf]
  rw [outB, Bool.or_eq_false_iff] at h2
  have := of_decide_eq_false h2.1
  exact step_set hv (by omega) hf (lost_of c3 c4)
theorem step_begin {l : List Frame} {h : Int} (he : chkS l h = 0) (hw : waitB l = true) : StepOk 6 (wAt l) l (beginL l) := by
  have hv := (chkS_valid.1 he).2.2.1
  obtain ⟨i, f, h1, h2, h3, h4⟩ := wait_spec hw
  have h5 : l[(wAt l).toNat]? = some f := by rw [h1]; exact h2
  rw [beginL, updL_some h5]
  exact step_set hv (by omega) h5 (lost_of (fun hb => by rw [h4] at hb; cases hb) fun _ _ => rfl)
theorem step_place {a : Int} (ha : 7 ≤ a) {l : List Frame} {hand : Nat} {block : Int} {loading : Bool} (he : chkS l hand = 0) (hv : vicB l = true) : StepOk a (vAt l hand) l (placeL l hand block loading) := by
  obtain ⟨v1, v2, v3, v4, v5⟩ := chkS_valid.1 he
  obtain ⟨i, f0, g0, hi1, hi2, hi3, hi4, hi5⟩ := victim_facts (show hand < l.length by omega) hv
  refine ⟨placeL_len, fun k f g hk hg => ?_⟩
  rw [placeL, hi1, Int.toNat_natCast, set_at hi4] at hg
  split at hg
  · rename_i e
    subst e
    cases hg
    rw [hi3] at hk
    cases hk
    refine ok_here hi1.symm (lost_of (fun hb => ?_) fun _ hd => by cases hd)
    exfalso
    rcases hi5 with hu | ⟨-, hev, -⟩
    · have := (chk_unused hu).1 (v3.ok _ _ hi3)
      subst this
      cases hb
    · simp only [evB, hb, Bool.not_true, Bool.and_false, Bool.false_and] at hev
      cases hev
  · obtain ⟨g', hg', e1, e2⟩ := next_facts (hand := hand) hk
    rw [hg] at hg'
    cases hg'
    have hbu := busy_used (v3.ok _ _ hk)
    obtain ⟨u, b, d, di, bu, lo, rf, no⟩ := f
    obtain ⟨u', b', d', di', bu', lo', rf', no'⟩ := g
    simp only [Frame.mk.injEq] at e2
    obtain ⟨rfl, rfl, rfl, rfl, rfl, rfl, -, rfl⟩ := e2
    refine ⟨?_, lost_of (fun hb => ⟨rfl, rfl, hbu hb⟩) fun _ _ => rfl, by simp⟩
    simp only [offB]
    rw [e1, decide_eq_false (show ¬ a < 7 by omega)]
    simp
end Go.Proofs.Ytmdfeekpehcieaa

/- ShardsPlay: whatever happens, the shard is valid, and one frame changes at most, but for Ref. -/
namespace Go.Proofs.Ytmdfeekpehcieaa
open Go.Eng
set_option maxHeartbeats 4000000
set_option maxRecDepth 4000
attribute [local irreducible] WC RegS RegD SeqQ BlkQ ScoQ RegK CutK Sat SatN FnIs LoopQ StepIs OpIs
attribute [local irreducible] MidQ
abbrev playEnv (ts : List (List Int)) (i : Nat) : Env := [(6, .int .i64 i), (1, .d (encTs ts)), (5, .ptr 64 [])]
abbrev playRows (l : List Frame) (hd : Int) : Upds := [(64, some (.box 61 (ownS 65 l.length hd))), (65, some (.ds 39 40 false encFrame l))]
abbrev playOkEnv (ts : List (List Int)) (i : Nat) (a at_ : Int) : Env := [(7, .int .i64 at_), (8, .int .i64 a), (9, .ptr 66 []), (6, .int .i64 i), (1, .d (encTs ts)), (5, .ptr 64 [])]
abbrev playOkRows (l t : List Frame) (hd h2 : Int) : Upds := [(64, some (.box 61 (ownS 65 l.length hd))), (65, some (.ds 39 40 false encFrame l)), (66, some (.box 61 (ownS 67 t.length h2))), (67, some (.ds 39 40 true encFrame t))]
def PlayInv (a : Int) (l : List Frame) : Int ⊕ (List Frame × Nat × Int) → Prop
  | .inl e => e ≠ 0
  | .inr x => chkS x.1 x.2.1 = 0 ∧ StepOk a x.2.2 l x.1
theorem nat_hand {l : List Frame} {h : Int} (he : chkS l h = 0) : ∃ k : Nat, h = k := by
  obtain ⟨k, h1, -⟩ := chkS_nat he
  exact ⟨k, h1⟩
theorem placeOr {l : List Frame} {hd : Nat} (hc : chkS l hd = 0) (block : Int) (loading : Bool) :
    (∃ e : Int, e ≠ 0 ∧ FnIs Try.prog 34 [.d (encS l hd), .d (i6 block), .bool loading] [] (err3 e) []) ∨
    (∃ (t : List Frame) (h2 : Nat) (at_ : Int), FnIs Try.prog 34 [.d (encS l hd), .d (i6 block), .bool loading] [] (tup3 (ownS 64 t.length h2) (.int .i64 at_) (.int .i64 0)) [(64, .ds 39 40 true encFrame t)] ∧ chkS t h2 = 0 ∧ ∀ a : Int, 7 ≤ a → StepOk a at_ l t) := by
  cases hk : blkB block with
  | true => exact .inl ⟨1, by decide, place_blk l hd block loading hc hk⟩
  | false =>
    cases hb : hasB block l with
    | true => exact .inl ⟨12, by decide, place_twice l hd block loading hc hk hb⟩
    | false =>
      cases hv : vicB l with
      | false => exact .inl ⟨11, by decide, place_none l hd block loading hc hk hb hv⟩
      | true =>
        have hP := place_ok l hd block loading hc hk hb hv
        have hl := placeL_len (l := l) (hand := hd) (block := block) (loading := loading)
        have hn := place_valid (loading := loading) hc hk hb hv
        rw [← hl] at hP
        obtain ⟨k, h1⟩ := nat_hand hn
        rw [h1] at hP hn
        exact .inr ⟨_, k, _, hP, hn, fun a ha => step_place ha hc hv⟩
theorem shardsPlay_is (L : List Int) (hand : Int) (hL : Bytes L) (hh : 0 ≤ hand ∧ hand ≤ 255) (ts : List (List Int)) (hts : ∀ t ∈ ts, t.length = 3 ∧ ∀ a ∈ t, 0 ≤ a ∧ a ≤ 255) : FnIs Try.prog 12 [.d (encSx L hand), .d (encTs ts)] [] (.bool true) [] := by
  obtain ⟨hd0, h1, h2⟩ := hand_mod hh (ofS_pos L)
  have hO := ofS_is L hand hL hh
  have hc0 := ofS_chk hL hh
  rw [h1] at hO hc0
  generalize ofS L = l0 at *
  refine fnIs_of tab_ok Try.func12 rfl rfl rfl ?_
  refine wc_seq ?_
  refine wc_region ?_
  refine reg_new (step_C tab_ok (fun K hk => hk)) rfl ?_
  refine reg_quiet rfl (step_C tab_ok (fun K hk => hk)) ?_
  refine reg_nil ?_
  refine seq_n ?_
  refine wc_seq ?_
  refine wc_seq ?_
  refine wc_region ?_
  refine reg_quiet rfl (step_C tab_ok (fun K hk => hk)) ?_
  refine reg_quiet rfl (len_arr tab_ok rfl rfl) ?_
  refine reg_quiet rfl (step_C tab_ok (fun K hk => hk)) ?_
  refine reg_nil ?_
  refine seq_n ?_
  refine wc_cond rfl (fun hb => ?_) (fun hb => ?_)
  · refine wc_seq ?_
    refine wc_region ?_
    refine reg_quiet rfl (call_r shlives_is rfl rfl arg_nil (.inl rfl) (fun _ => rfl)) ?_
    refine reg_quiet rfl (step_C tab_ok (fun K hk => hk)) ?_
    refine reg_nil ?_
    refine seq_n ?_
    refine wc_ret ?_
    refine seq_r ?_
    exact ⟨trivial, [], .of rfl rfl rfl rfl rfl ⟨⟨_, rfl, AVLe.of_eq rfl⟩, rfl, trivial⟩ trivial⟩
  have hlen : ts.length ≤ 60 := by have := of_decide_eq_false hb; omega
  refine wc_skip ?_
  refine seq_n ?_
  refine wc_seq ?_
  refine wc_region ?_
  refine reg_quiet rfl (load_box tab_ok rfl rfl rfl rfl) ?_
  refine reg_new (call_new hO rfl rfl (arg_e arg_nil) (.inl rfl) rfl rfl) rfl ?_
  refine reg_new (step_C tab_ok (fun K hk => hk)) rfl ?_
  refine reg_store (store_row tab_ok rfl rfl rfl ⟨_, ⟨rfl, rfl, rfl⟩, rfl⟩ rfl) ?_
  refine reg_nil ?_
  refine seq_n ?_
  refine wc_seq ?_
  refine wc_seq ?_
  refine wc_region ?_
  refine reg_quiet rfl (step_C tab_ok (fun K hk => hk)) ?_
  refine reg_nil ?_
  refine seq_n ?_
  refine wc_block ?_
  refine wc_inv (fun x : Nat × List Frame × Nat => ⟨playEnv ts x.1, playRows x.2.1 x.2.2, 72, Try.f12.ntmps, 64⟩) (fun x => x.1 ≤ ts.length ∧ chkS x.2.1 x.2.2 = 0) (fun x => ts.length - x.1) (0, l0, hd0) [(64, some 120), (65, some 112)] ⟨Nat.zero_le _, hc0⟩
    (.of rfl rfl rfl rfl rfl ⟨⟨_, rfl, .refl _⟩, rfl, ⟨_, rfl, .refl _⟩, rfl, ⟨_, rfl, .refl _⟩, rfl, trivial⟩ ⟨⟨rfl, rfl, _, rfl, .refl _⟩, ⟨rfl, rfl, _, rfl, .refl _⟩, trivial⟩) ?_
  clear hc0 h1 h2 hO
  rintro ⟨i, l, hd⟩ ⟨hi, hc⟩
  simp only at hi hc
  obtain ⟨v1, v2, v3, v4, v5⟩ := chkS_valid.1 hc
  refine wc_of ?_
  refine wc_seq ?_
  refine wc_seq ?_
  refine wc_region ?_
  refine reg_quiet rfl (step_C tab_ok (fun K hk => hk)) ?_
  refine reg_quiet rfl (step_C tab_ok (fun K hk => hk)) ?_
  refine reg_quiet rfl (len_arr tab_ok rfl rfl) ?_
  refine reg_quiet rfl (step_C tab_ok (fun K hk => hk)) ?_
  refine reg_nil ?_
  refine seq_n ?_
  refine wc_cond rfl (fun hb => ?_) (fun hb => ?_)
  · have hlt : i < ts.length := by have := of_decide_eq_true hb; omega
    obtain ⟨n0, n1, n2, hti0⟩ : ∃ n0 n1 n2, ts[i]? = some [n0, n1, n2] := by
      have h3 : ts[i]? = some ts[i] := by simp [hlt]
      obtain ⟨hl3, -⟩ := hts ts[i] (List.getElem_mem _)
      match hm : ts[i], hl3 with
      | [a, b, c], _ => exact ⟨a, b, c, by rw [h3, hm]⟩
    have hby := (hts _ (List.mem_of_getElem? hti0)).2
    have b0 := hby n0 (by simp)
    have b1 := hby n1 (by simp)
    have b2 := hby n2 (by simp)
    have hti : ts[((i : Int)).toNat]? = some [n0, n1, n2] := by rw [Int.toNat_natCast]; exact hti0
    obtain ⟨a, ha9, ha⟩ : ∃ a : Nat, a < 9 ∧ n0.tmod 9 = a := by
      refine ⟨(n0 % 9).toNat, by omega, ?_⟩
      rw [Int.tmod_eq_emod_of_nonneg b0.1]
      omega
    have hpos : (l.length : Int) ≠ 0 := by omega
    refine wc_skip ?_
    refine seq_n ?_
    refine wc_seq ?_
    refine wc_block ?_
    refine wc_seq ?_
    refine wc_draw (by kernel_rfl) ?_
    refine dreg_q [1] [] rfl (step_C tab_ok (fun K hk => hk)) ?_
    refine dreg_q [6] [] rfl (step_C tab_ok (fun K hk => hk)) ?_
    refine dreg_q [26, 27] [] rfl (index_arr tab_ok rfl rfl rfl rfl rfl (by omega) hti) ?_
    refine dreg_q [28] [] rfl (step_C tab_ok (fun K hk => ⟨by omega, by omega, .sc (.int .u8 n1), ⟨rfl, n1, rfl, rfl⟩, hk⟩)) ?_
    refine dreg_q [29] [] rfl (load_i tab_ok rfl rfl) ?_
    refine dreg_q [30] [] rfl (conv_int tab_ok rfl rfl rfl (wrap_i64 (by omega) (by omega))) ?_
    refine dreg_q [5] [64, 65] rfl (step_C tab_ok (fun K hk => hk)) ?_
    refine dreg_q [32] [64, 65] rfl (load_box tab_ok rfl rfl rfl rfl) ?_
    refine dreg_q [33] [65] rfl (len_own tab_ok rfl rfl) ?_
    refine dreg_q [31, 34] [] rfl (rem_int tab_ok rfl rfl (by omega)) ?_
    refine dreg_q [35] [] rfl (step_C tab_ok (fun K hk => hk)) ?_
    refine dreg_end (by kernel_rfl) ?_
    refine seq_n ?_
    refine wc_seq ?_
    refine wc_region ?_
    refine reg_quiet rfl (step_C tab_ok (fun K hk => hk)) ?_
    refine reg_quiet rfl (step_C tab_ok (fun K hk => hk)) ?_
    refine reg_quiet rfl (index_arr tab_ok rfl rfl rfl rfl rfl (by omega) hti) ?_
    refine reg_quiet rfl (step_C tab_ok (fun K hk => ⟨by omega, by omega, .sc (.int .u8 n0), ⟨rfl, n0, rfl, rfl⟩, hk⟩)) ?_
    refine reg_quiet rfl (load_i tab_ok rfl rfl) ?_
    refine reg_quiet rfl (rem_int tab_ok rfl rfl (by omega)) ?_
    refine reg_quiet rfl (conv_int tab_ok rfl rfl rfl (wrap_i64 (by omega) (by omega))) ?_
    refine reg_quiet rfl (step_C tab_ok (fun K hk => hk)) ?_
    refine reg_nil ?_
    refine seq_n ?_
    refine wc_seq ?_
    refine wc_region ?_
    refine reg_new (step_C tab_ok (fun K hk => hk)) rfl ?_
    refine reg_nil ?_
    refine seq_n ?_
    refine wc_seq ?_
    refine wc_region ?_
    refine reg_quiet rfl (step_C tab_ok (fun K hk => hk)) ?_
    refine reg_nil ?_
    refine seq_n ?_
    refine wc_mid (Sum.elim (fun e : Int => (⟨(10, .int .i64 e) :: playEnv ts i, playRows l hd, 72, Try.f12.ntmps, 64⟩ : St)) (fun x : List Frame × Nat × Int => (⟨(10, .int .i64 0) :: playOkEnv ts i (n0.tmod 9) x.2.2, playOkRows l x.1 hd x.2.1, 72, Try.f12.ntmps, 64⟩ : St))) (PlayInv (n0.tmod 9) l) ?_ ?_
    · rcases (by omega : a < 6 ∨ a = 6 ∨ 7 ≤ a) with h6 | h6 | h6
      · have c1 : decide (n0.tmod 9 < 6) = true := decide_eq_true (by omega)
        by_cases he : actE (actP a) l hd (n1.tmod l.length) = 0
        · have hul := updL_len (g := actG a (dataB n2) ⟨0, i⟩) (l := l) (j := n1.tmod l.length)
          have hA : FnIs Try.prog 47 (actArgs l hd (n1.tmod l.length) (n0.tmod 9) (dataB n2) ⟨0, i⟩) [] (ok2 (updL (actG a (dataB n2) ⟨0, i⟩) l (n1.tmod l.length)).length hd) [(64, .ds 39 40 true encFrame (updL (actG a (dataB n2) ⟨0, i⟩) l (n1.tmod l.length)))] := by
            rw [ha, hul]
            exact act_good a h6 (dataB n2) ⟨0, i⟩ l hd (n1.tmod l.length) he
          have hv := act_valid h6 (dataB n2) ⟨0, i⟩ he
          have hs := step_act h6 (dataB n2) ⟨0, i⟩ he
          rw [← ha] at hs
          generalize updL (actG a (dataB n2) ⟨0, i⟩) l (n1.tmod l.length) = t at *
          refine wc_block ?_
          refine wc_seq ?_
          refine wc_region ?_
          refine reg_quiet rfl (step_C tab_ok (fun K hk => hk)) ?_
          refine reg_quiet rfl (step_C tab_ok (fun K hk => hk)) ?_
          refine reg_quiet rfl (step_C tab_ok (fun K hk => hk)) ?_
          refine reg_nil ?_
          refine seq_n ?_
          refine wc_true rfl (by assumption) ?_
          refine wc_draw (by kernel_rfl) ?_
          refine dreg_q [5] [64, 65] rfl (load_box tab_ok rfl rfl rfl rfl) ?_
          refine dreg_q [7] [] rfl (step_C tab_ok (fun K hk => hk)) ?_
          refine dreg_q [8] [] rfl (step_C tab_ok (fun K hk => hk)) ?_
          refine dreg_q [1] [] rfl (step_C tab_ok (fun K hk => hk)) ?_
          refine dreg_q [6] [] rfl (step_C tab_ok (fun K hk => hk)) ?_
          refine dreg_q [64, 65] [] rfl (index_arr tab_ok rfl rfl rfl rfl rfl (by omega) hti) ?_
          refine dreg_q [66] [] rfl (step_C tab_ok (fun K hk => ⟨by omega, by omega, .sc (.int .u8 n2), ⟨rfl, n2, rfl, rfl⟩, hk⟩)) ?_
          refine dreg_q [67] [] rfl (load_i tab_ok rfl rfl) ?_
          refine dreg_q [68] [] rfl (call_r (data_is n2) rfl rfl (arg_e arg_nil) (.inl rfl) (fun _ => rfl)) ?_
          refine dreg_q [6] [] rfl (step_C tab_ok (fun K hk => hk)) ?_
          refine dreg_q [70] [] rfl (conv_int tab_ok rfl rfl rfl (IntWalk.u64_in (i : Int) ⟨by omega, by omega⟩)) ?_
          refine dreg_q [71] [] rfl (build_struct tab_ok rfl rfl rfl rfl) ?_
          refine dreg_w [61, 62, 63, 69, 72] [65] rfl (call_new hA rfl rfl (arg_S rfl rfl (arg_e (arg_e (arg_e (arg_e arg_nil))))) (.inr (ok2_plain _ _ _ _)) rfl rfl) ?_
          refine dreg_q [73] [392] rfl (step_C tab_ok (fun K hk => hk)) ?_
          refine dreg_q [60] [392] rfl (step_C tab_ok (fun K hk => hk)) ?_
          refine dreg_q [60] [392] rfl (step_C tab_ok (fun K hk => hk)) ?_
          refine dreg_s [9, 74] [256, 392] (store_row tab_ok rfl rfl rfl ⟨_, ⟨rfl, rfl, rfl⟩, rfl⟩ rfl) ?_
          refine dreg_q [75] [] rfl (step_C tab_ok (fun K hk => hk)) ?_
          refine dreg_end (by kernel_rfl) ?_
          refine blk_n ?_
          refine mid_n (Sum.inr (t, hd, n1.tmod l.length)) [(64, some 64), (65, some 65), (66, some 256), (67, some 392)] ⟨hv, hs⟩ ?_
          exact .of rfl rfl rfl rfl rfl ⟨⟨_, rfl, .refl _⟩, rfl, ⟨_, rfl, .refl _⟩, rfl, ⟨_, rfl, .refl _⟩, rfl, ⟨_, rfl, .refl _⟩, rfl, ⟨_, rfl, .refl _⟩, rfl, ⟨_, rfl, .refl _⟩, rfl, ⟨_, rfl, .refl _⟩, rfl, trivial⟩ ⟨⟨rfl, rfl, _, rfl, .refl _⟩, ⟨rfl, rfl, _, rfl, .refl _⟩, ⟨rfl, rfl, _, rfl, .refl _⟩, ⟨rfl, rfl, _, rfl, .refl _⟩, trivial⟩
        · have hAe := act_bad a h6 (dataB n2) ⟨0, i⟩ l hd (n1.tmod l.length) he
          rw [← ha] at hAe
          generalize actE (actP a) l hd (n1.tmod l.length) = e at *
          refine wc_block ?_
          refine wc_seq ?_
          refine wc_region ?_
          refine reg_quiet rfl (step_C tab_ok (fun K hk => hk)) ?_
          refine reg_quiet rfl (step_C tab_ok (fun K hk => hk)) ?_
          refine reg_quiet rfl (step_C tab_ok (fun K hk => hk)) ?_
          refine reg_nil ?_
          refine seq_n ?_
          refine wc_true rfl (by assumption) ?_
          refine wc_draw (by kernel_rfl) ?_
          refine dreg_q [5] [64, 65] rfl (load_box tab_ok rfl rfl rfl rfl) ?_
          refine dreg_q [7] [] rfl (step_C tab_ok (fun K hk => hk)) ?_
          refine dreg_q [8] [] rfl (step_C tab_ok (fun K hk => hk)) ?_
          refine dreg_q [1] [] rfl (step_C tab_ok (fun K hk => hk)) ?_
          refine dreg_q [6] [] rfl (step_C tab_ok (fun K hk => hk)) ?_
          refine dreg_q [64, 65] [] rfl (index_arr tab_ok rfl rfl rfl rfl rfl (by omega) hti) ?_
          refine dreg_q [66] [] rfl (step_C tab_ok (fun K hk => ⟨by omega, by omega, .sc (.int .u8 n2), ⟨rfl, n2, rfl, rfl⟩, hk⟩)) ?_
          refine dreg_q [67] [] rfl (load_i tab_ok rfl rfl) ?_
          refine dreg_q [68] [] rfl (call_r (data_is n2) rfl rfl (arg_e arg_nil) (.inl rfl) (fun _ => rfl)) ?_
          refine dreg_q [6] [] rfl (step_C tab_ok (fun K hk => hk)) ?_
          refine dreg_q [70] [] rfl (conv_int tab_ok rfl rfl rfl (IntWalk.u64_in (i : Int) ⟨by omega, by omega⟩)) ?_
          refine dreg_q [71] [] rfl (build_struct tab_ok rfl rfl rfl rfl) ?_
          refine dreg_q [61, 62, 63, 69, 72] [65] rfl (call_r hAe rfl rfl (arg_S rfl rfl (arg_e (arg_e (arg_e (arg_e arg_nil))))) (.inr (err2_plain _)) (fun _ => rfl)) ?_
          refine dreg_q [73] [] rfl (step_C tab_ok (fun K hk => hk)) ?_
          refine dreg_q [60] [] rfl (step_C tab_ok (fun K hk => hk)) ?_
          refine dreg_q [60] [] rfl (step_C tab_ok (fun K hk => hk)) ?_
          refine dreg_s [9, 74] [256] (store_row tab_ok rfl rfl rfl ⟨_, ⟨rfl, rfl, rfl⟩, rfl⟩ rfl) ?_
          refine dreg_q [75] [] rfl (step_C tab_ok (fun K hk => hk)) ?_
          refine dreg_end (by kernel_rfl) ?_
          refine blk_n ?_
          refine mid_n (Sum.inl e) [(64, some 64), (65, some 65)] he ?_
          exact .of rfl rfl rfl rfl rfl ⟨⟨_, rfl, .refl _⟩, rfl, ⟨_, rfl, .refl _⟩, rfl, ⟨_, rfl, .refl _⟩, rfl, ⟨_, rfl, .refl _⟩, rfl, trivial⟩ ⟨⟨rfl, rfl, _, rfl, .refl _⟩, ⟨rfl, rfl, _, rfl, .refl _⟩, trivial⟩
      · have c1 : decide (n0.tmod 9 < 6) = false := decide_eq_false (by omega)
        have c2 : decide (n0.tmod 9 = 6) = true := decide_eq_true (by omega)
        cases hw : waitB l with
        | true =>
          have hB := begin_ok l hd hc hw
          have hv := begin_valid hc hw
          have hs := step_begin hc hw
          have hbl := beginL_len (l := l)
          rw [show (6 : Int) = n0.tmod 9 by omega] at hs
          rw [← hbl] at hB
          generalize beginL l = t at *
          refine wc_block ?_
          refine wc_seq ?_
          refine wc_region ?_
          refine reg_quiet rfl (step_C tab_ok (fun K hk => hk)) ?_
          refine reg_quiet rfl (step_C tab_ok (fun K hk => hk)) ?_
          refine reg_quiet rfl (step_C tab_ok (fun K hk => hk)) ?_
          refine reg_nil ?_
          refine seq_n ?_
          refine wc_false rfl (by assumption) ?_
          refine wc_seq ?_
          refine wc_region ?_
          refine reg_quiet rfl (step_C tab_ok (fun K hk => hk)) ?_
          refine reg_quiet rfl (step_C tab_ok (fun K hk => hk)) ?_
          refine reg_quiet rfl (step_C tab_ok (fun K hk => hk)) ?_
          refine reg_nil ?_
          refine seq_n ?_
          refine wc_true rfl (by assumption) ?_
          refine wc_region ?_
          refine reg_quiet rfl (load_box tab_ok rfl rfl rfl rfl) ?_
          refine reg_new (call_new hB rfl rfl (arg_S rfl rfl arg_nil) (.inr (ok3_plain _ _ _ _ _ _)) rfl rfl) rfl ?_
          refine reg_quiet rfl (step_C tab_ok (fun K hk => hk)) ?_
          refine reg_quiet rfl (step_C tab_ok (fun K hk => hk)) ?_
          refine reg_quiet rfl (step_C tab_ok (fun K hk => hk)) ?_
          refine reg_quiet rfl (step_C tab_ok (fun K hk => hk)) ?_
          refine reg_store (store_row tab_ok rfl rfl rfl ⟨_, ⟨rfl, rfl, rfl⟩, rfl⟩ rfl) ?_
          refine reg_quiet rfl (step_C tab_ok (fun K hk => hk)) ?_
          refine reg_quiet rfl (step_C tab_ok (fun K hk => hk)) ?_
          refine reg_nil ?_
          refine blk_n ?_
          refine mid_n (Sum.inr (t, hd, wAt l)) [(64, some 64), (65, some 65), (66, some 256), (67, some 328)] ⟨hv, hs⟩ ?_
          exact .of rfl rfl rfl rfl rfl ⟨⟨_, rfl, .refl _⟩, rfl, ⟨_, rfl, .refl _⟩, rfl, ⟨_, rfl, .refl _⟩, rfl, ⟨_, rfl, .refl _⟩, rfl, ⟨_, rfl, .refl _⟩, rfl, ⟨_, rfl, .refl _⟩, rfl, ⟨_, rfl, .refl _⟩, rfl, trivial⟩ ⟨⟨rfl, rfl, _, rfl, .refl _⟩, ⟨rfl, rfl, _, rfl, .refl _⟩, ⟨rfl, rfl, _, rfl, .refl _⟩, ⟨rfl, rfl, _, rfl, .refl _⟩, trivial⟩
        | false =>
          have hBe := begin_none l hd hc hw
          refine wc_block ?_
          refine wc_seq ?_
          refine wc_region ?_
          refine reg_quiet rfl (step_C tab_ok (fun K hk => hk)) ?_
          refine reg_quiet rfl (step_C tab_ok (fun K hk => hk)) ?_
          refine reg_quiet rfl (step_C tab_ok (fun K hk => hk)) ?_
          refine reg_nil ?_
          refine seq_n ?_
          refine wc_false rfl (by assumption) ?_
          refine wc_seq ?_
          refine wc_region ?_
          refine reg_quiet rfl (step_C tab_ok (fun K hk => hk)) ?_
          refine reg_quiet rfl (step_C tab_ok (fun K hk => hk)) ?_
          refine reg_quiet rfl (step_C tab_ok (fun K hk => hk)) ?_
          refine reg_nil ?_
          refine seq_n ?_
          refine wc_true rfl (by assumption) ?_
          refine wc_region ?_
          refine reg_quiet rfl (load_box tab_ok rfl rfl rfl rfl) ?_
          refine reg_quiet rfl (call_r hBe rfl rfl (arg_S rfl rfl arg_nil) (.inr (err3_plain _)) (fun _ => rfl)) ?_
          refine reg_quiet rfl (step_C tab_ok (fun K hk => hk)) ?_
          refine reg_quiet rfl (step_C tab_ok (fun K hk => hk)) ?_
          refine reg_quiet rfl (step_C tab_ok (fun K hk => hk)) ?_
          refine reg_quiet rfl (step_C tab_ok (fun K hk => hk)) ?_
          refine reg_store (store_row tab_ok rfl rfl rfl ⟨_, ⟨rfl, rfl, rfl⟩, rfl⟩ rfl) ?_
          refine reg_quiet rfl (step_C tab_ok (fun K hk => hk)) ?_
          refine reg_quiet rfl (step_C tab_ok (fun K hk => hk)) ?_
          refine reg_nil ?_
          refine blk_n ?_
          refine mid_n (Sum.inl 11) [(64, some 64), (65, some 65)] (show (11 : Int) ≠ 0 by decide) ?_
          exact .of rfl rfl rfl rfl rfl ⟨⟨_, rfl, .refl _⟩, rfl, ⟨_, rfl, .refl _⟩, rfl, ⟨_, rfl, .refl _⟩, rfl, ⟨_, rfl, .refl _⟩, rfl, trivial⟩ ⟨⟨rfl, rfl, _, rfl, .refl _⟩, ⟨rfl, rfl, _, rfl, .refl _⟩, trivial⟩
      · have c1 : decide (n0.tmod 9 < 6) = false := decide_eq_false (by omega)
        have c2 : decide (n0.tmod 9 = 6) = false := decide_eq_false (by omega)
        rcases placeOr hc n1 (decide (n0.tmod 9 = 7)) with ⟨e, he, hPe⟩ | ⟨t, h2, at_, hP, hv, hs⟩
        · refine wc_block ?_
          refine wc_seq ?_
          refine wc_region ?_
          refine reg_quiet rfl (step_C tab_ok (fun K hk => hk)) ?_
          refine reg_quiet rfl (step_C tab_ok (fun K hk => hk)) ?_
          refine reg_quiet rfl (step_C tab_ok (fun K hk => hk)) ?_
          refine reg_nil ?_
          refine seq_n ?_
          refine wc_false rfl (by assumption) ?_
          refine wc_seq ?_
          refine wc_region ?_
          refine reg_quiet rfl (step_C tab_ok (fun K hk => hk)) ?_
          refine reg_quiet rfl (step_C tab_ok (fun K hk => hk)) ?_
          refine reg_quiet rfl (step_C tab_ok (fun K hk => hk)) ?_
          refine reg_nil ?_
          refine seq_n ?_
          refine wc_false rfl (by assumption) ?_
          refine wc_draw (by kernel_rfl) ?_
          refine dreg_q [5] [64, 65] rfl (load_box tab_ok rfl rfl rfl rfl) ?_
          refine dreg_q [1] [] rfl (step_C tab_ok (fun K hk => hk)) ?_
          refine dreg_q [6] [] rfl (step_C tab_ok (fun K hk => hk)) ?_
          refine dreg_q [45, 46] [] rfl (index_arr tab_ok rfl rfl rfl rfl rfl (by omega) hti) ?_
          refine dreg_q [47] [] rfl (step_C tab_ok (fun K hk => ⟨by omega, by omega, .sc (.int .u8 n1), ⟨rfl, n1, rfl, rfl⟩, hk⟩)) ?_
          refine dreg_q [48] [] rfl (load_i tab_ok rfl rfl) ?_
          refine dreg_q [49] [] rfl (conv_int tab_ok rfl rfl rfl (wrap_i64 (by omega) (by omega))) ?_
          refine dreg_q [8] [] rfl (step_C tab_ok (fun K hk => hk)) ?_
          refine dreg_q [51] [] rfl (step_C tab_ok (fun K hk => hk)) ?_
          refine dreg_q [44, 50, 52] [65] rfl (call_r hPe rfl rfl (arg_S rfl rfl (arg_e (arg_e arg_nil))) (.inr (err3_plain _)) (fun _ => rfl)) ?_
          refine dreg_q [53] [] rfl (step_C tab_ok (fun K hk => hk)) ?_
          refine dreg_q [43] [] rfl (step_C tab_ok (fun K hk => hk)) ?_
          refine dreg_q [43] [] rfl (step_C tab_ok (fun K hk => hk)) ?_
          refine dreg_q [43] [] rfl (step_C tab_ok (fun K hk => hk)) ?_
          refine dreg_s [9, 54] [256] (store_row tab_ok rfl rfl rfl ⟨_, ⟨rfl, rfl, rfl⟩, rfl⟩ rfl) ?_
          refine dreg_q [55] [] rfl (step_C tab_ok (fun K hk => hk)) ?_
          refine dreg_q [56] [] rfl (step_C tab_ok (fun K hk => hk)) ?_
          refine dreg_end (by kernel_rfl) ?_
          refine blk_n ?_
          refine mid_n (Sum.inl e) [(64, some 64), (65, some 65)] he ?_
          exact .of rfl rfl rfl rfl rfl ⟨⟨_, rfl, .refl _⟩, rfl, ⟨_, rfl, .refl _⟩, rfl, ⟨_, rfl, .refl _⟩, rfl, ⟨_, rfl, .refl _⟩, rfl, trivial⟩ ⟨⟨rfl, rfl, _, rfl, .refl _⟩, ⟨rfl, rfl, _, rfl, .refl _⟩, trivial⟩
        · replace hs := hs (n0.tmod 9) (by omega)
          refine wc_block ?_
          refine wc_seq ?_
          refine wc_region ?_
          refine reg_quiet rfl (step_C tab_ok (fun K hk => hk)) ?_
          refine reg_quiet rfl (step_C tab_ok (fun K hk => hk)) ?_
          refine reg_quiet rfl (step_C tab_ok (fun K hk => hk)) ?_
          refine reg_nil ?_
          refine seq_n ?_
          refine wc_false rfl (by assumption) ?_
          refine wc_seq ?_
          refine wc_region ?_
          refine reg_quiet rfl (step_C tab_ok (fun K hk => hk)) ?_
          refine reg_quiet rfl (step_C tab_ok (fun K hk => hk)) ?_
          refine reg_quiet rfl (step_C tab_ok (fun K hk => hk)) ?_
          refine reg_nil ?_
          refine seq_n ?_
          refine wc_false rfl (by assumption) ?_
          refine wc_draw (by kernel_rfl) ?_
          refine dreg_q [5] [64, 65] rfl (load_box tab_ok rfl rfl rfl rfl) ?_
          refine dreg_q [1] [] rfl (step_C tab_ok (fun K hk => hk)) ?_
          refine dreg_q [6] [] rfl (step_C tab_ok (fun K hk => hk)) ?_
          refine dreg_q [45, 46] [] rfl (index_arr tab_ok rfl rfl rfl rfl rfl (by omega) hti) ?_
          refine dreg_q [47] [] rfl (step_C tab_ok (fun K hk => ⟨by omega, by omega, .sc (.int .u8 n1), ⟨rfl, n1, rfl, rfl⟩, hk⟩)) ?_
          refine dreg_q [48] [] rfl (load_i tab_ok rfl rfl) ?_
          refine dreg_q [49] [] rfl (conv_int tab_ok rfl rfl rfl (wrap_i64 (by omega) (by omega))) ?_
          refine dreg_q [8] [] rfl (step_C tab_ok (fun K hk => hk)) ?_
          refine dreg_q [51] [] rfl (step_C tab_ok (fun K hk => hk)) ?_
          refine dreg_w [44, 50, 52] [65] rfl (call_new hP rfl rfl (arg_S rfl rfl (arg_e (arg_e arg_nil))) (.inr (ok3_plain _ _ _ _ _ _)) rfl rfl) ?_
          refine dreg_q [53] [392] rfl (step_C tab_ok (fun K hk => hk)) ?_
          refine dreg_q [43] [392] rfl (step_C tab_ok (fun K hk => hk)) ?_
          refine dreg_q [43] [392] rfl (step_C tab_ok (fun K hk => hk)) ?_
          refine dreg_q [43] [392] rfl (step_C tab_ok (fun K hk => hk)) ?_
          refine dreg_s [9, 54] [256, 392] (store_row tab_ok rfl rfl rfl ⟨_, ⟨rfl, rfl, rfl⟩, rfl⟩ rfl) ?_
          refine dreg_q [55] [] rfl (step_C tab_ok (fun K hk => hk)) ?_
          refine dreg_q [56] [] rfl (step_C tab_ok (fun K hk => hk)) ?_
          refine dreg_end (by kernel_rfl) ?_
          refine blk_n ?_
          refine mid_n (Sum.inr (t, h2, at_)) [(64, some 64), (65, some 65), (66, some 256), (67, some 392)] ⟨hv, hs⟩ ?_
          exact .of rfl rfl rfl rfl rfl ⟨⟨_, rfl, .refl _⟩, rfl, ⟨_, rfl, .refl _⟩, rfl, ⟨_, rfl, .refl _⟩, rfl, ⟨_, rfl, .refl _⟩, rfl, ⟨_, rfl, .refl _⟩, rfl, ⟨_, rfl, .refl _⟩, rfl, ⟨_, rfl, .refl _⟩, rfl, trivial⟩ ⟨⟨rfl, rfl, _, rfl, .refl _⟩, ⟨rfl, rfl, _, rfl, .refl _⟩, ⟨rfl, rfl, _, rfl, .refl _⟩, ⟨rfl, rfl, _, rfl, .refl _⟩, trivial⟩
    · rintro (e | ⟨t, h2, at_⟩) hm
      · have hm' : (!decide (e = 0)) = true := by rw [decide_eq_false hm]; rfl
        refine wc_of ?_
        refine wc_seq ?_
        refine wc_seq ?_
        refine wc_region ?_
        refine reg_quiet rfl (step_C tab_ok (fun K hk => hk)) ?_
        refine reg_quiet rfl (step_C tab_ok (fun K hk => hk)) ?_
        refine reg_nil ?_
        refine seq_n ?_
        refine wc_true rfl (by assumption) ?_
        refine wc_exit ?_
        refine seq_x ?_
        refine blk_x ?_
        refine seq_n ?_
        refine wc_region ?_
        refine reg_quiet rfl (step_C tab_ok (fun K hk => hk)) ?_
        refine reg_quiet rfl (add_int tab_ok rfl rfl (wrap_i64 (by omega) (by omega))) ?_
        refine reg_quiet rfl (step_C tab_ok (fun K hk => hk)) ?_
        refine reg_nil ?_
        refine loop_n (i + 1, l, hd) [(64, some 64), (65, some 65)] ⟨hlt, hc⟩ (by simp only; omega) ?_
        exact .of rfl rfl rfl rfl rfl ⟨⟨_, rfl, .refl _⟩, rfl, ⟨_, rfl, .refl _⟩, rfl, ⟨_, rfl, .refl _⟩, rfl, trivial⟩ ⟨⟨rfl, rfl, _, rfl, .refl _⟩, ⟨rfl, rfl, _, rfl, .refl _⟩, trivial⟩
      · obtain ⟨hm1, hm2⟩ := hm
        simp only at hm1 hm2
        have q1 : (!decide (chkS t h2 = 0)) = false := by rw [decide_eq_true hm1]; rfl
        have q2 : (!decide ((t.length : Int) = l.length)) = false := by rw [decide_eq_true (by rw [hm2.len])]; rfl
        refine wc_of ?_
        refine wc_seq ?_
        refine wc_seq ?_
        refine wc_region ?_
        refine reg_quiet rfl (step_C tab_ok (fun K hk => hk)) ?_
        refine reg_quiet rfl (step_C tab_ok (fun K hk => hk)) ?_
        refine reg_nil ?_
        refine seq_n ?_
        refine wc_false rfl rfl ?_
        refine wc_skip ?_
        refine seq_n ?_
        refine wc_seq ?_
        refine wc_seq ?_
        refine wc_region ?_
        refine reg_quiet rfl (load_box tab_ok rfl rfl rfl rfl) ?_
        refine reg_quiet rfl (call_r (shcheck_is t h2) rfl rfl (arg_S rfl rfl arg_nil) (.inr (int_plain _ _)) (fun _ => rfl)) ?_
        refine reg_quiet rfl (step_C tab_ok (fun K hk => hk)) ?_
        refine reg_quiet rfl (step_C tab_ok (fun K hk => hk)) ?_
        refine reg_on rfl rfl (by assumption) ?_
        refine reg_quiet rfl (load_box tab_ok rfl rfl rfl rfl) ?_
        refine reg_on rfl rfl (by assumption) ?_
        refine reg_quiet rfl (call_r (refshcheck_is t h2) rfl rfl (arg_S rfl rfl arg_nil) (.inr (int_plain _ _)) (fun _ => rfl)) ?_
        refine reg_on rfl rfl (by assumption) ?_
        refine reg_quiet rfl (step_C tab_ok (fun K hk => hk)) ?_
        refine reg_quiet rfl (pick_F tab_ok rfl (by assumption) rfl) ?_
        refine reg_quiet rfl (step_C tab_ok (fun K hk => hk)) ?_
        refine reg_on rfl rfl (by assumption) ?_
        refine reg_quiet rfl (step_C tab_ok (fun K hk => hk)) ?_
        refine reg_on rfl rfl (by assumption) ?_
        refine reg_quiet rfl (load_box tab_ok rfl rfl rfl rfl) ?_
        refine reg_on rfl rfl (by assumption) ?_
        refine reg_quiet rfl (len_own tab_ok rfl rfl) ?_
        refine reg_on rfl rfl (by assumption) ?_
        refine reg_quiet rfl (step_C tab_ok (fun K hk => hk)) ?_
        refine reg_on rfl rfl (by assumption) ?_
        refine reg_quiet rfl (load_box tab_ok rfl rfl rfl rfl) ?_
        refine reg_on rfl rfl (by assumption) ?_
        refine reg_quiet rfl (len_own tab_ok rfl rfl) ?_
        refine reg_on rfl rfl (by assumption) ?_
        refine reg_quiet rfl (step_C tab_ok (fun K hk => hk)) ?_
        refine reg_quiet rfl (pick_F tab_ok rfl (by assumption) rfl) ?_
        refine reg_nil ?_
        refine seq_n ?_
        refine wc_false rfl (by assumption) ?_
        refine wc_skip ?_
        refine seq_n ?_
        refine wc_seq ?_
        refine wc_seq ?_
        refine wc_region ?_
        refine reg_quiet rfl (step_C tab_ok (fun K hk => hk)) ?_
        refine reg_nil ?_
        refine seq_n ?_
        refine wc_block ?_
        refine wc_inv (fun k : Nat => ⟨(11, .int .i64 k) :: playOkEnv ts i (n0.tmod 9) at_, playOkRows l t hd h2, 72, Try.f12.ntmps, 64⟩) (fun k => k ≤ t.length) (fun k => t.length - k) 0 [(64, some 64), (65, some 65), (66, some 66), (67, some 67)] (Nat.zero_le _)
          (.of rfl rfl rfl rfl rfl ⟨⟨_, rfl, .refl _⟩, rfl, ⟨_, rfl, .refl _⟩, rfl, ⟨_, rfl, .refl _⟩, rfl, ⟨_, rfl, .refl _⟩, rfl, ⟨_, rfl, .refl _⟩, rfl, ⟨_, rfl, .refl _⟩, rfl, ⟨_, rfl, .refl _⟩, rfl, trivial⟩ ⟨⟨rfl, rfl, _, rfl, .refl _⟩, ⟨rfl, rfl, _, rfl, .refl _⟩, ⟨rfl, rfl, _, rfl, .refl _⟩, ⟨rfl, rfl, _, rfl, .refl _⟩, trivial⟩) ?_
        intro k hk
        refine wc_of ?_
        refine wc_seq ?_
        refine wc_seq ?_
        refine wc_region ?_
        refine reg_quiet rfl (step_C tab_ok (fun K hk => hk)) ?_
        refine reg_quiet rfl (step_C tab_ok (fun K hk => hk)) ?_
        refine reg_quiet rfl (load_box tab_ok rfl rfl rfl rfl) ?_
        refine reg_quiet rfl (len_own tab_ok rfl rfl) ?_
        refine reg_quiet rfl (step_C tab_ok (fun K hk => hk)) ?_
        refine reg_nil ?_
        refine seq_n ?_
        refine wc_cond rfl (fun hb2 => ?_) (fun hb2 => ?_)
        · have hlt2 : k < t.length := by have := of_decide_eq_true hb2; omega
          have hlt3 : k < l.length := by rw [← hm2.len]; exact hlt2
          obtain ⟨f, hf0⟩ : ∃ f, l[k]? = some f := ⟨_, List.getElem?_eq_getElem hlt3⟩
          obtain ⟨g, hg0⟩ : ∃ g, t[k]? = some g := ⟨_, List.getElem?_eq_getElem hlt2⟩
          obtain ⟨q3, q4, q5⟩ := hm2.ok k f g hf0 hg0
          have hf : l[((k : Int)).toNat]? = some f := by rw [Int.toNat_natCast]; exact hf0
          have hg : t[((k : Int)).toNat]? = some g := by rw [Int.toNat_natCast]; exact hg0
          simp only [offB] at q3
          simp only [lostB] at q4
          simp only [othB] at q5
          clear q1 q2 hm1 hm2 hts hby hti hti0 b0 b1 b2 ha ha9 hc v1 v3 v4 v5 hpos hlen hL hh hb hlt hi hb2 hf0 hg0
          refine wc_skip ?_
          refine seq_n ?_
          refine wc_seq ?_
          refine wc_block ?_
          refine wc_seq ?_
          refine wc_draw (by kernel_rfl) ?_
          refine dreg_q [5] [64, 65] rfl (step_C tab_ok (fun K hk => hk)) ?_
          refine dreg_q [111] [64, 65] rfl (load_box tab_ok rfl rfl rfl rfl) ?_
          refine dreg_q [11] [] rfl (step_C tab_ok (fun K hk => hk)) ?_
          refine dreg_q [112, 113] [65] rfl (index_own tab_ok rfl rfl rfl rfl rfl (by omega) (by omega)) ?_
          refine dreg_q [114] [65] rfl (load_row (v := .d (encFrame f)) tab_ok rfl rfl ⟨rfl, f, hf, encFrame f, rfl, rfl⟩ rfl) ?_
          refine dreg_q [9] [66, 67] rfl (step_C tab_ok (fun K hk => hk)) ?_
          refine dreg_q [116] [66, 67] rfl (load_box tab_ok rfl rfl rfl rfl) ?_
          refine dreg_q [11] [] rfl (step_C tab_ok (fun K hk => hk)) ?_
          refine dreg_q [117, 118] [67] rfl (index_own tab_ok rfl rfl rfl rfl rfl (by omega) (by omega)) ?_
          refine dreg_q [119] [67] rfl (load_row (v := .d (encFrame g)) tab_ok rfl rfl ⟨rfl, g, hg, encFrame g, rfl, rfl⟩ rfl) ?_
          refine dreg_w [] [] rfl (step_C tab_ok (fun K hk => hk)) ?_
          refine dreg_w [] [] rfl (step_C tab_ok (fun K hk => hk)) ?_
          refine dreg_s [12, 115] [192] (store_row tab_ok rfl rfl rfl ⟨_, ⟨rfl, rfl, rfl⟩, rfl⟩ rfl) ?_
          refine dreg_s [13, 120] [200] (store_row tab_ok rfl rfl rfl ⟨_, ⟨rfl, rfl, rfl⟩, rfl⟩ rfl) ?_
          refine dreg_end (by kernel_rfl) ?_
          refine seq_n ?_
          refine wc_seq ?_
          refine wc_seq_cut 143 (.bool (!decide ((k : Int) = at_) && (g.ref && !f.ref || (g.ref != f.ref) && decide (n0.tmod 9 < 7)))) _ rfl ?_ ?_
          · refine reg_quiet rfl (step_C tab_ok (fun K hk => hk)) ?_
            refine reg_quiet rfl (step_C tab_ok (fun K hk => hk)) ?_
            refine reg_quiet rfl (step_C tab_ok (fun K hk => hk)) ?_
            refine reg_quiet rfl (step_C tab_ok (fun K hk => hk)) ?_
            refine reg_split rfl rfl rfl (fun hb => ?_) (fun hb => ?_)
            refine reg_on rfl rfl (by assumption) ?_
            refine reg_quiet rfl (step_C tab_ok (fun K hk => hk)) ?_
            refine reg_on rfl rfl (by assumption) ?_
            refine reg_quiet rfl (load_box tab_ok rfl rfl ⟨_, rfl, rfl⟩ rfl) ?_
            refine reg_on rfl rfl (by assumption) ?_
            refine reg_quiet rfl (step_C tab_ok (fun K hk => hk)) ?_
            refine reg_split rfl rfl rfl (fun hb => ?_) (fun hb => ?_)
            refine reg_on rfl rfl (by assumption) ?_
            refine reg_quiet rfl (step_C tab_ok (fun K hk => hk)) ?_
            refine reg_on rfl rfl (by assumption) ?_
            refine reg_quiet rfl (load_box tab_ok rfl rfl ⟨_, rfl, rfl⟩ rfl) ?_
            refine reg_on rfl rfl (by assumption) ?_
            refine reg_quiet rfl (step_C tab_ok (fun K hk => hk)) ?_
            refine reg_on rfl rfl (by assumption) ?_
            refine reg_quiet rfl (pick_T tab_ok rfl (by assumption) rfl) ?_
            refine reg_on rfl rfl (by assumption) ?_
            refine reg_quiet rfl (step_C tab_ok (fun K hk => hk)) ?_
            refine reg_split rfl rfl rfl (fun hb => ?_) (fun hb => ?_)
            refine reg_on rfl rfl (by assumption) ?_
            refine reg_quiet rfl (step_C tab_ok (fun K hk => hk)) ?_
            refine reg_on rfl rfl (by assumption) ?_
            refine reg_quiet rfl (load_box tab_ok rfl rfl ⟨_, rfl, rfl⟩ rfl) ?_
            refine reg_on rfl rfl (by assumption) ?_
            refine reg_quiet rfl (step_C tab_ok (fun K hk => hk)) ?_
            refine reg_on rfl rfl (by assumption) ?_
            refine reg_quiet rfl (load_box tab_ok rfl rfl ⟨_, rfl, rfl⟩ rfl) ?_
            refine reg_on rfl rfl (by assumption) ?_
            refine reg_quiet rfl (step_C tab_ok (fun K hk => hk)) ?_
            refine reg_on rfl rfl (by assumption) ?_
            refine reg_quiet rfl (step_C tab_ok (fun K hk => hk)) ?_
            refine reg_split rfl rfl rfl (fun hb => ?_) (fun hb => ?_)
            refine reg_on rfl rfl (by assumption) ?_
            refine reg_quiet rfl (step_C tab_ok (fun K hk => hk)) ?_
            refine reg_on rfl rfl (by assumption) ?_
            refine reg_quiet rfl (step_C tab_ok (fun K hk => hk)) ?_
            refine reg_on rfl rfl (by assumption) ?_
            refine reg_quiet rfl (pick_T tab_ok rfl (by assumption) rfl) ?_
            refine reg_on rfl rfl (by assumption) ?_
            refine reg_quiet rfl (pick_F tab_ok rfl (by assumption) rfl) ?_
            refine reg_quiet rfl (pick_T tab_ok rfl (by assumption) rfl) ?_
            rotate_left
            refine reg_skip rfl rfl (by assumption) rfl rfl ?_
            refine reg_skip rfl rfl (by assumption) rfl rfl ?_
            refine reg_on rfl rfl (by assumption) ?_
            refine reg_quiet rfl (pick_F tab_ok rfl (by assumption) rfl) ?_
            refine reg_on rfl rfl (by assumption) ?_
            refine reg_quiet rfl (pick_F tab_ok rfl (by assumption) rfl) ?_
            refine reg_quiet rfl (pick_T tab_ok rfl (by assumption) rfl) ?_
            rotate_left
            refine reg_skip rfl rfl (by assumption) rfl rfl ?_
            refine reg_skip rfl rfl (by assumption) rfl rfl ?_
            refine reg_skip rfl rfl (by assumption) rfl rfl ?_
            refine reg_skip rfl rfl (by assumption) rfl rfl ?_
            refine reg_skip rfl rfl (by assumption) rfl rfl ?_
            refine reg_skip rfl rfl (by assumption) rfl rfl ?_
            refine reg_skipU rfl rfl rfl rfl ?_
            refine reg_skipU rfl rfl rfl rfl ?_
            refine reg_skip rfl rfl (by assumption) rfl rfl ?_
            refine reg_on rfl rfl (by assumption) ?_
            refine reg_quiet rfl (pick_T tab_ok rfl (by assumption) rfl) ?_
            refine reg_quiet rfl (pick_T tab_ok rfl (by assumption) rfl) ?_
            rotate_left
            refine reg_skip rfl rfl (by assumption) rfl rfl ?_
            refine reg_skip rfl rfl (by assumption) rfl rfl ?_
            refine reg_skip rfl rfl (by assumption) rfl rfl ?_
            refine reg_on rfl rfl (by assumption) ?_
            refine reg_quiet rfl (pick_F tab_ok rfl (by assumption) rfl) ?_
            refine reg_on rfl rfl (by assumption) ?_
            refine reg_quiet rfl (step_C tab_ok (fun K hk => hk)) ?_
            refine reg_on rfl rfl rfl ?_
            refine reg_quiet rfl (step_C tab_ok (fun K hk => hk)) ?_
            refine reg_on rfl rfl rfl ?_
            refine reg_quiet rfl (load_box tab_ok rfl rfl ⟨_, rfl, rfl⟩ rfl) ?_
            refine reg_on rfl rfl rfl ?_
            refine reg_quiet rfl (step_C tab_ok (fun K hk => hk)) ?_
            refine reg_on rfl rfl rfl ?_
            refine reg_quiet rfl (load_box tab_ok rfl rfl ⟨_, rfl, rfl⟩ rfl) ?_
            refine reg_on rfl rfl rfl ?_
            refine reg_quiet rfl (step_C tab_ok (fun K hk => hk)) ?_
            refine reg_on rfl rfl rfl ?_
            refine reg_quiet rfl (step_C tab_ok (fun K hk => hk)) ?_
            refine reg_split rfl rfl rfl (fun hb => ?_) (fun hb => ?_)
            refine reg_on rfl rfl (by assumption) ?_
            refine reg_quiet rfl (step_C tab_ok (fun K hk => hk)) ?_
            refine reg_on rfl rfl (by assumption) ?_
            refine reg_quiet rfl (step_C tab_ok (fun K hk => hk)) ?_
            refine reg_on rfl rfl rfl ?_
            refine reg_quiet rfl (pick_T tab_ok rfl (by assumption) rfl) ?_
            refine reg_on rfl rfl (by assumption) ?_
            refine reg_quiet rfl (pick_F tab_ok rfl rfl rfl) ?_
            refine reg_quiet rfl (pick_T tab_ok rfl (by assumption) rfl) ?_
            rotate_left
            refine reg_skip rfl rfl (by assumption) rfl rfl ?_
            refine reg_skip rfl rfl (by assumption) rfl rfl ?_
            refine reg_on rfl rfl rfl ?_
            refine reg_quiet rfl (pick_F tab_ok rfl (by assumption) rfl) ?_
            refine reg_on rfl rfl (by assumption) ?_
            refine reg_quiet rfl (pick_F tab_ok rfl rfl rfl) ?_
            refine reg_quiet rfl (pick_T tab_ok rfl (by assumption) rfl) ?_
            rotate_left
            refine reg_skip rfl rfl (by assumption) rfl rfl ?_
            refine reg_skip rfl rfl (by assumption) rfl rfl ?_
            refine reg_skip rfl rfl (by assumption) rfl rfl ?_
            refine reg_skipU rfl rfl rfl rfl ?_
            refine reg_skipU rfl rfl rfl rfl ?_
            refine reg_skipU rfl rfl rfl rfl ?_
            refine reg_skip rfl rfl (by assumption) rfl rfl ?_
            refine reg_skip rfl rfl (by assumption) rfl rfl ?_
            refine reg_skipU rfl rfl rfl rfl ?_
            refine reg_skipU rfl rfl rfl rfl ?_
            refine reg_skipU rfl rfl rfl rfl ?_
            refine reg_skipU rfl rfl rfl rfl ?_
            refine reg_skipU rfl rfl rfl rfl ?_
            refine reg_skipU rfl rfl rfl rfl ?_
            refine reg_skipU rfl rfl rfl rfl ?_
            refine reg_skipU rfl rfl rfl rfl ?_
            refine reg_skipU rfl rfl rfl rfl ?_
            refine reg_skip rfl rfl (by assumption) rfl rfl ?_
            refine reg_quiet rfl (pick_F tab_ok rfl (by assumption) rfl) ?_
            rotate_left
            all_goals refine reg_cut 23 rfl rfl rfl rfl rfl rfl rfl rfl rfl (AVLe.of_eq ?_)
            all_goals (first | rfl | (clear q5; simp_all; done) | (simp_all; done) | (simp_all; omega))
          refine wc_false rfl (by assumption) ?_
          refine wc_skip ?_
          refine seq_n ?_
          refine wc_seq ?_
          refine wc_seq_cut 179 (.bool (f.busy && (!decide (g.block = f.block) || !decide (g.data = f.data) || !g.used) || f.dirty && g.dirty && !decide (g.nonce = f.nonce))) _ rfl ?_ ?_
          · refine reg_quiet rfl (step_C tab_ok (fun K hk => hk)) ?_
            refine reg_quiet rfl (load_box tab_ok rfl rfl ⟨_, rfl, rfl⟩ rfl) ?_
            refine reg_quiet rfl (step_C tab_ok (fun K hk => hk)) ?_
            refine reg_split rfl rfl rfl (fun hb => ?_) (fun hb => ?_)
            refine reg_on rfl rfl (by assumption) ?_
            refine reg_quiet rfl (step_C tab_ok (fun K hk => hk)) ?_
            refine reg_on rfl rfl (by assumption) ?_
            refine reg_quiet rfl (load_box tab_ok rfl rfl ⟨_, rfl, rfl⟩ rfl) ?_
            refine reg_on rfl rfl (by assumption) ?_
            refine reg_quiet rfl (step_C tab_ok (fun K hk => hk)) ?_
            refine reg_on rfl rfl (by assumption) ?_
            refine reg_quiet rfl (load_box tab_ok rfl rfl ⟨_, rfl, rfl⟩ rfl) ?_
            refine reg_on rfl rfl (by assumption) ?_
            refine reg_quiet rfl (step_C tab_ok (fun K hk => hk)) ?_
            refine reg_on rfl rfl (by assumption) ?_
            refine reg_quiet rfl (step_C tab_ok (fun K hk => hk)) ?_
            refine reg_split rfl rfl rfl (fun hb => ?_) (fun hb => ?_)
            refine reg_on rfl rfl (by assumption) ?_
            refine reg_quiet rfl (step_C tab_ok (fun K hk => hk)) ?_
            refine reg_on rfl rfl (by assumption) ?_
            refine reg_quiet rfl (load_box tab_ok rfl rfl ⟨_, rfl, rfl⟩ rfl) ?_
            refine reg_on rfl rfl (by assumption) ?_
            refine reg_quiet rfl (step_C tab_ok (fun K hk => hk)) ?_
            refine reg_on rfl rfl (by assumption) ?_
            refine reg_quiet rfl (load_box tab_ok rfl rfl ⟨_, rfl, rfl⟩ rfl) ?_
            refine reg_on rfl rfl (by assumption) ?_
            refine reg_quiet rfl (neq_data rfl rfl rfl rfl (by kernel_rfl) (by decide) (block_eq g.data f.data)) ?_
            refine reg_on rfl rfl (by assumption) ?_
            refine reg_quiet rfl (pick_F tab_ok rfl (by assumption) rfl) ?_
            refine reg_on rfl rfl (by assumption) ?_
            refine reg_quiet rfl (step_C tab_ok (fun K hk => hk)) ?_
            refine reg_split rfl rfl rfl (fun hb => ?_) (fun hb => ?_)
            refine reg_on rfl rfl (by assumption) ?_
            refine reg_quiet rfl (step_C tab_ok (fun K hk => hk)) ?_
            refine reg_on rfl rfl (by assumption) ?_
            refine reg_quiet rfl (load_box tab_ok rfl rfl ⟨_, rfl, rfl⟩ rfl) ?_
            refine reg_on rfl rfl (by assumption) ?_
            refine reg_quiet rfl (step_C tab_ok (fun K hk => hk)) ?_
            refine reg_on rfl rfl (by assumption) ?_
            refine reg_quiet rfl (pick_F tab_ok rfl (by assumption) rfl) ?_
            refine reg_quiet rfl (pick_T tab_ok rfl (by assumption) rfl) ?_
            refine reg_quiet rfl (step_C tab_ok (fun K hk => hk)) ?_
            refine reg_split rfl rfl rfl (fun hb => ?_) (fun hb => ?_)
            refine reg_on rfl rfl (by assumption) ?_
            refine reg_quiet rfl (step_C tab_ok (fun K hk => hk)) ?_
            refine reg_on rfl rfl (by assumption) ?_
            refine reg_quiet rfl (load_box tab_ok rfl rfl ⟨_, rfl, rfl⟩ rfl) ?_
            refine reg_on rfl rfl (by assumption) ?_
            refine reg_quiet rfl (step_C tab_ok (fun K hk => hk)) ?_
            refine reg_split rfl rfl rfl (fun hb => ?_) (fun hb => ?_)
            refine reg_on rfl rfl (by assumption) ?_
            refine reg_quiet rfl (step_C tab_ok (fun K hk => hk)) ?_
            refine reg_on rfl rfl (by assumption) ?_
            refine reg_quiet rfl (load_box tab_ok rfl rfl ⟨_, rfl, rfl⟩ rfl) ?_
            refine reg_on rfl rfl (by assumption) ?_
            refine reg_quiet rfl (pick_T tab_ok rfl (by assumption) rfl) ?_
            refine reg_on rfl rfl (by assumption) ?_
            refine reg_quiet rfl (step_C tab_ok (fun K hk => hk)) ?_
            refine reg_split rfl rfl rfl (fun hb => ?_) (fun hb => ?_)
            refine reg_on rfl rfl (by assumption) ?_
            refine reg_quiet rfl (step_C tab_ok (fun K hk => hk)) ?_
            refine reg_on rfl rfl (by assumption) ?_
            refine reg_quiet rfl (load_box tab_ok rfl rfl ⟨_, rfl, rfl⟩ rfl) ?_
            refine reg_on rfl rfl (by assumption) ?_
            refine reg_quiet rfl (step_C tab_ok (fun K hk => hk)) ?_
            refine reg_on rfl rfl (by assumption) ?_
            refine reg_quiet rfl (load_box tab_ok rfl rfl ⟨_, rfl, rfl⟩ rfl) ?_
            refine reg_on rfl rfl (by assumption) ?_
            refine reg_quiet rfl (neq_data rfl rfl rfl rfl (by kernel_rfl) (by decide) (nonce_eq g.nonce f.nonce)) ?_
            refine reg_on rfl rfl (by assumption) ?_
            refine reg_quiet rfl (pick_T tab_ok rfl (by assumption) rfl) ?_
            refine reg_quiet rfl (pick_F tab_ok rfl (by assumption) rfl) ?_
            rotate_left
            refine reg_skip rfl rfl (by assumption) rfl rfl ?_
            refine reg_skip rfl rfl (by assumption) rfl rfl ?_
            refine reg_skip rfl rfl (by assumption) rfl rfl ?_
            refine reg_skip rfl rfl (by assumption) rfl rfl ?_
            refine reg_skip rfl rfl (by assumption) rfl rfl ?_
            refine reg_on rfl rfl (by assumption) ?_
            refine reg_quiet rfl (pick_F tab_ok rfl (by assumption) rfl) ?_
            refine reg_quiet rfl (pick_F tab_ok rfl (by assumption) rfl) ?_
            rotate_left
            refine reg_skip rfl rfl (by assumption) rfl rfl ?_
            refine reg_skip rfl rfl (by assumption) rfl rfl ?_
            refine reg_on rfl rfl (by assumption) ?_
            refine reg_quiet rfl (pick_F tab_ok rfl (by assumption) rfl) ?_
            refine reg_on rfl rfl (by assumption) ?_
            refine reg_quiet rfl (step_C tab_ok (fun K hk => hk)) ?_
            refine reg_skip rfl rfl rfl rfl rfl ?_
            refine reg_skip rfl rfl rfl rfl rfl ?_
            refine reg_skip rfl rfl rfl rfl rfl ?_
            refine reg_skip rfl rfl rfl rfl rfl ?_
            refine reg_skip rfl rfl rfl rfl rfl ?_
            refine reg_on rfl rfl (by assumption) ?_
            refine reg_quiet rfl (pick_F tab_ok rfl rfl rfl) ?_
            refine reg_quiet rfl (pick_F tab_ok rfl (by assumption) rfl) ?_
            rotate_left
            refine reg_skip rfl rfl (by assumption) rfl rfl ?_
            refine reg_skip rfl rfl (by assumption) rfl rfl ?_
            refine reg_skip rfl rfl (by assumption) rfl rfl ?_
            refine reg_skipU rfl rfl rfl rfl ?_
            refine reg_skipU rfl rfl rfl rfl ?_
            refine reg_skip rfl rfl (by assumption) rfl rfl ?_
            refine reg_skip rfl rfl (by assumption) rfl rfl ?_
            refine reg_skipU rfl rfl rfl rfl ?_
            refine reg_skipU rfl rfl rfl rfl ?_
            refine reg_skipU rfl rfl rfl rfl ?_
            refine reg_skipU rfl rfl rfl rfl ?_
            refine reg_skipU rfl rfl rfl rfl ?_
            refine reg_skip rfl rfl (by assumption) rfl rfl ?_
            refine reg_quiet rfl (pick_T tab_ok rfl (by assumption) rfl) ?_
            rotate_left
            refine reg_skip rfl rfl (by assumption) rfl rfl ?_
            refine reg_skip rfl rfl (by assumption) rfl rfl ?_
            refine reg_skip rfl rfl (by assumption) rfl rfl ?_
            refine reg_on rfl rfl (by assumption) ?_
            refine reg_quiet rfl (pick_T tab_ok rfl (by assumption) rfl) ?_
            refine reg_quiet rfl (pick_T tab_ok rfl (by assumption) rfl) ?_
            refine reg_quiet rfl (step_C tab_ok (fun K hk => hk)) ?_
            refine reg_skip rfl rfl rfl rfl rfl ?_
            refine reg_skip rfl rfl rfl rfl rfl ?_
            refine reg_skip rfl rfl rfl rfl rfl ?_
            refine reg_skipU rfl rfl rfl rfl ?_
            refine reg_skipU rfl rfl rfl rfl ?_
            refine reg_skip rfl rfl rfl rfl rfl ?_
            refine reg_skip rfl rfl rfl rfl rfl ?_
            refine reg_skipU rfl rfl rfl rfl ?_
            refine reg_skipU rfl rfl rfl rfl ?_
            refine reg_skipU rfl rfl rfl rfl ?_
            refine reg_skipU rfl rfl rfl rfl ?_
            refine reg_skipU rfl rfl rfl rfl ?_
            refine reg_skip rfl rfl rfl rfl rfl ?_
            refine reg_quiet rfl (pick_T tab_ok rfl rfl rfl) ?_
            rotate_left
            refine reg_skip rfl rfl (by assumption) rfl rfl ?_
            refine reg_skip rfl rfl (by assumption) rfl rfl ?_
            refine reg_skip rfl rfl (by assumption) rfl rfl ?_
            refine reg_skip rfl rfl (by assumption) rfl rfl ?_
            refine reg_skip rfl rfl (by assumption) rfl rfl ?_
            refine reg_on rfl rfl (by assumption) ?_
            refine reg_quiet rfl (pick_T tab_ok rfl (by assumption) rfl) ?_
            refine reg_on rfl rfl (by assumption) ?_
            refine reg_quiet rfl (step_C tab_ok (fun K hk => hk)) ?_
            refine reg_skip rfl rfl rfl rfl rfl ?_
            refine reg_skip rfl rfl rfl rfl rfl ?_
            refine reg_skip rfl rfl rfl rfl rfl ?_
            refine reg_on rfl rfl (by assumption) ?_
            refine reg_quiet rfl (pick_T tab_ok rfl rfl rfl) ?_
            refine reg_quiet rfl (pick_T tab_ok rfl (by assumption) rfl) ?_
            refine reg_quiet rfl (step_C tab_ok (fun K hk => hk)) ?_
            refine reg_skip rfl rfl rfl rfl rfl ?_
            refine reg_skip rfl rfl rfl rfl rfl ?_
            refine reg_skip rfl rfl rfl rfl rfl ?_
            refine reg_skipU rfl rfl rfl rfl ?_
            refine reg_skipU rfl rfl rfl rfl ?_
            refine reg_skip rfl rfl rfl rfl rfl ?_
            refine reg_skip rfl rfl rfl rfl rfl ?_
            refine reg_skipU rfl rfl rfl rfl ?_
            refine reg_skipU rfl rfl rfl rfl ?_
            refine reg_skipU rfl rfl rfl rfl ?_
            refine reg_skipU rfl rfl rfl rfl ?_
            refine reg_skipU rfl rfl rfl rfl ?_
            refine reg_skip rfl rfl rfl rfl rfl ?_
            refine reg_quiet rfl (pick_T tab_ok rfl rfl rfl) ?_
            rotate_left
            refine reg_skip rfl rfl (by assumption) rfl rfl ?_
            refine reg_skip rfl rfl (by assumption) rfl rfl ?_
            refine reg_skip rfl rfl (by assumption) rfl rfl ?_
            refine reg_skip rfl rfl (by assumption) rfl rfl ?_
            refine reg_skip rfl rfl (by assumption) rfl rfl ?_
            refine reg_skip rfl rfl (by assumption) rfl rfl ?_
            refine reg_skipU rfl rfl rfl rfl ?_
            refine reg_skipU rfl rfl rfl rfl ?_
            refine reg_skipU rfl rfl rfl rfl ?_
            refine reg_skipU rfl rfl rfl rfl ?_
            refine reg_skipU rfl rfl rfl rfl ?_
            refine reg_skip rfl rfl (by assumption) rfl rfl ?_
            refine reg_skip rfl rfl (by assumption) rfl rfl ?_
            refine reg_skipU rfl rfl rfl rfl ?_
            refine reg_skipU rfl rfl rfl rfl ?_
            refine reg_skipU rfl rfl rfl rfl ?_
            refine reg_skip rfl rfl (by assumption) rfl rfl ?_
            refine reg_quiet rfl (pick_F tab_ok rfl (by assumption) rfl) ?_
            refine reg_quiet rfl (step_C tab_ok (fun K hk => hk)) ?_
            refine reg_on rfl rfl rfl ?_
            refine reg_quiet rfl (step_C tab_ok (fun K hk => hk)) ?_
            refine reg_on rfl rfl rfl ?_
            refine reg_quiet rfl (load_box tab_ok rfl rfl ⟨_, rfl, rfl⟩ rfl) ?_
            refine reg_on rfl rfl rfl ?_
            refine reg_quiet rfl (step_C tab_ok (fun K hk => hk)) ?_
            refine reg_split rfl rfl rfl (fun hb => ?_) (fun hb => ?_)
            refine reg_on rfl rfl (by assumption) ?_
            refine reg_quiet rfl (step_C tab_ok (fun K hk => hk)) ?_
            refine reg_on rfl rfl (by assumption) ?_
            refine reg_quiet rfl (load_box tab_ok rfl rfl ⟨_, rfl, rfl⟩ rfl) ?_
            refine reg_on rfl rfl rfl ?_
            refine reg_quiet rfl (pick_T tab_ok rfl (by assumption) rfl) ?_
            refine reg_on rfl rfl rfl ?_
            refine reg_quiet rfl (step_C tab_ok (fun K hk => hk)) ?_
            refine reg_split rfl rfl rfl (fun hb => ?_) (fun hb => ?_)
            refine reg_on rfl rfl (by assumption) ?_
            refine reg_quiet rfl (step_C tab_ok (fun K hk => hk)) ?_
            refine reg_on rfl rfl (by assumption) ?_
            refine reg_quiet rfl (load_box tab_ok rfl rfl ⟨_, rfl, rfl⟩ rfl) ?_
            refine reg_on rfl rfl (by assumption) ?_
            refine reg_quiet rfl (step_C tab_ok (fun K hk => hk)) ?_
            refine reg_on rfl rfl (by assumption) ?_
            refine reg_quiet rfl (load_box tab_ok rfl rfl ⟨_, rfl, rfl⟩ rfl) ?_
            refine reg_on rfl rfl (by assumption) ?_
            refine reg_quiet rfl (neq_data rfl rfl rfl rfl (by kernel_rfl) (by decide) (nonce_eq g.nonce f.nonce)) ?_
            refine reg_on rfl rfl rfl ?_
            refine reg_quiet rfl (pick_T tab_ok rfl (by assumption) rfl) ?_
            refine reg_quiet rfl (pick_F tab_ok rfl rfl rfl) ?_
            rotate_left
            refine reg_skip rfl rfl (by assumption) rfl rfl ?_
            refine reg_skip rfl rfl (by assumption) rfl rfl ?_
            refine reg_skip rfl rfl (by assumption) rfl rfl ?_
            refine reg_skip rfl rfl (by assumption) rfl rfl ?_
            refine reg_skip rfl rfl (by assumption) rfl rfl ?_
            refine reg_on rfl rfl rfl ?_
            refine reg_quiet rfl (pick_F tab_ok rfl (by assumption) rfl) ?_
            refine reg_quiet rfl (pick_F tab_ok rfl rfl rfl) ?_
            rotate_left
            refine reg_skip rfl rfl (by assumption) rfl rfl ?_
            refine reg_skip rfl rfl (by assumption) rfl rfl ?_
            refine reg_on rfl rfl rfl ?_
            refine reg_quiet rfl (pick_F tab_ok rfl (by assumption) rfl) ?_
            refine reg_on rfl rfl rfl ?_
            refine reg_quiet rfl (step_C tab_ok (fun K hk => hk)) ?_
            refine reg_skip rfl rfl rfl rfl rfl ?_
            refine reg_skip rfl rfl rfl rfl rfl ?_
            refine reg_skip rfl rfl rfl rfl rfl ?_
            refine reg_skip rfl rfl rfl rfl rfl ?_
            refine reg_skip rfl rfl rfl rfl rfl ?_
            refine reg_on rfl rfl rfl ?_
            refine reg_quiet rfl (pick_F tab_ok rfl rfl rfl) ?_
            refine reg_quiet rfl (pick_F tab_ok rfl rfl rfl) ?_
            rotate_left
            all_goals refine reg_cut 36 rfl rfl rfl rfl rfl rfl rfl rfl rfl (AVLe.of_eq ?_)
            all_goals (first | rfl | (clear q5; simp_all; done) | (simp_all; done) | (simp_all; omega))
          refine wc_false rfl (by assumption) ?_
          refine wc_skip ?_
          refine seq_n ?_
          refine wc_seq ?_
          refine wc_region ?_
          refine reg_quiet rfl (step_C tab_ok (fun K hk => hk)) ?_
          refine reg_quiet rfl (load_box tab_ok rfl rfl ⟨_, rfl, rfl⟩ rfl) ?_
          refine reg_quiet rfl (step_C tab_ok (fun K hk => hk)) ?_
          refine reg_store (store_row tab_ok rfl rfl rfl ⟨_, ⟨_, ⟨_, ⟨rfl, rfl, rfl⟩, rfl⟩, rfl⟩, rfl⟩ rfl) ?_
          refine reg_nil ?_
          refine seq_n ?_
          refine wc_seq_cut 190 (.bool (!decide ((k : Int) = at_) && !decide (f = { g with ref := f.ref }))) _ rfl ?_ ?_
          · refine reg_quiet rfl (step_C tab_ok (fun K hk => hk)) ?_
            refine reg_quiet rfl (step_C tab_ok (fun K hk => hk)) ?_
            refine reg_quiet rfl (step_C tab_ok (fun K hk => hk)) ?_
            refine reg_quiet rfl (step_C tab_ok (fun K hk => hk)) ?_
            refine reg_split rfl rfl rfl (fun hb => ?_) (fun hb => ?_)
            refine reg_on rfl rfl (by assumption) ?_
            refine reg_quiet rfl (load_box tab_ok rfl rfl rfl rfl) ?_
            refine reg_on rfl rfl (by assumption) ?_
            refine reg_quiet rfl (load_box tab_ok rfl rfl rfl rfl) ?_
            refine reg_on rfl rfl (by assumption) ?_
            refine reg_quiet rfl (neq_data rfl rfl rfl rfl (by kernel_rfl) (by decide) (frame_eq f { g with ref := f.ref })) ?_
            refine reg_quiet rfl (pick_T tab_ok rfl (by assumption) rfl) ?_
            rotate_left
            refine reg_skip rfl rfl (by assumption) rfl rfl ?_
            refine reg_skip rfl rfl (by assumption) rfl rfl ?_
            refine reg_skip rfl rfl (by assumption) rfl rfl ?_
            refine reg_quiet rfl (pick_F tab_ok rfl (by assumption) rfl) ?_
            rotate_left
            all_goals refine reg_cut 8 rfl rfl rfl rfl rfl rfl rfl rfl rfl (AVLe.of_eq ?_)
            all_goals (first | rfl | (clear q5; simp_all; done) | (simp_all; done) | (simp_all; omega))
          refine wc_false rfl (by assumption) ?_
          refine wc_skip ?_
          refine blk_n ?_
          refine seq_n ?_
          refine wc_region ?_
          refine reg_quiet rfl (step_C tab_ok (fun K hk => hk)) ?_
          refine reg_quiet rfl (add_int tab_ok rfl rfl (wrap_i64 (by omega) (by omega))) ?_
          refine reg_quiet rfl (step_C tab_ok (fun K hk => hk)) ?_
          refine reg_nil ?_
          refine loop_n (k + 1) [(64, some 64), (65, some 65), (66, some 66), (67, some 67)] hlt2 (show t.length - (k + 1) < t.length - k by omega) ?_
          exact .of rfl rfl rfl rfl rfl ⟨⟨_, rfl, .refl _⟩, rfl, ⟨_, rfl, .refl _⟩, rfl, ⟨_, rfl, .refl _⟩, rfl, ⟨_, rfl, .refl _⟩, rfl, ⟨_, rfl, .refl _⟩, rfl, ⟨_, rfl, .refl _⟩, rfl, ⟨_, rfl, .refl _⟩, rfl, trivial⟩ ⟨⟨rfl, rfl, _, rfl, .refl _⟩, ⟨rfl, rfl, _, rfl, .refl _⟩, ⟨rfl, rfl, _, rfl, .refl _⟩, ⟨rfl, rfl, _, rfl, .refl _⟩, trivial⟩
        · refine wc_exit ?_
          refine seq_x ?_
          refine loop_x ?_
          refine blk_x ?_
          refine seq_n ?_
          refine wc_region ?_
          refine reg_quiet rfl (load_box tab_ok rfl rfl rfl rfl) ?_
          refine reg_store (store_row tab_ok rfl rfl rfl ⟨_, ⟨rfl, rfl, rfl⟩, rfl⟩ rfl) ?_
          refine reg_nil ?_
          refine blk_n ?_
          refine seq_n ?_
          refine wc_region ?_
          refine reg_quiet rfl (step_C tab_ok (fun K hk => hk)) ?_
          refine reg_quiet rfl (add_int tab_ok rfl rfl (wrap_i64 (by omega) (by omega))) ?_
          refine reg_quiet rfl (step_C tab_ok (fun K hk => hk)) ?_
          refine reg_nil ?_
          refine loop_n (i + 1, t, h2) [(64, some 64), (65, some 67)] ⟨hlt, hm1⟩ (by simp only; omega) ?_
          exact .of rfl rfl rfl rfl rfl ⟨⟨_, rfl, .refl _⟩, rfl, ⟨_, rfl, .refl _⟩, rfl, ⟨_, rfl, .refl _⟩, rfl, trivial⟩ ⟨⟨rfl, rfl, _, rfl, .refl _⟩, ⟨rfl, rfl, _, rfl, RowLe.noex⟩, trivial⟩
  · refine wc_exit ?_
    refine seq_x ?_
    refine loop_x ?_
    refine blk_x ?_
    refine seq_n ?_
    refine wc_seq ?_
    refine wc_region ?_
    refine reg_quiet rfl (call_r shlives_is rfl rfl arg_nil (.inl rfl) (fun _ => rfl)) ?_
    refine reg_quiet rfl (step_C tab_ok (fun K hk => hk)) ?_
    refine reg_nil ?_
    refine seq_n ?_
    refine wc_ret ?_
    exact ⟨trivial, [], .of rfl rfl rfl rfl rfl ⟨⟨_, rfl, AVLe.of_eq rfl⟩, rfl, trivial⟩ trivial⟩
end Go.Proofs.Ytmdfeekpehcieaa

/- ShardsPlay: the walked law is the statement. -/
namespace Go.Proofs.Ytmdfeekpehcieaa
open Go.ChangeShapes Go.WideShapes Go.ChangeAt Go.RowKit Go.Eng
theorem own : ownKnob Try.prog.godebug = none := by kernel_rfl
theorem laidOut : laidOutB Try.prog = true := by kernel_rfl
set_option maxRecDepth 100000 in
theorem lifted (os : Os) (started : os.Started) (H : Type) (enc : TypeId × Value → H) :
    ReturnsInHanded {} Try.checked os 12 .any (Rows.shardsPlaySpec.pre6 enc Try.prog Try.f12 Rows.shardsPlayRow.domain false) (Rows.shardsPlaySpec.post enc Try.prog Try.f12 false true false false) := by
  refine returnsInHanded_of_change (C := Try.checked) own started (by kernel_rfl) Try.func12
    (ChangeSpec.witness6 (enc := enc) (C := Try.checked) false ⟨#[], #[(.agg #[.slice none 0 0, .int .u8 0]), (.slice none 0 0)], []⟩ 8 (by kernel_rfl) (by kernel_rfl) (by kernel_rfl) (by kernel_rfl)) ?_
  intro W base args ds gs before hval0 hW hcnd _
  have hval : ∀ (j : Nat) t v, Try.f12.params[j]? = some t → args[j]? = some v → Value.okWide Try.prog W .any base t v := hval0
  have hW' := hW
  obtain ⟨p, q, hA0, hV, rfl, hfz, hnd⟩ := hW
  have hA : DataW.TrodAll enc Try.prog W 0 (fun _ => true) true Try.f12.params.toList args.toList ds p := hA0
  rw [Try.params12] at hA hval
  obtain ⟨v0, vs0, d0, ds0, p0, q0, hargs, rfl, rfl, h0, r0⟩ := trodAll_cons hA
  obtain ⟨v1, vs1, d1, ds1, p1, q1, rfl, rfl, rfl, h1, r1⟩ := trodAll_cons r0
  obtain ⟨rfl, rfl, rfl⟩ := trodAll_nil r1
  obtain rfl : args = #[v0, v1] := Array.ext' (by simpa using hargs)
  obtain ⟨rfl, rfl⟩ := trodVars_none hV
  have k0 := h0
  have lt0 : ∀ x ∈ p0, x.block < W.heap.size := by obtain ⟨m, hm⟩ := k0; exact DataW.trod_lt m _ _ _ hm
  obtain ⟨fuel0, hfu0⟩ := h0
  obtain ⟨x0, e0, _, w0⟩ := opens_X H enc W _ _ fuel0 _ _ hfu0
  obtain ⟨cs0, hcs0, _⟩ := okWide_struct Try.underlying59 (hval 0 59 v0 rfl rfl)
  have rel0 : RelV (fun _ => none) W (fun _ => False) (.d (encX x0)) v0 := e0.relV ⟨fun _ => rfl, fun _ => ⟨cs0, hcs0⟩⟩
  have k1 := h1
  have lt1 : ∀ x ∈ p1, x.block < W.heap.size := by obtain ⟨m, hm⟩ := k1; exact DataW.trod_lt m _ _ _ hm
  obtain ⟨fuel1, hfu1⟩ := h1
  obtain ⟨x1, e1, _, w1⟩ := opens_Ts H enc W _ _ fuel1 _ _ hfu1
  obtain ⟨ad1, ln1, cp1, hcs1⟩ := okWide_slice Try.underlying84 (hval 1 84 v1 rfl rfl)
  have rel1 : RelV (fun _ => none) W (fun _ => False) (.d (encTs x1)) v1 := e1.relV ⟨fun ⟨c, hc⟩ => (by rw [hcs1] at hc; cases hc), fun hc => (by cases hc)⟩
  clear hA0 hval0
  refine (law_calls (shardsPlay_is x0.1 x0.2 (bytes_of w0.1) (u8_of w0.2) x1 (fun t h => ⟨(w1.2 t h).1, fun a ha => u8_of ((w1.2 t h).2 a ha)⟩)) (W := W) (args := #[v0, v1]) ⟨v0, [v1], rfl, ⟨rel0, trivial⟩, ⟨v1, [], rfl, ⟨rel1, trivial⟩, rfl⟩⟩).mono fun e W' ⟨he, bel⟩ => ?_
  subst he
  exact ⟨_, rfl, _, _, _, [], _, [], hW', trodAll_mk1 (shut_bool Try.underlying4 _), (trodAll_cons_mk (Below.trod laidOut (by kernel_rfl) (of_decide_eq_true (by kernel_rfl)) k0 bel lt0) (trodAll_cons_mk (Below.trod laidOut (by kernel_rfl) (of_decide_eq_true (by kernel_rfl)) k1 bel lt1) trodAll_mk0)), rfl, bel.frame _, fun h => by cases h⟩

theorem over : Rows.shardsPlayRow.holds Try.pinned (OpenSpec.ofChange Rows.shardsPlaySpec) :=
  OpenClaim.holds_of_wide 12 Try.f12 rfl rfl rfl rfl rfl rfl rfl ⟨rfl, rfl, rfl, rfl, rfl⟩ rfl rfl rfl rfl rfl (by kernel_rfl) Try.func12 (by kernel_rfl)
    (of_decide_eq_true (by kernel_rfl)) (by unfold Func.isWrapper; first | (rw [if_pos (by decide +kernel)]; kernel_rfl) | (rw [if_neg (by decide +kernel)]; exact ⟨rfl, rfl⟩))
    (fun os started H enc _ => lifted os started H enc)
theorem shardsPlay_holds : Rows.ShardsPlaySaid := over
end Go.Proofs.Ytmdfeekpehcieaa
