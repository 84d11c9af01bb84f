/- a merged ledger clashes exactly if one of both does, or a use of one clashes with a use of the other, and keys are counted in both -/
import Derived.Test.YtjpjchohpjbknaaLE
import Derived.Test.YtjpjchohpjbknaaLB
import Derived.Test.YtjpjchohpjbknaaLD
import Derived.Test.YtjpjchohpjbknaaRows

set_option linter.unusedVariables false
set_option linter.unusedSimpArgs false

/- Engine: bytes as a string. -/
namespace Go.Eng
open Go.RowKit
theorem strOf_acc : ∀ (l : List UInt8) (acc : ByteArray), (l.map fun b => (b.toNat : Int)).foldl (fun r n => r.push (UInt8.ofNat n.toNat)) acc = ⟨acc.data ++ l.toArray⟩
  | [], acc => by simp
  | b :: l, acc => by
    rw [List.map_cons, List.foldl_cons, strOf_acc l]
    have : UInt8.ofNat ((b.toNat : Int)).toNat = b := by simp
    rw [this]
    apply ByteArray.ext
    apply Array.ext'
    simp [ByteArray.push]
theorem strOf_byI (l : List UInt8) : strOf (byI l) = mkS l := by
  rw [strOf, byI, strOf_acc l]
  apply ByteArray.ext
  simp [mkS]
section
variable {P : Program} {T : Tab} {n : Nat} {env : Env} {h : Upds}
theorem append_arrL (hT : TabOk P T) {t e r L : Nat} {re : TyR} {s : Nat} {ex : Bool} {α : Type} {enc : α → D} {xs ys : List α} {x y : Operand} (ht : tdesc T t = some (.slice e)) (he : lk T e = some re) (hs : Nat.beq re.size s = true) (hs0 : Nat.blt 0 s = true)
    (hx : evalA env x = some (.own r 0 L s none)) (hL : L = xs.length) (hrow : lookH h r = some (.ds e s ex enc xs)) (hy : evalA env y = some (.d (.arr s enc ys))) (hys : 0 < ys.length)
    (hlen : xs.length + ys.length ≤ 1048576) (hbytes : Nat.ble re.bytes 134217728 = true) :
    StepIs P (.call { callee := .builtin .append, args := #[x, y], argTypes := #[t, t] }) env h n (some (.own n 0 (xs.length + ys.length) s none)) [(n, some (.ds e s false enc (xs ++ ys))), (r, none)] := by
  subst hL
  exact append_arr hT ht he hs hs0 hx hrow hy hys hlen hbytes
theorem append_litsL (hT : TabOk P T) {t e r r2 m L : Nat} {re : TyR} {s : Nat} {ex ex2 : Bool} {cap2 : Option Nat} {α : Type} {enc : α → D} {xs : List α} {x y : Operand} (ys : List α) (ht : tdesc T t = some (.slice e)) (he : lk T e = some re) (hs : Nat.beq re.size s = true) (hs0 : Nat.blt 0 s = true)
    (hx : evalA env x = some (.own r 0 L s none)) (hL : L = xs.length) (hrow : lookH h r = some (.ds e s ex enc xs)) (hy : evalA env y = some (.own r2 0 m s cap2)) (hrow2 : lookH h r2 = some (.lits e s m ex2 (dsAV (ys.map enc)))) (hm : ys.length = m) (hsz : ∀ x ∈ ys, (enc x).size = s) (hp : 0 < m)
    (hlen : xs.length + ys.length ≤ 1048576) (hbytes : Nat.ble re.bytes 134217728 = true) :
    StepIs P (.call { callee := .builtin .append, args := #[x, y], argTypes := #[t, t] }) env h n (some (.own n 0 (xs.length + ys.length) s none)) [(n, some (.ds e s false enc (xs ++ ys))), (r, none)] := by
  subst hL
  exact append_lits hT ys ht he hs hs0 hx hrow hy hrow2 hm hsz hp hlen hbytes
end
end Go.Eng

/- Ledgers: a result that is a truth value. -/
namespace Go.Proofs.Ytjpjchohpjbknaa
open Go.Eng
theorem lbool_plain (b : Bool) : PlainRes (.bool b) [] := .of trivial plain_rows_nil
end Go.Proofs.Ytjpjchohpjbknaa

/- Ledgers: the definition's bytes of a use, and its line. -/
namespace Go.Proofs.Ytjpjchohpjbknaa
open Go.Eng
set_option maxHeartbeats 4000000
set_option maxRecDepth 50000
attribute [local irreducible] WC RegS RegD SeqQ BlkQ ScoQ RegK CutK Sat SatN FnIs LoopQ StepIs OpIs
theorem u8_rem (n : Nat) : IntKind.u8.wrap ((n : Int).tmod 256) = ((n.toUInt8).toNat : Int) := by
  rw [show (256 : Int) = ((256 : Nat) : Int) from rfl, ← Int.ofNat_tmod n 256, u8_wrap]
  simp
theorem quo_pow (v k : Nat) : IntKind.u64.wrap (((v / 256 ^ k : Nat) : Int).tdiv 256) = ((v / 256 ^ (k + 1) : Nat) : Int) ∨ 18446744073709551616 ≤ v := by
  by_cases h : v < 18446744073709551616
  · left
    have h1 : v / 256 ^ k ≤ v := Nat.div_le_self _ _
    have e : ((v / 256 ^ k : Nat) : Int).tdiv 256 = ((v / 256 ^ k / 256 : Nat) : Int) := by rw [show (256 : Int) = ((256 : Nat) : Int) from rfl, ← Int.ofNat_tdiv]
    rw [e, Nat.div_div_eq_div_mul, ← Nat.pow_succ]
    have h2 : v / 256 ^ (k + 1) ≤ v := Nat.div_le_self _ _
    generalize v / 256 ^ (k + 1) = z at *
    exact wrap_u64 (by omega) (by omega)
  · exact .inr (by omega)
theorem refput_own (v m : Nat) (h0 : 0 < m) (hm : m ≤ 8) (hv : v < 18446744073709551616) : FnIs Try.prog 82 [.int .u64 v, .int .i64 m] [] (.own 64 0 m 1 none) [(64, .ds 5 1 true encU8 (byI (putN m v)))] := by
  have w10 : IntKind.i64.wrap (((m : Nat) : Int) - 1) = ((m : Nat) : Int) - 1 - (0 : Nat) := by rw [wrap_i64 (by omega) (by omega)]; omega
  refine fnIs_of tab_ok Try.func82 rfl rfl rfl ?_
  refine wc_seq ?_
  refine wc_region ?_
  refine reg_quiet rfl (step_C tab_ok (fun K hk => hk)) ?_
  refine reg_nil ?_
  refine seq_n ?_
  refine wc_seq ?_
  refine wc_region ?_
  refine reg_quiet rfl (step_C tab_ok (fun K hk => hk)) ?_
  refine reg_new (make_full (enc := encU8) (s := 1) (N := m) tab_ok 0 rfl rfl rfl rfl rfl rfl rfl (by omega) rfl) rfl ?_
  refine reg_quiet rfl (step_C tab_ok (fun K hk => hk)) ?_
  refine reg_nil ?_
  refine seq_n ?_
  refine wc_seq ?_
  refine wc_seq ?_
  refine wc_region ?_
  refine reg_quiet rfl (step_C tab_ok (fun K hk => hk)) ?_
  refine reg_quiet rfl (sub_int (m := ((m : Nat) : Int) - 1 - (0 : Nat)) tab_ok rfl rfl w10) ?_
  refine reg_quiet rfl (step_C tab_ok (fun K hk => hk)) ?_
  refine reg_nil ?_
  refine seq_n ?_
  refine wc_block ?_
  refine wc_inv (fun k : Nat => ⟨[(6, .int .i64 (((m : Nat) : Int) - 1 - k)), (5, .own 66 0 m 1 none), (0, .int .u64 ((v / 256 ^ k : Nat) : Int))], [(66, some (.ds 5 1 true encU8 (putX m k v)))], 72, Try.f82.ntmps, 64⟩) (fun k => k ≤ m) (fun k => m - k) 0 [(66, some 80)] (Nat.zero_le _)
    (.of rfl rfl rfl rfl rfl ⟨⟨_, rfl, .refl _⟩, rfl, ⟨_, rfl, .refl _⟩, rfl, ⟨_, rfl, AVLe.of_eq (by simp; rfl)⟩, rfl, trivial⟩ ⟨⟨rfl, rfl, _, rfl, RowLe.of_eq (by rw [show putX m 0 v = List.replicate m 0 by simp [putX, putN, byI]]; rfl)⟩, trivial⟩) ?_
  intro k hk
  refine wc_of ?_
  refine wc_seq ?_
  refine wc_seq ?_
  refine wc_region ?_
  refine reg_quiet rfl (step_C tab_ok (fun K hk => hk)) ?_
  refine reg_quiet rfl (step_C tab_ok (fun K hk => hk)) ?_
  refine reg_nil ?_
  refine seq_n ?_
  refine wc_cond rfl (fun h3 => ?_) (fun h3 => ?_)
  · have hlt : k < m := by have := of_decide_eq_true h3; omega
    have w14 : IntKind.i64.wrap (((m : Nat) : Int) - 1 - k - 1) = ((m : Nat) : Int) - 1 - (k + 1 : Nat) := by rw [wrap_i64 (by omega) (by omega)]; omega
    have w22 : IntKind.u64.wrap (((v / 256 ^ k : Nat) : Int).tdiv 256) = ((v / 256 ^ (k + 1) : Nat) : Int) := by rcases quo_pow v k with h | h; exact h; omega
    have hx := putX_set (v := v) hlt
    have hg0 := putX_get (v := v) hlt
    have hi : (((m : Nat) : Int) - 1 - k).toNat = m - 1 - k := by omega
    have hg : (putX m k v)[(((m : Nat) : Int) - 1 - k).toNat]? = some 0 := by rw [hi]; exact hg0
    rw [← hi] at hx
    refine wc_skip ?_
    refine seq_n ?_
    refine wc_seq ?_
    refine wc_block ?_
    refine wc_seq ?_
    refine wc_region ?_
    refine reg_quiet rfl (step_C tab_ok (fun K hk => hk)) ?_
    refine reg_quiet rfl (step_C tab_ok (fun K hk => hk)) ?_
    refine reg_quiet rfl (step_C tab_ok (fun K hk => hk)) ?_
    refine reg_quiet rfl (rem_int tab_ok rfl rfl (by decide)) ?_
    refine reg_quiet rfl (conv_int tab_ok rfl rfl rfl (u8_rem _)) ?_
    refine reg_quiet rfl (index_own tab_ok rfl rfl rfl rfl rfl (by omega) (by omega)) ?_
    refine reg_store (store_row tab_ok rfl rfl rfl ⟨rfl, 0, ((v / 256 ^ k).toUInt8.toNat : Int), hg, ⟨rfl, rfl, rfl⟩, rfl⟩ rfl) ?_
    refine reg_nil ?_
    refine seq_n ?_
    refine wc_region ?_
    refine reg_quiet rfl (step_C tab_ok (fun K hk => hk)) ?_
    refine reg_quiet rfl (quo_int tab_ok rfl rfl (by decide) w22) ?_
    refine reg_quiet rfl (step_C tab_ok (fun K hk => hk)) ?_
    refine reg_nil ?_
    refine blk_n ?_
    refine seq_n ?_
    refine wc_region ?_
    refine reg_quiet rfl (step_C tab_ok (fun K hk => hk)) ?_
    refine reg_quiet rfl (sub_int (m := ((m : Nat) : Int) - 1 - (k + 1 : Nat)) tab_ok rfl rfl w14) ?_
    refine reg_quiet rfl (step_C tab_ok (fun K hk => hk)) ?_
    refine reg_nil ?_
    exact loop_n (k + 1) [] hlt (by omega) (.of rfl rfl rfl rfl rfl ⟨⟨_, rfl, .refl _⟩, rfl, ⟨_, rfl, .refl _⟩, rfl, ⟨_, rfl, .refl _⟩, rfl, trivial⟩ ⟨⟨rfl, rfl, _, rfl, RowLe.of_eq (congrArg (Row.ds 5 1 true encU8) hx)⟩, trivial⟩)
  · have he : k = m := by have := of_decide_eq_false h3; omega
    subst he
    refine wc_exit ?_
    refine seq_x ?_
    refine loop_x ?_
    refine blk_x ?_
    refine seq_n ?_
    refine wc_seq ?_
    refine wc_region ?_
    refine reg_quiet rfl (step_C tab_ok (fun K hk => hk)) ?_
    refine reg_quiet rfl (step_C tab_ok (fun K hk => hk)) ?_
    refine reg_nil ?_
    refine seq_n ?_
    refine wc_ret ?_
    exact ⟨trivial, [(64, some 66)], .of rfl rfl rfl rfl rfl ⟨⟨_, rfl, AVLe.of_eq rfl⟩, rfl, trivial⟩ ⟨⟨rfl, rfl, _, rfl, RowLe.of_eq (by rw [show putX k k v = byI (putN k v) by simp [putX]]; rfl)⟩, trivial⟩⟩
theorem refput32_own (v : Nat) (hv : v < 4294967296) : FnIs Try.prog 62 [.int .u32 v] [] (.own 64 0 4 1 none) [(64, .ds 5 1 true encU8 (byI (putN 4 v)))] := by
  have hw : IntKind.u64.wrap (v : Int) = (v : Int) := wrap_u64 (by omega) (by omega)
  refine fnIs_of tab_ok Try.func62 rfl rfl rfl ?_
  refine wc_seq ?_
  refine wc_region ?_
  refine reg_quiet rfl (step_C tab_ok (fun K hk => hk)) ?_
  refine reg_nil ?_
  refine seq_n ?_
  refine wc_seq ?_
  refine wc_region ?_
  refine reg_quiet rfl (step_C tab_ok (fun K hk => hk)) ?_
  refine reg_quiet rfl (conv_int (m := (v : Int)) tab_ok rfl rfl rfl hw) ?_
  refine reg_new (call_new (refput_own v 4 (by decide) (by decide) (by omega)) rfl rfl (arg_e (arg_e arg_nil)) (.inl rfl) rfl rfl) rfl ?_
  refine reg_quiet rfl (step_C tab_ok (fun K hk => hk)) ?_
  refine reg_nil ?_
  refine seq_n ?_
  refine wc_ret ?_
  exact ⟨trivial, [(64, some 88)], .of rfl rfl rfl rfl rfl ⟨⟨_, rfl, AVLe.of_eq rfl⟩, rfl, trivial⟩ ⟨⟨rfl, rfl, _, rfl, .refl _⟩, trivial⟩⟩
theorem refput64_own (v : Nat) (hv : v < 18446744073709551616) : FnIs Try.prog 81 [.int .u64 v] [] (.own 64 0 8 1 none) [(64, .ds 5 1 true encU8 (byI (putN 8 v)))] := by
  refine fnIs_of tab_ok Try.func81 rfl rfl rfl ?_
  refine wc_seq ?_
  refine wc_region ?_
  refine reg_quiet rfl (step_C tab_ok (fun K hk => hk)) ?_
  refine reg_nil ?_
  refine seq_n ?_
  refine wc_seq ?_
  refine wc_region ?_
  refine reg_quiet rfl (step_C tab_ok (fun K hk => hk)) ?_
  refine reg_new (call_new (refput_own v 8 (by decide) (by decide) hv) rfl rfl (arg_e (arg_e arg_nil)) (.inl rfl) rfl rfl) rfl ?_
  refine reg_quiet rfl (step_C tab_ok (fun K hk => hk)) ?_
  refine reg_nil ?_
  refine seq_n ?_
  refine wc_ret ?_
  exact ⟨trivial, [(64, some 80)], .of rfl rfl rfl rfl rfl ⟨⟨_, rfl, AVLe.of_eq rfl⟩, rfl, trivial⟩ ⟨⟨rfl, rfl, _, rfl, .refl _⟩, trivial⟩⟩
theorem refput32_d (v : Nat) (hv : v < 4294967296) : FnIs Try.prog 62 [.int .u32 v] [] (.d (encB (putN 4 v))) [] :=
  (refput32_own v hv).freeze_out 64 _ rfl (Frz.own (by rw [byI_len, putN_len])) trivial
theorem refput64_d (v : Nat) (hv : v < 18446744073709551616) : FnIs Try.prog 81 [.int .u64 v] [] (.d (encB (putN 8 v))) [] :=
  (refput64_own v hv).freeze_out 64 _ rfl (Frz.own (by rw [byI_len, putN_len])) trivial
theorem putN_lenI (n v : Nat) : n = (byI (putN n v)).length := by rw [byI_len, putN_len]
theorem refnonce_own (s c : Nat) (hs : s < 4294967296) (hc : c < 18446744073709551616) : FnIs Try.prog 61 [.d (encLN ⟨s, c⟩)] [] (.own 64 0 ((byI (putN 4 s)).length + (byI (putN 8 c)).length) 1 none) [(64, .ds 5 1 false encU8 (byI (putN 4 s) ++ byI (putN 8 c)))] := by
  refine fnIs_of tab_ok Try.func61 rfl rfl rfl ?_
  refine wc_seq ?_
  refine wc_region ?_
  refine reg_new (step_C tab_ok (fun K hk => hk)) rfl ?_
  refine reg_quiet rfl (step_C tab_ok (fun K hk => hk)) ?_
  refine reg_nil ?_
  refine seq_n ?_
  refine wc_seq ?_
  refine wc_draw (by kernel_rfl) ?_
  refine dreg_q [1] [64] rfl (step_C tab_ok (fun K hk => hk)) ?_
  refine dreg_q [3] [64] rfl (load_box tab_ok rfl rfl ⟨_, rfl, rfl⟩ rfl) ?_
  refine dreg_w [4] [] rfl (call_new (refput32_own s hs) rfl rfl (arg_e arg_nil) (.inl rfl) rfl rfl) ?_
  refine dreg_q [1] [64] rfl (step_C tab_ok (fun K hk => hk)) ?_
  refine dreg_q [6] [64] rfl (load_box tab_ok rfl rfl ⟨_, rfl, rfl⟩ rfl) ?_
  refine dreg_q [7] [] rfl (call_r (refput64_d c hc) rfl rfl (arg_e arg_nil) (.inl rfl) (fun _ => rfl)) ?_
  refine dreg_w2 [5, 8] [96] rfl (append_arr (s := 1) (enc := encU8) (xs := byI (putN 4 s)) (ys := byI (putN 8 c)) tab_ok rfl rfl rfl rfl rfl rfl rfl (by simp [byI, putN_len]) (by simp [byI, putN_len]) rfl) ?_
  refine dreg_q [9] [128] rfl (step_C tab_ok (fun K hk => hk)) ?_
  refine dreg_end (by kernel_rfl) ?_
  refine seq_n ?_
  refine wc_ret ?_
  exact ⟨trivial, [(64, some 128)], .of rfl rfl rfl rfl rfl ⟨⟨_, rfl, AVLe.of_eq rfl⟩, rfl, trivial⟩ ⟨⟨rfl, rfl, _, rfl, .refl _⟩, trivial⟩⟩
theorem refnonce_put (s c : Nat) (hs : s < 4294967296) (hc : c < 18446744073709551616) : FnIs Try.prog 61 [.d (encLN ⟨s, c⟩)] [] (.d (encB (nonB s c))) [] := by
  have := (refnonce_own s c hs hc).freeze_out (rows' := []) 64 _ rfl (Frz.own (by rw [List.length_append])) trivial
  rw [byI_app] at this
  exact this
theorem line_is (k : List UInt8) (s c f l : Nat) (hk : k.length = 16) (hs : s < 4294967296) (hc : c < 18446744073709551616) (hf : f < 4294967296) (hl : l < 4294967296) : FnIs Try.prog 38 [.d (encUse (useOf k s c f l))] [] (.d (strD ((useB k s c f l).flatMap hexB ++ [10]))) [] := by
  have hkp : 0 < (byI k).length := by rw [byI_len]; omega
  have hkl : (byI k).length ≤ 1048576 := by rw [byI_len]; omega
  have hnp : 0 < (byI (nonB s c)).length := by rw [byI_len, nonB_len]; decide
  have hnl : (byI k).length + (byI (nonB s c)).length ≤ 1048576 := by rw [byI_len, byI_len, nonB_len]; omega
  have hL2 : (byI k).length + (byI (nonB s c)).length = (byI k ++ byI (nonB s c)).length := by simp
  have hfp : 0 < (byI (putN 4 f)).length := by rw [byI_len, putN_len]; decide
  have hfl : (byI k ++ byI (nonB s c)).length + (byI (putN 4 f)).length ≤ 1048576 := by rw [List.length_append, byI_len, byI_len, byI_len, nonB_len, putN_len]; omega
  have hL3 : (byI k ++ byI (nonB s c)).length + (byI (putN 4 f)).length = (byI k ++ byI (nonB s c) ++ byI (putN 4 f)).length := List.length_append.symm
  have hlp : 0 < (byI (putN 4 l)).length := by rw [byI_len, putN_len]; decide
  have hll : (byI k ++ byI (nonB s c) ++ byI (putN 4 f)).length + (byI (putN 4 l)).length ≤ 1048576 := by rw [List.length_append, List.length_append, byI_len, byI_len, byI_len, byI_len, nonB_len, putN_len, putN_len]; omega
  have hB := useB_len hk s c f l
  have hrow : byI k ++ byI (nonB s c) ++ byI (putN 4 f) ++ byI (putN 4 l) = byI (useB k s c f l) := by simp only [byI_app, useB, List.append_assoc]
  have hLL : (byI k ++ byI (nonB s c) ++ byI (putN 4 f)).length + (byI (putN 4 l)).length = 36 := by rw [← List.length_append, hrow, byI_len, hB]
  refine fnIs_of tab_ok Try.func38 rfl rfl rfl ?_
  refine wc_seq ?_
  refine wc_region ?_
  refine reg_new (step_C tab_ok (fun K hk => hk)) rfl ?_
  refine reg_quiet rfl (step_C tab_ok (fun K hk => hk)) ?_
  refine reg_nil ?_
  refine seq_n ?_
  refine wc_freeze (env' := [(1, _), (2, _), (0, _)]) (h' := []) 64 _ rfl ⟨⟨_, rfl, Frz.ptr⟩, ⟨_, rfl, .refl _⟩, ⟨_, rfl, .refl _⟩, trivial⟩ trivial ?_
  refine wc_seq ?_
  refine wc_region ?_
  refine reg_quiet rfl (build_empty tab_ok rfl rfl) ?_
  refine reg_quiet rfl (fieldAddr_pt tab_ok rfl rfl rfl rfl) ?_
  refine reg_quiet rfl (slice_iptr tab_ok rfl rfl rfl rfl rfl) ?_
  refine reg_new (append_empty_arr (s := 1) (enc := encU8) (ys := byI k) tab_ok rfl rfl rfl rfl rfl (.inl rfl) rfl hkp hkl rfl) rfl ?_
  refine reg_quiet rfl (step_C tab_ok (fun K hk => hk)) ?_
  refine reg_nil ?_
  refine seq_n ?_
  refine wc_seq ?_
  refine wc_region ?_
  refine reg_quiet rfl (step_C tab_ok (fun K hk => hk)) ?_
  refine reg_quiet rfl (fieldAddr_pt tab_ok rfl rfl rfl rfl) ?_
  refine reg_quiet rfl (step_C tab_ok (fun K hk => hk)) ?_
  refine reg_quiet rfl (load_i tab_ok rfl rfl) ?_
  refine reg_quiet rfl (call_r (refnonce_put s c hs hc) rfl rfl (arg_e arg_nil) (.inl rfl) (fun _ => rfl)) ?_
  refine reg_new2 (append_arrL (s := 1) (enc := encU8) (xs := byI k) (ys := byI (nonB s c)) tab_ok rfl rfl rfl rfl rfl rfl rfl rfl hnp hnl rfl) rfl ?_
  refine reg_quiet rfl (step_C tab_ok (fun K hk => hk)) ?_
  refine reg_nil ?_
  refine seq_n ?_
  refine wc_seq ?_
  refine wc_region ?_
  refine reg_quiet rfl (step_C tab_ok (fun K hk => hk)) ?_
  refine reg_quiet rfl (fieldAddr_pt tab_ok rfl rfl rfl rfl) ?_
  refine reg_quiet rfl (step_C tab_ok (fun K hk => hk)) ?_
  refine reg_quiet rfl (load_i tab_ok rfl rfl) ?_
  refine reg_quiet rfl (call_r (refput32_d f hf) rfl rfl (arg_e arg_nil) (.inl rfl) (fun _ => rfl)) ?_
  refine reg_new2 (append_arrL (s := 1) (enc := encU8) (xs := byI k ++ byI (nonB s c)) (ys := byI (putN 4 f)) tab_ok rfl rfl rfl rfl rfl hL2 rfl rfl hfp hfl rfl) rfl ?_
  refine reg_quiet rfl (step_C tab_ok (fun K hk => hk)) ?_
  refine reg_nil ?_
  refine seq_n ?_
  refine wc_seq ?_
  refine wc_region ?_
  refine reg_quiet rfl (step_C tab_ok (fun K hk => hk)) ?_
  refine reg_quiet rfl (fieldAddr_pt tab_ok rfl rfl rfl rfl) ?_
  refine reg_quiet rfl (step_C tab_ok (fun K hk => hk)) ?_
  refine reg_quiet rfl (load_i tab_ok rfl rfl) ?_
  refine reg_quiet rfl (call_r (refput32_d l hl) rfl rfl (arg_e arg_nil) (.inl rfl) (fun _ => rfl)) ?_
  refine reg_new2 (append_arrL (s := 1) (enc := encU8) (xs := byI k ++ byI (nonB s c) ++ byI (putN 4 f)) (ys := byI (putN 4 l)) tab_ok rfl rfl rfl rfl rfl hL3 rfl rfl hlp hll rfl) rfl ?_
  refine reg_quiet rfl (step_C tab_ok (fun K hk => hk)) ?_
  refine reg_nil ?_
  refine seq_n ?_
  refine wc_seq ?_
  refine wc_region ?_
  refine reg_quiet rfl (step_C tab_ok (fun K hk => hk)) ?_
  refine reg_nil ?_
  refine seq_n ?_
  refine wc_seq ?_
  refine wc_seq ?_
  refine wc_region ?_
  refine reg_quiet rfl (step_C tab_ok (fun K hk => hk)) ?_
  refine reg_nil ?_
  refine seq_n ?_
  refine wc_block ?_
  refine wc_inv (fun i : Nat => ⟨[(5, .int .i64 i), (4, .own 67 0 (byI (((useB k s c f l).take i).flatMap hexB)).length 1 none), (3, .own 66 0 36 1 none)], [(66, some (.ds 5 1 false encU8 (byI (useB k s c f l)))), (67, some (.ds 5 1 false encU8 (byI (((useB k s c f l).take i).flatMap hexB))))], 72, Try.f38.ntmps, 64⟩) (fun i => i ≤ 36) (fun i => 36 - i) 0 [(66, some 272), (67, none)] (Nat.zero_le _)
    (.of rfl rfl rfl rfl rfl ⟨⟨_, rfl, .refl _⟩, rfl, ⟨_, rfl, .refl _⟩, rfl, ⟨_, rfl, AVLe.of_eq (congrArg (fun n => AV.own 272 0 n 1 none) hLL)⟩, rfl, trivial⟩ ⟨⟨rfl, rfl, _, rfl, RowLe.of_eq (congrArg (Row.ds 5 1 false encU8) hrow)⟩, ⟨rfl, rfl, rfl⟩, trivial⟩) ?_
  intro i hi
  refine wc_of ?_
  refine wc_seq ?_
  refine wc_seq ?_
  refine wc_region ?_
  refine reg_quiet rfl (step_C tab_ok (fun K hk => hk)) ?_
  refine reg_quiet rfl (step_C tab_ok (fun K hk => hk)) ?_
  refine reg_quiet rfl (len_own tab_ok rfl rfl) ?_
  refine reg_quiet rfl (step_C tab_ok (fun K hk => hk)) ?_
  refine reg_nil ?_
  refine seq_n ?_
  refine wc_cond rfl (fun h3 => ?_) (fun h3 => ?_)
  · have hlt : i < 36 := by have := of_decide_eq_true h3; omega
    obtain ⟨b, hb⟩ : ∃ b, (useB k s c f l)[i]? = some b := ⟨_, List.getElem?_eq_getElem (by omega)⟩
    have hb2 : (byI (useB k s c f l))[((i : Nat) : Int).toNat]? = some (b.toNat : Int) := by rw [Int.toNat_natCast]; exact byI_get hb
    have hb8 : b.toNat < 256 := b.toNat_lt
    have w39 : IntKind.u8.wrap (((b.toNat : Nat) : Int).tdiv 16) = ((b.toNat / 16 : Nat) : Int) := by
      rw [show (16 : Int) = ((16 : Nat) : Int) from rfl, ← Int.ofNat_tdiv]
      exact wrap_nat rfl (by show _ < 2 ^ 8; omega)
    have hx1 : hexD[b.toNat / 16]? = some (hexC (b.toNat / 16)) := hexD_get (by omega)
    have hx2 : hexD[b.toNat % 16]? = some (hexC (b.toNat % 16)) := hexD_get (by omega)
    have hal : (byI (((useB k s c f l).take i).flatMap hexB)).length + [((hexC (b.toNat / 16)).toNat : Int), ((hexC (b.toNat % 16)).toNat : Int)].length ≤ 1048576 := by
      rw [byI_len, hexB_len, List.length_take]
      simp
      omega
    have hgo : byI (((useB k s c f l).take i).flatMap hexB) ++ [((hexC (b.toNat / 16)).toNat : Int), ((hexC (b.toNat % 16)).toNat : Int)] = byI (((useB k s c f l).take (i + 1)).flatMap hexB) := by
      rw [List.take_add_one, hb]
      simp [byI, hexB]
    refine wc_skip ?_
    refine seq_n ?_
    refine wc_seq ?_
    refine wc_block ?_
    refine wc_draw (by kernel_rfl) ?_
    refine dreg_q [4] [67] rfl (step_C tab_ok (fun K hk => hk)) ?_
    refine dreg_q [3] [66] rfl (step_C tab_ok (fun K hk => hk)) ?_
    refine dreg_q [5] [] rfl (step_C tab_ok (fun K hk => hk)) ?_
    refine dreg_q [35, 36] [66] rfl (index_own tab_ok rfl rfl rfl rfl rfl (by omega) (by omega)) ?_
    refine dreg_q [37] [66] rfl (load_row (row := .ds 5 1 false encU8 (byI (useB k s c f l))) tab_ok rfl rfl ⟨rfl, (b.toNat : Int), hb2, _, rfl, rfl⟩ rfl) ?_
    refine dreg_q [38] [] rfl (quo_int (m := ((b.toNat / 16 : Nat) : Int)) tab_ok rfl rfl (by decide) w39) ?_
    refine dreg_q [39] [] rfl (index_s (l := hexD) (m := b.toNat / 16) tab_ok rfl rfl rfl hx1) ?_
    refine dreg_q [3] [66] rfl (step_C tab_ok (fun K hk => hk)) ?_
    refine dreg_q [5] [] rfl (step_C tab_ok (fun K hk => hk)) ?_
    refine dreg_q [41, 42] [66] rfl (index_own tab_ok rfl rfl rfl rfl rfl (by omega) (by omega)) ?_
    refine dreg_q [43] [66] rfl (load_row (row := .ds 5 1 false encU8 (byI (useB k s c f l))) tab_ok rfl rfl ⟨rfl, (b.toNat : Int), hb2, _, rfl, rfl⟩ rfl) ?_
    refine dreg_q [44] [] rfl (rem_int tab_ok rfl rfl (by decide)) ?_
    refine dreg_q [45] [] rfl (index_s (l := hexD) (m := b.toNat % 16) tab_ok rfl rfl rfl hx2) ?_
    refine dreg_w [40, 46] [] rfl (build_slice tab_ok rfl rfl rfl rfl rfl rfl rfl rfl) ?_
    refine dreg_w2 [34, 47] [67, 208] rfl (append_lits (enc := encU8) (xs := byI (((useB k s c f l).take i).flatMap hexB)) tab_ok [((hexC (b.toNat / 16)).toNat : Int), ((hexC (b.toNat % 16)).toNat : Int)] rfl rfl rfl rfl rfl rfl rfl rfl rfl (fun _ _ => rfl) (by decide) hal rfl) ?_
    refine dreg_q [48] [216] rfl (step_C tab_ok (fun K hk => hk)) ?_
    refine dreg_end (by kernel_rfl) ?_
    refine blk_n ?_
    refine seq_n ?_
    refine wc_region ?_
    refine reg_quiet rfl (step_C tab_ok (fun K hk => hk)) ?_
    refine reg_quiet rfl (add_int tab_ok rfl rfl (wrap_i64 (by omega) (by omega))) ?_
    refine reg_quiet rfl (step_C tab_ok (fun K hk => hk)) ?_
    refine reg_nil ?_
    refine loop_n (i + 1) [(66, some 66), (67, some 216)] hlt (by omega) ?_
    exact .of rfl rfl rfl rfl rfl ⟨⟨_, rfl, .refl _⟩, rfl, ⟨_, rfl, AVLe.of_eq (by rw [← hgo, List.length_append]; rfl)⟩, rfl, ⟨_, rfl, .refl _⟩, rfl, trivial⟩ ⟨⟨rfl, rfl, _, rfl, .refl _⟩, ⟨rfl, rfl, _, rfl, RowLe.of_eq (congrArg (Row.ds 5 1 false encU8) hgo)⟩, trivial⟩
  · have he : i = 36 := by have := of_decide_eq_false h3; omega
    subst he
    have hal2 : (byI (((useB k s c f l).take 36).flatMap hexB)).length + [(10 : Int)].length ≤ 1048576 := by
      rw [byI_len, hexB_len, List.length_take]
      simp
      omega
    refine wc_exit ?_
    refine seq_x ?_
    refine loop_x ?_
    refine blk_x ?_
    refine seq_n ?_
    refine wc_seq ?_
    refine wc_region ?_
    refine reg_quiet rfl (step_C tab_ok (fun K hk => hk)) ?_
    refine reg_new (build_slice tab_ok rfl rfl rfl rfl rfl rfl rfl rfl) rfl ?_
    refine reg_new2 (append_lits (enc := encU8) (xs := byI (((useB k s c f l).take 36).flatMap hexB)) tab_ok [10] rfl rfl rfl rfl rfl rfl rfl rfl rfl (fun _ _ => rfl) (by decide) hal2 rfl) rfl ?_
    refine reg_quiet rfl (conv_own tab_ok rfl rfl rfl rfl rfl (by simp) (by simp)) ?_
    refine reg_quiet rfl (step_C tab_ok (fun K hk => hk)) ?_
    refine reg_nil ?_
    refine seq_n ?_
    refine wc_ret ?_
    exact ⟨trivial, [], .of rfl rfl rfl rfl rfl ⟨⟨_, rfl, AVLe.of_eq (by
      rw [show byI (((useB k s c f l).take 36).flatMap hexB) ++ [(10 : Int)] = byI ((useB k s c f l).flatMap hexB ++ [10]) by rw [List.take_of_length_le (by omega)]; simp [byI], strOf_byI]
      rfl)⟩, rfl, trivial⟩ trivial⟩
end Go.Proofs.Ytjpjchohpjbknaa

/- Ledgers: the law of Text. -/
namespace Go.Proofs.Ytjpjchohpjbknaa
open Go.Eng
set_option maxHeartbeats 4000000
set_option maxRecDepth 50000
attribute [local irreducible] WC RegS RegD SeqQ BlkQ ScoQ RegK CutK Sat SatN FnIs LoopQ StepIs OpIs
theorem line_use {u : LUse} (h : OkU u) : FnIs Try.prog 38 [.d (encUse u)] [] (.d (strD (lineL u))) [] := by
  have h1 := h.shard; have h2 := h.ctr; have h3 := h.fst; have h4 := h.lst
  have := line_is (keyB u.key) u.range.nonce.shard.toNat u.range.nonce.counter.toNat u.range.first.toNat u.range.last.toNat (by rw [keyB_len, h.key]) (by omega) (by omega) (by omega) (by omega)
  rw [h.eq] at this
  exact this
theorem ltext_no (l : List LUse) (h : 60 < l.length ∨ chkL l ≠ 0) : FnIs Try.prog 8 [.d (.arr 20 encUse l)] [] (.bool true) [] := by
  refine fnIs_of tab_ok Try.func8 rfl rfl rfl ?_
  cases h1 : decide ((60 : Int) < (l.length : Int)) with
  | true =>
    refine wc_seq ?_
    refine wc_region ?_
    refine reg_quiet rfl (step_C tab_ok (fun K hk => hk)) ?_
    refine reg_nil ?_
    refine seq_n ?_
    refine wc_seq ?_
    refine wc_seq ?_
    refine wc_region ?_
    refine reg_quiet rfl (step_C tab_ok (fun K hk => hk)) ?_
    refine reg_quiet rfl (len_arr tab_ok rfl rfl) ?_
    refine reg_quiet rfl (step_C tab_ok (fun K hk => hk)) ?_
    refine reg_quiet rfl (step_C tab_ok (fun K hk => hk)) ?_
    refine reg_skip rfl rfl (by assumption) rfl rfl ?_
    refine reg_skip rfl rfl (by assumption) rfl rfl ?_
    refine reg_skip rfl rfl (by assumption) rfl rfl ?_
    refine reg_quiet rfl (pick_T tab_ok rfl (by assumption) rfl) ?_
    refine reg_nil ?_
    refine seq_n ?_
    refine wc_true rfl rfl ?_
    refine wc_seq ?_
    refine wc_region ?_
    refine reg_quiet rfl (call_r lives_is rfl rfl arg_nil (.inl rfl) (fun _ => rfl)) ?_
    refine reg_quiet rfl (step_C tab_ok (fun K hk => hk)) ?_
    refine reg_nil ?_
    refine seq_n ?_
    refine wc_ret ?_
    refine seq_r ?_
    exact ⟨trivial, [], .of rfl rfl rfl rfl rfl ⟨⟨_, rfl, AVLe.of_eq rfl⟩, rfl, trivial⟩ trivial⟩
  | false =>
    have h2 : (!decide (chkL l = 0)) = true := by
      rw [decide_eq_false]
      · rfl
      · rcases h with h | h
        · have := of_decide_eq_false h1; omega
        · exact h
    refine wc_seq ?_
    refine wc_region ?_
    refine reg_quiet rfl (step_C tab_ok (fun K hk => hk)) ?_
    refine reg_nil ?_
    refine seq_n ?_
    refine wc_seq ?_
    refine wc_seq ?_
    refine wc_region ?_
    refine reg_quiet rfl (step_C tab_ok (fun K hk => hk)) ?_
    refine reg_quiet rfl (len_arr tab_ok rfl rfl) ?_
    refine reg_quiet rfl (step_C tab_ok (fun K hk => hk)) ?_
    refine reg_quiet rfl (step_C tab_ok (fun K hk => hk)) ?_
    refine reg_on rfl rfl (by assumption) ?_
    refine reg_quiet rfl (step_C tab_ok (fun K hk => hk)) ?_
    refine reg_on rfl rfl (by assumption) ?_
    refine reg_quiet rfl (call_r (refcheck_is l) rfl rfl (arg_e arg_nil) (.inl rfl) (fun _ => rfl)) ?_
    refine reg_on rfl rfl (by assumption) ?_
    refine reg_quiet rfl (step_C tab_ok (fun K hk => hk)) ?_
    refine reg_quiet rfl (pick_F tab_ok rfl (by assumption) rfl) ?_
    refine reg_nil ?_
    refine seq_n ?_
    refine wc_true rfl (by assumption) ?_
    refine wc_seq ?_
    refine wc_region ?_
    refine reg_quiet rfl (call_r lives_is rfl rfl arg_nil (.inl rfl) (fun _ => rfl)) ?_
    refine reg_quiet rfl (step_C tab_ok (fun K hk => hk)) ?_
    refine reg_nil ?_
    refine seq_n ?_
    refine wc_ret ?_
    refine seq_r ?_
    exact ⟨trivial, [], .of rfl rfl rfl rfl rfl ⟨⟨_, rfl, AVLe.of_eq rfl⟩, rfl, trivial⟩ trivial⟩
theorem ltext_ok (l : List LUse) (hok : ∀ x ∈ l, OkU x) (h60 : l.length ≤ 60) (h0 : chkL l = 0) : FnIs Try.prog 8 [.d (.arr 20 encUse l)] [] (.bool true) [] := by
  have d1 : decide ((60 : Int) < (l.length : Int)) = false := decide_eq_false (by omega)
  have hC := refcheck_is l
  rw [h0] at hC
  have hv : ∀ x ∈ l, OkU x ∧ validU x = true := fun x hx => ⟨hok x hx, List.all_eq_true.1 (chk_ok h0).2 x hx⟩
  have hlen := textL_len l hok
  have hT := text_all l hv (by omega)
  have hP := parse_text (textL l) (by omega)
  rw [parseT_text hv] at hP
  have hS := usame_is l l (by omega)
  rw [decide_eq_true rfl] at hS
  have hq : decide (textL l = textL l) = true := decide_eq_true rfl
  refine fnIs_of tab_ok Try.func8 rfl rfl rfl ?_
  refine wc_seq ?_
  refine wc_region ?_
  refine reg_quiet rfl (step_C tab_ok (fun K hk => hk)) ?_
  refine reg_nil ?_
  refine seq_n ?_
  refine wc_seq ?_
  refine wc_seq ?_
  refine wc_region ?_
  refine reg_quiet rfl (step_C tab_ok (fun K hk => hk)) ?_
  refine reg_quiet rfl (len_arr tab_ok rfl rfl) ?_
  refine reg_quiet rfl (step_C tab_ok (fun K hk => hk)) ?_
  refine reg_quiet rfl (step_C tab_ok (fun K hk => hk)) ?_
  refine reg_on rfl rfl (by assumption) ?_
  refine reg_quiet rfl (step_C tab_ok (fun K hk => hk)) ?_
  refine reg_on rfl rfl (by assumption) ?_
  refine reg_quiet rfl (call_r hC rfl rfl (arg_e arg_nil) (.inl rfl) (fun _ => rfl)) ?_
  refine reg_on rfl rfl (by assumption) ?_
  refine reg_quiet rfl (step_C tab_ok (fun K hk => hk)) ?_
  refine reg_quiet rfl (pick_F tab_ok rfl (by assumption) rfl) ?_
  refine reg_nil ?_
  refine seq_n ?_
  refine wc_false rfl rfl ?_
  refine wc_skip ?_
  refine seq_n ?_
  refine wc_seq ?_
  refine wc_region ?_
  refine reg_quiet rfl (step_C tab_ok (fun K hk => hk)) ?_
  refine reg_nil ?_
  refine seq_n ?_
  refine wc_seq ?_
  refine wc_seq ?_
  refine wc_region ?_
  refine reg_quiet rfl (step_C tab_ok (fun K hk => hk)) ?_
  refine reg_nil ?_
  refine seq_n ?_
  refine wc_block ?_
  refine wc_inv (fun i : Nat => ⟨[(4, .int .i64 i), (3, .d (strD (textL (l.take i)))), (0, .d (.arr 20 encUse l))], [], 72, Try.f8.ntmps, 64⟩) (fun i => i ≤ l.length) (fun i => l.length - i) 0 [] (Nat.zero_le _)
    (.of rfl rfl rfl rfl rfl ⟨⟨_, rfl, .refl _⟩, rfl, ⟨_, rfl, .refl _⟩, rfl, ⟨_, rfl, .refl _⟩, rfl, trivial⟩ trivial) ?_
  intro i hi
  refine wc_of ?_
  refine wc_seq ?_
  refine wc_seq ?_
  refine wc_region ?_
  refine reg_quiet rfl (step_C tab_ok (fun K hk => hk)) ?_
  refine reg_quiet rfl (step_C tab_ok (fun K hk => hk)) ?_
  refine reg_quiet rfl (len_arr tab_ok rfl rfl) ?_
  refine reg_quiet rfl (step_C tab_ok (fun K hk => hk)) ?_
  refine reg_nil ?_
  refine seq_n ?_
  refine wc_cond rfl (fun h3 => ?_) (fun h3 => ?_)
  · have hlt : i < l.length := by have := of_decide_eq_true h3; omega
    obtain ⟨u, hu⟩ : ∃ u, l[i]? = some u := ⟨_, List.getElem?_eq_getElem hlt⟩
    have hu' : l[((i : Int)).toNat]? = some u := by rw [Int.toNat_natCast]; exact hu
    have hgo : textL (l.take i) ++ lineL u = textL (l.take (i + 1)) := by
      rw [List.take_add_one, hu]
      simp [textL]
    have hal : (textL (l.take i)).length + (lineL u).length ≤ 9223372036854775807 := by
      rw [textL_len _ fun x hx => hok x (List.mem_of_mem_take hx), lineL_len (hok u (List.mem_of_getElem? hu)), List.length_take]
      omega
    refine wc_skip ?_
    refine seq_n ?_
    refine wc_seq ?_
    refine wc_block ?_
    refine wc_region ?_
    refine reg_quiet rfl (step_C tab_ok (fun K hk => hk)) ?_
    refine reg_quiet rfl (step_C tab_ok (fun K hk => hk)) ?_
    refine reg_quiet rfl (step_C tab_ok (fun K hk => hk)) ?_
    refine reg_quiet rfl (index_arr tab_ok rfl rfl rfl rfl rfl (by omega) hu') ?_
    refine reg_quiet rfl (load_i tab_ok rfl rfl) ?_
    refine reg_quiet rfl (call_r (line_use (hok u (List.mem_of_getElem? hu))) rfl rfl (arg_e arg_nil) (.inl rfl) (fun _ => rfl)) ?_
    refine reg_quiet rfl (add_str (a := textL (l.take i)) (b := lineL u) (m := textL (l.take (i + 1))) rfl rfl hal hgo) ?_
    refine reg_quiet rfl (step_C tab_ok (fun K hk => hk)) ?_
    refine reg_nil ?_
    refine blk_n ?_
    refine seq_n ?_
    refine wc_region ?_
    refine reg_quiet rfl (step_C tab_ok (fun K hk => hk)) ?_
    refine reg_quiet rfl (add_int tab_ok rfl rfl (wrap_i64 (by omega) (by omega))) ?_
    refine reg_quiet rfl (step_C tab_ok (fun K hk => hk)) ?_
    refine reg_nil ?_
    refine loop_n (i + 1) [] hlt (by omega) ?_
    exact .of rfl rfl rfl rfl rfl ⟨⟨_, rfl, .refl _⟩, rfl, ⟨_, rfl, .refl _⟩, rfl, ⟨_, rfl, .refl _⟩, rfl, trivial⟩ trivial
  · have he : i = l.length := by have := of_decide_eq_false h3; omega
    subst he
    have hq : decide (textL l = textL (l.take l.length)) = true := decide_eq_true (by rw [List.take_length])
    refine wc_exit ?_
    refine seq_x ?_
    refine loop_x ?_
    refine blk_x ?_
    refine seq_n ?_
    refine wc_seq ?_
    refine wc_region ?_
    refine reg_quiet rfl (step_C tab_ok (fun K hk => hk)) ?_
    refine reg_quiet rfl (call_r (of_is _) rfl rfl (arg_e arg_nil) (.inl rfl) (fun _ => rfl)) ?_
    refine reg_quiet rfl (call_r hT rfl rfl (arg_e arg_nil) (.inl rfl) (fun _ => rfl)) ?_
    refine reg_quiet rfl (step_C tab_ok (fun K hk => hk)) ?_
    refine reg_quiet rfl (step_C tab_ok (fun K hk => hk)) ?_
    refine reg_quiet rfl (step_C tab_ok (fun K hk => hk)) ?_
    refine reg_quiet rfl (step_C tab_ok (fun K hk => hk)) ?_
    refine reg_quiet rfl (step_C tab_ok (fun K hk => hk)) ?_
    refine reg_nil ?_
    refine seq_n ?_
    refine wc_seq ?_
    refine wc_region ?_
    refine reg_quiet rfl (step_C tab_ok (fun K hk => hk)) ?_
    refine reg_quiet rfl (call_r hP rfl rfl (arg_e arg_nil) (.inl rfl) (fun _ => rfl)) ?_
    refine reg_quiet rfl (step_C tab_ok (fun K hk => hk)) ?_
    refine reg_quiet rfl (step_C tab_ok (fun K hk => hk)) ?_
    refine reg_quiet rfl (step_C tab_ok (fun K hk => hk)) ?_
    refine reg_quiet rfl (step_C tab_ok (fun K hk => hk)) ?_
    refine reg_new (step_C tab_ok (fun K hk => hk)) rfl ?_
    refine reg_store (store_row tab_ok rfl rfl rfl ⟨_, ⟨rfl, rfl, rfl⟩, rfl⟩ rfl) ?_
    refine reg_quiet rfl (step_C tab_ok (fun K hk => hk)) ?_
    refine reg_quiet rfl (step_C tab_ok (fun K hk => hk)) ?_
    refine reg_nil ?_
    refine seq_n ?_
    refine wc_seq ?_
    refine wc_region ?_
    refine reg_quiet rfl (step_C tab_ok (fun K hk => hk)) ?_
    refine reg_quiet rfl (step_C tab_ok (fun K hk => hk)) ?_
    refine reg_quiet rfl (eql_s tab_ok rfl rfl rfl) ?_
    refine reg_quiet rfl (step_C tab_ok (fun K hk => hk)) ?_
    refine reg_on rfl rfl (by assumption) ?_
    refine reg_quiet rfl (step_C tab_ok (fun K hk => hk)) ?_
    refine reg_on rfl rfl (by assumption) ?_
    refine reg_quiet rfl (step_C tab_ok (fun K hk => hk)) ?_
    refine reg_quiet rfl (pick_T tab_ok rfl (by assumption) rfl) ?_
    refine reg_quiet rfl (step_C tab_ok (fun K hk => hk)) ?_
    refine reg_on rfl rfl rfl ?_
    refine reg_quiet rfl (load_box tab_ok rfl rfl rfl rfl) ?_
    refine reg_on rfl rfl rfl ?_
    refine reg_quiet rfl (step_C tab_ok (fun K hk => hk)) ?_
    refine reg_on rfl rfl rfl ?_
    refine reg_quiet rfl (call_r hS rfl rfl (arg_e (arg_e arg_nil)) (.inl rfl) (fun _ => rfl)) ?_
    refine reg_quiet rfl (pick_T tab_ok rfl rfl rfl) ?_
    refine reg_quiet rfl (step_C tab_ok (fun K hk => hk)) ?_
    refine reg_on rfl rfl rfl ?_
    refine reg_quiet rfl (step_C tab_ok (fun K hk => hk)) ?_
    refine reg_on rfl rfl rfl ?_
    refine reg_quiet rfl (step_C tab_ok (fun K hk => hk)) ?_
    refine reg_quiet rfl (pick_T tab_ok rfl rfl rfl) ?_
    refine reg_quiet rfl (step_C tab_ok (fun K hk => hk)) ?_
    refine reg_on rfl rfl rfl ?_
    refine reg_quiet rfl (step_C tab_ok (fun K hk => hk)) ?_
    refine reg_on rfl rfl rfl ?_
    refine reg_quiet rfl (step_C tab_ok (fun K hk => hk)) ?_
    refine reg_quiet rfl (pick_T tab_ok rfl rfl rfl) ?_
    refine reg_quiet rfl (step_C tab_ok (fun K hk => hk)) ?_
    refine reg_on rfl rfl rfl ?_
    refine reg_quiet rfl (call_r lives_is rfl rfl arg_nil (.inl rfl) (fun _ => rfl)) ?_
    refine reg_quiet rfl (pick_T tab_ok rfl rfl rfl) ?_
    refine reg_quiet rfl (step_C tab_ok (fun K hk => hk)) ?_
    refine reg_nil ?_
    refine seq_n ?_
    refine wc_ret ?_
    exact ⟨trivial, [], .of rfl rfl rfl rfl rfl ⟨⟨_, rfl, AVLe.of_eq rfl⟩, rfl, trivial⟩ trivial⟩
theorem ltext_is (l : List LUse) (hok : ∀ x ∈ l, OkU x) : FnIs Try.prog 8 [.d (.arr 20 encUse l)] [] (.bool true) [] := by
  by_cases h : 60 < l.length ∨ chkL l ≠ 0
  · exact ltext_no l h
  · exact ltext_ok l hok (Nat.le_of_not_lt fun hh => h (.inl hh)) (Classical.byContradiction fun hh => h (.inr hh))
end Go.Proofs.Ytjpjchohpjbknaa

/- Ledgers: the uses of plain data. -/
namespace Go.Proofs.Ytjpjchohpjbknaa
open Go.Eng
set_option maxHeartbeats 4000000
set_option maxRecDepth 50000
attribute [local irreducible] WC RegS RegD SeqQ BlkQ ScoQ RegK CutK Sat SatN FnIs LoopQ StepIs OpIs
/-- Four bytes. -/
structure R4 where
  a : Int
  b : Int
  c : Int
  d : Int
structure R4.Ok (r : R4) : Prop where
  a : 0 ≤ r.a ∧ r.a ≤ 255
  b : 0 ≤ r.b ∧ r.b ≤ 255
  c : 0 ≤ r.c ∧ r.c ≤ 255
  d : 0 ≤ r.d ∧ r.d ≤ 255
abbrev encR4 (r : R4) : D := .vec 4 1 encU8 [r.a, r.b, r.c, r.d]
abbrev encUU (l : List R4) : D := .cons (.arr 4 encR4 l) .nil
/-- The use that four bytes stand for. -/
def useA (r : R4) : LUse := ⟨List.replicate 15 0 ++ [r.a.tmod 3], ⟨⟨r.b.tmod 3, (r.b.tdiv 3).tmod 5⟩, r.c.tmod 8, r.c.tmod 8 + r.d.tmod 3⟩⟩
def ofU (l : List R4) : List LUse := (l.take 60).map useA
theorem tmod_of {a k : Int} (h : 0 ≤ a) (hk : 0 < k) : a.tmod k = a % k ∧ 0 ≤ a % k ∧ a % k < k := ⟨Int.tmod_eq_emod_of_nonneg h, Int.emod_nonneg _ (by omega), Int.emod_lt_of_pos _ hk⟩
theorem useA_ok {r : R4} (h : r.Ok) : OkU (useA r) ∧ validU (useA r) = true := by
  obtain ⟨a1, a2⟩ := h.a; obtain ⟨b1, b2⟩ := h.b; obtain ⟨c1, c2⟩ := h.c; obtain ⟨d1, d2⟩ := h.d
  obtain ⟨e1, e2, e3⟩ := tmod_of (k := 3) a1 (by decide)
  obtain ⟨f1, f2, f3⟩ := tmod_of (k := 3) b1 (by decide)
  have g0 : 0 ≤ r.b.tdiv 3 := by rw [Int.tdiv_eq_ediv_of_nonneg b1]; omega
  obtain ⟨g1, g2, g3⟩ := tmod_of (k := 5) g0 (by decide)
  obtain ⟨i1, i2, i3⟩ := tmod_of (k := 8) c1 (by decide)
  obtain ⟨j1, j2, j3⟩ := tmod_of (k := 3) d1 (by decide)
  refine ⟨⟨by simp [useA], fun b hb => ?_, ?_, ?_, ?_, ?_⟩, ?_⟩
  · simp only [useA, List.mem_append, List.mem_replicate, List.mem_singleton] at hb
    rcases hb with ⟨_, rfl⟩ | rfl
    · omega
    · rw [e1]; omega
  · simp only [useA, f1]; omega
  · simp only [useA, g1]; omega
  · simp only [useA, i1]; omega
  · simp only [useA, i1, j1]; omega
  · simp only [validU, useA, i1, j1]
    exact decide_eq_true (by omega)
theorem ofU_ok {l : List R4} (h : ∀ r ∈ l, r.Ok) : ∀ u ∈ ofU l, OkU u ∧ validU u = true := fun u hu => by
  obtain ⟨r, hr, rfl⟩ := List.mem_map.1 hu
  exact useA_ok (h r (List.mem_of_mem_take hr))
theorem ofU_len (l : List R4) : (ofU l).length = min 60 l.length := by simp [ofU]
theorem ofU_chk {l : List R4} (h : ∀ r ∈ l, r.Ok) : chkL (ofU l) = 0 := chk_of (ofU_ok h) (by rw [ofU_len]; omega)
theorem uof_is (l : List R4) (hok : ∀ r ∈ l, r.Ok) : FnIs Try.prog 44 [.d (encUU l)] [] (.d (.arr 20 encUse (ofU l))) [] := by
  refine fnIs_of tab_ok Try.func44 rfl rfl rfl ?_
  refine wc_seq ?_
  refine wc_region ?_
  refine reg_new (step_C tab_ok (fun K hk => hk)) rfl ?_
  refine reg_quiet rfl (step_C tab_ok (fun K hk => hk)) ?_
  refine reg_nil ?_
  refine seq_n ?_
  refine wc_seq ?_
  refine wc_region ?_
  refine reg_quiet rfl (step_C tab_ok (fun K hk => hk)) ?_
  refine reg_nil ?_
  refine seq_n ?_
  refine wc_seq ?_
  refine wc_seq ?_
  refine wc_region ?_
  refine reg_quiet rfl (step_C tab_ok (fun K hk => hk)) ?_
  refine reg_nil ?_
  refine seq_n ?_
  refine wc_block ?_
  refine wc_inv (fun i : Nat => ⟨[(4, .int .i64 i), (3, .own 66 0 ((l.take i).map useA).length 20 none), (1, .ptr 64 []), (2, .d (.sc nil_))], [(64, some (.box 97 (.d (encUU l)))), (66, some (rowU false ((l.take i).map useA)))], 72, Try.f44.ntmps, 64⟩) (fun i => i ≤ l.length ∧ i ≤ 60) (fun i => l.length - i) 0 [(64, some 64), (66, none)] ⟨Nat.zero_le _, Nat.zero_le _⟩
    (.of rfl rfl rfl rfl rfl ⟨⟨_, rfl, .refl _⟩, rfl, ⟨_, rfl, .refl _⟩, rfl, ⟨_, rfl, .refl _⟩, rfl, ⟨_, rfl, .refl _⟩, rfl, trivial⟩ ⟨⟨rfl, rfl, _, rfl, .refl _⟩, ⟨rfl, rfl, rfl⟩, trivial⟩) ?_
  rintro i ⟨hi, hi6⟩
  refine wc_of ?_
  have fin : i = l.length ∨ i = 60 → (l.take i).map useA = ofU l := fun h => by
    rw [ofU]
    rcases h with rfl | rfl
    · rw [List.take_length, List.take_of_length_le hi6]
    · rfl
  cases h1 : decide ((i : Int) < (l.length : Int)) with
  | true =>
    have hlt : i < l.length := by have := of_decide_eq_true h1; omega
    cases h2 : decide ((i : Int) < 60) with
    | true =>
      have hlt6 : i < 60 := by have := of_decide_eq_true h2; omega
      obtain ⟨r, hr⟩ : ∃ r, l[i]? = some r := ⟨_, List.getElem?_eq_getElem hlt⟩
      have hr' : l[((i : Int)).toNat]? = some r := by rw [Int.toNat_natCast]; exact hr
      have ok := hok r (List.mem_of_getElem? hr)
      obtain ⟨b1, b2⟩ := ok.b; obtain ⟨c1, c2⟩ := ok.c; obtain ⟨d1, d2⟩ := ok.d
      obtain ⟨f1, f2, f3⟩ := tmod_of (k := 3) b1 (by decide)
      have g00 : r.b.tdiv 3 = r.b / 3 := Int.tdiv_eq_ediv_of_nonneg b1
      have g0 : 0 ≤ r.b.tdiv 3 := by rw [g00]; omega
      obtain ⟨g1, g2, g3⟩ := tmod_of (k := 5) g0 (by decide)
      obtain ⟨i1, i2, i3⟩ := tmod_of (k := 8) c1 (by decide)
      obtain ⟨j1, j2, j3⟩ := tmod_of (k := 3) d1 (by decide)
      have wr : ∀ {k : IntKind} {x : Int}, k.signed = false → 0 ≤ x → x < 256 → 8 ≤ k.bits → k.wrap x = x := fun {k x} hs h0 h1 hb => by
        have e : ((x.toNat : Nat) : Int) = x := Int.toNat_of_nonneg h0
        have : (2 : Nat) ^ 8 ≤ 2 ^ k.bits := Nat.pow_le_pow_right (by decide) hb
        rw [← e]
        exact wrap_nat hs (by omega)
      have w26 : IntKind.u32.wrap (r.c.tmod 8) = r.c.tmod 8 := wr rfl (by omega) (by omega) (by decide)
      have w35 : IntKind.u32.wrap (r.b.tmod 3) = r.b.tmod 3 := wr rfl (by omega) (by omega) (by decide)
      have w38 : IntKind.u8.wrap (r.b.tdiv 3) = r.b.tdiv 3 := wr rfl (by omega) (by omega) (by decide)
      have w40 : IntKind.u64.wrap ((r.b.tdiv 3).tmod 5) = (r.b.tdiv 3).tmod 5 := wr rfl (by omega) (by omega) (by decide)
      have w47 : IntKind.u32.wrap (r.d.tmod 3) = r.d.tmod 3 := wr rfl (by omega) (by omega) (by decide)
      have w48 : IntKind.u32.wrap (r.c.tmod 8 + r.d.tmod 3) = r.c.tmod 8 + r.d.tmod 3 := wr rfl (by omega) (by omega) (by decide)
      have hl1 : ((l.take i).map useA).length + 1 ≤ 1048576 := by rw [List.length_map, List.length_take]; omega
      have hgo : (l.take i).map useA ++ [useA r] = (l.take (i + 1)).map useA := by rw [List.take_add_one, hr]; simp
      refine wc_seq ?_
      refine wc_seq ?_
      refine wc_region ?_
      refine reg_quiet rfl (step_C tab_ok (fun K hk => hk)) ?_
      refine reg_quiet rfl (step_C tab_ok (fun K hk => hk)) ?_
      refine reg_quiet rfl (load_box tab_ok rfl rfl ⟨_, rfl, rfl⟩ rfl) ?_
      refine reg_quiet rfl (len_arr tab_ok rfl rfl) ?_
      refine reg_quiet rfl (step_C tab_ok (fun K hk => hk)) ?_
      refine reg_quiet rfl (step_C tab_ok (fun K hk => hk)) ?_
      refine reg_on rfl rfl (by assumption) ?_
      refine reg_quiet rfl (step_C tab_ok (fun K hk => hk)) ?_
      refine reg_on rfl rfl (by assumption) ?_
      refine reg_quiet rfl (step_C tab_ok (fun K hk => hk)) ?_
      refine reg_quiet rfl (pick_T tab_ok rfl (by assumption) rfl) ?_
      refine reg_nil ?_
      refine seq_n ?_
      refine wc_true rfl (by assumption) ?_
      refine wc_skip ?_
      refine seq_n ?_
      refine wc_seq ?_
      refine wc_block ?_
      refine wc_seq ?_
      refine wc_region ?_
      refine reg_quiet rfl (step_C tab_ok (fun K hk => hk)) ?_
      refine reg_quiet rfl (load_box tab_ok rfl rfl ⟨_, rfl, rfl⟩ rfl) ?_
      refine reg_quiet rfl (step_C tab_ok (fun K hk => hk)) ?_
      refine reg_quiet rfl (index_arr tab_ok rfl rfl rfl rfl rfl (by omega) hr') ?_
      refine reg_quiet rfl (load_i tab_ok rfl rfl) ?_
      refine reg_new (step_C tab_ok (fun K hk => hk)) rfl ?_
      refine reg_store (store_row tab_ok rfl rfl rfl ⟨_, ⟨rfl, rfl, rfl⟩, rfl⟩ rfl) ?_
      refine reg_nil ?_
      refine seq_n ?_
      refine wc_seq ?_
      refine wc_region ?_
      refine reg_quiet rfl (step_C tab_ok (fun K hk => ⟨by omega, by omega, hk⟩)) ?_
      refine reg_quiet rfl (load_box tab_ok rfl rfl ⟨_, ⟨rfl, _, rfl, rfl⟩, rfl⟩ rfl) ?_
      refine reg_quiet rfl (rem_int tab_ok rfl rfl (by omega)) ?_
      refine reg_quiet rfl (conv_int (m := r.c.tmod 8) tab_ok rfl rfl rfl w26) ?_
      refine reg_quiet rfl (step_C tab_ok (fun K hk => hk)) ?_
      refine reg_nil ?_
      refine seq_n ?_
      refine wc_region ?_
      refine reg_quiet rfl (step_C tab_ok (fun K hk => hk)) ?_
      refine reg_quiet rfl (step_C tab_ok (fun K hk => ⟨by omega, by omega, hk⟩)) ?_
      refine reg_quiet rfl (load_box tab_ok rfl rfl ⟨_, ⟨rfl, _, rfl, rfl⟩, rfl⟩ rfl) ?_
      refine reg_quiet rfl (rem_int tab_ok rfl rfl (by omega)) ?_
      refine reg_quiet rfl ((build_arr_of tab_ok rfl rfl rfl rfl rfl rfl rfl).val_le (DLe.chain_vec (enc := encU8) lu8_len (List.replicate 15 0 ++ [r.a.tmod 3]) _ rfl) rfl) ?_
      refine reg_quiet rfl (step_C tab_ok (fun K hk => ⟨by omega, by omega, hk⟩)) ?_
      refine reg_quiet rfl (load_box tab_ok rfl rfl ⟨_, ⟨rfl, _, rfl, rfl⟩, rfl⟩ rfl) ?_
      refine reg_quiet rfl (rem_int tab_ok rfl rfl (by omega)) ?_
      refine reg_quiet rfl (conv_int (m := r.b.tmod 3) tab_ok rfl rfl rfl w35) ?_
      refine reg_quiet rfl (step_C tab_ok (fun K hk => ⟨by omega, by omega, hk⟩)) ?_
      refine reg_quiet rfl (load_box tab_ok rfl rfl ⟨_, ⟨rfl, _, rfl, rfl⟩, rfl⟩ rfl) ?_
      refine reg_quiet rfl (quo_int (m := r.b.tdiv 3) tab_ok rfl rfl (by decide) w38) ?_
      refine reg_quiet rfl (rem_int tab_ok rfl rfl (by omega)) ?_
      refine reg_quiet rfl (conv_int (m := (r.b.tdiv 3).tmod 5) tab_ok rfl rfl rfl w40) ?_
      refine reg_quiet rfl (build_struct tab_ok rfl rfl rfl rfl) ?_
      refine reg_quiet rfl (step_C tab_ok (fun K hk => hk)) ?_
      refine reg_quiet rfl (step_C tab_ok (fun K hk => hk)) ?_
      refine reg_quiet rfl (step_C tab_ok (fun K hk => ⟨by omega, by omega, hk⟩)) ?_
      refine reg_quiet rfl (load_box tab_ok rfl rfl ⟨_, ⟨rfl, _, rfl, rfl⟩, rfl⟩ rfl) ?_
      refine reg_quiet rfl (rem_int tab_ok rfl rfl (by omega)) ?_
      refine reg_quiet rfl (conv_int (m := r.d.tmod 3) tab_ok rfl rfl rfl w47) ?_
      refine reg_quiet rfl (add_int (m := r.c.tmod 8 + r.d.tmod 3) tab_ok rfl rfl w48) ?_
      refine reg_quiet rfl (build_struct tab_ok rfl rfl rfl rfl) ?_
      refine reg_quiet rfl (build_struct tab_ok rfl rfl rfl rfl) ?_
      refine reg_new (build_slice tab_ok rfl rfl rfl rfl rfl rfl rfl rfl) rfl ?_
      refine reg_new2 (append_one (s := 20) (enc := encUse) tab_ok (useA r) rfl rfl rfl rfl rfl rfl rfl rfl rfl hl1 rfl) rfl ?_
      refine reg_quiet rfl (step_C tab_ok (fun K hk => hk)) ?_
      refine reg_nil ?_
      refine blk_n ?_
      refine seq_n ?_
      refine wc_region ?_
      refine reg_quiet rfl (step_C tab_ok (fun K hk => hk)) ?_
      refine reg_quiet rfl (add_int tab_ok rfl rfl (wrap_i64 (by omega) (by omega))) ?_
      refine reg_quiet rfl (step_C tab_ok (fun K hk => hk)) ?_
      refine reg_nil ?_
      refine loop_n (i + 1) [(64, some 64), (66, some 440)] ⟨hlt, by omega⟩ (by omega) ?_
      exact .of rfl rfl rfl rfl rfl ⟨⟨_, rfl, .refl _⟩, rfl, ⟨_, rfl, AVLe.of_eq (by rw [← hgo, List.length_append]; rfl)⟩, rfl, ⟨_, rfl, .refl _⟩, rfl, ⟨_, rfl, .refl _⟩, rfl, trivial⟩ ⟨⟨rfl, rfl, _, rfl, .refl _⟩, ⟨rfl, rfl, _, rfl, RowLe.of_eq (congrArg (Row.ds 84 20 false encUse) hgo)⟩, trivial⟩
    | false =>
      have he : i = 60 := by have := of_decide_eq_false h2; omega
      refine wc_seq ?_
      refine wc_seq ?_
      refine wc_region ?_
      refine reg_quiet rfl (step_C tab_ok (fun K hk => hk)) ?_
      refine reg_quiet rfl (step_C tab_ok (fun K hk => hk)) ?_
      refine reg_quiet rfl (load_box tab_ok rfl rfl ⟨_, rfl, rfl⟩ rfl) ?_
      refine reg_quiet rfl (len_arr tab_ok rfl rfl) ?_
      refine reg_quiet rfl (step_C tab_ok (fun K hk => hk)) ?_
      refine reg_quiet rfl (step_C tab_ok (fun K hk => hk)) ?_
      refine reg_on rfl rfl (by assumption) ?_
      refine reg_quiet rfl (step_C tab_ok (fun K hk => hk)) ?_
      refine reg_on rfl rfl (by assumption) ?_
      refine reg_quiet rfl (step_C tab_ok (fun K hk => hk)) ?_
      refine reg_quiet rfl (pick_T tab_ok rfl (by assumption) rfl) ?_
      refine reg_nil ?_
      refine seq_n ?_
      refine wc_false rfl (by assumption) ?_
      refine wc_exit ?_
      refine seq_x ?_
      refine loop_x ?_
      refine blk_x ?_
      refine seq_n ?_
      refine wc_seq ?_
      refine wc_region ?_
      refine reg_freeze (env' := [(3, _)]) (h' := []) 66 _ rfl ⟨⟨_, rfl, Frz.own rfl⟩, trivial⟩ trivial ?_
      refine reg_quiet rfl (step_C tab_ok (fun K hk => hk)) ?_
      refine reg_quiet rfl (step_C tab_ok (fun K hk => hk)) ?_
      refine reg_nil ?_
      refine seq_n ?_
      refine wc_ret ?_
      exact ⟨trivial, [], .of rfl rfl rfl rfl rfl ⟨⟨_, rfl, AVLe.of_eq (by rw [fin (.inr he)]; rfl)⟩, rfl, trivial⟩ trivial⟩
  | false =>
    have he : i = l.length := by have := of_decide_eq_false h1; omega
    refine wc_seq ?_
    refine wc_seq ?_
    refine wc_region ?_
    refine reg_quiet rfl (step_C tab_ok (fun K hk => hk)) ?_
    refine reg_quiet rfl (step_C tab_ok (fun K hk => hk)) ?_
    refine reg_quiet rfl (load_box tab_ok rfl rfl ⟨_, rfl, rfl⟩ rfl) ?_
    refine reg_quiet rfl (len_arr tab_ok rfl rfl) ?_
    refine reg_quiet rfl (step_C tab_ok (fun K hk => hk)) ?_
    refine reg_quiet rfl (step_C tab_ok (fun K hk => hk)) ?_
    refine reg_skip rfl rfl (by assumption) rfl rfl ?_
    refine reg_skip rfl rfl (by assumption) rfl rfl ?_
    refine reg_quiet rfl (pick_F tab_ok rfl (by assumption) rfl) ?_
    refine reg_nil ?_
    refine seq_n ?_
    refine wc_false rfl rfl ?_
    refine wc_exit ?_
    refine seq_x ?_
    refine loop_x ?_
    refine blk_x ?_
    refine seq_n ?_
    refine wc_seq ?_
    refine wc_region ?_
    refine reg_freeze (env' := [(3, _)]) (h' := []) 66 _ rfl ⟨⟨_, rfl, Frz.own rfl⟩, trivial⟩ trivial ?_
    refine reg_quiet rfl (step_C tab_ok (fun K hk => hk)) ?_
    refine reg_quiet rfl (step_C tab_ok (fun K hk => hk)) ?_
    refine reg_nil ?_
    refine seq_n ?_
    refine wc_ret ?_
    exact ⟨trivial, [], .of rfl rfl rfl rfl rfl ⟨⟨_, rfl, AVLe.of_eq (by rw [fin (.inl he)]; rfl)⟩, rfl, trivial⟩ trivial⟩
end Go.Proofs.Ytjpjchohpjbknaa

/- Ledgers: clashes of lists that are joined. -/
namespace Go.Proofs.Ytjpjchohpjbknaa
open Go.Eng
theorem firstS_congr {β : Type} {f g : Nat → Option β} : ∀ {n : Nat}, (∀ j, j < n → f j = g j) → firstS f n = firstS g n
  | 0, _ => rfl
  | n + 1, h => by
    rw [firstS, firstS, firstS_congr fun j hj => h j (by omega), h n (by omega)]
theorem firstS_is {β : Type} {f : Nat → Option β} : ∀ {n : Nat} {b : β}, firstS f n = some b → ∃ j, j < n ∧ f j = some b ∧ ∀ i, i < j → f i = none
  | 0, _, h => by cases h
  | n + 1, b, h => by
    rw [firstS] at h
    cases e : firstS f n with
    | some x =>
      rw [e] at h
      cases h
      obtain ⟨j, h1, h2, h3⟩ := firstS_is e
      exact ⟨j, by omega, h2, h3⟩
    | none =>
      rw [e] at h
      refine ⟨n, by omega, h, fun i hi => ?_⟩
      cases e2 : f i with
      | none => rfl
      | some y =>
        have : ∀ {m : Nat}, i < m → firstS f m ≠ none := fun {m} hm => by
          induction m with
          | zero => omega
          | succ m ih =>
            rw [firstS]
            by_cases hi2 : i < m
            · have := ih hi2
              cases e3 : firstS f m with
              | none => exact absurd e3 this
              | some z => simp
            · have : m = i := by omega
              subst this
              cases e3 : firstS f m with
              | none => simp [e2]
              | some z => simp
        exact absurd e (this hi)
theorem firstS_no {β : Type} {f : Nat → Option β} {n : Nat} (h : firstS f n = none) : ∀ j, j < n → f j = none := fun j hj => by
  cases e : f j with
  | none => rfl
  | some b =>
    have key : ∀ m, j < m → firstS f m ≠ none := fun m => by
      induction m with
      | zero => intro hm; omega
      | succ m ih =>
        intro hm
        rw [firstS]
        cases e3 : firstS f m with
        | some z => simp
        | none =>
          by_cases hjm : j < m
          · exact absurd e3 (ih hjm)
          · have : m = j := by omega
            subst this
            simp [e]
    exact absurd h (key n hj)
theorem clashI_left {l m : List LUse} {i j : Nat} (hi : i < l.length) (hj : j < l.length) : clashI (l ++ m) i j = clashI l i j := by
  simp only [clashI, List.getElem?_append_left hi, List.getElem?_append_left hj]
theorem clAt_left {l m : List LUse} {i j : Nat} (hi : i < l.length) (hj : j < l.length) : clAt (l ++ m) j i = clAt l j i := by
  simp only [clAt, clashI_left hi hj]
theorem repAt_left {l m : List LUse} {j : Nat} (hj : j < l.length) : repAt (l ++ m) j = repAt l j :=
  firstS_congr fun _ hi => clAt_left (by omega) hj
/-- Does a use clash with one of some uses? -/
def anyC (l : List LUse) (u : LUse) : Bool := l.any fun a => clash a u
theorem anyC_take {l : List LUse} {i : Nat} {a u : LUse} (h : l[i]? = some a) : anyC (l.take (i + 1)) u = (anyC (l.take i) u || clash a u) := by
  rw [anyC, List.take_add_one, h]
  simp [anyC]
theorem repAt_one {l : List LUse} {u : LUse} : repAt (l ++ [u]) l.length = none ↔ anyC l u = false := by
  have hu : (l ++ [u])[l.length]? = some u := by simp
  constructor
  · intro h
    rw [anyC, List.any_eq_false]
    intro a ha hc
    obtain ⟨i, hi⟩ := List.mem_iff_getElem?.1 ha
    have hil := (List.getElem?_eq_some_iff.1 hi).1
    have h1 := firstS_no h i hil
    have h2 : clashI (l ++ [u]) i l.length = true := by
      simp only [clashI, List.getElem?_append_left hil, hi, hu]
      exact hc
    rw [clAt_some h2] at h1
    cases h1
  · intro h
    rw [anyC, List.any_eq_false] at h
    refine repAt_none fun i hi => ?_
    have hx : (l ++ [u])[i]? = some l[i] := by rw [List.getElem?_append_left hi]; exact List.getElem?_eq_getElem hi
    simp only [clashI, hx, hu]
    have := h l[i] (List.getElem_mem hi)
    simpa using this
theorem repF_one (l : List LUse) (u : LUse) : repF (l ++ [u]) = match repF l with
    | some p => some p
    | none => repAt (l ++ [u]) l.length := by
  rw [repF, List.length_append, List.length_singleton, firstS, repF]
  rw [firstS_congr fun j hj => repAt_left (m := [u]) hj]
  cases firstS (repAt l) l.length <;> rfl
theorem repAt_j {l : List LUse} {j : Nat} {p : Nat × Nat} (h : repAt l j = some p) : p.2 = j := by
  obtain ⟨i, _, h2, _⟩ := firstS_is h
  simp only [clAt] at h2
  split at h2
  · cases h2; rfl
  · cases h2
theorem repT_found {l : List LUse} {p : Nat × Nat} (h : repF l = some p) : repT l = ((p.1 : Int), (p.2 : Int), true) ∧ repI l = ((p.1 : Int), (p.2 : Int)) := by
  simp [repT, repI, h]
theorem repT_none {l : List LUse} (h : repF l = none) : repT l = (0, 0, false) ∧ repI l = (-1, -1) := by
  simp [repT, repI, h]
/-- Is there a clash? -/
def hasC (l : List LUse) : Bool := (repT l).2.2
theorem hasC_iff (l : List LUse) : hasC l = false ↔ ∀ j, j < l.length → ∀ i, i < j → clashI l i j = false := by
  constructor
  · intro h
    have : repF l = none := by
      cases e : repF l with
      | none => rfl
      | some p => rw [hasC, (repT_found e).1] at h; cases h
    intro j hj i hi
    have h1 := firstS_no (firstS_no this j hj) i hi
    cases e : clashI l i j with
    | false => rfl
    | true => rw [clAt_some e] at h1; cases h1
  · intro h
    rw [hasC, (repT_none (repF_none h)).1]
theorem hasC_pair (l : List LUse) : hasC l = false ↔ l.Pairwise fun a b => clash a b = false := by
  rw [hasC_iff, List.pairwise_iff_getElem]
  constructor
  · intro h i j hi hj hij
    have := h j hj i hij
    simp only [clashI, List.getElem?_eq_getElem hi, List.getElem?_eq_getElem hj] at this
    exact this
  · intro h j hj i hij
    simp only [clashI, List.getElem?_eq_getElem (show i < l.length by omega), List.getElem?_eq_getElem hj]
    exact h i j _ hj hij
/-- Do uses of two lists clash? -/
def crossC (l m : List LUse) : Bool := l.any fun a => m.any fun b => clash a b
theorem hasC_app (l m : List LUse) : hasC (l ++ m) = (hasC l || hasC m || crossC l m) := by
  rw [Bool.eq_iff_iff]
  apply Decidable.not_iff_not.1
  simp only [Bool.not_eq_true, Bool.or_eq_false_iff, hasC_pair, List.pairwise_append, crossC, List.any_eq_false]
  constructor
  · rintro ⟨h1, h2, h3⟩
    exact ⟨⟨h1, h2⟩, fun a ha b hb => by rw [h3 a ha b]; simp [hb]⟩
  · rintro ⟨⟨h1, h2⟩, h3⟩
    exact ⟨h1, h2, fun a ha b hb => by have := h3 a ha b hb; simpa using this⟩
theorem cntL_app (l m : List LUse) (k : List Int) : cntL (l ++ m) k = cntL l k + cntL m k := by
  simp [cntL]
end Go.Proofs.Ytjpjchohpjbknaa

/- Ledgers: the law of Merge. -/
namespace Go.Proofs.Ytjpjchohpjbknaa
open Go.Eng
set_option maxHeartbeats 4000000
set_option maxRecDepth 50000
attribute [local irreducible] WC RegS RegD SeqQ BlkQ ScoQ RegK CutK Sat SatN FnIs LoopQ StepIs OpIs
def cr1 (L M : List LUse) (i : Nat) : Bool := (L.take i).any fun a => M.any fun b => clash a b
def cr2 (a : LUse) (M : List LUse) (k : Nat) : Bool := (M.take k).any fun b => clash a b
theorem cr1_go {L M : List LUse} {i : Nat} {a : LUse} (h : L[i]? = some a) : cr1 L M (i + 1) = (cr1 L M i || cr2 a M M.length) := by
  rw [cr1, List.take_add_one, h, cr2, List.take_length]
  simp [cr1]
theorem cr2_go {M : List LUse} {k : Nat} {a b : LUse} (h : M[k]? = some b) : cr2 a M (k + 1) = (cr2 a M k || clash a b) := by
  rw [cr2, List.take_add_one, h]
  simp [cr2]
theorem lmerge_core (lx ly : List R4) (L M : List LUse) (key : Int) (h60 : L.length ≤ 60) (m60 : M.length ≤ 60) (h0 : chkL L = 0) (m0 : chkL M = 0) (b0 : chkL (L ++ M) = 0) (hk : 0 ≤ key ∧ key ≤ 255)
    (hOf : FnIs Try.prog 44 [.d (encUU lx)] [] (.d (.arr 20 encUse L)) []) (hOf2 : FnIs Try.prog 44 [.d (encUU ly)] [] (.d (.arr 20 encUse M)) [])
    (a1 b1 a2 b2 a3 b3 : Int) (p q r : Bool) (hT : repT L = (a1, b1, p)) (hT2 : repT M = (a2, b2, q)) (hT3 : repT (L ++ M) = (a3, b3, r)) (hr : r = (p || q || cr1 L M L.length)) : FnIs Try.prog 10 [.d (encUU lx), .d (encUU ly), .int .u8 key] [] (.bool true) [] := by
  have hRep := repeats_is L h0
  rw [hT] at hRep
  have hRep2 := repeats_is M m0
  rw [hT2] at hRep2
  have hRep3 := repeats_is (L ++ M) b0
  rw [hT3] at hRep3
  have hMrg := merge_x L M h0 m0 (by omega)
  obtain ⟨k, hkd⟩ : ∃ k, k = List.replicate 15 0 ++ [key.tmod 4] := ⟨_, rfl⟩
  have hC1 := count_is L (List.replicate 15 0 ++ [key.tmod 4]) (by omega)
  have hC2 := count_is M (List.replicate 15 0 ++ [key.tmod 4]) (by omega)
  have hC3 := count_is (L ++ M) (List.replicate 15 0 ++ [key.tmod 4]) (by rw [List.length_append]; omega)
  have c1 := cntL_le L (List.replicate 15 0 ++ [key.tmod 4])
  have c2 := cntL_le M (List.replicate 15 0 ++ [key.tmod 4])
  have c3 := cntL_app L M (List.replicate 15 0 ++ [key.tmod 4])
  refine fnIs_of tab_ok Try.func10 rfl rfl rfl ?_
  refine wc_seq ?_
  refine wc_region ?_
  refine reg_new (step_C tab_ok (fun K hk => hk)) rfl ?_
  refine reg_new (step_C tab_ok (fun K hk => hk)) rfl ?_
  refine reg_quiet rfl (step_C tab_ok (fun K hk => hk)) ?_
  refine reg_nil ?_
  refine seq_n ?_
  refine wc_seq ?_
  refine wc_draw (by kernel_rfl) ?_
  refine dreg_q [3] [64] rfl (load_box tab_ok rfl rfl rfl rfl) ?_
  refine dreg_q [26] [] rfl (call_r hOf rfl rfl (arg_e arg_nil) (.inl rfl) (fun _ => rfl)) ?_
  refine dreg_q [4] [72] rfl (load_box tab_ok rfl rfl rfl rfl) ?_
  refine dreg_q [28] [] rfl (call_r hOf2 rfl rfl (arg_e arg_nil) (.inl rfl) (fun _ => rfl)) ?_
  refine dreg_q [27] [] rfl (step_C tab_ok (fun K hk => hk)) ?_
  refine dreg_q [29] [] rfl (step_C tab_ok (fun K hk => hk)) ?_
  refine dreg_end (by kernel_rfl) ?_
  refine seq_n ?_
  refine wc_seq ?_
  refine wc_region ?_
  refine reg_quiet rfl (step_C tab_ok (fun K hk => hk)) ?_
  refine reg_quiet rfl (call_r (of_is _) rfl rfl (arg_e arg_nil) (.inl rfl) (fun _ => rfl)) ?_
  refine reg_quiet rfl (step_C tab_ok (fun K hk => hk)) ?_
  refine reg_quiet rfl (call_r (of_is _) rfl rfl (arg_e arg_nil) (.inl rfl) (fun _ => rfl)) ?_
  refine reg_quiet rfl (call_r hMrg rfl rfl (arg_e (arg_e arg_nil)) (.inl rfl) (fun _ => rfl)) ?_
  refine reg_quiet rfl (step_C tab_ok (fun K hk => hk)) ?_
  refine reg_quiet rfl (step_C tab_ok (fun K hk => hk)) ?_
  refine reg_quiet rfl (step_C tab_ok (fun K hk => hk)) ?_
  refine reg_new (step_C tab_ok (fun K hk => hk)) rfl ?_
  refine reg_store (store_row tab_ok rfl rfl rfl ⟨_, ⟨rfl, rfl, rfl⟩, rfl⟩ rfl) ?_
  refine reg_quiet rfl (step_C tab_ok (fun K hk => hk)) ?_
  refine reg_nil ?_
  refine seq_n ?_
  refine wc_seq ?_
  refine wc_region ?_
  refine reg_quiet rfl (step_C tab_ok (fun K hk => hk)) ?_
  refine reg_quiet rfl (call_r (of_is _) rfl rfl (arg_e arg_nil) (.inl rfl) (fun _ => rfl)) ?_
  refine reg_quiet rfl (call_r hRep rfl rfl (arg_e arg_nil) (.inl rfl) (fun _ => rfl)) ?_
  refine reg_quiet rfl (step_C tab_ok (fun K hk => hk)) ?_
  refine reg_quiet rfl (step_C tab_ok (fun K hk => hk)) ?_
  refine reg_quiet rfl (step_C tab_ok (fun K hk => hk)) ?_
  refine reg_quiet rfl (step_C tab_ok (fun K hk => hk)) ?_
  refine reg_quiet rfl (step_C tab_ok (fun K hk => hk)) ?_
  refine reg_quiet rfl (step_C tab_ok (fun K hk => hk)) ?_
  refine reg_quiet rfl (step_C tab_ok (fun K hk => hk)) ?_
  refine reg_nil ?_
  refine seq_n ?_
  refine wc_seq ?_
  refine wc_region ?_
  refine reg_quiet rfl (step_C tab_ok (fun K hk => hk)) ?_
  refine reg_quiet rfl (call_r (of_is _) rfl rfl (arg_e arg_nil) (.inl rfl) (fun _ => rfl)) ?_
  refine reg_quiet rfl (call_r hRep2 rfl rfl (arg_e arg_nil) (.inl rfl) (fun _ => rfl)) ?_
  refine reg_quiet rfl (step_C tab_ok (fun K hk => hk)) ?_
  refine reg_quiet rfl (step_C tab_ok (fun K hk => hk)) ?_
  refine reg_quiet rfl (step_C tab_ok (fun K hk => hk)) ?_
  refine reg_quiet rfl (step_C tab_ok (fun K hk => hk)) ?_
  refine reg_quiet rfl (step_C tab_ok (fun K hk => hk)) ?_
  refine reg_quiet rfl (step_C tab_ok (fun K hk => hk)) ?_
  refine reg_quiet rfl (step_C tab_ok (fun K hk => hk)) ?_
  refine reg_nil ?_
  refine seq_n ?_
  refine wc_seq ?_
  refine wc_region ?_
  refine reg_quiet rfl (load_box tab_ok rfl rfl rfl rfl) ?_
  refine reg_quiet rfl (call_r hRep3 rfl rfl (arg_d rfl trivial (led_le _) arg_nil) (.inl rfl) (fun _ => rfl)) ?_
  refine reg_quiet rfl (step_C tab_ok (fun K hk => hk)) ?_
  refine reg_quiet rfl (step_C tab_ok (fun K hk => hk)) ?_
  refine reg_quiet rfl (step_C tab_ok (fun K hk => hk)) ?_
  refine reg_quiet rfl (step_C tab_ok (fun K hk => hk)) ?_
  refine reg_quiet rfl (step_C tab_ok (fun K hk => hk)) ?_
  refine reg_quiet rfl (step_C tab_ok (fun K hk => hk)) ?_
  refine reg_quiet rfl (step_C tab_ok (fun K hk => hk)) ?_
  refine reg_nil ?_
  refine seq_n ?_
  refine wc_seq_cut 20 (AV.bool (p || q)) _ rfl ?_ ?_
  · refine reg_quiet rfl (step_C tab_ok (fun K hk => hk)) ?_
    refine reg_quiet rfl (step_C tab_ok (fun K hk => hk)) ?_
    refine reg_split rfl rfl rfl (fun hb => ?_) (fun hb => ?_)
    refine reg_on rfl rfl (by assumption) ?_
    refine reg_quiet rfl (step_C tab_ok (fun K hk => hk)) ?_
    refine reg_quiet rfl (pick_F tab_ok rfl (by assumption) rfl) ?_
    refine reg_quiet rfl (step_C tab_ok (fun K hk => hk)) ?_
    rotate_left
    refine reg_skip rfl rfl (by assumption) rfl rfl ?_
    refine reg_quiet rfl (pick_T tab_ok rfl (by assumption) rfl) ?_
    refine reg_quiet rfl (step_C tab_ok (fun K hk => hk)) ?_
    rotate_left
    all_goals refine reg_cut 5 rfl rfl rfl rfl rfl rfl rfl rfl rfl (AVLe.of_eq ?_)
    all_goals (first | rfl | (clear q5; simp_all; done) | (simp_all; done) | (simp_all; omega))
  refine wc_seq ?_
  refine wc_seq ?_
  refine wc_region ?_
  refine reg_quiet rfl (step_C tab_ok (fun K hk => hk)) ?_
  refine reg_nil ?_
  refine seq_n ?_
  refine wc_block ?_
  refine wc_inv (fun i : Nat => ⟨[(21, .int .i64 i), (20, .bool ((p || q) || cr1 L M i)), (19, .bool r), (10, .d (i6 0)), (9, .ptr 67 []), (8, .d (.arr 20 encUse M)), (7, .d (.arr 20 encUse L)), (2, .int .u8 key)], [(67, some (.box 88 (.d (ledX (L ++ M)))))], 72, Try.f10.ntmps, 64⟩) (fun i => i ≤ L.length) (fun i => L.length - i) 0 [(67, some 200)] (Nat.zero_le _)
    (.of rfl rfl rfl rfl rfl ⟨⟨_, rfl, .refl _⟩, rfl, ⟨_, rfl, AVLe.of_eq (by rw [show cr1 L M 0 = false from rfl, Bool.or_false]; rfl)⟩, rfl, ⟨_, rfl, .refl _⟩, rfl, ⟨_, rfl, .refl _⟩, rfl, ⟨_, rfl, .refl _⟩, rfl, ⟨_, rfl, .refl _⟩, rfl, ⟨_, rfl, .refl _⟩, rfl, ⟨_, rfl, .refl _⟩, rfl, trivial⟩ ⟨⟨rfl, rfl, _, rfl, .refl _⟩, trivial⟩) ?_
  intro i hi
  refine wc_of ?_
  refine wc_seq ?_
  refine wc_seq ?_
  refine wc_region ?_
  refine reg_quiet rfl (step_C tab_ok (fun K hk => hk)) ?_
  refine reg_quiet rfl (step_C tab_ok (fun K hk => hk)) ?_
  refine reg_quiet rfl (len_arr tab_ok rfl rfl) ?_
  refine reg_quiet rfl (step_C tab_ok (fun K hk => hk)) ?_
  refine reg_nil ?_
  refine seq_n ?_
  refine wc_cond rfl (fun h3 => ?_) (fun h3 => ?_)
  · have hlt : i < L.length := by have := of_decide_eq_true h3; omega
    obtain ⟨x, hx⟩ : ∃ u, L[i]? = some u := ⟨_, List.getElem?_eq_getElem hlt⟩
    have hx' : L[((i : Int)).toNat]? = some x := by rw [Int.toNat_natCast]; exact hx
    have hgo := cr1_go (M := M) hx
    refine wc_skip ?_
    refine seq_n ?_
    refine wc_seq ?_
    refine wc_block ?_
    refine wc_seq ?_
    refine wc_region ?_
    refine reg_quiet rfl (step_C tab_ok (fun K hk => hk)) ?_
    refine reg_nil ?_
    refine seq_n ?_
    refine wc_block ?_
    refine wc_inv (fun k : Nat => ⟨[(22, .int .i64 k), (21, .int .i64 i), (20, .bool (((p || q) || cr1 L M i) || cr2 x M k)), (19, .bool r), (10, .d (i6 0)), (9, .ptr 67 []), (8, .d (.arr 20 encUse M)), (7, .d (.arr 20 encUse L)), (2, .int .u8 key)], [(67, some (.box 88 (.d (ledX (L ++ M)))))], 72, Try.f10.ntmps, 64⟩) (fun k => k ≤ M.length) (fun k => M.length - k) 0 [(67, some 67)] (Nat.zero_le _)
      (.of rfl rfl rfl rfl rfl ⟨⟨_, rfl, .refl _⟩, rfl, ⟨_, rfl, .refl _⟩, rfl, ⟨_, rfl, AVLe.of_eq (by rw [show cr2 x M 0 = false from rfl, Bool.or_false]; rfl)⟩, rfl, ⟨_, rfl, .refl _⟩, rfl, ⟨_, rfl, .refl _⟩, rfl, ⟨_, rfl, .refl _⟩, rfl, ⟨_, rfl, .refl _⟩, rfl, ⟨_, rfl, .refl _⟩, rfl, ⟨_, rfl, .refl _⟩, rfl, trivial⟩ ⟨⟨rfl, rfl, _, rfl, .refl _⟩, trivial⟩) ?_
    intro k hk
    refine wc_of ?_
    refine wc_seq ?_
    refine wc_seq ?_
    refine wc_region ?_
    refine reg_quiet rfl (step_C tab_ok (fun K hk => hk)) ?_
    refine reg_quiet rfl (step_C tab_ok (fun K hk => hk)) ?_
    refine reg_quiet rfl (len_arr tab_ok rfl rfl) ?_
    refine reg_quiet rfl (step_C tab_ok (fun K hk => hk)) ?_
    refine reg_nil ?_
    refine seq_n ?_
    refine wc_cond rfl (fun h4 => ?_) (fun h4 => ?_)
    · have hlt2 : k < M.length := by have := of_decide_eq_true h4; omega
      obtain ⟨y, hy⟩ : ∃ u, M[k]? = some u := ⟨_, List.getElem?_eq_getElem hlt2⟩
      have hy' : M[((k : Int)).toNat]? = some y := by rw [Int.toNat_natCast]; exact hy
      have hgo2 := cr2_go (a := x) hy
      cases hc : (((p || q) || cr1 L M i) || cr2 x M k) with
      | true =>
        refine wc_skip ?_
        refine seq_n ?_
        refine wc_seq ?_
        refine wc_block ?_
        refine wc_draw (by kernel_rfl) ?_
        refine dreg_q [20] [] rfl (step_C tab_ok (fun K hk => hk)) ?_
        refine dreg_q [74] [] rfl (step_C tab_ok (fun K hk => hk)) ?_
        refine dreg_offq [75, 7] rfl rfl rfl rfl ?_
        refine dreg_offq [75, 21] rfl rfl rfl rfl ?_
        refine dreg_offq [75, 76, 77] rfl rfl rfl rfl ?_
        refine dreg_offq [75, 78] rfl rfl rfl rfl ?_
        refine dreg_offq [75, 8] rfl rfl rfl rfl ?_
        refine dreg_offq [75, 22] rfl rfl rfl rfl ?_
        refine dreg_offq [75, 80, 81] rfl rfl rfl rfl ?_
        refine dreg_offq [75, 82] rfl rfl rfl rfl ?_
        refine dreg_offq [75, 79, 83] rfl rfl rfl rfl ?_
        refine dreg_q [75, 84] [] rfl (pick_T tab_ok rfl rfl rfl) ?_
        refine dreg_q [85] [] rfl (step_C tab_ok (fun K hk => hk)) ?_
        refine dreg_end (by kernel_rfl) ?_
        refine blk_n ?_
        refine seq_n ?_
        refine wc_region ?_
        refine reg_quiet rfl (step_C tab_ok (fun K hk => hk)) ?_
        refine reg_quiet rfl (add_int tab_ok rfl rfl (wrap_i64 (by omega) (by omega))) ?_
        refine reg_quiet rfl (step_C tab_ok (fun K hk => hk)) ?_
        refine reg_nil ?_
        refine loop_n (k + 1) [(67, some 67)] hlt2 (by omega) ?_
        exact .of rfl rfl rfl rfl rfl ⟨⟨_, rfl, .refl _⟩, rfl, ⟨_, rfl, .refl _⟩, rfl, ⟨_, rfl, AVLe.of_eq (by rw [hgo2, ← Bool.or_assoc, hc]; rfl)⟩, rfl, ⟨_, rfl, .refl _⟩, rfl, ⟨_, rfl, .refl _⟩, rfl, ⟨_, rfl, .refl _⟩, rfl, ⟨_, rfl, .refl _⟩, rfl, ⟨_, rfl, .refl _⟩, rfl, ⟨_, rfl, .refl _⟩, rfl, trivial⟩ ⟨⟨rfl, rfl, _, rfl, .refl _⟩, trivial⟩
      | false =>
        refine wc_skip ?_
        refine seq_n ?_
        refine wc_seq ?_
        refine wc_block ?_
        refine wc_draw (by kernel_rfl) ?_
        refine dreg_q [20] [] rfl (step_C tab_ok (fun K hk => hk)) ?_
        refine dreg_q [74] [] rfl (step_C tab_ok (fun K hk => hk)) ?_
        refine dreg_onq [75, 7] [] rfl rfl rfl rfl (step_C tab_ok (fun K hk => hk)) ?_
        refine dreg_onq [75, 21] [] rfl rfl rfl rfl (step_C tab_ok (fun K hk => hk)) ?_
        refine dreg_onq [75, 76, 77] [] rfl rfl rfl rfl (index_arr tab_ok rfl rfl rfl rfl rfl (by omega) hx') ?_
        refine dreg_onq [75, 78] [] rfl rfl rfl rfl (load_i tab_ok rfl rfl) ?_
        refine dreg_onq [75, 8] [] rfl rfl rfl rfl (step_C tab_ok (fun K hk => hk)) ?_
        refine dreg_onq [75, 22] [] rfl rfl rfl rfl (step_C tab_ok (fun K hk => hk)) ?_
        refine dreg_onq [75, 80, 81] [] rfl rfl rfl rfl (index_arr tab_ok rfl rfl rfl rfl rfl (by omega) hy') ?_
        refine dreg_onq [75, 82] [] rfl rfl rfl rfl (load_i tab_ok rfl rfl) ?_
        refine dreg_onq [75, 79, 83] [] rfl rfl rfl rfl (call_r (clash_is x y) rfl rfl (arg_e (arg_e arg_nil)) (.inl rfl) (fun _ => rfl)) ?_
        refine dreg_q [75, 84] [] rfl (pick_F tab_ok rfl rfl rfl) ?_
        refine dreg_q [85] [] rfl (step_C tab_ok (fun K hk => hk)) ?_
        refine dreg_end (by kernel_rfl) ?_
        refine blk_n ?_
        refine seq_n ?_
        refine wc_region ?_
        refine reg_quiet rfl (step_C tab_ok (fun K hk => hk)) ?_
        refine reg_quiet rfl (add_int tab_ok rfl rfl (wrap_i64 (by omega) (by omega))) ?_
        refine reg_quiet rfl (step_C tab_ok (fun K hk => hk)) ?_
        refine reg_nil ?_
        refine loop_n (k + 1) [(67, some 67)] hlt2 (by omega) ?_
        exact .of rfl rfl rfl rfl rfl ⟨⟨_, rfl, .refl _⟩, rfl, ⟨_, rfl, .refl _⟩, rfl, ⟨_, rfl, AVLe.of_eq (by rw [hgo2, ← Bool.or_assoc, hc]; rfl)⟩, rfl, ⟨_, rfl, .refl _⟩, rfl, ⟨_, rfl, .refl _⟩, rfl, ⟨_, rfl, .refl _⟩, rfl, ⟨_, rfl, .refl _⟩, rfl, ⟨_, rfl, .refl _⟩, rfl, ⟨_, rfl, .refl _⟩, rfl, trivial⟩ ⟨⟨rfl, rfl, _, rfl, .refl _⟩, trivial⟩
    · have he : k = M.length := by have := of_decide_eq_false h4; omega
      subst he
      refine wc_exit ?_
      refine seq_x ?_
      refine loop_x ?_
      refine blk_x ?_
      refine blk_n ?_
      refine seq_n ?_
      refine wc_region ?_
      refine reg_quiet rfl (step_C tab_ok (fun K hk => hk)) ?_
      refine reg_quiet rfl (add_int tab_ok rfl rfl (wrap_i64 (by omega) (by omega))) ?_
      refine reg_quiet rfl (step_C tab_ok (fun K hk => hk)) ?_
      refine reg_nil ?_
      refine loop_n (i + 1) [(67, some 67)] hlt (by omega) ?_
      exact .of rfl rfl rfl rfl rfl ⟨⟨_, rfl, .refl _⟩, rfl, ⟨_, rfl, AVLe.of_eq (by rw [hgo, ← Bool.or_assoc]; rfl)⟩, rfl, ⟨_, rfl, .refl _⟩, rfl, ⟨_, rfl, .refl _⟩, rfl, ⟨_, rfl, .refl _⟩, rfl, ⟨_, rfl, .refl _⟩, rfl, ⟨_, rfl, .refl _⟩, rfl, ⟨_, rfl, .refl _⟩, rfl, trivial⟩ ⟨⟨rfl, rfl, _, rfl, .refl _⟩, trivial⟩
  · have he : i = L.length := by have := of_decide_eq_false h3; omega
    subst he
    have q94 : (r != ((p || q) || cr1 L M L.length)) = false := by rw [hr]; simp
    have q109 : (!decide (((cntL (L ++ M) (List.replicate 15 0 ++ [key.tmod 4]) : Nat) : Int) = ((cntL L (List.replicate 15 0 ++ [key.tmod 4]) : Nat) : Int) + ((cntL M (List.replicate 15 0 ++ [key.tmod 4]) : Nat) : Int))) = false := by
      rw [c3]; simp
    refine wc_exit ?_
    refine seq_x ?_
    refine loop_x ?_
    refine blk_x ?_
    refine seq_n ?_
    refine wc_seq ?_
    refine wc_region ?_
    refine reg_quiet rfl (step_C tab_ok (fun K hk => hk)) ?_
    refine reg_quiet rfl (rem_int tab_ok rfl rfl (by omega)) ?_
    refine reg_quiet rfl ((build_arr_of tab_ok rfl rfl rfl rfl rfl rfl rfl).val_le (DLe.chain_vec (enc := encU8) lu8_len (List.replicate 15 0 ++ [key.tmod 4]) _ rfl) rfl) ?_
    refine reg_new (step_C tab_ok (fun K hk => hk)) rfl ?_
    refine reg_store (store_row tab_ok rfl rfl rfl ⟨_, ⟨rfl, rfl, rfl⟩, rfl⟩ rfl) ?_
    refine reg_nil ?_
    refine seq_n ?_
    refine wc_seq ?_
    refine wc_seq ?_
    refine wc_draw (by kernel_rfl) ?_
    refine dreg_q [10] [] rfl (step_C tab_ok (fun K hk => hk)) ?_
    refine dreg_q [89] [] rfl (step_C tab_ok (fun K hk => hk)) ?_
    refine dreg_q [90] [] rfl (step_C tab_ok (fun K hk => hk)) ?_
    refine dreg_onq [91, 19] [] rfl rfl rfl rfl (step_C tab_ok (fun K hk => hk)) ?_
    refine dreg_onq [91, 20] [] rfl rfl rfl rfl (step_C tab_ok (fun K hk => hk)) ?_
    refine dreg_onq [91, 92, 93] [] rfl rfl rfl rfl (step_C tab_ok (fun K hk => hk)) ?_
    refine dreg_q [91, 94] [] rfl (pick_F tab_ok rfl rfl rfl) ?_
    refine dreg_q [95] [] rfl (step_C tab_ok (fun K hk => hk)) ?_
    refine dreg_onq [96, 9] [67] rfl rfl (by assumption) rfl (load_box tab_ok rfl rfl rfl rfl) ?_
    refine dreg_onq [96, 23] [128] rfl rfl (by assumption) rfl (load_box tab_ok rfl rfl rfl rfl) ?_
    refine dreg_onq [96, 97, 98] [] rfl rfl (by assumption) rfl (call_r hC3 rfl rfl (arg_d rfl trivial (led_le _) (arg_e arg_nil)) (.inl rfl) (fun _ => rfl)) ?_
    refine dreg_onq [96, 7] [] rfl rfl (by assumption) rfl (step_C tab_ok (fun K hk => hk)) ?_
    refine dreg_onq [96, 100] [] rfl rfl (by assumption) rfl (call_r (of_is _) rfl rfl (arg_e arg_nil) (.inl rfl) (fun _ => rfl)) ?_
    refine dreg_onq [96, 23] [128] rfl rfl (by assumption) rfl (load_box tab_ok rfl rfl rfl rfl) ?_
    refine dreg_onq [96, 101, 102] [] rfl rfl (by assumption) rfl (call_r hC1 rfl rfl (arg_e (arg_e arg_nil)) (.inl rfl) (fun _ => rfl)) ?_
    refine dreg_onq [96, 8] [] rfl rfl (by assumption) rfl (step_C tab_ok (fun K hk => hk)) ?_
    refine dreg_onq [96, 104] [] rfl rfl (by assumption) rfl (call_r (of_is _) rfl rfl (arg_e arg_nil) (.inl rfl) (fun _ => rfl)) ?_
    refine dreg_onq [96, 23] [128] rfl rfl (by assumption) rfl (load_box tab_ok rfl rfl rfl rfl) ?_
    refine dreg_onq [96, 105, 106] [] rfl rfl (by assumption) rfl (call_r hC2 rfl rfl (arg_e (arg_e arg_nil)) (.inl rfl) (fun _ => rfl)) ?_
    refine dreg_onq [96, 103, 107] [] rfl rfl (by assumption) rfl (add_int tab_ok rfl rfl (wrap_i64 (by omega) (by omega))) ?_
    refine dreg_onq [96, 99, 108] [] rfl rfl (by assumption) rfl (step_C tab_ok (fun K hk => hk)) ?_
    refine dreg_q [96, 109] [] rfl (pick_F tab_ok rfl (by assumption) rfl) ?_
    refine dreg_end (by kernel_rfl) ?_
    refine seq_n ?_
    refine wc_false rfl (by assumption) ?_
    refine wc_skip ?_
    refine seq_n ?_
    refine wc_seq ?_
    refine wc_region ?_
    refine reg_quiet rfl (step_C tab_ok (fun K hk => hk)) ?_
    refine reg_nil ?_
    refine seq_n ?_
    refine wc_seq ?_
    refine wc_seq ?_
    refine wc_region ?_
    refine reg_quiet rfl (step_C tab_ok (fun K hk => hk)) ?_
    refine reg_nil ?_
    refine seq_n ?_
    refine wc_block ?_
    refine wc_inv (fun i : Nat => ⟨[(25, .int .i64 i), (24, .int .i64 (cntL (L.take i) (List.replicate 15 0 ++ [key.tmod 4]))), (23, .ptr 68 []), (7, .d (.arr 20 encUse L))], [(68, some (.box 76 (.d (encKey (List.replicate 15 0 ++ [key.tmod 4])))))], 72, Try.f10.ntmps, 64⟩) (fun i => i ≤ L.length) (fun i => L.length - i) 0 [(68, some 128)] (Nat.zero_le _)
      (.of rfl rfl rfl rfl rfl ⟨⟨_, rfl, .refl _⟩, rfl, ⟨_, rfl, .refl _⟩, rfl, ⟨_, rfl, .refl _⟩, rfl, ⟨_, rfl, .refl _⟩, rfl, trivial⟩ ⟨⟨rfl, rfl, _, rfl, .refl _⟩, trivial⟩) ?_
    intro i hi
    have c4 := cntL_le (L.take i) (List.replicate 15 0 ++ [key.tmod 4])
    rw [List.length_take] at c4
    refine wc_of ?_
    refine wc_seq ?_
    refine wc_seq ?_
    refine wc_region ?_
    refine reg_quiet rfl (step_C tab_ok (fun K hk => hk)) ?_
    refine reg_quiet rfl (step_C tab_ok (fun K hk => hk)) ?_
    refine reg_quiet rfl (len_arr tab_ok rfl rfl) ?_
    refine reg_quiet rfl (step_C tab_ok (fun K hk => hk)) ?_
    refine reg_nil ?_
    refine seq_n ?_
    refine wc_cond rfl (fun h3 => ?_) (fun h3 => ?_)
    · have hlt : i < L.length := by have := of_decide_eq_true h3; omega
      obtain ⟨x, hx⟩ : ∃ u, L[i]? = some u := ⟨_, List.getElem?_eq_getElem hlt⟩
      have hx' : L[((i : Int)).toNat]? = some x := by rw [Int.toNat_natCast]; exact hx
      have hgo := cntL_go (k := (List.replicate 15 0 ++ [key.tmod 4])) hx
      cases hc : decide (x.key = (List.replicate 15 0 ++ [key.tmod 4])) with
      | true =>
        rw [if_pos hc] at hgo
        refine wc_skip ?_
        refine seq_n ?_
        refine wc_seq ?_
        refine wc_block ?_
        refine wc_seq ?_
        refine wc_draw (by kernel_rfl) ?_
        refine dreg_q [7] [] rfl (step_C tab_ok (fun K hk => hk)) ?_
        refine dreg_q [25] [] rfl (step_C tab_ok (fun K hk => hk)) ?_
        refine dreg_q [117, 118] [] rfl (index_arr tab_ok rfl rfl rfl rfl rfl (by omega) hx') ?_
        refine dreg_q [119] [] rfl (step_C tab_ok (fun K hk => hk)) ?_
        refine dreg_q [120] [] rfl (load_i tab_ok rfl rfl) ?_
        refine dreg_q [23] [68] rfl (load_box tab_ok rfl rfl rfl rfl) ?_
        refine dreg_q [121, 122] [] rfl (eql_data rfl rfl rfl rfl (by kernel_rfl) (by decide) (lkey_eq _ _)) ?_
        refine dreg_end (by kernel_rfl) ?_
        refine seq_n ?_
        refine wc_true rfl (by assumption) ?_
        refine wc_region ?_
        refine reg_quiet rfl (step_C tab_ok (fun K hk => hk)) ?_
        refine reg_quiet rfl (add_int tab_ok rfl rfl (wrap_i64 (by omega) (by omega))) ?_
        refine reg_quiet rfl (step_C tab_ok (fun K hk => hk)) ?_
        refine reg_nil ?_
        refine blk_n ?_
        refine seq_n ?_
        refine wc_region ?_
        refine reg_quiet rfl (step_C tab_ok (fun K hk => hk)) ?_
        refine reg_quiet rfl (add_int tab_ok rfl rfl (wrap_i64 (by omega) (by omega))) ?_
        refine reg_quiet rfl (step_C tab_ok (fun K hk => hk)) ?_
        refine reg_nil ?_
        refine loop_n (i + 1) [(68, some 68)] hlt (by omega) ?_
        exact .of rfl rfl rfl rfl rfl ⟨⟨_, rfl, .refl _⟩, rfl, ⟨_, rfl, AVLe.of_eq (by rw [hgo]; rfl)⟩, rfl, ⟨_, rfl, .refl _⟩, rfl, ⟨_, rfl, .refl _⟩, rfl, trivial⟩ ⟨⟨rfl, rfl, _, rfl, .refl _⟩, trivial⟩
      | false =>
        rw [if_neg (by rw [hc]; decide)] at hgo
        refine wc_skip ?_
        refine seq_n ?_
        refine wc_seq ?_
        refine wc_block ?_
        refine wc_seq ?_
        refine wc_draw (by kernel_rfl) ?_
        refine dreg_q [7] [] rfl (step_C tab_ok (fun K hk => hk)) ?_
        refine dreg_q [25] [] rfl (step_C tab_ok (fun K hk => hk)) ?_
        refine dreg_q [117, 118] [] rfl (index_arr tab_ok rfl rfl rfl rfl rfl (by omega) hx') ?_
        refine dreg_q [119] [] rfl (step_C tab_ok (fun K hk => hk)) ?_
        refine dreg_q [120] [] rfl (load_i tab_ok rfl rfl) ?_
        refine dreg_q [23] [68] rfl (load_box tab_ok rfl rfl rfl rfl) ?_
        refine dreg_q [121, 122] [] rfl (eql_data rfl rfl rfl rfl (by kernel_rfl) (by decide) (lkey_eq _ _)) ?_
        refine dreg_end (by kernel_rfl) ?_
        refine seq_n ?_
        refine wc_false rfl (by assumption) ?_
        refine wc_skip ?_
        refine blk_n ?_
        refine seq_n ?_
        refine wc_region ?_
        refine reg_quiet rfl (step_C tab_ok (fun K hk => hk)) ?_
        refine reg_quiet rfl (add_int tab_ok rfl rfl (wrap_i64 (by omega) (by omega))) ?_
        refine reg_quiet rfl (step_C tab_ok (fun K hk => hk)) ?_
        refine reg_nil ?_
        refine loop_n (i + 1) [(68, some 68)] hlt (by omega) ?_
        exact .of rfl rfl rfl rfl rfl ⟨⟨_, rfl, .refl _⟩, rfl, ⟨_, rfl, AVLe.of_eq (by rw [hgo]; rfl)⟩, rfl, ⟨_, rfl, .refl _⟩, rfl, ⟨_, rfl, .refl _⟩, rfl, trivial⟩ ⟨⟨rfl, rfl, _, rfl, .refl _⟩, trivial⟩
    · have he : i = L.length := by have := of_decide_eq_false h3; omega
      subst he
      have q131 : decide (((cntL L (List.replicate 15 0 ++ [key.tmod 4]) : Nat) : Int) = ((cntL (L.take L.length) (List.replicate 15 0 ++ [key.tmod 4]) : Nat) : Int)) = true := by rw [List.take_length]; exact decide_eq_true rfl
      refine wc_exit ?_
      refine seq_x ?_
      refine loop_x ?_
      refine blk_x ?_
      refine seq_n ?_
      refine wc_seq ?_
      refine wc_draw (by kernel_rfl) ?_
      refine dreg_q [7] [] rfl (step_C tab_ok (fun K hk => hk)) ?_
      refine dreg_q [126] [] rfl (call_r (of_is _) rfl rfl (arg_e arg_nil) (.inl rfl) (fun _ => rfl)) ?_
      refine dreg_q [23] [68] rfl (load_box tab_ok rfl rfl rfl rfl) ?_
      refine dreg_q [127, 128] [] rfl (call_r hC1 rfl rfl (arg_e (arg_e arg_nil)) (.inl rfl) (fun _ => rfl)) ?_
      refine dreg_q [24] [] rfl (step_C tab_ok (fun K hk => hk)) ?_
      refine dreg_q [129, 130] [] rfl (step_C tab_ok (fun K hk => hk)) ?_
      refine dreg_q [131] [] rfl (step_C tab_ok (fun K hk => hk)) ?_
      refine dreg_onq [132] [] rfl rfl (by assumption) rfl (call_r lives_is rfl rfl arg_nil (.inl rfl) (fun _ => rfl)) ?_
      refine dreg_q [132, 133] [] rfl (pick_T tab_ok rfl (by assumption) rfl) ?_
      refine dreg_q [134] [] rfl (step_C tab_ok (fun K hk => hk)) ?_
      refine dreg_end (by kernel_rfl) ?_
      refine seq_n ?_
      refine wc_ret ?_
      exact ⟨trivial, [], .of rfl rfl rfl rfl rfl ⟨⟨_, rfl, AVLe.of_eq rfl⟩, rfl, trivial⟩ trivial⟩
theorem lmerge_is (lx ly : List R4) (key : Int) (hx : ∀ x ∈ lx, x.Ok) (hy : ∀ x ∈ ly, x.Ok) (hk : 0 ≤ key ∧ key ≤ 255) : FnIs Try.prog 10 [.d (encUU lx), .d (encUU ly), .int .u8 key] [] (.bool true) [] := by
  have h1 : (ofU lx).length ≤ 60 := by rw [ofU_len]; omega
  have h2 : (ofU ly).length ≤ 60 := by rw [ofU_len]; omega
  refine lmerge_core lx ly (ofU lx) (ofU ly) key h1 h2 (ofU_chk hx) (ofU_chk hy) (chk_of (fun x h => ?_) (by rw [List.length_append]; omega)) hk (uof_is lx hx) (uof_is ly hy) _ _ _ _ _ _ _ _ _ rfl rfl rfl ?_
  · rcases List.mem_append.1 h with h | h
    · exact ofU_ok hx x h
    · exact ofU_ok hy x h
  · have := hasC_app (ofU lx) (ofU ly)
    rw [show crossC (ofU lx) (ofU ly) = cr1 (ofU lx) (ofU ly) (ofU lx).length by rw [cr1, List.take_length]; rfl] at this
    exact this
end Go.Proofs.Ytjpjchohpjbknaa

/- Ledgers: the laws' arguments: plain data. -/
namespace Go.Proofs.Ytjpjchohpjbknaa
open Go.Eng
theorem four_of {l : List Int} (h : l.length = 4) : l = [l.getD 0 0, l.getD 1 0, l.getD 2 0, l.getD 3 0] := by
  match l, h with
  | [a, b, c, d], _ => rfl
theorem opens_r4 : Opens Try.prog 106 4 encR4 R4.Ok :=
  Opens.map (opens_array (P := Try.prog) Try.underlying106 (by kernel_rfl) (by kernel_rfl) (opens_int (P := Try.prog) Try.underlying5))
    (fun l => ⟨l.getD 0 0, l.getD 1 0, l.getD 2 0, l.getD 3 0⟩) (fun l h => by
      show D.vec 4 1 encU8 [l.getD 0 0, l.getD 1 0, l.getD 2 0, l.getD 3 0] = _
      rw [← four_of h.1]
      rfl) (fun l h => by
      have key : ∀ i, i < 4 → 0 ≤ l.getD i 0 ∧ l.getD i 0 ≤ 255 := fun i hi => by
        have hl : i < l.length := by rw [h.1]; exact hi
        rw [List.getD_eq_getElem?_getD, List.getElem?_eq_getElem hl]
        exact lu8_of (h.2 _ (List.getElem_mem hl))
      exact ⟨key 0 (by decide), key 1 (by decide), key 2 (by decide), key 3 (by decide)⟩)
theorem opens_uu : Opens Try.prog 97 1 encUU fun l => ∀ r ∈ l, r.Ok :=
  Opens.map (opens_struct (P := Try.prog) Try.underlying97 (by kernel_rfl) (fun _ => rfl) (opensF_cons rfl (by kernel_rfl) (opens_slice (P := Try.prog) Try.underlying95 (by kernel_rfl) opens_r4) opensF_nil))
    (fun q => q.1) (fun _ _ => rfl) (fun _ h => h.1.2)
end Go.Proofs.Ytjpjchohpjbknaa

/- LedgersMerge: the walked law is the statement. -/
namespace Go.Proofs.Ytjpjchohpjbknaa
open Go.ChangeShapes Go.WideShapes Go.ChangeAt Go.RowKit Go.Eng
theorem own : ownKnob Try.prog.godebug = none := by kernel_rfl
theorem laidOut : laidOutB Try.prog = true := by kernel_rfl
set_option maxRecDepth 100000 in
theorem lifted (os : Os) (started : os.Started) (H : Type) (enc : TypeId × Value → H) :
    ReturnsInHanded {} Try.checked os 10 .any (Rows.ledgersMergeSpec.pre6 enc Try.prog Try.f10 Rows.ledgersMergeRow.domain false) (Rows.ledgersMergeSpec.post enc Try.prog Try.f10 false true false false) := by
  refine returnsInHanded_of_change (C := Try.checked) own started (by kernel_rfl) Try.func10
    (ChangeSpec.witness6 (enc := enc) (C := Try.checked) false ⟨#[], #[(.agg #[.slice none 0 0]), (.agg #[.slice none 0 0]), (.int .u8 0)], []⟩ 8 (by kernel_rfl) (by kernel_rfl) (by kernel_rfl) (by kernel_rfl)) ?_
  intro W base args ds gs before hval0 hW hcnd _
  have hval : ∀ (j : Nat) t v, Try.f10.params[j]? = some t → args[j]? = some v → Value.okWide Try.prog W .any base t v := hval0
  have hW' := hW
  obtain ⟨p, q, hA0, hV, rfl, hfz, hnd⟩ := hW
  have hA : DataW.TrodAll enc Try.prog W 0 (fun _ => true) true Try.f10.params.toList args.toList ds p := hA0
  rw [Try.params10] at hA hval
  obtain ⟨v0, vs0, d0, ds0, p0, q0, hargs, rfl, rfl, h0, r0⟩ := trodAll_cons hA
  obtain ⟨v1, vs1, d1, ds1, p1, q1, rfl, rfl, rfl, h1, r1⟩ := trodAll_cons r0
  obtain ⟨v2, vs2, d2, ds2, p2, q2, rfl, rfl, rfl, h2, r2⟩ := trodAll_cons r1
  obtain ⟨rfl, rfl, rfl⟩ := trodAll_nil r2
  obtain rfl : args = #[v0, v1, v2] := Array.ext' (by simpa using hargs)
  obtain ⟨rfl, rfl⟩ := trodVars_none hV
  have k0 := h0
  have lt0 : ∀ x ∈ p0, x.block < W.heap.size := by obtain ⟨m, hm⟩ := k0; exact DataW.trod_lt m _ _ _ hm
  obtain ⟨fuel0, hfu0⟩ := h0
  obtain ⟨x0, e0, _, w0⟩ := opens_uu H enc W _ _ fuel0 _ _ hfu0
  obtain ⟨cs0, hcs0, _⟩ := okWide_struct Try.underlying97 (hval 0 97 v0 rfl rfl)
  have rel0 : RelV (fun _ => none) W (fun _ => False) (.d (encUU x0)) v0 := e0.relV ⟨fun _ => rfl, fun _ => ⟨cs0, hcs0⟩⟩
  have k1 := h1
  have lt1 : ∀ x ∈ p1, x.block < W.heap.size := by obtain ⟨m, hm⟩ := k1; exact DataW.trod_lt m _ _ _ hm
  obtain ⟨fuel1, hfu1⟩ := h1
  obtain ⟨x1, e1, _, w1⟩ := opens_uu H enc W _ _ fuel1 _ _ hfu1
  obtain ⟨cs1, hcs1, _⟩ := okWide_struct Try.underlying97 (hval 1 97 v1 rfl rfl)
  have rel1 : RelV (fun _ => none) W (fun _ => False) (.d (encUU x1)) v1 := e1.relV ⟨fun _ => rfl, fun _ => ⟨cs1, hcs1⟩⟩
  have k2 := h2
  have lt2 : ∀ x ∈ p2, x.block < W.heap.size := by obtain ⟨m, hm⟩ := k2; exact DataW.trod_lt m _ _ _ hm
  obtain ⟨x2, e2, _, w2⟩ : ∃ m : Int, Enc W (fun _ => False) (.sc (.int .u8 m)) v2.cells.toList ∧ v2.cells.toList.length = 1 ∧ (Lit.int .u8 m).wf = true := by obtain ⟨fuel, hfu⟩ := h2; exact opens_int (P := Try.prog) Try.underlying5 H enc W _ _ fuel _ _ hfu
  obtain ⟨m2, hcs2⟩ := okWide_int Try.underlying5 (hval 2 5 v2 rfl rfl)
  have rel2 : RelV (fun _ => none) W (fun _ => False) (.d (.sc (.int .u8 x2))) v2 := e2.relV ⟨fun ⟨c, hc⟩ => (by rw [hcs2] at hc; cases hc), fun hc => (by cases hc)⟩
  clear hA0 hval0
  refine (law_calls (lmerge_is x0 x1 x2 w0 w1 (lu8_of w2)) (W := W) (args := #[v0, v1, v2]) ⟨v0, [v1, v2], rfl, ⟨rel0, trivial⟩, ⟨v1, [v2], rfl, ⟨rel1, trivial⟩, ⟨v2, [], rfl, ⟨rel2, trivial⟩, rfl⟩⟩⟩).mono fun e W' ⟨he, bel⟩ => ?_
  subst he
  exact ⟨_, rfl, _, _, _, [], _, [], hW', trodAll_mk1 (shut_bool Try.underlying4 _), (trodAll_cons_mk (Below.trod laidOut (by kernel_rfl) (of_decide_eq_true (by kernel_rfl)) k0 bel lt0) (trodAll_cons_mk (Below.trod laidOut (by kernel_rfl) (of_decide_eq_true (by kernel_rfl)) k1 bel lt1) (trodAll_cons_mk (Below.trod laidOut (by kernel_rfl) (of_decide_eq_true (by kernel_rfl)) k2 bel lt2) trodAll_mk0))), rfl, bel.frame _, fun h => by cases h⟩

theorem over : Rows.ledgersMergeRow.holds Try.pinned (OpenSpec.ofChange Rows.ledgersMergeSpec) :=
  OpenClaim.holds_of_wide 10 Try.f10 rfl rfl rfl rfl rfl rfl rfl ⟨rfl, rfl, rfl, rfl, rfl⟩ rfl rfl rfl rfl rfl (by kernel_rfl) Try.func10 (by kernel_rfl)
    (of_decide_eq_true (by kernel_rfl)) (by unfold Func.isWrapper; first | (rw [if_pos (by decide +kernel)]; kernel_rfl) | (rw [if_neg (by decide +kernel)]; exact ⟨rfl, rfl⟩))
    (fun os started H enc _ => lifted os started H enc)
theorem ledgersMerge_holds : Rows.LedgersMergeSaid := over
end Go.Proofs.Ytjpjchohpjbknaa
