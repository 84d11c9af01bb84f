/- the text of a ledger is that of the definition, and is parsed as the ledger -/
import Derived.Test.YtjpjchohpjbknaaLE
import Derived.Test.YtjpjchohpjbknaaRows
import Derived.Test.YtjpjchohpjbknaaLD

set_option linter.unusedVariables false
set_option linter.unusedSimpArgs false

/- Engine: bytes as a string. -/
namespace Go.Eng
open Go.RowKit
theorem strOf_acc : ∀ (l : List UInt8) (acc : ByteArray), (l.map fun b => (b.toNat : Int)).foldl (fun r n => r.push (UInt8.ofNat n.toNat)) acc = ⟨acc.data ++ l.toArray⟩
  | [], acc => by simp
  | b :: l, acc => by
    rw [List.map_cons, List.foldl_cons, strOf_acc l]
    have : UInt8.ofNat ((b.toNat : Int)).toNat = b := by simp
    rw [this]
    apply ByteArray.ext
    apply Array.ext'
    simp [ByteArray.push]
theorem strOf_byI (l : List UInt8) : strOf (byI l) = mkS l := by
  rw [strOf, byI, strOf_acc l]
  apply ByteArray.ext
  simp [mkS]
section
variable {P : Program} {T : Tab} {n : Nat} {env : Env} {h : Upds}
theorem append_arrL (hT : TabOk P T) {t e r L : Nat} {re : TyR} {s : Nat} {ex : Bool} {α : Type} {enc : α → D} {xs ys : List α} {x y : Operand} (ht : tdesc T t = some (.slice e)) (he : lk T e = some re) (hs : Nat.beq re.size s = true) (hs0 : Nat.blt 0 s = true)
    (hx : evalA env x = some (.own r 0 L s none)) (hL : L = xs.length) (hrow : lookH h r = some (.ds e s ex enc xs)) (hy : evalA env y = some (.d (.arr s enc ys))) (hys : 0 < ys.length)
    (hlen : xs.length + ys.length ≤ 1048576) (hbytes : Nat.ble re.bytes 134217728 = true) :
    StepIs P (.call { callee := .builtin .append, args := #[x, y], argTypes := #[t, t] }) env h n (some (.own n 0 (xs.length + ys.length) s none)) [(n, some (.ds e s false enc (xs ++ ys))), (r, none)] := by
  subst hL
  exact append_arr hT ht he hs hs0 hx hrow hy hys hlen hbytes
theorem append_litsL (hT : TabOk P T) {t e r r2 m L : Nat} {re : TyR} {s : Nat} {ex ex2 : Bool} {cap2 : Option Nat} {α : Type} {enc : α → D} {xs : List α} {x y : Operand} (ys : List α) (ht : tdesc T t = some (.slice e)) (he : lk T e = some re) (hs : Nat.beq re.size s = true) (hs0 : Nat.blt 0 s = true)
    (hx : evalA env x = some (.own r 0 L s none)) (hL : L = xs.length) (hrow : lookH h r = some (.ds e s ex enc xs)) (hy : evalA env y = some (.own r2 0 m s cap2)) (hrow2 : lookH h r2 = some (.lits e s m ex2 (dsAV (ys.map enc)))) (hm : ys.length = m) (hsz : ∀ x ∈ ys, (enc x).size = s) (hp : 0 < m)
    (hlen : xs.length + ys.length ≤ 1048576) (hbytes : Nat.ble re.bytes 134217728 = true) :
    StepIs P (.call { callee := .builtin .append, args := #[x, y], argTypes := #[t, t] }) env h n (some (.own n 0 (xs.length + ys.length) s none)) [(n, some (.ds e s false enc (xs ++ ys))), (r, none)] := by
  subst hL
  exact append_lits hT ys ht he hs hs0 hx hrow hy hrow2 hm hsz hp hlen hbytes
end
end Go.Eng

/- Ledgers: a result that is a truth value. -/
namespace Go.Proofs.Ytjpjchohpjbknaa
open Go.Eng
theorem lbool_plain (b : Bool) : PlainRes (.bool b) [] := .of trivial plain_rows_nil
end Go.Proofs.Ytjpjchohpjbknaa

/- Ledgers: the definition's bytes of a use, and its line. -/
namespace Go.Proofs.Ytjpjchohpjbknaa
open Go.Eng
set_option maxHeartbeats 4000000
set_option maxRecDepth 50000
attribute [local irreducible] WC RegS RegD SeqQ BlkQ ScoQ RegK CutK Sat SatN FnIs LoopQ StepIs OpIs
theorem u8_rem (n : Nat) : IntKind.u8.wrap ((n : Int).tmod 256) = ((n.toUInt8).toNat : Int) := by
  rw [show (256 : Int) = ((256 : Nat) : Int) from rfl, ← Int.ofNat_tmod n 256, u8_wrap]
  simp
theorem quo_pow (v k : Nat) : IntKind.u64.wrap (((v / 256 ^ k : Nat) : Int).tdiv 256) = ((v / 256 ^ (k + 1) : Nat) : Int) ∨ 18446744073709551616 ≤ v := by
  by_cases h : v < 18446744073709551616
  · left
    have h1 : v / 256 ^ k ≤ v := Nat.div_le_self _ _
    have e : ((v / 256 ^ k : Nat) : Int).tdiv 256 = ((v / 256 ^ k / 256 : Nat) : Int) := by rw [show (256 : Int) = ((256 : Nat) : Int) from rfl, ← Int.ofNat_tdiv]
    rw [e, Nat.div_div_eq_div_mul, ← Nat.pow_succ]
    have h2 : v / 256 ^ (k + 1) ≤ v := Nat.div_le_self _ _
    generalize v / 256 ^ (k + 1) = z at *
    exact wrap_u64 (by omega) (by omega)
  · exact .inr (by omega)
theorem refput_own (v m : Nat) (h0 : 0 < m) (hm : m ≤ 8) (hv : v < 18446744073709551616) : FnIs Try.prog 82 [.int .u64 v, .int .i64 m] [] (.own 64 0 m 1 none) [(64, .ds 5 1 true encU8 (byI (putN m v)))] := by
  have w10 : IntKind.i64.wrap (((m : Nat) : Int) - 1) = ((m : Nat) : Int) - 1 - (0 : Nat) := by rw [wrap_i64 (by omega) (by omega)]; omega
  refine fnIs_of tab_ok Try.func82 rfl rfl rfl ?_
  refine wc_seq ?_
  refine wc_region ?_
  refine reg_quiet rfl (step_C tab_ok (fun K hk => hk)) ?_
  refine reg_nil ?_
  refine seq_n ?_
  refine wc_seq ?_
  refine wc_region ?_
  refine reg_quiet rfl (step_C tab_ok (fun K hk => hk)) ?_
  refine reg_new (make_full (enc := encU8) (s := 1) (N := m) tab_ok 0 rfl rfl rfl rfl rfl rfl rfl (by omega) rfl) rfl ?_
  refine reg_quiet rfl (step_C tab_ok (fun K hk => hk)) ?_
  refine reg_nil ?_
  refine seq_n ?_
  refine wc_seq ?_
  refine wc_seq ?_
  refine wc_region ?_
  refine reg_quiet rfl (step_C tab_ok (fun K hk => hk)) ?_
  refine reg_quiet rfl (sub_int (m := ((m : Nat) : Int) - 1 - (0 : Nat)) tab_ok rfl rfl w10) ?_
  refine reg_quiet rfl (step_C tab_ok (fun K hk => hk)) ?_
  refine reg_nil ?_
  refine seq_n ?_
  refine wc_block ?_
  refine wc_inv (fun k : Nat => ⟨[(6, .int .i64 (((m : Nat) : Int) - 1 - k)), (5, .own 66 0 m 1 none), (0, .int .u64 ((v / 256 ^ k : Nat) : Int))], [(66, some (.ds 5 1 true encU8 (putX m k v)))], 72, Try.f82.ntmps, 64⟩) (fun k => k ≤ m) (fun k => m - k) 0 [(66, some 80)] (Nat.zero_le _)
    (.of rfl rfl rfl rfl rfl ⟨⟨_, rfl, .refl _⟩, rfl, ⟨_, rfl, .refl _⟩, rfl, ⟨_, rfl, AVLe.of_eq (by simp; rfl)⟩, rfl, trivial⟩ ⟨⟨rfl, rfl, _, rfl, RowLe.of_eq (by rw [show putX m 0 v = List.replicate m 0 by simp [putX, putN, byI]]; rfl)⟩, trivial⟩) ?_
  intro k hk
  refine wc_of ?_
  refine wc_seq ?_
  refine wc_seq ?_
  refine wc_region ?_
  refine reg_quiet rfl (step_C tab_ok (fun K hk => hk)) ?_
  refine reg_quiet rfl (step_C tab_ok (fun K hk => hk)) ?_
  refine reg_nil ?_
  refine seq_n ?_
  refine wc_cond rfl (fun h3 => ?_) (fun h3 => ?_)
  · have hlt : k < m := by have := of_decide_eq_true h3; omega
    have w14 : IntKind.i64.wrap (((m : Nat) : Int) - 1 - k - 1) = ((m : Nat) : Int) - 1 - (k + 1 : Nat) := by rw [wrap_i64 (by omega) (by omega)]; omega
    have w22 : IntKind.u64.wrap (((v / 256 ^ k : Nat) : Int).tdiv 256) = ((v / 256 ^ (k + 1) : Nat) : Int) := by rcases quo_pow v k with h | h; exact h; omega
    have hx := putX_set (v := v) hlt
    have hg0 := putX_get (v := v) hlt
    have hi : (((m : Nat) : Int) - 1 - k).toNat = m - 1 - k := by omega
    have hg : (putX m k v)[(((m : Nat) : Int) - 1 - k).toNat]? = some 0 := by rw [hi]; exact hg0
    rw [← hi] at hx
    refine wc_skip ?_
    refine seq_n ?_
    refine wc_seq ?_
    refine wc_block ?_
    refine wc_seq ?_
    refine wc_region ?_
    refine reg_quiet rfl (step_C tab_ok (fun K hk => hk)) ?_
    refine reg_quiet rfl (step_C tab_ok (fun K hk => hk)) ?_
    refine reg_quiet rfl (step_C tab_ok (fun K hk => hk)) ?_
    refine reg_quiet rfl (rem_int tab_ok rfl rfl (by decide)) ?_
    refine reg_quiet rfl (conv_int tab_ok rfl rfl rfl (u8_rem _)) ?_
    refine reg_quiet rfl (index_own tab_ok rfl rfl rfl rfl rfl (by omega) (by omega)) ?_
    refine reg_store (store_row tab_ok rfl rfl rfl ⟨rfl, 0, ((v / 256 ^ k).toUInt8.toNat : Int), hg, ⟨rfl, rfl, rfl⟩, rfl⟩ rfl) ?_
    refine reg_nil ?_
    refine seq_n ?_
    refine wc_region ?_
    refine reg_quiet rfl (step_C tab_ok (fun K hk => hk)) ?_
    refine reg_quiet rfl (quo_int tab_ok rfl rfl (by decide) w22) ?_
    refine reg_quiet rfl (step_C tab_ok (fun K hk => hk)) ?_
    refine reg_nil ?_
    refine blk_n ?_
    refine seq_n ?_
    refine wc_region ?_
    refine reg_quiet rfl (step_C tab_ok (fun K hk => hk)) ?_
    refine reg_quiet rfl (sub_int (m := ((m : Nat) : Int) - 1 - (k + 1 : Nat)) tab_ok rfl rfl w14) ?_
    refine reg_quiet rfl (step_C tab_ok (fun K hk => hk)) ?_
    refine reg_nil ?_
    exact loop_n (k + 1) [] hlt (by omega) (.of rfl rfl rfl rfl rfl ⟨⟨_, rfl, .refl _⟩, rfl, ⟨_, rfl, .refl _⟩, rfl, ⟨_, rfl, .refl _⟩, rfl, trivial⟩ ⟨⟨rfl, rfl, _, rfl, RowLe.of_eq (congrArg (Row.ds 5 1 true encU8) hx)⟩, trivial⟩)
  · have he : k = m := by have := of_decide_eq_false h3; omega
    subst he
    refine wc_exit ?_
    refine seq_x ?_
    refine loop_x ?_
    refine blk_x ?_
    refine seq_n ?_
    refine wc_seq ?_
    refine wc_region ?_
    refine reg_quiet rfl (step_C tab_ok (fun K hk => hk)) ?_
    refine reg_quiet rfl (step_C tab_ok (fun K hk => hk)) ?_
    refine reg_nil ?_
    refine seq_n ?_
    refine wc_ret ?_
    exact ⟨trivial, [(64, some 66)], .of rfl rfl rfl rfl rfl ⟨⟨_, rfl, AVLe.of_eq rfl⟩, rfl, trivial⟩ ⟨⟨rfl, rfl, _, rfl, RowLe.of_eq (by rw [show putX k k v = byI (putN k v) by simp [putX]]; rfl)⟩, trivial⟩⟩
theorem refput32_own (v : Nat) (hv : v < 4294967296) : FnIs Try.prog 62 [.int .u32 v] [] (.own 64 0 4 1 none) [(64, .ds 5 1 true encU8 (byI (putN 4 v)))] := by
  have hw : IntKind.u64.wrap (v : Int) = (v : Int) := wrap_u64 (by omega) (by omega)
  refine fnIs_of tab_ok Try.func62 rfl rfl rfl ?_
  refine wc_seq ?_
  refine wc_region ?_
  refine reg_quiet rfl (step_C tab_ok (fun K hk => hk)) ?_
  refine reg_nil ?_
  refine seq_n ?_
  refine wc_seq ?_
  refine wc_region ?_
  refine reg_quiet rfl (step_C tab_ok (fun K hk => hk)) ?_
  refine reg_quiet rfl (conv_int (m := (v : Int)) tab_ok rfl rfl rfl hw) ?_
  refine reg_new (call_new (refput_own v 4 (by decide) (by decide) (by omega)) rfl rfl (arg_e (arg_e arg_nil)) (.inl rfl) rfl rfl) rfl ?_
  refine reg_quiet rfl (step_C tab_ok (fun K hk => hk)) ?_
  refine reg_nil ?_
  refine seq_n ?_
  refine wc_ret ?_
  exact ⟨trivial, [(64, some 88)], .of rfl rfl rfl rfl rfl ⟨⟨_, rfl, AVLe.of_eq rfl⟩, rfl, trivial⟩ ⟨⟨rfl, rfl, _, rfl, .refl _⟩, trivial⟩⟩
theorem refput64_own (v : Nat) (hv : v < 18446744073709551616) : FnIs Try.prog 81 [.int .u64 v] [] (.own 64 0 8 1 none) [(64, .ds 5 1 true encU8 (byI (putN 8 v)))] := by
  refine fnIs_of tab_ok Try.func81 rfl rfl rfl ?_
  refine wc_seq ?_
  refine wc_region ?_
  refine reg_quiet rfl (step_C tab_ok (fun K hk => hk)) ?_
  refine reg_nil ?_
  refine seq_n ?_
  refine wc_seq ?_
  refine wc_region ?_
  refine reg_quiet rfl (step_C tab_ok (fun K hk => hk)) ?_
  refine reg_new (call_new (refput_own v 8 (by decide) (by decide) hv) rfl rfl (arg_e (arg_e arg_nil)) (.inl rfl) rfl rfl) rfl ?_
  refine reg_quiet rfl (step_C tab_ok (fun K hk => hk)) ?_
  refine reg_nil ?_
  refine seq_n ?_
  refine wc_ret ?_
  exact ⟨trivial, [(64, some 80)], .of rfl rfl rfl rfl rfl ⟨⟨_, rfl, AVLe.of_eq rfl⟩, rfl, trivial⟩ ⟨⟨rfl, rfl, _, rfl, .refl _⟩, trivial⟩⟩
theorem refput32_d (v : Nat) (hv : v < 4294967296) : FnIs Try.prog 62 [.int .u32 v] [] (.d (encB (putN 4 v))) [] :=
  (refput32_own v hv).freeze_out 64 _ rfl (Frz.own (by rw [byI_len, putN_len])) trivial
theorem refput64_d (v : Nat) (hv : v < 18446744073709551616) : FnIs Try.prog 81 [.int .u64 v] [] (.d (encB (putN 8 v))) [] :=
  (refput64_own v hv).freeze_out 64 _ rfl (Frz.own (by rw [byI_len, putN_len])) trivial
theorem putN_lenI (n v : Nat) : n = (byI (putN n v)).length := by rw [byI_len, putN_len]
theorem refnonce_own (s c : Nat) (hs : s < 4294967296) (hc : c < 18446744073709551616) : FnIs Try.prog 61 [.d (encLN ⟨s, c⟩)] [] (.own 64 0 ((byI (putN 4 s)).length + (byI (putN 8 c)).length) 1 none) [(64, .ds 5 1 false encU8 (byI (putN 4 s) ++ byI (putN 8 c)))] := by
  refine fnIs_of tab_ok Try.func61 rfl rfl rfl ?_
  refine wc_seq ?_
  refine wc_region ?_
  refine reg_new (step_C tab_ok (fun K hk => hk)) rfl ?_
  refine reg_quiet rfl (step_C tab_ok (fun K hk => hk)) ?_
  refine reg_nil ?_
  refine seq_n ?_
  refine wc_seq ?_
  refine wc_draw (by kernel_rfl) ?_
  refine dreg_q [1] [64] rfl (step_C tab_ok (fun K hk => hk)) ?_
  refine dreg_q [3] [64] rfl (load_box tab_ok rfl rfl ⟨_, rfl, rfl⟩ rfl) ?_
  refine dreg_w [4] [] rfl (call_new (refput32_own s hs) rfl rfl (arg_e arg_nil) (.inl rfl) rfl rfl) ?_
  refine dreg_q [1] [64] rfl (step_C tab_ok (fun K hk => hk)) ?_
  refine dreg_q [6] [64] rfl (load_box tab_ok rfl rfl ⟨_, rfl, rfl⟩ rfl) ?_
  refine dreg_q [7] [] rfl (call_r (refput64_d c hc) rfl rfl (arg_e arg_nil) (.inl rfl) (fun _ => rfl)) ?_
  refine dreg_w2 [5, 8] [96] rfl (append_arr (s := 1) (enc := encU8) (xs := byI (putN 4 s)) (ys := byI (putN 8 c)) tab_ok rfl rfl rfl rfl rfl rfl rfl (by simp [byI, putN_len]) (by simp [byI, putN_len]) rfl) ?_
  refine dreg_q [9] [128] rfl (step_C tab_ok (fun K hk => hk)) ?_
  refine dreg_end (by kernel_rfl) ?_
  refine seq_n ?_
  refine wc_ret ?_
  exact ⟨trivial, [(64, some 128)], .of rfl rfl rfl rfl rfl ⟨⟨_, rfl, AVLe.of_eq rfl⟩, rfl, trivial⟩ ⟨⟨rfl, rfl, _, rfl, .refl _⟩, trivial⟩⟩
theorem refnonce_put (s c : Nat) (hs : s < 4294967296) (hc : c < 18446744073709551616) : FnIs Try.prog 61 [.d (encLN ⟨s, c⟩)] [] (.d (encB (nonB s c))) [] := by
  have := (refnonce_own s c hs hc).freeze_out (rows' := []) 64 _ rfl (Frz.own (by rw [List.length_append])) trivial
  rw [byI_app] at this
  exact this
theorem line_is (k : List UInt8) (s c f l : Nat) (hk : k.length = 16) (hs : s < 4294967296) (hc : c < 18446744073709551616) (hf : f < 4294967296) (hl : l < 4294967296) : FnIs Try.prog 38 [.d (encUse (useOf k s c f l))] [] (.d (strD ((useB k s c f l).flatMap hexB ++ [10]))) [] := by
  have hkp : 0 < (byI k).length := by rw [byI_len]; omega
  have hkl : (byI k).length ≤ 1048576 := by rw [byI_len]; omega
  have hnp : 0 < (byI (nonB s c)).length := by rw [byI_len, nonB_len]; decide
  have hnl : (byI k).length + (byI (nonB s c)).length ≤ 1048576 := by rw [byI_len, byI_len, nonB_len]; omega
  have hL2 : (byI k).length + (byI (nonB s c)).length = (byI k ++ byI (nonB s c)).length := by simp
  have hfp : 0 < (byI (putN 4 f)).length := by rw [byI_len, putN_len]; decide
  have hfl : (byI k ++ byI (nonB s c)).length + (byI (putN 4 f)).length ≤ 1048576 := by rw [List.length_append, byI_len, byI_len, byI_len, nonB_len, putN_len]; omega
  have hL3 : (byI k ++ byI (nonB s c)).length + (byI (putN 4 f)).length = (byI k ++ byI (nonB s c) ++ byI (putN 4 f)).length := List.length_append.symm
  have hlp : 0 < (byI (putN 4 l)).length := by rw [byI_len, putN_len]; decide
  have hll : (byI k ++ byI (nonB s c) ++ byI (putN 4 f)).length + (byI (putN 4 l)).length ≤ 1048576 := by rw [List.length_append, List.length_append, byI_len, byI_len, byI_len, byI_len, nonB_len, putN_len, putN_len]; omega
  have hB := useB_len hk s c f l
  have hrow : byI k ++ byI (nonB s c) ++ byI (putN 4 f) ++ byI (putN 4 l) = byI (useB k s c f l) := by simp only [byI_app, useB, List.append_assoc]
  have hLL : (byI k ++ byI (nonB s c) ++ byI (putN 4 f)).length + (byI (putN 4 l)).length = 36 := by rw [← List.length_append, hrow, byI_len, hB]
  refine fnIs_of tab_ok Try.func38 rfl rfl rfl ?_
  refine wc_seq ?_
  refine wc_region ?_
  refine reg_new (step_C tab_ok (fun K hk => hk)) rfl ?_
  refine reg_quiet rfl (step_C tab_ok (fun K hk => hk)) ?_
  refine reg_nil ?_
  refine seq_n ?_
  refine wc_freeze (env' := [(1, _), (2, _), (0, _)]) (h' := []) 64 _ rfl ⟨⟨_, rfl, Frz.ptr⟩, ⟨_, rfl, .refl _⟩, ⟨_, rfl, .refl _⟩, trivial⟩ trivial ?_
  refine wc_seq ?_
  refine wc_region ?_
  refine reg_quiet rfl (build_empty tab_ok rfl rfl) ?_
  refine reg_quiet rfl (fieldAddr_pt tab_ok rfl rfl rfl rfl) ?_
  refine reg_quiet rfl (slice_iptr tab_ok rfl rfl rfl rfl rfl) ?_
  refine reg_new (append_empty_arr (s := 1) (enc := encU8) (ys := byI k) tab_ok rfl rfl rfl rfl rfl (.inl rfl) rfl hkp hkl rfl) rfl ?_
  refine reg_quiet rfl (step_C tab_ok (fun K hk => hk)) ?_
  refine reg_nil ?_
  refine seq_n ?_
  refine wc_seq ?_
  refine wc_region ?_
  refine reg_quiet rfl (step_C tab_ok (fun K hk => hk)) ?_
  refine reg_quiet rfl (fieldAddr_pt tab_ok rfl rfl rfl rfl) ?_
  refine reg_quiet rfl (step_C tab_ok (fun K hk => hk)) ?_
  refine reg_quiet rfl (load_i tab_ok rfl rfl) ?_
  refine reg_quiet rfl (call_r (refnonce_put s c hs hc) rfl rfl (arg_e arg_nil) (.inl rfl) (fun _ => rfl)) ?_
  refine reg_new2 (append_arrL (s := 1) (enc := encU8) (xs := byI k) (ys := byI (nonB s c)) tab_ok rfl rfl rfl rfl rfl rfl rfl rfl hnp hnl rfl) rfl ?_
  refine reg_quiet rfl (step_C tab_ok (fun K hk => hk)) ?_
  refine reg_nil ?_
  refine seq_n ?_
  refine wc_seq ?_
  refine wc_region ?_
  refine reg_quiet rfl (step_C tab_ok (fun K hk => hk)) ?_
  refine reg_quiet rfl (fieldAddr_pt tab_ok rfl rfl rfl rfl) ?_
  refine reg_quiet rfl (step_C tab_ok (fun K hk => hk)) ?_
  refine reg_quiet rfl (load_i tab_ok rfl rfl) ?_
  refine reg_quiet rfl (call_r (refput32_d f hf) rfl rfl (arg_e arg_nil) (.inl rfl) (fun _ => rfl)) ?_
  refine reg_new2 (append_arrL (s := 1) (enc := encU8) (xs := byI k ++ byI (nonB s c)) (ys := byI (putN 4 f)) tab_ok rfl rfl rfl rfl rfl hL2 rfl rfl hfp hfl rfl) rfl ?_
  refine reg_quiet rfl (step_C tab_ok (fun K hk => hk)) ?_
  refine reg_nil ?_
  refine seq_n ?_
  refine wc_seq ?_
  refine wc_region ?_
  refine reg_quiet rfl (step_C tab_ok (fun K hk => hk)) ?_
  refine reg_quiet rfl (fieldAddr_pt tab_ok rfl rfl rfl rfl) ?_
  refine reg_quiet rfl (step_C tab_ok (fun K hk => hk)) ?_
  refine reg_quiet rfl (load_i tab_ok rfl rfl) ?_
  refine reg_quiet rfl (call_r (refput32_d l hl) rfl rfl (arg_e arg_nil) (.inl rfl) (fun _ => rfl)) ?_
  refine reg_new2 (append_arrL (s := 1) (enc := encU8) (xs := byI k ++ byI (nonB s c) ++ byI (putN 4 f)) (ys := byI (putN 4 l)) tab_ok rfl rfl rfl rfl rfl hL3 rfl rfl hlp hll rfl) rfl ?_
  refine reg_quiet rfl (step_C tab_ok (fun K hk => hk)) ?_
  refine reg_nil ?_
  refine seq_n ?_
  refine wc_seq ?_
  refine wc_region ?_
  refine reg_quiet rfl (step_C tab_ok (fun K hk => hk)) ?_
  refine reg_nil ?_
  refine seq_n ?_
  refine wc_seq ?_
  refine wc_seq ?_
  refine wc_region ?_
  refine reg_quiet rfl (step_C tab_ok (fun K hk => hk)) ?_
  refine reg_nil ?_
  refine seq_n ?_
  refine wc_block ?_
  refine wc_inv (fun i : Nat => ⟨[(5, .int .i64 i), (4, .own 67 0 (byI (((useB k s c f l).take i).flatMap hexB)).length 1 none), (3, .own 66 0 36 1 none)], [(66, some (.ds 5 1 false encU8 (byI (useB k s c f l)))), (67, some (.ds 5 1 false encU8 (byI (((useB k s c f l).take i).flatMap hexB))))], 72, Try.f38.ntmps, 64⟩) (fun i => i ≤ 36) (fun i => 36 - i) 0 [(66, some 272), (67, none)] (Nat.zero_le _)
    (.of rfl rfl rfl rfl rfl ⟨⟨_, rfl, .refl _⟩, rfl, ⟨_, rfl, .refl _⟩, rfl, ⟨_, rfl, AVLe.of_eq (congrArg (fun n => AV.own 272 0 n 1 none) hLL)⟩, rfl, trivial⟩ ⟨⟨rfl, rfl, _, rfl, RowLe.of_eq (congrArg (Row.ds 5 1 false encU8) hrow)⟩, ⟨rfl, rfl, rfl⟩, trivial⟩) ?_
  intro i hi
  refine wc_of ?_
  refine wc_seq ?_
  refine wc_seq ?_
  refine wc_region ?_
  refine reg_quiet rfl (step_C tab_ok (fun K hk => hk)) ?_
  refine reg_quiet rfl (step_C tab_ok (fun K hk => hk)) ?_
  refine reg_quiet rfl (len_own tab_ok rfl rfl) ?_
  refine reg_quiet rfl (step_C tab_ok (fun K hk => hk)) ?_
  refine reg_nil ?_
  refine seq_n ?_
  refine wc_cond rfl (fun h3 => ?_) (fun h3 => ?_)
  · have hlt : i < 36 := by have := of_decide_eq_true h3; omega
    obtain ⟨b, hb⟩ : ∃ b, (useB k s c f l)[i]? = some b := ⟨_, List.getElem?_eq_getElem (by omega)⟩
    have hb2 : (byI (useB k s c f l))[((i : Nat) : Int).toNat]? = some (b.toNat : Int) := by rw [Int.toNat_natCast]; exact byI_get hb
    have hb8 : b.toNat < 256 := b.toNat_lt
    have w39 : IntKind.u8.wrap (((b.toNat : Nat) : Int).tdiv 16) = ((b.toNat / 16 : Nat) : Int) := by
      rw [show (16 : Int) = ((16 : Nat) : Int) from rfl, ← Int.ofNat_tdiv]
      exact wrap_nat rfl (by show _ < 2 ^ 8; omega)
    have hx1 : hexD[b.toNat / 16]? = some (hexC (b.toNat / 16)) := hexD_get (by omega)
    have hx2 : hexD[b.toNat % 16]? = some (hexC (b.toNat % 16)) := hexD_get (by omega)
    have hal : (byI (((useB k s c f l).take i).flatMap hexB)).length + [((hexC (b.toNat / 16)).toNat : Int), ((hexC (b.toNat % 16)).toNat : Int)].length ≤ 1048576 := by
      rw [byI_len, hexB_len, List.length_take]
      simp
      omega
    have hgo : byI (((useB k s c f l).take i).flatMap hexB) ++ [((hexC (b.toNat / 16)).toNat : Int), ((hexC (b.toNat % 16)).toNat : Int)] = byI (((useB k s c f l).take (i + 1)).flatMap hexB) := by
      rw [List.take_add_one, hb]
      simp [byI, hexB]
    refine wc_skip ?_
    refine seq_n ?_
    refine wc_seq ?_
    refine wc_block ?_
    refine wc_draw (by kernel_rfl) ?_
    refine dreg_q [4] [67] rfl (step_C tab_ok (fun K hk => hk)) ?_
    refine dreg_q [3] [66] rfl (step_C tab_ok (fun K hk => hk)) ?_
    refine dreg_q [5] [] rfl (step_C tab_ok (fun K hk => hk)) ?_
    refine dreg_q [35, 36] [66] rfl (index_own tab_ok rfl rfl rfl rfl rfl (by omega) (by omega)) ?_
    refine dreg_q [37] [66] rfl (load_row (row := .ds 5 1 false encU8 (byI (useB k s c f l))) tab_ok rfl rfl ⟨rfl, (b.toNat : Int), hb2, _, rfl, rfl⟩ rfl) ?_
    refine dreg_q [38] [] rfl (quo_int (m := ((b.toNat / 16 : Nat) : Int)) tab_ok rfl rfl (by decide) w39) ?_
    refine dreg_q [39] [] rfl (index_s (l := hexD) (m := b.toNat / 16) tab_ok rfl rfl rfl hx1) ?_
    refine dreg_q [3] [66] rfl (step_C tab_ok (fun K hk => hk)) ?_
    refine dreg_q [5] [] rfl (step_C tab_ok (fun K hk => hk)) ?_
    refine dreg_q [41, 42] [66] rfl (index_own tab_ok rfl rfl rfl rfl rfl (by omega) (by omega)) ?_
    refine dreg_q [43] [66] rfl (load_row (row := .ds 5 1 false encU8 (byI (useB k s c f l))) tab_ok rfl rfl ⟨rfl, (b.toNat : Int), hb2, _, rfl, rfl⟩ rfl) ?_
    refine dreg_q [44] [] rfl (rem_int tab_ok rfl rfl (by decide)) ?_
    refine dreg_q [45] [] rfl (index_s (l := hexD) (m := b.toNat % 16) tab_ok rfl rfl rfl hx2) ?_
    refine dreg_w [40, 46] [] rfl (build_slice tab_ok rfl rfl rfl rfl rfl rfl rfl rfl) ?_
    refine dreg_w2 [34, 47] [67, 208] rfl (append_lits (enc := encU8) (xs := byI (((useB k s c f l).take i).flatMap hexB)) tab_ok [((hexC (b.toNat / 16)).toNat : Int), ((hexC (b.toNat % 16)).toNat : Int)] rfl rfl rfl rfl rfl rfl rfl rfl rfl (fun _ _ => rfl) (by decide) hal rfl) ?_
    refine dreg_q [48] [216] rfl (step_C tab_ok (fun K hk => hk)) ?_
    refine dreg_end (by kernel_rfl) ?_
    refine blk_n ?_
    refine seq_n ?_
    refine wc_region ?_
    refine reg_quiet rfl (step_C tab_ok (fun K hk => hk)) ?_
    refine reg_quiet rfl (add_int tab_ok rfl rfl (wrap_i64 (by omega) (by omega))) ?_
    refine reg_quiet rfl (step_C tab_ok (fun K hk => hk)) ?_
    refine reg_nil ?_
    refine loop_n (i + 1) [(66, some 66), (67, some 216)] hlt (by omega) ?_
    exact .of rfl rfl rfl rfl rfl ⟨⟨_, rfl, .refl _⟩, rfl, ⟨_, rfl, AVLe.of_eq (by rw [← hgo, List.length_append]; rfl)⟩, rfl, ⟨_, rfl, .refl _⟩, rfl, trivial⟩ ⟨⟨rfl, rfl, _, rfl, .refl _⟩, ⟨rfl, rfl, _, rfl, RowLe.of_eq (congrArg (Row.ds 5 1 false encU8) hgo)⟩, trivial⟩
  · have he : i = 36 := by have := of_decide_eq_false h3; omega
    subst he
    have hal2 : (byI (((useB k s c f l).take 36).flatMap hexB)).length + [(10 : Int)].length ≤ 1048576 := by
      rw [byI_len, hexB_len, List.length_take]
      simp
      omega
    refine wc_exit ?_
    refine seq_x ?_
    refine loop_x ?_
    refine blk_x ?_
    refine seq_n ?_
    refine wc_seq ?_
    refine wc_region ?_
    refine reg_quiet rfl (step_C tab_ok (fun K hk => hk)) ?_
    refine reg_new (build_slice tab_ok rfl rfl rfl rfl rfl rfl rfl rfl) rfl ?_
    refine reg_new2 (append_lits (enc := encU8) (xs := byI (((useB k s c f l).take 36).flatMap hexB)) tab_ok [10] rfl rfl rfl rfl rfl rfl rfl rfl rfl (fun _ _ => rfl) (by decide) hal2 rfl) rfl ?_
    refine reg_quiet rfl (conv_own tab_ok rfl rfl rfl rfl rfl (by simp) (by simp)) ?_
    refine reg_quiet rfl (step_C tab_ok (fun K hk => hk)) ?_
    refine reg_nil ?_
    refine seq_n ?_
    refine wc_ret ?_
    exact ⟨trivial, [], .of rfl rfl rfl rfl rfl ⟨⟨_, rfl, AVLe.of_eq (by
      rw [show byI (((useB k s c f l).take 36).flatMap hexB) ++ [(10 : Int)] = byI ((useB k s c f l).flatMap hexB ++ [10]) by rw [List.take_of_length_le (by omega)]; simp [byI], strOf_byI]
      rfl)⟩, rfl, trivial⟩ trivial⟩
end Go.Proofs.Ytjpjchohpjbknaa

/- Ledgers: the law of Text. -/
namespace Go.Proofs.Ytjpjchohpjbknaa
open Go.Eng
set_option maxHeartbeats 4000000
set_option maxRecDepth 50000
attribute [local irreducible] WC RegS RegD SeqQ BlkQ ScoQ RegK CutK Sat SatN FnIs LoopQ StepIs OpIs
theorem line_use {u : LUse} (h : OkU u) : FnIs Try.prog 38 [.d (encUse u)] [] (.d (strD (lineL u))) [] := by
  have h1 := h.shard; have h2 := h.ctr; have h3 := h.fst; have h4 := h.lst
  have := line_is (keyB u.key) u.range.nonce.shard.toNat u.range.nonce.counter.toNat u.range.first.toNat u.range.last.toNat (by rw [keyB_len, h.key]) (by omega) (by omega) (by omega) (by omega)
  rw [h.eq] at this
  exact this
theorem ltext_no (l : List LUse) (h : 60 < l.length ∨ chkL l ≠ 0) : FnIs Try.prog 8 [.d (.arr 20 encUse l)] [] (.bool true) [] := by
  refine fnIs_of tab_ok Try.func8 rfl rfl rfl ?_
  cases h1 : decide ((60 : Int) < (l.length : Int)) with
  | true =>
    refine wc_seq ?_
    refine wc_region ?_
    refine reg_quiet rfl (step_C tab_ok (fun K hk => hk)) ?_
    refine reg_nil ?_
    refine seq_n ?_
    refine wc_seq ?_
    refine wc_seq ?_
    refine wc_region ?_
    refine reg_quiet rfl (step_C tab_ok (fun K hk => hk)) ?_
    refine reg_quiet rfl (len_arr tab_ok rfl rfl) ?_
    refine reg_quiet rfl (step_C tab_ok (fun K hk => hk)) ?_
    refine reg_quiet rfl (step_C tab_ok (fun K hk => hk)) ?_
    refine reg_skip rfl rfl (by assumption) rfl rfl ?_
    refine reg_skip rfl rfl (by assumption) rfl rfl ?_
    refine reg_skip rfl rfl (by assumption) rfl rfl ?_
    refine reg_quiet rfl (pick_T tab_ok rfl (by assumption) rfl) ?_
    refine reg_nil ?_
    refine seq_n ?_
    refine wc_true rfl rfl ?_
    refine wc_seq ?_
    refine wc_region ?_
    refine reg_quiet rfl (call_r lives_is rfl rfl arg_nil (.inl rfl) (fun _ => rfl)) ?_
    refine reg_quiet rfl (step_C tab_ok (fun K hk => hk)) ?_
    refine reg_nil ?_
    refine seq_n ?_
    refine wc_ret ?_
    refine seq_r ?_
    exact ⟨trivial, [], .of rfl rfl rfl rfl rfl ⟨⟨_, rfl, AVLe.of_eq rfl⟩, rfl, trivial⟩ trivial⟩
  | false =>
    have h2 : (!decide (chkL l = 0)) = true := by
      rw [decide_eq_false]
      · rfl
      · rcases h with h | h
        · have := of_decide_eq_false h1; omega
        · exact h
    refine wc_seq ?_
    refine wc_region ?_
    refine reg_quiet rfl (step_C tab_ok (fun K hk => hk)) ?_
    refine reg_nil ?_
    refine seq_n ?_
    refine wc_seq ?_
    refine wc_seq ?_
    refine wc_region ?_
    refine reg_quiet rfl (step_C tab_ok (fun K hk => hk)) ?_
    refine reg_quiet rfl (len_arr tab_ok rfl rfl) ?_
    refine reg_quiet rfl (step_C tab_ok (fun K hk => hk)) ?_
    refine reg_quiet rfl (step_C tab_ok (fun K hk => hk)) ?_
    refine reg_on rfl rfl (by assumption) ?_
    refine reg_quiet rfl (step_C tab_ok (fun K hk => hk)) ?_
    refine reg_on rfl rfl (by assumption) ?_
    refine reg_quiet rfl (call_r (refcheck_is l) rfl rfl (arg_e arg_nil) (.inl rfl) (fun _ => rfl)) ?_
    refine reg_on rfl rfl (by assumption) ?_
    refine reg_quiet rfl (step_C tab_ok (fun K hk => hk)) ?_
    refine reg_quiet rfl (pick_F tab_ok rfl (by assumption) rfl) ?_
    refine reg_nil ?_
    refine seq_n ?_
    refine wc_true rfl (by assumption) ?_
    refine wc_seq ?_
    refine wc_region ?_
    refine reg_quiet rfl (call_r lives_is rfl rfl arg_nil (.inl rfl) (fun _ => rfl)) ?_
    refine reg_quiet rfl (step_C tab_ok (fun K hk => hk)) ?_
    refine reg_nil ?_
    refine seq_n ?_
    refine wc_ret ?_
    refine seq_r ?_
    exact ⟨trivial, [], .of rfl rfl rfl rfl rfl ⟨⟨_, rfl, AVLe.of_eq rfl⟩, rfl, trivial⟩ trivial⟩
theorem ltext_ok (l : List LUse) (hok : ∀ x ∈ l, OkU x) (h60 : l.length ≤ 60) (h0 : chkL l = 0) : FnIs Try.prog 8 [.d (.arr 20 encUse l)] [] (.bool true) [] := by
  have d1 : decide ((60 : Int) < (l.length : Int)) = false := decide_eq_false (by omega)
  have hC := refcheck_is l
  rw [h0] at hC
  have hv : ∀ x ∈ l, OkU x ∧ validU x = true := fun x hx => ⟨hok x hx, List.all_eq_true.1 (chk_ok h0).2 x hx⟩
  have hlen := textL_len l hok
  have hT := text_all l hv (by omega)
  have hP := parse_text (textL l) (by omega)
  rw [parseT_text hv] at hP
  have hS := usame_is l l (by omega)
  rw [decide_eq_true rfl] at hS
  have hq : decide (textL l = textL l) = true := decide_eq_true rfl
  refine fnIs_of tab_ok Try.func8 rfl rfl rfl ?_
  refine wc_seq ?_
  refine wc_region ?_
  refine reg_quiet rfl (step_C tab_ok (fun K hk => hk)) ?_
  refine reg_nil ?_
  refine seq_n ?_
  refine wc_seq ?_
  refine wc_seq ?_
  refine wc_region ?_
  refine reg_quiet rfl (step_C tab_ok (fun K hk => hk)) ?_
  refine reg_quiet rfl (len_arr tab_ok rfl rfl) ?_
  refine reg_quiet rfl (step_C tab_ok (fun K hk => hk)) ?_
  refine reg_quiet rfl (step_C tab_ok (fun K hk => hk)) ?_
  refine reg_on rfl rfl (by assumption) ?_
  refine reg_quiet rfl (step_C tab_ok (fun K hk => hk)) ?_
  refine reg_on rfl rfl (by assumption) ?_
  refine reg_quiet rfl (call_r hC rfl rfl (arg_e arg_nil) (.inl rfl) (fun _ => rfl)) ?_
  refine reg_on rfl rfl (by assumption) ?_
  refine reg_quiet rfl (step_C tab_ok (fun K hk => hk)) ?_
  refine reg_quiet rfl (pick_F tab_ok rfl (by assumption) rfl) ?_
  refine reg_nil ?_
  refine seq_n ?_
  refine wc_false rfl rfl ?_
  refine wc_skip ?_
  refine seq_n ?_
  refine wc_seq ?_
  refine wc_region ?_
  refine reg_quiet rfl (step_C tab_ok (fun K hk => hk)) ?_
  refine reg_nil ?_
  refine seq_n ?_
  refine wc_seq ?_
  refine wc_seq ?_
  refine wc_region ?_
  refine reg_quiet rfl (step_C tab_ok (fun K hk => hk)) ?_
  refine reg_nil ?_
  refine seq_n ?_
  refine wc_block ?_
  refine wc_inv (fun i : Nat => ⟨[(4, .int .i64 i), (3, .d (strD (textL (l.take i)))), (0, .d (.arr 20 encUse l))], [], 72, Try.f8.ntmps, 64⟩) (fun i => i ≤ l.length) (fun i => l.length - i) 0 [] (Nat.zero_le _)
    (.of rfl rfl rfl rfl rfl ⟨⟨_, rfl, .refl _⟩, rfl, ⟨_, rfl, .refl _⟩, rfl, ⟨_, rfl, .refl _⟩, rfl, trivial⟩ trivial) ?_
  intro i hi
  refine wc_of ?_
  refine wc_seq ?_
  refine wc_seq ?_
  refine wc_region ?_
  refine reg_quiet rfl (step_C tab_ok (fun K hk => hk)) ?_
  refine reg_quiet rfl (step_C tab_ok (fun K hk => hk)) ?_
  refine reg_quiet rfl (len_arr tab_ok rfl rfl) ?_
  refine reg_quiet rfl (step_C tab_ok (fun K hk => hk)) ?_
  refine reg_nil ?_
  refine seq_n ?_
  refine wc_cond rfl (fun h3 => ?_) (fun h3 => ?_)
  · have hlt : i < l.length := by have := of_decide_eq_true h3; omega
    obtain ⟨u, hu⟩ : ∃ u, l[i]? = some u := ⟨_, List.getElem?_eq_getElem hlt⟩
    have hu' : l[((i : Int)).toNat]? = some u := by rw [Int.toNat_natCast]; exact hu
    have hgo : textL (l.take i) ++ lineL u = textL (l.take (i + 1)) := by
      rw [List.take_add_one, hu]
      simp [textL]
    have hal : (textL (l.take i)).length + (lineL u).length ≤ 9223372036854775807 := by
      rw [textL_len _ fun x hx => hok x (List.mem_of_mem_take hx), lineL_len (hok u (List.mem_of_getElem? hu)), List.length_take]
      omega
    refine wc_skip ?_
    refine seq_n ?_
    refine wc_seq ?_
    refine wc_block ?_
    refine wc_region ?_
    refine reg_quiet rfl (step_C tab_ok (fun K hk => hk)) ?_
    refine reg_quiet rfl (step_C tab_ok (fun K hk => hk)) ?_
    refine reg_quiet rfl (step_C tab_ok (fun K hk => hk)) ?_
    refine reg_quiet rfl (index_arr tab_ok rfl rfl rfl rfl rfl (by omega) hu') ?_
    refine reg_quiet rfl (load_i tab_ok rfl rfl) ?_
    refine reg_quiet rfl (call_r (line_use (hok u (List.mem_of_getElem? hu))) rfl rfl (arg_e arg_nil) (.inl rfl) (fun _ => rfl)) ?_
    refine reg_quiet rfl (add_str (a := textL (l.take i)) (b := lineL u) (m := textL (l.take (i + 1))) rfl rfl hal hgo) ?_
    refine reg_quiet rfl (step_C tab_ok (fun K hk => hk)) ?_
    refine reg_nil ?_
    refine blk_n ?_
    refine seq_n ?_
    refine wc_region ?_
    refine reg_quiet rfl (step_C tab_ok (fun K hk => hk)) ?_
    refine reg_quiet rfl (add_int tab_ok rfl rfl (wrap_i64 (by omega) (by omega))) ?_
    refine reg_quiet rfl (step_C tab_ok (fun K hk => hk)) ?_
    refine reg_nil ?_
    refine loop_n (i + 1) [] hlt (by omega) ?_
    exact .of rfl rfl rfl rfl rfl ⟨⟨_, rfl, .refl _⟩, rfl, ⟨_, rfl, .refl _⟩, rfl, ⟨_, rfl, .refl _⟩, rfl, trivial⟩ trivial
  · have he : i = l.length := by have := of_decide_eq_false h3; omega
    subst he
    have hq : decide (textL l = textL (l.take l.length)) = true := decide_eq_true (by rw [List.take_length])
    refine wc_exit ?_
    refine seq_x ?_
    refine loop_x ?_
    refine blk_x ?_
    refine seq_n ?_
    refine wc_seq ?_
    refine wc_region ?_
    refine reg_quiet rfl (step_C tab_ok (fun K hk => hk)) ?_
    refine reg_quiet rfl (call_r (of_is _) rfl rfl (arg_e arg_nil) (.inl rfl) (fun _ => rfl)) ?_
    refine reg_quiet rfl (call_r hT rfl rfl (arg_e arg_nil) (.inl rfl) (fun _ => rfl)) ?_
    refine reg_quiet rfl (step_C tab_ok (fun K hk => hk)) ?_
    refine reg_quiet rfl (step_C tab_ok (fun K hk => hk)) ?_
    refine reg_quiet rfl (step_C tab_ok (fun K hk => hk)) ?_
    refine reg_quiet rfl (step_C tab_ok (fun K hk => hk)) ?_
    refine reg_quiet rfl (step_C tab_ok (fun K hk => hk)) ?_
    refine reg_nil ?_
    refine seq_n ?_
    refine wc_seq ?_
    refine wc_region ?_
    refine reg_quiet rfl (step_C tab_ok (fun K hk => hk)) ?_
    refine reg_quiet rfl (call_r hP rfl rfl (arg_e arg_nil) (.inl rfl) (fun _ => rfl)) ?_
    refine reg_quiet rfl (step_C tab_ok (fun K hk => hk)) ?_
    refine reg_quiet rfl (step_C tab_ok (fun K hk => hk)) ?_
    refine reg_quiet rfl (step_C tab_ok (fun K hk => hk)) ?_
    refine reg_quiet rfl (step_C tab_ok (fun K hk => hk)) ?_
    refine reg_new (step_C tab_ok (fun K hk => hk)) rfl ?_
    refine reg_store (store_row tab_ok rfl rfl rfl ⟨_, ⟨rfl, rfl, rfl⟩, rfl⟩ rfl) ?_
    refine reg_quiet rfl (step_C tab_ok (fun K hk => hk)) ?_
    refine reg_quiet rfl (step_C tab_ok (fun K hk => hk)) ?_
    refine reg_nil ?_
    refine seq_n ?_
    refine wc_seq ?_
    refine wc_region ?_
    refine reg_quiet rfl (step_C tab_ok (fun K hk => hk)) ?_
    refine reg_quiet rfl (step_C tab_ok (fun K hk => hk)) ?_
    refine reg_quiet rfl (eql_s tab_ok rfl rfl rfl) ?_
    refine reg_quiet rfl (step_C tab_ok (fun K hk => hk)) ?_
    refine reg_on rfl rfl (by assumption) ?_
    refine reg_quiet rfl (step_C tab_ok (fun K hk => hk)) ?_
    refine reg_on rfl rfl (by assumption) ?_
    refine reg_quiet rfl (step_C tab_ok (fun K hk => hk)) ?_
    refine reg_quiet rfl (pick_T tab_ok rfl (by assumption) rfl) ?_
    refine reg_quiet rfl (step_C tab_ok (fun K hk => hk)) ?_
    refine reg_on rfl rfl rfl ?_
    refine reg_quiet rfl (load_box tab_ok rfl rfl rfl rfl) ?_
    refine reg_on rfl rfl rfl ?_
    refine reg_quiet rfl (step_C tab_ok (fun K hk => hk)) ?_
    refine reg_on rfl rfl rfl ?_
    refine reg_quiet rfl (call_r hS rfl rfl (arg_e (arg_e arg_nil)) (.inl rfl) (fun _ => rfl)) ?_
    refine reg_quiet rfl (pick_T tab_ok rfl rfl rfl) ?_
    refine reg_quiet rfl (step_C tab_ok (fun K hk => hk)) ?_
    refine reg_on rfl rfl rfl ?_
    refine reg_quiet rfl (step_C tab_ok (fun K hk => hk)) ?_
    refine reg_on rfl rfl rfl ?_
    refine reg_quiet rfl (step_C tab_ok (fun K hk => hk)) ?_
    refine reg_quiet rfl (pick_T tab_ok rfl rfl rfl) ?_
    refine reg_quiet rfl (step_C tab_ok (fun K hk => hk)) ?_
    refine reg_on rfl rfl rfl ?_
    refine reg_quiet rfl (step_C tab_ok (fun K hk => hk)) ?_
    refine reg_on rfl rfl rfl ?_
    refine reg_quiet rfl (step_C tab_ok (fun K hk => hk)) ?_
    refine reg_quiet rfl (pick_T tab_ok rfl rfl rfl) ?_
    refine reg_quiet rfl (step_C tab_ok (fun K hk => hk)) ?_
    refine reg_on rfl rfl rfl ?_
    refine reg_quiet rfl (call_r lives_is rfl rfl arg_nil (.inl rfl) (fun _ => rfl)) ?_
    refine reg_quiet rfl (pick_T tab_ok rfl rfl rfl) ?_
    refine reg_quiet rfl (step_C tab_ok (fun K hk => hk)) ?_
    refine reg_nil ?_
    refine seq_n ?_
    refine wc_ret ?_
    exact ⟨trivial, [], .of rfl rfl rfl rfl rfl ⟨⟨_, rfl, AVLe.of_eq rfl⟩, rfl, trivial⟩ trivial⟩
theorem ltext_is (l : List LUse) (hok : ∀ x ∈ l, OkU x) : FnIs Try.prog 8 [.d (.arr 20 encUse l)] [] (.bool true) [] := by
  by_cases h : 60 < l.length ∨ chkL l ≠ 0
  · exact ltext_no l h
  · exact ltext_ok l hok (Nat.le_of_not_lt fun hh => h (.inl hh)) (Classical.byContradiction fun hh => h (.inr hh))
end Go.Proofs.Ytjpjchohpjbknaa

/- LedgersText: the walked law is the statement. -/
namespace Go.Proofs.Ytjpjchohpjbknaa
open Go.ChangeShapes Go.WideShapes Go.ChangeAt Go.RowKit Go.Eng
theorem own : ownKnob Try.prog.godebug = none := by kernel_rfl
theorem laidOut : laidOutB Try.prog = true := by kernel_rfl
set_option maxRecDepth 100000 in
theorem lifted (os : Os) (started : os.Started) (H : Type) (enc : TypeId × Value → H) :
    ReturnsInHanded {} Try.checked os 8 .any (Rows.ledgersTextSpec.pre6 enc Try.prog Try.f8 Rows.ledgersTextRow.domain false) (Rows.ledgersTextSpec.post enc Try.prog Try.f8 false true false false) := by
  refine returnsInHanded_of_change (C := Try.checked) own started (by kernel_rfl) Try.func8
    (ChangeSpec.witness6 (enc := enc) (C := Try.checked) false ⟨#[], #[(.slice none 0 0)], []⟩ 8 (by kernel_rfl) (by kernel_rfl) (by kernel_rfl) (by kernel_rfl)) ?_
  intro W base args ds gs before hval0 hW hcnd _
  have hval : ∀ (j : Nat) t v, Try.f8.params[j]? = some t → args[j]? = some v → Value.okWide Try.prog W .any base t v := hval0
  have hW' := hW
  obtain ⟨p, q, hA0, hV, rfl, hfz, hnd⟩ := hW
  have hA : DataW.TrodAll enc Try.prog W 0 (fun _ => true) true Try.f8.params.toList args.toList ds p := hA0
  rw [Try.params8] at hA hval
  obtain ⟨v0, vs0, d0, ds0, p0, q0, hargs, rfl, rfl, h0, r0⟩ := trodAll_cons hA
  obtain ⟨rfl, rfl, rfl⟩ := trodAll_nil r0
  obtain rfl : args = #[v0] := Array.ext' (by simpa using hargs)
  obtain ⟨rfl, rfl⟩ := trodVars_none hV
  have k0 := h0
  have lt0 : ∀ x ∈ p0, x.block < W.heap.size := by obtain ⟨m, hm⟩ := k0; exact DataW.trod_lt m _ _ _ hm
  obtain ⟨fuel0, hfu0⟩ := h0
  obtain ⟨x0, e0, _, w0⟩ := opens_uses H enc W _ _ fuel0 _ _ hfu0
  obtain ⟨ad0, ln0, cp0, hcs0⟩ := okWide_slice Try.underlying73 (hval 0 73 v0 rfl rfl)
  have rel0 : RelV (fun _ => none) W (fun _ => False) (.d (encUsesL x0)) v0 := e0.relV ⟨fun ⟨c, hc⟩ => (by rw [hcs0] at hc; cases hc), fun hc => (by cases hc)⟩
  clear hA0 hval0
  refine (law_calls (ltext_is x0 w0.2) (W := W) (args := #[v0]) ⟨v0, [], rfl, ⟨rel0, trivial⟩, rfl⟩).mono fun e W' ⟨he, bel⟩ => ?_
  subst he
  exact ⟨_, rfl, _, _, _, [], _, [], hW', trodAll_mk1 (shut_bool Try.underlying4 _), (trodAll_cons_mk (Below.trod laidOut (by kernel_rfl) (of_decide_eq_true (by kernel_rfl)) k0 bel lt0) trodAll_mk0), rfl, bel.frame _, fun h => by cases h⟩

theorem over : Rows.ledgersTextRow.holds Try.pinned (OpenSpec.ofChange Rows.ledgersTextSpec) :=
  OpenClaim.holds_of_wide 8 Try.f8 rfl rfl rfl rfl rfl rfl rfl ⟨rfl, rfl, rfl, rfl, rfl⟩ rfl rfl rfl rfl rfl (by kernel_rfl) Try.func8 (by kernel_rfl)
    (of_decide_eq_true (by kernel_rfl)) (by unfold Func.isWrapper; first | (rw [if_pos (by decide +kernel)]; kernel_rfl) | (rw [if_neg (by decide +kernel)]; exact ⟨rfl, rfl⟩))
    (fun os started H enc _ => lifted os started H enc)
theorem ledgersText_holds : Rows.LedgersTextSaid := over
end Go.Proofs.Ytjpjchohpjbknaa
