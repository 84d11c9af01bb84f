/- Shards: the functions that ask, New, Check. -/
import Derived.Test.YtmdfeekpehcieaaFC
import Derived.Test.YtmdfeekpehcieaaEngB
import Derived.Test.YtmdfeekpehcieaaEngC

set_option linter.unusedVariables false
set_option linter.unusedSimpArgs false

/- Shards as data. -/
namespace Go.Proofs.Ytmdfeekpehcieaa
open Go.Eng
/-- A shard: its frames and its hand. -/
abbrev encSh (x : List Frame × Int) : D := .cons (.arr 40 encFrame x.1) (.cons (i6 x.2) .nil)
abbrev encS (l : List Frame) (h : Int) : D := .cons (.arr 40 encFrame l) (.cons (i6 h) .nil)
abbrev zeroS : D := .cons (.sc (.slice none 0 0)) (.cons (i6 0) .nil)
/-- A shard whose frames lie in an owned row. -/
abbrev ownS (r len : Nat) (h : Int) : AV := .acons (.own r 0 len 40 none) (.d (.cons (i6 h) .nil))
theorem arg_S {look : Nat → Option Row} {ρ : Nat → Option Nat} {r len : Nat} {te : TypeId} {ex : Bool} {l : List Frame} {h : Int} {bs avs : List AV} (hr : look r = some (.ds te 40 ex encFrame l)) (hl : len = l.length) (ht : ArgsA look ρ bs avs) :
    ArgsA look ρ (ownS r len h :: bs) (.d (encS l h) :: avs) := by
  subst hl
  exact ⟨_, avs, rfl, ⟨rfl, rfl⟩, ⟨rfl, _, _, rfl, by simp only [ArgD, hr]; exact ⟨trivial, by simp, l, by simp, .refl _⟩, DLe.refl _⟩, ht⟩
theorem arg_zeroS {look : Nat → Option Row} {ρ : Nat → Option Nat} {bs avs : List AV} (ht : ArgsA look ρ bs avs) : ArgsA look ρ (.d zeroS :: bs) (.d (encS [] 0) :: avs) :=
  arg_d rfl trivial (DLe.cons (DLe.nil_arr 40 encFrame) (DLe.refl _)) ht
/-- An owned shard handed over. -/
theorem arg_giveS {look : Nat → Option Row} {ρ : Nat → Option Nat} {r k len : Nat} {h : Int} {bs avs : List AV} (hr : ρ r = some k) (h64 : Nat.blt r 64 = true) (ht : ArgsA look ρ bs avs) :
    ArgsA look ρ (ownS k len h :: bs) (ownS r len h :: avs) :=
  ⟨_, avs, rfl, ⟨rfl, by simp [AV.lt, h64]⟩, AVLe.of_eq (by simp only [AV.ren, hr]), ht⟩
theorem opens_S : Opens Try.prog 61 2 encSh fun x => (x.1.length ≤ maxLen ∧ ∀ f ∈ x.1, f.Wf) ∧ (Lit.int .i64 x.2).wf = true :=
  Opens.map (opens_struct (P := Try.prog) Try.underlying61 (by kernel_rfl) (fun _ => rfl) (opensF_cons rfl (by kernel_rfl) opens_frames (opensF_cons rfl (by kernel_rfl) (opens_int (P := Try.prog) Try.underlying3) opensF_nil)))
    (fun q => (q.1, q.2.1)) (fun _ _ => rfl) (fun _ h => ⟨h.1, h.2.1⟩)
end Go.Proofs.Ytmdfeekpehcieaa

/- Shards: questions. -/
namespace Go.Proofs.Ytmdfeekpehcieaa
open Go.Eng
set_option maxHeartbeats 2000000
attribute [local irreducible] WC RegS RegD SeqQ BlkQ ScoQ RegK CutK Sat SatN FnIs LoopQ StepIs OpIs
theorem shfind_is (l : List Frame) (h block : Int) (hlen : l.length ≤ 1000000) : FnIs Try.prog 39 [.d (encS l h), .d (i6 block)] [] (tup2 (i6 (if fidx (fun f => f.used && decide (f.block = block)) l < 0 then 0 else fidx (fun f => f.used && decide (f.block = block)) l)) (bo (l.any fun f => f.used && decide (f.block = block)))) [] := by
  refine fnIs_of tab_ok Try.func39 rfl rfl rfl ?_
  refine wc_seq ?_
  refine wc_region ?_
  refine reg_new (step_C tab_ok (fun K hk => hk)) rfl ?_
  refine reg_quiet rfl (step_C tab_ok (fun K hk => hk)) ?_
  refine reg_quiet rfl (step_C tab_ok (fun K hk => hk)) ?_
  refine reg_nil ?_
  refine seq_n ?_
  refine wc_seq ?_
  refine wc_region ?_
  refine reg_quiet rfl (step_C tab_ok (fun K hk => hk)) ?_
  refine reg_quiet rfl (load_box tab_ok rfl rfl ⟨_, rfl, rfl⟩ rfl) ?_
  refine reg_quiet rfl (step_C tab_ok (fun K hk => hk)) ?_
  refine reg_quiet rfl (call_r (find_is l block hlen) rfl rfl (arg_e (arg_e arg_nil)) (.inl rfl) (fun _ => rfl)) ?_
  refine reg_quiet rfl (step_C tab_ok (fun K hk => hk)) ?_
  refine reg_quiet rfl (step_C tab_ok (fun K hk => hk)) ?_
  refine reg_quiet rfl (step_C tab_ok (fun K hk => hk)) ?_
  refine reg_quiet rfl (step_C tab_ok (fun K hk => hk)) ?_
  refine reg_nil ?_
  refine seq_n ?_
  refine wc_ret ?_
  exact ⟨trivial, [], .of rfl rfl rfl rfl rfl ⟨⟨_, rfl, AVLe.of_eq rfl⟩, rfl, trivial⟩ trivial⟩
theorem loading1_is (f : Frame) : FnIs Try.prog 71 [.d (encFrame f)] [] (.bool f.loading) [] := by
  refine fnIs_of tab_ok Try.func71 rfl rfl rfl ?_
  refine wc_seq ?_
  refine wc_region ?_
  refine reg_new (step_C tab_ok (fun K hk => hk)) rfl ?_
  refine reg_quiet rfl (step_C tab_ok (fun K hk => hk)) ?_
  refine reg_nil ?_
  refine seq_n ?_
  refine wc_seq ?_
  refine wc_region ?_
  refine reg_quiet rfl (step_C tab_ok (fun K hk => hk)) ?_
  refine reg_quiet rfl (load_box tab_ok rfl rfl ⟨_, rfl, rfl⟩ rfl) ?_
  refine reg_quiet rfl (step_C tab_ok (fun K hk => hk)) ?_
  refine reg_nil ?_
  refine seq_n ?_
  refine wc_ret ?_
  all_goals refine ⟨trivial, [], .of rfl rfl rfl rfl rfl ⟨⟨_, rfl, AVLe.of_eq ?_⟩, rfl, trivial⟩ trivial⟩
  all_goals (simp_all [retOne, AV.ren]; done)
theorem held1_is (f : Frame) : FnIs Try.prog 72 [.d (encFrame f)] [] (.bool (f.loading || f.busy)) [] := by
  refine fnIs_of tab_ok Try.func72 rfl rfl rfl ?_
  refine wc_seq ?_
  refine wc_region ?_
  refine reg_new (step_C tab_ok (fun K hk => hk)) rfl ?_
  refine reg_quiet rfl (step_C tab_ok (fun K hk => hk)) ?_
  refine reg_nil ?_
  refine seq_n ?_
  refine wc_seq ?_
  refine wc_region ?_
  refine reg_quiet rfl (step_C tab_ok (fun K hk => hk)) ?_
  refine reg_quiet rfl (load_box tab_ok rfl rfl ⟨_, rfl, rfl⟩ rfl) ?_
  refine reg_quiet rfl (step_C tab_ok (fun K hk => hk)) ?_
  refine reg_split rfl rfl rfl (fun hb => ?_) (fun hb => ?_)
  refine reg_on rfl rfl (by assumption) ?_
  refine reg_quiet rfl (step_C tab_ok (fun K hk => hk)) ?_
  refine reg_on rfl rfl (by assumption) ?_
  refine reg_quiet rfl (load_box tab_ok rfl rfl ⟨_, rfl, rfl⟩ rfl) ?_
  refine reg_quiet rfl (pick_F tab_ok rfl (by assumption) rfl) ?_
  refine reg_quiet rfl (step_C tab_ok (fun K hk => hk)) ?_
  refine reg_nil ?_
  refine seq_n ?_
  refine wc_ret ?_
  rotate_left
  refine reg_skip rfl rfl (by assumption) rfl rfl ?_
  refine reg_skip rfl rfl (by assumption) rfl rfl ?_
  refine reg_quiet rfl (pick_T tab_ok rfl (by assumption) rfl) ?_
  refine reg_quiet rfl (step_C tab_ok (fun K hk => hk)) ?_
  refine reg_nil ?_
  refine seq_n ?_
  refine wc_ret ?_
  rotate_left
  all_goals refine ⟨trivial, [], .of rfl rfl rfl rfl rfl ⟨⟨_, rfl, AVLe.of_eq ?_⟩, rfl, trivial⟩ trivial⟩
  all_goals (simp_all [retOne, AV.ren]; done)
theorem room1_is (f : Frame) : FnIs Try.prog 73 [.d (encFrame f)] [] (.bool true) [] := by
  refine fnIs_of tab_ok Try.func73 rfl rfl rfl ?_
  refine wc_seq ?_
  refine wc_region ?_
  refine reg_new (step_C tab_ok (fun K hk => hk)) rfl ?_
  refine reg_quiet rfl (step_C tab_ok (fun K hk => hk)) ?_
  refine reg_nil ?_
  refine seq_n ?_
  refine wc_seq ?_
  refine wc_region ?_
  refine reg_quiet rfl (step_C tab_ok (fun K hk => hk)) ?_
  refine reg_nil ?_
  refine seq_n ?_
  refine wc_ret ?_
  all_goals refine ⟨trivial, [], .of rfl rfl rfl rfl rfl ⟨⟨_, rfl, AVLe.of_eq ?_⟩, rfl, trivial⟩ trivial⟩
  all_goals (simp_all [retOne, AV.ren]; done)
abbrev someRows2 (block : Int) (k1 : FuncId) : List (Nat × Row) := [(0, .box 3 (.int .i64 block)), (1, .box 51 (.fn (.func k1) .anil .anil))]
theorem some1_is (block : Int) (k1 : FuncId) (p : Frame → Bool) (hk : ∀ f, FnIs Try.prog k1 [.d (encFrame f)] [] (.bool (p f)) []) (f : Frame) : FnIs Try.prog 83 [.d (encFrame f), .ptr 0 [], .ptr 1 []] (someRows2 block k1) (.bool (f.used && decide (f.block = block) && p f)) (someRows2 block k1) := by
  refine fnIs_of tab_ok Try.func83 rfl rfl rfl ?_
  refine wc_seq ?_
  refine wc_region ?_
  refine reg_new (step_C tab_ok (fun K hk => hk)) rfl ?_
  refine reg_quiet rfl (step_C tab_ok (fun K hk => hk)) ?_
  refine reg_nil ?_
  refine seq_n ?_
  refine wc_seq ?_
  refine wc_region ?_
  refine reg_quiet rfl (step_C tab_ok (fun K hk => hk)) ?_
  refine reg_quiet rfl (load_box tab_ok rfl rfl ⟨_, rfl, rfl⟩ rfl) ?_
  refine reg_quiet rfl (step_C tab_ok (fun K hk => hk)) ?_
  refine reg_split rfl rfl rfl (fun hb => ?_) (fun hb => ?_)
  refine reg_on rfl rfl (by assumption) ?_
  refine reg_quiet rfl (step_C tab_ok (fun K hk => hk)) ?_
  refine reg_on rfl rfl (by assumption) ?_
  refine reg_quiet rfl (load_box tab_ok rfl rfl ⟨_, rfl, rfl⟩ rfl) ?_
  refine reg_on rfl rfl (by assumption) ?_
  refine reg_quiet rfl (load_box tab_ok rfl rfl rfl rfl) ?_
  refine reg_on rfl rfl (by assumption) ?_
  refine reg_quiet rfl (step_C tab_ok (fun K hk => hk)) ?_
  refine reg_quiet rfl (pick_T tab_ok rfl (by assumption) rfl) ?_
  refine reg_quiet rfl (step_C tab_ok (fun K hk => hk)) ?_
  refine reg_split rfl rfl rfl (fun hb => ?_) (fun hb => ?_)
  refine reg_on rfl rfl (by assumption) ?_
  refine reg_quiet rfl (load_box tab_ok rfl rfl rfl rfl) ?_
  refine reg_on rfl rfl (by assumption) ?_
  refine reg_quiet rfl (load_box tab_ok rfl rfl rfl rfl) ?_
  refine reg_on rfl rfl (by assumption) ?_
  refine reg_quiet rfl (call_r (hk _) rfl rfl (arg_e arg_nil) (.inl rfl) (fun _ => rfl)) ?_
  refine reg_quiet rfl (pick_T tab_ok rfl (by assumption) rfl) ?_
  refine reg_quiet rfl (step_C tab_ok (fun K hk => hk)) ?_
  refine reg_nil ?_
  refine seq_n ?_
  refine wc_ret ?_
  rotate_left
  refine reg_skip rfl rfl (by assumption) rfl rfl ?_
  refine reg_skip rfl rfl (by assumption) rfl rfl ?_
  refine reg_skip rfl rfl (by assumption) rfl rfl ?_
  refine reg_quiet rfl (pick_F tab_ok rfl (by assumption) rfl) ?_
  refine reg_quiet rfl (step_C tab_ok (fun K hk => hk)) ?_
  refine reg_nil ?_
  refine seq_n ?_
  refine wc_ret ?_
  rotate_left
  refine reg_skip rfl rfl (by assumption) rfl rfl ?_
  refine reg_skip rfl rfl (by assumption) rfl rfl ?_
  refine reg_skip rfl rfl (by assumption) rfl rfl ?_
  refine reg_skip rfl rfl (by assumption) rfl rfl ?_
  refine reg_quiet rfl (pick_F tab_ok rfl (by assumption) rfl) ?_
  refine reg_quiet rfl (step_C tab_ok (fun K hk => hk)) ?_
  refine reg_skip rfl rfl rfl rfl rfl ?_
  refine reg_skip rfl rfl rfl rfl rfl ?_
  refine reg_skip rfl rfl rfl rfl rfl ?_
  refine reg_quiet rfl (pick_F tab_ok rfl rfl rfl) ?_
  refine reg_quiet rfl (step_C tab_ok (fun K hk => hk)) ?_
  refine reg_nil ?_
  refine seq_n ?_
  refine wc_ret ?_
  rotate_left
  all_goals refine ⟨trivial, [], .of rfl rfl rfl rfl rfl ⟨⟨_, rfl, AVLe.of_eq ?_⟩, rfl, trivial⟩ ⟨⟨rfl, rfl, _, rfl, .refl _⟩, ⟨rfl, rfl, _, rfl, .refl _⟩, trivial⟩⟩
  all_goals (simp_all [retOne, AV.ren]; done)
theorem indexFunc2_is (k : FuncId) (p : Frame → Bool) (block : Int) (k1 : FuncId) (hk2 : ∀ f, FnIs Try.prog k [.d (encFrame f), .ptr 0 [], .ptr 1 []] (someRows2 block k1) (.bool (p f)) (someRows2 block k1)) (l : List Frame) (hlen : l.length ≤ 1000000) :
    FnIs Try.prog 79 [.d (.arr 40 encFrame l), .fn (.func k) .anil (.acons (.ptr 0 []) (.acons (.ptr 1 []) .anil))] (someRows2 block k1) (.int .i64 (fidx p l)) (someRows2 block k1) := by
  refine fnIs_of tab_ok Try.func79 rfl rfl rfl ?_
  refine wc_seq ?_
  refine wc_region ?_
  refine reg_quiet rfl (step_C tab_ok (fun K hk => hk)) ?_
  refine reg_nil ?_
  refine seq_n ?_
  refine wc_seq ?_
  refine wc_seq ?_
  refine wc_region ?_
  refine reg_quiet rfl (step_C tab_ok (fun K hk => hk)) ?_
  refine reg_quiet rfl (len_arr tab_ok rfl rfl) ?_
  refine reg_quiet rfl (step_C tab_ok (fun K hk => hk)) ?_
  refine reg_nil ?_
  refine seq_n ?_
  refine wc_block ?_
  refine wc_inv (fun i : Nat => ⟨[(8, .int .i64 i), (7, .int .i64 l.length), (1, .fn (.func k) .anil (.acons (.ptr 0 []) (.acons (.ptr 1 []) .anil))), (0, .d (.arr 40 encFrame l))], someRows (someRows2 block k1), 72, Try.f79.ntmps, 64⟩) (UpTo p l) (fun i => l.length - i) 0 [] (upTo_zero _ _)
    (.of rfl rfl rfl rfl rfl ⟨⟨_, rfl, .refl _⟩, rfl, ⟨_, rfl, .refl _⟩, rfl, ⟨_, rfl, .refl _⟩, rfl, ⟨_, rfl, .refl _⟩, rfl, trivial⟩ ⟨⟨rfl, rfl, _, rfl, .refl _⟩, ⟨rfl, rfl, _, rfl, .refl _⟩, trivial⟩) ?_
  intro i hinv
  have hi := hinv.1
  refine wc_of ?_
  refine wc_seq ?_
  refine wc_region ?_
  refine reg_quiet rfl (step_C tab_ok (fun K hk => hk)) ?_
  refine reg_nil ?_
  refine seq_n ?_
  refine wc_seq ?_
  refine wc_cond rfl (fun hb => ?_) (fun hb => ?_)
  · have hlt : i < l.length := by have := of_decide_eq_true hb; omega
    obtain ⟨f, hf⟩ : ∃ f, l[i]? = some f := ⟨_, List.getElem?_eq_getElem hlt⟩
    have hf' : l[((i : Int)).toNat]? = some f := by rw [Int.toNat_natCast]; exact hf
    refine wc_skip ?_
    refine seq_n ?_
    refine wc_seq ?_
    refine wc_block ?_
    refine wc_seq ?_
    refine wc_region ?_
    refine reg_quiet rfl (step_C tab_ok (fun K hk => hk)) ?_
    refine reg_quiet rfl (step_C tab_ok (fun K hk => hk)) ?_
    refine reg_nil ?_
    refine seq_n ?_
    refine wc_seq ?_
    refine wc_region ?_
    refine reg_quiet rfl (step_C tab_ok (fun K hk => hk)) ?_
    refine reg_quiet rfl (step_C tab_ok (fun K hk => hk)) ?_
    refine reg_quiet rfl (step_C tab_ok (fun K hk => hk)) ?_
    refine reg_quiet rfl (index_arr tab_ok rfl rfl rfl rfl rfl (by omega) (by assumption)) ?_
    refine reg_quiet rfl (load_i tab_ok rfl rfl) ?_
    refine reg_do rfl (call_h [] (hk2 _) rfl rfl rfl (arg_e (arg_ptr rfl rfl (arg_ptr rfl rfl arg_nil))) ⟨⟨rfl, rfl, _, _, rfl, rfl, .refl _⟩, ⟨rfl, rfl, _, _, rfl, rfl, .refl _⟩, trivial⟩ rfl rfl (.inl rfl) rfl rfl) rfl rfl ?_
    refine reg_nil ?_
    refine seq_n ?_
    refine wc_cond rfl (fun hu => ?_) (fun hu => ?_)
    · refine wc_seq ?_
      refine wc_region ?_
      refine reg_quiet rfl (step_C tab_ok (fun K hk => hk)) ?_
      refine reg_quiet rfl (step_C tab_ok (fun K hk => hk)) ?_
      refine reg_nil ?_
      refine seq_n ?_
      refine wc_ret ?_
      refine blk_r ?_
      refine seq_r ?_
      refine loop_r ?_
      refine blk_r ?_
      refine seq_r ?_
      refine ⟨trivial, [], .of rfl rfl rfl rfl rfl ⟨⟨_, rfl, AVLe.of_eq ?_⟩, rfl, trivial⟩ ⟨⟨rfl, rfl, _, rfl, .refl _⟩, ⟨rfl, rfl, _, rfl, .refl _⟩, trivial⟩⟩
      rw [fidx_hit hinv hf hu]
      rfl
    · refine wc_skip ?_
      refine blk_n ?_
      refine seq_n ?_
      refine wc_region ?_
      refine reg_quiet rfl (add_int tab_ok rfl rfl (wrap_i64 (by omega) (by omega))) ?_
      refine reg_quiet rfl (step_C tab_ok (fun K hk => hk)) ?_
      refine reg_nil ?_
      refine loop_n (i + 1) [] (upTo_succ hinv hf hu) (by omega) ?_
      exact .of rfl rfl rfl rfl rfl ⟨⟨_, rfl, .refl _⟩, rfl, ⟨_, rfl, .refl _⟩, rfl, ⟨_, rfl, .refl _⟩, rfl, ⟨_, rfl, .refl _⟩, rfl, trivial⟩ ⟨⟨rfl, rfl, _, rfl, .refl _⟩, ⟨rfl, rfl, _, rfl, .refl _⟩, trivial⟩
  · have he : i = l.length := by have := of_decide_eq_false hb; omega
    refine wc_exit ?_
    refine seq_x ?_
    refine loop_x ?_
    refine blk_x ?_
    refine seq_n ?_
    refine wc_seq ?_
    refine wc_region ?_
    refine reg_quiet rfl (step_C tab_ok (fun K hk => hk)) ?_
    refine reg_nil ?_
    refine seq_n ?_
    refine wc_ret ?_
    refine ⟨trivial, [], .of rfl rfl rfl rfl rfl ⟨⟨_, rfl, AVLe.of_eq ?_⟩, rfl, trivial⟩ ⟨⟨rfl, rfl, _, rfl, .refl _⟩, ⟨rfl, rfl, _, rfl, .refl _⟩, trivial⟩⟩
    rw [fidx_miss hinv he]
    rfl
theorem arg_fn2 {look : Nat → Option Row} {ρ : Nat → Option Nat} {f : Fn} {r k r' k' : Nat} {p p' : List Step} {bs avs : List AV} (hr : ρ r = some k) (h64 : Nat.blt r 64 = true) (hr' : ρ r' = some k') (h64' : Nat.blt r' 64 = true) (h : ArgsA look ρ bs avs) :
    ArgsA look ρ (.fn f .anil (.acons (.ptr k p) (.acons (.ptr k' p') .anil)) :: bs) (.fn f .anil (.acons (.ptr r p) (.acons (.ptr r' p') .anil)) :: avs) :=
  ⟨_, avs, rfl, ⟨rfl, by simp [AV.lt, h64, h64']⟩, AVLe.of_eq (by simp only [AV.ren, hr, hr']), h⟩
theorem contains2_is (k : FuncId) (p : Frame → Bool) (block : Int) (k1 : FuncId) (hk2 : ∀ f, FnIs Try.prog k [.d (encFrame f), .ptr 0 [], .ptr 1 []] (someRows2 block k1) (.bool (p f)) (someRows2 block k1)) (l : List Frame) (hlen : l.length ≤ 1000000) :
    FnIs Try.prog 57 [.d (.arr 40 encFrame l), .fn (.func k) .anil (.acons (.ptr 0 []) (.acons (.ptr 1 []) .anil))] (someRows2 block k1) (.bool (l.any p)) (someRows2 block k1) := by
  refine fnIs_of tab_ok Try.func57 rfl rfl rfl ?_
  refine wc_seq ?_
  refine wc_region ?_
  refine reg_quiet rfl (step_C tab_ok (fun K hk => hk)) ?_
  refine reg_nil ?_
  refine seq_n ?_
  refine wc_seq ?_
  refine wc_region ?_
  refine reg_quiet rfl (step_C tab_ok (fun K hk => hk)) ?_
  refine reg_quiet rfl (step_C tab_ok (fun K hk => hk)) ?_
  refine reg_do rfl (call_h [] (indexFunc2_is k p block k1 hk2 l hlen) rfl rfl rfl (arg_e (arg_fn2 rfl rfl rfl rfl arg_nil)) ⟨⟨rfl, rfl, _, _, rfl, rfl, .refl _⟩, ⟨rfl, rfl, _, _, rfl, rfl, .refl _⟩, trivial⟩ rfl rfl (.inl rfl) rfl rfl) rfl rfl ?_
  refine reg_quiet rfl (step_C tab_ok (fun K hk => hk)) ?_
  refine reg_quiet rfl (step_C tab_ok (fun K hk => hk)) ?_
  refine reg_nil ?_
  refine seq_n ?_
  refine wc_ret ?_
  refine ⟨trivial, [], .of rfl rfl rfl rfl rfl ⟨⟨_, rfl, AVLe.of_eq ?_⟩, rfl, trivial⟩ ⟨⟨rfl, rfl, _, rfl, .refl _⟩, ⟨rfl, rfl, _, rfl, .refl _⟩, trivial⟩⟩
  simp only [← fidx_any]
  rfl
theorem some_is (k1 : FuncId) (p : Frame → Bool) (hk : ∀ f, FnIs Try.prog k1 [.d (encFrame f)] [] (.bool (p f)) []) (l : List Frame) (h block : Int) (hlen : l.length ≤ 1000000) :
    FnIs Try.prog 70 [.d (encS l h), .d (i6 block), .fn (.func k1) .anil .anil] [] (.bool (l.any fun f => f.used && decide (f.block = block) && p f)) [] := by
  refine fnIs_of tab_ok Try.func70 rfl rfl rfl ?_
  refine wc_seq ?_
  refine wc_region ?_
  refine reg_new (step_C tab_ok (fun K hk => hk)) rfl ?_
  refine reg_new (step_C tab_ok (fun K hk => hk)) rfl ?_
  refine reg_new (step_C tab_ok (fun K hk => hk)) rfl ?_
  refine reg_quiet rfl (step_C tab_ok (fun K hk => hk)) ?_
  refine reg_nil ?_
  refine seq_n ?_
  refine wc_seq ?_
  refine wc_region ?_
  refine reg_quiet rfl (step_C tab_ok (fun K hk => hk)) ?_
  refine reg_quiet rfl (load_box tab_ok rfl rfl ⟨_, rfl, rfl⟩ rfl) ?_
  refine reg_quiet rfl (step_C tab_ok (fun K hk => hk)) ?_
  refine reg_do rfl (call_h [(0, some 72), (1, some 80)] (contains2_is 83 _ block k1 (some1_is block k1 p hk) l hlen) rfl rfl rfl (arg_e (arg_fn2 rfl rfl rfl rfl arg_nil)) ⟨⟨rfl, rfl, _, _, rfl, rfl, .refl _⟩, ⟨rfl, rfl, _, _, rfl, rfl, .refl _⟩, trivial⟩ rfl rfl (.inl rfl) rfl rfl) rfl rfl ?_
  refine reg_quiet rfl (step_C tab_ok (fun K hk => hk)) ?_
  refine reg_nil ?_
  refine seq_n ?_
  refine wc_ret ?_
  exact ⟨trivial, [], .of rfl rfl rfl rfl rfl ⟨⟨_, rfl, AVLe.of_eq rfl⟩, rfl, trivial⟩ trivial⟩
theorem loading_is (l : List Frame) (h block : Int) (hlen : l.length ≤ 1000000) : FnIs Try.prog 40 [.d (encS l h), .d (i6 block)] [] (.bool (l.any fun f => f.used && decide (f.block = block) && f.loading)) [] := by
  refine fnIs_of tab_ok Try.func40 rfl rfl rfl ?_
  refine wc_seq ?_
  refine wc_region ?_
  refine reg_new (step_C tab_ok (fun K hk => hk)) rfl ?_
  refine reg_quiet rfl (step_C tab_ok (fun K hk => hk)) ?_
  refine reg_nil ?_
  refine seq_n ?_
  refine wc_seq ?_
  refine wc_region ?_
  refine reg_quiet rfl (load_box tab_ok rfl rfl rfl rfl) ?_
  refine reg_quiet rfl (step_C tab_ok (fun K hk => hk)) ?_
  refine reg_quiet rfl (call_r (some_is 71 _ loading1_is l h block hlen) rfl rfl (arg_e (arg_e (arg_fn arg_nil))) (.inl rfl) (fun _ => rfl)) ?_
  refine reg_quiet rfl (step_C tab_ok (fun K hk => hk)) ?_
  refine reg_nil ?_
  refine seq_n ?_
  refine wc_ret ?_
  exact ⟨trivial, [], .of rfl rfl rfl rfl rfl ⟨⟨_, rfl, AVLe.of_eq rfl⟩, rfl, trivial⟩ trivial⟩
theorem held_is (l : List Frame) (h block : Int) (hlen : l.length ≤ 1000000) : FnIs Try.prog 42 [.d (encS l h), .d (i6 block)] [] (.bool (l.any fun f => f.used && decide (f.block = block) && (f.loading || f.busy))) [] := by
  refine fnIs_of tab_ok Try.func42 rfl rfl rfl ?_
  refine wc_seq ?_
  refine wc_region ?_
  refine reg_new (step_C tab_ok (fun K hk => hk)) rfl ?_
  refine reg_quiet rfl (step_C tab_ok (fun K hk => hk)) ?_
  refine reg_nil ?_
  refine seq_n ?_
  refine wc_seq ?_
  refine wc_region ?_
  refine reg_quiet rfl (load_box tab_ok rfl rfl rfl rfl) ?_
  refine reg_quiet rfl (step_C tab_ok (fun K hk => hk)) ?_
  refine reg_quiet rfl (call_r (some_is 72 _ held1_is l h block hlen) rfl rfl (arg_e (arg_e (arg_fn arg_nil))) (.inl rfl) (fun _ => rfl)) ?_
  refine reg_quiet rfl (step_C tab_ok (fun K hk => hk)) ?_
  refine reg_nil ?_
  refine seq_n ?_
  refine wc_ret ?_
  exact ⟨trivial, [], .of rfl rfl rfl rfl rfl ⟨⟨_, rfl, AVLe.of_eq rfl⟩, rfl, trivial⟩ trivial⟩
theorem room_is (l : List Frame) (h block : Int) (hlen : l.length ≤ 1000000) : FnIs Try.prog 43 [.d (encS l h), .d (i6 block)] [] (.bool ((l.any fun f => !f.used || evB f) || (l.any fun f => f.used && decide (f.block = block) && true))) [] := by
  refine fnIs_of tab_ok Try.func43 rfl rfl rfl ?_
  refine wc_seq ?_
  refine wc_region ?_
  refine reg_new (step_C tab_ok (fun K hk => hk)) rfl ?_
  refine reg_quiet rfl (step_C tab_ok (fun K hk => hk)) ?_
  refine reg_nil ?_
  refine seq_n ?_
  refine wc_seq ?_
  refine wc_region ?_
  refine reg_quiet rfl (step_C tab_ok (fun K hk => hk)) ?_
  refine reg_quiet rfl (load_box tab_ok rfl rfl ⟨_, rfl, rfl⟩ rfl) ?_
  refine reg_quiet rfl (call_r (exists_is l hlen) rfl rfl (arg_e arg_nil) (.inl rfl) (fun _ => rfl)) ?_
  refine reg_quiet rfl (step_C tab_ok (fun K hk => hk)) ?_
  refine reg_split rfl rfl rfl (fun hb => ?_) (fun hb => ?_)
  refine reg_on rfl rfl (by assumption) ?_
  refine reg_quiet rfl (load_box tab_ok rfl rfl rfl rfl) ?_
  refine reg_on rfl rfl (by assumption) ?_
  refine reg_quiet rfl (step_C tab_ok (fun K hk => hk)) ?_
  refine reg_on rfl rfl (by assumption) ?_
  refine reg_quiet rfl (call_r (some_is 73 _ room1_is l h block hlen) rfl rfl (arg_e (arg_e (arg_fn arg_nil))) (.inl rfl) (fun _ => rfl)) ?_
  refine reg_quiet rfl (pick_F tab_ok rfl (by assumption) rfl) ?_
  refine reg_quiet rfl (step_C tab_ok (fun K hk => hk)) ?_
  refine reg_nil ?_
  refine seq_n ?_
  refine wc_ret ?_
  rotate_left
  refine reg_skip rfl rfl (by assumption) rfl rfl ?_
  refine reg_skip rfl rfl (by assumption) rfl rfl ?_
  refine reg_skip rfl rfl (by assumption) rfl rfl ?_
  refine reg_quiet rfl (pick_T tab_ok rfl (by assumption) rfl) ?_
  refine reg_quiet rfl (step_C tab_ok (fun K hk => hk)) ?_
  refine reg_nil ?_
  refine seq_n ?_
  refine wc_ret ?_
  rotate_left
  all_goals refine ⟨trivial, [], .of rfl rfl rfl rfl rfl ⟨⟨_, rfl, AVLe.of_eq ?_⟩, rfl, trivial⟩ trivial⟩
  · rw [hb]; rfl
  · rw [hb]; rfl
theorem shsame_is (a b : List Frame) (h g : Int) (hla : a.length ≤ 1000000) (hlb : b.length ≤ 1000000) : FnIs Try.prog 44 [.d (encS a h), .d (encS b g)] [] (.bool (decide (h = g) && decide (a = b))) [] := by
  refine fnIs_of tab_ok Try.func44 rfl rfl rfl ?_
  refine wc_seq ?_
  refine wc_region ?_
  refine reg_new (step_C tab_ok (fun K hk => hk)) rfl ?_
  refine reg_new (step_C tab_ok (fun K hk => hk)) rfl ?_
  refine reg_quiet rfl (step_C tab_ok (fun K hk => hk)) ?_
  refine reg_nil ?_
  refine seq_n ?_
  refine wc_seq ?_
  refine wc_region ?_
  refine reg_quiet rfl (step_C tab_ok (fun K hk => hk)) ?_
  refine reg_quiet rfl (load_box tab_ok rfl rfl ⟨_, rfl, rfl⟩ rfl) ?_
  refine reg_quiet rfl (step_C tab_ok (fun K hk => hk)) ?_
  refine reg_quiet rfl (load_box tab_ok rfl rfl ⟨_, rfl, rfl⟩ rfl) ?_
  refine reg_quiet rfl (step_C tab_ok (fun K hk => hk)) ?_
  refine reg_quiet rfl (step_C tab_ok (fun K hk => hk)) ?_
  refine reg_split rfl rfl rfl (fun hb => ?_) (fun hb => ?_)
  refine reg_on rfl rfl (by assumption) ?_
  refine reg_quiet rfl (step_C tab_ok (fun K hk => hk)) ?_
  refine reg_on rfl rfl (by assumption) ?_
  refine reg_quiet rfl (load_box tab_ok rfl rfl ⟨_, rfl, rfl⟩ rfl) ?_
  refine reg_on rfl rfl (by assumption) ?_
  refine reg_quiet rfl (step_C tab_ok (fun K hk => hk)) ?_
  refine reg_on rfl rfl (by assumption) ?_
  refine reg_quiet rfl (load_box tab_ok rfl rfl ⟨_, rfl, rfl⟩ rfl) ?_
  refine reg_on rfl rfl (by assumption) ?_
  refine reg_quiet rfl (call_r (same_is a b hla hlb) rfl rfl (arg_e (arg_e arg_nil)) (.inl rfl) (fun _ => rfl)) ?_
  refine reg_quiet rfl (pick_T tab_ok rfl (by assumption) rfl) ?_
  refine reg_quiet rfl (step_C tab_ok (fun K hk => hk)) ?_
  refine reg_nil ?_
  refine seq_n ?_
  refine wc_ret ?_
  rotate_left
  refine reg_skip rfl rfl (by assumption) rfl rfl ?_
  refine reg_skip rfl rfl (by assumption) rfl rfl ?_
  refine reg_skip rfl rfl (by assumption) rfl rfl ?_
  refine reg_skip rfl rfl (by assumption) rfl rfl ?_
  refine reg_skip rfl rfl (by assumption) rfl rfl ?_
  refine reg_quiet rfl (pick_F tab_ok rfl (by assumption) rfl) ?_
  refine reg_quiet rfl (step_C tab_ok (fun K hk => hk)) ?_
  refine reg_nil ?_
  refine seq_n ?_
  refine wc_ret ?_
  rotate_left
  all_goals refine ⟨trivial, [], .of rfl rfl rfl rfl rfl ⟨⟨_, rfl, AVLe.of_eq ?_⟩, rfl, trivial⟩ trivial⟩
  all_goals (simp_all [retOne, AV.ren]; done)
theorem refshsame_is (a b : List Frame) (h g : Int) (hla : a.length ≤ 1000000) (hlb : b.length ≤ 1000000) : FnIs Try.prog 36 [.d (encS a h), .d (encS b g)] [] (.int .i64 (if (decide (h = g) && decide (a = b)) = true then 1 else 0)) [] := by
  refine fnIs_of tab_ok Try.func36 rfl rfl rfl ?_
  refine wc_seq ?_
  refine wc_region ?_
  refine reg_new (step_C tab_ok (fun K hk => hk)) rfl ?_
  refine reg_new (step_C tab_ok (fun K hk => hk)) rfl ?_
  refine reg_quiet rfl (step_C tab_ok (fun K hk => hk)) ?_
  refine reg_nil ?_
  refine seq_n ?_
  refine wc_seq ?_
  refine wc_seq ?_
  refine wc_region ?_
  refine reg_quiet rfl (step_C tab_ok (fun K hk => hk)) ?_
  refine reg_quiet rfl (load_box tab_ok rfl rfl ⟨_, rfl, rfl⟩ rfl) ?_
  refine reg_quiet rfl (step_C tab_ok (fun K hk => hk)) ?_
  refine reg_quiet rfl (load_box tab_ok rfl rfl ⟨_, rfl, rfl⟩ rfl) ?_
  refine reg_quiet rfl (step_C tab_ok (fun K hk => hk)) ?_
  refine reg_nil ?_
  refine seq_n ?_
  refine wc_cond rfl (fun hb => ?_) (fun hb => ?_)
  refine wc_seq ?_
  refine wc_region ?_
  refine reg_quiet rfl (step_C tab_ok (fun K hk => hk)) ?_
  refine reg_nil ?_
  refine seq_n ?_
  refine wc_ret ?_
  refine seq_r ?_
  rotate_left
  refine wc_skip ?_
  refine seq_n ?_
  refine wc_seq ?_
  refine wc_region ?_
  refine reg_quiet rfl (step_C tab_ok (fun K hk => hk)) ?_
  refine reg_quiet rfl (load_box tab_ok rfl rfl ⟨_, rfl, rfl⟩ rfl) ?_
  refine reg_quiet rfl (step_C tab_ok (fun K hk => hk)) ?_
  refine reg_quiet rfl (load_box tab_ok rfl rfl ⟨_, rfl, rfl⟩ rfl) ?_
  refine reg_quiet rfl (call_r (refsame_is a b hla hlb) rfl rfl (arg_e (arg_e arg_nil)) (.inl rfl) (fun _ => rfl)) ?_
  refine reg_quiet rfl (step_C tab_ok (fun K hk => hk)) ?_
  refine reg_nil ?_
  refine seq_n ?_
  refine wc_ret ?_
  rotate_left
  all_goals refine ⟨trivial, [], .of rfl rfl rfl rfl rfl ⟨⟨_, rfl, AVLe.of_eq ?_⟩, rfl, trivial⟩ trivial⟩
  all_goals (simp_all [retOne, AV.ren]; done)
end Go.Proofs.Ytmdfeekpehcieaa

/- Shards: new memory, samples. -/
namespace Go.Proofs.Ytmdfeekpehcieaa
open Go.Eng
set_option maxHeartbeats 2000000
attribute [local irreducible] WC RegS RegD SeqQ BlkQ ScoQ RegK CutK Sat SatN FnIs LoopQ StepIs OpIs
def askP (block q : Int) (f : Frame) : Bool := f.used && decide (f.block = block) && (f.loading || decide (q = 1) && f.busy || decide (q = 2))
theorem asks_is (l : List Frame) (h block q : Int) (hlen : l.length ≤ 1000000) : FnIs Try.prog 41 [.d (encS l h), .d (i6 block), .d (i6 q)] [] (.int .i64 (if l.any (askP block q) = true then 1 else if decide (q = 2) = true then (if (l.any fun f => !f.used || evB f) = true then 1 else 0) else 0)) [] := by
  refine fnIs_of tab_ok Try.func41 rfl rfl rfl ?_
  refine wc_seq ?_
  refine wc_region ?_
  refine reg_new (step_C tab_ok (fun K hk => hk)) rfl ?_
  refine reg_quiet rfl (step_C tab_ok (fun K hk => hk)) ?_
  refine reg_nil ?_
  refine seq_n ?_
  refine wc_seq ?_
  refine wc_seq ?_
  refine wc_region ?_
  refine reg_quiet rfl (step_C tab_ok (fun K hk => hk)) ?_
  refine reg_nil ?_
  refine seq_n ?_
  refine wc_block ?_
  refine wc_inv (fun i : Nat => ⟨[(7, .int .i64 i), (3, .ptr 64 []), (1, .d (i6 block)), (2, .d (i6 q))], [(64, some (.box 61 (.d (encS l h))))], 72, Try.f41.ntmps, 64⟩) (UpTo (askP block q) l) (fun i => l.length - i) 0 [] (upTo_zero _ _)
    (.of rfl rfl rfl rfl rfl ⟨⟨_, rfl, .refl _⟩, rfl, ⟨_, rfl, .refl _⟩, rfl, ⟨_, rfl, .refl _⟩, rfl, ⟨_, rfl, .refl _⟩, rfl, trivial⟩ ⟨⟨rfl, rfl, _, rfl, .refl _⟩, trivial⟩) ?_
  intro i hinv
  have hi := hinv.1
  refine wc_of ?_
  refine wc_seq ?_
  refine wc_seq ?_
  refine wc_region ?_
  refine reg_quiet rfl (step_C tab_ok (fun K hk => hk)) ?_
  refine reg_quiet rfl (step_C tab_ok (fun K hk => hk)) ?_
  refine reg_quiet rfl (load_box tab_ok rfl rfl ⟨_, rfl, rfl⟩ rfl) ?_
  refine reg_quiet rfl (len_arr tab_ok rfl rfl) ?_
  refine reg_quiet rfl (step_C tab_ok (fun K hk => hk)) ?_
  refine reg_nil ?_
  refine seq_n ?_
  refine wc_cond rfl (fun hb => ?_) (fun hb => ?_)
  · have hlt : i < l.length := by have := of_decide_eq_true hb; omega
    obtain ⟨f, hf⟩ : ∃ f, l[i]? = some f := ⟨_, List.getElem?_eq_getElem hlt⟩
    have hf' : l[((i : Int)).toNat]? = some f := by rw [Int.toNat_natCast]; exact hf
    refine wc_skip ?_
    refine seq_n ?_
    refine wc_seq ?_
    refine wc_block ?_
    refine wc_seq ?_
    refine wc_region ?_
    refine reg_quiet rfl (step_C tab_ok (fun K hk => hk)) ?_
    refine reg_quiet rfl (load_box tab_ok rfl rfl ⟨_, rfl, rfl⟩ rfl) ?_
    refine reg_quiet rfl (step_C tab_ok (fun K hk => hk)) ?_
    refine reg_quiet rfl (index_arr tab_ok rfl rfl rfl rfl rfl (by omega) (by assumption)) ?_
    refine reg_quiet rfl (load_i tab_ok rfl rfl) ?_
    refine reg_new (step_C tab_ok (fun K hk => hk)) rfl ?_
    refine reg_store (store_row tab_ok rfl rfl rfl ⟨_, ⟨rfl, rfl, rfl⟩, rfl⟩ rfl) ?_
    refine reg_nil ?_
    refine seq_n ?_
    refine wc_seq_cut 44 (.bool (f.used && decide (f.block = block) && (f.loading || decide (q = 1) && f.busy || decide (q = 2)))) _ rfl ?_ ?_
    · refine reg_quiet rfl (step_C tab_ok (fun K hk => hk)) ?_
      refine reg_quiet rfl (load_box tab_ok rfl rfl ⟨_, rfl, rfl⟩ rfl) ?_
      refine reg_quiet rfl (step_C tab_ok (fun K hk => hk)) ?_
      refine reg_split rfl rfl rfl (fun hb => ?_) (fun hb => ?_)
      refine reg_on rfl rfl (by assumption) ?_
      refine reg_quiet rfl (step_C tab_ok (fun K hk => hk)) ?_
      refine reg_on rfl rfl (by assumption) ?_
      refine reg_quiet rfl (load_box tab_ok rfl rfl ⟨_, rfl, rfl⟩ rfl) ?_
      refine reg_on rfl rfl (by assumption) ?_
      refine reg_quiet rfl (step_C tab_ok (fun K hk => hk)) ?_
      refine reg_on rfl rfl (by assumption) ?_
      refine reg_quiet rfl (step_C tab_ok (fun K hk => hk)) ?_
      refine reg_quiet rfl (pick_T tab_ok rfl (by assumption) rfl) ?_
      refine reg_quiet rfl (step_C tab_ok (fun K hk => hk)) ?_
      refine reg_split rfl rfl rfl (fun hb => ?_) (fun hb => ?_)
      refine reg_on rfl rfl (by assumption) ?_
      refine reg_quiet rfl (step_C tab_ok (fun K hk => hk)) ?_
      refine reg_on rfl rfl (by assumption) ?_
      refine reg_quiet rfl (load_box tab_ok rfl rfl ⟨_, rfl, rfl⟩ rfl) ?_
      refine reg_on rfl rfl (by assumption) ?_
      refine reg_quiet rfl (step_C tab_ok (fun K hk => hk)) ?_
      refine reg_split rfl rfl rfl (fun hb => ?_) (fun hb => ?_)
      refine reg_on rfl rfl (by assumption) ?_
      refine reg_quiet rfl (step_C tab_ok (fun K hk => hk)) ?_
      refine reg_on rfl rfl (by assumption) ?_
      refine reg_quiet rfl (step_C tab_ok (fun K hk => hk)) ?_
      refine reg_on rfl rfl (by assumption) ?_
      refine reg_quiet rfl (step_C tab_ok (fun K hk => hk)) ?_
      refine reg_split rfl rfl rfl (fun hb => ?_) (fun hb => ?_)
      refine reg_on rfl rfl (by assumption) ?_
      refine reg_quiet rfl (step_C tab_ok (fun K hk => hk)) ?_
      refine reg_on rfl rfl (by assumption) ?_
      refine reg_quiet rfl (load_box tab_ok rfl rfl ⟨_, rfl, rfl⟩ rfl) ?_
      refine reg_on rfl rfl (by assumption) ?_
      refine reg_quiet rfl (pick_T tab_ok rfl (by assumption) rfl) ?_
      refine reg_on rfl rfl (by assumption) ?_
      refine reg_quiet rfl (pick_F tab_ok rfl (by assumption) rfl) ?_
      refine reg_on rfl rfl (by assumption) ?_
      refine reg_quiet rfl (step_C tab_ok (fun K hk => hk)) ?_
      refine reg_split rfl rfl rfl (fun hb => ?_) (fun hb => ?_)
      refine reg_on rfl rfl (by assumption) ?_
      refine reg_quiet rfl (step_C tab_ok (fun K hk => hk)) ?_
      refine reg_on rfl rfl (by assumption) ?_
      refine reg_quiet rfl (step_C tab_ok (fun K hk => hk)) ?_
      refine reg_on rfl rfl (by assumption) ?_
      refine reg_quiet rfl (pick_F tab_ok rfl (by assumption) rfl) ?_
      refine reg_quiet rfl (pick_T tab_ok rfl (by assumption) rfl) ?_
      rotate_left
      refine reg_skip rfl rfl (by assumption) rfl rfl ?_
      refine reg_skip rfl rfl (by assumption) rfl rfl ?_
      refine reg_on rfl rfl (by assumption) ?_
      refine reg_quiet rfl (pick_T tab_ok rfl (by assumption) rfl) ?_
      refine reg_quiet rfl (pick_T tab_ok rfl (by assumption) rfl) ?_
      rotate_left
      refine reg_skip rfl rfl (by assumption) rfl rfl ?_
      refine reg_skip rfl rfl (by assumption) rfl rfl ?_
      refine reg_on rfl rfl (by assumption) ?_
      refine reg_quiet rfl (pick_F tab_ok rfl (by assumption) rfl) ?_
      refine reg_on rfl rfl (by assumption) ?_
      refine reg_quiet rfl (pick_F tab_ok rfl (by assumption) rfl) ?_
      refine reg_on rfl rfl (by assumption) ?_
      refine reg_quiet rfl (step_C tab_ok (fun K hk => hk)) ?_
      refine reg_on rfl rfl rfl ?_
      refine reg_quiet rfl (step_C tab_ok (fun K hk => hk)) ?_
      refine reg_on rfl rfl rfl ?_
      refine reg_quiet rfl (step_C tab_ok (fun K hk => hk)) ?_
      refine reg_on rfl rfl (by assumption) ?_
      refine reg_quiet rfl (pick_F tab_ok rfl rfl rfl) ?_
      refine reg_quiet rfl (pick_T tab_ok rfl (by assumption) rfl) ?_
      rotate_left
      refine reg_skip rfl rfl (by assumption) rfl rfl ?_
      refine reg_skip rfl rfl (by assumption) rfl rfl ?_
      refine reg_skip rfl rfl (by assumption) rfl rfl ?_
      refine reg_skipU rfl rfl rfl rfl ?_
      refine reg_skipU rfl rfl rfl rfl ?_
      refine reg_skip rfl rfl (by assumption) rfl rfl ?_
      refine reg_on rfl rfl (by assumption) ?_
      refine reg_quiet rfl (pick_T tab_ok rfl (by assumption) rfl) ?_
      refine reg_on rfl rfl (by assumption) ?_
      refine reg_quiet rfl (step_C tab_ok (fun K hk => hk)) ?_
      refine reg_skip rfl rfl rfl rfl rfl ?_
      refine reg_skip rfl rfl rfl rfl rfl ?_
      refine reg_on rfl rfl (by assumption) ?_
      refine reg_quiet rfl (pick_T tab_ok rfl rfl rfl) ?_
      refine reg_quiet rfl (pick_T tab_ok rfl (by assumption) rfl) ?_
      rotate_left
      refine reg_skip rfl rfl (by assumption) rfl rfl ?_
      refine reg_skip rfl rfl (by assumption) rfl rfl ?_
      refine reg_skip rfl rfl (by assumption) rfl rfl ?_
      refine reg_skipU rfl rfl rfl rfl ?_
      refine reg_skipU rfl rfl rfl rfl ?_
      refine reg_skipU rfl rfl rfl rfl ?_
      refine reg_skipU rfl rfl rfl rfl ?_
      refine reg_skipU rfl rfl rfl rfl ?_
      refine reg_skipU rfl rfl rfl rfl ?_
      refine reg_skip rfl rfl (by assumption) rfl rfl ?_
      refine reg_skip rfl rfl (by assumption) rfl rfl ?_
      refine reg_skipU rfl rfl rfl rfl ?_
      refine reg_skipU rfl rfl rfl rfl ?_
      refine reg_skip rfl rfl (by assumption) rfl rfl ?_
      refine reg_quiet rfl (pick_F tab_ok rfl (by assumption) rfl) ?_
      rotate_left
      refine reg_skip rfl rfl (by assumption) rfl rfl ?_
      refine reg_skip rfl rfl (by assumption) rfl rfl ?_
      refine reg_skip rfl rfl (by assumption) rfl rfl ?_
      refine reg_skip rfl rfl (by assumption) rfl rfl ?_
      refine reg_quiet rfl (pick_F tab_ok rfl (by assumption) rfl) ?_
      refine reg_quiet rfl (step_C tab_ok (fun K hk => hk)) ?_
      refine reg_skip rfl rfl rfl rfl rfl ?_
      refine reg_skip rfl rfl rfl rfl rfl ?_
      refine reg_skip rfl rfl rfl rfl rfl ?_
      refine reg_skipU rfl rfl rfl rfl ?_
      refine reg_skipU rfl rfl rfl rfl ?_
      refine reg_skipU rfl rfl rfl rfl ?_
      refine reg_skipU rfl rfl rfl rfl ?_
      refine reg_skipU rfl rfl rfl rfl ?_
      refine reg_skipU rfl rfl rfl rfl ?_
      refine reg_skip rfl rfl rfl rfl rfl ?_
      refine reg_skip rfl rfl rfl rfl rfl ?_
      refine reg_skipU rfl rfl rfl rfl ?_
      refine reg_skipU rfl rfl rfl rfl ?_
      refine reg_skip rfl rfl rfl rfl rfl ?_
      refine reg_quiet rfl (pick_F tab_ok rfl rfl rfl) ?_
      rotate_left
      all_goals refine reg_cut 24 rfl rfl rfl rfl rfl rfl rfl rfl rfl (AVLe.of_eq ?_)
      all_goals (first | rfl | (simp_all; done) | (simp_all; omega))
    refine wc_cond rfl (fun hu => ?_) (fun hu => ?_)
    · refine wc_seq ?_
      refine wc_region ?_
      refine reg_quiet rfl (step_C tab_ok (fun K hk => hk)) ?_
      refine reg_nil ?_
      refine seq_n ?_
      refine wc_ret ?_
      refine blk_r ?_
      refine seq_r ?_
      refine loop_r ?_
      refine blk_r ?_
      refine seq_r ?_
      refine ⟨trivial, [], .of rfl rfl rfl rfl rfl ⟨⟨_, rfl, AVLe.of_eq ?_⟩, rfl, trivial⟩ trivial⟩
      rw [any_hit (p := askP block q) hf hu]
      rfl
    · refine wc_skip ?_
      refine blk_n ?_
      refine seq_n ?_
      refine wc_region ?_
      refine reg_quiet rfl (step_C tab_ok (fun K hk => hk)) ?_
      refine reg_quiet rfl (add_int tab_ok rfl rfl (wrap_i64 (by omega) (by omega))) ?_
      refine reg_quiet rfl (step_C tab_ok (fun K hk => hk)) ?_
      refine reg_nil ?_
      refine loop_n (i + 1) [] (upTo_succ hinv hf hu) (by omega) ?_
      exact .of rfl rfl rfl rfl rfl ⟨⟨_, rfl, .refl _⟩, rfl, ⟨_, rfl, .refl _⟩, rfl, ⟨_, rfl, .refl _⟩, rfl, ⟨_, rfl, .refl _⟩, rfl, trivial⟩ ⟨⟨rfl, rfl, _, rfl, .refl _⟩, trivial⟩
  · have he : i = l.length := by have := of_decide_eq_false hb; omega
    have hno := any_miss (p := askP block q) hinv he
    refine wc_exit ?_
    refine seq_x ?_
    refine loop_x ?_
    refine blk_x ?_
    refine seq_n ?_
    refine wc_seq ?_
    refine wc_seq ?_
    refine wc_region ?_
    refine reg_quiet rfl (step_C tab_ok (fun K hk => hk)) ?_
    refine reg_quiet rfl (step_C tab_ok (fun K hk => hk)) ?_
    refine reg_nil ?_
    refine seq_n ?_
    refine wc_cond rfl (fun hq => ?_) (fun hq => ?_)
    · refine wc_seq ?_
      refine wc_region ?_
      refine reg_quiet rfl (step_C tab_ok (fun K hk => hk)) ?_
      refine reg_quiet rfl (load_box tab_ok rfl rfl ⟨_, rfl, rfl⟩ rfl) ?_
      refine reg_quiet rfl (call_r (refexists_is l hlen) rfl rfl (arg_e arg_nil) (.inl rfl) (fun _ => rfl)) ?_
      refine reg_quiet rfl (step_C tab_ok (fun K hk => hk)) ?_
      refine reg_nil ?_
      refine seq_n ?_
      refine wc_ret ?_
      refine seq_r ?_
      refine ⟨trivial, [], .of rfl rfl rfl rfl rfl ⟨⟨_, rfl, AVLe.of_eq ?_⟩, rfl, trivial⟩ trivial⟩
      rw [hno, hq]
      rfl
    · refine wc_skip ?_
      refine seq_n ?_
      refine wc_seq ?_
      refine wc_region ?_
      refine reg_quiet rfl (step_C tab_ok (fun K hk => hk)) ?_
      refine reg_nil ?_
      refine seq_n ?_
      refine wc_ret ?_
      refine ⟨trivial, [], .of rfl rfl rfl rfl rfl ⟨⟨_, rfl, AVLe.of_eq ?_⟩, rfl, trivial⟩ trivial⟩
      rw [hno, hq]
      rfl
theorem own_is (l : List Frame) (h : Int) (hlen : l.length ≤ 1000000) : FnIs Try.prog 78 [.d (encS l h)] [] (ownS 64 l.length h) [(64, .ds 39 40 true encFrame l)] := by
  have hlen2 : l.length ≤ 1048576 := by omega
  have hcopy : l.take (List.replicate l.length zeroFrame).length ++ (List.replicate l.length zeroFrame).drop l.length = l := by simp
  refine fnIs_of tab_ok Try.func78 rfl rfl rfl ?_
  refine wc_seq ?_
  refine wc_region ?_
  refine reg_new (step_C tab_ok (fun K hk => hk)) rfl ?_
  refine reg_new (step_C tab_ok (fun K hk => hk)) rfl ?_
  refine reg_nil ?_
  refine seq_n ?_
  refine wc_seq ?_
  refine wc_region ?_
  refine reg_quiet rfl (step_C tab_ok (fun K hk => hk)) ?_
  refine reg_quiet rfl (load_box tab_ok rfl rfl ⟨_, rfl, rfl⟩ rfl) ?_
  refine reg_quiet rfl (len_arr tab_ok rfl rfl) ?_
  refine reg_new (make_full (enc := encFrame) (s := 40) tab_ok zeroFrame rfl rfl rfl rfl rfl rfl rfl hlen2 rfl) rfl ?_
  refine reg_quiet rfl (step_C tab_ok (fun K hk => hk)) ?_
  refine reg_nil ?_
  refine seq_n ?_
  refine wc_seq ?_
  refine wc_region ?_
  refine reg_quiet rfl (step_C tab_ok (fun K hk => hk)) ?_
  refine reg_quiet rfl (step_C tab_ok (fun K hk => hk)) ?_
  refine reg_quiet rfl (load_box tab_ok rfl rfl ⟨_, rfl, rfl⟩ rfl) ?_
  refine reg_new (copy_arr (s := 40) (xs := List.replicate l.length zeroFrame) tab_ok rfl rfl rfl rfl (by rw [List.length_replicate]; rfl) rfl rfl hcopy (by rw [List.length_replicate, Nat.min_self])) rfl ?_
  refine reg_nil ?_
  refine seq_n ?_
  refine wc_seq ?_
  refine wc_region ?_
  refine reg_quiet rfl (step_C tab_ok (fun K hk => hk)) ?_
  refine reg_quiet rfl (step_C tab_ok (fun K hk => hk)) ?_
  refine reg_store (store_row tab_ok rfl rfl rfl ⟨_, ⟨_, ⟨rfl, rfl, rfl⟩, rfl⟩, rfl⟩ rfl) ?_
  refine reg_nil ?_
  refine seq_n ?_
  refine wc_seq ?_
  refine wc_region ?_
  refine reg_quiet rfl (load_box tab_ok rfl rfl rfl rfl) ?_
  refine reg_store (store_row tab_ok rfl rfl rfl ⟨_, ⟨rfl, rfl, rfl⟩, rfl⟩ rfl) ?_
  refine reg_nil ?_
  refine seq_n ?_
  refine wc_ret ?_
  exact ⟨trivial, _, rfl, [(64, some 104)], .of rfl rfl rfl rfl rfl ⟨⟨_, rfl, AVLe.of_eq rfl⟩, rfl, trivial⟩ ⟨⟨rfl, rfl, _, rfl, .refl _⟩, trivial⟩⟩
abbrev u8s (n : Int) : D := .sc (.int .u8 n)
def dataB (n : Int) : List Int := (zeroBlock.set 0 n).set 31 (IntKind.u8.wrap (n + 1))
theorem data_is (n : Int) : FnIs Try.prog 45 [.d (u8s n)] [] (.d (encBlock (dataB n))) [] := by
  refine fnIs_of tab_ok Try.func45 rfl rfl rfl ?_
  refine wc_seq ?_
  refine wc_region ?_
  refine reg_new (step_C tab_ok (fun K hk => hk)) rfl ?_
  refine reg_nil ?_
  refine seq_n ?_
  refine wc_seq ?_
  refine wc_region ?_
  refine reg_new (step_C tab_ok (fun K hk => hk)) rfl ?_
  refine reg_nil ?_
  refine seq_n ?_
  refine wc_seq ?_
  refine wc_region ?_
  refine reg_quiet rfl (step_C tab_ok (fun K hk => hk)) ?_
  refine reg_quiet rfl (step_C tab_ok (fun K hk => ⟨by omega, by omega, hk⟩)) ?_
  refine reg_store (store_row tab_ok rfl rfl rfl ⟨_, ⟨_, ⟨rfl, _, n, rfl, ⟨rfl, rfl, rfl⟩, rfl⟩, rfl⟩, rfl⟩ rfl) ?_
  refine reg_nil ?_
  refine seq_n ?_
  refine wc_seq ?_
  refine wc_region ?_
  refine reg_quiet rfl (step_C tab_ok (fun K hk => hk)) ?_
  refine reg_quiet rfl (add_int tab_ok rfl rfl rfl) ?_
  refine reg_quiet rfl (step_C tab_ok (fun K hk => ⟨by omega, by omega, hk⟩)) ?_
  refine reg_store (store_row tab_ok rfl rfl rfl ⟨_, ⟨_, ⟨rfl, _, IntKind.u8.wrap (n + 1), rfl, ⟨rfl, rfl, rfl⟩, rfl⟩, rfl⟩, rfl⟩ rfl) ?_
  refine reg_nil ?_
  refine seq_n ?_
  refine wc_seq ?_
  refine wc_region ?_
  refine reg_quiet rfl (load_box tab_ok rfl rfl rfl rfl) ?_
  refine reg_store (store_row tab_ok rfl rfl rfl ⟨_, ⟨rfl, rfl, rfl⟩, rfl⟩ rfl) ?_
  refine reg_nil ?_
  refine seq_n ?_
  refine wc_ret ?_
  exact ⟨trivial, _, rfl, [], .of rfl rfl rfl rfl rfl ⟨⟨_, rfl, AVLe.of_eq rfl⟩, rfl, trivial⟩ trivial⟩
theorem new_bad (n : Int) (hn : (decide (n < 1) || decide (n > 64)) = true) : FnIs Try.prog 52 [.d (i6 n)] [] (tup2 zeroS (i6 1)) [] := by
  refine fnIs_of tab_ok Try.func52 rfl rfl rfl ?_
  refine wc_seq ?_
  refine wc_region ?_
  refine reg_new (step_C tab_ok (fun K hk => hk)) rfl ?_
  refine reg_quiet rfl (step_C tab_ok (fun K hk => hk)) ?_
  refine reg_nil ?_
  refine seq_n ?_
  refine wc_seq ?_
  refine wc_seq_cut 9 (.bool (decide (n < 1) || decide (n > 64))) _ rfl ?_ ?_
  · refine reg_quiet rfl (step_C tab_ok (fun K hk => hk)) ?_
    refine reg_quiet rfl (step_C tab_ok (fun K hk => hk)) ?_
    refine reg_quiet rfl (step_C tab_ok (fun K hk => hk)) ?_
    refine reg_split rfl rfl rfl (fun hb => ?_) (fun hb => ?_)
    refine reg_on rfl rfl (by assumption) ?_
    refine reg_quiet rfl (step_C tab_ok (fun K hk => hk)) ?_
    refine reg_on rfl rfl (by assumption) ?_
    refine reg_quiet rfl (step_C tab_ok (fun K hk => hk)) ?_
    refine reg_quiet rfl (pick_F tab_ok rfl (by assumption) rfl) ?_
    rotate_left
    refine reg_skip rfl rfl (by assumption) rfl rfl ?_
    refine reg_skip rfl rfl (by assumption) rfl rfl ?_
    refine reg_quiet rfl (pick_T tab_ok rfl (by assumption) rfl) ?_
    rotate_left
    all_goals refine reg_cut 6 rfl rfl rfl rfl rfl rfl rfl rfl rfl (AVLe.of_eq ?_)
    all_goals (first | rfl | (simp_all; done) | (simp_all; omega))
  refine wc_true rfl (by assumption) ?_
  refine wc_seq ?_
  refine wc_region ?_
  refine reg_quiet rfl (build_struct tab_ok rfl rfl rfl rfl) ?_
  refine reg_store (store_row tab_ok rfl rfl rfl ⟨_, ⟨rfl, rfl, rfl⟩, rfl⟩ rfl) ?_
  refine reg_quiet rfl (step_C tab_ok (fun K hk => hk)) ?_
  refine reg_nil ?_
  refine seq_n ?_
  refine wc_ret ?_
  refine seq_r ?_
  exact ⟨trivial, _, rfl, [], .of rfl rfl rfl rfl rfl ⟨⟨_, rfl, AVLe.of_eq rfl⟩, rfl, trivial⟩ trivial⟩
theorem new_ok (N : Nat) (hn : (decide ((N : Int) < 1) || decide ((N : Int) > 64)) = false) : FnIs Try.prog 52 [.d (i6 N)] [] (.tup (.acons (ownS 64 N 0) (.acons (.int .i64 0) .anil))) [(64, .ds 39 40 true encFrame (List.replicate N zeroFrame))] := by
  obtain ⟨n, hN⟩ : ∃ n : Int, (N : Int) = n := ⟨_, rfl⟩
  have hlen2 : N ≤ 1048576 := by rw [Bool.or_eq_false_iff] at hn; have := of_decide_eq_false hn.2; omega
  rw [hN] at hn
  rw [show i6 (N : Int) = i6 n by rw [hN]]
  refine fnIs_of tab_ok Try.func52 rfl rfl rfl ?_
  refine wc_seq ?_
  refine wc_region ?_
  refine reg_new (step_C tab_ok (fun K hk => hk)) rfl ?_
  refine reg_quiet rfl (step_C tab_ok (fun K hk => hk)) ?_
  refine reg_nil ?_
  refine seq_n ?_
  refine wc_seq ?_
  refine wc_seq_cut 9 (.bool (decide (n < 1) || decide (n > 64))) _ rfl ?_ ?_
  · refine reg_quiet rfl (step_C tab_ok (fun K hk => hk)) ?_
    refine reg_quiet rfl (step_C tab_ok (fun K hk => hk)) ?_
    refine reg_quiet rfl (step_C tab_ok (fun K hk => hk)) ?_
    refine reg_split rfl rfl rfl (fun hb => ?_) (fun hb => ?_)
    refine reg_on rfl rfl (by assumption) ?_
    refine reg_quiet rfl (step_C tab_ok (fun K hk => hk)) ?_
    refine reg_on rfl rfl (by assumption) ?_
    refine reg_quiet rfl (step_C tab_ok (fun K hk => hk)) ?_
    refine reg_quiet rfl (pick_F tab_ok rfl (by assumption) rfl) ?_
    rotate_left
    refine reg_skip rfl rfl (by assumption) rfl rfl ?_
    refine reg_skip rfl rfl (by assumption) rfl rfl ?_
    refine reg_quiet rfl (pick_T tab_ok rfl (by assumption) rfl) ?_
    rotate_left
    all_goals refine reg_cut 6 rfl rfl rfl rfl rfl rfl rfl rfl rfl (AVLe.of_eq ?_)
    all_goals (first | rfl | (simp_all; done) | (simp_all; omega))
  refine wc_false rfl (by assumption) ?_
  refine wc_skip ?_
  refine seq_n ?_
  refine wc_seq ?_
  refine wc_region ?_
  refine reg_quiet rfl (step_C tab_ok (fun K hk => hk)) ?_
  refine reg_new (make_full (enc := encFrame) (s := 40) (N := N) tab_ok zeroFrame rfl rfl rfl rfl rfl (by rw [hN]; rfl) (by rw [hN]; rfl) hlen2 rfl) rfl ?_
  refine reg_quiet rfl (build_struct tab_ok rfl rfl rfl rfl) ?_
  refine reg_store (store_row tab_ok rfl rfl rfl ⟨_, ⟨rfl, rfl, rfl⟩, rfl⟩ rfl) ?_
  refine reg_quiet rfl (step_C tab_ok (fun K hk => hk)) ?_
  refine reg_nil ?_
  refine seq_n ?_
  refine wc_ret ?_
  exact ⟨trivial, _, rfl, [(64, some 136)], .of rfl rfl rfl rfl rfl ⟨⟨_, rfl, AVLe.of_eq rfl⟩, rfl, trivial⟩ ⟨⟨rfl, rfl, _, rfl, .refl _⟩, trivial⟩⟩
def fitsB (f : Frame) (a : Int) : Bool := if a = 0 then f.loading else if a = 1 then f.used && !f.loading else if a = 2 then f.used && !f.loading && !f.busy else if a = 3 ∨ a = 4 then f.busy else f.used && !f.dirty && !f.busy
theorem fits_is (f : Frame) (a : Int) : FnIs Try.prog 74 [.d (encFrame f), .d (i6 a)] [] (.int .i64 (if fitsB f a = true then 1 else 0)) [] := by
  refine fnIs_of tab_ok Try.func74 rfl rfl rfl ?_
  refine wc_seq ?_
  refine wc_region ?_
  refine reg_new (step_C tab_ok (fun K hk => hk)) rfl ?_
  refine reg_quiet rfl (step_C tab_ok (fun K hk => hk)) ?_
  refine reg_nil ?_
  refine seq_n ?_
  refine wc_seq ?_
  refine wc_region ?_
  refine reg_quiet rfl (step_C tab_ok (fun K hk => hk)) ?_
  refine reg_nil ?_
  refine seq_n ?_
  refine wc_seq ?_
  refine wc_seq ?_
  refine wc_region ?_
  refine reg_quiet rfl (step_C tab_ok (fun K hk => hk)) ?_
  refine reg_nil ?_
  refine seq_n ?_
  refine wc_block ?_
  refine wc_seq ?_
  refine wc_region ?_
  refine reg_quiet rfl (step_C tab_ok (fun K hk => hk)) ?_
  refine reg_quiet rfl (step_C tab_ok (fun K hk => hk)) ?_
  refine reg_nil ?_
  refine seq_n ?_
  refine wc_cond rfl (fun hb => ?_) (fun hb => ?_)
  refine wc_region ?_
  refine reg_quiet rfl (step_C tab_ok (fun K hk => hk)) ?_
  refine reg_quiet rfl (load_box tab_ok rfl rfl ⟨_, rfl, rfl⟩ rfl) ?_
  refine reg_quiet rfl (step_C tab_ok (fun K hk => hk)) ?_
  refine reg_nil ?_
  refine blk_n ?_
  refine seq_n ?_
  refine wc_seq ?_
  refine wc_seq ?_
  refine wc_region ?_
  refine reg_quiet rfl (step_C tab_ok (fun K hk => hk)) ?_
  refine reg_nil ?_
  refine seq_n ?_
  refine wc_cond rfl (fun hb => ?_) (fun hb => ?_)
  refine wc_seq ?_
  refine wc_region ?_
  refine reg_quiet rfl (step_C tab_ok (fun K hk => hk)) ?_
  refine reg_nil ?_
  refine seq_n ?_
  refine wc_ret ?_
  refine seq_r ?_
  rotate_left
  refine wc_skip ?_
  refine seq_n ?_
  refine wc_seq ?_
  refine wc_region ?_
  refine reg_quiet rfl (step_C tab_ok (fun K hk => hk)) ?_
  refine reg_nil ?_
  refine seq_n ?_
  refine wc_ret ?_
  rotate_left
  refine wc_seq ?_
  refine wc_region ?_
  refine reg_quiet rfl (step_C tab_ok (fun K hk => hk)) ?_
  refine reg_quiet rfl (step_C tab_ok (fun K hk => hk)) ?_
  refine reg_nil ?_
  refine seq_n ?_
  refine wc_cond rfl (fun hb => ?_) (fun hb => ?_)
  refine wc_region ?_
  refine reg_quiet rfl (step_C tab_ok (fun K hk => hk)) ?_
  refine reg_quiet rfl (load_box tab_ok rfl rfl ⟨_, rfl, rfl⟩ rfl) ?_
  refine reg_quiet rfl (step_C tab_ok (fun K hk => hk)) ?_
  refine reg_split rfl rfl rfl (fun hb => ?_) (fun hb => ?_)
  refine reg_on rfl rfl (by assumption) ?_
  refine reg_quiet rfl (step_C tab_ok (fun K hk => hk)) ?_
  refine reg_on rfl rfl (by assumption) ?_
  refine reg_quiet rfl (load_box tab_ok rfl rfl ⟨_, rfl, rfl⟩ rfl) ?_
  refine reg_on rfl rfl (by assumption) ?_
  refine reg_quiet rfl (step_C tab_ok (fun K hk => hk)) ?_
  refine reg_quiet rfl (pick_T tab_ok rfl (by assumption) rfl) ?_
  refine reg_quiet rfl (step_C tab_ok (fun K hk => hk)) ?_
  refine reg_nil ?_
  refine blk_n ?_
  refine seq_n ?_
  refine wc_seq ?_
  refine wc_seq ?_
  refine wc_region ?_
  refine reg_quiet rfl (step_C tab_ok (fun K hk => hk)) ?_
  refine reg_nil ?_
  refine seq_n ?_
  refine wc_cond rfl (fun hb => ?_) (fun hb => ?_)
  refine wc_seq ?_
  refine wc_region ?_
  refine reg_quiet rfl (step_C tab_ok (fun K hk => hk)) ?_
  refine reg_nil ?_
  refine seq_n ?_
  refine wc_ret ?_
  refine seq_r ?_
  rotate_left
  refine wc_skip ?_
  refine seq_n ?_
  refine wc_seq ?_
  refine wc_region ?_
  refine reg_quiet rfl (step_C tab_ok (fun K hk => hk)) ?_
  refine reg_nil ?_
  refine seq_n ?_
  refine wc_ret ?_
  rotate_left
  refine reg_skip rfl rfl (by assumption) rfl rfl ?_
  refine reg_skip rfl rfl (by assumption) rfl rfl ?_
  refine reg_skip rfl rfl (by assumption) rfl rfl ?_
  refine reg_quiet rfl (pick_F tab_ok rfl (by assumption) rfl) ?_
  refine reg_quiet rfl (step_C tab_ok (fun K hk => hk)) ?_
  refine reg_nil ?_
  refine blk_n ?_
  refine seq_n ?_
  refine wc_seq ?_
  refine wc_seq ?_
  refine wc_region ?_
  refine reg_quiet rfl (step_C tab_ok (fun K hk => hk)) ?_
  refine reg_nil ?_
  refine seq_n ?_
  refine wc_false rfl rfl ?_
  refine wc_skip ?_
  refine seq_n ?_
  refine wc_seq ?_
  refine wc_region ?_
  refine reg_quiet rfl (step_C tab_ok (fun K hk => hk)) ?_
  refine reg_nil ?_
  refine seq_n ?_
  refine wc_ret ?_
  rotate_left
  refine wc_seq ?_
  refine wc_region ?_
  refine reg_quiet rfl (step_C tab_ok (fun K hk => hk)) ?_
  refine reg_quiet rfl (step_C tab_ok (fun K hk => hk)) ?_
  refine reg_nil ?_
  refine seq_n ?_
  refine wc_cond rfl (fun hb => ?_) (fun hb => ?_)
  refine wc_region ?_
  refine reg_quiet rfl (step_C tab_ok (fun K hk => hk)) ?_
  refine reg_quiet rfl (load_box tab_ok rfl rfl ⟨_, rfl, rfl⟩ rfl) ?_
  refine reg_quiet rfl (step_C tab_ok (fun K hk => hk)) ?_
  refine reg_split rfl rfl rfl (fun hb => ?_) (fun hb => ?_)
  refine reg_on rfl rfl (by assumption) ?_
  refine reg_quiet rfl (step_C tab_ok (fun K hk => hk)) ?_
  refine reg_on rfl rfl (by assumption) ?_
  refine reg_quiet rfl (load_box tab_ok rfl rfl ⟨_, rfl, rfl⟩ rfl) ?_
  refine reg_on rfl rfl (by assumption) ?_
  refine reg_quiet rfl (step_C tab_ok (fun K hk => hk)) ?_
  refine reg_quiet rfl (pick_T tab_ok rfl (by assumption) rfl) ?_
  refine reg_quiet rfl (step_C tab_ok (fun K hk => hk)) ?_
  refine reg_split rfl rfl rfl (fun hb => ?_) (fun hb => ?_)
  refine reg_on rfl rfl (by assumption) ?_
  refine reg_quiet rfl (step_C tab_ok (fun K hk => hk)) ?_
  refine reg_on rfl rfl (by assumption) ?_
  refine reg_quiet rfl (load_box tab_ok rfl rfl ⟨_, rfl, rfl⟩ rfl) ?_
  refine reg_on rfl rfl (by assumption) ?_
  refine reg_quiet rfl (step_C tab_ok (fun K hk => hk)) ?_
  refine reg_quiet rfl (pick_T tab_ok rfl (by assumption) rfl) ?_
  refine reg_quiet rfl (step_C tab_ok (fun K hk => hk)) ?_
  refine reg_nil ?_
  refine blk_n ?_
  refine seq_n ?_
  refine wc_seq ?_
  refine wc_seq ?_
  refine wc_region ?_
  refine reg_quiet rfl (step_C tab_ok (fun K hk => hk)) ?_
  refine reg_nil ?_
  refine seq_n ?_
  refine wc_cond rfl (fun hb => ?_) (fun hb => ?_)
  refine wc_seq ?_
  refine wc_region ?_
  refine reg_quiet rfl (step_C tab_ok (fun K hk => hk)) ?_
  refine reg_nil ?_
  refine seq_n ?_
  refine wc_ret ?_
  refine seq_r ?_
  rotate_left
  refine wc_skip ?_
  refine seq_n ?_
  refine wc_seq ?_
  refine wc_region ?_
  refine reg_quiet rfl (step_C tab_ok (fun K hk => hk)) ?_
  refine reg_nil ?_
  refine seq_n ?_
  refine wc_ret ?_
  rotate_left
  refine reg_skip rfl rfl (by assumption) rfl rfl ?_
  refine reg_skip rfl rfl (by assumption) rfl rfl ?_
  refine reg_skip rfl rfl (by assumption) rfl rfl ?_
  refine reg_quiet rfl (pick_F tab_ok rfl (by assumption) rfl) ?_
  refine reg_quiet rfl (step_C tab_ok (fun K hk => hk)) ?_
  refine reg_nil ?_
  refine blk_n ?_
  refine seq_n ?_
  refine wc_seq ?_
  refine wc_seq ?_
  refine wc_region ?_
  refine reg_quiet rfl (step_C tab_ok (fun K hk => hk)) ?_
  refine reg_nil ?_
  refine seq_n ?_
  refine wc_false rfl rfl ?_
  refine wc_skip ?_
  refine seq_n ?_
  refine wc_seq ?_
  refine wc_region ?_
  refine reg_quiet rfl (step_C tab_ok (fun K hk => hk)) ?_
  refine reg_nil ?_
  refine seq_n ?_
  refine wc_ret ?_
  rotate_left
  refine reg_skip rfl rfl (by assumption) rfl rfl ?_
  refine reg_skip rfl rfl (by assumption) rfl rfl ?_
  refine reg_skip rfl rfl (by assumption) rfl rfl ?_
  refine reg_quiet rfl (pick_F tab_ok rfl (by assumption) rfl) ?_
  refine reg_quiet rfl (step_C tab_ok (fun K hk => hk)) ?_
  refine reg_skip rfl rfl rfl rfl rfl ?_
  refine reg_skip rfl rfl rfl rfl rfl ?_
  refine reg_skip rfl rfl rfl rfl rfl ?_
  refine reg_quiet rfl (pick_F tab_ok rfl rfl rfl) ?_
  refine reg_quiet rfl (step_C tab_ok (fun K hk => hk)) ?_
  refine reg_nil ?_
  refine blk_n ?_
  refine seq_n ?_
  refine wc_seq ?_
  refine wc_seq ?_
  refine wc_region ?_
  refine reg_quiet rfl (step_C tab_ok (fun K hk => hk)) ?_
  refine reg_nil ?_
  refine seq_n ?_
  refine wc_false rfl rfl ?_
  refine wc_skip ?_
  refine seq_n ?_
  refine wc_seq ?_
  refine wc_region ?_
  refine reg_quiet rfl (step_C tab_ok (fun K hk => hk)) ?_
  refine reg_nil ?_
  refine seq_n ?_
  refine wc_ret ?_
  rotate_left
  refine wc_seq ?_
  refine wc_seq ?_
  refine wc_region ?_
  refine reg_quiet rfl (step_C tab_ok (fun K hk => hk)) ?_
  refine reg_quiet rfl (step_C tab_ok (fun K hk => hk)) ?_
  refine reg_nil ?_
  refine seq_n ?_
  refine wc_cond rfl (fun hb => ?_) (fun hb => ?_)
  refine wc_skip ?_
  refine seq_n ?_
  refine wc_true rfl (by assumption) ?_
  refine wc_region ?_
  refine reg_quiet rfl (step_C tab_ok (fun K hk => hk)) ?_
  refine reg_quiet rfl (load_box tab_ok rfl rfl ⟨_, rfl, rfl⟩ rfl) ?_
  refine reg_quiet rfl (step_C tab_ok (fun K hk => hk)) ?_
  refine reg_nil ?_
  refine blk_n ?_
  refine seq_n ?_
  refine wc_seq ?_
  refine wc_seq ?_
  refine wc_region ?_
  refine reg_quiet rfl (step_C tab_ok (fun K hk => hk)) ?_
  refine reg_nil ?_
  refine seq_n ?_
  refine wc_cond rfl (fun hb => ?_) (fun hb => ?_)
  refine wc_seq ?_
  refine wc_region ?_
  refine reg_quiet rfl (step_C tab_ok (fun K hk => hk)) ?_
  refine reg_nil ?_
  refine seq_n ?_
  refine wc_ret ?_
  refine seq_r ?_
  rotate_left
  refine wc_skip ?_
  refine seq_n ?_
  refine wc_seq ?_
  refine wc_region ?_
  refine reg_quiet rfl (step_C tab_ok (fun K hk => hk)) ?_
  refine reg_nil ?_
  refine seq_n ?_
  refine wc_ret ?_
  rotate_left
  refine wc_region ?_
  refine reg_quiet rfl (step_C tab_ok (fun K hk => hk)) ?_
  refine reg_quiet rfl (step_C tab_ok (fun K hk => hk)) ?_
  refine reg_nil ?_
  refine seq_n ?_
  refine wc_cond rfl (fun hb => ?_) (fun hb => ?_)
  refine wc_region ?_
  refine reg_quiet rfl (step_C tab_ok (fun K hk => hk)) ?_
  refine reg_quiet rfl (load_box tab_ok rfl rfl ⟨_, rfl, rfl⟩ rfl) ?_
  refine reg_quiet rfl (step_C tab_ok (fun K hk => hk)) ?_
  refine reg_nil ?_
  refine blk_n ?_
  refine seq_n ?_
  refine wc_seq ?_
  refine wc_seq ?_
  refine wc_region ?_
  refine reg_quiet rfl (step_C tab_ok (fun K hk => hk)) ?_
  refine reg_nil ?_
  refine seq_n ?_
  refine wc_cond rfl (fun hb => ?_) (fun hb => ?_)
  refine wc_seq ?_
  refine wc_region ?_
  refine reg_quiet rfl (step_C tab_ok (fun K hk => hk)) ?_
  refine reg_nil ?_
  refine seq_n ?_
  refine wc_ret ?_
  refine seq_r ?_
  rotate_left
  refine wc_skip ?_
  refine seq_n ?_
  refine wc_seq ?_
  refine wc_region ?_
  refine reg_quiet rfl (step_C tab_ok (fun K hk => hk)) ?_
  refine reg_nil ?_
  refine seq_n ?_
  refine wc_ret ?_
  rotate_left
  refine wc_region ?_
  refine reg_quiet rfl (step_C tab_ok (fun K hk => hk)) ?_
  refine reg_quiet rfl (load_box tab_ok rfl rfl ⟨_, rfl, rfl⟩ rfl) ?_
  refine reg_quiet rfl (step_C tab_ok (fun K hk => hk)) ?_
  refine reg_split rfl rfl rfl (fun hb => ?_) (fun hb => ?_)
  refine reg_on rfl rfl (by assumption) ?_
  refine reg_quiet rfl (step_C tab_ok (fun K hk => hk)) ?_
  refine reg_on rfl rfl (by assumption) ?_
  refine reg_quiet rfl (load_box tab_ok rfl rfl ⟨_, rfl, rfl⟩ rfl) ?_
  refine reg_on rfl rfl (by assumption) ?_
  refine reg_quiet rfl (step_C tab_ok (fun K hk => hk)) ?_
  refine reg_quiet rfl (pick_T tab_ok rfl (by assumption) rfl) ?_
  refine reg_quiet rfl (step_C tab_ok (fun K hk => hk)) ?_
  refine reg_split rfl rfl rfl (fun hb => ?_) (fun hb => ?_)
  refine reg_on rfl rfl (by assumption) ?_
  refine reg_quiet rfl (step_C tab_ok (fun K hk => hk)) ?_
  refine reg_on rfl rfl (by assumption) ?_
  refine reg_quiet rfl (load_box tab_ok rfl rfl ⟨_, rfl, rfl⟩ rfl) ?_
  refine reg_on rfl rfl (by assumption) ?_
  refine reg_quiet rfl (step_C tab_ok (fun K hk => hk)) ?_
  refine reg_quiet rfl (pick_T tab_ok rfl (by assumption) rfl) ?_
  refine reg_quiet rfl (step_C tab_ok (fun K hk => hk)) ?_
  refine reg_nil ?_
  refine blk_n ?_
  refine seq_n ?_
  refine wc_seq ?_
  refine wc_seq ?_
  refine wc_region ?_
  refine reg_quiet rfl (step_C tab_ok (fun K hk => hk)) ?_
  refine reg_nil ?_
  refine seq_n ?_
  refine wc_cond rfl (fun hb => ?_) (fun hb => ?_)
  refine wc_seq ?_
  refine wc_region ?_
  refine reg_quiet rfl (step_C tab_ok (fun K hk => hk)) ?_
  refine reg_nil ?_
  refine seq_n ?_
  refine wc_ret ?_
  refine seq_r ?_
  rotate_left
  refine wc_skip ?_
  refine seq_n ?_
  refine wc_seq ?_
  refine wc_region ?_
  refine reg_quiet rfl (step_C tab_ok (fun K hk => hk)) ?_
  refine reg_nil ?_
  refine seq_n ?_
  refine wc_ret ?_
  rotate_left
  refine reg_skip rfl rfl (by assumption) rfl rfl ?_
  refine reg_skip rfl rfl (by assumption) rfl rfl ?_
  refine reg_skip rfl rfl (by assumption) rfl rfl ?_
  refine reg_quiet rfl (pick_F tab_ok rfl (by assumption) rfl) ?_
  refine reg_quiet rfl (step_C tab_ok (fun K hk => hk)) ?_
  refine reg_nil ?_
  refine blk_n ?_
  refine seq_n ?_
  refine wc_seq ?_
  refine wc_seq ?_
  refine wc_region ?_
  refine reg_quiet rfl (step_C tab_ok (fun K hk => hk)) ?_
  refine reg_nil ?_
  refine seq_n ?_
  refine wc_false rfl rfl ?_
  refine wc_skip ?_
  refine seq_n ?_
  refine wc_seq ?_
  refine wc_region ?_
  refine reg_quiet rfl (step_C tab_ok (fun K hk => hk)) ?_
  refine reg_nil ?_
  refine seq_n ?_
  refine wc_ret ?_
  rotate_left
  refine reg_skip rfl rfl (by assumption) rfl rfl ?_
  refine reg_skip rfl rfl (by assumption) rfl rfl ?_
  refine reg_skip rfl rfl (by assumption) rfl rfl ?_
  refine reg_quiet rfl (pick_F tab_ok rfl (by assumption) rfl) ?_
  refine reg_quiet rfl (step_C tab_ok (fun K hk => hk)) ?_
  refine reg_skip rfl rfl rfl rfl rfl ?_
  refine reg_skip rfl rfl rfl rfl rfl ?_
  refine reg_skip rfl rfl rfl rfl rfl ?_
  refine reg_quiet rfl (pick_F tab_ok rfl rfl rfl) ?_
  refine reg_quiet rfl (step_C tab_ok (fun K hk => hk)) ?_
  refine reg_nil ?_
  refine blk_n ?_
  refine seq_n ?_
  refine wc_seq ?_
  refine wc_seq ?_
  refine wc_region ?_
  refine reg_quiet rfl (step_C tab_ok (fun K hk => hk)) ?_
  refine reg_nil ?_
  refine seq_n ?_
  refine wc_false rfl rfl ?_
  refine wc_skip ?_
  refine seq_n ?_
  refine wc_seq ?_
  refine wc_region ?_
  refine reg_quiet rfl (step_C tab_ok (fun K hk => hk)) ?_
  refine reg_nil ?_
  refine seq_n ?_
  refine wc_ret ?_
  rotate_left
  all_goals refine ⟨trivial, [], .of rfl rfl rfl rfl rfl ⟨⟨_, rfl, AVLe.of_eq ?_⟩, rfl, trivial⟩ trivial⟩
  all_goals (simp_all [fitsB, retOne, AV.ren]; done)
end Go.Proofs.Ytmdfeekpehcieaa

/- Shards: copies and samples. -/
namespace Go.Proofs.Ytmdfeekpehcieaa
open Go.Eng
set_option maxHeartbeats 2000000
attribute [local irreducible] WC RegS RegD SeqQ BlkQ ScoQ RegK CutK Sat SatN FnIs LoopQ StepIs OpIs
theorem AVLe.uncons {a r : D} : AVLe (.d (.cons a r)) (.acons (.d a) (.d r)) := by
  intro σ w X u h
  unfold RelV at h ⊢
  simp only [AV.isAgg, D.isAgg, if_true, Rel] at h ⊢
  exact h
theorem RowLe.uncons {t : TypeId} {a r : D} : RowLe (.box t (.d (.cons a r))) (.box t (.acons (.d a) (.d r))) := by
  rintro σ w X k ⟨_, b, cs, h1, h2, h3⟩
  exact ⟨rfl, b, cs, h1, h2, h3⟩
theorem copied_is (l : List Frame) (h : Int) (hlen : l.length ≤ 1000000) : FnIs Try.prog 64 [.d (encS l h)] [] (ownS 64 l.length h) [(64, .ds 39 40 false encFrame l)] := by
  refine fnIs_of tab_ok Try.func64 rfl rfl rfl ?_
  refine wc_seq ?_
  refine wc_region ?_
  refine reg_new (step_C tab_ok (fun K hk => hk)) rfl ?_
  refine reg_new (step_C tab_ok (fun K hk => hk)) rfl ?_
  refine reg_nil ?_
  refine seq_n ?_
  refine wc_seq ?_
  refine wc_region ?_
  refine reg_quiet rfl (step_C tab_ok (fun K hk => hk)) ?_
  refine reg_quiet rfl (load_box tab_ok rfl rfl ⟨_, rfl, rfl⟩ rfl) ?_
  refine reg_quiet rfl (build_struct tab_ok rfl rfl rfl rfl) ?_
  refine reg_new (step_C tab_ok (fun K hk => hk)) rfl ?_
  refine reg_store (store_row tab_ok rfl rfl rfl ⟨_, ⟨rfl, rfl, rfl⟩, rfl⟩ rfl) ?_
  refine reg_nil ?_
  refine seq_n ?_
  refine wc_seq ?_
  refine wc_seq ?_
  refine wc_region ?_
  refine reg_quiet rfl (step_C tab_ok (fun K hk => hk)) ?_
  refine reg_nil ?_
  refine seq_n ?_
  refine wc_block ?_
  refine wc_inv (fun i : Nat => ⟨[(4, .int .i64 i), (3, .ptr 65 []), (2, .ptr 67 []), (1, .ptr 64 [])], [(64, some (.box 61 (.d (encS l h)))), (65, some (.box 61 (.acons (.own 66 0 (l.take i).length 40 none) (.d (.cons (i6 h) .nil))))), (66, some (.ds 39 40 false encFrame (l.take i))), (67, some (.box 61 (.d zeroS)))], 72, Try.f64.ntmps, 64⟩) (fun i => i ≤ l.length) (fun i => l.length - i) 0 [(65, some 104), (66, none), (67, some 72)] (Nat.zero_le _)
    (.of rfl rfl rfl rfl rfl ⟨⟨_, rfl, .refl _⟩, rfl, ⟨_, rfl, .refl _⟩, rfl, ⟨_, rfl, .refl _⟩, rfl, ⟨_, rfl, .refl _⟩, rfl, trivial⟩ ⟨⟨rfl, rfl, _, rfl, .refl _⟩, ⟨rfl, rfl, _, rfl, RowLe.uncons⟩, ⟨rfl, rfl, rfl⟩, ⟨rfl, rfl, _, rfl, .refl _⟩, trivial⟩) ?_
  intro i hi
  refine wc_of ?_
  refine wc_seq ?_
  refine wc_seq ?_
  refine wc_region ?_
  refine reg_quiet rfl (step_C tab_ok (fun K hk => hk)) ?_
  refine reg_quiet rfl (step_C tab_ok (fun K hk => hk)) ?_
  refine reg_quiet rfl (load_box tab_ok rfl rfl ⟨_, rfl, rfl⟩ rfl) ?_
  refine reg_quiet rfl (len_arr tab_ok rfl rfl) ?_
  refine reg_quiet rfl (step_C tab_ok (fun K hk => hk)) ?_
  refine reg_nil ?_
  refine seq_n ?_
  refine wc_cond rfl (fun hb => ?_) (fun hb => ?_)
  · have hlt : i < l.length := by have := of_decide_eq_true hb; omega
    obtain ⟨f, hf⟩ : ∃ f, l[i]? = some f := ⟨_, List.getElem?_eq_getElem hlt⟩
    have hf' : l[((i : Int)).toNat]? = some f := by rw [Int.toNat_natCast]; exact hf
    have hlen3 : (l.take i).length + 1 ≤ 1048576 := by simp only [List.length_take]; omega
    have ht : l.take (i + 1) = l.take i ++ [f] := by rw [List.take_add_one, hf]; rfl
    have htl : (l.take (i + 1)).length = (l.take i).length + 1 := by rw [ht, List.length_append (bs := [_])]; rfl
    refine wc_skip ?_
    refine seq_n ?_
    refine wc_seq ?_
    refine wc_block ?_
    refine wc_draw (by kernel_rfl) ?_
    refine dreg_step rfl (step_C tab_ok (fun K hk => hk)) rfl rfl ?_
    refine dreg_step rfl (load_box tab_ok rfl rfl rfl rfl) rfl rfl ?_
    refine dreg_step rfl (step_C tab_ok (fun K hk => hk)) rfl rfl ?_
    refine dreg_step rfl (load_box tab_ok rfl rfl ⟨_, rfl, rfl⟩ rfl) rfl rfl ?_
    refine dreg_step rfl (step_C tab_ok (fun K hk => hk)) rfl rfl ?_
    refine dreg_step rfl (index_arr tab_ok rfl rfl rfl rfl rfl (by omega) (by assumption)) rfl rfl ?_
    refine dreg_step rfl (load_i tab_ok rfl rfl) rfl rfl ?_
    refine dreg_step rfl (build_slice tab_ok rfl rfl rfl rfl rfl rfl rfl rfl) rfl rfl ?_
    refine dreg_step rfl (append_one (s := 40) tab_ok f rfl rfl rfl rfl rfl rfl rfl rfl rfl hlen3 rfl) rfl rfl ?_
    refine dreg_step rfl (step_C tab_ok (fun K hk => hk)) rfl rfl ?_
    refine dreg_step rfl (store_row tab_ok rfl rfl rfl ⟨_, ⟨_, ⟨rfl, rfl, rfl⟩, rfl⟩, rfl⟩ rfl) rfl rfl ?_
    refine dreg_nil (by kernel_rfl) ?_
    refine blk_n ?_
    refine seq_n ?_
    refine wc_region ?_
    refine reg_quiet rfl (step_C tab_ok (fun K hk => hk)) ?_
    refine reg_quiet rfl (add_int tab_ok rfl rfl (wrap_i64 (by omega) (by omega))) ?_
    refine reg_quiet rfl (step_C tab_ok (fun K hk => hk)) ?_
    refine reg_nil ?_
    refine loop_n (i + 1) [(66, some 176)] hlt (by omega) ?_
    exact .of rfl rfl rfl rfl rfl ⟨⟨_, rfl, .refl _⟩, rfl, ⟨_, rfl, .refl _⟩, rfl, ⟨_, rfl, .refl _⟩, rfl, ⟨_, rfl, .refl _⟩, rfl, trivial⟩ ⟨⟨rfl, rfl, _, rfl, .refl _⟩, ⟨rfl, rfl, _, rfl, .of_eq (by rw [htl]; rfl)⟩, ⟨rfl, rfl, _, rfl, .of_eq (by rw [ht]; rfl)⟩, ⟨rfl, rfl, _, rfl, .refl _⟩, trivial⟩
  · have he : i = l.length := by have := of_decide_eq_false hb; omega
    subst he
    have htake : l.take l.length = l := List.take_length
    refine wc_exit ?_
    refine seq_x ?_
    refine loop_x ?_
    refine blk_x ?_
    refine seq_n ?_
    refine wc_seq ?_
    refine wc_region ?_
    refine reg_quiet rfl (load_box tab_ok rfl rfl rfl rfl) ?_
    refine reg_store (store_row tab_ok rfl rfl rfl ⟨_, ⟨rfl, rfl, rfl⟩, rfl⟩ rfl) ?_
    refine reg_nil ?_
    refine seq_n ?_
    refine wc_ret ?_
    exact ⟨trivial, _, rfl, [(64, some 66)], .of rfl rfl rfl rfl rfl ⟨⟨_, rfl, AVLe.of_eq (by rw [htake]; rfl)⟩, rfl, trivial⟩ ⟨⟨rfl, rfl, _, rfl, .of_eq (by rw [htake]; rfl)⟩, trivial⟩⟩
def encSx (L : List Int) (hand : Int) : D := .cons (encF L) (.cons (u8s hand) .nil)
/-- The frames of a sample: one that is not used, if there are none. -/
def ofS (L : List Int) : List Frame := if ofL L = [] then [zeroFrame] else ofL L
theorem ofS_pos (L : List Int) : 0 < (ofS L).length := by
  unfold ofS; split
  · simp
  · rename_i h; exact List.length_pos_iff.2 h
theorem ofS_len (L : List Int) : (ofS L).length ≤ 12 := by
  unfold ofS; split
  · simp
  · rw [ofL, ofK_len]; omega
theorem RowLe.noex {α : Type} {t s : Nat} {enc : α → D} {xs : List α} {ex : Bool} : RowLe (.ds t s ex enc xs) (.ds t s false enc xs) := by
  intro σ w X r h
  rcases h with h | ⟨b, c, cur, h1, _, h2⟩
  · exact .inl h
  · exact .inr ⟨b, c, cur, h1, fun e => (by cases e), h2⟩
theorem lits_noex : RowLe (.lits 39 40 1 true (chainD encFrame [zeroFrame])) (.ds 39 40 false encFrame [zeroFrame]) :=
  fun σ w X r h => RowLe.noex σ w X r (RowLe.lits_ds (enc := encFrame) (xs := [zeroFrame]) (fun _ => rfl) rfl σ w X r h)
theorem ofS_is (L : List Int) (hand : Int) (hL : Bytes L) (hh : 0 ≤ hand ∧ hand ≤ 255) : FnIs Try.prog 32 [.d (encSx L hand)] [] (ownS 64 (ofS L).length (hand.tmod (ofS L).length)) [(64, .ds 39 40 false encFrame (ofS L))] := by
  refine fnIs_of tab_ok Try.func32 rfl rfl rfl ?_
  refine wc_seq ?_
  refine wc_region ?_
  refine reg_new (step_C tab_ok (fun K hk => hk)) rfl ?_
  refine reg_new (step_C tab_ok (fun K hk => hk)) rfl ?_
  refine reg_nil ?_
  refine seq_n ?_
  refine wc_seq ?_
  refine wc_region ?_
  refine reg_quiet rfl (step_C tab_ok (fun K hk => hk)) ?_
  refine reg_quiet rfl (load_box tab_ok rfl rfl ⟨_, rfl, rfl⟩ rfl) ?_
  refine reg_new (call_new (of_is L hL) rfl rfl (arg_e arg_nil) (.inl rfl) rfl rfl) rfl ?_
  refine reg_quiet rfl (step_C tab_ok (fun K hk => hk)) ?_
  refine reg_nil ?_
  refine seq_n ?_
  refine wc_seq ?_
  refine wc_seq ?_
  refine wc_region ?_
  refine reg_quiet rfl (step_C tab_ok (fun K hk => hk)) ?_
  refine reg_quiet rfl (len_own tab_ok rfl rfl) ?_
  refine reg_quiet rfl (step_C tab_ok (fun K hk => hk)) ?_
  refine reg_nil ?_
  refine seq_n ?_
  refine wc_cond rfl (fun hb => ?_) (fun hb => ?_)
  · have h0 : ofL L = [] := List.eq_nil_of_length_eq_zero (by have := of_decide_eq_true hb; omega)
    have hS : ofS L = [zeroFrame] := by rw [ofS, if_pos h0]
    rw [hS]
    refine wc_region ?_
    refine reg_quiet rfl (build_struct tab_ok rfl rfl rfl rfl) ?_
    refine reg_new (build_slice tab_ok rfl rfl rfl rfl rfl rfl rfl rfl) rfl ?_
    refine reg_quiet rfl (step_C tab_ok (fun K hk => hk)) ?_
    refine reg_nil ?_
    refine seq_n ?_
    refine wc_seq ?_
    refine wc_region ?_
    refine reg_quiet rfl (step_C tab_ok (fun K hk => hk)) ?_
    refine reg_quiet rfl (step_C tab_ok (fun K hk => hk)) ?_
    refine reg_quiet rfl (load_box tab_ok rfl rfl ⟨_, rfl, rfl⟩ rfl) ?_
    refine reg_quiet rfl (conv_int tab_ok rfl rfl rfl (wrap_i64 (by omega) (by omega))) ?_
    refine reg_quiet rfl (step_C tab_ok (fun K hk => hk)) ?_
    refine reg_quiet rfl (len_own tab_ok rfl rfl) ?_
    refine reg_quiet rfl (rem_int tab_ok rfl rfl (by omega)) ?_
    refine reg_quiet rfl (build_struct tab_ok rfl rfl rfl rfl) ?_
    refine reg_store (store_row tab_ok rfl rfl rfl ⟨_, ⟨rfl, rfl, rfl⟩, rfl⟩ rfl) ?_
    refine reg_nil ?_
    refine seq_n ?_
    refine wc_ret ?_
    exact ⟨trivial, _, rfl, [(64, some 144)], .of rfl rfl rfl rfl rfl ⟨⟨_, rfl, AVLe.of_eq rfl⟩, rfl, trivial⟩ ⟨⟨rfl, rfl, _, rfl, lits_noex⟩, trivial⟩⟩
  · have h0 : ofL L ≠ [] := by intro e; rw [e] at hb; simp at hb
    have hS : ofS L = ofL L := by rw [ofS, if_neg h0]
    have hn0 : ((ofL L).length : Int) ≠ 0 := of_decide_eq_false hb
    rw [hS]
    refine wc_skip ?_
    refine seq_n ?_
    refine wc_seq ?_
    refine wc_region ?_
    refine reg_quiet rfl (step_C tab_ok (fun K hk => hk)) ?_
    refine reg_quiet rfl (step_C tab_ok (fun K hk => hk)) ?_
    refine reg_quiet rfl (load_box tab_ok rfl rfl ⟨_, rfl, rfl⟩ rfl) ?_
    refine reg_quiet rfl (conv_int tab_ok rfl rfl rfl (wrap_i64 (by omega) (by omega))) ?_
    refine reg_quiet rfl (step_C tab_ok (fun K hk => hk)) ?_
    refine reg_quiet rfl (len_own tab_ok rfl rfl) ?_
    refine reg_quiet rfl (rem_int tab_ok rfl rfl (by omega)) ?_
    refine reg_quiet rfl (build_struct tab_ok rfl rfl rfl rfl) ?_
    refine reg_store (store_row tab_ok rfl rfl rfl ⟨_, ⟨rfl, rfl, rfl⟩, rfl⟩ rfl) ?_
    refine reg_nil ?_
    refine seq_n ?_
    refine wc_ret ?_
    exact ⟨trivial, _, rfl, [(64, some 96)], .of rfl rfl rfl rfl rfl ⟨⟨_, rfl, AVLe.of_eq rfl⟩, rfl, trivial⟩ ⟨⟨rfl, rfl, _, rfl, .refl _⟩, trivial⟩⟩
end Go.Proofs.Ytmdfeekpehcieaa

/- Shards: Check. -/
namespace Go.Proofs.Ytmdfeekpehcieaa
open Go.Eng
set_option maxHeartbeats 2000000
attribute [local irreducible] WC RegS RegD SeqQ BlkQ ScoQ RegK CutK Sat SatN FnIs LoopQ StepIs OpIs
def twiceB (l : List Frame) (f : Frame) : Bool := f.used && l.any fun g => g.used && decide (g.block = f.block)
/-- The first error among the first frames. -/
def chkK (l : List Frame) : Nat → Int
  | 0 => 0
  | i + 1 => if chkK l i = 0 then (match l[i]? with
    | some f => if chk f = 0 then (if twiceB (l.take i) f = true then 12 else 0) else chk f
    | none => 0) else chkK l i
theorem chkK_stay {l : List Frame} {i : Nat} (h : chkK l i ≠ 0) : ∀ n, chkK l (i + n) = chkK l i
  | 0 => rfl
  | n + 1 => by rw [← Nat.add_assoc, chkK, chkK_stay h n, if_neg h]
theorem chkK_err {l : List Frame} {i : Nat} (hi : i < l.length) (h : chkK l (i + 1) ≠ 0) : chkK l l.length = chkK l (i + 1) := by
  have := chkK_stay h (l.length - (i + 1))
  rwa [show i + 1 + (l.length - (i + 1)) = l.length by omega] at this
def chkS (l : List Frame) (h : Int) : Int :=
  if (decide ((l.length : Int) < 1) || decide ((l.length : Int) > 64)) = true then 3 else if chkK l l.length ≠ 0 then chkK l l.length else if (decide (h < 0) || decide (h ≥ (l.length : Int))) = true then 1 else 0
theorem chkS_big {l : List Frame} {h : Int} (hb : (decide ((l.length : Int) < 1) || decide ((l.length : Int) > 64)) = true) : chkS l h = 3 := by rw [chkS, if_pos hb]
theorem chkS_err {l : List Frame} {h : Int} (hb : (decide ((l.length : Int) < 1) || decide ((l.length : Int) > 64)) = false) (he : chkK l l.length ≠ 0) : chkS l h = chkK l l.length := by
  rw [chkS, if_neg (by rw [hb]; exact fun e => by cases e), if_pos he]
theorem chkS_hand {l : List Frame} {h : Int} (hb : (decide ((l.length : Int) < 1) || decide ((l.length : Int) > 64)) = false) (he : chkK l l.length = 0) : chkS l h = if (decide (h < 0) || decide (h ≥ (l.length : Int))) = true then 1 else 0 := by
  rw [chkS, if_neg (by rw [hb]; exact fun e => by cases e), if_neg (fun e => e he)]
theorem shcheck_is (l : List Frame) (h : Int) : FnIs Try.prog 50 [.d (encS l h)] [] (.int .i64 (chkS l h)) [] := by
  refine fnIs_of tab_ok Try.func50 rfl rfl rfl ?_
  refine wc_seq ?_
  refine wc_region ?_
  refine reg_new (step_C tab_ok (fun K hk => hk)) rfl ?_
  refine reg_quiet rfl (step_C tab_ok (fun K hk => hk)) ?_
  refine reg_nil ?_
  refine seq_n ?_
  refine wc_seq ?_
  refine wc_seq_cut 17 (.bool (decide ((l.length : Int) < 1) || decide ((l.length : Int) > 64))) _ rfl ?_ ?_
  · refine reg_quiet rfl (step_C tab_ok (fun K hk => hk)) ?_
    refine reg_quiet rfl (load_box tab_ok rfl rfl ⟨_, rfl, rfl⟩ rfl) ?_
    refine reg_quiet rfl (len_arr tab_ok rfl rfl) ?_
    refine reg_quiet rfl (step_C tab_ok (fun K hk => hk)) ?_
    refine reg_quiet rfl (step_C tab_ok (fun K hk => hk)) ?_
    refine reg_split rfl rfl rfl (fun hb => ?_) (fun hb => ?_)
    refine reg_on rfl rfl (by assumption) ?_
    refine reg_quiet rfl (step_C tab_ok (fun K hk => hk)) ?_
    refine reg_on rfl rfl (by assumption) ?_
    refine reg_quiet rfl (load_box tab_ok rfl rfl ⟨_, rfl, rfl⟩ rfl) ?_
    refine reg_on rfl rfl (by assumption) ?_
    refine reg_quiet rfl (len_arr tab_ok rfl rfl) ?_
    refine reg_on rfl rfl (by assumption) ?_
    refine reg_quiet rfl (step_C tab_ok (fun K hk => hk)) ?_
    refine reg_quiet rfl (pick_F tab_ok rfl (by assumption) rfl) ?_
    rotate_left
    refine reg_skip rfl rfl (by assumption) rfl rfl ?_
    refine reg_skip rfl rfl (by assumption) rfl rfl ?_
    refine reg_skip rfl rfl (by assumption) rfl rfl ?_
    refine reg_skip rfl rfl (by assumption) rfl rfl ?_
    refine reg_quiet rfl (pick_T tab_ok rfl (by assumption) rfl) ?_
    rotate_left
    all_goals refine reg_cut 10 rfl rfl rfl rfl rfl rfl rfl rfl rfl (AVLe.of_eq ?_)
    all_goals (first | rfl | (simp_all; done) | (simp_all; omega))
  refine wc_cond rfl (fun hb => ?_) (fun hb => ?_)
  · refine wc_seq ?_
    refine wc_region ?_
    refine reg_quiet rfl (step_C tab_ok (fun K hk => hk)) ?_
    refine reg_nil ?_
    refine seq_n ?_
    refine wc_ret ?_
    refine seq_r ?_
    refine ⟨trivial, [], .of rfl rfl rfl rfl rfl ⟨⟨_, rfl, AVLe.of_eq ?_⟩, rfl, trivial⟩ trivial⟩
    rw [chkS_big hb]; rfl
  have hlen : l.length ≤ 64 := by rw [Bool.or_eq_false_iff] at hb; have := of_decide_eq_false hb.2; omega
  refine wc_skip ?_
  refine seq_n ?_
  refine wc_seq ?_
  refine wc_seq ?_
  refine wc_region ?_
  refine reg_quiet rfl (step_C tab_ok (fun K hk => hk)) ?_
  refine reg_quiet rfl (load_box tab_ok rfl rfl ⟨_, rfl, rfl⟩ rfl) ?_
  refine reg_quiet rfl (len_arr tab_ok rfl rfl) ?_
  refine reg_quiet rfl (step_C tab_ok (fun K hk => hk)) ?_
  refine reg_nil ?_
  refine seq_n ?_
  refine wc_block ?_
  refine wc_inv (fun i : Nat => ⟨[(21, .int .i64 i), (20, .int .i64 l.length), (19, .d (.arr 40 encFrame l)), (1, .ptr 64 [])], [(64, some (.box 61 (.d (encS l h))))], 72, Try.f50.ntmps, 64⟩) (fun i => i ≤ l.length ∧ chkK l i = 0) (fun i => l.length - i) 0 [] ⟨Nat.zero_le _, rfl⟩
    (.of rfl rfl rfl rfl rfl ⟨⟨_, rfl, .refl _⟩, rfl, ⟨_, rfl, .refl _⟩, rfl, ⟨_, rfl, .refl _⟩, rfl, ⟨_, rfl, .refl _⟩, rfl, trivial⟩ ⟨⟨rfl, rfl, _, rfl, .refl _⟩, trivial⟩) ?_
  rintro i ⟨hi, hz⟩
  refine wc_of ?_
  refine wc_seq ?_
  refine wc_region ?_
  refine reg_quiet rfl (step_C tab_ok (fun K hk => hk)) ?_
  refine reg_nil ?_
  refine seq_n ?_
  refine wc_seq ?_
  refine wc_cond rfl (fun hb1 => ?_) (fun hb1 => ?_)
  · have hlt : i < l.length := by have := of_decide_eq_true hb1; omega
    obtain ⟨f, hf⟩ : ∃ f, l[i]? = some f := ⟨_, List.getElem?_eq_getElem hlt⟩
    have hf' : l[((i : Int)).toNat]? = some f := by rw [Int.toNat_natCast]; exact hf
    have htk : (l.take i).length ≤ 1000000 := by simp only [List.length_take]; omega
    have hK : chkK l (i + 1) = if chk f = 0 then (if twiceB (l.take i) f = true then 12 else 0) else chk f := by rw [chkK, if_pos hz, hf]
    refine wc_skip ?_
    refine seq_n ?_
    refine wc_seq ?_
    refine wc_block ?_
    refine wc_seq ?_
    refine wc_region ?_
    refine reg_quiet rfl (step_C tab_ok (fun K hk => hk)) ?_
    refine reg_quiet rfl (index_arr tab_ok rfl rfl rfl rfl rfl (by omega) (by assumption)) ?_
    refine reg_quiet rfl (load_i tab_ok rfl rfl) ?_
    refine reg_new (step_C tab_ok (fun K hk => hk)) rfl ?_
    refine reg_quiet rfl (step_C tab_ok (fun K hk => hk)) ?_
    refine reg_store (store_row tab_ok rfl rfl rfl ⟨_, ⟨rfl, rfl, rfl⟩, rfl⟩ rfl) ?_
    refine reg_nil ?_
    refine seq_n ?_
    refine wc_seq ?_
    refine wc_seq ?_
    refine wc_region ?_
    refine reg_quiet rfl (load_box tab_ok rfl rfl rfl rfl) ?_
    refine reg_quiet rfl (call_r (check_is f) rfl rfl (arg_e arg_nil) (.inl rfl) (fun _ => rfl)) ?_
    refine reg_quiet rfl (step_C tab_ok (fun K hk => hk)) ?_
    refine reg_nil ?_
    refine seq_n ?_
    refine wc_seq ?_
    refine wc_region ?_
    refine reg_quiet rfl (step_C tab_ok (fun K hk => hk)) ?_
    refine reg_quiet rfl (step_C tab_ok (fun K hk => hk)) ?_
    refine reg_nil ?_
    refine seq_n ?_
    refine wc_cond rfl (fun hc => ?_) (fun hc => ?_)
    · have hc' : chk f ≠ 0 := by simpa using hc
      rw [if_neg hc'] at hK
      have he := chkK_err hlt (by rw [hK]; exact hc')
      refine wc_seq ?_
      refine wc_region ?_
      refine reg_quiet rfl (step_C tab_ok (fun K hk => hk)) ?_
      refine reg_quiet rfl (step_C tab_ok (fun K hk => hk)) ?_
      refine reg_nil ?_
      refine seq_n ?_
      refine wc_ret ?_
      refine seq_r ?_
      refine blk_r ?_
      refine seq_r ?_
      refine loop_r ?_
      refine blk_r ?_
      refine seq_r ?_
      refine ⟨trivial, [], .of rfl rfl rfl rfl rfl ⟨⟨_, rfl, AVLe.of_eq ?_⟩, rfl, trivial⟩ trivial⟩
      rw [chkS_err hb (by rw [he, hK]; exact hc'), he, hK]; rfl
    · have hc' : chk f = 0 := by simpa using hc
      rw [if_pos hc'] at hK
      refine wc_skip ?_
      refine seq_n ?_
      refine wc_seq ?_
      refine wc_draw (by kernel_rfl) ?_
      refine dreg_step rfl (step_C tab_ok (fun K hk => hk)) rfl rfl ?_
      refine dreg_step rfl (load_box tab_ok rfl rfl ⟨_, rfl, rfl⟩ rfl) rfl rfl ?_
      refine dreg_step rfl (step_C tab_ok (fun K hk => hk)) rfl rfl ?_
      refine dreg_step rfl (slice_to tab_ok rfl rfl rfl rfl (by omega) (by omega)) rfl rfl ?_
      refine dreg_step rfl (step_C tab_ok (fun K hk => hk)) rfl rfl ?_
      refine dreg_step rfl (load_box tab_ok rfl rfl ⟨_, rfl, rfl⟩ rfl) rfl rfl ?_
      refine dreg_step rfl (call_r (find_is (l.take i) f.block htk) rfl rfl (arg_e (arg_e arg_nil)) (.inl rfl) (fun _ => rfl)) rfl rfl ?_
      refine dreg_step rfl (step_C tab_ok (fun K hk => hk)) rfl rfl ?_
      refine dreg_step rfl (step_C tab_ok (fun K hk => hk)) rfl rfl ?_
      refine dreg_step rfl (step_C tab_ok (fun K hk => hk)) rfl rfl ?_
      refine dreg_step rfl (step_C tab_ok (fun K hk => hk)) rfl rfl ?_
      refine dreg_step rfl (step_C tab_ok (fun K hk => hk)) rfl rfl ?_
      refine dreg_nil (by kernel_rfl) ?_
      refine seq_n ?_
      refine wc_seq_cut 45 (.bool (f.used && (l.take i).any fun g => g.used && decide (g.block = f.block))) _ rfl ?_ ?_
      · refine reg_quiet rfl (step_C tab_ok (fun K hk => hk)) ?_
        refine reg_quiet rfl (load_box tab_ok rfl rfl ⟨_, rfl, rfl⟩ rfl) ?_
        refine reg_quiet rfl (step_C tab_ok (fun K hk => hk)) ?_
        refine reg_split rfl rfl rfl (fun hb => ?_) (fun hb => ?_)
        refine reg_on rfl rfl (by assumption) ?_
        refine reg_quiet rfl (step_C tab_ok (fun K hk => hk)) ?_
        refine reg_quiet rfl (pick_T tab_ok rfl (by assumption) rfl) ?_
        rotate_left
        refine reg_skip rfl rfl (by assumption) rfl rfl ?_
        refine reg_quiet rfl (pick_F tab_ok rfl (by assumption) rfl) ?_
        rotate_left
        all_goals refine reg_cut 5 rfl rfl rfl rfl rfl rfl rfl rfl rfl (AVLe.of_eq ?_)
        all_goals (first | rfl | (simp_all; done) | (simp_all; omega))
      refine wc_cond rfl (fun ht => ?_) (fun ht => ?_)
      · rw [if_pos (show twiceB (l.take i) f = true from ht)] at hK
        have he := chkK_err hlt (by rw [hK]; decide)
        refine wc_seq ?_
        refine wc_region ?_
        refine reg_quiet rfl (step_C tab_ok (fun K hk => hk)) ?_
        refine reg_nil ?_
        refine seq_n ?_
        refine wc_ret ?_
        refine blk_r ?_
        refine seq_r ?_
        refine loop_r ?_
        refine blk_r ?_
        refine seq_r ?_
        refine ⟨trivial, [], .of rfl rfl rfl rfl rfl ⟨⟨_, rfl, AVLe.of_eq ?_⟩, rfl, trivial⟩ trivial⟩
        rw [chkS_err hb (by rw [he, hK]; decide), he, hK]; rfl
      · rw [if_neg (show ¬ twiceB (l.take i) f = true by rw [show twiceB (l.take i) f = false from ht]; exact fun e => by cases e)] at hK
        refine wc_skip ?_
        refine blk_n ?_
        refine seq_n ?_
        refine wc_region ?_
        refine reg_quiet rfl (add_int tab_ok rfl rfl (wrap_i64 (by omega) (by omega))) ?_
        refine reg_quiet rfl (step_C tab_ok (fun K hk => hk)) ?_
        refine reg_nil ?_
        refine loop_n (i + 1) [] ⟨hlt, hK⟩ (by omega) ?_
        exact .of rfl rfl rfl rfl rfl ⟨⟨_, rfl, .refl _⟩, rfl, ⟨_, rfl, .refl _⟩, rfl, ⟨_, rfl, .refl _⟩, rfl, ⟨_, rfl, .refl _⟩, rfl, trivial⟩ ⟨⟨rfl, rfl, _, rfl, .refl _⟩, trivial⟩
  · have he : i = l.length := by have := of_decide_eq_false hb1; omega
    subst he
    have hS := chkS_hand (h := h) hb hz
    refine wc_exit ?_
    refine seq_x ?_
    refine loop_x ?_
    refine blk_x ?_
    refine seq_n ?_
    refine wc_seq ?_
    refine wc_seq_cut 57 (.bool (decide (h < 0) || decide (h ≥ (l.length : Int)))) _ rfl ?_ ?_
    · refine reg_quiet rfl (step_C tab_ok (fun K hk => hk)) ?_
      refine reg_quiet rfl (load_box tab_ok rfl rfl ⟨_, rfl, rfl⟩ rfl) ?_
      refine reg_quiet rfl (step_C tab_ok (fun K hk => hk)) ?_
      refine reg_quiet rfl (step_C tab_ok (fun K hk => hk)) ?_
      refine reg_split rfl rfl rfl (fun hb => ?_) (fun hb => ?_)
      refine reg_on rfl rfl (by assumption) ?_
      refine reg_quiet rfl (step_C tab_ok (fun K hk => hk)) ?_
      refine reg_on rfl rfl (by assumption) ?_
      refine reg_quiet rfl (load_box tab_ok rfl rfl ⟨_, rfl, rfl⟩ rfl) ?_
      refine reg_on rfl rfl (by assumption) ?_
      refine reg_quiet rfl (step_C tab_ok (fun K hk => hk)) ?_
      refine reg_on rfl rfl (by assumption) ?_
      refine reg_quiet rfl (load_box tab_ok rfl rfl ⟨_, rfl, rfl⟩ rfl) ?_
      refine reg_on rfl rfl (by assumption) ?_
      refine reg_quiet rfl (len_arr tab_ok rfl rfl) ?_
      refine reg_on rfl rfl (by assumption) ?_
      refine reg_quiet rfl (step_C tab_ok (fun K hk => hk)) ?_
      refine reg_quiet rfl (pick_F tab_ok rfl (by assumption) rfl) ?_
      rotate_left
      refine reg_skip rfl rfl (by assumption) rfl rfl ?_
      refine reg_skip rfl rfl (by assumption) rfl rfl ?_
      refine reg_skip rfl rfl (by assumption) rfl rfl ?_
      refine reg_skip rfl rfl (by assumption) rfl rfl ?_
      refine reg_skip rfl rfl (by assumption) rfl rfl ?_
      refine reg_skip rfl rfl (by assumption) rfl rfl ?_
      refine reg_quiet rfl (pick_T tab_ok rfl (by assumption) rfl) ?_
      rotate_left
      all_goals refine reg_cut 11 rfl rfl rfl rfl rfl rfl rfl rfl rfl (AVLe.of_eq ?_)
      all_goals (first | rfl | (simp_all; done) | (simp_all; omega))
    refine wc_cond rfl (fun hh => ?_) (fun hh => ?_)
    · refine wc_seq ?_
      refine wc_region ?_
      refine reg_quiet rfl (step_C tab_ok (fun K hk => hk)) ?_
      refine reg_nil ?_
      refine seq_n ?_
      refine wc_ret ?_
      refine seq_r ?_
      refine ⟨trivial, [], .of rfl rfl rfl rfl rfl ⟨⟨_, rfl, AVLe.of_eq ?_⟩, rfl, trivial⟩ trivial⟩
      rw [hS, if_pos hh]; rfl
    · refine wc_skip ?_
      refine seq_n ?_
      refine wc_seq ?_
      refine wc_region ?_
      refine reg_quiet rfl (step_C tab_ok (fun K hk => hk)) ?_
      refine reg_nil ?_
      refine seq_n ?_
      refine wc_ret ?_
      refine ⟨trivial, [], .of rfl rfl rfl rfl rfl ⟨⟨_, rfl, AVLe.of_eq ?_⟩, rfl, trivial⟩ trivial⟩
      rw [hS, if_neg (by rw [hh]; exact fun e => by cases e)]; rfl
end Go.Proofs.Ytmdfeekpehcieaa

/- Shards: Check of the definition. -/
namespace Go.Proofs.Ytmdfeekpehcieaa
open Go.Eng
set_option maxHeartbeats 2000000
attribute [local irreducible] WC RegS RegD SeqQ BlkQ ScoQ RegK CutK Sat SatN FnIs LoopQ StepIs OpIs
theorem chk_pos (f : Frame) : chk f ≠ 0 → chk f > 0 := by
  intro h
  have key : chk f = 1 ∨ chk f = 10 ∨ chk f = 0 := by unfold chk; (repeat' split) <;> simp
  omega
def twP (f g : Frame) : Bool := g.used && f.used && decide (g.block = f.block)
theorem tw_any (l : List Frame) (f : Frame) : l.any (twP f) = twiceB l f := by
  unfold twiceB
  cases hf : f.used with
  | false => rw [Bool.false_and, List.any_eq_false]; intro g _; simp [twP, hf]
  | true => rw [Bool.true_and]; congr 1; funext g; simp [twP, hf]
theorem refshcheck_is (l : List Frame) (h : Int) : FnIs Try.prog 51 [.d (encS l h)] [] (.int .i64 (chkS l h)) [] := by
  refine fnIs_of tab_ok Try.func51 rfl rfl rfl ?_
  refine wc_seq ?_
  refine wc_region ?_
  refine reg_new (step_C tab_ok (fun K hk => hk)) rfl ?_
  refine reg_quiet rfl (step_C tab_ok (fun K hk => hk)) ?_
  refine reg_nil ?_
  refine seq_n ?_
  refine wc_seq ?_
  refine wc_seq_cut 14 (.bool (decide ((l.length : Int) = 0) || decide ((l.length : Int) > 64))) _ rfl ?_ ?_
  · refine reg_quiet rfl (step_C tab_ok (fun K hk => hk)) ?_
    refine reg_quiet rfl (load_box tab_ok rfl rfl ⟨_, rfl, rfl⟩ rfl) ?_
    refine reg_quiet rfl (len_arr tab_ok rfl rfl) ?_
    refine reg_quiet rfl (step_C tab_ok (fun K hk => hk)) ?_
    refine reg_quiet rfl (step_C tab_ok (fun K hk => hk)) ?_
    refine reg_split rfl rfl rfl (fun hb => ?_) (fun hb => ?_)
    refine reg_on rfl rfl (by assumption) ?_
    refine reg_quiet rfl (step_C tab_ok (fun K hk => hk)) ?_
    refine reg_on rfl rfl (by assumption) ?_
    refine reg_quiet rfl (load_box tab_ok rfl rfl ⟨_, rfl, rfl⟩ rfl) ?_
    refine reg_on rfl rfl (by assumption) ?_
    refine reg_quiet rfl (len_arr tab_ok rfl rfl) ?_
    refine reg_on rfl rfl (by assumption) ?_
    refine reg_quiet rfl (step_C tab_ok (fun K hk => hk)) ?_
    refine reg_quiet rfl (pick_F tab_ok rfl (by assumption) rfl) ?_
    rotate_left
    refine reg_skip rfl rfl (by assumption) rfl rfl ?_
    refine reg_skip rfl rfl (by assumption) rfl rfl ?_
    refine reg_skip rfl rfl (by assumption) rfl rfl ?_
    refine reg_skip rfl rfl (by assumption) rfl rfl ?_
    refine reg_quiet rfl (pick_T tab_ok rfl (by assumption) rfl) ?_
    rotate_left
    all_goals refine reg_cut 10 rfl rfl rfl rfl rfl rfl rfl rfl rfl (AVLe.of_eq ?_)
    all_goals (first | rfl | (simp_all; done) | (simp_all; omega))
  refine wc_cond rfl (fun hb => ?_) (fun hb => ?_)
  · have hb' : (decide ((l.length : Int) < 1) || decide ((l.length : Int) > 64)) = true := by
      rw [Bool.or_eq_true] at hb ⊢
      rcases hb with hb | hb
      · have := of_decide_eq_true hb; exact .inl (decide_eq_true (by omega))
      · exact .inr hb
    refine wc_seq ?_
    refine wc_region ?_
    refine reg_quiet rfl (step_C tab_ok (fun K hk => hk)) ?_
    refine reg_nil ?_
    refine seq_n ?_
    refine wc_ret ?_
    refine seq_r ?_
    refine ⟨trivial, [], .of rfl rfl rfl rfl rfl ⟨⟨_, rfl, AVLe.of_eq ?_⟩, rfl, trivial⟩ trivial⟩
    rw [chkS_big hb']; rfl
  have hlen : l.length ≤ 64 := by rw [Bool.or_eq_false_iff] at hb; have := of_decide_eq_false hb.2; omega
  have hb' : (decide ((l.length : Int) < 1) || decide ((l.length : Int) > 64)) = false := by
    rw [Bool.or_eq_false_iff] at hb ⊢
    have := of_decide_eq_false hb.1
    exact ⟨decide_eq_false (by omega), hb.2⟩
  refine wc_skip ?_
  refine seq_n ?_
  refine wc_seq ?_
  refine wc_seq ?_
  refine wc_region ?_
  refine reg_quiet rfl (step_C tab_ok (fun K hk => hk)) ?_
  refine reg_nil ?_
  refine seq_n ?_
  refine wc_block ?_
  refine wc_inv (fun i : Nat => ⟨[(3, .int .i64 i), (1, .ptr 64 [])], [(64, some (.box 61 (.d (encS l h))))], 72, Try.f51.ntmps, 64⟩) (fun i => i ≤ l.length ∧ chkK l i = 0) (fun i => l.length - i) 0 [] ⟨Nat.zero_le _, rfl⟩
    (.of rfl rfl rfl rfl rfl ⟨⟨_, rfl, .refl _⟩, rfl, ⟨_, rfl, .refl _⟩, rfl, trivial⟩ ⟨⟨rfl, rfl, _, rfl, .refl _⟩, trivial⟩) ?_
  rintro i ⟨hi, hz⟩
  refine wc_of ?_
  refine wc_seq ?_
  refine wc_seq ?_
  refine wc_region ?_
  refine reg_quiet rfl (step_C tab_ok (fun K hk => hk)) ?_
  refine reg_quiet rfl (step_C tab_ok (fun K hk => hk)) ?_
  refine reg_quiet rfl (load_box tab_ok rfl rfl ⟨_, rfl, rfl⟩ rfl) ?_
  refine reg_quiet rfl (len_arr tab_ok rfl rfl) ?_
  refine reg_quiet rfl (step_C tab_ok (fun K hk => hk)) ?_
  refine reg_nil ?_
  refine seq_n ?_
  refine wc_cond rfl (fun hb1 => ?_) (fun hb1 => ?_)
  · have hlt : i < l.length := by have := of_decide_eq_true hb1; omega
    obtain ⟨f, hf⟩ : ∃ f, l[i]? = some f := ⟨_, List.getElem?_eq_getElem hlt⟩
    have hf' : l[((i : Int)).toNat]? = some f := by rw [Int.toNat_natCast]; exact hf
    have hK : chkK l (i + 1) = if chk f = 0 then (if twiceB (l.take i) f = true then 12 else 0) else chk f := by rw [chkK, if_pos hz, hf]
    refine wc_skip ?_
    refine seq_n ?_
    refine wc_seq ?_
    refine wc_block ?_
    refine wc_seq ?_
    refine wc_seq ?_
    refine wc_region ?_
    refine reg_quiet rfl (step_C tab_ok (fun K hk => hk)) ?_
    refine reg_quiet rfl (load_box tab_ok rfl rfl ⟨_, rfl, rfl⟩ rfl) ?_
    refine reg_quiet rfl (step_C tab_ok (fun K hk => hk)) ?_
    refine reg_quiet rfl (index_arr tab_ok rfl rfl rfl rfl rfl (by omega) (by assumption)) ?_
    refine reg_quiet rfl (load_i tab_ok rfl rfl) ?_
    refine reg_quiet rfl (call_r (refcheck_is f) rfl rfl (arg_e arg_nil) (.inl rfl) (fun _ => rfl)) ?_
    refine reg_quiet rfl (step_C tab_ok (fun K hk => hk)) ?_
    refine reg_nil ?_
    refine seq_n ?_
    refine wc_cond rfl (fun hc => ?_) (fun hc => ?_)
    · have hc' : chk f ≠ 0 := by have := of_decide_eq_true hc; omega
      rw [if_neg hc'] at hK
      have he := chkK_err hlt (by rw [hK]; exact hc')
      refine wc_seq ?_
      refine wc_region ?_
      refine reg_quiet rfl (step_C tab_ok (fun K hk => hk)) ?_
      refine reg_quiet rfl (load_box tab_ok rfl rfl ⟨_, rfl, rfl⟩ rfl) ?_
      refine reg_quiet rfl (step_C tab_ok (fun K hk => hk)) ?_
      refine reg_quiet rfl (index_arr tab_ok rfl rfl rfl rfl rfl (by omega) (by assumption)) ?_
      refine reg_quiet rfl (load_i tab_ok rfl rfl) ?_
      refine reg_quiet rfl (call_r (refcheck_is f) rfl rfl (arg_e arg_nil) (.inl rfl) (fun _ => rfl)) ?_
      refine reg_quiet rfl (step_C tab_ok (fun K hk => hk)) ?_
      refine reg_nil ?_
      refine seq_n ?_
      refine wc_ret ?_
      refine seq_r ?_
      refine blk_r ?_
      refine seq_r ?_
      refine loop_r ?_
      refine blk_r ?_
      refine seq_r ?_
      refine ⟨trivial, [], .of rfl rfl rfl rfl rfl ⟨⟨_, rfl, AVLe.of_eq ?_⟩, rfl, trivial⟩ trivial⟩
      rw [chkS_err hb' (by rw [he, hK]; exact hc'), he, hK]; rfl
    · have hc' : chk f = 0 := by
        refine Classical.byContradiction fun hne => ?_
        have := chk_pos f hne
        have := of_decide_eq_false hc
        omega
      rw [if_pos hc'] at hK
      have htl : (l.take i).length = i := by simp only [List.length_take]; omega
      refine wc_skip ?_
      refine seq_n ?_
      refine wc_seq ?_
      refine wc_region ?_
      refine reg_quiet rfl (step_C tab_ok (fun K hk => hk)) ?_
      refine reg_nil ?_
      refine seq_n ?_
      refine wc_block ?_
      refine wc_inv (fun k : Nat => ⟨[(4, .int .i64 k), (3, .int .i64 i), (1, .ptr 64 [])], [(64, some (.box 61 (.d (encS l h))))], 72, Try.f51.ntmps, 64⟩) (UpTo (twP f) (l.take i)) (fun k => i - k) 0 [] (upTo_zero _ _)
        (.of rfl rfl rfl rfl rfl ⟨⟨_, rfl, .refl _⟩, rfl, ⟨_, rfl, .refl _⟩, rfl, ⟨_, rfl, .refl _⟩, rfl, trivial⟩ ⟨⟨rfl, rfl, _, rfl, .refl _⟩, trivial⟩) ?_
      intro k hk
      have hki := hk.1
      rw [htl] at hki
      refine wc_of ?_
      refine wc_seq ?_
      refine wc_seq ?_
      refine wc_region ?_
      refine reg_quiet rfl (step_C tab_ok (fun K hk => hk)) ?_
      refine reg_quiet rfl (step_C tab_ok (fun K hk => hk)) ?_
      refine reg_quiet rfl (step_C tab_ok (fun K hk => hk)) ?_
      refine reg_nil ?_
      refine seq_n ?_
      refine wc_cond rfl (fun hb2 => ?_) (fun hb2 => ?_)
      · have hlt2 : k < i := by have := of_decide_eq_true hb2; omega
        obtain ⟨g, hg⟩ : ∃ g, l[k]? = some g := ⟨_, List.getElem?_eq_getElem (by omega)⟩
        have hg' : l[((k : Int)).toNat]? = some g := by rw [Int.toNat_natCast]; exact hg
        have hgt : (l.take i)[k]? = some g := by rw [List.getElem?_take, if_pos hlt2]; exact hg
        cases hgu : g.used with
        | false =>
          refine wc_skip ?_
          refine seq_n ?_
          refine wc_seq ?_
          refine wc_block ?_
          refine wc_seq ?_
          refine wc_draw (by kernel_rfl) ?_
          refine dreg_step rfl (step_C tab_ok (fun K hk => hk)) rfl rfl ?_
          refine dreg_step rfl (load_box tab_ok rfl rfl ⟨_, rfl, rfl⟩ rfl) rfl rfl ?_
          refine dreg_step rfl (step_C tab_ok (fun K hk => hk)) rfl rfl ?_
          refine dreg_step rfl (index_arr tab_ok rfl rfl rfl rfl rfl (by omega) (by assumption)) rfl rfl ?_
          refine dreg_step rfl (step_C tab_ok (fun K hk => hk)) rfl rfl ?_
          refine dreg_step rfl (load_i tab_ok rfl rfl) rfl rfl ?_
          refine dreg_step rfl (step_C tab_ok (fun K hk => hk)) rfl rfl ?_
          refine dreg_off rfl rfl (by assumption) rfl rfl ?_
          refine dreg_off rfl rfl (by assumption) rfl rfl ?_
          refine dreg_off rfl rfl (by assumption) rfl rfl ?_
          refine dreg_off rfl rfl (by assumption) rfl rfl ?_
          refine dreg_off rfl rfl (by assumption) rfl rfl ?_
          refine dreg_off rfl rfl (by assumption) rfl rfl ?_
          refine dreg_step rfl (pick_F tab_ok rfl (by assumption) rfl) rfl rfl ?_
          refine dreg_step rfl (step_C tab_ok (fun K hk => hk)) rfl rfl ?_
          refine dreg_off rfl rfl rfl rfl rfl ?_
          refine dreg_off rfl rfl rfl rfl rfl ?_
          refine dreg_off rfl rfl rfl rfl rfl ?_
          refine dreg_off rfl rfl rfl rfl rfl ?_
          refine dreg_off rfl rfl rfl rfl rfl ?_
          refine dreg_off rfl rfl rfl rfl rfl ?_
          refine dreg_off rfl rfl rfl rfl rfl ?_
          refine dreg_off rfl rfl rfl rfl rfl ?_
          refine dreg_off rfl rfl rfl rfl rfl ?_
          refine dreg_off rfl rfl rfl rfl rfl ?_
          refine dreg_off rfl rfl rfl rfl rfl ?_
          refine dreg_off rfl rfl rfl rfl rfl ?_
          refine dreg_off rfl rfl rfl rfl rfl ?_
          refine dreg_step rfl (pick_F tab_ok rfl rfl rfl) rfl rfl ?_
          refine dreg_nil (by kernel_rfl) ?_
          refine seq_n ?_
          refine wc_false rfl rfl ?_
          refine wc_skip ?_
          refine blk_n ?_
          refine seq_n ?_
          refine wc_region ?_
          refine reg_quiet rfl (step_C tab_ok (fun K hk => hk)) ?_
          refine reg_quiet rfl (add_int tab_ok rfl rfl (wrap_i64 (by omega) (by omega))) ?_
          refine reg_quiet rfl (step_C tab_ok (fun K hk => hk)) ?_
          refine reg_nil ?_
          refine loop_n (k + 1) [] (upTo_succ hk hgt (by simp [twP, hgu])) (by omega) ?_
          exact .of rfl rfl rfl rfl rfl ⟨⟨_, rfl, .refl _⟩, rfl, ⟨_, rfl, .refl _⟩, rfl, ⟨_, rfl, .refl _⟩, rfl, trivial⟩ ⟨⟨rfl, rfl, _, rfl, .refl _⟩, trivial⟩
        | true =>
        cases hfu : f.used with
        | false =>
          refine wc_skip ?_
          refine seq_n ?_
          refine wc_seq ?_
          refine wc_block ?_
          refine wc_seq ?_
          refine wc_draw (by kernel_rfl) ?_
          refine dreg_step rfl (step_C tab_ok (fun K hk => hk)) rfl rfl ?_
          refine dreg_step rfl (load_box tab_ok rfl rfl ⟨_, rfl, rfl⟩ rfl) rfl rfl ?_
          refine dreg_step rfl (step_C tab_ok (fun K hk => hk)) rfl rfl ?_
          refine dreg_step rfl (index_arr tab_ok rfl rfl rfl rfl rfl (by omega) (by assumption)) rfl rfl ?_
          refine dreg_step rfl (step_C tab_ok (fun K hk => hk)) rfl rfl ?_
          refine dreg_step rfl (load_i tab_ok rfl rfl) rfl rfl ?_
          refine dreg_step rfl (step_C tab_ok (fun K hk => hk)) rfl rfl ?_
          refine dreg_on rfl rfl (by assumption) rfl (step_C tab_ok (fun K hk => hk)) rfl rfl ?_
          refine dreg_on rfl rfl (by assumption) rfl (load_box tab_ok rfl rfl ⟨_, rfl, rfl⟩ rfl) rfl rfl ?_
          refine dreg_on rfl rfl (by assumption) rfl (step_C tab_ok (fun K hk => hk)) rfl rfl ?_
          refine dreg_on rfl rfl (by assumption) rfl (index_arr tab_ok rfl rfl rfl rfl rfl (by omega) (by assumption)) rfl rfl ?_
          refine dreg_on rfl rfl (by assumption) rfl (step_C tab_ok (fun K hk => hk)) rfl rfl ?_
          refine dreg_on rfl rfl (by assumption) rfl (load_i tab_ok rfl rfl) rfl rfl ?_
          refine dreg_step rfl (pick_T tab_ok rfl (by assumption) rfl) rfl rfl ?_
          refine dreg_step rfl (step_C tab_ok (fun K hk => hk)) rfl rfl ?_
          refine dreg_off rfl rfl (by assumption) rfl rfl ?_
          refine dreg_off rfl rfl (by assumption) rfl rfl ?_
          refine dreg_off rfl rfl (by assumption) rfl rfl ?_
          refine dreg_off rfl rfl (by assumption) rfl rfl ?_
          refine dreg_off rfl rfl (by assumption) rfl rfl ?_
          refine dreg_off rfl rfl (by assumption) rfl rfl ?_
          refine dreg_off rfl rfl (by assumption) rfl rfl ?_
          refine dreg_off rfl rfl (by assumption) rfl rfl ?_
          refine dreg_off rfl rfl (by assumption) rfl rfl ?_
          refine dreg_off rfl rfl (by assumption) rfl rfl ?_
          refine dreg_off rfl rfl (by assumption) rfl rfl ?_
          refine dreg_off rfl rfl (by assumption) rfl rfl ?_
          refine dreg_off rfl rfl (by assumption) rfl rfl ?_
          refine dreg_step rfl (pick_F tab_ok rfl (by assumption) rfl) rfl rfl ?_
          refine dreg_nil (by kernel_rfl) ?_
          refine seq_n ?_
          refine wc_false rfl rfl ?_
          refine wc_skip ?_
          refine blk_n ?_
          refine seq_n ?_
          refine wc_region ?_
          refine reg_quiet rfl (step_C tab_ok (fun K hk => hk)) ?_
          refine reg_quiet rfl (add_int tab_ok rfl rfl (wrap_i64 (by omega) (by omega))) ?_
          refine reg_quiet rfl (step_C tab_ok (fun K hk => hk)) ?_
          refine reg_nil ?_
          refine loop_n (k + 1) [] (upTo_succ hk hgt (by simp [twP, hfu])) (by omega) ?_
          exact .of rfl rfl rfl rfl rfl ⟨⟨_, rfl, .refl _⟩, rfl, ⟨_, rfl, .refl _⟩, rfl, ⟨_, rfl, .refl _⟩, rfl, trivial⟩ ⟨⟨rfl, rfl, _, rfl, .refl _⟩, trivial⟩
        | true =>
        cases hbl : decide (g.block = f.block) with
        | false =>
          refine wc_skip ?_
          refine seq_n ?_
          refine wc_seq ?_
          refine wc_block ?_
          refine wc_seq ?_
          refine wc_draw (by kernel_rfl) ?_
          refine dreg_step rfl (step_C tab_ok (fun K hk => hk)) rfl rfl ?_
          refine dreg_step rfl (load_box tab_ok rfl rfl ⟨_, rfl, rfl⟩ rfl) rfl rfl ?_
          refine dreg_step rfl (step_C tab_ok (fun K hk => hk)) rfl rfl ?_
          refine dreg_step rfl (index_arr tab_ok rfl rfl rfl rfl rfl (by omega) (by assumption)) rfl rfl ?_
          refine dreg_step rfl (step_C tab_ok (fun K hk => hk)) rfl rfl ?_
          refine dreg_step rfl (load_i tab_ok rfl rfl) rfl rfl ?_
          refine dreg_step rfl (step_C tab_ok (fun K hk => hk)) rfl rfl ?_
          refine dreg_on rfl rfl (by assumption) rfl (step_C tab_ok (fun K hk => hk)) rfl rfl ?_
          refine dreg_on rfl rfl (by assumption) rfl (load_box tab_ok rfl rfl ⟨_, rfl, rfl⟩ rfl) rfl rfl ?_
          refine dreg_on rfl rfl (by assumption) rfl (step_C tab_ok (fun K hk => hk)) rfl rfl ?_
          refine dreg_on rfl rfl (by assumption) rfl (index_arr tab_ok rfl rfl rfl rfl rfl (by omega) (by assumption)) rfl rfl ?_
          refine dreg_on rfl rfl (by assumption) rfl (step_C tab_ok (fun K hk => hk)) rfl rfl ?_
          refine dreg_on rfl rfl (by assumption) rfl (load_i tab_ok rfl rfl) rfl rfl ?_
          refine dreg_step rfl (pick_T tab_ok rfl (by assumption) rfl) rfl rfl ?_
          refine dreg_step rfl (step_C tab_ok (fun K hk => hk)) rfl rfl ?_
          refine dreg_on rfl rfl (by assumption) rfl (step_C tab_ok (fun K hk => hk)) rfl rfl ?_
          refine dreg_on rfl rfl (by assumption) rfl (load_box tab_ok rfl rfl ⟨_, rfl, rfl⟩ rfl) rfl rfl ?_
          refine dreg_on rfl rfl (by assumption) rfl (step_C tab_ok (fun K hk => hk)) rfl rfl ?_
          refine dreg_on rfl rfl (by assumption) rfl (index_arr tab_ok rfl rfl rfl rfl rfl (by omega) (by assumption)) rfl rfl ?_
          refine dreg_on rfl rfl (by assumption) rfl (step_C tab_ok (fun K hk => hk)) rfl rfl ?_
          refine dreg_on rfl rfl (by assumption) rfl (load_i tab_ok rfl rfl) rfl rfl ?_
          refine dreg_on rfl rfl (by assumption) rfl (step_C tab_ok (fun K hk => hk)) rfl rfl ?_
          refine dreg_on rfl rfl (by assumption) rfl (load_box tab_ok rfl rfl ⟨_, rfl, rfl⟩ rfl) rfl rfl ?_
          refine dreg_on rfl rfl (by assumption) rfl (step_C tab_ok (fun K hk => hk)) rfl rfl ?_
          refine dreg_on rfl rfl (by assumption) rfl (index_arr tab_ok rfl rfl rfl rfl rfl (by omega) (by assumption)) rfl rfl ?_
          refine dreg_on rfl rfl (by assumption) rfl (step_C tab_ok (fun K hk => hk)) rfl rfl ?_
          refine dreg_on rfl rfl (by assumption) rfl (load_i tab_ok rfl rfl) rfl rfl ?_
          refine dreg_on rfl rfl (by assumption) rfl (step_C tab_ok (fun K hk => hk)) rfl rfl ?_
          refine dreg_step rfl (pick_T tab_ok rfl (by assumption) rfl) rfl rfl ?_
          refine dreg_nil (by kernel_rfl) ?_
          refine seq_n ?_
          refine wc_false rfl (by assumption) ?_
          refine wc_skip ?_
          refine blk_n ?_
          refine seq_n ?_
          refine wc_region ?_
          refine reg_quiet rfl (step_C tab_ok (fun K hk => hk)) ?_
          refine reg_quiet rfl (add_int tab_ok rfl rfl (wrap_i64 (by omega) (by omega))) ?_
          refine reg_quiet rfl (step_C tab_ok (fun K hk => hk)) ?_
          refine reg_nil ?_
          refine loop_n (k + 1) [] (upTo_succ hk hgt (by simp [twP, hgu, hfu, hbl])) (by omega) ?_
          exact .of rfl rfl rfl rfl rfl ⟨⟨_, rfl, .refl _⟩, rfl, ⟨_, rfl, .refl _⟩, rfl, ⟨_, rfl, .refl _⟩, rfl, trivial⟩ ⟨⟨rfl, rfl, _, rfl, .refl _⟩, trivial⟩
        | true =>
          have htw : twiceB (l.take i) f = true := by rw [← tw_any]; exact any_hit hgt (by simp [twP, hgu, hfu, hbl])
          rw [if_pos htw] at hK
          have he := chkK_err hlt (by rw [hK]; decide)
          refine wc_skip ?_
          refine seq_n ?_
          refine wc_seq ?_
          refine wc_block ?_
          refine wc_seq ?_
          refine wc_draw (by kernel_rfl) ?_
          refine dreg_step rfl (step_C tab_ok (fun K hk => hk)) rfl rfl ?_
          refine dreg_step rfl (load_box tab_ok rfl rfl ⟨_, rfl, rfl⟩ rfl) rfl rfl ?_
          refine dreg_step rfl (step_C tab_ok (fun K hk => hk)) rfl rfl ?_
          refine dreg_step rfl (index_arr tab_ok rfl rfl rfl rfl rfl (by omega) (by assumption)) rfl rfl ?_
          refine dreg_step rfl (step_C tab_ok (fun K hk => hk)) rfl rfl ?_
          refine dreg_step rfl (load_i tab_ok rfl rfl) rfl rfl ?_
          refine dreg_step rfl (step_C tab_ok (fun K hk => hk)) rfl rfl ?_
          refine dreg_on rfl rfl (by assumption) rfl (step_C tab_ok (fun K hk => hk)) rfl rfl ?_
          refine dreg_on rfl rfl (by assumption) rfl (load_box tab_ok rfl rfl ⟨_, rfl, rfl⟩ rfl) rfl rfl ?_
          refine dreg_on rfl rfl (by assumption) rfl (step_C tab_ok (fun K hk => hk)) rfl rfl ?_
          refine dreg_on rfl rfl (by assumption) rfl (index_arr tab_ok rfl rfl rfl rfl rfl (by omega) (by assumption)) rfl rfl ?_
          refine dreg_on rfl rfl (by assumption) rfl (step_C tab_ok (fun K hk => hk)) rfl rfl ?_
          refine dreg_on rfl rfl (by assumption) rfl (load_i tab_ok rfl rfl) rfl rfl ?_
          refine dreg_step rfl (pick_T tab_ok rfl (by assumption) rfl) rfl rfl ?_
          refine dreg_step rfl (step_C tab_ok (fun K hk => hk)) rfl rfl ?_
          refine dreg_on rfl rfl (by assumption) rfl (step_C tab_ok (fun K hk => hk)) rfl rfl ?_
          refine dreg_on rfl rfl (by assumption) rfl (load_box tab_ok rfl rfl ⟨_, rfl, rfl⟩ rfl) rfl rfl ?_
          refine dreg_on rfl rfl (by assumption) rfl (step_C tab_ok (fun K hk => hk)) rfl rfl ?_
          refine dreg_on rfl rfl (by assumption) rfl (index_arr tab_ok rfl rfl rfl rfl rfl (by omega) (by assumption)) rfl rfl ?_
          refine dreg_on rfl rfl (by assumption) rfl (step_C tab_ok (fun K hk => hk)) rfl rfl ?_
          refine dreg_on rfl rfl (by assumption) rfl (load_i tab_ok rfl rfl) rfl rfl ?_
          refine dreg_on rfl rfl (by assumption) rfl (step_C tab_ok (fun K hk => hk)) rfl rfl ?_
          refine dreg_on rfl rfl (by assumption) rfl (load_box tab_ok rfl rfl ⟨_, rfl, rfl⟩ rfl) rfl rfl ?_
          refine dreg_on rfl rfl (by assumption) rfl (step_C tab_ok (fun K hk => hk)) rfl rfl ?_
          refine dreg_on rfl rfl (by assumption) rfl (index_arr tab_ok rfl rfl rfl rfl rfl (by omega) (by assumption)) rfl rfl ?_
          refine dreg_on rfl rfl (by assumption) rfl (step_C tab_ok (fun K hk => hk)) rfl rfl ?_
          refine dreg_on rfl rfl (by assumption) rfl (load_i tab_ok rfl rfl) rfl rfl ?_
          refine dreg_on rfl rfl (by assumption) rfl (step_C tab_ok (fun K hk => hk)) rfl rfl ?_
          refine dreg_step rfl (pick_T tab_ok rfl (by assumption) rfl) rfl rfl ?_
          refine dreg_nil (by kernel_rfl) ?_
          refine seq_n ?_
          refine wc_true rfl (by assumption) ?_
          refine wc_seq ?_
          refine wc_region ?_
          refine reg_quiet rfl (step_C tab_ok (fun K hk => hk)) ?_
          refine reg_nil ?_
          refine seq_n ?_
          refine wc_ret ?_
          refine blk_r ?_
          refine seq_r ?_
          refine loop_r ?_
          refine blk_r ?_
          refine blk_r ?_
          refine seq_r ?_
          refine loop_r ?_
          refine blk_r ?_
          refine seq_r ?_
          refine ⟨trivial, [], .of rfl rfl rfl rfl rfl ⟨⟨_, rfl, AVLe.of_eq ?_⟩, rfl, trivial⟩ trivial⟩
          rw [chkS_err hb' (by rw [he, hK]; decide), he, hK]; rfl
      · have hke : k = (l.take i).length := by have := of_decide_eq_false hb2; omega
        have hno := any_miss hk hke
        rw [tw_any] at hno
        rw [hno, if_neg (fun e => by cases e)] at hK
        refine wc_exit ?_
        refine seq_x ?_
        refine loop_x ?_
        refine blk_x ?_
        refine blk_n ?_
        refine seq_n ?_
        refine wc_region ?_
        refine reg_quiet rfl (step_C tab_ok (fun K hk => hk)) ?_
        refine reg_quiet rfl (add_int tab_ok rfl rfl (wrap_i64 (by omega) (by omega))) ?_
        refine reg_quiet rfl (step_C tab_ok (fun K hk => hk)) ?_
        refine reg_nil ?_
        refine loop_n (i + 1) [] ⟨hlt, hK⟩ (by omega) ?_
        exact .of rfl rfl rfl rfl rfl ⟨⟨_, rfl, .refl _⟩, rfl, ⟨_, rfl, .refl _⟩, rfl, trivial⟩ ⟨⟨rfl, rfl, _, rfl, .refl _⟩, trivial⟩
  · have he : i = l.length := by have := of_decide_eq_false hb1; omega
    subst he
    have hS := chkS_hand (h := h) hb' hz
    refine wc_exit ?_
    refine seq_x ?_
    refine loop_x ?_
    refine blk_x ?_
    refine seq_n ?_
    refine wc_seq ?_
    refine wc_seq_cut 79 (.bool (decide (h < 0) || decide (h ≥ (l.length : Int)))) _ rfl ?_ ?_
    · refine reg_quiet rfl (step_C tab_ok (fun K hk => hk)) ?_
      refine reg_quiet rfl (load_box tab_ok rfl rfl ⟨_, rfl, rfl⟩ rfl) ?_
      refine reg_quiet rfl (step_C tab_ok (fun K hk => hk)) ?_
      refine reg_quiet rfl (step_C tab_ok (fun K hk => hk)) ?_
      refine reg_split rfl rfl rfl (fun hb => ?_) (fun hb => ?_)
      refine reg_on rfl rfl (by assumption) ?_
      refine reg_quiet rfl (step_C tab_ok (fun K hk => hk)) ?_
      refine reg_on rfl rfl (by assumption) ?_
      refine reg_quiet rfl (load_box tab_ok rfl rfl ⟨_, rfl, rfl⟩ rfl) ?_
      refine reg_on rfl rfl (by assumption) ?_
      refine reg_quiet rfl (step_C tab_ok (fun K hk => hk)) ?_
      refine reg_on rfl rfl (by assumption) ?_
      refine reg_quiet rfl (load_box tab_ok rfl rfl ⟨_, rfl, rfl⟩ rfl) ?_
      refine reg_on rfl rfl (by assumption) ?_
      refine reg_quiet rfl (len_arr tab_ok rfl rfl) ?_
      refine reg_on rfl rfl (by assumption) ?_
      refine reg_quiet rfl (step_C tab_ok (fun K hk => hk)) ?_
      refine reg_quiet rfl (pick_F tab_ok rfl (by assumption) rfl) ?_
      rotate_left
      refine reg_skip rfl rfl (by assumption) rfl rfl ?_
      refine reg_skip rfl rfl (by assumption) rfl rfl ?_
      refine reg_skip rfl rfl (by assumption) rfl rfl ?_
      refine reg_skip rfl rfl (by assumption) rfl rfl ?_
      refine reg_skip rfl rfl (by assumption) rfl rfl ?_
      refine reg_skip rfl rfl (by assumption) rfl rfl ?_
      refine reg_quiet rfl (pick_T tab_ok rfl (by assumption) rfl) ?_
      rotate_left
      all_goals refine reg_cut 11 rfl rfl rfl rfl rfl rfl rfl rfl rfl (AVLe.of_eq ?_)
      all_goals (first | rfl | (simp_all; done) | (simp_all; omega))
    refine wc_cond rfl (fun hh => ?_) (fun hh => ?_)
    · refine wc_seq ?_
      refine wc_region ?_
      refine reg_quiet rfl (step_C tab_ok (fun K hk => hk)) ?_
      refine reg_nil ?_
      refine seq_n ?_
      refine wc_ret ?_
      refine seq_r ?_
      refine ⟨trivial, [], .of rfl rfl rfl rfl rfl ⟨⟨_, rfl, AVLe.of_eq ?_⟩, rfl, trivial⟩ trivial⟩
      rw [hS, if_pos hh]; rfl
    · refine wc_skip ?_
      refine seq_n ?_
      refine wc_seq ?_
      refine wc_region ?_
      refine reg_quiet rfl (step_C tab_ok (fun K hk => hk)) ?_
      refine reg_nil ?_
      refine seq_n ?_
      refine wc_ret ?_
      refine ⟨trivial, [], .of rfl rfl rfl rfl rfl ⟨⟨_, rfl, AVLe.of_eq ?_⟩, rfl, trivial⟩ trivial⟩
      rw [hS, if_neg (by rw [hh]; exact fun e => by cases e)]; rfl
end Go.Proofs.Ytmdfeekpehcieaa
