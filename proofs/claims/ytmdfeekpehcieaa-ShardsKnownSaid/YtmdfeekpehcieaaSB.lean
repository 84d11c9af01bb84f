/- Shards: the acts. -/
import Derived.Test.YtmdfeekpehcieaaSA

set_option linter.unusedVariables false
set_option linter.unusedSimpArgs false

/- Shards: what an act does to a frame. -/
namespace Go.Proofs.Ytmdfeekpehcieaa
open Go.Eng
set_option maxHeartbeats 2000000
attribute [local irreducible] WC RegS RegD SeqQ BlkQ ScoQ RegK CutK Sat SatN FnIs LoopQ StepIs OpIs
theorem set_get {l : List Frame} {i : Nat} {f g : Frame} (h : l[i]? = some f) : (l.set i g)[i]? = some g := by
  have := (List.getElem?_eq_some_iff.1 h).1
  simp [this]
theorem drop1_is (l : List Frame) (i : Nat) (f : Frame) (hf : l[i]? = some f) : FnIs Try.prog 69 [.ptr 0 [.idx i 40]] [(0, .ds 39 40 true encFrame l)] (.bool (f.used && !f.dirty && !f.busy)) [(0, .ds 39 40 true encFrame (l.set i zeroFrame))] := by
  refine fnIs_of tab_ok Try.func69 rfl rfl rfl ?_
  have hf1 : (l.set i zeroFrame)[i]? = some zeroFrame := set_get hf
  refine wc_seq ?_
  refine wc_region ?_
  refine reg_quiet rfl (step_C tab_ok (fun K hk => hk)) ?_
  refine reg_nil ?_
  refine seq_n ?_
  refine wc_seq ?_
  refine wc_region ?_
  refine reg_quiet rfl (step_C tab_ok (fun K hk => hk)) ?_
  refine reg_quiet rfl (step_C tab_ok (fun K hk => hk)) ?_
  refine reg_quiet rfl (step_C tab_ok (fun K hk => hk)) ?_
  refine reg_quiet rfl (load_row (v := .d (bo f.used)) tab_ok rfl rfl ⟨rfl, f, hf, bo f.used, rfl, rfl⟩ rfl) ?_
  refine reg_quiet rfl (step_C tab_ok (fun K hk => hk)) ?_
  refine reg_split rfl rfl rfl (fun hb => ?_) (fun hb => ?_)
  refine reg_on rfl rfl (by assumption) ?_
  refine reg_quiet rfl (step_C tab_ok (fun K hk => hk)) ?_
  refine reg_on rfl rfl (by assumption) ?_
  refine reg_quiet rfl (step_C tab_ok (fun K hk => hk)) ?_
  refine reg_on rfl rfl (by assumption) ?_
  refine reg_quiet rfl (step_C tab_ok (fun K hk => hk)) ?_
  refine reg_on rfl rfl (by assumption) ?_
  refine reg_quiet rfl (load_row (v := .d (bo f.dirty)) tab_ok rfl rfl ⟨rfl, f, hf, bo f.dirty, rfl, rfl⟩ rfl) ?_
  refine reg_on rfl rfl (by assumption) ?_
  refine reg_quiet rfl (step_C tab_ok (fun K hk => hk)) ?_
  refine reg_quiet rfl (pick_T tab_ok rfl (by assumption) rfl) ?_
  refine reg_quiet rfl (step_C tab_ok (fun K hk => hk)) ?_
  refine reg_split rfl rfl rfl (fun hb => ?_) (fun hb => ?_)
  refine reg_on rfl rfl (by assumption) ?_
  refine reg_quiet rfl (step_C tab_ok (fun K hk => hk)) ?_
  refine reg_on rfl rfl (by assumption) ?_
  refine reg_quiet rfl (step_C tab_ok (fun K hk => hk)) ?_
  refine reg_on rfl rfl (by assumption) ?_
  refine reg_quiet rfl (step_C tab_ok (fun K hk => hk)) ?_
  refine reg_on rfl rfl (by assumption) ?_
  refine reg_quiet rfl (load_row (v := .d (bo f.busy)) tab_ok rfl rfl ⟨rfl, f, hf, bo f.busy, rfl, rfl⟩ rfl) ?_
  refine reg_on rfl rfl (by assumption) ?_
  refine reg_quiet rfl (step_C tab_ok (fun K hk => hk)) ?_
  refine reg_quiet rfl (pick_T tab_ok rfl (by assumption) rfl) ?_
  refine reg_quiet rfl (step_C tab_ok (fun K hk => hk)) ?_
  refine reg_nil ?_
  refine seq_n ?_
  refine wc_seq ?_
  refine wc_region ?_
  refine reg_quiet rfl (step_C tab_ok (fun K hk => hk)) ?_
  refine reg_quiet rfl (build_struct tab_ok rfl rfl rfl rfl) ?_
  refine reg_quiet rfl (step_C tab_ok (fun K hk => hk)) ?_
  refine reg_store (store_row tab_ok rfl rfl rfl ⟨rfl, f, zeroFrame, hf, ⟨rfl, rfl, rfl⟩, rfl⟩ rfl) ?_
  refine reg_nil ?_
  refine seq_n ?_
  refine wc_seq ?_
  refine wc_region ?_
  refine reg_quiet rfl (step_C tab_ok (fun K hk => hk)) ?_
  refine reg_quiet rfl (step_C tab_ok (fun K hk => hk)) ?_
  refine reg_nil ?_
  refine seq_n ?_
  refine wc_ret ?_
  rotate_left
  refine reg_skip rfl rfl (by assumption) rfl rfl ?_
  refine reg_skip rfl rfl (by assumption) rfl rfl ?_
  refine reg_skip rfl rfl (by assumption) rfl rfl ?_
  refine reg_skip rfl rfl (by assumption) rfl rfl ?_
  refine reg_skip rfl rfl (by assumption) rfl rfl ?_
  refine reg_quiet rfl (pick_F tab_ok rfl (by assumption) rfl) ?_
  refine reg_quiet rfl (step_C tab_ok (fun K hk => hk)) ?_
  refine reg_nil ?_
  refine seq_n ?_
  refine wc_seq ?_
  refine wc_region ?_
  refine reg_quiet rfl (step_C tab_ok (fun K hk => hk)) ?_
  refine reg_quiet rfl (build_struct tab_ok rfl rfl rfl rfl) ?_
  refine reg_quiet rfl (step_C tab_ok (fun K hk => hk)) ?_
  refine reg_store (store_row tab_ok rfl rfl rfl ⟨rfl, f, zeroFrame, hf, ⟨rfl, rfl, rfl⟩, rfl⟩ rfl) ?_
  refine reg_nil ?_
  refine seq_n ?_
  refine wc_seq ?_
  refine wc_region ?_
  refine reg_quiet rfl (step_C tab_ok (fun K hk => hk)) ?_
  refine reg_quiet rfl (step_C tab_ok (fun K hk => hk)) ?_
  refine reg_nil ?_
  refine seq_n ?_
  refine wc_ret ?_
  rotate_left
  refine reg_skip rfl rfl (by assumption) rfl rfl ?_
  refine reg_skip rfl rfl (by assumption) rfl rfl ?_
  refine reg_skip rfl rfl (by assumption) rfl rfl ?_
  refine reg_skip rfl rfl (by assumption) rfl rfl ?_
  refine reg_skip rfl rfl (by assumption) rfl rfl ?_
  refine reg_quiet rfl (pick_F tab_ok rfl (by assumption) rfl) ?_
  refine reg_quiet rfl (step_C tab_ok (fun K hk => hk)) ?_
  refine reg_skip rfl rfl rfl rfl rfl ?_
  refine reg_skip rfl rfl rfl rfl rfl ?_
  refine reg_skip rfl rfl rfl rfl rfl ?_
  refine reg_skip rfl rfl rfl rfl rfl ?_
  refine reg_skip rfl rfl rfl rfl rfl ?_
  refine reg_quiet rfl (pick_F tab_ok rfl rfl rfl) ?_
  refine reg_quiet rfl (step_C tab_ok (fun K hk => hk)) ?_
  refine reg_nil ?_
  refine seq_n ?_
  refine wc_seq ?_
  refine wc_region ?_
  refine reg_quiet rfl (step_C tab_ok (fun K hk => hk)) ?_
  refine reg_quiet rfl (build_struct tab_ok rfl rfl rfl rfl) ?_
  refine reg_quiet rfl (step_C tab_ok (fun K hk => hk)) ?_
  refine reg_store (store_row tab_ok rfl rfl rfl ⟨rfl, f, zeroFrame, hf, ⟨rfl, rfl, rfl⟩, rfl⟩ rfl) ?_
  refine reg_nil ?_
  refine seq_n ?_
  refine wc_seq ?_
  refine wc_region ?_
  refine reg_quiet rfl (step_C tab_ok (fun K hk => hk)) ?_
  refine reg_quiet rfl (step_C tab_ok (fun K hk => hk)) ?_
  refine reg_nil ?_
  refine seq_n ?_
  refine wc_ret ?_
  rotate_left
  all_goals refine ⟨trivial, [], .of rfl rfl rfl rfl rfl ⟨⟨_, rfl, AVLe.of_eq ?_⟩, rfl, trivial⟩ ⟨⟨rfl, rfl, _, rfl, .of_eq ?_⟩, trivial⟩⟩
  all_goals first | (simp [List.set_set, Row.ren]; done) | (simp_all [retOne, AV.ren]; done)
theorem clean1_is (l : List Frame) (i : Nat) (f : Frame) (hf : l[i]? = some f) : FnIs Try.prog 82 [.ptr 0 [.idx i 40]] [(0, .ds 39 40 true encFrame l)] (.bool (f.busy)) [(0, .ds 39 40 true encFrame (l.set i { f with busy := false, dirty := false, nonce := zeroNonce }))] := by
  refine fnIs_of tab_ok Try.func82 rfl rfl rfl ?_
  have hf1 : (l.set i { f with busy := false })[i]? = some { f with busy := false } := set_get hf
  have hf2 : ((l.set i { f with busy := false }).set i { f with busy := false, dirty := false })[i]? = some { f with busy := false, dirty := false } := set_get hf1
  have hf3 : (((l.set i { f with busy := false }).set i { f with busy := false, dirty := false }).set i { f with busy := false, dirty := false, nonce := zeroNonce })[i]? = some { f with busy := false, dirty := false, nonce := zeroNonce } := set_get hf2
  refine wc_seq ?_
  refine wc_region ?_
  refine reg_quiet rfl (step_C tab_ok (fun K hk => hk)) ?_
  refine reg_nil ?_
  refine seq_n ?_
  refine wc_seq ?_
  refine wc_region ?_
  refine reg_quiet rfl (step_C tab_ok (fun K hk => hk)) ?_
  refine reg_quiet rfl (step_C tab_ok (fun K hk => hk)) ?_
  refine reg_quiet rfl (step_C tab_ok (fun K hk => hk)) ?_
  refine reg_quiet rfl (load_row (v := .d (bo f.busy)) tab_ok rfl rfl ⟨rfl, f, hf, bo f.busy, rfl, rfl⟩ rfl) ?_
  refine reg_quiet rfl (step_C tab_ok (fun K hk => hk)) ?_
  refine reg_nil ?_
  refine seq_n ?_
  refine wc_seq ?_
  refine wc_region ?_
  refine reg_quiet rfl (step_C tab_ok (fun K hk => hk)) ?_
  refine reg_quiet rfl (step_C tab_ok (fun K hk => hk)) ?_
  refine reg_quiet rfl (step_C tab_ok (fun K hk => hk)) ?_
  refine reg_quiet rfl (build_struct tab_ok rfl rfl rfl rfl) ?_
  refine reg_quiet rfl (step_C tab_ok (fun K hk => hk)) ?_
  refine reg_quiet rfl (step_C tab_ok (fun K hk => hk)) ?_
  refine reg_store (store_row tab_ok rfl rfl rfl ⟨rfl, f, { f with busy := false }, hf, ⟨_, ⟨rfl, rfl, rfl⟩, rfl⟩, rfl⟩ rfl) ?_
  refine reg_quiet rfl (step_C tab_ok (fun K hk => hk)) ?_
  refine reg_quiet rfl (step_C tab_ok (fun K hk => hk)) ?_
  refine reg_store (store_row tab_ok rfl rfl rfl ⟨rfl, { f with busy := false }, { f with busy := false, dirty := false }, hf1, ⟨_, ⟨rfl, rfl, rfl⟩, rfl⟩, rfl⟩ rfl) ?_
  refine reg_quiet rfl (step_C tab_ok (fun K hk => hk)) ?_
  refine reg_quiet rfl (step_C tab_ok (fun K hk => hk)) ?_
  refine reg_store (store_row tab_ok rfl rfl rfl ⟨rfl, { f with busy := false, dirty := false }, { f with busy := false, dirty := false, nonce := zeroNonce }, hf2, ⟨_, ⟨rfl, rfl, rfl⟩, rfl⟩, rfl⟩ rfl) ?_
  refine reg_nil ?_
  refine seq_n ?_
  refine wc_seq ?_
  refine wc_region ?_
  refine reg_quiet rfl (step_C tab_ok (fun K hk => hk)) ?_
  refine reg_quiet rfl (step_C tab_ok (fun K hk => hk)) ?_
  refine reg_nil ?_
  refine seq_n ?_
  refine wc_ret ?_
  all_goals refine ⟨trivial, [], .of rfl rfl rfl rfl rfl ⟨⟨_, rfl, AVLe.of_eq ?_⟩, rfl, trivial⟩ ⟨⟨rfl, rfl, _, rfl, .of_eq ?_⟩, trivial⟩⟩
  all_goals first | (simp [List.set_set, Row.ren]; done) | (simp_all [retOne, AV.ren]; done)
theorem back1_is (l : List Frame) (i : Nat) (f : Frame) (hf : l[i]? = some f) : FnIs Try.prog 86 [.ptr 0 [.idx i 40]] [(0, .ds 39 40 true encFrame l)] (.bool (f.busy)) [(0, .ds 39 40 true encFrame (l.set i { f with busy := false }))] := by
  refine fnIs_of tab_ok Try.func86 rfl rfl rfl ?_
  have hf1 : (l.set i { f with busy := false })[i]? = some { f with busy := false } := set_get hf
  refine wc_seq ?_
  refine wc_region ?_
  refine reg_quiet rfl (step_C tab_ok (fun K hk => hk)) ?_
  refine reg_nil ?_
  refine seq_n ?_
  refine wc_seq ?_
  refine wc_region ?_
  refine reg_quiet rfl (step_C tab_ok (fun K hk => hk)) ?_
  refine reg_quiet rfl (step_C tab_ok (fun K hk => hk)) ?_
  refine reg_quiet rfl (step_C tab_ok (fun K hk => hk)) ?_
  refine reg_quiet rfl (load_row (v := .d (bo f.busy)) tab_ok rfl rfl ⟨rfl, f, hf, bo f.busy, rfl, rfl⟩ rfl) ?_
  refine reg_quiet rfl (step_C tab_ok (fun K hk => hk)) ?_
  refine reg_nil ?_
  refine seq_n ?_
  refine wc_seq ?_
  refine wc_region ?_
  refine reg_quiet rfl (step_C tab_ok (fun K hk => hk)) ?_
  refine reg_quiet rfl (step_C tab_ok (fun K hk => hk)) ?_
  refine reg_quiet rfl (step_C tab_ok (fun K hk => hk)) ?_
  refine reg_store (store_row tab_ok rfl rfl rfl ⟨rfl, f, { f with busy := false }, hf, ⟨_, ⟨rfl, rfl, rfl⟩, rfl⟩, rfl⟩ rfl) ?_
  refine reg_nil ?_
  refine seq_n ?_
  refine wc_seq ?_
  refine wc_region ?_
  refine reg_quiet rfl (step_C tab_ok (fun K hk => hk)) ?_
  refine reg_quiet rfl (step_C tab_ok (fun K hk => hk)) ?_
  refine reg_nil ?_
  refine seq_n ?_
  refine wc_ret ?_
  all_goals refine ⟨trivial, [], .of rfl rfl rfl rfl rfl ⟨⟨_, rfl, AVLe.of_eq ?_⟩, rfl, trivial⟩ ⟨⟨rfl, rfl, _, rfl, .of_eq ?_⟩, trivial⟩⟩
  all_goals first | (simp [List.set_set, Row.ren]; done) | (simp_all [retOne, AV.ren]; done)
theorem hit1_is (l : List Frame) (i : Nat) (f : Frame) (hf : l[i]? = some f) : FnIs Try.prog 85 [.ptr 0 [.idx i 40]] [(0, .ds 39 40 true encFrame l)] (.bool (f.used && !f.loading)) [(0, .ds 39 40 true encFrame (l.set i { f with ref := true }))] := by
  refine fnIs_of tab_ok Try.func85 rfl rfl rfl ?_
  have hf1 : (l.set i { f with ref := true })[i]? = some { f with ref := true } := set_get hf
  refine wc_seq ?_
  refine wc_region ?_
  refine reg_quiet rfl (step_C tab_ok (fun K hk => hk)) ?_
  refine reg_nil ?_
  refine seq_n ?_
  refine wc_seq ?_
  refine wc_region ?_
  refine reg_quiet rfl (step_C tab_ok (fun K hk => hk)) ?_
  refine reg_quiet rfl (step_C tab_ok (fun K hk => hk)) ?_
  refine reg_quiet rfl (step_C tab_ok (fun K hk => hk)) ?_
  refine reg_store (store_row tab_ok rfl rfl rfl ⟨rfl, f, { f with ref := true }, hf, ⟨_, ⟨rfl, rfl, rfl⟩, rfl⟩, rfl⟩ rfl) ?_
  refine reg_nil ?_
  refine seq_n ?_
  refine wc_seq ?_
  refine wc_region ?_
  refine reg_quiet rfl (step_C tab_ok (fun K hk => hk)) ?_
  refine reg_quiet rfl (step_C tab_ok (fun K hk => hk)) ?_
  refine reg_quiet rfl (step_C tab_ok (fun K hk => hk)) ?_
  refine reg_quiet rfl (load_row (v := .d (bo ({ f with ref := true } : Frame).used)) tab_ok rfl rfl ⟨rfl, { f with ref := true }, hf1, bo ({ f with ref := true } : Frame).used, rfl, rfl⟩ rfl) ?_
  refine reg_quiet rfl (step_C tab_ok (fun K hk => hk)) ?_
  refine reg_split rfl rfl rfl (fun hb => ?_) (fun hb => ?_)
  refine reg_on rfl rfl (by assumption) ?_
  refine reg_quiet rfl (step_C tab_ok (fun K hk => hk)) ?_
  refine reg_on rfl rfl (by assumption) ?_
  refine reg_quiet rfl (step_C tab_ok (fun K hk => hk)) ?_
  refine reg_on rfl rfl (by assumption) ?_
  refine reg_quiet rfl (step_C tab_ok (fun K hk => hk)) ?_
  refine reg_on rfl rfl (by assumption) ?_
  refine reg_quiet rfl (load_row (v := .d (bo ({ f with ref := true } : Frame).loading)) tab_ok rfl rfl ⟨rfl, { f with ref := true }, hf1, bo ({ f with ref := true } : Frame).loading, rfl, rfl⟩ rfl) ?_
  refine reg_on rfl rfl (by assumption) ?_
  refine reg_quiet rfl (step_C tab_ok (fun K hk => hk)) ?_
  refine reg_quiet rfl (pick_T tab_ok rfl (by assumption) rfl) ?_
  refine reg_quiet rfl (step_C tab_ok (fun K hk => hk)) ?_
  refine reg_nil ?_
  refine seq_n ?_
  refine wc_ret ?_
  rotate_left
  refine reg_skip rfl rfl (by assumption) rfl rfl ?_
  refine reg_skip rfl rfl (by assumption) rfl rfl ?_
  refine reg_skip rfl rfl (by assumption) rfl rfl ?_
  refine reg_skip rfl rfl (by assumption) rfl rfl ?_
  refine reg_skip rfl rfl (by assumption) rfl rfl ?_
  refine reg_quiet rfl (pick_F tab_ok rfl (by assumption) rfl) ?_
  refine reg_quiet rfl (step_C tab_ok (fun K hk => hk)) ?_
  refine reg_nil ?_
  refine seq_n ?_
  refine wc_ret ?_
  rotate_left
  all_goals refine ⟨trivial, [], .of rfl rfl rfl rfl rfl ⟨⟨_, rfl, AVLe.of_eq ?_⟩, rfl, trivial⟩ ⟨⟨rfl, rfl, _, rfl, .of_eq ?_⟩, trivial⟩⟩
  all_goals first | (simp [List.set_set, Row.ren]; done) | (simp_all [retOne, AV.ren]; done)
theorem install1_is (data : List Int) (l : List Frame) (i : Nat) (f : Frame) (hf : l[i]? = some f) : FnIs Try.prog 84 [.ptr 0 [.idx i 40], .ptr 1 []] [(0, .ds 39 40 true encFrame l), (1, .box 33 (.d (encBlock data)))] (.bool (f.loading)) [(0, .ds 39 40 true encFrame (l.set i { f with data := data, loading := false, ref := true })), (1, .box 33 (.d (encBlock data)))] := by
  refine fnIs_of tab_ok Try.func84 rfl rfl rfl ?_
  have hf1 : (l.set i { f with data := data })[i]? = some { f with data := data } := set_get hf
  have hf2 : ((l.set i { f with data := data }).set i { f with data := data, loading := false })[i]? = some { f with data := data, loading := false } := set_get hf1
  have hf3 : (((l.set i { f with data := data }).set i { f with data := data, loading := false }).set i { f with data := data, loading := false, ref := true })[i]? = some { f with data := data, loading := false, ref := true } := set_get hf2
  refine wc_seq ?_
  refine wc_region ?_
  refine reg_quiet rfl (step_C tab_ok (fun K hk => hk)) ?_
  refine reg_nil ?_
  refine seq_n ?_
  refine wc_seq ?_
  refine wc_region ?_
  refine reg_quiet rfl (step_C tab_ok (fun K hk => hk)) ?_
  refine reg_quiet rfl (step_C tab_ok (fun K hk => hk)) ?_
  refine reg_quiet rfl (step_C tab_ok (fun K hk => hk)) ?_
  refine reg_quiet rfl (load_row (v := .d (bo f.loading)) tab_ok rfl rfl ⟨rfl, f, hf, bo f.loading, rfl, rfl⟩ rfl) ?_
  refine reg_quiet rfl (step_C tab_ok (fun K hk => hk)) ?_
  refine reg_nil ?_
  refine seq_n ?_
  refine wc_seq ?_
  refine wc_region ?_
  refine reg_quiet rfl (step_C tab_ok (fun K hk => hk)) ?_
  refine reg_quiet rfl (step_C tab_ok (fun K hk => hk)) ?_
  refine reg_quiet rfl (step_C tab_ok (fun K hk => hk)) ?_
  refine reg_quiet rfl (load_box tab_ok rfl rfl rfl rfl) ?_
  refine reg_quiet rfl (step_C tab_ok (fun K hk => hk)) ?_
  refine reg_quiet rfl (step_C tab_ok (fun K hk => hk)) ?_
  refine reg_store (store_row tab_ok rfl rfl rfl ⟨rfl, f, { f with data := data }, hf, ⟨_, ⟨rfl, rfl, rfl⟩, rfl⟩, rfl⟩ rfl) ?_
  refine reg_quiet rfl (step_C tab_ok (fun K hk => hk)) ?_
  refine reg_quiet rfl (step_C tab_ok (fun K hk => hk)) ?_
  refine reg_store (store_row tab_ok rfl rfl rfl ⟨rfl, { f with data := data }, { f with data := data, loading := false }, hf1, ⟨_, ⟨rfl, rfl, rfl⟩, rfl⟩, rfl⟩ rfl) ?_
  refine reg_quiet rfl (step_C tab_ok (fun K hk => hk)) ?_
  refine reg_quiet rfl (step_C tab_ok (fun K hk => hk)) ?_
  refine reg_store (store_row tab_ok rfl rfl rfl ⟨rfl, { f with data := data, loading := false }, { f with data := data, loading := false, ref := true }, hf2, ⟨_, ⟨rfl, rfl, rfl⟩, rfl⟩, rfl⟩ rfl) ?_
  refine reg_nil ?_
  refine seq_n ?_
  refine wc_seq ?_
  refine wc_region ?_
  refine reg_quiet rfl (step_C tab_ok (fun K hk => hk)) ?_
  refine reg_quiet rfl (step_C tab_ok (fun K hk => hk)) ?_
  refine reg_nil ?_
  refine seq_n ?_
  refine wc_ret ?_
  all_goals refine ⟨trivial, [], .of rfl rfl rfl rfl rfl ⟨⟨_, rfl, AVLe.of_eq ?_⟩, rfl, trivial⟩ ⟨⟨rfl, rfl, _, rfl, .of_eq ?_⟩, ⟨rfl, rfl, _, rfl, .refl _⟩, trivial⟩⟩
  all_goals first | (simp [List.set_set, Row.ren]; done) | (simp_all [retOne, AV.ren]; done)
end Go.Proofs.Ytmdfeekpehcieaa

/- Shards: Write's closure; change. -/
namespace Go.Proofs.Ytmdfeekpehcieaa
open Go.Eng
set_option maxHeartbeats 2000000
attribute [local irreducible] WC RegS RegD SeqQ BlkQ ScoQ RegK CutK Sat SatN FnIs LoopQ StepIs OpIs
def wr (data : List Int) (n : Nonce) (f : Frame) : Frame := { f with nonce := if f.dirty then f.nonce else n, data := data, dirty := true, ref := true }
theorem write1t (data : List Int) (n : Nonce) (l : List Frame) (i : Nat) (f : Frame) (hf : l[i]? = some f) (hd : (!f.dirty) = false) : FnIs Try.prog 81 [.ptr 0 [.idx i 40], .ptr 1 [], .ptr 2 []] [(0, .ds 39 40 true encFrame l), (1, .box 37 (.d (encNonce n))), (2, .box 33 (.d (encBlock data)))] (.bool (f.used && !f.loading && !f.busy)) [(0, .ds 39 40 true encFrame (l.set i { f with data := data, dirty := true, ref := true })), (1, .box 37 (.d (encNonce n))), (2, .box 33 (.d (encBlock data)))] := by
  refine fnIs_of tab_ok Try.func81 rfl rfl rfl ?_
  have hf1 : (l.set i { f with data := data })[i]? = some { f with data := data } := set_get hf
  have hf2 : ((l.set i { f with data := data }).set i { f with data := data, dirty := true })[i]? = some { f with data := data, dirty := true } := set_get hf1
  have hf3 : (((l.set i { f with data := data }).set i { f with data := data, dirty := true }).set i { f with data := data, dirty := true, ref := true })[i]? = some { f with data := data, dirty := true, ref := true } := set_get hf2
  refine wc_seq ?_
  refine wc_region ?_
  refine reg_quiet rfl (step_C tab_ok (fun K hk => hk)) ?_
  refine reg_nil ?_
  refine seq_n ?_
  refine wc_seq ?_
  refine wc_seq ?_
  refine wc_region ?_
  refine reg_quiet rfl (step_C tab_ok (fun K hk => hk)) ?_
  refine reg_quiet rfl (step_C tab_ok (fun K hk => hk)) ?_
  refine reg_quiet rfl (step_C tab_ok (fun K hk => hk)) ?_
  refine reg_quiet rfl (load_row (v := .d (bo f.dirty)) tab_ok rfl rfl ⟨rfl, f, hf, bo f.dirty, rfl, rfl⟩ rfl) ?_
  refine reg_quiet rfl (step_C tab_ok (fun K hk => hk)) ?_
  refine reg_nil ?_
  refine seq_n ?_
  refine wc_false rfl (by assumption) ?_
  refine wc_skip ?_
  refine seq_n ?_
  refine wc_seq ?_
  refine wc_region ?_
  refine reg_quiet rfl (step_C tab_ok (fun K hk => hk)) ?_
  refine reg_quiet rfl (step_C tab_ok (fun K hk => hk)) ?_
  refine reg_quiet rfl (step_C tab_ok (fun K hk => hk)) ?_
  refine reg_quiet rfl (load_box tab_ok rfl rfl rfl rfl) ?_
  refine reg_quiet rfl (step_C tab_ok (fun K hk => hk)) ?_
  refine reg_quiet rfl (step_C tab_ok (fun K hk => hk)) ?_
  refine reg_store (store_row tab_ok rfl rfl rfl ⟨rfl, f, { f with data := data }, hf, ⟨_, ⟨rfl, rfl, rfl⟩, rfl⟩, rfl⟩ rfl) ?_
  refine reg_quiet rfl (step_C tab_ok (fun K hk => hk)) ?_
  refine reg_quiet rfl (step_C tab_ok (fun K hk => hk)) ?_
  refine reg_store (store_row tab_ok rfl rfl rfl ⟨rfl, { f with data := data }, { f with data := data, dirty := true }, hf1, ⟨_, ⟨rfl, rfl, rfl⟩, rfl⟩, rfl⟩ rfl) ?_
  refine reg_quiet rfl (step_C tab_ok (fun K hk => hk)) ?_
  refine reg_quiet rfl (step_C tab_ok (fun K hk => hk)) ?_
  refine reg_store (store_row tab_ok rfl rfl rfl ⟨rfl, { f with data := data, dirty := true }, { f with data := data, dirty := true, ref := true }, hf2, ⟨_, ⟨rfl, rfl, rfl⟩, rfl⟩, rfl⟩ rfl) ?_
  refine reg_nil ?_
  refine seq_n ?_
  refine wc_seq ?_
  refine wc_region ?_
  refine reg_quiet rfl (step_C tab_ok (fun K hk => hk)) ?_
  refine reg_quiet rfl (step_C tab_ok (fun K hk => hk)) ?_
  refine reg_quiet rfl (step_C tab_ok (fun K hk => hk)) ?_
  refine reg_quiet rfl (load_row (v := .d (bo ({ f with data := data, dirty := true, ref := true } : Frame).used)) tab_ok rfl rfl ⟨rfl, { f with data := data, dirty := true, ref := true }, hf3, bo ({ f with data := data, dirty := true, ref := true } : Frame).used, rfl, rfl⟩ rfl) ?_
  refine reg_quiet rfl (step_C tab_ok (fun K hk => hk)) ?_
  refine reg_split rfl rfl rfl (fun hb => ?_) (fun hb => ?_)
  refine reg_on rfl rfl (by assumption) ?_
  refine reg_quiet rfl (step_C tab_ok (fun K hk => hk)) ?_
  refine reg_on rfl rfl (by assumption) ?_
  refine reg_quiet rfl (step_C tab_ok (fun K hk => hk)) ?_
  refine reg_on rfl rfl (by assumption) ?_
  refine reg_quiet rfl (step_C tab_ok (fun K hk => hk)) ?_
  refine reg_on rfl rfl (by assumption) ?_
  refine reg_quiet rfl (load_row (v := .d (bo ({ f with data := data, dirty := true, ref := true } : Frame).loading)) tab_ok rfl rfl ⟨rfl, { f with data := data, dirty := true, ref := true }, hf3, bo ({ f with data := data, dirty := true, ref := true } : Frame).loading, rfl, rfl⟩ rfl) ?_
  refine reg_on rfl rfl (by assumption) ?_
  refine reg_quiet rfl (step_C tab_ok (fun K hk => hk)) ?_
  refine reg_quiet rfl (pick_T tab_ok rfl (by assumption) rfl) ?_
  refine reg_quiet rfl (step_C tab_ok (fun K hk => hk)) ?_
  refine reg_split rfl rfl rfl (fun hb => ?_) (fun hb => ?_)
  refine reg_on rfl rfl (by assumption) ?_
  refine reg_quiet rfl (step_C tab_ok (fun K hk => hk)) ?_
  refine reg_on rfl rfl (by assumption) ?_
  refine reg_quiet rfl (step_C tab_ok (fun K hk => hk)) ?_
  refine reg_on rfl rfl (by assumption) ?_
  refine reg_quiet rfl (step_C tab_ok (fun K hk => hk)) ?_
  refine reg_on rfl rfl (by assumption) ?_
  refine reg_quiet rfl (load_row (v := .d (bo ({ f with data := data, dirty := true, ref := true } : Frame).busy)) tab_ok rfl rfl ⟨rfl, { f with data := data, dirty := true, ref := true }, hf3, bo ({ f with data := data, dirty := true, ref := true } : Frame).busy, rfl, rfl⟩ rfl) ?_
  refine reg_on rfl rfl (by assumption) ?_
  refine reg_quiet rfl (step_C tab_ok (fun K hk => hk)) ?_
  refine reg_quiet rfl (pick_T tab_ok rfl (by assumption) rfl) ?_
  refine reg_quiet rfl (step_C tab_ok (fun K hk => hk)) ?_
  refine reg_nil ?_
  refine seq_n ?_
  refine wc_ret ?_
  rotate_left
  refine reg_skip rfl rfl (by assumption) rfl rfl ?_
  refine reg_skip rfl rfl (by assumption) rfl rfl ?_
  refine reg_skip rfl rfl (by assumption) rfl rfl ?_
  refine reg_skip rfl rfl (by assumption) rfl rfl ?_
  refine reg_skip rfl rfl (by assumption) rfl rfl ?_
  refine reg_quiet rfl (pick_F tab_ok rfl (by assumption) rfl) ?_
  refine reg_quiet rfl (step_C tab_ok (fun K hk => hk)) ?_
  refine reg_nil ?_
  refine seq_n ?_
  refine wc_ret ?_
  rotate_left
  refine reg_skip rfl rfl (by assumption) rfl rfl ?_
  refine reg_skip rfl rfl (by assumption) rfl rfl ?_
  refine reg_skip rfl rfl (by assumption) rfl rfl ?_
  refine reg_skip rfl rfl (by assumption) rfl rfl ?_
  refine reg_skip rfl rfl (by assumption) rfl rfl ?_
  refine reg_quiet rfl (pick_F tab_ok rfl (by assumption) rfl) ?_
  refine reg_quiet rfl (step_C tab_ok (fun K hk => hk)) ?_
  refine reg_skip rfl rfl rfl rfl rfl ?_
  refine reg_skip rfl rfl rfl rfl rfl ?_
  refine reg_skip rfl rfl rfl rfl rfl ?_
  refine reg_skip rfl rfl rfl rfl rfl ?_
  refine reg_skip rfl rfl rfl rfl rfl ?_
  refine reg_quiet rfl (pick_F tab_ok rfl rfl rfl) ?_
  refine reg_quiet rfl (step_C tab_ok (fun K hk => hk)) ?_
  refine reg_nil ?_
  refine seq_n ?_
  refine wc_ret ?_
  rotate_left
  all_goals refine ⟨trivial, [], .of rfl rfl rfl rfl rfl ⟨⟨_, rfl, AVLe.of_eq ?_⟩, rfl, trivial⟩ ⟨⟨rfl, rfl, _, rfl, .of_eq ?_⟩, ⟨rfl, rfl, _, rfl, .refl _⟩, ⟨rfl, rfl, _, rfl, .refl _⟩, trivial⟩⟩
  all_goals first | (simp [List.set_set, Row.ren]; done) | (simp_all [retOne, AV.ren]; done)
theorem write1f (data : List Int) (n : Nonce) (l : List Frame) (i : Nat) (f : Frame) (hf : l[i]? = some f) (hd : (!f.dirty) = true) : FnIs Try.prog 81 [.ptr 0 [.idx i 40], .ptr 1 [], .ptr 2 []] [(0, .ds 39 40 true encFrame l), (1, .box 37 (.d (encNonce n))), (2, .box 33 (.d (encBlock data)))] (.bool (f.used && !f.loading && !f.busy)) [(0, .ds 39 40 true encFrame (l.set i { f with nonce := n, data := data, dirty := true, ref := true })), (1, .box 37 (.d (encNonce n))), (2, .box 33 (.d (encBlock data)))] := by
  refine fnIs_of tab_ok Try.func81 rfl rfl rfl ?_
  have hf1 : (l.set i { f with nonce := n })[i]? = some { f with nonce := n } := set_get hf
  have hf2 : ((l.set i { f with nonce := n }).set i { f with nonce := n, data := data })[i]? = some { f with nonce := n, data := data } := set_get hf1
  have hf3 : (((l.set i { f with nonce := n }).set i { f with nonce := n, data := data }).set i { f with nonce := n, data := data, dirty := true })[i]? = some { f with nonce := n, data := data, dirty := true } := set_get hf2
  have hf4 : ((((l.set i { f with nonce := n }).set i { f with nonce := n, data := data }).set i { f with nonce := n, data := data, dirty := true }).set i { f with nonce := n, data := data, dirty := true, ref := true })[i]? = some { f with nonce := n, data := data, dirty := true, ref := true } := set_get hf3
  refine wc_seq ?_
  refine wc_region ?_
  refine reg_quiet rfl (step_C tab_ok (fun K hk => hk)) ?_
  refine reg_nil ?_
  refine seq_n ?_
  refine wc_seq ?_
  refine wc_seq ?_
  refine wc_region ?_
  refine reg_quiet rfl (step_C tab_ok (fun K hk => hk)) ?_
  refine reg_quiet rfl (step_C tab_ok (fun K hk => hk)) ?_
  refine reg_quiet rfl (step_C tab_ok (fun K hk => hk)) ?_
  refine reg_quiet rfl (load_row (v := .d (bo f.dirty)) tab_ok rfl rfl ⟨rfl, f, hf, bo f.dirty, rfl, rfl⟩ rfl) ?_
  refine reg_quiet rfl (step_C tab_ok (fun K hk => hk)) ?_
  refine reg_nil ?_
  refine seq_n ?_
  refine wc_true rfl (by assumption) ?_
  refine wc_region ?_
  refine reg_quiet rfl (step_C tab_ok (fun K hk => hk)) ?_
  refine reg_quiet rfl (load_box tab_ok rfl rfl rfl rfl) ?_
  refine reg_quiet rfl (step_C tab_ok (fun K hk => hk)) ?_
  refine reg_quiet rfl (step_C tab_ok (fun K hk => hk)) ?_
  refine reg_store (store_row tab_ok rfl rfl rfl ⟨rfl, f, { f with nonce := n }, hf, ⟨_, ⟨rfl, rfl, rfl⟩, rfl⟩, rfl⟩ rfl) ?_
  refine reg_nil ?_
  refine seq_n ?_
  refine wc_seq ?_
  refine wc_region ?_
  refine reg_quiet rfl (step_C tab_ok (fun K hk => hk)) ?_
  refine reg_quiet rfl (step_C tab_ok (fun K hk => hk)) ?_
  refine reg_quiet rfl (step_C tab_ok (fun K hk => hk)) ?_
  refine reg_quiet rfl (load_box tab_ok rfl rfl rfl rfl) ?_
  refine reg_quiet rfl (step_C tab_ok (fun K hk => hk)) ?_
  refine reg_quiet rfl (step_C tab_ok (fun K hk => hk)) ?_
  refine reg_store (store_row tab_ok rfl rfl rfl ⟨rfl, { f with nonce := n }, { f with nonce := n, data := data }, hf1, ⟨_, ⟨rfl, rfl, rfl⟩, rfl⟩, rfl⟩ rfl) ?_
  refine reg_quiet rfl (step_C tab_ok (fun K hk => hk)) ?_
  refine reg_quiet rfl (step_C tab_ok (fun K hk => hk)) ?_
  refine reg_store (store_row tab_ok rfl rfl rfl ⟨rfl, { f with nonce := n, data := data }, { f with nonce := n, data := data, dirty := true }, hf2, ⟨_, ⟨rfl, rfl, rfl⟩, rfl⟩, rfl⟩ rfl) ?_
  refine reg_quiet rfl (step_C tab_ok (fun K hk => hk)) ?_
  refine reg_quiet rfl (step_C tab_ok (fun K hk => hk)) ?_
  refine reg_store (store_row tab_ok rfl rfl rfl ⟨rfl, { f with nonce := n, data := data, dirty := true }, { f with nonce := n, data := data, dirty := true, ref := true }, hf3, ⟨_, ⟨rfl, rfl, rfl⟩, rfl⟩, rfl⟩ rfl) ?_
  refine reg_nil ?_
  refine seq_n ?_
  refine wc_seq ?_
  refine wc_region ?_
  refine reg_quiet rfl (step_C tab_ok (fun K hk => hk)) ?_
  refine reg_quiet rfl (step_C tab_ok (fun K hk => hk)) ?_
  refine reg_quiet rfl (step_C tab_ok (fun K hk => hk)) ?_
  refine reg_quiet rfl (load_row (v := .d (bo ({ f with nonce := n, data := data, dirty := true, ref := true } : Frame).used)) tab_ok rfl rfl ⟨rfl, { f with nonce := n, data := data, dirty := true, ref := true }, hf4, bo ({ f with nonce := n, data := data, dirty := true, ref := true } : Frame).used, rfl, rfl⟩ rfl) ?_
  refine reg_quiet rfl (step_C tab_ok (fun K hk => hk)) ?_
  refine reg_split rfl rfl rfl (fun hb => ?_) (fun hb => ?_)
  refine reg_on rfl rfl (by assumption) ?_
  refine reg_quiet rfl (step_C tab_ok (fun K hk => hk)) ?_
  refine reg_on rfl rfl (by assumption) ?_
  refine reg_quiet rfl (step_C tab_ok (fun K hk => hk)) ?_
  refine reg_on rfl rfl (by assumption) ?_
  refine reg_quiet rfl (step_C tab_ok (fun K hk => hk)) ?_
  refine reg_on rfl rfl (by assumption) ?_
  refine reg_quiet rfl (load_row (v := .d (bo ({ f with nonce := n, data := data, dirty := true, ref := true } : Frame).loading)) tab_ok rfl rfl ⟨rfl, { f with nonce := n, data := data, dirty := true, ref := true }, hf4, bo ({ f with nonce := n, data := data, dirty := true, ref := true } : Frame).loading, rfl, rfl⟩ rfl) ?_
  refine reg_on rfl rfl (by assumption) ?_
  refine reg_quiet rfl (step_C tab_ok (fun K hk => hk)) ?_
  refine reg_quiet rfl (pick_T tab_ok rfl (by assumption) rfl) ?_
  refine reg_quiet rfl (step_C tab_ok (fun K hk => hk)) ?_
  refine reg_split rfl rfl rfl (fun hb => ?_) (fun hb => ?_)
  refine reg_on rfl rfl (by assumption) ?_
  refine reg_quiet rfl (step_C tab_ok (fun K hk => hk)) ?_
  refine reg_on rfl rfl (by assumption) ?_
  refine reg_quiet rfl (step_C tab_ok (fun K hk => hk)) ?_
  refine reg_on rfl rfl (by assumption) ?_
  refine reg_quiet rfl (step_C tab_ok (fun K hk => hk)) ?_
  refine reg_on rfl rfl (by assumption) ?_
  refine reg_quiet rfl (load_row (v := .d (bo ({ f with nonce := n, data := data, dirty := true, ref := true } : Frame).busy)) tab_ok rfl rfl ⟨rfl, { f with nonce := n, data := data, dirty := true, ref := true }, hf4, bo ({ f with nonce := n, data := data, dirty := true, ref := true } : Frame).busy, rfl, rfl⟩ rfl) ?_
  refine reg_on rfl rfl (by assumption) ?_
  refine reg_quiet rfl (step_C tab_ok (fun K hk => hk)) ?_
  refine reg_quiet rfl (pick_T tab_ok rfl (by assumption) rfl) ?_
  refine reg_quiet rfl (step_C tab_ok (fun K hk => hk)) ?_
  refine reg_nil ?_
  refine seq_n ?_
  refine wc_ret ?_
  rotate_left
  refine reg_skip rfl rfl (by assumption) rfl rfl ?_
  refine reg_skip rfl rfl (by assumption) rfl rfl ?_
  refine reg_skip rfl rfl (by assumption) rfl rfl ?_
  refine reg_skip rfl rfl (by assumption) rfl rfl ?_
  refine reg_skip rfl rfl (by assumption) rfl rfl ?_
  refine reg_quiet rfl (pick_F tab_ok rfl (by assumption) rfl) ?_
  refine reg_quiet rfl (step_C tab_ok (fun K hk => hk)) ?_
  refine reg_nil ?_
  refine seq_n ?_
  refine wc_ret ?_
  rotate_left
  refine reg_skip rfl rfl (by assumption) rfl rfl ?_
  refine reg_skip rfl rfl (by assumption) rfl rfl ?_
  refine reg_skip rfl rfl (by assumption) rfl rfl ?_
  refine reg_skip rfl rfl (by assumption) rfl rfl ?_
  refine reg_skip rfl rfl (by assumption) rfl rfl ?_
  refine reg_quiet rfl (pick_F tab_ok rfl (by assumption) rfl) ?_
  refine reg_quiet rfl (step_C tab_ok (fun K hk => hk)) ?_
  refine reg_skip rfl rfl rfl rfl rfl ?_
  refine reg_skip rfl rfl rfl rfl rfl ?_
  refine reg_skip rfl rfl rfl rfl rfl ?_
  refine reg_skip rfl rfl rfl rfl rfl ?_
  refine reg_skip rfl rfl rfl rfl rfl ?_
  refine reg_quiet rfl (pick_F tab_ok rfl rfl rfl) ?_
  refine reg_quiet rfl (step_C tab_ok (fun K hk => hk)) ?_
  refine reg_nil ?_
  refine seq_n ?_
  refine wc_ret ?_
  rotate_left
  all_goals refine ⟨trivial, [], .of rfl rfl rfl rfl rfl ⟨⟨_, rfl, AVLe.of_eq ?_⟩, rfl, trivial⟩ ⟨⟨rfl, rfl, _, rfl, .of_eq ?_⟩, ⟨rfl, rfl, _, rfl, .refl _⟩, ⟨rfl, rfl, _, rfl, .refl _⟩, trivial⟩⟩
  all_goals first | (simp [List.set_set, Row.ren]; done) | (simp_all [retOne, AV.ren]; done)
theorem write1_is (data : List Int) (n : Nonce) (l : List Frame) (i : Nat) (f : Frame) (hf : l[i]? = some f) : FnIs Try.prog 81 [.ptr 0 [.idx i 40], .ptr 1 [], .ptr 2 []] [(0, .ds 39 40 true encFrame l), (1, .box 37 (.d (encNonce n))), (2, .box 33 (.d (encBlock data)))] (.bool (f.used && !f.loading && !f.busy)) [(0, .ds 39 40 true encFrame (l.set i (wr data n f))), (1, .box 37 (.d (encNonce n))), (2, .box 33 (.d (encBlock data)))] := by
  cases hd : f.dirty with
  | true =>
    have h := write1t data n l i f hf (by rw [hd]; rfl)
    rwa [show ({ f with data := data, dirty := true, ref := true } : Frame) = wr data n f by simp [wr, hd]] at h
  | false =>
    have h := write1f data n l i f hf (by rw [hd]; rfl)
    rwa [show ({ f with nonce := n, data := data, dirty := true, ref := true } : Frame) = wr data n f by simp [wr, hd]] at h
end Go.Proofs.Ytmdfeekpehcieaa

/- Shards: change. -/
namespace Go.Proofs.Ytmdfeekpehcieaa
open Go.Eng
set_option maxHeartbeats 2000000
attribute [local irreducible] WC RegS RegD SeqQ BlkQ ScoQ RegK CutK Sat SatN FnIs LoopQ StepIs OpIs
theorem chkS_len {l : List Frame} {h : Int} (he : chkS l h = 0) : l.length ≤ 1000000 := by
  unfold chkS at he
  split at he
  · cases he
  · rename_i hh; simp at hh; omega
theorem change0_err (k : FuncId) (l : List Frame) (h j : Int) (he : chkS l h ≠ 0) : FnIs Try.prog 68 [.d (encS l h), .d (i6 j), .fn (.func k) .anil .anil] [] (tup2 zeroS (i6 (chkS l h))) [] := by
  have he' : (!decide (chkS l h = 0)) = true := by rw [decide_eq_false he]; rfl
  refine fnIs_of tab_ok Try.func68 rfl rfl rfl ?_
  refine wc_seq ?_
  refine wc_region ?_
  refine reg_new (step_C tab_ok (fun K hk => hk)) rfl ?_
  refine reg_new (step_C tab_ok (fun K hk => hk)) rfl ?_
  refine reg_quiet rfl (step_C tab_ok (fun K hk => hk)) ?_
  refine reg_nil ?_
  refine seq_n ?_
  refine wc_seq ?_
  refine wc_seq ?_
  refine wc_region ?_
  refine reg_quiet rfl (load_box tab_ok rfl rfl rfl rfl) ?_
  refine reg_quiet rfl (call_r (shcheck_is l h) rfl rfl (arg_e arg_nil) (.inl rfl) (fun _ => rfl)) ?_
  refine reg_quiet rfl (step_C tab_ok (fun K hk => hk)) ?_
  refine reg_nil ?_
  refine seq_n ?_
  refine wc_seq ?_
  refine wc_region ?_
  refine reg_quiet rfl (step_C tab_ok (fun K hk => hk)) ?_
  refine reg_quiet rfl (step_C tab_ok (fun K hk => hk)) ?_
  refine reg_nil ?_
  refine seq_n ?_
  refine wc_true rfl (by assumption) ?_
  refine wc_seq ?_
  refine wc_region ?_
  refine reg_quiet rfl (build_struct tab_ok rfl rfl rfl rfl) ?_
  refine reg_quiet rfl (step_C tab_ok (fun K hk => hk)) ?_
  refine reg_store (store_row tab_ok rfl rfl rfl ⟨_, ⟨rfl, rfl, rfl⟩, rfl⟩ rfl) ?_
  refine reg_quiet rfl (step_C tab_ok (fun K hk => hk)) ?_
  refine reg_nil ?_
  refine seq_n ?_
  refine wc_ret ?_
  refine seq_r ?_
  exact ⟨trivial, _, rfl, [], .of rfl rfl rfl rfl rfl ⟨⟨_, rfl, AVLe.of_eq rfl⟩, rfl, trivial⟩ trivial⟩
theorem change0_at (k : FuncId) (l : List Frame) (h j : Int) (he : chkS l h = 0) (hj : (decide (j < 0) || decide (j ≥ (l.length : Int))) = true) : FnIs Try.prog 68 [.d (encS l h), .d (i6 j), .fn (.func k) .anil .anil] [] (tup2 zeroS (i6 1)) [] := by
  have he' : (!decide (chkS l h = 0)) = false := by rw [decide_eq_true he]; rfl
  refine fnIs_of tab_ok Try.func68 rfl rfl rfl ?_
  refine wc_seq ?_
  refine wc_region ?_
  refine reg_new (step_C tab_ok (fun K hk => hk)) rfl ?_
  refine reg_new (step_C tab_ok (fun K hk => hk)) rfl ?_
  refine reg_quiet rfl (step_C tab_ok (fun K hk => hk)) ?_
  refine reg_nil ?_
  refine seq_n ?_
  refine wc_seq ?_
  refine wc_seq ?_
  refine wc_region ?_
  refine reg_quiet rfl (load_box tab_ok rfl rfl rfl rfl) ?_
  refine reg_quiet rfl (call_r (shcheck_is l h) rfl rfl (arg_e arg_nil) (.inl rfl) (fun _ => rfl)) ?_
  refine reg_quiet rfl (step_C tab_ok (fun K hk => hk)) ?_
  refine reg_nil ?_
  refine seq_n ?_
  refine wc_seq ?_
  refine wc_region ?_
  refine reg_quiet rfl (step_C tab_ok (fun K hk => hk)) ?_
  refine reg_quiet rfl (step_C tab_ok (fun K hk => hk)) ?_
  refine reg_nil ?_
  refine seq_n ?_
  refine wc_false rfl (by assumption) ?_
  refine wc_skip ?_
  refine seq_n ?_
  refine wc_seq ?_
  refine wc_seq_cut 23 (.bool (decide (j < 0) || decide (j ≥ (l.length : Int)))) _ rfl ?_ ?_
  · refine reg_quiet rfl (step_C tab_ok (fun K hk => hk)) ?_
    refine reg_quiet rfl (step_C tab_ok (fun K hk => hk)) ?_
    refine reg_quiet rfl (step_C tab_ok (fun K hk => hk)) ?_
    refine reg_split rfl rfl rfl (fun hb => ?_) (fun hb => ?_)
    refine reg_on rfl rfl (by assumption) ?_
    refine reg_quiet rfl (step_C tab_ok (fun K hk => hk)) ?_
    refine reg_on rfl rfl (by assumption) ?_
    refine reg_quiet rfl (step_C tab_ok (fun K hk => hk)) ?_
    refine reg_on rfl rfl (by assumption) ?_
    refine reg_quiet rfl (load_box tab_ok rfl rfl ⟨_, rfl, rfl⟩ rfl) ?_
    refine reg_on rfl rfl (by assumption) ?_
    refine reg_quiet rfl (len_arr tab_ok rfl rfl) ?_
    refine reg_on rfl rfl (by assumption) ?_
    refine reg_quiet rfl (step_C tab_ok (fun K hk => hk)) ?_
    refine reg_quiet rfl (pick_F tab_ok rfl (by assumption) rfl) ?_
    rotate_left
    refine reg_skip rfl rfl (by assumption) rfl rfl ?_
    refine reg_skip rfl rfl (by assumption) rfl rfl ?_
    refine reg_skip rfl rfl (by assumption) rfl rfl ?_
    refine reg_skip rfl rfl (by assumption) rfl rfl ?_
    refine reg_skip rfl rfl (by assumption) rfl rfl ?_
    refine reg_quiet rfl (pick_T tab_ok rfl (by assumption) rfl) ?_
    rotate_left
    all_goals refine reg_cut 9 rfl rfl rfl rfl rfl rfl rfl rfl rfl (AVLe.of_eq ?_)
    all_goals (first | rfl | (simp_all; done) | (simp_all; omega))
  refine wc_true rfl (by assumption) ?_
  refine wc_seq ?_
  refine wc_region ?_
  refine reg_quiet rfl (build_struct tab_ok rfl rfl rfl rfl) ?_
  refine reg_store (store_row tab_ok rfl rfl rfl ⟨_, ⟨rfl, rfl, rfl⟩, rfl⟩ rfl) ?_
  refine reg_quiet rfl (step_C tab_ok (fun K hk => hk)) ?_
  refine reg_nil ?_
  refine seq_n ?_
  refine wc_ret ?_
  refine seq_r ?_
  exact ⟨trivial, _, rfl, [], .of rfl rfl rfl rfl rfl ⟨⟨_, rfl, AVLe.of_eq rfl⟩, rfl, trivial⟩ trivial⟩
theorem change0_no (k : FuncId) (l : List Frame) (h j : Int) (he : chkS l h = 0) (hj : (decide (j < 0) || decide (j ≥ (l.length : Int))) = false) (b : Bool) (l2 : List Frame) (hk : FnIs Try.prog k [.ptr 0 [.idx j.toNat 40]] [(0, .ds 39 40 true encFrame l)] (.bool b) [(0, .ds 39 40 true encFrame l2)]) (hb0 : (!b) = true) : FnIs Try.prog 68 [.d (encS l h), .d (i6 j), .fn (.func k) .anil .anil] [] (tup2 zeroS (i6 10)) [] := by
  have he' : (!decide (chkS l h = 0)) = false := by rw [decide_eq_true he]; rfl
  have hlen : l.length ≤ 1000000 := chkS_len he
  have hj0 : 0 ≤ j := by rw [Bool.or_eq_false_iff] at hj; have := of_decide_eq_false hj.1; omega
  have hj1 : j < l.length := by rw [Bool.or_eq_false_iff] at hj; have := of_decide_eq_false hj.2; omega
  refine fnIs_of tab_ok Try.func68 rfl rfl rfl ?_
  refine wc_seq ?_
  refine wc_region ?_
  refine reg_new (step_C tab_ok (fun K hk => hk)) rfl ?_
  refine reg_new (step_C tab_ok (fun K hk => hk)) rfl ?_
  refine reg_quiet rfl (step_C tab_ok (fun K hk => hk)) ?_
  refine reg_nil ?_
  refine seq_n ?_
  refine wc_seq ?_
  refine wc_seq ?_
  refine wc_region ?_
  refine reg_quiet rfl (load_box tab_ok rfl rfl rfl rfl) ?_
  refine reg_quiet rfl (call_r (shcheck_is l h) rfl rfl (arg_e arg_nil) (.inl rfl) (fun _ => rfl)) ?_
  refine reg_quiet rfl (step_C tab_ok (fun K hk => hk)) ?_
  refine reg_nil ?_
  refine seq_n ?_
  refine wc_seq ?_
  refine wc_region ?_
  refine reg_quiet rfl (step_C tab_ok (fun K hk => hk)) ?_
  refine reg_quiet rfl (step_C tab_ok (fun K hk => hk)) ?_
  refine reg_nil ?_
  refine seq_n ?_
  refine wc_false rfl (by assumption) ?_
  refine wc_skip ?_
  refine seq_n ?_
  refine wc_seq ?_
  refine wc_seq_cut 23 (.bool (decide (j < 0) || decide (j ≥ (l.length : Int)))) _ rfl ?_ ?_
  · refine reg_quiet rfl (step_C tab_ok (fun K hk => hk)) ?_
    refine reg_quiet rfl (step_C tab_ok (fun K hk => hk)) ?_
    refine reg_quiet rfl (step_C tab_ok (fun K hk => hk)) ?_
    refine reg_split rfl rfl rfl (fun hb => ?_) (fun hb => ?_)
    refine reg_on rfl rfl (by assumption) ?_
    refine reg_quiet rfl (step_C tab_ok (fun K hk => hk)) ?_
    refine reg_on rfl rfl (by assumption) ?_
    refine reg_quiet rfl (step_C tab_ok (fun K hk => hk)) ?_
    refine reg_on rfl rfl (by assumption) ?_
    refine reg_quiet rfl (load_box tab_ok rfl rfl ⟨_, rfl, rfl⟩ rfl) ?_
    refine reg_on rfl rfl (by assumption) ?_
    refine reg_quiet rfl (len_arr tab_ok rfl rfl) ?_
    refine reg_on rfl rfl (by assumption) ?_
    refine reg_quiet rfl (step_C tab_ok (fun K hk => hk)) ?_
    refine reg_quiet rfl (pick_F tab_ok rfl (by assumption) rfl) ?_
    rotate_left
    refine reg_skip rfl rfl (by assumption) rfl rfl ?_
    refine reg_skip rfl rfl (by assumption) rfl rfl ?_
    refine reg_skip rfl rfl (by assumption) rfl rfl ?_
    refine reg_skip rfl rfl (by assumption) rfl rfl ?_
    refine reg_skip rfl rfl (by assumption) rfl rfl ?_
    refine reg_quiet rfl (pick_T tab_ok rfl (by assumption) rfl) ?_
    rotate_left
    all_goals refine reg_cut 9 rfl rfl rfl rfl rfl rfl rfl rfl rfl (AVLe.of_eq ?_)
    all_goals (first | rfl | (simp_all; done) | (simp_all; omega))
  refine wc_false rfl (by assumption) ?_
  refine wc_skip ?_
  refine seq_n ?_
  refine wc_seq ?_
  refine wc_region ?_
  refine reg_quiet rfl (load_box tab_ok rfl rfl rfl rfl) ?_
  refine reg_new (call_new (own_is l h hlen) rfl rfl (arg_e arg_nil) (.inl rfl) rfl rfl) rfl ?_
  refine reg_store (store_row tab_ok rfl rfl rfl ⟨_, ⟨rfl, rfl, rfl⟩, rfl⟩ rfl) ?_
  refine reg_nil ?_
  refine seq_n ?_
  refine wc_seq ?_
  refine wc_seq ?_
  refine wc_region ?_
  refine reg_quiet rfl (step_C tab_ok (fun K hk => hk)) ?_
  refine reg_quiet rfl (step_C tab_ok (fun K hk => hk)) ?_
  refine reg_quiet rfl (load_box tab_ok rfl rfl rfl rfl) ?_
  refine reg_quiet rfl (step_C tab_ok (fun K hk => hk)) ?_
  refine reg_quiet rfl (index_own tab_ok rfl rfl rfl rfl rfl (by omega) (by omega)) ?_
  refine reg_new2 (call_h [(0, some 208)] hk rfl rfl rfl (arg_ptr rfl rfl arg_nil) ⟨⟨rfl, rfl, _, _, rfl, rfl, .refl _⟩, trivial⟩ rfl rfl (.inl rfl) rfl rfl) rfl ?_
  refine reg_quiet rfl (step_C tab_ok (fun K hk => hk)) ?_
  refine reg_nil ?_
  refine seq_n ?_
  refine wc_true rfl (by assumption) ?_
  refine wc_seq ?_
  refine wc_region ?_
  refine reg_quiet rfl (build_struct tab_ok rfl rfl rfl rfl) ?_
  refine reg_store (store_row tab_ok rfl rfl rfl ⟨_, ⟨rfl, rfl, rfl⟩, rfl⟩ rfl) ?_
  refine reg_quiet rfl (step_C tab_ok (fun K hk => hk)) ?_
  refine reg_nil ?_
  refine seq_n ?_
  refine wc_ret ?_
  refine seq_r ?_
  exact ⟨trivial, _, rfl, [], .of rfl rfl rfl rfl rfl ⟨⟨_, rfl, AVLe.of_eq rfl⟩, rfl, trivial⟩ trivial⟩
theorem change0_ok (k : FuncId) (l : List Frame) (h j : Int) (he : chkS l h = 0) (hj : (decide (j < 0) || decide (j ≥ (l.length : Int))) = false) (b : Bool) (l2 : List Frame) (hl2 : l2.length = l.length) (hk : FnIs Try.prog k [.ptr 0 [.idx j.toNat 40]] [(0, .ds 39 40 true encFrame l)] (.bool b) [(0, .ds 39 40 true encFrame l2)]) (hb0 : (!b) = false) : FnIs Try.prog 68 [.d (encS l h), .d (i6 j), .fn (.func k) .anil .anil] [] (.tup (.acons (ownS 64 l.length h) (.acons (.int .i64 0) .anil))) [(64, .ds 39 40 true encFrame l2)] := by
  have he' : (!decide (chkS l h = 0)) = false := by rw [decide_eq_true he]; rfl
  have hlen : l.length ≤ 1000000 := chkS_len he
  have hj0 : 0 ≤ j := by rw [Bool.or_eq_false_iff] at hj; have := of_decide_eq_false hj.1; omega
  have hj1 : j < l.length := by rw [Bool.or_eq_false_iff] at hj; have := of_decide_eq_false hj.2; omega
  refine fnIs_of tab_ok Try.func68 rfl rfl rfl ?_
  refine wc_seq ?_
  refine wc_region ?_
  refine reg_new (step_C tab_ok (fun K hk => hk)) rfl ?_
  refine reg_new (step_C tab_ok (fun K hk => hk)) rfl ?_
  refine reg_quiet rfl (step_C tab_ok (fun K hk => hk)) ?_
  refine reg_nil ?_
  refine seq_n ?_
  refine wc_seq ?_
  refine wc_seq ?_
  refine wc_region ?_
  refine reg_quiet rfl (load_box tab_ok rfl rfl rfl rfl) ?_
  refine reg_quiet rfl (call_r (shcheck_is l h) rfl rfl (arg_e arg_nil) (.inl rfl) (fun _ => rfl)) ?_
  refine reg_quiet rfl (step_C tab_ok (fun K hk => hk)) ?_
  refine reg_nil ?_
  refine seq_n ?_
  refine wc_seq ?_
  refine wc_region ?_
  refine reg_quiet rfl (step_C tab_ok (fun K hk => hk)) ?_
  refine reg_quiet rfl (step_C tab_ok (fun K hk => hk)) ?_
  refine reg_nil ?_
  refine seq_n ?_
  refine wc_false rfl (by assumption) ?_
  refine wc_skip ?_
  refine seq_n ?_
  refine wc_seq ?_
  refine wc_seq_cut 23 (.bool (decide (j < 0) || decide (j ≥ (l.length : Int)))) _ rfl ?_ ?_
  · refine reg_quiet rfl (step_C tab_ok (fun K hk => hk)) ?_
    refine reg_quiet rfl (step_C tab_ok (fun K hk => hk)) ?_
    refine reg_quiet rfl (step_C tab_ok (fun K hk => hk)) ?_
    refine reg_split rfl rfl rfl (fun hb => ?_) (fun hb => ?_)
    refine reg_on rfl rfl (by assumption) ?_
    refine reg_quiet rfl (step_C tab_ok (fun K hk => hk)) ?_
    refine reg_on rfl rfl (by assumption) ?_
    refine reg_quiet rfl (step_C tab_ok (fun K hk => hk)) ?_
    refine reg_on rfl rfl (by assumption) ?_
    refine reg_quiet rfl (load_box tab_ok rfl rfl ⟨_, rfl, rfl⟩ rfl) ?_
    refine reg_on rfl rfl (by assumption) ?_
    refine reg_quiet rfl (len_arr tab_ok rfl rfl) ?_
    refine reg_on rfl rfl (by assumption) ?_
    refine reg_quiet rfl (step_C tab_ok (fun K hk => hk)) ?_
    refine reg_quiet rfl (pick_F tab_ok rfl (by assumption) rfl) ?_
    rotate_left
    refine reg_skip rfl rfl (by assumption) rfl rfl ?_
    refine reg_skip rfl rfl (by assumption) rfl rfl ?_
    refine reg_skip rfl rfl (by assumption) rfl rfl ?_
    refine reg_skip rfl rfl (by assumption) rfl rfl ?_
    refine reg_skip rfl rfl (by assumption) rfl rfl ?_
    refine reg_quiet rfl (pick_T tab_ok rfl (by assumption) rfl) ?_
    rotate_left
    all_goals refine reg_cut 9 rfl rfl rfl rfl rfl rfl rfl rfl rfl (AVLe.of_eq ?_)
    all_goals (first | rfl | (simp_all; done) | (simp_all; omega))
  refine wc_false rfl (by assumption) ?_
  refine wc_skip ?_
  refine seq_n ?_
  refine wc_seq ?_
  refine wc_region ?_
  refine reg_quiet rfl (load_box tab_ok rfl rfl rfl rfl) ?_
  refine reg_new (call_new (own_is l h hlen) rfl rfl (arg_e arg_nil) (.inl rfl) rfl rfl) rfl ?_
  refine reg_store (store_row tab_ok rfl rfl rfl ⟨_, ⟨rfl, rfl, rfl⟩, rfl⟩ rfl) ?_
  refine reg_nil ?_
  refine seq_n ?_
  refine wc_seq ?_
  refine wc_seq ?_
  refine wc_region ?_
  refine reg_quiet rfl (step_C tab_ok (fun K hk => hk)) ?_
  refine reg_quiet rfl (step_C tab_ok (fun K hk => hk)) ?_
  refine reg_quiet rfl (load_box tab_ok rfl rfl rfl rfl) ?_
  refine reg_quiet rfl (step_C tab_ok (fun K hk => hk)) ?_
  refine reg_quiet rfl (index_own tab_ok rfl rfl rfl rfl rfl (by omega) (by omega)) ?_
  refine reg_new2 (call_h [(0, some 208)] hk rfl rfl rfl (arg_ptr rfl rfl arg_nil) ⟨⟨rfl, rfl, _, _, rfl, rfl, .refl _⟩, trivial⟩ rfl rfl (.inl rfl) rfl rfl) rfl ?_
  refine reg_quiet rfl (step_C tab_ok (fun K hk => hk)) ?_
  refine reg_nil ?_
  refine seq_n ?_
  refine wc_false rfl (by assumption) ?_
  refine wc_skip ?_
  refine seq_n ?_
  refine wc_seq ?_
  refine wc_region ?_
  refine reg_quiet rfl (load_box tab_ok rfl rfl rfl rfl) ?_
  refine reg_store (store_row tab_ok rfl rfl rfl ⟨_, ⟨rfl, rfl, rfl⟩, rfl⟩ rfl) ?_
  refine reg_quiet rfl (step_C tab_ok (fun K hk => hk)) ?_
  refine reg_nil ?_
  refine seq_n ?_
  refine wc_ret ?_
  exact ⟨trivial, _, rfl, [(64, some 208)], .of rfl rfl rfl rfl rfl ⟨⟨_, rfl, AVLe.of_eq rfl⟩, rfl, trivial⟩ ⟨⟨rfl, rfl, _, rfl, .refl _⟩, trivial⟩⟩
theorem change1_err (k : FuncId) (d0 : D) (l : List Frame) (h j : Int) (he : chkS l h ≠ 0) : FnIs Try.prog 68 [.d (encS l h), .d (i6 j), .fn (.func k) .anil (.acons (.ptr 0 []) .anil)] [(0, .box 33 (.d d0))] (tup2 zeroS (i6 (chkS l h))) [(0, .box 33 (.d d0))] := by
  have he' : (!decide (chkS l h = 0)) = true := by rw [decide_eq_false he]; rfl
  refine fnIs_of tab_ok Try.func68 rfl rfl rfl ?_
  refine wc_seq ?_
  refine wc_region ?_
  refine reg_new (step_C tab_ok (fun K hk => hk)) rfl ?_
  refine reg_new (step_C tab_ok (fun K hk => hk)) rfl ?_
  refine reg_quiet rfl (step_C tab_ok (fun K hk => hk)) ?_
  refine reg_nil ?_
  refine seq_n ?_
  refine wc_seq ?_
  refine wc_seq ?_
  refine wc_region ?_
  refine reg_quiet rfl (load_box tab_ok rfl rfl rfl rfl) ?_
  refine reg_quiet rfl (call_r (shcheck_is l h) rfl rfl (arg_e arg_nil) (.inl rfl) (fun _ => rfl)) ?_
  refine reg_quiet rfl (step_C tab_ok (fun K hk => hk)) ?_
  refine reg_nil ?_
  refine seq_n ?_
  refine wc_seq ?_
  refine wc_region ?_
  refine reg_quiet rfl (step_C tab_ok (fun K hk => hk)) ?_
  refine reg_quiet rfl (step_C tab_ok (fun K hk => hk)) ?_
  refine reg_nil ?_
  refine seq_n ?_
  refine wc_true rfl (by assumption) ?_
  refine wc_seq ?_
  refine wc_region ?_
  refine reg_quiet rfl (build_struct tab_ok rfl rfl rfl rfl) ?_
  refine reg_quiet rfl (step_C tab_ok (fun K hk => hk)) ?_
  refine reg_store (store_row tab_ok rfl rfl rfl ⟨_, ⟨rfl, rfl, rfl⟩, rfl⟩ rfl) ?_
  refine reg_quiet rfl (step_C tab_ok (fun K hk => hk)) ?_
  refine reg_nil ?_
  refine seq_n ?_
  refine wc_ret ?_
  refine seq_r ?_
  exact ⟨trivial, _, rfl, [], .of rfl rfl rfl rfl rfl ⟨⟨_, rfl, AVLe.of_eq rfl⟩, rfl, trivial⟩ ⟨⟨rfl, rfl, _, rfl, .refl _⟩, trivial⟩⟩
theorem change1_at (k : FuncId) (d0 : D) (l : List Frame) (h j : Int) (he : chkS l h = 0) (hj : (decide (j < 0) || decide (j ≥ (l.length : Int))) = true) : FnIs Try.prog 68 [.d (encS l h), .d (i6 j), .fn (.func k) .anil (.acons (.ptr 0 []) .anil)] [(0, .box 33 (.d d0))] (tup2 zeroS (i6 1)) [(0, .box 33 (.d d0))] := by
  have he' : (!decide (chkS l h = 0)) = false := by rw [decide_eq_true he]; rfl
  refine fnIs_of tab_ok Try.func68 rfl rfl rfl ?_
  refine wc_seq ?_
  refine wc_region ?_
  refine reg_new (step_C tab_ok (fun K hk => hk)) rfl ?_
  refine reg_new (step_C tab_ok (fun K hk => hk)) rfl ?_
  refine reg_quiet rfl (step_C tab_ok (fun K hk => hk)) ?_
  refine reg_nil ?_
  refine seq_n ?_
  refine wc_seq ?_
  refine wc_seq ?_
  refine wc_region ?_
  refine reg_quiet rfl (load_box tab_ok rfl rfl rfl rfl) ?_
  refine reg_quiet rfl (call_r (shcheck_is l h) rfl rfl (arg_e arg_nil) (.inl rfl) (fun _ => rfl)) ?_
  refine reg_quiet rfl (step_C tab_ok (fun K hk => hk)) ?_
  refine reg_nil ?_
  refine seq_n ?_
  refine wc_seq ?_
  refine wc_region ?_
  refine reg_quiet rfl (step_C tab_ok (fun K hk => hk)) ?_
  refine reg_quiet rfl (step_C tab_ok (fun K hk => hk)) ?_
  refine reg_nil ?_
  refine seq_n ?_
  refine wc_false rfl (by assumption) ?_
  refine wc_skip ?_
  refine seq_n ?_
  refine wc_seq ?_
  refine wc_seq_cut 23 (.bool (decide (j < 0) || decide (j ≥ (l.length : Int)))) _ rfl ?_ ?_
  · refine reg_quiet rfl (step_C tab_ok (fun K hk => hk)) ?_
    refine reg_quiet rfl (step_C tab_ok (fun K hk => hk)) ?_
    refine reg_quiet rfl (step_C tab_ok (fun K hk => hk)) ?_
    refine reg_split rfl rfl rfl (fun hb => ?_) (fun hb => ?_)
    refine reg_on rfl rfl (by assumption) ?_
    refine reg_quiet rfl (step_C tab_ok (fun K hk => hk)) ?_
    refine reg_on rfl rfl (by assumption) ?_
    refine reg_quiet rfl (step_C tab_ok (fun K hk => hk)) ?_
    refine reg_on rfl rfl (by assumption) ?_
    refine reg_quiet rfl (load_box tab_ok rfl rfl ⟨_, rfl, rfl⟩ rfl) ?_
    refine reg_on rfl rfl (by assumption) ?_
    refine reg_quiet rfl (len_arr tab_ok rfl rfl) ?_
    refine reg_on rfl rfl (by assumption) ?_
    refine reg_quiet rfl (step_C tab_ok (fun K hk => hk)) ?_
    refine reg_quiet rfl (pick_F tab_ok rfl (by assumption) rfl) ?_
    rotate_left
    refine reg_skip rfl rfl (by assumption) rfl rfl ?_
    refine reg_skip rfl rfl (by assumption) rfl rfl ?_
    refine reg_skip rfl rfl (by assumption) rfl rfl ?_
    refine reg_skip rfl rfl (by assumption) rfl rfl ?_
    refine reg_skip rfl rfl (by assumption) rfl rfl ?_
    refine reg_quiet rfl (pick_T tab_ok rfl (by assumption) rfl) ?_
    rotate_left
    all_goals refine reg_cut 9 rfl rfl rfl rfl rfl rfl rfl rfl rfl (AVLe.of_eq ?_)
    all_goals (first | rfl | (simp_all; done) | (simp_all; omega))
  refine wc_true rfl (by assumption) ?_
  refine wc_seq ?_
  refine wc_region ?_
  refine reg_quiet rfl (build_struct tab_ok rfl rfl rfl rfl) ?_
  refine reg_store (store_row tab_ok rfl rfl rfl ⟨_, ⟨rfl, rfl, rfl⟩, rfl⟩ rfl) ?_
  refine reg_quiet rfl (step_C tab_ok (fun K hk => hk)) ?_
  refine reg_nil ?_
  refine seq_n ?_
  refine wc_ret ?_
  refine seq_r ?_
  exact ⟨trivial, _, rfl, [], .of rfl rfl rfl rfl rfl ⟨⟨_, rfl, AVLe.of_eq rfl⟩, rfl, trivial⟩ ⟨⟨rfl, rfl, _, rfl, .refl _⟩, trivial⟩⟩
theorem change1_no (k : FuncId) (d0 : D) (l : List Frame) (h j : Int) (he : chkS l h = 0) (hj : (decide (j < 0) || decide (j ≥ (l.length : Int))) = false) (b : Bool) (l2 : List Frame) (hk : FnIs Try.prog k [.ptr 0 [.idx j.toNat 40], .ptr 1 []] [(0, .ds 39 40 true encFrame l), (1, .box 33 (.d d0))] (.bool b) [(0, .ds 39 40 true encFrame l2), (1, .box 33 (.d d0))]) (hb0 : (!b) = true) : FnIs Try.prog 68 [.d (encS l h), .d (i6 j), .fn (.func k) .anil (.acons (.ptr 0 []) .anil)] [(0, .box 33 (.d d0))] (tup2 zeroS (i6 10)) [(0, .box 33 (.d d0))] := by
  have he' : (!decide (chkS l h = 0)) = false := by rw [decide_eq_true he]; rfl
  have hlen : l.length ≤ 1000000 := chkS_len he
  have hj0 : 0 ≤ j := by rw [Bool.or_eq_false_iff] at hj; have := of_decide_eq_false hj.1; omega
  have hj1 : j < l.length := by rw [Bool.or_eq_false_iff] at hj; have := of_decide_eq_false hj.2; omega
  refine fnIs_of tab_ok Try.func68 rfl rfl rfl ?_
  refine wc_seq ?_
  refine wc_region ?_
  refine reg_new (step_C tab_ok (fun K hk => hk)) rfl ?_
  refine reg_new (step_C tab_ok (fun K hk => hk)) rfl ?_
  refine reg_quiet rfl (step_C tab_ok (fun K hk => hk)) ?_
  refine reg_nil ?_
  refine seq_n ?_
  refine wc_seq ?_
  refine wc_seq ?_
  refine wc_region ?_
  refine reg_quiet rfl (load_box tab_ok rfl rfl rfl rfl) ?_
  refine reg_quiet rfl (call_r (shcheck_is l h) rfl rfl (arg_e arg_nil) (.inl rfl) (fun _ => rfl)) ?_
  refine reg_quiet rfl (step_C tab_ok (fun K hk => hk)) ?_
  refine reg_nil ?_
  refine seq_n ?_
  refine wc_seq ?_
  refine wc_region ?_
  refine reg_quiet rfl (step_C tab_ok (fun K hk => hk)) ?_
  refine reg_quiet rfl (step_C tab_ok (fun K hk => hk)) ?_
  refine reg_nil ?_
  refine seq_n ?_
  refine wc_false rfl (by assumption) ?_
  refine wc_skip ?_
  refine seq_n ?_
  refine wc_seq ?_
  refine wc_seq_cut 23 (.bool (decide (j < 0) || decide (j ≥ (l.length : Int)))) _ rfl ?_ ?_
  · refine reg_quiet rfl (step_C tab_ok (fun K hk => hk)) ?_
    refine reg_quiet rfl (step_C tab_ok (fun K hk => hk)) ?_
    refine reg_quiet rfl (step_C tab_ok (fun K hk => hk)) ?_
    refine reg_split rfl rfl rfl (fun hb => ?_) (fun hb => ?_)
    refine reg_on rfl rfl (by assumption) ?_
    refine reg_quiet rfl (step_C tab_ok (fun K hk => hk)) ?_
    refine reg_on rfl rfl (by assumption) ?_
    refine reg_quiet rfl (step_C tab_ok (fun K hk => hk)) ?_
    refine reg_on rfl rfl (by assumption) ?_
    refine reg_quiet rfl (load_box tab_ok rfl rfl ⟨_, rfl, rfl⟩ rfl) ?_
    refine reg_on rfl rfl (by assumption) ?_
    refine reg_quiet rfl (len_arr tab_ok rfl rfl) ?_
    refine reg_on rfl rfl (by assumption) ?_
    refine reg_quiet rfl (step_C tab_ok (fun K hk => hk)) ?_
    refine reg_quiet rfl (pick_F tab_ok rfl (by assumption) rfl) ?_
    rotate_left
    refine reg_skip rfl rfl (by assumption) rfl rfl ?_
    refine reg_skip rfl rfl (by assumption) rfl rfl ?_
    refine reg_skip rfl rfl (by assumption) rfl rfl ?_
    refine reg_skip rfl rfl (by assumption) rfl rfl ?_
    refine reg_skip rfl rfl (by assumption) rfl rfl ?_
    refine reg_quiet rfl (pick_T tab_ok rfl (by assumption) rfl) ?_
    rotate_left
    all_goals refine reg_cut 9 rfl rfl rfl rfl rfl rfl rfl rfl rfl (AVLe.of_eq ?_)
    all_goals (first | rfl | (simp_all; done) | (simp_all; omega))
  refine wc_false rfl (by assumption) ?_
  refine wc_skip ?_
  refine seq_n ?_
  refine wc_seq ?_
  refine wc_region ?_
  refine reg_quiet rfl (load_box tab_ok rfl rfl rfl rfl) ?_
  refine reg_new (call_new (own_is l h hlen) rfl rfl (arg_e arg_nil) (.inl rfl) rfl rfl) rfl ?_
  refine reg_store (store_row tab_ok rfl rfl rfl ⟨_, ⟨rfl, rfl, rfl⟩, rfl⟩ rfl) ?_
  refine reg_nil ?_
  refine seq_n ?_
  refine wc_seq ?_
  refine wc_seq ?_
  refine wc_region ?_
  refine reg_quiet rfl (step_C tab_ok (fun K hk => hk)) ?_
  refine reg_quiet rfl (step_C tab_ok (fun K hk => hk)) ?_
  refine reg_quiet rfl (load_box tab_ok rfl rfl rfl rfl) ?_
  refine reg_quiet rfl (step_C tab_ok (fun K hk => hk)) ?_
  refine reg_quiet rfl (index_own tab_ok rfl rfl rfl rfl rfl (by omega) (by omega)) ?_
  refine reg_do rfl (call_h [(0, some 208), (1, some 0)] hk rfl rfl rfl (arg_ptr rfl rfl (arg_ptr rfl rfl arg_nil)) ⟨⟨rfl, rfl, _, _, rfl, rfl, .refl _⟩, ⟨rfl, rfl, _, _, rfl, rfl, .refl _⟩, trivial⟩ rfl rfl (.inl rfl) rfl rfl) rfl rfl ?_
  refine reg_quiet rfl (step_C tab_ok (fun K hk => hk)) ?_
  refine reg_nil ?_
  refine seq_n ?_
  refine wc_true rfl (by assumption) ?_
  refine wc_seq ?_
  refine wc_region ?_
  refine reg_quiet rfl (build_struct tab_ok rfl rfl rfl rfl) ?_
  refine reg_store (store_row tab_ok rfl rfl rfl ⟨_, ⟨rfl, rfl, rfl⟩, rfl⟩ rfl) ?_
  refine reg_quiet rfl (step_C tab_ok (fun K hk => hk)) ?_
  refine reg_nil ?_
  refine seq_n ?_
  refine wc_ret ?_
  refine seq_r ?_
  exact ⟨trivial, _, rfl, [], .of rfl rfl rfl rfl rfl ⟨⟨_, rfl, AVLe.of_eq rfl⟩, rfl, trivial⟩ ⟨⟨rfl, rfl, _, rfl, .refl _⟩, trivial⟩⟩
theorem change1_ok (k : FuncId) (d0 : D) (l : List Frame) (h j : Int) (he : chkS l h = 0) (hj : (decide (j < 0) || decide (j ≥ (l.length : Int))) = false) (b : Bool) (l2 : List Frame) (hl2 : l2.length = l.length) (hk : FnIs Try.prog k [.ptr 0 [.idx j.toNat 40], .ptr 1 []] [(0, .ds 39 40 true encFrame l), (1, .box 33 (.d d0))] (.bool b) [(0, .ds 39 40 true encFrame l2), (1, .box 33 (.d d0))]) (hb0 : (!b) = false) : FnIs Try.prog 68 [.d (encS l h), .d (i6 j), .fn (.func k) .anil (.acons (.ptr 0 []) .anil)] [(0, .box 33 (.d d0))] (.tup (.acons (ownS 64 l.length h) (.acons (.int .i64 0) .anil))) [(64, .ds 39 40 true encFrame l2), (0, .box 33 (.d d0))] := by
  have he' : (!decide (chkS l h = 0)) = false := by rw [decide_eq_true he]; rfl
  have hlen : l.length ≤ 1000000 := chkS_len he
  have hj0 : 0 ≤ j := by rw [Bool.or_eq_false_iff] at hj; have := of_decide_eq_false hj.1; omega
  have hj1 : j < l.length := by rw [Bool.or_eq_false_iff] at hj; have := of_decide_eq_false hj.2; omega
  refine fnIs_of tab_ok Try.func68 rfl rfl rfl ?_
  refine wc_seq ?_
  refine wc_region ?_
  refine reg_new (step_C tab_ok (fun K hk => hk)) rfl ?_
  refine reg_new (step_C tab_ok (fun K hk => hk)) rfl ?_
  refine reg_quiet rfl (step_C tab_ok (fun K hk => hk)) ?_
  refine reg_nil ?_
  refine seq_n ?_
  refine wc_seq ?_
  refine wc_seq ?_
  refine wc_region ?_
  refine reg_quiet rfl (load_box tab_ok rfl rfl rfl rfl) ?_
  refine reg_quiet rfl (call_r (shcheck_is l h) rfl rfl (arg_e arg_nil) (.inl rfl) (fun _ => rfl)) ?_
  refine reg_quiet rfl (step_C tab_ok (fun K hk => hk)) ?_
  refine reg_nil ?_
  refine seq_n ?_
  refine wc_seq ?_
  refine wc_region ?_
  refine reg_quiet rfl (step_C tab_ok (fun K hk => hk)) ?_
  refine reg_quiet rfl (step_C tab_ok (fun K hk => hk)) ?_
  refine reg_nil ?_
  refine seq_n ?_
  refine wc_false rfl (by assumption) ?_
  refine wc_skip ?_
  refine seq_n ?_
  refine wc_seq ?_
  refine wc_seq_cut 23 (.bool (decide (j < 0) || decide (j ≥ (l.length : Int)))) _ rfl ?_ ?_
  · refine reg_quiet rfl (step_C tab_ok (fun K hk => hk)) ?_
    refine reg_quiet rfl (step_C tab_ok (fun K hk => hk)) ?_
    refine reg_quiet rfl (step_C tab_ok (fun K hk => hk)) ?_
    refine reg_split rfl rfl rfl (fun hb => ?_) (fun hb => ?_)
    refine reg_on rfl rfl (by assumption) ?_
    refine reg_quiet rfl (step_C tab_ok (fun K hk => hk)) ?_
    refine reg_on rfl rfl (by assumption) ?_
    refine reg_quiet rfl (step_C tab_ok (fun K hk => hk)) ?_
    refine reg_on rfl rfl (by assumption) ?_
    refine reg_quiet rfl (load_box tab_ok rfl rfl ⟨_, rfl, rfl⟩ rfl) ?_
    refine reg_on rfl rfl (by assumption) ?_
    refine reg_quiet rfl (len_arr tab_ok rfl rfl) ?_
    refine reg_on rfl rfl (by assumption) ?_
    refine reg_quiet rfl (step_C tab_ok (fun K hk => hk)) ?_
    refine reg_quiet rfl (pick_F tab_ok rfl (by assumption) rfl) ?_
    rotate_left
    refine reg_skip rfl rfl (by assumption) rfl rfl ?_
    refine reg_skip rfl rfl (by assumption) rfl rfl ?_
    refine reg_skip rfl rfl (by assumption) rfl rfl ?_
    refine reg_skip rfl rfl (by assumption) rfl rfl ?_
    refine reg_skip rfl rfl (by assumption) rfl rfl ?_
    refine reg_quiet rfl (pick_T tab_ok rfl (by assumption) rfl) ?_
    rotate_left
    all_goals refine reg_cut 9 rfl rfl rfl rfl rfl rfl rfl rfl rfl (AVLe.of_eq ?_)
    all_goals (first | rfl | (simp_all; done) | (simp_all; omega))
  refine wc_false rfl (by assumption) ?_
  refine wc_skip ?_
  refine seq_n ?_
  refine wc_seq ?_
  refine wc_region ?_
  refine reg_quiet rfl (load_box tab_ok rfl rfl rfl rfl) ?_
  refine reg_new (call_new (own_is l h hlen) rfl rfl (arg_e arg_nil) (.inl rfl) rfl rfl) rfl ?_
  refine reg_store (store_row tab_ok rfl rfl rfl ⟨_, ⟨rfl, rfl, rfl⟩, rfl⟩ rfl) ?_
  refine reg_nil ?_
  refine seq_n ?_
  refine wc_seq ?_
  refine wc_seq ?_
  refine wc_region ?_
  refine reg_quiet rfl (step_C tab_ok (fun K hk => hk)) ?_
  refine reg_quiet rfl (step_C tab_ok (fun K hk => hk)) ?_
  refine reg_quiet rfl (load_box tab_ok rfl rfl rfl rfl) ?_
  refine reg_quiet rfl (step_C tab_ok (fun K hk => hk)) ?_
  refine reg_quiet rfl (index_own tab_ok rfl rfl rfl rfl rfl (by omega) (by omega)) ?_
  refine reg_do rfl (call_h [(0, some 208), (1, some 0)] hk rfl rfl rfl (arg_ptr rfl rfl (arg_ptr rfl rfl arg_nil)) ⟨⟨rfl, rfl, _, _, rfl, rfl, .refl _⟩, ⟨rfl, rfl, _, _, rfl, rfl, .refl _⟩, trivial⟩ rfl rfl (.inl rfl) rfl rfl) rfl rfl ?_
  refine reg_quiet rfl (step_C tab_ok (fun K hk => hk)) ?_
  refine reg_nil ?_
  refine seq_n ?_
  refine wc_false rfl (by assumption) ?_
  refine wc_skip ?_
  refine seq_n ?_
  refine wc_seq ?_
  refine wc_region ?_
  refine reg_quiet rfl (load_box tab_ok rfl rfl rfl rfl) ?_
  refine reg_store (store_row tab_ok rfl rfl rfl ⟨_, ⟨rfl, rfl, rfl⟩, rfl⟩ rfl) ?_
  refine reg_quiet rfl (step_C tab_ok (fun K hk => hk)) ?_
  refine reg_nil ?_
  refine seq_n ?_
  refine wc_ret ?_
  exact ⟨trivial, _, rfl, [(64, some 208)], .of rfl rfl rfl rfl rfl ⟨⟨_, rfl, AVLe.of_eq rfl⟩, rfl, trivial⟩ ⟨⟨rfl, rfl, _, rfl, .refl _⟩, ⟨rfl, rfl, _, rfl, .refl _⟩, trivial⟩⟩
theorem change2_err (k : FuncId) (d0 d1 : D) (l : List Frame) (h j : Int) (he : chkS l h ≠ 0) : FnIs Try.prog 68 [.d (encS l h), .d (i6 j), .fn (.func k) .anil (.acons (.ptr 0 []) (.acons (.ptr 1 []) .anil))] [(0, .box 37 (.d d0)), (1, .box 33 (.d d1))] (tup2 zeroS (i6 (chkS l h))) [(0, .box 37 (.d d0)), (1, .box 33 (.d d1))] := by
  have he' : (!decide (chkS l h = 0)) = true := by rw [decide_eq_false he]; rfl
  refine fnIs_of tab_ok Try.func68 rfl rfl rfl ?_
  refine wc_seq ?_
  refine wc_region ?_
  refine reg_new (step_C tab_ok (fun K hk => hk)) rfl ?_
  refine reg_new (step_C tab_ok (fun K hk => hk)) rfl ?_
  refine reg_quiet rfl (step_C tab_ok (fun K hk => hk)) ?_
  refine reg_nil ?_
  refine seq_n ?_
  refine wc_seq ?_
  refine wc_seq ?_
  refine wc_region ?_
  refine reg_quiet rfl (load_box tab_ok rfl rfl rfl rfl) ?_
  refine reg_quiet rfl (call_r (shcheck_is l h) rfl rfl (arg_e arg_nil) (.inl rfl) (fun _ => rfl)) ?_
  refine reg_quiet rfl (step_C tab_ok (fun K hk => hk)) ?_
  refine reg_nil ?_
  refine seq_n ?_
  refine wc_seq ?_
  refine wc_region ?_
  refine reg_quiet rfl (step_C tab_ok (fun K hk => hk)) ?_
  refine reg_quiet rfl (step_C tab_ok (fun K hk => hk)) ?_
  refine reg_nil ?_
  refine seq_n ?_
  refine wc_true rfl (by assumption) ?_
  refine wc_seq ?_
  refine wc_region ?_
  refine reg_quiet rfl (build_struct tab_ok rfl rfl rfl rfl) ?_
  refine reg_quiet rfl (step_C tab_ok (fun K hk => hk)) ?_
  refine reg_store (store_row tab_ok rfl rfl rfl ⟨_, ⟨rfl, rfl, rfl⟩, rfl⟩ rfl) ?_
  refine reg_quiet rfl (step_C tab_ok (fun K hk => hk)) ?_
  refine reg_nil ?_
  refine seq_n ?_
  refine wc_ret ?_
  refine seq_r ?_
  exact ⟨trivial, _, rfl, [], .of rfl rfl rfl rfl rfl ⟨⟨_, rfl, AVLe.of_eq rfl⟩, rfl, trivial⟩ ⟨⟨rfl, rfl, _, rfl, .refl _⟩, ⟨rfl, rfl, _, rfl, .refl _⟩, trivial⟩⟩
theorem change2_at (k : FuncId) (d0 d1 : D) (l : List Frame) (h j : Int) (he : chkS l h = 0) (hj : (decide (j < 0) || decide (j ≥ (l.length : Int))) = true) : FnIs Try.prog 68 [.d (encS l h), .d (i6 j), .fn (.func k) .anil (.acons (.ptr 0 []) (.acons (.ptr 1 []) .anil))] [(0, .box 37 (.d d0)), (1, .box 33 (.d d1))] (tup2 zeroS (i6 1)) [(0, .box 37 (.d d0)), (1, .box 33 (.d d1))] := by
  have he' : (!decide (chkS l h = 0)) = false := by rw [decide_eq_true he]; rfl
  refine fnIs_of tab_ok Try.func68 rfl rfl rfl ?_
  refine wc_seq ?_
  refine wc_region ?_
  refine reg_new (step_C tab_ok (fun K hk => hk)) rfl ?_
  refine reg_new (step_C tab_ok (fun K hk => hk)) rfl ?_
  refine reg_quiet rfl (step_C tab_ok (fun K hk => hk)) ?_
  refine reg_nil ?_
  refine seq_n ?_
  refine wc_seq ?_
  refine wc_seq ?_
  refine wc_region ?_
  refine reg_quiet rfl (load_box tab_ok rfl rfl rfl rfl) ?_
  refine reg_quiet rfl (call_r (shcheck_is l h) rfl rfl (arg_e arg_nil) (.inl rfl) (fun _ => rfl)) ?_
  refine reg_quiet rfl (step_C tab_ok (fun K hk => hk)) ?_
  refine reg_nil ?_
  refine seq_n ?_
  refine wc_seq ?_
  refine wc_region ?_
  refine reg_quiet rfl (step_C tab_ok (fun K hk => hk)) ?_
  refine reg_quiet rfl (step_C tab_ok (fun K hk => hk)) ?_
  refine reg_nil ?_
  refine seq_n ?_
  refine wc_false rfl (by assumption) ?_
  refine wc_skip ?_
  refine seq_n ?_
  refine wc_seq ?_
  refine wc_seq_cut 23 (.bool (decide (j < 0) || decide (j ≥ (l.length : Int)))) _ rfl ?_ ?_
  · refine reg_quiet rfl (step_C tab_ok (fun K hk => hk)) ?_
    refine reg_quiet rfl (step_C tab_ok (fun K hk => hk)) ?_
    refine reg_quiet rfl (step_C tab_ok (fun K hk => hk)) ?_
    refine reg_split rfl rfl rfl (fun hb => ?_) (fun hb => ?_)
    refine reg_on rfl rfl (by assumption) ?_
    refine reg_quiet rfl (step_C tab_ok (fun K hk => hk)) ?_
    refine reg_on rfl rfl (by assumption) ?_
    refine reg_quiet rfl (step_C tab_ok (fun K hk => hk)) ?_
    refine reg_on rfl rfl (by assumption) ?_
    refine reg_quiet rfl (load_box tab_ok rfl rfl ⟨_, rfl, rfl⟩ rfl) ?_
    refine reg_on rfl rfl (by assumption) ?_
    refine reg_quiet rfl (len_arr tab_ok rfl rfl) ?_
    refine reg_on rfl rfl (by assumption) ?_
    refine reg_quiet rfl (step_C tab_ok (fun K hk => hk)) ?_
    refine reg_quiet rfl (pick_F tab_ok rfl (by assumption) rfl) ?_
    rotate_left
    refine reg_skip rfl rfl (by assumption) rfl rfl ?_
    refine reg_skip rfl rfl (by assumption) rfl rfl ?_
    refine reg_skip rfl rfl (by assumption) rfl rfl ?_
    refine reg_skip rfl rfl (by assumption) rfl rfl ?_
    refine reg_skip rfl rfl (by assumption) rfl rfl ?_
    refine reg_quiet rfl (pick_T tab_ok rfl (by assumption) rfl) ?_
    rotate_left
    all_goals refine reg_cut 9 rfl rfl rfl rfl rfl rfl rfl rfl rfl (AVLe.of_eq ?_)
    all_goals (first | rfl | (simp_all; done) | (simp_all; omega))
  refine wc_true rfl (by assumption) ?_
  refine wc_seq ?_
  refine wc_region ?_
  refine reg_quiet rfl (build_struct tab_ok rfl rfl rfl rfl) ?_
  refine reg_store (store_row tab_ok rfl rfl rfl ⟨_, ⟨rfl, rfl, rfl⟩, rfl⟩ rfl) ?_
  refine reg_quiet rfl (step_C tab_ok (fun K hk => hk)) ?_
  refine reg_nil ?_
  refine seq_n ?_
  refine wc_ret ?_
  refine seq_r ?_
  exact ⟨trivial, _, rfl, [], .of rfl rfl rfl rfl rfl ⟨⟨_, rfl, AVLe.of_eq rfl⟩, rfl, trivial⟩ ⟨⟨rfl, rfl, _, rfl, .refl _⟩, ⟨rfl, rfl, _, rfl, .refl _⟩, trivial⟩⟩
theorem change2_no (k : FuncId) (d0 d1 : D) (l : List Frame) (h j : Int) (he : chkS l h = 0) (hj : (decide (j < 0) || decide (j ≥ (l.length : Int))) = false) (b : Bool) (l2 : List Frame) (hk : FnIs Try.prog k [.ptr 0 [.idx j.toNat 40], .ptr 1 [], .ptr 2 []] [(0, .ds 39 40 true encFrame l), (1, .box 37 (.d d0)), (2, .box 33 (.d d1))] (.bool b) [(0, .ds 39 40 true encFrame l2), (1, .box 37 (.d d0)), (2, .box 33 (.d d1))]) (hb0 : (!b) = true) : FnIs Try.prog 68 [.d (encS l h), .d (i6 j), .fn (.func k) .anil (.acons (.ptr 0 []) (.acons (.ptr 1 []) .anil))] [(0, .box 37 (.d d0)), (1, .box 33 (.d d1))] (tup2 zeroS (i6 10)) [(0, .box 37 (.d d0)), (1, .box 33 (.d d1))] := by
  have he' : (!decide (chkS l h = 0)) = false := by rw [decide_eq_true he]; rfl
  have hlen : l.length ≤ 1000000 := chkS_len he
  have hj0 : 0 ≤ j := by rw [Bool.or_eq_false_iff] at hj; have := of_decide_eq_false hj.1; omega
  have hj1 : j < l.length := by rw [Bool.or_eq_false_iff] at hj; have := of_decide_eq_false hj.2; omega
  refine fnIs_of tab_ok Try.func68 rfl rfl rfl ?_
  refine wc_seq ?_
  refine wc_region ?_
  refine reg_new (step_C tab_ok (fun K hk => hk)) rfl ?_
  refine reg_new (step_C tab_ok (fun K hk => hk)) rfl ?_
  refine reg_quiet rfl (step_C tab_ok (fun K hk => hk)) ?_
  refine reg_nil ?_
  refine seq_n ?_
  refine wc_seq ?_
  refine wc_seq ?_
  refine wc_region ?_
  refine reg_quiet rfl (load_box tab_ok rfl rfl rfl rfl) ?_
  refine reg_quiet rfl (call_r (shcheck_is l h) rfl rfl (arg_e arg_nil) (.inl rfl) (fun _ => rfl)) ?_
  refine reg_quiet rfl (step_C tab_ok (fun K hk => hk)) ?_
  refine reg_nil ?_
  refine seq_n ?_
  refine wc_seq ?_
  refine wc_region ?_
  refine reg_quiet rfl (step_C tab_ok (fun K hk => hk)) ?_
  refine reg_quiet rfl (step_C tab_ok (fun K hk => hk)) ?_
  refine reg_nil ?_
  refine seq_n ?_
  refine wc_false rfl (by assumption) ?_
  refine wc_skip ?_
  refine seq_n ?_
  refine wc_seq ?_
  refine wc_seq_cut 23 (.bool (decide (j < 0) || decide (j ≥ (l.length : Int)))) _ rfl ?_ ?_
  · refine reg_quiet rfl (step_C tab_ok (fun K hk => hk)) ?_
    refine reg_quiet rfl (step_C tab_ok (fun K hk => hk)) ?_
    refine reg_quiet rfl (step_C tab_ok (fun K hk => hk)) ?_
    refine reg_split rfl rfl rfl (fun hb => ?_) (fun hb => ?_)
    refine reg_on rfl rfl (by assumption) ?_
    refine reg_quiet rfl (step_C tab_ok (fun K hk => hk)) ?_
    refine reg_on rfl rfl (by assumption) ?_
    refine reg_quiet rfl (step_C tab_ok (fun K hk => hk)) ?_
    refine reg_on rfl rfl (by assumption) ?_
    refine reg_quiet rfl (load_box tab_ok rfl rfl ⟨_, rfl, rfl⟩ rfl) ?_
    refine reg_on rfl rfl (by assumption) ?_
    refine reg_quiet rfl (len_arr tab_ok rfl rfl) ?_
    refine reg_on rfl rfl (by assumption) ?_
    refine reg_quiet rfl (step_C tab_ok (fun K hk => hk)) ?_
    refine reg_quiet rfl (pick_F tab_ok rfl (by assumption) rfl) ?_
    rotate_left
    refine reg_skip rfl rfl (by assumption) rfl rfl ?_
    refine reg_skip rfl rfl (by assumption) rfl rfl ?_
    refine reg_skip rfl rfl (by assumption) rfl rfl ?_
    refine reg_skip rfl rfl (by assumption) rfl rfl ?_
    refine reg_skip rfl rfl (by assumption) rfl rfl ?_
    refine reg_quiet rfl (pick_T tab_ok rfl (by assumption) rfl) ?_
    rotate_left
    all_goals refine reg_cut 9 rfl rfl rfl rfl rfl rfl rfl rfl rfl (AVLe.of_eq ?_)
    all_goals (first | rfl | (simp_all; done) | (simp_all; omega))
  refine wc_false rfl (by assumption) ?_
  refine wc_skip ?_
  refine seq_n ?_
  refine wc_seq ?_
  refine wc_region ?_
  refine reg_quiet rfl (load_box tab_ok rfl rfl rfl rfl) ?_
  refine reg_new (call_new (own_is l h hlen) rfl rfl (arg_e arg_nil) (.inl rfl) rfl rfl) rfl ?_
  refine reg_store (store_row tab_ok rfl rfl rfl ⟨_, ⟨rfl, rfl, rfl⟩, rfl⟩ rfl) ?_
  refine reg_nil ?_
  refine seq_n ?_
  refine wc_seq ?_
  refine wc_seq ?_
  refine wc_region ?_
  refine reg_quiet rfl (step_C tab_ok (fun K hk => hk)) ?_
  refine reg_quiet rfl (step_C tab_ok (fun K hk => hk)) ?_
  refine reg_quiet rfl (load_box tab_ok rfl rfl rfl rfl) ?_
  refine reg_quiet rfl (step_C tab_ok (fun K hk => hk)) ?_
  refine reg_quiet rfl (index_own tab_ok rfl rfl rfl rfl rfl (by omega) (by omega)) ?_
  refine reg_do rfl (call_h [(0, some 208), (1, some 0), (2, some 1)] hk rfl rfl rfl (arg_ptr rfl rfl (arg_ptr rfl rfl (arg_ptr rfl rfl arg_nil))) ⟨⟨rfl, rfl, _, _, rfl, rfl, .refl _⟩, ⟨rfl, rfl, _, _, rfl, rfl, .refl _⟩, ⟨rfl, rfl, _, _, rfl, rfl, .refl _⟩, trivial⟩ rfl rfl (.inl rfl) rfl rfl) rfl rfl ?_
  refine reg_quiet rfl (step_C tab_ok (fun K hk => hk)) ?_
  refine reg_nil ?_
  refine seq_n ?_
  refine wc_true rfl (by assumption) ?_
  refine wc_seq ?_
  refine wc_region ?_
  refine reg_quiet rfl (build_struct tab_ok rfl rfl rfl rfl) ?_
  refine reg_store (store_row tab_ok rfl rfl rfl ⟨_, ⟨rfl, rfl, rfl⟩, rfl⟩ rfl) ?_
  refine reg_quiet rfl (step_C tab_ok (fun K hk => hk)) ?_
  refine reg_nil ?_
  refine seq_n ?_
  refine wc_ret ?_
  refine seq_r ?_
  exact ⟨trivial, _, rfl, [], .of rfl rfl rfl rfl rfl ⟨⟨_, rfl, AVLe.of_eq rfl⟩, rfl, trivial⟩ ⟨⟨rfl, rfl, _, rfl, .refl _⟩, ⟨rfl, rfl, _, rfl, .refl _⟩, trivial⟩⟩
theorem change2_ok (k : FuncId) (d0 d1 : D) (l : List Frame) (h j : Int) (he : chkS l h = 0) (hj : (decide (j < 0) || decide (j ≥ (l.length : Int))) = false) (b : Bool) (l2 : List Frame) (hl2 : l2.length = l.length) (hk : FnIs Try.prog k [.ptr 0 [.idx j.toNat 40], .ptr 1 [], .ptr 2 []] [(0, .ds 39 40 true encFrame l), (1, .box 37 (.d d0)), (2, .box 33 (.d d1))] (.bool b) [(0, .ds 39 40 true encFrame l2), (1, .box 37 (.d d0)), (2, .box 33 (.d d1))]) (hb0 : (!b) = false) : FnIs Try.prog 68 [.d (encS l h), .d (i6 j), .fn (.func k) .anil (.acons (.ptr 0 []) (.acons (.ptr 1 []) .anil))] [(0, .box 37 (.d d0)), (1, .box 33 (.d d1))] (.tup (.acons (ownS 64 l.length h) (.acons (.int .i64 0) .anil))) [(64, .ds 39 40 true encFrame l2), (0, .box 37 (.d d0)), (1, .box 33 (.d d1))] := by
  have he' : (!decide (chkS l h = 0)) = false := by rw [decide_eq_true he]; rfl
  have hlen : l.length ≤ 1000000 := chkS_len he
  have hj0 : 0 ≤ j := by rw [Bool.or_eq_false_iff] at hj; have := of_decide_eq_false hj.1; omega
  have hj1 : j < l.length := by rw [Bool.or_eq_false_iff] at hj; have := of_decide_eq_false hj.2; omega
  refine fnIs_of tab_ok Try.func68 rfl rfl rfl ?_
  refine wc_seq ?_
  refine wc_region ?_
  refine reg_new (step_C tab_ok (fun K hk => hk)) rfl ?_
  refine reg_new (step_C tab_ok (fun K hk => hk)) rfl ?_
  refine reg_quiet rfl (step_C tab_ok (fun K hk => hk)) ?_
  refine reg_nil ?_
  refine seq_n ?_
  refine wc_seq ?_
  refine wc_seq ?_
  refine wc_region ?_
  refine reg_quiet rfl (load_box tab_ok rfl rfl rfl rfl) ?_
  refine reg_quiet rfl (call_r (shcheck_is l h) rfl rfl (arg_e arg_nil) (.inl rfl) (fun _ => rfl)) ?_
  refine reg_quiet rfl (step_C tab_ok (fun K hk => hk)) ?_
  refine reg_nil ?_
  refine seq_n ?_
  refine wc_seq ?_
  refine wc_region ?_
  refine reg_quiet rfl (step_C tab_ok (fun K hk => hk)) ?_
  refine reg_quiet rfl (step_C tab_ok (fun K hk => hk)) ?_
  refine reg_nil ?_
  refine seq_n ?_
  refine wc_false rfl (by assumption) ?_
  refine wc_skip ?_
  refine seq_n ?_
  refine wc_seq ?_
  refine wc_seq_cut 23 (.bool (decide (j < 0) || decide (j ≥ (l.length : Int)))) _ rfl ?_ ?_
  · refine reg_quiet rfl (step_C tab_ok (fun K hk => hk)) ?_
    refine reg_quiet rfl (step_C tab_ok (fun K hk => hk)) ?_
    refine reg_quiet rfl (step_C tab_ok (fun K hk => hk)) ?_
    refine reg_split rfl rfl rfl (fun hb => ?_) (fun hb => ?_)
    refine reg_on rfl rfl (by assumption) ?_
    refine reg_quiet rfl (step_C tab_ok (fun K hk => hk)) ?_
    refine reg_on rfl rfl (by assumption) ?_
    refine reg_quiet rfl (step_C tab_ok (fun K hk => hk)) ?_
    refine reg_on rfl rfl (by assumption) ?_
    refine reg_quiet rfl (load_box tab_ok rfl rfl ⟨_, rfl, rfl⟩ rfl) ?_
    refine reg_on rfl rfl (by assumption) ?_
    refine reg_quiet rfl (len_arr tab_ok rfl rfl) ?_
    refine reg_on rfl rfl (by assumption) ?_
    refine reg_quiet rfl (step_C tab_ok (fun K hk => hk)) ?_
    refine reg_quiet rfl (pick_F tab_ok rfl (by assumption) rfl) ?_
    rotate_left
    refine reg_skip rfl rfl (by assumption) rfl rfl ?_
    refine reg_skip rfl rfl (by assumption) rfl rfl ?_
    refine reg_skip rfl rfl (by assumption) rfl rfl ?_
    refine reg_skip rfl rfl (by assumption) rfl rfl ?_
    refine reg_skip rfl rfl (by assumption) rfl rfl ?_
    refine reg_quiet rfl (pick_T tab_ok rfl (by assumption) rfl) ?_
    rotate_left
    all_goals refine reg_cut 9 rfl rfl rfl rfl rfl rfl rfl rfl rfl (AVLe.of_eq ?_)
    all_goals (first | rfl | (simp_all; done) | (simp_all; omega))
  refine wc_false rfl (by assumption) ?_
  refine wc_skip ?_
  refine seq_n ?_
  refine wc_seq ?_
  refine wc_region ?_
  refine reg_quiet rfl (load_box tab_ok rfl rfl rfl rfl) ?_
  refine reg_new (call_new (own_is l h hlen) rfl rfl (arg_e arg_nil) (.inl rfl) rfl rfl) rfl ?_
  refine reg_store (store_row tab_ok rfl rfl rfl ⟨_, ⟨rfl, rfl, rfl⟩, rfl⟩ rfl) ?_
  refine reg_nil ?_
  refine seq_n ?_
  refine wc_seq ?_
  refine wc_seq ?_
  refine wc_region ?_
  refine reg_quiet rfl (step_C tab_ok (fun K hk => hk)) ?_
  refine reg_quiet rfl (step_C tab_ok (fun K hk => hk)) ?_
  refine reg_quiet rfl (load_box tab_ok rfl rfl rfl rfl) ?_
  refine reg_quiet rfl (step_C tab_ok (fun K hk => hk)) ?_
  refine reg_quiet rfl (index_own tab_ok rfl rfl rfl rfl rfl (by omega) (by omega)) ?_
  refine reg_do rfl (call_h [(0, some 208), (1, some 0), (2, some 1)] hk rfl rfl rfl (arg_ptr rfl rfl (arg_ptr rfl rfl (arg_ptr rfl rfl arg_nil))) ⟨⟨rfl, rfl, _, _, rfl, rfl, .refl _⟩, ⟨rfl, rfl, _, _, rfl, rfl, .refl _⟩, ⟨rfl, rfl, _, _, rfl, rfl, .refl _⟩, trivial⟩ rfl rfl (.inl rfl) rfl rfl) rfl rfl ?_
  refine reg_quiet rfl (step_C tab_ok (fun K hk => hk)) ?_
  refine reg_nil ?_
  refine seq_n ?_
  refine wc_false rfl (by assumption) ?_
  refine wc_skip ?_
  refine seq_n ?_
  refine wc_seq ?_
  refine wc_region ?_
  refine reg_quiet rfl (load_box tab_ok rfl rfl rfl rfl) ?_
  refine reg_store (store_row tab_ok rfl rfl rfl ⟨_, ⟨rfl, rfl, rfl⟩, rfl⟩ rfl) ?_
  refine reg_quiet rfl (step_C tab_ok (fun K hk => hk)) ?_
  refine reg_nil ?_
  refine seq_n ?_
  refine wc_ret ?_
  exact ⟨trivial, _, rfl, [(64, some 208)], .of rfl rfl rfl rfl rfl ⟨⟨_, rfl, AVLe.of_eq rfl⟩, rfl, trivial⟩ ⟨⟨rfl, rfl, _, rfl, .refl _⟩, ⟨rfl, rfl, _, rfl, .refl _⟩, ⟨rfl, rfl, _, rfl, .refl _⟩, trivial⟩⟩
end Go.Proofs.Ytmdfeekpehcieaa

/- Shards: the acts. -/
namespace Go.Proofs.Ytmdfeekpehcieaa
open Go.Eng
set_option maxHeartbeats 2000000
attribute [local irreducible] WC RegS RegD SeqQ BlkQ ScoQ RegK CutK Sat SatN FnIs LoopQ StepIs OpIs
def outB (l : List Frame) (j : Int) : Bool := decide (j < 0) || decide (j ≥ (l.length : Int))
/-- The error of an act. -/
def actE (p : Frame → Bool) (l : List Frame) (h j : Int) : Int := if chkS l h ≠ 0 then chkS l h else if outB l j = true then 1 else match l[j.toNat]? with
  | some f => if p f = true then 0 else 10
  | none => 10
def updL (g : Frame → Frame) (l : List Frame) (j : Int) : List Frame := match l[j.toNat]? with
  | some f => l.set j.toNat (g f)
  | none => l
theorem updL_len {g : Frame → Frame} {l : List Frame} {j : Int} : (updL g l j).length = l.length := by unfold updL; split <;> simp
theorem outB_get {l : List Frame} {j : Int} (h : outB l j = false) : ∃ f, l[j.toNat]? = some f := by
  simp [outB] at h
  exact ⟨_, List.getElem?_eq_getElem (by omega)⟩
theorem actE_zero {p : Frame → Bool} {l : List Frame} {h j : Int} (he : actE p l h j = 0) : chkS l h = 0 ∧ outB l j = false ∧ ∃ f, l[j.toNat]? = some f ∧ p f = true := by
  unfold actE at he
  split at he
  · rename_i h1; exact absurd he h1
  rename_i h1
  split at he
  · cases he
  rename_i h2
  have h2' : outB l j = false := by simpa using h2
  obtain ⟨f, hf⟩ := outB_get h2'
  rw [hf] at he
  refine ⟨by simpa using h1, h2', f, hf, ?_⟩
  cases hp : p f with
  | true => rfl
  | false => simp [hp] at he
theorem change0_bad (k : FuncId) (p : Frame → Bool) (g : Frame → Frame) (l : List Frame) (h j : Int) (hk : ∀ f, l[j.toNat]? = some f → FnIs Try.prog k [.ptr 0 [.idx j.toNat 40]] [(0, .ds 39 40 true encFrame l)] (.bool (p f)) [(0, .ds 39 40 true encFrame (l.set j.toNat (g f)))]) (he : actE p l h j ≠ 0) : FnIs Try.prog 68 [.d (encS l h), .d (i6 j), .fn (.func k) .anil .anil] [] (tup2 zeroS (i6 (actE p l h j))) [] := by
  by_cases h1 : chkS l h = 0
  · cases h2 : outB l j with
    | true =>
      have e : actE p l h j = 1 := by rw [actE, if_neg (fun e => e h1), if_pos h2]
      rw [e]; exact change0_at k l h j h1 h2
    | false =>
      obtain ⟨f, hf⟩ := outB_get h2
      have e : actE p l h j = if p f = true then 0 else 10 := by rw [actE, if_neg (fun e => e h1), if_neg (by rw [h2]; exact fun e => by cases e), hf]
      cases hp : p f with
      | true => rw [hp, if_pos rfl] at e; exact absurd e he
      | false =>
        rw [hp, if_neg (fun e => by cases e)] at e
        rw [e]; exact change0_no k l h j h1 h2 _ _ (hk f hf) (by rw [hp]; rfl)
  · have e : actE p l h j = chkS l h := by rw [actE, if_pos h1]
    rw [e]; exact change0_err k l h j h1
theorem change0_good (k : FuncId) (p : Frame → Bool) (g : Frame → Frame) (l : List Frame) (h j : Int) (hk : ∀ f, l[j.toNat]? = some f → FnIs Try.prog k [.ptr 0 [.idx j.toNat 40]] [(0, .ds 39 40 true encFrame l)] (.bool (p f)) [(0, .ds 39 40 true encFrame (l.set j.toNat (g f)))]) (he : actE p l h j = 0) : FnIs Try.prog 68 [.d (encS l h), .d (i6 j), .fn (.func k) .anil .anil] [] (.tup (.acons (ownS 64 l.length h) (.acons (.int .i64 0) .anil))) [(64, .ds 39 40 true encFrame (updL g l j))] := by
  obtain ⟨h1, h2, f, hf, hp⟩ := actE_zero he
  have e : updL g l j = l.set j.toNat (g f) := by rw [updL, hf]
  rw [e]
  exact change0_ok k l h j h1 h2 _ _ (by simp) (hk f hf) (by rw [hp]; rfl)
theorem change1_bad (k : FuncId) (p : Frame → Bool) (g : Frame → Frame) (d0 : D) (l : List Frame) (h j : Int) (hk : ∀ f, l[j.toNat]? = some f → FnIs Try.prog k [.ptr 0 [.idx j.toNat 40], .ptr 1 []] [(0, .ds 39 40 true encFrame l), (1, .box 33 (.d d0))] (.bool (p f)) [(0, .ds 39 40 true encFrame (l.set j.toNat (g f))), (1, .box 33 (.d d0))]) (he : actE p l h j ≠ 0) : FnIs Try.prog 68 [.d (encS l h), .d (i6 j), .fn (.func k) .anil (.acons (.ptr 0 []) .anil)] [(0, .box 33 (.d d0))] (tup2 zeroS (i6 (actE p l h j))) [(0, .box 33 (.d d0))] := by
  by_cases h1 : chkS l h = 0
  · cases h2 : outB l j with
    | true =>
      have e : actE p l h j = 1 := by rw [actE, if_neg (fun e => e h1), if_pos h2]
      rw [e]; exact change1_at k d0 l h j h1 h2
    | false =>
      obtain ⟨f, hf⟩ := outB_get h2
      have e : actE p l h j = if p f = true then 0 else 10 := by rw [actE, if_neg (fun e => e h1), if_neg (by rw [h2]; exact fun e => by cases e), hf]
      cases hp : p f with
      | true => rw [hp, if_pos rfl] at e; exact absurd e he
      | false =>
        rw [hp, if_neg (fun e => by cases e)] at e
        rw [e]; exact change1_no k d0 l h j h1 h2 _ _ (hk f hf) (by rw [hp]; rfl)
  · have e : actE p l h j = chkS l h := by rw [actE, if_pos h1]
    rw [e]; exact change1_err k d0 l h j h1
theorem change1_good (k : FuncId) (p : Frame → Bool) (g : Frame → Frame) (d0 : D) (l : List Frame) (h j : Int) (hk : ∀ f, l[j.toNat]? = some f → FnIs Try.prog k [.ptr 0 [.idx j.toNat 40], .ptr 1 []] [(0, .ds 39 40 true encFrame l), (1, .box 33 (.d d0))] (.bool (p f)) [(0, .ds 39 40 true encFrame (l.set j.toNat (g f))), (1, .box 33 (.d d0))]) (he : actE p l h j = 0) : FnIs Try.prog 68 [.d (encS l h), .d (i6 j), .fn (.func k) .anil (.acons (.ptr 0 []) .anil)] [(0, .box 33 (.d d0))] (.tup (.acons (ownS 64 l.length h) (.acons (.int .i64 0) .anil))) [(64, .ds 39 40 true encFrame (updL g l j)), (0, .box 33 (.d d0))] := by
  obtain ⟨h1, h2, f, hf, hp⟩ := actE_zero he
  have e : updL g l j = l.set j.toNat (g f) := by rw [updL, hf]
  rw [e]
  exact change1_ok k d0 l h j h1 h2 _ _ (by simp) (hk f hf) (by rw [hp]; rfl)
theorem change2_bad (k : FuncId) (p : Frame → Bool) (g : Frame → Frame) (d0 d1 : D) (l : List Frame) (h j : Int) (hk : ∀ f, l[j.toNat]? = some f → FnIs Try.prog k [.ptr 0 [.idx j.toNat 40], .ptr 1 [], .ptr 2 []] [(0, .ds 39 40 true encFrame l), (1, .box 37 (.d d0)), (2, .box 33 (.d d1))] (.bool (p f)) [(0, .ds 39 40 true encFrame (l.set j.toNat (g f))), (1, .box 37 (.d d0)), (2, .box 33 (.d d1))]) (he : actE p l h j ≠ 0) : FnIs Try.prog 68 [.d (encS l h), .d (i6 j), .fn (.func k) .anil (.acons (.ptr 0 []) (.acons (.ptr 1 []) .anil))] [(0, .box 37 (.d d0)), (1, .box 33 (.d d1))] (tup2 zeroS (i6 (actE p l h j))) [(0, .box 37 (.d d0)), (1, .box 33 (.d d1))] := by
  by_cases h1 : chkS l h = 0
  · cases h2 : outB l j with
    | true =>
      have e : actE p l h j = 1 := by rw [actE, if_neg (fun e => e h1), if_pos h2]
      rw [e]; exact change2_at k d0 d1 l h j h1 h2
    | false =>
      obtain ⟨f, hf⟩ := outB_get h2
      have e : actE p l h j = if p f = true then 0 else 10 := by rw [actE, if_neg (fun e => e h1), if_neg (by rw [h2]; exact fun e => by cases e), hf]
      cases hp : p f with
      | true => rw [hp, if_pos rfl] at e; exact absurd e he
      | false =>
        rw [hp, if_neg (fun e => by cases e)] at e
        rw [e]; exact change2_no k d0 d1 l h j h1 h2 _ _ (hk f hf) (by rw [hp]; rfl)
  · have e : actE p l h j = chkS l h := by rw [actE, if_pos h1]
    rw [e]; exact change2_err k d0 d1 l h j h1
theorem change2_good (k : FuncId) (p : Frame → Bool) (g : Frame → Frame) (d0 d1 : D) (l : List Frame) (h j : Int) (hk : ∀ f, l[j.toNat]? = some f → FnIs Try.prog k [.ptr 0 [.idx j.toNat 40], .ptr 1 [], .ptr 2 []] [(0, .ds 39 40 true encFrame l), (1, .box 37 (.d d0)), (2, .box 33 (.d d1))] (.bool (p f)) [(0, .ds 39 40 true encFrame (l.set j.toNat (g f))), (1, .box 37 (.d d0)), (2, .box 33 (.d d1))]) (he : actE p l h j = 0) : FnIs Try.prog 68 [.d (encS l h), .d (i6 j), .fn (.func k) .anil (.acons (.ptr 0 []) (.acons (.ptr 1 []) .anil))] [(0, .box 37 (.d d0)), (1, .box 33 (.d d1))] (.tup (.acons (ownS 64 l.length h) (.acons (.int .i64 0) .anil))) [(64, .ds 39 40 true encFrame (updL g l j)), (0, .box 37 (.d d0)), (1, .box 33 (.d d1))] := by
  obtain ⟨h1, h2, f, hf, hp⟩ := actE_zero he
  have e : updL g l j = l.set j.toNat (g f) := by rw [updL, hf]
  rw [e]
  exact change2_ok k d0 d1 l h j h1 h2 _ _ (by simp) (hk f hf) (by rw [hp]; rfl)
def dropP : Frame → Bool := fun f => f.used && !f.dirty && !f.busy
def dropG : Frame → Frame := fun _ => zeroFrame
theorem drop_bad (l : List Frame) (h j : Int) (he : actE dropP l h j ≠ 0) : FnIs Try.prog 38 [.d (encS l h), .d (i6 j)] [] (tup2 zeroS (i6 (actE dropP l h j))) [] := by
  refine fnIs_of tab_ok Try.func38 rfl rfl rfl ?_
  refine wc_seq ?_
  refine wc_region ?_
  refine reg_new (step_C tab_ok (fun K hk => hk)) rfl ?_
  refine reg_new (step_C tab_ok (fun K hk => hk)) rfl ?_
  refine reg_quiet rfl (step_C tab_ok (fun K hk => hk)) ?_
  refine reg_nil ?_
  refine seq_n ?_
  refine wc_seq ?_
  refine wc_region ?_
  refine reg_quiet rfl (load_box tab_ok rfl rfl rfl rfl) ?_
  refine reg_quiet rfl (step_C tab_ok (fun K hk => hk)) ?_
  refine reg_quiet rfl (call_r (change0_bad 69 dropP (dropG) l h j (fun f hf => drop1_is l j.toNat f hf) he) rfl rfl (arg_e (arg_e (arg_fn arg_nil))) (.inl rfl) (fun _ => rfl)) ?_
  refine reg_quiet rfl (step_C tab_ok (fun K hk => hk)) ?_
  refine reg_quiet rfl (step_C tab_ok (fun K hk => hk)) ?_
  refine reg_store (store_row tab_ok rfl rfl rfl ⟨_, ⟨rfl, rfl, rfl⟩, rfl⟩ rfl) ?_
  refine reg_quiet rfl (step_C tab_ok (fun K hk => hk)) ?_
  refine reg_nil ?_
  refine seq_n ?_
  refine wc_ret ?_
  exact ⟨trivial, _, rfl, [], .of rfl rfl rfl rfl rfl ⟨⟨_, rfl, AVLe.of_eq rfl⟩, rfl, trivial⟩ trivial⟩
theorem drop_good (l : List Frame) (h j : Int) (he : actE dropP l h j = 0) : FnIs Try.prog 38 [.d (encS l h), .d (i6 j)] [] (.tup (.acons (ownS 64 l.length h) (.acons (.int .i64 0) .anil))) [(64, .ds 39 40 true encFrame (updL (dropG) l j))] := by
  refine fnIs_of tab_ok Try.func38 rfl rfl rfl ?_
  refine wc_seq ?_
  refine wc_region ?_
  refine reg_new (step_C tab_ok (fun K hk => hk)) rfl ?_
  refine reg_new (step_C tab_ok (fun K hk => hk)) rfl ?_
  refine reg_quiet rfl (step_C tab_ok (fun K hk => hk)) ?_
  refine reg_nil ?_
  refine seq_n ?_
  refine wc_seq ?_
  refine wc_region ?_
  refine reg_quiet rfl (load_box tab_ok rfl rfl rfl rfl) ?_
  refine reg_quiet rfl (step_C tab_ok (fun K hk => hk)) ?_
  refine reg_new (call_new (change0_good 69 dropP (dropG) l h j (fun f hf => drop1_is l j.toNat f hf) he) rfl rfl (arg_e (arg_e (arg_fn arg_nil))) (.inl rfl) rfl rfl) rfl ?_
  refine reg_quiet rfl (step_C tab_ok (fun K hk => hk)) ?_
  refine reg_quiet rfl (step_C tab_ok (fun K hk => hk)) ?_
  refine reg_store (store_row tab_ok rfl rfl rfl ⟨_, ⟨rfl, rfl, rfl⟩, rfl⟩ rfl) ?_
  refine reg_quiet rfl (step_C tab_ok (fun K hk => hk)) ?_
  refine reg_nil ?_
  refine seq_n ?_
  refine wc_ret ?_
  exact ⟨trivial, _, rfl, [(64, some 104)], .of rfl rfl rfl rfl rfl ⟨⟨_, rfl, AVLe.of_eq rfl⟩, rfl, trivial⟩ ⟨⟨rfl, rfl, _, rfl, .refl _⟩, trivial⟩⟩
def cleanP : Frame → Bool := fun f => f.busy
def cleanG : Frame → Frame := fun f => { f with busy := false, dirty := false, nonce := zeroNonce }
theorem clean_bad (l : List Frame) (h j : Int) (he : actE cleanP l h j ≠ 0) : FnIs Try.prog 67 [.d (encS l h), .d (i6 j)] [] (tup2 zeroS (i6 (actE cleanP l h j))) [] := by
  refine fnIs_of tab_ok Try.func67 rfl rfl rfl ?_
  refine wc_seq ?_
  refine wc_region ?_
  refine reg_new (step_C tab_ok (fun K hk => hk)) rfl ?_
  refine reg_new (step_C tab_ok (fun K hk => hk)) rfl ?_
  refine reg_quiet rfl (step_C tab_ok (fun K hk => hk)) ?_
  refine reg_nil ?_
  refine seq_n ?_
  refine wc_seq ?_
  refine wc_region ?_
  refine reg_quiet rfl (load_box tab_ok rfl rfl rfl rfl) ?_
  refine reg_quiet rfl (step_C tab_ok (fun K hk => hk)) ?_
  refine reg_quiet rfl (call_r (change0_bad 82 cleanP (cleanG) l h j (fun f hf => clean1_is l j.toNat f hf) he) rfl rfl (arg_e (arg_e (arg_fn arg_nil))) (.inl rfl) (fun _ => rfl)) ?_
  refine reg_quiet rfl (step_C tab_ok (fun K hk => hk)) ?_
  refine reg_quiet rfl (step_C tab_ok (fun K hk => hk)) ?_
  refine reg_store (store_row tab_ok rfl rfl rfl ⟨_, ⟨rfl, rfl, rfl⟩, rfl⟩ rfl) ?_
  refine reg_quiet rfl (step_C tab_ok (fun K hk => hk)) ?_
  refine reg_nil ?_
  refine seq_n ?_
  refine wc_ret ?_
  exact ⟨trivial, _, rfl, [], .of rfl rfl rfl rfl rfl ⟨⟨_, rfl, AVLe.of_eq rfl⟩, rfl, trivial⟩ trivial⟩
theorem clean_good (l : List Frame) (h j : Int) (he : actE cleanP l h j = 0) : FnIs Try.prog 67 [.d (encS l h), .d (i6 j)] [] (.tup (.acons (ownS 64 l.length h) (.acons (.int .i64 0) .anil))) [(64, .ds 39 40 true encFrame (updL (cleanG) l j))] := by
  refine fnIs_of tab_ok Try.func67 rfl rfl rfl ?_
  refine wc_seq ?_
  refine wc_region ?_
  refine reg_new (step_C tab_ok (fun K hk => hk)) rfl ?_
  refine reg_new (step_C tab_ok (fun K hk => hk)) rfl ?_
  refine reg_quiet rfl (step_C tab_ok (fun K hk => hk)) ?_
  refine reg_nil ?_
  refine seq_n ?_
  refine wc_seq ?_
  refine wc_region ?_
  refine reg_quiet rfl (load_box tab_ok rfl rfl rfl rfl) ?_
  refine reg_quiet rfl (step_C tab_ok (fun K hk => hk)) ?_
  refine reg_new (call_new (change0_good 82 cleanP (cleanG) l h j (fun f hf => clean1_is l j.toNat f hf) he) rfl rfl (arg_e (arg_e (arg_fn arg_nil))) (.inl rfl) rfl rfl) rfl ?_
  refine reg_quiet rfl (step_C tab_ok (fun K hk => hk)) ?_
  refine reg_quiet rfl (step_C tab_ok (fun K hk => hk)) ?_
  refine reg_store (store_row tab_ok rfl rfl rfl ⟨_, ⟨rfl, rfl, rfl⟩, rfl⟩ rfl) ?_
  refine reg_quiet rfl (step_C tab_ok (fun K hk => hk)) ?_
  refine reg_nil ?_
  refine seq_n ?_
  refine wc_ret ?_
  exact ⟨trivial, _, rfl, [(64, some 104)], .of rfl rfl rfl rfl rfl ⟨⟨_, rfl, AVLe.of_eq rfl⟩, rfl, trivial⟩ ⟨⟨rfl, rfl, _, rfl, .refl _⟩, trivial⟩⟩
def backP : Frame → Bool := fun f => f.busy
def backG : Frame → Frame := fun f => { f with busy := false }
theorem back_bad (l : List Frame) (h j : Int) (he : actE backP l h j ≠ 0) : FnIs Try.prog 77 [.d (encS l h), .d (i6 j)] [] (tup2 zeroS (i6 (actE backP l h j))) [] := by
  refine fnIs_of tab_ok Try.func77 rfl rfl rfl ?_
  refine wc_seq ?_
  refine wc_region ?_
  refine reg_new (step_C tab_ok (fun K hk => hk)) rfl ?_
  refine reg_new (step_C tab_ok (fun K hk => hk)) rfl ?_
  refine reg_quiet rfl (step_C tab_ok (fun K hk => hk)) ?_
  refine reg_nil ?_
  refine seq_n ?_
  refine wc_seq ?_
  refine wc_region ?_
  refine reg_quiet rfl (load_box tab_ok rfl rfl rfl rfl) ?_
  refine reg_quiet rfl (step_C tab_ok (fun K hk => hk)) ?_
  refine reg_quiet rfl (call_r (change0_bad 86 backP (backG) l h j (fun f hf => back1_is l j.toNat f hf) he) rfl rfl (arg_e (arg_e (arg_fn arg_nil))) (.inl rfl) (fun _ => rfl)) ?_
  refine reg_quiet rfl (step_C tab_ok (fun K hk => hk)) ?_
  refine reg_quiet rfl (step_C tab_ok (fun K hk => hk)) ?_
  refine reg_store (store_row tab_ok rfl rfl rfl ⟨_, ⟨rfl, rfl, rfl⟩, rfl⟩ rfl) ?_
  refine reg_quiet rfl (step_C tab_ok (fun K hk => hk)) ?_
  refine reg_nil ?_
  refine seq_n ?_
  refine wc_ret ?_
  exact ⟨trivial, _, rfl, [], .of rfl rfl rfl rfl rfl ⟨⟨_, rfl, AVLe.of_eq rfl⟩, rfl, trivial⟩ trivial⟩
theorem back_good (l : List Frame) (h j : Int) (he : actE backP l h j = 0) : FnIs Try.prog 77 [.d (encS l h), .d (i6 j)] [] (.tup (.acons (ownS 64 l.length h) (.acons (.int .i64 0) .anil))) [(64, .ds 39 40 true encFrame (updL (backG) l j))] := by
  refine fnIs_of tab_ok Try.func77 rfl rfl rfl ?_
  refine wc_seq ?_
  refine wc_region ?_
  refine reg_new (step_C tab_ok (fun K hk => hk)) rfl ?_
  refine reg_new (step_C tab_ok (fun K hk => hk)) rfl ?_
  refine reg_quiet rfl (step_C tab_ok (fun K hk => hk)) ?_
  refine reg_nil ?_
  refine seq_n ?_
  refine wc_seq ?_
  refine wc_region ?_
  refine reg_quiet rfl (load_box tab_ok rfl rfl rfl rfl) ?_
  refine reg_quiet rfl (step_C tab_ok (fun K hk => hk)) ?_
  refine reg_new (call_new (change0_good 86 backP (backG) l h j (fun f hf => back1_is l j.toNat f hf) he) rfl rfl (arg_e (arg_e (arg_fn arg_nil))) (.inl rfl) rfl rfl) rfl ?_
  refine reg_quiet rfl (step_C tab_ok (fun K hk => hk)) ?_
  refine reg_quiet rfl (step_C tab_ok (fun K hk => hk)) ?_
  refine reg_store (store_row tab_ok rfl rfl rfl ⟨_, ⟨rfl, rfl, rfl⟩, rfl⟩ rfl) ?_
  refine reg_quiet rfl (step_C tab_ok (fun K hk => hk)) ?_
  refine reg_nil ?_
  refine seq_n ?_
  refine wc_ret ?_
  exact ⟨trivial, _, rfl, [(64, some 104)], .of rfl rfl rfl rfl rfl ⟨⟨_, rfl, AVLe.of_eq rfl⟩, rfl, trivial⟩ ⟨⟨rfl, rfl, _, rfl, .refl _⟩, trivial⟩⟩
def hitP : Frame → Bool := fun f => f.used && !f.loading
def hitG : Frame → Frame := fun f => { f with ref := true }
theorem hit_bad (l : List Frame) (h j : Int) (he : actE hitP l h j ≠ 0) : FnIs Try.prog 76 [.d (encS l h), .d (i6 j)] [] (tup2 zeroS (i6 (actE hitP l h j))) [] := by
  refine fnIs_of tab_ok Try.func76 rfl rfl rfl ?_
  refine wc_seq ?_
  refine wc_region ?_
  refine reg_new (step_C tab_ok (fun K hk => hk)) rfl ?_
  refine reg_new (step_C tab_ok (fun K hk => hk)) rfl ?_
  refine reg_quiet rfl (step_C tab_ok (fun K hk => hk)) ?_
  refine reg_nil ?_
  refine seq_n ?_
  refine wc_seq ?_
  refine wc_region ?_
  refine reg_quiet rfl (load_box tab_ok rfl rfl rfl rfl) ?_
  refine reg_quiet rfl (step_C tab_ok (fun K hk => hk)) ?_
  refine reg_quiet rfl (call_r (change0_bad 85 hitP (hitG) l h j (fun f hf => hit1_is l j.toNat f hf) he) rfl rfl (arg_e (arg_e (arg_fn arg_nil))) (.inl rfl) (fun _ => rfl)) ?_
  refine reg_quiet rfl (step_C tab_ok (fun K hk => hk)) ?_
  refine reg_quiet rfl (step_C tab_ok (fun K hk => hk)) ?_
  refine reg_store (store_row tab_ok rfl rfl rfl ⟨_, ⟨rfl, rfl, rfl⟩, rfl⟩ rfl) ?_
  refine reg_quiet rfl (step_C tab_ok (fun K hk => hk)) ?_
  refine reg_nil ?_
  refine seq_n ?_
  refine wc_ret ?_
  exact ⟨trivial, _, rfl, [], .of rfl rfl rfl rfl rfl ⟨⟨_, rfl, AVLe.of_eq rfl⟩, rfl, trivial⟩ trivial⟩
theorem hit_good (l : List Frame) (h j : Int) (he : actE hitP l h j = 0) : FnIs Try.prog 76 [.d (encS l h), .d (i6 j)] [] (.tup (.acons (ownS 64 l.length h) (.acons (.int .i64 0) .anil))) [(64, .ds 39 40 true encFrame (updL (hitG) l j))] := by
  refine fnIs_of tab_ok Try.func76 rfl rfl rfl ?_
  refine wc_seq ?_
  refine wc_region ?_
  refine reg_new (step_C tab_ok (fun K hk => hk)) rfl ?_
  refine reg_new (step_C tab_ok (fun K hk => hk)) rfl ?_
  refine reg_quiet rfl (step_C tab_ok (fun K hk => hk)) ?_
  refine reg_nil ?_
  refine seq_n ?_
  refine wc_seq ?_
  refine wc_region ?_
  refine reg_quiet rfl (load_box tab_ok rfl rfl rfl rfl) ?_
  refine reg_quiet rfl (step_C tab_ok (fun K hk => hk)) ?_
  refine reg_new (call_new (change0_good 85 hitP (hitG) l h j (fun f hf => hit1_is l j.toNat f hf) he) rfl rfl (arg_e (arg_e (arg_fn arg_nil))) (.inl rfl) rfl rfl) rfl ?_
  refine reg_quiet rfl (step_C tab_ok (fun K hk => hk)) ?_
  refine reg_quiet rfl (step_C tab_ok (fun K hk => hk)) ?_
  refine reg_store (store_row tab_ok rfl rfl rfl ⟨_, ⟨rfl, rfl, rfl⟩, rfl⟩ rfl) ?_
  refine reg_quiet rfl (step_C tab_ok (fun K hk => hk)) ?_
  refine reg_nil ?_
  refine seq_n ?_
  refine wc_ret ?_
  exact ⟨trivial, _, rfl, [(64, some 104)], .of rfl rfl rfl rfl rfl ⟨⟨_, rfl, AVLe.of_eq rfl⟩, rfl, trivial⟩ ⟨⟨rfl, rfl, _, rfl, .refl _⟩, trivial⟩⟩
def installP : Frame → Bool := fun f => f.loading
def installG (data : List Int) : Frame → Frame := fun f => { f with data := data, loading := false, ref := true }
theorem install_bad (data : List Int) (l : List Frame) (h j : Int) (he : actE installP l h j ≠ 0) : FnIs Try.prog 75 [.d (encS l h), .d (i6 j), .d (encBlock data)] [] (tup2 zeroS (i6 (actE installP l h j))) [] := by
  refine fnIs_of tab_ok Try.func75 rfl rfl rfl ?_
  refine wc_seq ?_
  refine wc_region ?_
  refine reg_new (step_C tab_ok (fun K hk => hk)) rfl ?_
  refine reg_new (step_C tab_ok (fun K hk => hk)) rfl ?_
  refine reg_new (step_C tab_ok (fun K hk => hk)) rfl ?_
  refine reg_quiet rfl (step_C tab_ok (fun K hk => hk)) ?_
  refine reg_nil ?_
  refine seq_n ?_
  refine wc_seq ?_
  refine wc_region ?_
  refine reg_quiet rfl (load_box tab_ok rfl rfl rfl rfl) ?_
  refine reg_quiet rfl (step_C tab_ok (fun K hk => hk)) ?_
  refine reg_quiet rfl (step_C tab_ok (fun K hk => hk)) ?_
  refine reg_new2 (call_h [(0, some 72)] (change1_bad 84 installP (installG data) (encBlock data) l h j (fun f hf => install1_is data l j.toNat f hf) he) rfl rfl rfl (arg_e (arg_e (arg_fn1 rfl rfl arg_nil))) ⟨⟨rfl, rfl, _, _, rfl, rfl, .refl _⟩, trivial⟩ rfl rfl (.inl rfl) rfl rfl) rfl ?_
  refine reg_quiet rfl (step_C tab_ok (fun K hk => hk)) ?_
  refine reg_quiet rfl (step_C tab_ok (fun K hk => hk)) ?_
  refine reg_store (store_row tab_ok rfl rfl rfl ⟨_, ⟨rfl, rfl, rfl⟩, rfl⟩ rfl) ?_
  refine reg_quiet rfl (step_C tab_ok (fun K hk => hk)) ?_
  refine reg_nil ?_
  refine seq_n ?_
  refine wc_ret ?_
  exact ⟨trivial, _, rfl, [], .of rfl rfl rfl rfl rfl ⟨⟨_, rfl, AVLe.of_eq rfl⟩, rfl, trivial⟩ trivial⟩
theorem install_good (data : List Int) (l : List Frame) (h j : Int) (he : actE installP l h j = 0) : FnIs Try.prog 75 [.d (encS l h), .d (i6 j), .d (encBlock data)] [] (.tup (.acons (ownS 64 l.length h) (.acons (.int .i64 0) .anil))) [(64, .ds 39 40 true encFrame (updL (installG data) l j))] := by
  refine fnIs_of tab_ok Try.func75 rfl rfl rfl ?_
  refine wc_seq ?_
  refine wc_region ?_
  refine reg_new (step_C tab_ok (fun K hk => hk)) rfl ?_
  refine reg_new (step_C tab_ok (fun K hk => hk)) rfl ?_
  refine reg_new (step_C tab_ok (fun K hk => hk)) rfl ?_
  refine reg_quiet rfl (step_C tab_ok (fun K hk => hk)) ?_
  refine reg_nil ?_
  refine seq_n ?_
  refine wc_seq ?_
  refine wc_region ?_
  refine reg_quiet rfl (load_box tab_ok rfl rfl rfl rfl) ?_
  refine reg_quiet rfl (step_C tab_ok (fun K hk => hk)) ?_
  refine reg_quiet rfl (step_C tab_ok (fun K hk => hk)) ?_
  refine reg_do rfl (call_h [(0, some 72)] (change1_good 84 installP (installG data) (encBlock data) l h j (fun f hf => install1_is data l j.toNat f hf) he) rfl rfl rfl (arg_e (arg_e (arg_fn1 rfl rfl arg_nil))) ⟨⟨rfl, rfl, _, _, rfl, rfl, .refl _⟩, trivial⟩ rfl rfl (.inl rfl) rfl rfl) rfl rfl ?_
  refine reg_quiet rfl (step_C tab_ok (fun K hk => hk)) ?_
  refine reg_quiet rfl (step_C tab_ok (fun K hk => hk)) ?_
  refine reg_store (store_row tab_ok rfl rfl rfl ⟨_, ⟨rfl, rfl, rfl⟩, rfl⟩ rfl) ?_
  refine reg_quiet rfl (step_C tab_ok (fun K hk => hk)) ?_
  refine reg_nil ?_
  refine seq_n ?_
  refine wc_ret ?_
  exact ⟨trivial, _, rfl, [(64, some 120)], .of rfl rfl rfl rfl rfl ⟨⟨_, rfl, AVLe.of_eq rfl⟩, rfl, trivial⟩ ⟨⟨rfl, rfl, _, rfl, .refl _⟩, trivial⟩⟩
def writeP : Frame → Bool := fun f => f.used && !f.loading && !f.busy
def writeG (data : List Int) (n : Nonce) : Frame → Frame := wr data n
theorem write_bad (data : List Int) (n : Nonce) (l : List Frame) (h j : Int) (he : actE writeP l h j ≠ 0) : FnIs Try.prog 66 [.d (encS l h), .d (i6 j), .d (encBlock data), .d (encNonce n)] [] (tup2 zeroS (i6 (actE writeP l h j))) [] := by
  refine fnIs_of tab_ok Try.func66 rfl rfl rfl ?_
  refine wc_seq ?_
  refine wc_region ?_
  refine reg_new (step_C tab_ok (fun K hk => hk)) rfl ?_
  refine reg_new (step_C tab_ok (fun K hk => hk)) rfl ?_
  refine reg_new (step_C tab_ok (fun K hk => hk)) rfl ?_
  refine reg_new (step_C tab_ok (fun K hk => hk)) rfl ?_
  refine reg_quiet rfl (step_C tab_ok (fun K hk => hk)) ?_
  refine reg_nil ?_
  refine seq_n ?_
  refine wc_seq ?_
  refine wc_region ?_
  refine reg_quiet rfl (load_box tab_ok rfl rfl rfl rfl) ?_
  refine reg_quiet rfl (step_C tab_ok (fun K hk => hk)) ?_
  refine reg_quiet rfl (step_C tab_ok (fun K hk => hk)) ?_
  refine reg_do rfl (call_h [(0, some 80), (1, some 72)] (change2_bad 81 writeP (writeG data n) (encNonce n) (encBlock data) l h j (fun f hf => write1_is data n l j.toNat f hf) he) rfl rfl rfl (arg_e (arg_e (arg_fn2 rfl rfl rfl rfl arg_nil))) ⟨⟨rfl, rfl, _, _, rfl, rfl, .refl _⟩, ⟨rfl, rfl, _, _, rfl, rfl, .refl _⟩, trivial⟩ rfl rfl (.inl rfl) rfl rfl) rfl rfl ?_
  refine reg_quiet rfl (step_C tab_ok (fun K hk => hk)) ?_
  refine reg_quiet rfl (step_C tab_ok (fun K hk => hk)) ?_
  refine reg_store (store_row tab_ok rfl rfl rfl ⟨_, ⟨rfl, rfl, rfl⟩, rfl⟩ rfl) ?_
  refine reg_quiet rfl (step_C tab_ok (fun K hk => hk)) ?_
  refine reg_nil ?_
  refine seq_n ?_
  refine wc_ret ?_
  exact ⟨trivial, _, rfl, [], .of rfl rfl rfl rfl rfl ⟨⟨_, rfl, AVLe.of_eq rfl⟩, rfl, trivial⟩ trivial⟩
theorem write_good (data : List Int) (n : Nonce) (l : List Frame) (h j : Int) (he : actE writeP l h j = 0) : FnIs Try.prog 66 [.d (encS l h), .d (i6 j), .d (encBlock data), .d (encNonce n)] [] (.tup (.acons (ownS 64 l.length h) (.acons (.int .i64 0) .anil))) [(64, .ds 39 40 true encFrame (updL (writeG data n) l j))] := by
  refine fnIs_of tab_ok Try.func66 rfl rfl rfl ?_
  refine wc_seq ?_
  refine wc_region ?_
  refine reg_new (step_C tab_ok (fun K hk => hk)) rfl ?_
  refine reg_new (step_C tab_ok (fun K hk => hk)) rfl ?_
  refine reg_new (step_C tab_ok (fun K hk => hk)) rfl ?_
  refine reg_new (step_C tab_ok (fun K hk => hk)) rfl ?_
  refine reg_quiet rfl (step_C tab_ok (fun K hk => hk)) ?_
  refine reg_nil ?_
  refine seq_n ?_
  refine wc_seq ?_
  refine wc_region ?_
  refine reg_quiet rfl (load_box tab_ok rfl rfl rfl rfl) ?_
  refine reg_quiet rfl (step_C tab_ok (fun K hk => hk)) ?_
  refine reg_quiet rfl (step_C tab_ok (fun K hk => hk)) ?_
  refine reg_do rfl (call_h [(0, some 80), (1, some 72)] (change2_good 81 writeP (writeG data n) (encNonce n) (encBlock data) l h j (fun f hf => write1_is data n l j.toNat f hf) he) rfl rfl rfl (arg_e (arg_e (arg_fn2 rfl rfl rfl rfl arg_nil))) ⟨⟨rfl, rfl, _, _, rfl, rfl, .refl _⟩, ⟨rfl, rfl, _, _, rfl, rfl, .refl _⟩, trivial⟩ rfl rfl (.inl rfl) rfl rfl) rfl rfl ?_
  refine reg_quiet rfl (step_C tab_ok (fun K hk => hk)) ?_
  refine reg_quiet rfl (step_C tab_ok (fun K hk => hk)) ?_
  refine reg_store (store_row tab_ok rfl rfl rfl ⟨_, ⟨rfl, rfl, rfl⟩, rfl⟩ rfl) ?_
  refine reg_quiet rfl (step_C tab_ok (fun K hk => hk)) ?_
  refine reg_nil ?_
  refine seq_n ?_
  refine wc_ret ?_
  exact ⟨trivial, _, rfl, [(64, some 128)], .of rfl rfl rfl rfl rfl ⟨⟨_, rfl, AVLe.of_eq rfl⟩, rfl, trivial⟩ ⟨⟨rfl, rfl, _, rfl, .refl _⟩, trivial⟩⟩
end Go.Proofs.Ytmdfeekpehcieaa
