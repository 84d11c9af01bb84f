/- Texts of the proof: Eng62, Eng63, Eng64, Eng65, Eng66, Eng67, Eng68, ZJP, ZJQ, PTab, Eng69, Eng70, Eng71, PT, PP, PP2, PR, PDat, P1, P2, PL, Eng72, Eng73, TryzPlain, P3, P4, Eng74, P5, PU, P6, PW. -/
import Derived.Test.YthiijfbcfoifnaaGreatDoorG02
import Derived.Lib.Builder
import Derived.Lib.UnsafeStr
import Derived.Test.YthiijfbcfoifnaaGreatDoorRows
import Derived.ProofKit
import Derived.LaidMore
import Derived.OpenShut
import Derived.Stop.Joined
import Derived.HandedShaped
import Derived.Shelf.Vars
import Derived.Lay
import Derived.SevenTiedAt
import Derived.Test.YthiijfbcfoifnaaGreatDoorChecked
import Derived.Test.YthiijfbcfoifnaaGreatDoorG01
import Derived.KernelRfl
import Derived.Lib.AppendStr
import Derived.Lib.DecodeN
import Derived.Lib.ItoaMem
import Derived.Lib.ParseIntB
import Derived.Lib.ParseIntBCases
import Derived.Lib.Split
import Derived.Lib.CountLaws
import Derived.Lib.CutLaws
import Derived.Lib.IndexBytes
import Derived.Shelf.Strings.Builder1
import Derived.Shelf.Small.Strs
import Derived.Shelf.Strconv.Atoi
import Derived.Shelf.Strconv.Itoa0
import Derived.Shelf.Strconv.Itoa1
import Derived.Shelf.LaysM
import Derived.Shelf.Strconv.Itoa2
import Derived.Shelf.Strconv.Itoa3
import Derived.Shelf.Strconv.AtoiErrFast
import Derived.Shelf.Strconv.ParseIntEmpty
import Derived.Shelf.Strconv.AtoiFail
import Derived.Shelf.Strconv.Clone
import Derived.Shelf.Strconv.SyntaxError
import Derived.Shelf.LaysC
import Derived.Shelf.Strconv.ToError
import Derived.Shelf.Strconv.Lower
import Derived.Shelf.Strconv.ParseUint10
import Derived.Shelf.Strconv.ParseUint10Empty
import Derived.Shelf.Strconv.ParseUint10Any
import Derived.Shelf.Strconv.ParseInt10
import Derived.Shelf.Strconv.AtoiLong
import Derived.Shelf.Strconv.AtoiInnerAll
import Derived.Shelf.Strconv.RangeError
import Derived.Shelf.Strconv.ToErrorRange
import Derived.Shelf.Strconv.AtoiAll
import Derived.Ground.MpProg
import Derived.Shelf.Pu.ParseUintPublic10
import Derived.Shelf.Strings.Search1
import Derived.Shelf.Strings.Search2
import Derived.Shelf.Strings.Search3
import Derived.Shelf.Strings.Cut
import Derived.Shelf.Strings.Count
import Derived.Shelf.Strings.Shaped
import Derived.Shelf.Strings.Prefix
import Derived.Shelf.Strings.Split
import Derived.Shelf.Strings.SplitShaped
import Derived.Shelf.Unicode.DecodeSlow
import Derived.Shelf.Bytes.SlEqualAll
import Derived.Shelf.Bytes.Small
import Derived.Test.YthiijfbcfoifnaaGreatDoorProg
import Derived.Lib.SmallJoins
import Derived.Lib.IndexLaws

set_option linter.unusedVariables false
set_option linter.unusedSimpArgs false
set_option linter.unusedSectionVars false

set_option linter.unusedSimpArgs false
set_option linter.unusedVariables false
namespace Go.Eng
open Go.RowKit
section
variable {C : Ctx} {w w' : World} {G : Nat → Prop} {st : St} {σ : Place} {a : Act}
theorem StRel.lose (h : StRel C G st σ w a) {r b c m : Nat} {row : Row} {cur : Array Value} {t : TypeId} {fr : Nat × Nat} (hr : st.row r = some row) (hs : σ r = some (b, c)) (hh : w.heap[b]? = some (.cells cur t fr)) :
  StRel C G (st.upd [(r, none)]) σ (w.freeze ⟨b, 0, none⟩ m) a := by
 have hrow : ∀ q, (st.upd [(r, none)]).row q = if r = q then none else st.row q := fun q => by
  simp only [St.upd, St.row, List.cons_append, List.nil_append, lk_cons]
  split <;> rfl
 have hX : ∀ q, (st.upd [(r, none)]).X C.X0 σ q → st.X C.X0 σ q := by
  rintro q (hx0 | ⟨r1, row1, c1, h1, h2⟩)
  ·exact .inl hx0
  ·rw [hrow] at h1
   split at h1
   ·cases h1
   ·exact .inr ⟨r1, row1, c1, h1, h2⟩
 have hB := h.high _ _ _ _ hr hs
 by_cases hm : m = 0
 ·subst hm
  have he : w.freeze ⟨b, 0, none⟩ 0 = w := by simp [World.freeze]
  rw [he]
  refine h.core (fun _ h => h) (fun _ _ => rfl) (fun a u h1 h2 => ⟨h1, fun hx => h2 (hX _ hx)⟩) rfl rfl rfl (fun q row' hq => ?_) (fun r1 r2 row1 row2 b' c1 c2 h1 h2 h3 h4 => ?_) (fun r1 row1 b' c1 h1 h2 => ?_) h.size ⟨rfl, rfl, rfl, Nat.le_refl _, fun _ _ _ => rfl, fun _ _ ho _ => ho ▸ rfl⟩
  ·rw [hrow] at hq
   split at hq
   ·cases hq
   ·exact .inl ⟨hq, fun _ _ _ => rfl⟩
  ·rw [hrow] at h1 h2
   split at h1
   ·cases h1
   split at h2
   ·cases h2
   exact h.inj _ _ _ _ _ _ _ h1 h2 h3 h4
  ·rw [hrow] at h1
   split at h1
   ·cases h1
   exact h.high _ _ _ _ h1 h2
 ·have hother : ∀ k, k ≠ b → (w.freeze ⟨b, 0, none⟩ m).heap[k]? = w.heap[k]? := by
   intro k hk
   simp only [World.freeze, if_neg hm, Array.getElem?_modify]
   rw [if_neg (Ne.symm hk)]
  have hsz : (w.freeze ⟨b, 0, none⟩ m).heap.size = w.heap.size := by simp [World.freeze, if_neg hm]
  refine h.core (fun _ h => h) (fun _ _ => rfl) (fun a u h1 h2 => ?_) rfl rfl rfl (fun q row' hq => ?_) (fun r1 r2 row1 row2 b' c1 c2 h1 h2 h3 h4 => ?_) (fun r1 row1 b' c1 h1 h2 => ?_) (by rw [hsz]; exact h.size) ?_
  ·have hne : a.block ≠ b := fun e => h2 (.inr ⟨r, row, c, hr, by rw [e]; exact hs⟩)
   exact ⟨by rw [World.cell?_of_block (hother _ hne)]; exact h1, fun hx => h2 (hX _ hx)⟩
  ·rw [hrow] at hq
   split at hq
   ·cases hq
   ·rename_i e
    exact .inl ⟨hq, fun b' c' hs' => hother _ (fun e' => e (by subst e'; exact (h.inj _ _ _ _ _ _ _ hq hr hs' hs).symm))⟩
  ·rw [hrow] at h1 h2
   split at h1
   ·cases h1
   split at h2
   ·cases h2
   exact h.inj _ _ _ _ _ _ _ h1 h2 h3 h4
  ·rw [hrow] at h1
   split at h1
   ·cases h1
   exact h.high _ _ _ _ h1 h2
  ·refine ⟨by simp [World.freeze, if_neg hm], by simp [World.freeze, if_neg hm], by simp [World.freeze, if_neg hm], by rw [hsz]; exact Nat.le_refl _, fun k hk hmk => hother k (by rintro rfl; rcases hB with hB | hB; exact absurd hk (by omega); exact hmk hB), fun k o2 ho hb => (hother k (by rintro rfl; rw [hh] at ho; cases ho; simp [isBook] at hb)).trans ho⟩
end
section
variable {P : Program} {T : Tab} {sz : Nat} {env : Env} {h : Upds} {n : Nat}
theorem box_shape {C : Ctx} {G : Nat → Prop} {st : St} {σ : Place} {w : World} {a : Act} (hst : StRel C G st σ w a) {r t : Nat} {v : AV} (hr : st.row r = some (.box t v)) (hf : v.flat = true) : ∃ b, σ r = some (b, 1) ∧ w.shape? b = some (t, v.size) := by
 obtain ⟨_, b, cur, h1, h2, h3⟩ := hst.rows r _ hr
 refine ⟨b, h1, ?_⟩
 have := Rel.len _ _ hf h3
 simp only [Array.length_toList] at this
 simp [World.shape?, h2, this]
theorem conv_ptr_to (hT : TabOk P T) {src dst t t' r : Nat} {re : TyR} {v : AV} {x : Operand} (hs : P.underlying src = some (.pointer t)) (hd : P.underlying dst = some .unsafePointer) (ht : lk T t = some re) (hj : Nat.blt 0 re.size = true) (hx : evalA env x = some (.ptr r [])) (hrow : lookH h r = some (.box t' v)) (hf : v.flat = true) (hv : Nat.blt 0 v.size = true) :
  StepIs P (.convert src dst x) env h n (some (.ptr r [])) [] := .of_comes fun C G st σ w a o ho hA hdst hst hn => by
 obtain ⟨hx1, hx2⟩ := ev_sound hst (hA.ev hx)
 obtain ⟨b, hσ, hsh⟩ := box_shape hst (hA.row _ _ hrow) hf
 obtain ⟨b', c, hσ', hv'⟩ := RelV.ptr.1 hx1
 rw [hσ] at hσ'
 cases hσ'
 refine .quiet (u := .pointer (some ⟨b, 0, none⟩)) hst hdst ⟨rfl, rfl⟩ ?_ (RelV.ptr.2 ⟨b, 1, hσ, rfl⟩) hx2
 obtain ⟨j, z, hj1, hj2, _⟩ := (hT t re ht).info
 have hj := Nat.le_of_ble_eq_true hj
 have hrun := Lib.run_to_unsafe (P := P) w ⟨b, 0, none⟩ hs hd hj1 (by omega) hsh (Nat.le_of_ble_eq_true hv)
 simp only [execOp, ho, hv', pathOff, Sem.run_bind, hrun, Result.andThen_ok, Sem.run_pure]
theorem conv_ptr_from (hT : TabOk P T) {src dst u t' r : Nat} {re : TyR} {v : AV} {x : Operand} (hs : P.underlying src = some .unsafePointer) (hd : P.underlying dst = some (.pointer u)) (hu : lk T u = some re) (hx : evalA env x = some (.ptr r [])) (hrow : lookH h r = some (.box t' v)) (hf : v.flat = true) (hl : liesAt P P.depth t' (v.size / P.cellsOf t') 0 u 1 = true) :
  StepIs P (.convert src dst x) env h n (some (.ptr r [])) [] := .of_comes fun C G st σ w a o ho hA hdst hst hn => by
 obtain ⟨hx1, hx2⟩ := ev_sound hst (hA.ev hx)
 obtain ⟨b, hσ, hsh⟩ := box_shape hst (hA.row _ _ hrow) hf
 obtain ⟨b', c, hσ', hv'⟩ := RelV.ptr.1 hx1
 rw [hσ] at hσ'
 cases hσ'
 refine .quiet (u := .pointer (some ⟨b, 0, none⟩)) hst hdst ⟨rfl, rfl⟩ ?_ (RelV.ptr.2 ⟨b, 1, hσ, rfl⟩) hx2
 obtain ⟨j, z, hj1, hj2, _⟩ := (hT u re hu).info
 have hrun := Lib.run_from_unsafe (P := P) w ⟨b, 0, none⟩ hs hd hj1 hsh hl
 simp only [execOp, ho, hv', pathOff, Sem.run_bind, hrun, Result.andThen_ok, Sem.run_pure]
theorem neq_self (hT : TabOk P T) {t t' e : Nat} {x y : Operand} {re : TyR} {r : Nat} (hud : P.underlying t = some (.pointer e)) (hj : lk T e = some re) (hx : evalA env x = some (.ptr r [])) (hy : evalA env y = some (.ptr r [])) :
  StepIs P (.binOp .neq t x y t') env h n (some (.bool false)) [] := .of_comes fun C G st σ w a o ho hA hdst hst hn => by
 obtain ⟨b, c, hσ, hv⟩ := RelV.ptr.1 (ev_sound hst (hA.ev hx)).1
 obtain ⟨b', c', hσ', hv'⟩ := RelV.ptr.1 (ev_sound hst (hA.ev hy)).1
 rw [hσ] at hσ'
 cases hσ'
 obtain ⟨j, z, hj1, hj2, _⟩ := (hT e re hj).info
 refine .quiet (u := .bool false) hst hdst ⟨rfl, rfl⟩ ?_ (RelV.sc.2 ⟨rfl, rfl⟩) trivial
 simp only [execOp, ho, hv, hv', Sem.run_bind, eqG, Result.andThen_ok, Lib.run_neq_ptr_same w _ hud hj1, Sem.run_pure]
theorem eql_ptr {t t' e : Nat} {x y : Operand} {r : Nat} {p : List Step} (hud : P.underlying t = some (.pointer e)) (hx : evalA env x = some (.ptr r p)) (hy : evalA env y = some (.d (.sc nilp))) :
  StepIs P (.binOp .eql t x y t') env h n (some (.bool false)) [] := .of_comes fun C G st σ w a o ho hA hdst hst hn => by
 obtain ⟨b, c, hσ, hv⟩ := RelV.ptr.1 (ev_sound hst (hA.ev hx)).1
 obtain ⟨hy1, _⟩ := RelV.sc.1 (ev_sound hst (hA.ev hy)).1
 refine .quiet (u := .bool false) hst hdst ⟨rfl, rfl⟩ ?_ (RelV.sc.2 ⟨rfl, rfl⟩) trivial
 simp only [execOp, ho, hv, hy1, Sem.run_bind, eqG, Result.andThen_ok, run_eql_ptr hud, Sem.run_pure, Option.isNone]
theorem slice_data {x : Operand} {at_ : Array TypeId} {r len : Nat} (hx : evalA env x = some (.own r 0 len 1 none)) (hl : 0 < len) :
  StepIs P (.call { callee := .builtin .unsafeSliceData, args := #[x], argTypes := at_ }) env h n (some (.ptr r [])) [] := .of_comes fun C G st σ w a o ho hA hdst hst hn => by
 obtain ⟨hx1, hx2⟩ := ev_sound hst (hA.ev hx)
 rcases RelV.own.1 hx1 with ⟨_, _, h0, _⟩ | ⟨b, c, ad, hσ, hv, h1, h2, h3, h4⟩
 ·omega
 have := h4 (by omega)
 subst this
 simp only [Option.getD_none, Nat.sub_zero, Nat.zero_mul] at hv
 refine .quiet (u := .pointer (some ⟨b, 0, none⟩)) hst hdst ⟨rfl, rfl⟩ ?_ (RelV.ptr.2 ⟨b, c, hσ, rfl⟩) hx2
 have hrun := Lib.run_unsafeSliceData_row (P := P) w at_ o.type ⟨b, 0, none⟩ len c (by omega)
 simp [execOp, ho, resolve, invoke, builtin, hv, hrun]
theorem slice_data_nil {x : Operand} {at_ : Array TypeId} (hx : evalA env x = some (.d (.sc nil_))) :
  StepIs P (.call { callee := .builtin .unsafeSliceData, args := #[x], argTypes := at_ }) env h n (some (.d (.sc nilp))) [] := .of_comes fun C G st σ w a o ho hA hdst hst hn => by
 obtain ⟨hv, _⟩ := RelV.sc.1 (ev_sound hst (hA.ev hx)).1
 refine .quiet (u := nilp) hst hdst ⟨rfl, rfl⟩ ?_ (RelV.sc.2 ⟨rfl, rfl⟩) trivial
 have hrun : (Builtin.unsafeSliceData_ at_ o.type #[nil_]).run P w = .ok nilp w := Lib.run_unsafeSliceData_nil (P := P) w at_ o.type 0 0
 simp [execOp, ho, resolve, invoke, builtin, hv, hrun]
theorem unsafe_str0 {x y : Operand} {tp ti : TypeId} (hx : evalA env x = some (.d (.sc nilp))) (hy : evalA env y = some (.int .i64 0)) :
  StepIs P (.call { callee := .builtin .unsafeString, args := #[x, y], argTypes := #[tp, ti] }) env h n (some (.d (strD []))) [] := .of_comes fun C G st σ w a o ho hA hdst hst hn => by
 obtain ⟨hv, _⟩ := RelV.sc.1 (ev_sound hst (hA.ev hx)).1
 obtain ⟨hv2, _⟩ := RelV.sc.1 (ev_sound hst (hA.ev hy)).1
 refine .quiet (u := .string (mkS [])) hst hdst ⟨rfl, rfl⟩ ?_ (RelV.sc.2 ⟨rfl, rfl⟩) trivial
 have hrun := Lib.run_unsafeString_none (P := P) w tp ti o.type none
 simp [execOp, ho, resolve, invoke, builtin, hv, hv2, hrun]
 rfl
theorem unsafe_str {x y : Operand} {tp ti e r : Nat} {ex : Bool} {l : List UInt8} {m : Nat} (hp : P.underlying tp = some (.pointer e)) (hc : P.cellsOf e = 1) (hx : evalA env x = some (.ptr r [])) (hrow : lookH h r = some (.ds e 1 ex encU8 (byI l))) (hy : evalA env y = some (.int .i64 m)) (hm : l.length = m) (h0 : l ≠ []) (h63 : l.length ≤ 9223372036854775807) :
  StepIs P (.call { callee := .builtin .unsafeString, args := #[x, y], argTypes := #[tp, ti] }) env h n (some (.d (strD l))) [(r, none)] := .of_comes fun C G st σ w a o ho hA hdst hst hn => by
 subst hm
 obtain ⟨b, c, hσ, hv⟩ := RelV.ptr.1 (ev_sound hst (hA.ev hx)).1
 obtain ⟨hv2, _⟩ := RelV.sc.1 (ev_sound hst (hA.ev hy)).1
 have hr := hA.row _ _ hrow
 have hlen : (byI l).length = l.length := by simp [byI]
 rcases hst.rows r _ hr with ⟨h1, _⟩ | ⟨b', c', cur, hσ', hex, hh, hcs, hle, hcm, f, hf, htk⟩
 ·rw [h1] at hσ; cases hσ
 rw [hσ] at hσ'
 cases hσ'
 have hsh : w.shape? b = some (e, cur.size) := by simp [World.shape?, hh]
 have hcell : ∀ j x, l[j]? = some x → w.cell? ((⟨b, 0, none⟩ : Addr).add j) = some (.int .u8 x.toNat) := by
  intro j x hj
  have hjl := (List.getElem?_eq_some_iff.1 hj).1
  have hj1 : j < (byI l).length := by rw [hlen]; exact hjl
  rw [add_mk, cell_of_row w b _ cur e (0, 0) hh, Nat.zero_add, ← Array.getElem?_toList]
  have h5 := cat_get (byI l).length (fun i hi => (hf i hi).2) j 0 hj1 (by omega)
  rw [← htk, List.getElem?_take, if_pos (by omega)] at h5
  simp only [Nat.mul_one, Nat.add_zero] at h5
  rw [h5]
  have h6 := (hf j hj1).1
  have h7 : (byI l)[j] = (x.toNat : Int) := by
   have := List.getElem?_eq_getElem hj1
   simp only [byI, List.getElem?_map, hj, Option.map_some, Option.some.injEq] at this
   exact this.symm
  rw [h7] at h6
  have h8 : f j = [.int .u8 x.toNat] := h6.1
  rw [h8]
  rfl
 have hrun := Lib.run_unsafeString_row (P := P) w tp ti o.type e hp hc b cur.size hsh l h0 (by rw [hcs, Nat.mul_one, ← hlen]; exact hle) h63 hcell
 refine ⟨_, _, .value (.string (mkS l)), _, _, σ, G, ⟨rfl, rfl⟩, ?_, .inl rfl, by rw [St.put_upd]; exact (hst.lose (m := l.length) hr hσ hh).set hdst (u := .string (mkS l)) (RelV.sc.2 ⟨rfl, rfl⟩) trivial, fun _ h => h, fun _ h => .inl h⟩
 simp only [pathOff] at hv
 simp [execOp, ho, resolve, invoke, builtin, hv, hv2, hrun, mkS]
/-! ### Frozen memory, sliced -/
def cutV (v : Value) (lo hi s : Nat) : Value := match v with
 | .slice a _ c => .slice (if c = lo then a else a.map (·.add (lo * s))) (hi - lo) (c - lo)
 | v => v
end
def dsAV : List D → AV
 | [] => .anil
 | d :: l => .acons (.d d) (dsAV l)
theorem dsAV_rel {σ : Place} {w : World} {X : Nat → Prop} {α : Type} {enc : α → D} : ∀ (xs : List α) (cs : List Value), Rel σ w X (dsAV (xs.map enc)) false cs → ∃ f : Nat → List Value, (∀ i (h : i < xs.length), Enc w X (enc xs[i]) (f i)) ∧ cs = cat f xs.length
 | [], cs, h => ⟨fun _ => [], fun i hi => absurd hi (Nat.not_lt_zero _), h⟩
 | x :: xs, cs, h => by
  obtain ⟨c1, c2, rfl, h1, h2⟩ := h
  obtain ⟨f, hf, rfl⟩ := dsAV_rel xs c2 h2
  refine ⟨fun i => if i = 0 then c1 else f (i - 1), fun i hi => ?_, ?_⟩
  ·cases i with
   | zero => exact h1
   | succ i => simpa using hf i (by simpa using hi)
  ·rw [List.length_cons, Nat.add_comm xs.length 1, cat_add 1]
   simp only [cat, List.nil_append, if_true]
   congr 1
   exact cat_congr _ fun i hi => by simp [Nat.add_comm 1 i]
section
variable {r : Nat} {row : Row}
theorem Frz.litsN {t s m : Nat} {ex : Bool} {α : Type} {enc : α → D} (xs : List α) {cap : Option Nat} (hm : xs.length = m) (hs : ∀ x ∈ xs, (enc x).size = s) : Frz r (.lits t s m ex (dsAV (xs.map enc))) (.own r 0 m s cap) (.d (.arr s enc xs)) := by
 subst hm
 refine ⟨rfl, fun _ => rfl, fun _ _ => trivial, fun σ w X X' hx hn hr cs h => ?_⟩
 rcases h with ⟨h0, _, hl, _, rfl⟩ | ⟨b, c, ad, hb, rfl, hle1, hle2, hle3, had⟩
 ·exact .inl ⟨List.eq_nil_of_length_eq_zero hl, rfl⟩
 ·rcases hr with ⟨_, ⟨h0, h1⟩ | ⟨b', c', cur, cs', hb', _, hh, hsz, hlen, hmax, hcl, hrel, htake⟩⟩
  ·rw [hb] at h0; cases h0
  ·rw [hb] at hb'
   cases hb'
   obtain ⟨f, hf, rfl⟩ := dsAV_rel xs _ hrel
   have hfl : ∀ i, i < xs.length → (f i).length = s := fun i hi => by rw [← hs _ (List.getElem_mem hi)]; exact Enc.len _ _ (hf i hi)
   refine .inr ⟨ad, cap.getD (c - 0), rfl, hle3, by omega, f, fun i hi => ?_⟩
   have hoff : ad = ⟨b, 0 * s, none⟩ := had (by omega)
   subst hoff
   refine ⟨Enc.sub hx _ _ (hf i hi), hfl i hi, fun j u hj => ⟨?_, hn b c hb⟩⟩
   rw [add_mk, cell_of_row w b _ cur t (0, 0) hh]
   have hjs : j < s := by rw [← hfl i hi]; exact (List.getElem?_eq_some_iff.1 hj).1
   have hcg := cat_get (f := f) (s := s) xs.length hfl i j hi hjs
   have hlt2 : i * s + j < xs.length * s := by
    have : (i + 1) * s ≤ xs.length * s := Nat.mul_le_mul_right s hi
    rw [Nat.add_mul] at this; omega
   rw [← htake, hj, List.getElem?_take, if_pos hlt2] at hcg
   rw [← Array.getElem?_toList, Nat.zero_mul, Nat.zero_add]
   exact hcg
end
section
variable {P : Program} {f : FuncId} {avs : List AV} {h0 : List (Nat × Row)} {res res' : AV} {rows rows' : List (Nat × Row)}
theorem FnIs.freeze_out (r : Nat) (row : Row) (hrow : lookH (someRows rows) r = some row) (hE : Frz r row res res') (hH : FrzRows r row (someRows rows) (someRows rows')) (h : FnIs P f avs h0 res rows) : FnIs P f avs h0 res' rows' := by
 refine ⟨h.1, fun C σ w vs hbs hB hw0 hσ0 hro hst => (h.2 C σ w vs hbs hB hw0 hσ0 hro hst).mono fun e w' hr => ?_⟩
 obtain ⟨v, σ', he, hs⟩ := hr
 refine ⟨v, σ', he, hs.freeze (st' := resSt res' rows') r row (by rw [← lookH_row]; exact hrow) (fun i v' hv => ?_) (fun q x' hq => ?_) rfl rfl⟩
 ·simp only [resSt, lk_cons] at hv ⊢
  split at hv
  ·rename_i e
   cases hv
   exact ⟨res, by rw [if_pos e], hE⟩
  ·simp [lk] at hv
 ·rw [← lookH_row] at hq
  obtain ⟨h1, x, h2, h3⟩ := FrzRows.out _ hH q x' hq
  exact ⟨h1, x, by rw [← lookH_row]; exact h2, h3⟩
end
end Go.Eng
namespace Go.Eng
open Go.RowKit
theorem RowLe.split2 {t : TypeId} {a b r : D} : RowLe (.box t (.d (.cons a (.cons b r)))) (.box t (.acons (.d a) (.acons (.d b) (.d r)))) := by
 rintro σ w X q ⟨_, k, cs, h1, h2, c1, c2, h3, h4, c3, c4, h5, h6, h7⟩
 exact ⟨rfl, k, cs, h1, h2, c1, c2, h3, h4, c3, c4, h5, h6, h7⟩
end Go.Eng
namespace Go.Eng
open Go.RowKit
section
variable {P : Program} {T : Tab} {env : Env} {h : Upds} {n : Nat}
theorem src_lits {r s m : Nat} {cap : Option Nat} {te : TypeId} {ex : Bool} {α : Type} {enc : α → D} (ys : List α) {y : Operand} (hy : evalA env y = some (.own r 0 m s cap)) (hrow : lookH h r = some (.lits te s m ex (dsAV (ys.map enc)))) (hm : ys.length = m) (hs : ∀ x ∈ ys, (enc x).size = s) (hp : 0 < m) :
  ∀ (C : Ctx) (G : Nat → Prop) (st : St) (σ : Place) (w : World) (a : Act), Agree env h st → StRel C G st σ w a → SrcIs s enc ys w (st.X C.X0 σ) (a.eval y) := by
 intro C G st σ w a hA hst
 subst hm
 obtain ⟨hy1, _⟩ := ev_sound hst (hA.ev hy)
 rcases RelV.own.1 hy1 with ⟨_, _, h0, _⟩ | ⟨b, c, ad, hb, hv, hle, hle2, _, had⟩
 ·omega
 ·rcases hst.rows r _ (hA.row _ _ hrow) with ⟨_, ⟨h0, h1⟩ | ⟨b', c', cur, cs', hb', _, hh, hsz, hlen, hmax, hcl, hrel, htake⟩⟩
  ·omega
  ·rw [hb] at hb'
   cases hb'
   have : ad = ⟨b, 0, none⟩ := by have := had (by omega); simpa using this
   subst this
   obtain ⟨f, hf, rfl⟩ := dsAV_rel ys _ hrel
   refine ⟨⟨b, 0, none⟩, _, f, hv, fun i hi => ⟨hf i hi, ?_⟩, fun j u hj => ?_⟩
   ·rw [← hs _ (List.getElem_mem hi)]; exact Enc.len _ _ (hf i hi)
   ·have hjl := (List.getElem?_eq_some_iff.1 hj).1
    rw [add_mk, cell_of_row w b _ cur te (0, 0) hh, Nat.zero_add, ← Array.getElem?_toList]
    rw [hcl] at hjl
    rw [← htake, List.getElem?_take, if_pos hjl] at hj
    exact hj
theorem append_lits (hT : TabOk P T) {t e r r2 m : Nat} {re : TyR} {s : Nat} {ex ex2 : Bool} {cap2 : Option Nat} {α : Type} {enc : α → D} {xs : List α} {x y : Operand} (ys : List α) (ht : tdesc T t = some (.slice e)) (he : lk T e = some re) (hs : Nat.beq re.size s = true) (hs0 : Nat.blt 0 s = true)
  (hx : evalA env x = some (.own r 0 xs.length s none)) (hrow : lookH h r = some (.ds e s ex enc xs)) (hy : evalA env y = some (.own r2 0 m s cap2)) (hrow2 : lookH h r2 = some (.lits e s m ex2 (dsAV (ys.map enc)))) (hm : ys.length = m) (hsz : ∀ x ∈ ys, (enc x).size = s) (hp : 0 < m)
  (hlen : xs.length + ys.length ≤ 1048576) (hbytes : Nat.ble re.bytes 134217728 = true) :
  StepIs P (.call { callee := .builtin .append, args := #[x, y], argTypes := #[t, t] }) env h n (some (.own n 0 (xs.length + ys.length) s none)) [(n, some (.ds e s false enc (xs ++ ys))), (r, none)] := by
 have hs0 := Nat.le_of_ble_eq_true hs0
 have hb := Nat.le_of_ble_eq_true hbytes
 refine append_core hT (ty := 0) (ex := ex) ht he (Nat.eq_of_beq_eq_true hs) hs0 hx hrow hy (by omega) (by simp only [maxLen]; omega) ?_ (src_lits ys hy hrow2 hm hsz hp)
 calc (xs.length + ys.length) * re.bytes ≤ 1048576 * 134217728 := Nat.mul_le_mul hlen hb
  _ ≤ 140737488355328 := by decide
end
end Go.Eng
namespace Go.Eng
open Go.RowKit
section
variable {P : Program} {T : Tab} {n : Nat} {env : Env} {h : Upds}
end
def FrzT (r : Nat) (row : Row) (a a' : AV) : Prop :=
 (∀ G : Nat → Prop, a.within G → a'.within G) ∧
  ∀ (σ : Place) (w : World) (X X' : Nat → Prop), (∀ b, X' b → X b) → (∀ b c, σ r = some (b, c) → ¬ X' b) → RowRel σ w X r row → ∀ cs, Rel σ w X a true cs → Rel σ w X' a' true cs
theorem FrzT.nil {r : Nat} {row : Row} : FrzT r row .anil .anil := ⟨fun _ h => h, fun _ _ _ _ _ _ _ _ h => h⟩
theorem FrzT.cons {r : Nat} {row : Row} {a b x y : AV} (h1 : Frz r row a x) (h2 : FrzT r row b y) : FrzT r row (.acons a b) (.acons x y) := by
 refine ⟨fun G g => ⟨h1.2.2.1 G g.1, h2.1 G g.2⟩, fun σ w X X' hx hn hr cs h => ?_⟩
 obtain ⟨v, us, rfl, g1, g2⟩ := h
 refine ⟨v, us, rfl, ?_, h2.2 σ w X X' hx hn hr _ g2⟩
 split at g1 <;> rename_i hag
 ·obtain ⟨c, rfl, hc⟩ := g1
  rw [if_pos (by rw [h1.1]; exact hag)]
  exact ⟨c, rfl, h1.2.2.2 σ w X X' hx hn hr _ hc⟩
 ·rw [if_neg (by rw [h1.1]; exact hag)]
  exact h1.2.2.2 σ w X X' hx hn hr _ g1
theorem Frz.tup {r : Nat} {row : Row} {q q' : AV} (h : FrzT r row q q') : Frz r row (.tup q) (.tup q') := by
 refine ⟨rfl, fun e => (by cases e), fun G g => h.1 G g, fun σ w X X' hx hn hr cs hh => ?_⟩
 obtain ⟨vs, rfl, h1⟩ := hh
 exact ⟨vs, rfl, h.2 σ w X X' hx hn hr _ h1⟩
end Go.Eng
namespace Go.Eng
open Go.RowKit
section
variable {P : Program} {T : Tab} {n : Nat} {env : Env} {h : Upds}
end
end Go.Eng
namespace Go.Eng
open Go.RowKit
theorem strOf_acc : ∀ (l : List UInt8) (acc : ByteArray), (l.map fun b => (b.toNat : Int)).foldl (fun r n => r.push (UInt8.ofNat n.toNat)) acc = ⟨acc.data ++ l.toArray⟩
 | [], acc => by simp
 | b :: l, acc => by
  rw [List.map_cons, List.foldl_cons, strOf_acc l]
  have : UInt8.ofNat ((b.toNat : Int)).toNat = b := by simp
  rw [this]
  apply ByteArray.ext
  apply Array.ext'
  simp [ByteArray.push]
theorem strOf_byI (l : List UInt8) : strOf (byI l) = mkS l := by
 rw [strOf, byI, strOf_acc l]
 apply ByteArray.ext
 simp [mkS]
section
variable {P : Program} {T : Tab} {n : Nat} {env : Env} {h : Upds}
theorem append_litsL (hT : TabOk P T) {t e r r2 m L : Nat} {re : TyR} {s : Nat} {ex ex2 : Bool} {cap2 : Option Nat} {α : Type} {enc : α → D} {xs : List α} {x y : Operand} (ys : List α) (ht : tdesc T t = some (.slice e)) (he : lk T e = some re) (hs : Nat.beq re.size s = true) (hs0 : Nat.blt 0 s = true)
  (hx : evalA env x = some (.own r 0 L s none)) (hL : L = xs.length) (hrow : lookH h r = some (.ds e s ex enc xs)) (hy : evalA env y = some (.own r2 0 m s cap2)) (hrow2 : lookH h r2 = some (.lits e s m ex2 (dsAV (ys.map enc)))) (hm : ys.length = m) (hsz : ∀ x ∈ ys, (enc x).size = s) (hp : 0 < m)
  (hlen : xs.length + ys.length ≤ 1048576) (hbytes : Nat.ble re.bytes 134217728 = true) :
  StepIs P (.call { callee := .builtin .append, args := #[x, y], argTypes := #[t, t] }) env h n (some (.own n 0 (xs.length + ys.length) s none)) [(n, some (.ds e s false enc (xs ++ ys))), (r, none)] := by
 subst hL
 exact append_lits hT ys ht he hs hs0 hx hrow hy hrow2 hm hsz hp hlen hbytes
end
end Go.Eng
namespace Go.Eng
open Go.RowKit
def ArgsRel (σ : Place) (w : World) (X : Nat → Prop) : List AV → List Value → Prop
 | [], vs => vs = []
 | a :: bs9, vs => ∃ v us, vs = v :: us ∧ RelV σ w X a v ∧ ArgsRel σ w X bs9 us
theorem ArgsRel.of_env {σ : Place} {w : World} {X : Nat → Prop} : ∀ (avs : List AV) (vs : List Value), vs.length = avs.length →
  (∀ (i : Nat) (v : AV), avs[i]? = some v → ∃ u, vs[i]? = some u ∧ RelV σ w X v u) → ArgsRel σ w X avs vs
 | [], vs, hl, _ => List.eq_nil_of_length_eq_zero hl
 | a :: bs9, [], hl, _ => by simp at hl
 | a :: bs9, v :: vs, hl, h => by
  obtain ⟨u, hu, hr⟩ := h 0 a rfl
  simp only [List.getElem?_cons_zero, Option.some.injEq] at hu
  subst hu
  exact ⟨v, vs, rfl, hr, ArgsRel.of_env bs9 vs (by simpa using hl) fun i x hi => by simpa using h (i + 1) x (by simpa using hi)⟩
def GlobsAt (w : World) : Prop := ∀ x ∈ globs, x.2 (w.heap[x.1]?) ∧ x.1 < w.heap.size
theorem avEnv_at : ∀ (avs : List AV) (k i : Nat) (v : AV), avs[i]? = some v → lk (avEnv k avs) (k + i) = some v
 | [], k, i, v, h => by simp at h
 | a :: bs9, k, 0, v, h => by
  simp only [List.getElem?_cons_zero, Option.some.injEq] at h
  subst h
  simp only [avEnv, lk_cons, Nat.add_zero, if_pos]
 | a :: bs9, k, i + 1, v, h => by
  simp only [avEnv, lk_cons]
  rw [if_neg (by omega), show k + (i + 1) = (k + 1) + i by omega]
  exact avEnv_at bs9 (k + 1) i v (by simpa using h)
variable {P : Program}
theorem FnIs.of_calls {f : FuncId} {avs : List AV} {d : AV} (hd : ∀ G : Nat → Prop, d.within G) (hfn : ∃ fn, P.funcs[f]? = some fn ∧ (fn.name == "runtime.NumGoroutine") = false ∧ fn.body.isNone = false)
    (h : ∀ (σ : Place) (w : World) (X : Nat → Prop) (vs : List Value), (∀ b, X b → b < w.heap.size) → ArgsRel σ w X avs vs → GlobsAt w →
      Calls P f vs.toArray w fun e w' => ∃ v, e = .returned v ∧ Below w.heap.size w w' ∧ RelV σ w' X d v) : FnIs P f avs [] d [] := by
  refine ⟨hfn, fun C σ w vs hbs hB hw hσ hro hst => ?_⟩
  have hX : ∀ b, (inSt avs []).X C.X0 σ b ↔ C.X0 b := fun b => by
    constructor
    · rintro (hx | ⟨r, row, c, h5, _⟩)
      · exact hx
      · simp [inSt, someRows, St.row, lk] at h5
    · exact .inl
  have hX2 : ∀ (σ' : Place) b, (resSt d []).X C.X0 σ' b ↔ C.X0 b := fun σ' b => by
    constructor
    · rintro (hx | ⟨r, row, c, h5, _⟩)
      · exact hx
      · simp [resSt, someRows, St.row, lk] at h5
    · exact .inl
  have hlen : vs.length = avs.length := by have := hst.sz; simpa [inSt] using this
  have hargs : ArgsRel σ w C.X0 avs vs := ArgsRel.of_env avs vs hlen fun i v hi => by
    have := avEnv_at avs 0 i v hi
    rw [Nat.zero_add] at this
    obtain ⟨u, h1, h2⟩ := hst.env i v this
    refine ⟨u, by simpa using h1, ?_⟩
    rwa [show (inSt avs []).X C.X0 σ = C.X0 from funext fun b => propext (hX b)] at h2
  have hg : GlobsAt w := fun x hx => by
    obtain ⟨g1, g2, _⟩ := hst.glob x hx
    rw [hw] at g1
    exact ⟨g1, by omega⟩
  refine (h σ w C.X0 vs (fun b hb => by have := (hst.x0 b hb).1; omega) hargs hg).mono ?_
  rintro e w' ⟨v, rfl, hb, hr⟩
  refine ⟨v, σ, rfl, ?_⟩
  have hbm : BelowM C.B C.M C.w0 w' := by
    rw [hB, hw]
    refine Below.toM hb fun k o ho _ => ?_
    have hk : k < w.heap.size := (Array.getElem?_eq_some_iff.1 ho).1
    exact (hb.block k hk).trans ho
  exact
    { env := fun i x hi => by
        by_cases e : i = 0
        · subst e
          simp only [resSt, lk_cons, if_pos, Option.some.injEq] at hi
          subst hi
          refine ⟨v, rfl, ?_⟩
          rw [show (resSt d []).X C.X0 σ = C.X0 from funext fun b => propext (hX2 σ b)]
          exact hr
        · simp only [resSt, lk_cons, if_neg (Ne.symm e), lk] at hi
          cases hi
      envG := fun i x hi => by
        by_cases e : i = 0
        · subst e
          simp only [resSt, lk_cons, if_pos, Option.some.injEq] at hi
          subst hi
          exact hd _
        · simp only [resSt, lk_cons, if_neg (Ne.symm e), lk] at hi
          cases hi
      rows := fun r row hr => by simp [resSt, someRows, St.row, lk] at hr
      rowsG := fun r row hr => by simp [resSt, someRows, St.row, lk] at hr
      inj := fun r r' row row' b c c' hr => by simp [resSt, someRows, St.row, lk] at hr
      high := fun r row b c hr => by simp [resSt, someRows, St.row, lk] at hr
      size := by rw [hB]; exact hb.size
      below := hbm
      defers := trivial
      sz := rfl
      x0 := hst.x0
      agree := fun r _ => by rw [hσ]
      baseG := fun r hr => by rw [hbs] at hr; show r < 72; omega
      bs := by rw [hbs]; rfl
      rok := fun l hl => by rw [hro] at hl; cases hl
      glob := hst.glob }
theorem ArgsRel.one {σ : Place} {w : World} {X : Nat → Prop} {v : Value} {vs : List Value} (h : ArgsRel σ w X [.d (.sc v)] vs) : vs = [v] := by
 obtain ⟨u, us, rfl, h1, h2⟩ := h
 obtain ⟨rfl, _⟩ := RelV.sc.1 h1
 rw [show us = [] from h2]
theorem ArgsRel.two {σ : Place} {w : World} {X : Nat → Prop} {v v2 : Value} {vs : List Value} (h : ArgsRel σ w X [.d (.sc v), .d (.sc v2)] vs) : vs = [v, v2] := by
 obtain ⟨u, us, rfl, h1, h2⟩ := h
 obtain ⟨rfl, _⟩ := RelV.sc.1 h1
 rw [ArgsRel.one h2]
theorem ArgsRel.three {σ : Place} {w : World} {X : Nat → Prop} {v v2 v3 : Value} {vs : List Value} (h : ArgsRel σ w X [.d (.sc v), .d (.sc v2), .d (.sc v3)] vs) : vs = [v, v2, v3] := by
 obtain ⟨u, us, rfl, h1, h2⟩ := h
 obtain ⟨rfl, _⟩ := RelV.sc.1 h1
 rw [ArgsRel.two h2]
theorem FnIs.of_calls1 {f : FuncId} {avs : List AV} {r : Value} (h1 : r.oneCell' = true) (hfn : ∃ fn, P.funcs[f]? = some fn ∧ (fn.name == "runtime.NumGoroutine") = false ∧ fn.body.isNone = false)
  (h : ∀ (σ : Place) (w : World) (X : Nat → Prop) (vs : List Value), ArgsRel σ w X avs vs → GlobsAt w → Calls P f vs.toArray w fun e w' => e = .returned r ∧ Below w.heap.size w w') : FnIs P f avs [] (.d (.sc r)) [] :=
 .of_calls (fun _ => trivial) hfn fun σ w X vs _ ha hg => (h σ w X vs ha hg).mono fun _ _ ⟨he, hb⟩ => ⟨r, he, hb, RelV.sc.2 ⟨rfl, h1⟩⟩
end Go.Eng
namespace Go.Proofs.YthiijfbcfoifnaaGreatDoor
open Go.ChangeShapes Go.WideShapes Go.ChangeAt Go.RowKit Go.Eng
theorem own : ownKnob Tryz.prog.godebug = none := by kernel_rfl
theorem laidOut : laidOutB Tryz.prog = true := by kernel_rfl
theorem gPow : Tryz.prog.globalNamed "internal/strconv.uint64pow10" = some 0 := by kernel_rfl
theorem gSyn : Tryz.prog.globalNamed "strconv.ErrSyntax" = some 6 := by kernel_rfl
theorem gRan : Tryz.prog.globalNamed "strconv.ErrRange" = some 7 := by kernel_rfl
theorem tPow : (Tryz.prog.globals[0]?).map (·.type) = some 189 := by kernel_rfl
theorem tSyn : (Tryz.prog.globals[6]?).map (·.type) = some 88 := by kernel_rfl
theorem tRan : (Tryz.prog.globals[7]?).map (·.type) = some 88 := by kernel_rfl
theorem block_of_var {P : Program} {w : World} {n : String} {g : Nat} {cs : Array Value} (hg : P.globalNamed n = some g) (h : w.var? P n = some cs) : ∃ t fr, w.heap[g]? = some (.cells cs t fr) := by
 unfold World.var? at h
 rw [hg] at h
 simp only [Option.bind_some] at h
 split at h
 ·rename_i t fr hh
  cases h
  exact ⟨_, _, hh⟩
 ·cases h
theorem globs_of {W : World} (hL : laidMetH Tryz.prog Rows.scriptsSameRow.laid W) (hsh : W.ShapedOpen Tryz.prog) : ∀ x ∈ globs, x.2 (W.heap[x.1]?) ∧ x.1 < W.heap.size := by
 rw [MakeChecks.laidMetH_plain _ _ _ (by kernel_rfl)] at hL
 obtain ⟨ps, ⟨_, _, _, _, _, _, _, _, _, _, ⟨_, _, _, _, _, _, _, _, _, _, ⟨g3, t3, cs3, f3, p3, q3, hg3, ht3, hv3, hd3, ⟨_, _, _, _, _, _, _, _, _, _, ⟨g2, t2, cs2, f2, p2, q2, hg2, ht2, hv2, hd2, ⟨g1, t1, cs1, f1, p1, q1, hg1, ht1, hv1, hd1, _, _⟩, _⟩, _⟩, _⟩, _⟩, _⟩, _, _⟩ := hL
 obtain rfl := Option.some.inj (gPow.symm.trans hg3)
 obtain rfl := Option.some.inj (gRan.symm.trans hg2)
 obtain rfl := Option.some.inj (gSyn.symm.trans hg1)
 obtain rfl := Option.some.inj (tPow.symm.trans ht3)
 obtain rfl := Option.some.inj (tRan.symm.trans ht2)
 obtain rfl := Option.some.inj (tSyn.symm.trans ht1)
 obtain ⟨_, u2, v2, hc2, _, _⟩ := iface_of_trod Tryz.underlying88 hd2
 obtain ⟨_, u1, v1, hc1, _, _⟩ := iface_of_trod Tryz.underlying88 hd1
 have hc3 : cs3.toList = Lib.pow10Tab.map fun z => Value.int .u64 z := Lib.cells_of_tab (zs := Lib.pow10Tab) Tryz.underlying189 Tryz.underlying22 (by kernel_rfl) (by kernel_rfl) hd3
 obtain ⟨a3, b3, hb3⟩ := block_of_var gPow hv3
 obtain ⟨a2, b2, hb2⟩ := block_of_var gRan hv2
 obtain ⟨a1, b1, hb1⟩ := block_of_var gSyn hv1
 obtain ⟨cs0, hh0, hs0, hr0⟩ := hsh.1 1 #[.int .i64 0] 3 (of_decide_eq_true (by kernel_rfl)) (by kernel_rfl)
 obtain ⟨m, hm⟩ := cell_of_shapedOpen_int (g := 1) (zero := #[.int .i64 0]) (t := 3) hsh (of_decide_eq_true (by kernel_rfl)) (by kernel_rfl) rfl (by kernel_rfl) (by kernel_rfl) Tryz.underlying3
 have he0 : ∃ fr, W.heap[1]? = some (.cells #[.int .i64 m] 3 fr) := by
  have h1 : cs0[0]? = some (.int .i64 m) := by
   have := hm
   simp only [World.cell?, hh0] at this
   exact this
  have h2 : cs0 = #[.int .i64 m] := by
   apply Array.ext'
   obtain ⟨l⟩ := cs0
   have hl : l.length = 1 := by simpa using hs0
   match l, hl, h1 with
   | [x], _, h1 => simpa using h1
  exact ⟨_, by rw [hh0, h2]⟩
 obtain ⟨fr0, he0⟩ := he0
 have e1 : cs1 = #[.iface u1 v1] := Array.ext' hc1
 have e2 : cs2 = #[.iface u2 v2] := Array.ext' hc2
 have e3 : cs3 = (Lib.pow10Tab.map fun z => Value.int .u64 z).toArray := Array.ext' (by simpa using hc3)
 intro x hx
 simp only [globs, List.mem_cons, List.not_mem_nil, or_false] at hx
 rcases hx with rfl | rfl | rfl | rfl
 ·exact ⟨⟨m, 3, fr0, he0⟩, (Array.getElem?_eq_some_iff.1 he0).1⟩
 ·refine ⟨⟨.iface u1 v1, a1, b1, ?_, .inr ⟨u1, v1, rfl⟩⟩, (Array.getElem?_eq_some_iff.1 hb1).1⟩
  rw [hb1, e1]
 ·refine ⟨⟨.iface u2 v2, a2, b2, ?_, .inr ⟨u2, v2, rfl⟩⟩, (Array.getElem?_eq_some_iff.1 hb2).1⟩
  rw [hb2, e2]
 ·refine ⟨⟨a3, b3, ?_⟩, (Array.getElem?_eq_some_iff.1 hb3).1⟩
  rw [hb3, e3]
theorem handed_of {H : Type} {enc : TypeId × Value → H} {a : Assume} {C : Checked} {os : Os} {f : FuncId} {fn : Func} {s : ChangeSpec} {conds : List PathCond} {apart fresh handsOn again : Bool} {X : World → Array Value → Prop}
  (hX : ∀ (w w' : World) (args : Array Value), w.heap = w'.heap → X w args → X w' args)
  (own : ownKnob C.prog.godebug = none) (started : os.Started) (noInit : C.prog.inits.idxOf? f = none) (hfn : C.prog.funcs[f]? = some fn)
  (witness : ∃ (w : World) (tape : Tape) (i : Input), w.os = os ∧ (w.forCall tape i).Shaped C.prog ∧ i.vars = [] ∧ Input.okWide C.prog (w.forCall tape i) .any w.heap.size f i ∧
   ((s.pre enc C.prog fn conds apart (w.forCall tape i).memory i.args ∧ X (w.forCall tape i).memory i.args) ∧ sizedMet enc C.prog fn (OpenSpec.ofChange s) apart (w.forCall tape i).memory i.args) ∧ a.holds C.prog (lone (Frame.enter C.prog f i.args .normal) [] (w.forCall tape i)))
  (contract : ∀ (W : World) (base : Nat) (args : Array Value) (ds gs : List (DataW H)) (before : List MemPlace),
   (∀ (j : Nat) t v, fn.params[j]? = some t → args[j]? = some v → Value.okWide C.prog W .any base t v) →
   DataW.Whole enc C.prog fn.params.toList s.vars apart W args.toList ds gs before →
   X W args → W.ShapedOpen C.prog →
   Calls C.prog f args W fun e W' => ∃ v, e = .returned v ∧ s.post enc C.prog fn apart fresh handsOn again W args v W') :
  ReturnsInHanded a C os f .any (fun w args => (s.pre enc C.prog fn conds apart w args ∧ X w args) ∧ sizedMet enc C.prog fn (OpenSpec.ofChange s) apart w args) (s.post enc C.prog fn apart fresh handsOn again) := by
 refine returnsInHanded_of_calls own started noInit witness ?_
 intro w tape i _ hsh _ hok hpre _
 obtain ⟨_, _, _, fn', hfn', _, _, _, _, hval⟩ := hok
 have e : fn' = fn := Option.some.inj (hfn'.symm.trans hfn)
 subst e
 obtain ⟨⟨⟨ds, gs, before, hw, hc⟩, hx⟩, hz⟩ := hpre
 have hw' := DataW.Whole.of_heap (w' := w.forCall tape i) (by rfl) hw
 refine (contract (w.forCall tape i) w.heap.size i.args ds gs before hval hw' (hX _ _ _ (by rfl) hx) hsh).mono fun e W' ⟨v, he, hp⟩ => ?_
 subst he
 exact ChangeSpec.post_blind hp
end Go.Proofs.YthiijfbcfoifnaaGreatDoor
namespace Go.Proofs.YthiijfbcfoifnaaGreatDoor
open Go
theorem and2 {a b : Bool} (h : a = true) (k : b = true) : (a && b) = true := by rw [h, k]; rfl
theorem pf_maps : mapsRowed Tryz.prog = true := by kernel_rfl
theorem pf_keys : (Rows.scriptsSameRow.plainKeys == Tryz.prog.plainKeys) = true := by kernel_rfl
theorem pf_heard : Tryz.prog.stopsHeard = true := by kernel_rfl
theorem pf_enter : Tryz.prog.mayEnter = true := by kernel_rfl
theorem pf_lifts : (Rows.scriptsSameRow.lifted == Tryz.prog.liftsFinal) = true := by kernel_rfl
theorem pf_make : (Tryz.prog.make == some Rows.scriptsSameRow.make) = true := by kernel_rfl
end Go.Proofs.YthiijfbcfoifnaaGreatDoor
namespace Go.Proofs.YthiijfbcfoifnaaGreatDoor
open Go.Eng
theorem dF {p : Prop} [Decidable p] (h : ¬p) : decide p = false := decide_eq_false h
theorem dT {p : Prop} [Decidable p] (h : p) : decide p = true := decide_eq_true h
abbrev u0 : TyR := { desc := .cell, size := 1, bytes := 8, zero := .sc .nilFunc }
abbrev u1 : TyR := { desc := .cell, size := 1, bytes := 8, zero := .sc (.pointer none) }
abbrev u2 : TyR := { desc := .int .i64, size := 1, bytes := 8, zero := .sc (.int .i64 0) }
abbrev u3 : TyR := { desc := .int .u8, size := 1, bytes := 1, zero := .sc (.int .u8 0) }
abbrev u4 : TyR := { desc := .int .u64, size := 1, bytes := 8, zero := .sc (.int .u64 0) }
abbrev u5 : TyR := { desc := .cell, size := 1, bytes := 16, zero := .sc .nilIface }
theorem mT {t : Nat} {r : TyR} {u : TypeDesc} (h3 : Tryz.prog.underlying t = some u) (h1 : (Tryz.prog.info? t).map (fun i => (i.size, i.bytes, i.zero)) = some (r.size, r.bytes, some (zval r.zero)) := by kernel_rfl) (h2 : (r.zero.okC && Nat.beq r.zero.size r.size) = true := by kernel_rfl) (h4 : descB Tryz.prog r.desc u = true := by kernel_rfl) (h5 : r.desc.isAgg = r.zero.isAgg := by kernel_rfl) : TyOk Tryz.prog t r := TyOk.mk' h1 h2 h3 h4 h5
abbrev r1 : TyR := u0
theorem ty1 : TyOk Tryz.prog 1 r1 := mT Tryz.underlying1
abbrev r2 : TyR := u2
theorem ty2 : TyOk Tryz.prog 2 r2 := mT Tryz.underlying2
abbrev r3 : TyR := u2
theorem ty3 : TyOk Tryz.prog 3 r3 := mT Tryz.underlying3
abbrev r4 : TyR := { desc := .bool, size := 1, bytes := 1, zero := .sc (.bool false) }
theorem ty4 : TyOk Tryz.prog 4 r4 := mT Tryz.underlying4
abbrev r5 : TyR := u3
theorem ty5 : TyOk Tryz.prog 5 r5 := mT Tryz.underlying5
abbrev r9 : TyR := { desc := .string, size := 1, bytes := 16, zero := .sc (.string ⟨#[]⟩) }
theorem ty9 : TyOk Tryz.prog 9 r9 := mT Tryz.underlying9
abbrev r12 : TyR := u4
theorem ty12 : TyOk Tryz.prog 12 r12 := mT Tryz.underlying12
abbrev r13 : TyR := { desc := .struct [(0, 9), (1, 12)], size := 2, bytes := 24, zero := .cons (.sc (.string ⟨#[]⟩)) (.cons (.sc (.int .u64 0)) (.nil)) }
theorem ty13 : TyOk Tryz.prog 13 r13 := mT Tryz.underlying13
abbrev r20 : TyR := u5
theorem ty20 : TyOk Tryz.prog 20 r20 := mT Tryz.underlying20
abbrev r21 : TyR := { desc := .int .i32, size := 1, bytes := 4, zero := .sc (.int .i32 0) }
theorem ty21 : TyOk Tryz.prog 21 r21 := mT Tryz.underlying21
abbrev r22 : TyR := u4
theorem ty22 : TyOk Tryz.prog 22 r22 := mT Tryz.underlying22
abbrev r23 : TyR := { desc := .array 32 5, size := 32, bytes := 32, zero := .vec 32 1 encU8 (List.replicate 32 0) }
theorem ty23 : TyOk Tryz.prog 23 r23 := mT Tryz.underlying23
abbrev r24 : TyR := { desc := .array 32 5, size := 32, bytes := 32, zero := .vec 32 1 encU8 (List.replicate 32 0) }
theorem ty24 : TyOk Tryz.prog 24 r24 := mT Tryz.underlying24
abbrev r25 : TyR := { desc := .struct [(0, 3), (1, 3), (2, 3), (3, 3), (4, 22), (5, 22), (6, 24), (38, 5)], size := 39, bytes := 88, zero := .cons (.sc (.int .i64 0)) (.cons (.sc (.int .i64 0)) (.cons (.sc (.int .i64 0)) (.cons (.sc (.int .i64 0)) (.cons (.sc (.int .u64 0)) (.cons (.sc (.int .u64 0)) (.cons (.vec 32 1 encU8 (List.replicate 32 0)) (.cons (.sc (.int .u8 0)) (.nil)))))))) }
theorem ty25 : TyOk Tryz.prog 25 r25 := mT Tryz.underlying25
abbrev r26 : TyR := { desc := .struct [(0, 3), (1, 3), (2, 3), (3, 3), (4, 22), (5, 22), (6, 24), (38, 5)], size := 39, bytes := 88, zero := .cons (.sc (.int .i64 0)) (.cons (.sc (.int .i64 0)) (.cons (.sc (.int .i64 0)) (.cons (.sc (.int .i64 0)) (.cons (.sc (.int .u64 0)) (.cons (.sc (.int .u64 0)) (.cons (.vec 32 1 encU8 (List.replicate 32 0)) (.cons (.sc (.int .u8 0)) (.nil)))))))) }
theorem ty26 : TyOk Tryz.prog 26 r26 := mT Tryz.underlying26
abbrev r27 : TyR := { desc := .slice 32, size := 1, bytes := 24, zero := .sc (.slice none 0 0) }
theorem ty27 : TyOk Tryz.prog 27 r27 := mT Tryz.underlying27
abbrev r28 : TyR := { desc := .slice 39, size := 1, bytes := 24, zero := .sc (.slice none 0 0) }
theorem ty28 : TyOk Tryz.prog 28 r28 := mT Tryz.underlying28
abbrev r29 : TyR := { desc := .struct [(0, 26), (39, 27), (40, 28)], size := 41, bytes := 136, zero := .cons (.cons (.sc (.int .i64 0)) (.cons (.sc (.int .i64 0)) (.cons (.sc (.int .i64 0)) (.cons (.sc (.int .i64 0)) (.cons (.sc (.int .u64 0)) (.cons (.sc (.int .u64 0)) (.cons (.vec 32 1 encU8 (List.replicate 32 0)) (.cons (.sc (.int .u8 0)) (.nil))))))))) (.cons (.sc (.slice none 0 0)) (.cons (.sc (.slice none 0 0)) (.nil))) }
theorem ty29 : TyOk Tryz.prog 29 r29 := mT Tryz.underlying29
abbrev r30 : TyR := { desc := .struct [(0, 26), (39, 27), (40, 28)], size := 41, bytes := 136, zero := .cons (.cons (.sc (.int .i64 0)) (.cons (.sc (.int .i64 0)) (.cons (.sc (.int .i64 0)) (.cons (.sc (.int .i64 0)) (.cons (.sc (.int .u64 0)) (.cons (.sc (.int .u64 0)) (.cons (.vec 32 1 encU8 (List.replicate 32 0)) (.cons (.sc (.int .u8 0)) (.nil))))))))) (.cons (.sc (.slice none 0 0)) (.cons (.sc (.slice none 0 0)) (.nil))) }
theorem ty30 : TyOk Tryz.prog 30 r30 := mT Tryz.underlying30
abbrev r31 : TyR := u0
theorem ty31 : TyOk Tryz.prog 31 r31 := mT Tryz.underlying31
abbrev r32 : TyR := { desc := .slice 36, size := 1, bytes := 24, zero := .sc (.slice none 0 0) }
theorem ty32 : TyOk Tryz.prog 32 r32 := mT Tryz.underlying32
abbrev r33 : TyR := u3
theorem ty33 : TyOk Tryz.prog 33 r33 := mT Tryz.underlying33
abbrev r34 : TyR := { desc := .slice 5, size := 1, bytes := 24, zero := .sc (.slice none 0 0) }
theorem ty34 : TyOk Tryz.prog 34 r34 := mT Tryz.underlying34
abbrev r35 : TyR := { desc := .struct [(0, 33), (1, 3), (2, 34)], size := 3, bytes := 40, zero := .cons (.sc (.int .u8 0)) (.cons (.sc (.int .i64 0)) (.cons (.sc (.slice none 0 0)) (.nil))) }
theorem ty35 : TyOk Tryz.prog 35 r35 := mT Tryz.underlying35
abbrev r36 : TyR := { desc := .struct [(0, 33), (1, 3), (2, 34)], size := 3, bytes := 40, zero := .cons (.sc (.int .u8 0)) (.cons (.sc (.int .i64 0)) (.cons (.sc (.slice none 0 0)) (.nil))) }
theorem ty36 : TyOk Tryz.prog 36 r36 := mT Tryz.underlying36
abbrev r37 : TyR := u3
theorem ty37 : TyOk Tryz.prog 37 r37 := mT Tryz.underlying37
abbrev r38 : TyR := { desc := .struct [(0, 37), (1, 3), (2, 3), (3, 34), (4, 3)], size := 5, bytes := 56, zero := .cons (.sc (.int .u8 0)) (.cons (.sc (.int .i64 0)) (.cons (.sc (.int .i64 0)) (.cons (.sc (.slice none 0 0)) (.cons (.sc (.int .i64 0)) (.nil))))) }
theorem ty38 : TyOk Tryz.prog 38 r38 := mT Tryz.underlying38
abbrev r39 : TyR := { desc := .struct [(0, 37), (1, 3), (2, 3), (3, 34), (4, 3)], size := 5, bytes := 56, zero := .cons (.sc (.int .u8 0)) (.cons (.sc (.int .i64 0)) (.cons (.sc (.int .i64 0)) (.cons (.sc (.slice none 0 0)) (.cons (.sc (.int .i64 0)) (.nil))))) }
theorem ty39 : TyOk Tryz.prog 39 r39 := mT Tryz.underlying39
abbrev r40 : TyR := u2
theorem ty40 : TyOk Tryz.prog 40 r40 := mT Tryz.underlying40
abbrev r41 : TyR := u0
theorem ty41 : TyOk Tryz.prog 41 r41 := mT Tryz.underlying41
abbrev r43 : TyR := u0
theorem ty43 : TyOk Tryz.prog 43 r43 := mT Tryz.underlying43
abbrev r44 : TyR := u0
theorem ty44 : TyOk Tryz.prog 44 r44 := mT Tryz.underlying44
abbrev r46 : TyR := u0
theorem ty46 : TyOk Tryz.prog 46 r46 := mT Tryz.underlying46
abbrev r47 : TyR := u0
theorem ty47 : TyOk Tryz.prog 47 r47 := mT Tryz.underlying47
abbrev r48 : TyR := u0
theorem ty48 : TyOk Tryz.prog 48 r48 := mT Tryz.underlying48
abbrev r49 : TyR := u0
theorem ty49 : TyOk Tryz.prog 49 r49 := mT Tryz.underlying49
abbrev r50 : TyR := { desc := .slice 3, size := 1, bytes := 24, zero := .sc (.slice none 0 0) }
theorem ty50 : TyOk Tryz.prog 50 r50 := mT Tryz.underlying50
abbrev r51 : TyR := u0
theorem ty51 : TyOk Tryz.prog 51 r51 := mT Tryz.underlying51
abbrev r52 : TyR := u0
theorem ty52 : TyOk Tryz.prog 52 r52 := mT Tryz.underlying52
abbrev r53 : TyR := { desc := .array 6 3, size := 6, bytes := 48, zero := .cons (.sc (.int .i64 0)) (.cons (.sc (.int .i64 0)) (.cons (.sc (.int .i64 0)) (.cons (.sc (.int .i64 0)) (.cons (.sc (.int .i64 0)) (.cons (.sc (.int .i64 0)) (.nil)))))) }
theorem ty53 : TyOk Tryz.prog 53 r53 := mT Tryz.underlying53
abbrev r55 : TyR := u0
theorem ty55 : TyOk Tryz.prog 55 r55 := mT Tryz.underlying55
abbrev r56 : TyR := u0
theorem ty56 : TyOk Tryz.prog 56 r56 := mT Tryz.underlying56
abbrev r57 : TyR := { desc := .slice 183, size := 1, bytes := 24, zero := .sc (.slice none 0 0) }
theorem ty57 : TyOk Tryz.prog 57 r57 := mT Tryz.underlying57
abbrev r58 : TyR := { desc := .struct [(0, 57)], size := 1, bytes := 24, zero := .cons (.sc (.slice none 0 0)) (.nil) }
theorem ty58 : TyOk Tryz.prog 58 r58 := mT Tryz.underlying58
abbrev r59 : TyR := { desc := .struct [(0, 57)], size := 1, bytes := 24, zero := .cons (.sc (.slice none 0 0)) (.nil) }
theorem ty59 : TyOk Tryz.prog 59 r59 := mT Tryz.underlying59
abbrev r60 : TyR := { desc := .struct [(0, 5), (1, 5), (2, 5), (3, 5), (4, 5), (5, 5), (6, 5), (7, 59)], size := 8, bytes := 32, zero := .cons (.sc (.int .u8 0)) (.cons (.sc (.int .u8 0)) (.cons (.sc (.int .u8 0)) (.cons (.sc (.int .u8 0)) (.cons (.sc (.int .u8 0)) (.cons (.sc (.int .u8 0)) (.cons (.sc (.int .u8 0)) (.cons (.cons (.sc (.slice none 0 0)) (.nil)) (.nil)))))))) }
theorem ty60 : TyOk Tryz.prog 60 r60 := mT Tryz.underlying60
abbrev r61 : TyR := { desc := .struct [(0, 5), (1, 5), (2, 5), (3, 5), (4, 5), (5, 5), (6, 5), (7, 59)], size := 8, bytes := 32, zero := .cons (.sc (.int .u8 0)) (.cons (.sc (.int .u8 0)) (.cons (.sc (.int .u8 0)) (.cons (.sc (.int .u8 0)) (.cons (.sc (.int .u8 0)) (.cons (.sc (.int .u8 0)) (.cons (.sc (.int .u8 0)) (.cons (.cons (.sc (.slice none 0 0)) (.nil)) (.nil)))))))) }
theorem ty61 : TyOk Tryz.prog 61 r61 := mT Tryz.underlying61
abbrev r62 : TyR := { desc := .slice 71, size := 1, bytes := 24, zero := .sc (.slice none 0 0) }
theorem ty62 : TyOk Tryz.prog 62 r62 := mT Tryz.underlying62
abbrev r63 : TyR := { desc := .struct [(0, 61), (8, 62)], size := 9, bytes := 56, zero := .cons (.cons (.sc (.int .u8 0)) (.cons (.sc (.int .u8 0)) (.cons (.sc (.int .u8 0)) (.cons (.sc (.int .u8 0)) (.cons (.sc (.int .u8 0)) (.cons (.sc (.int .u8 0)) (.cons (.sc (.int .u8 0)) (.cons (.cons (.sc (.slice none 0 0)) (.nil)) (.nil))))))))) (.cons (.sc (.slice none 0 0)) (.nil)) }
theorem ty63 : TyOk Tryz.prog 63 r63 := mT Tryz.underlying63
abbrev r64 : TyR := { desc := .struct [(0, 61), (8, 62)], size := 9, bytes := 56, zero := .cons (.cons (.sc (.int .u8 0)) (.cons (.sc (.int .u8 0)) (.cons (.sc (.int .u8 0)) (.cons (.sc (.int .u8 0)) (.cons (.sc (.int .u8 0)) (.cons (.sc (.int .u8 0)) (.cons (.sc (.int .u8 0)) (.cons (.cons (.sc (.slice none 0 0)) (.nil)) (.nil))))))))) (.cons (.sc (.slice none 0 0)) (.nil)) }
theorem ty64 : TyOk Tryz.prog 64 r64 := mT Tryz.underlying64
abbrev r65 : TyR := u0
theorem ty65 : TyOk Tryz.prog 65 r65 := mT Tryz.underlying65
abbrev r66 : TyR := u0
theorem ty66 : TyOk Tryz.prog 66 r66 := mT Tryz.underlying66
abbrev r67 : TyR := u0
theorem ty67 : TyOk Tryz.prog 67 r67 := mT Tryz.underlying67
abbrev r68 : TyR := u0
theorem ty68 : TyOk Tryz.prog 68 r68 := mT Tryz.underlying68
abbrev r69 : TyR := { desc := .array 3 5, size := 3, bytes := 3, zero := .vec 3 1 encU8 (List.replicate 3 0) }
theorem ty69 : TyOk Tryz.prog 69 r69 := mT Tryz.underlying69
abbrev r70 : TyR := { desc := .struct [(0, 5), (1, 5), (2, 5), (3, 34)], size := 4, bytes := 32, zero := .cons (.sc (.int .u8 0)) (.cons (.sc (.int .u8 0)) (.cons (.sc (.int .u8 0)) (.cons (.sc (.slice none 0 0)) (.nil)))) }
theorem ty70 : TyOk Tryz.prog 70 r70 := mT Tryz.underlying70
abbrev r71 : TyR := { desc := .struct [(0, 5), (1, 5), (2, 5), (3, 34)], size := 4, bytes := 32, zero := .cons (.sc (.int .u8 0)) (.cons (.sc (.int .u8 0)) (.cons (.sc (.int .u8 0)) (.cons (.sc (.slice none 0 0)) (.nil)))) }
theorem ty71 : TyOk Tryz.prog 71 r71 := mT Tryz.underlying71
abbrev r72 : TyR := u0
theorem ty72 : TyOk Tryz.prog 72 r72 := mT Tryz.underlying72
abbrev r73 : TyR := u0
theorem ty73 : TyOk Tryz.prog 73 r73 := mT Tryz.underlying73
abbrev r75 : TyR := u0
theorem ty75 : TyOk Tryz.prog 75 r75 := mT Tryz.underlying75
abbrev r76 : TyR := u0
theorem ty76 : TyOk Tryz.prog 76 r76 := mT Tryz.underlying76
abbrev r77 : TyR := u0
theorem ty77 : TyOk Tryz.prog 77 r77 := mT Tryz.underlying77
abbrev r78 : TyR := { desc := .slice 9, size := 1, bytes := 24, zero := .sc (.slice none 0 0) }
theorem ty78 : TyOk Tryz.prog 78 r78 := mT Tryz.underlying78
abbrev r79 : TyR := { desc := .array 3 3, size := 3, bytes := 24, zero := .cons (.sc (.int .i64 0)) (.cons (.sc (.int .i64 0)) (.cons (.sc (.int .i64 0)) (.nil))) }
theorem ty79 : TyOk Tryz.prog 79 r79 := mT Tryz.underlying79
abbrev r80 : TyR := u0
theorem ty80 : TyOk Tryz.prog 80 r80 := mT Tryz.underlying80
abbrev r81 : TyR := u0
theorem ty81 : TyOk Tryz.prog 81 r81 := mT Tryz.underlying81
abbrev r82 : TyR := u0
theorem ty82 : TyOk Tryz.prog 82 r82 := mT Tryz.underlying82
abbrev r83 : TyR := u0
theorem ty83 : TyOk Tryz.prog 83 r83 := mT Tryz.underlying83
abbrev r84 : TyR := u1
theorem ty84 : TyOk Tryz.prog 84 r84 := mT Tryz.underlying84
abbrev r85 : TyR := { desc := .struct [(0, 84), (1, 34)], size := 2, bytes := 32, zero := .cons (.sc (.pointer none)) (.cons (.sc (.slice none 0 0)) (.nil)) }
theorem ty85 : TyOk Tryz.prog 85 r85 := mT Tryz.underlying85
abbrev r86 : TyR := { desc := .struct [(0, 84), (1, 34)], size := 2, bytes := 32, zero := .cons (.sc (.pointer none)) (.cons (.sc (.slice none 0 0)) (.nil)) }
theorem ty86 : TyOk Tryz.prog 86 r86 := mT Tryz.underlying86
abbrev r87 : TyR := u5
theorem ty87 : TyOk Tryz.prog 87 r87 := mT Tryz.underlying87
abbrev r88 : TyR := u5
theorem ty88 : TyOk Tryz.prog 88 r88 := mT Tryz.underlying88
abbrev r90 : TyR := u0
theorem ty90 : TyOk Tryz.prog 90 r90 := mT Tryz.underlying90
abbrev r91 : TyR := u0
theorem ty91 : TyOk Tryz.prog 91 r91 := mT Tryz.underlying91
abbrev r92 : TyR := u0
theorem ty92 : TyOk Tryz.prog 92 r92 := mT Tryz.underlying92
abbrev r93 : TyR := u0
theorem ty93 : TyOk Tryz.prog 93 r93 := mT Tryz.underlying93
abbrev r94 : TyR := u0
theorem ty94 : TyOk Tryz.prog 94 r94 := mT Tryz.underlying94
abbrev r96 : TyR := u0
theorem ty96 : TyOk Tryz.prog 96 r96 := mT Tryz.underlying96
abbrev r97 : TyR := u0
theorem ty97 : TyOk Tryz.prog 97 r97 := mT Tryz.underlying97
abbrev r98 : TyR := u0
theorem ty98 : TyOk Tryz.prog 98 r98 := mT Tryz.underlying98
abbrev r100 : TyR := u0
theorem ty100 : TyOk Tryz.prog 100 r100 := mT Tryz.underlying100
abbrev r102 : TyR := u0
theorem ty102 : TyOk Tryz.prog 102 r102 := mT Tryz.underlying102
abbrev r104 : TyR := u0
theorem ty104 : TyOk Tryz.prog 104 r104 := mT Tryz.underlying104
abbrev r105 : TyR := u0
theorem ty105 : TyOk Tryz.prog 105 r105 := mT Tryz.underlying105
abbrev r106 : TyR := u0
theorem ty106 : TyOk Tryz.prog 106 r106 := mT Tryz.underlying106
abbrev r107 : TyR := u0
theorem ty107 : TyOk Tryz.prog 107 r107 := mT Tryz.underlying107
abbrev r108 : TyR := u1
theorem ty108 : TyOk Tryz.prog 108 r108 := mT Tryz.underlying108
abbrev r109 : TyR := u0
theorem ty109 : TyOk Tryz.prog 109 r109 := mT Tryz.underlying109
abbrev r110 : TyR := u0
theorem ty110 : TyOk Tryz.prog 110 r110 := mT Tryz.underlying110
abbrev r112 : TyR := u0
theorem ty112 : TyOk Tryz.prog 112 r112 := mT Tryz.underlying112
abbrev r113 : TyR := u0
theorem ty113 : TyOk Tryz.prog 113 r113 := mT Tryz.underlying113
abbrev r114 : TyR := u0
theorem ty114 : TyOk Tryz.prog 114 r114 := mT Tryz.underlying114
abbrev r115 : TyR := u0
theorem ty115 : TyOk Tryz.prog 115 r115 := mT Tryz.underlying115
abbrev r116 : TyR := u0
theorem ty116 : TyOk Tryz.prog 116 r116 := mT Tryz.underlying116
abbrev r117 : TyR := u0
theorem ty117 : TyOk Tryz.prog 117 r117 := mT Tryz.underlying117
abbrev r118 : TyR := u0
theorem ty118 : TyOk Tryz.prog 118 r118 := mT Tryz.underlying118
abbrev r119 : TyR := u0
theorem ty119 : TyOk Tryz.prog 119 r119 := mT Tryz.underlying119
abbrev r120 : TyR := u0
theorem ty120 : TyOk Tryz.prog 120 r120 := mT Tryz.underlying120
abbrev r121 : TyR := u0
theorem ty121 : TyOk Tryz.prog 121 r121 := mT Tryz.underlying121
abbrev r122 : TyR := u0
theorem ty122 : TyOk Tryz.prog 122 r122 := mT Tryz.underlying122
abbrev r123 : TyR := u0
theorem ty123 : TyOk Tryz.prog 123 r123 := mT Tryz.underlying123
abbrev r124 : TyR := u0
theorem ty124 : TyOk Tryz.prog 124 r124 := mT Tryz.underlying124
abbrev r125 : TyR := u4
theorem ty125 : TyOk Tryz.prog 125 r125 := mT Tryz.underlying125
abbrev r126 : TyR := u1
theorem ty126 : TyOk Tryz.prog 126 r126 := mT Tryz.underlying126
abbrev r127 : TyR := { desc := .struct [(0, 3), (1, 50)], size := 2, bytes := 32, zero := .cons (.sc (.int .i64 0)) (.cons (.sc (.slice none 0 0)) (.nil)) }
theorem ty127 : TyOk Tryz.prog 127 r127 := mT Tryz.underlying127
abbrev r128 : TyR := { desc := .struct [(0, 3), (1, 50)], size := 2, bytes := 32, zero := .cons (.sc (.int .i64 0)) (.cons (.sc (.slice none 0 0)) (.nil)) }
theorem ty128 : TyOk Tryz.prog 128 r128 := mT Tryz.underlying128
abbrev r130 : TyR := u0
theorem ty130 : TyOk Tryz.prog 130 r130 := mT Tryz.underlying130
abbrev r131 : TyR := { desc := .slice 22, size := 1, bytes := 24, zero := .sc (.slice none 0 0) }
theorem ty131 : TyOk Tryz.prog 131 r131 := mT Tryz.underlying131
abbrev r133 : TyR := u0
theorem ty133 : TyOk Tryz.prog 133 r133 := mT Tryz.underlying133
abbrev r135 : TyR := u0
theorem ty135 : TyOk Tryz.prog 135 r135 := mT Tryz.underlying135
abbrev r136 : TyR := { desc := .cell, size := 1, bytes := 8, zero := .sc (.map none) }
theorem ty136 : TyOk Tryz.prog 136 r136 := mT Tryz.underlying136
abbrev r137 : TyR := u0
theorem ty137 : TyOk Tryz.prog 137 r137 := mT Tryz.underlying137
abbrev r138 : TyR := u0
theorem ty138 : TyOk Tryz.prog 138 r138 := mT Tryz.underlying138
abbrev r141 : TyR := u0
theorem ty141 : TyOk Tryz.prog 141 r141 := mT Tryz.underlying141
abbrev r143 : TyR := u0
theorem ty143 : TyOk Tryz.prog 143 r143 := mT Tryz.underlying143
abbrev r144 : TyR := u0
theorem ty144 : TyOk Tryz.prog 144 r144 := mT Tryz.underlying144
abbrev r145 : TyR := u0
theorem ty145 : TyOk Tryz.prog 145 r145 := mT Tryz.underlying145
abbrev r146 : TyR := u0
theorem ty146 : TyOk Tryz.prog 146 r146 := mT Tryz.underlying146
abbrev r147 : TyR := u1
theorem ty147 : TyOk Tryz.prog 147 r147 := mT Tryz.underlying147
abbrev r148 : TyR := { desc := .struct [(0, 78), (1, 4)], size := 2, bytes := 32, zero := .cons (.sc (.slice none 0 0)) (.cons (.sc (.bool false)) (.nil)) }
theorem ty148 : TyOk Tryz.prog 148 r148 := mT Tryz.underlying148
abbrev r149 : TyR := { desc := .struct [(0, 78), (1, 4)], size := 2, bytes := 32, zero := .cons (.sc (.slice none 0 0)) (.cons (.sc (.bool false)) (.nil)) }
theorem ty149 : TyOk Tryz.prog 149 r149 := mT Tryz.underlying149
abbrev r150 : TyR := u0
theorem ty150 : TyOk Tryz.prog 150 r150 := mT Tryz.underlying150
abbrev r151 : TyR := u0
theorem ty151 : TyOk Tryz.prog 151 r151 := mT Tryz.underlying151
abbrev r152 : TyR := u0
theorem ty152 : TyOk Tryz.prog 152 r152 := mT Tryz.underlying152
abbrev r153 : TyR := u0
theorem ty153 : TyOk Tryz.prog 153 r153 := mT Tryz.underlying153
abbrev r155 : TyR := u0
theorem ty155 : TyOk Tryz.prog 155 r155 := mT Tryz.underlying155
abbrev r156 : TyR := u0
theorem ty156 : TyOk Tryz.prog 156 r156 := mT Tryz.underlying156
abbrev r157 : TyR := u0
theorem ty157 : TyOk Tryz.prog 157 r157 := mT Tryz.underlying157
abbrev r158 : TyR := u0
theorem ty158 : TyOk Tryz.prog 158 r158 := mT Tryz.underlying158
abbrev r159 : TyR := u0
theorem ty159 : TyOk Tryz.prog 159 r159 := mT Tryz.underlying159
abbrev r160 : TyR := u0
theorem ty160 : TyOk Tryz.prog 160 r160 := mT Tryz.underlying160
abbrev r161 : TyR := u0
theorem ty161 : TyOk Tryz.prog 161 r161 := mT Tryz.underlying161
abbrev r162 : TyR := u0
theorem ty162 : TyOk Tryz.prog 162 r162 := mT Tryz.underlying162
abbrev r163 : TyR := u0
theorem ty163 : TyOk Tryz.prog 163 r163 := mT Tryz.underlying163
abbrev r164 : TyR := u0
theorem ty164 : TyOk Tryz.prog 164 r164 := mT Tryz.underlying164
abbrev r165 : TyR := u0
theorem ty165 : TyOk Tryz.prog 165 r165 := mT Tryz.underlying165
abbrev r166 : TyR := u0
theorem ty166 : TyOk Tryz.prog 166 r166 := mT Tryz.underlying166
abbrev r168 : TyR := u0
theorem ty168 : TyOk Tryz.prog 168 r168 := mT Tryz.underlying168
abbrev r169 : TyR := { desc := .array 24 5, size := 24, bytes := 24, zero := .vec 24 1 encU8 (List.replicate 24 0) }
theorem ty169 : TyOk Tryz.prog 169 r169 := mT Tryz.underlying169
abbrev r170 : TyR := u0
theorem ty170 : TyOk Tryz.prog 170 r170 := mT Tryz.underlying170
abbrev r171 : TyR := u0
theorem ty171 : TyOk Tryz.prog 171 r171 := mT Tryz.underlying171
abbrev r173 : TyR := u0
theorem ty173 : TyOk Tryz.prog 173 r173 := mT Tryz.underlying173
abbrev r174 : TyR := u0
theorem ty174 : TyOk Tryz.prog 174 r174 := mT Tryz.underlying174
abbrev r175 : TyR := u0
theorem ty175 : TyOk Tryz.prog 175 r175 := mT Tryz.underlying175
abbrev r176 : TyR := u0
theorem ty176 : TyOk Tryz.prog 176 r176 := mT Tryz.underlying176
abbrev r177 : TyR := u0
theorem ty177 : TyOk Tryz.prog 177 r177 := mT Tryz.underlying177
abbrev r178 : TyR := u0
theorem ty178 : TyOk Tryz.prog 178 r178 := mT Tryz.underlying178
abbrev r180 : TyR := u0
theorem ty180 : TyOk Tryz.prog 180 r180 := mT Tryz.underlying180
abbrev r181 : TyR := u0
theorem ty181 : TyOk Tryz.prog 181 r181 := mT Tryz.underlying181
abbrev r182 : TyR := { desc := .cell, size := 1, bytes := 8, zero := .sc (.map none) }
theorem ty182 : TyOk Tryz.prog 182 r182 := mT Tryz.underlying182
abbrev r183 : TyR := { desc := .slice 185, size := 1, bytes := 24, zero := .sc (.slice none 0 0) }
theorem ty183 : TyOk Tryz.prog 183 r183 := mT Tryz.underlying183
abbrev r184 : TyR := { desc := .struct [(0, 5), (1, 5), (2, 5)], size := 3, bytes := 3, zero := .cons (.sc (.int .u8 0)) (.cons (.sc (.int .u8 0)) (.cons (.sc (.int .u8 0)) (.nil))) }
theorem ty184 : TyOk Tryz.prog 184 r184 := mT Tryz.underlying184
abbrev r185 : TyR := { desc := .struct [(0, 5), (1, 5), (2, 5)], size := 3, bytes := 3, zero := .cons (.sc (.int .u8 0)) (.cons (.sc (.int .u8 0)) (.cons (.sc (.int .u8 0)) (.nil))) }
theorem ty185 : TyOk Tryz.prog 185 r185 := mT Tryz.underlying185
abbrev r186 : TyR := u0
theorem ty186 : TyOk Tryz.prog 186 r186 := mT Tryz.underlying186
abbrev r187 : TyR := u0
theorem ty187 : TyOk Tryz.prog 187 r187 := mT Tryz.underlying187
abbrev r188 : TyR := u0
theorem ty188 : TyOk Tryz.prog 188 r188 := mT Tryz.underlying188
abbrev r189 : TyR := { desc := .array 20 22, size := 20, bytes := 160, zero := .cons (.sc (.int .u64 0)) (.cons (.sc (.int .u64 0)) (.cons (.sc (.int .u64 0)) (.cons (.sc (.int .u64 0)) (.cons (.sc (.int .u64 0)) (.cons (.sc (.int .u64 0)) (.cons (.sc (.int .u64 0)) (.cons (.sc (.int .u64 0)) (.cons (.sc (.int .u64 0)) (.cons (.sc (.int .u64 0)) (.cons (.sc (.int .u64 0)) (.cons (.sc (.int .u64 0)) (.cons (.sc (.int .u64 0)) (.cons (.sc (.int .u64 0)) (.cons (.sc (.int .u64 0)) (.cons (.sc (.int .u64 0)) (.cons (.sc (.int .u64 0)) (.cons (.sc (.int .u64 0)) (.cons (.sc (.int .u64 0)) (.cons (.sc (.int .u64 0)) (.nil)))))))))))))))))))) }
theorem ty189 : TyOk Tryz.prog 189 r189 := mT Tryz.underlying189
abbrev r190 : TyR := { desc := .int .u32, size := 1, bytes := 4, zero := .sc (.int .u32 0) }
theorem ty190 : TyOk Tryz.prog 190 r190 := mT Tryz.underlying190
abbrev r191 : TyR := { desc := .array 65 5, size := 65, bytes := 65, zero := .vec 65 1 encU8 (List.replicate 65 0) }
theorem ty191 : TyOk Tryz.prog 191 r191 := mT Tryz.underlying191
abbrev r192 : TyR := u0
theorem ty192 : TyOk Tryz.prog 192 r192 := mT Tryz.underlying192
abbrev r193 : TyR := u0
theorem ty193 : TyOk Tryz.prog 193 r193 := mT Tryz.underlying193
abbrev r194 : TyR := { desc := .slice 78, size := 1, bytes := 24, zero := .sc (.slice none 0 0) }
theorem ty194 : TyOk Tryz.prog 194 r194 := mT Tryz.underlying194
abbrev r195 : TyR := u0
theorem ty195 : TyOk Tryz.prog 195 r195 := mT Tryz.underlying195
abbrev r196 : TyR := u0
theorem ty196 : TyOk Tryz.prog 196 r196 := mT Tryz.underlying196
abbrev r198 : TyR := u0
theorem ty198 : TyOk Tryz.prog 198 r198 := mT Tryz.underlying198
abbrev r199 : TyR := u0
theorem ty199 : TyOk Tryz.prog 199 r199 := mT Tryz.underlying199
abbrev r200 : TyR := u0
theorem ty200 : TyOk Tryz.prog 200 r200 := mT Tryz.underlying200
abbrev r201 : TyR := u0
theorem ty201 : TyOk Tryz.prog 201 r201 := mT Tryz.underlying201
abbrev r202 : TyR := u2
theorem ty202 : TyOk Tryz.prog 202 r202 := mT Tryz.underlying202
abbrev r203 : TyR := u0
theorem ty203 : TyOk Tryz.prog 203 r203 := mT Tryz.underlying203
abbrev r204 : TyR := u1
theorem ty204 : TyOk Tryz.prog 204 r204 := mT Tryz.underlying204
abbrev r205 : TyR := u0
theorem ty205 : TyOk Tryz.prog 205 r205 := mT Tryz.underlying205
abbrev r206 : TyR := u0
theorem ty206 : TyOk Tryz.prog 206 r206 := mT Tryz.underlying206
abbrev r207 : TyR := { desc := .array 64 5, size := 64, bytes := 64, zero := .vec 64 1 encU8 (List.replicate 64 0) }
theorem ty207 : TyOk Tryz.prog 207 r207 := mT Tryz.underlying207
abbrev r209 : TyR := u0
theorem ty209 : TyOk Tryz.prog 209 r209 := mT Tryz.underlying209
abbrev r211 : TyR := u0
theorem ty211 : TyOk Tryz.prog 211 r211 := mT Tryz.underlying211
abbrev r212 : TyR := { desc := .array 256 5, size := 256, bytes := 256, zero := .vec 256 1 encU8 (List.replicate 256 0) }
theorem ty212 : TyOk Tryz.prog 212 r212 := mT Tryz.underlying212
abbrev r213 : TyR := { desc := .struct [(0, 5), (1, 5)], size := 2, bytes := 2, zero := .cons (.sc (.int .u8 0)) (.cons (.sc (.int .u8 0)) (.nil)) }
theorem ty213 : TyOk Tryz.prog 213 r213 := mT Tryz.underlying213
abbrev r214 : TyR := { desc := .struct [(0, 5), (1, 5)], size := 2, bytes := 2, zero := .cons (.sc (.int .u8 0)) (.cons (.sc (.int .u8 0)) (.nil)) }
theorem ty214 : TyOk Tryz.prog 214 r214 := mT Tryz.underlying214
abbrev r215 : TyR := { desc := .array 16 214, size := 32, bytes := 32, zero := .cons (.cons (.sc (.int .u8 0)) (.cons (.sc (.int .u8 0)) (.nil))) (.cons (.cons (.sc (.int .u8 0)) (.cons (.sc (.int .u8 0)) (.nil))) (.cons (.cons (.sc (.int .u8 0)) (.cons (.sc (.int .u8 0)) (.nil))) (.cons (.cons (.sc (.int .u8 0)) (.cons (.sc (.int .u8 0)) (.nil))) (.cons (.cons (.sc (.int .u8 0)) (.cons (.sc (.int .u8 0)) (.nil))) (.cons (.cons (.sc (.int .u8 0)) (.cons (.sc (.int .u8 0)) (.nil))) (.cons (.cons (.sc (.int .u8 0)) (.cons (.sc (.int .u8 0)) (.nil))) (.cons (.cons (.sc (.int .u8 0)) (.cons (.sc (.int .u8 0)) (.nil))) (.cons (.cons (.sc (.int .u8 0)) (.cons (.sc (.int .u8 0)) (.nil))) (.cons (.cons (.sc (.int .u8 0)) (.cons (.sc (.int .u8 0)) (.nil))) (.cons (.cons (.sc (.int .u8 0)) (.cons (.sc (.int .u8 0)) (.nil))) (.cons (.cons (.sc (.int .u8 0)) (.cons (.sc (.int .u8 0)) (.nil))) (.cons (.cons (.sc (.int .u8 0)) (.cons (.sc (.int .u8 0)) (.nil))) (.cons (.cons (.sc (.int .u8 0)) (.cons (.sc (.int .u8 0)) (.nil))) (.cons (.cons (.sc (.int .u8 0)) (.cons (.sc (.int .u8 0)) (.nil))) (.cons (.cons (.sc (.int .u8 0)) (.cons (.sc (.int .u8 0)) (.nil))) (.nil)))))))))))))))) }
theorem ty215 : TyOk Tryz.prog 215 r215 := mT Tryz.underlying215
abbrev r216 : TyR := u0
theorem ty216 : TyOk Tryz.prog 216 r216 := mT Tryz.underlying216
abbrev r217 : TyR := { desc := .struct [(0, 9), (1, 9), (2, 88)], size := 3, bytes := 48, zero := .cons (.sc (.string ⟨#[]⟩)) (.cons (.sc (.string ⟨#[]⟩)) (.cons (.sc .nilIface) (.nil))) }
theorem ty217 : TyOk Tryz.prog 217 r217 := mT Tryz.underlying217
abbrev r218 : TyR := { desc := .struct [(0, 9), (1, 9), (2, 88)], size := 3, bytes := 48, zero := .cons (.sc (.string ⟨#[]⟩)) (.cons (.sc (.string ⟨#[]⟩)) (.cons (.sc .nilIface) (.nil))) }
theorem ty218 : TyOk Tryz.prog 218 r218 := mT Tryz.underlying218
abbrev r219 : TyR := u0
theorem ty219 : TyOk Tryz.prog 219 r219 := mT Tryz.underlying219
abbrev r220 : TyR := u1
theorem ty220 : TyOk Tryz.prog 220 r220 := mT Tryz.underlying220
abbrev r221 : TyR := { desc := .struct [(0, 9)], size := 1, bytes := 16, zero := .cons (.sc (.string ⟨#[]⟩)) (.nil) }
theorem ty221 : TyOk Tryz.prog 221 r221 := mT Tryz.underlying221
abbrev r222 : TyR := { desc := .struct [(0, 9)], size := 1, bytes := 16, zero := .cons (.sc (.string ⟨#[]⟩)) (.nil) }
theorem ty222 : TyOk Tryz.prog 222 r222 := mT Tryz.underlying222
abbrev r225 : TyR := { desc := .array 0 16, size := 0, bytes := 0, zero := .nil }
theorem ty225 : TyOk Tryz.prog 225 r225 := mT Tryz.underlying225
abbrev r230 : TyR := u0
theorem ty230 : TyOk Tryz.prog 230 r230 := mT Tryz.underlying230
abbrev tab : Tab := [(1, r1), (2, r2), (3, r3), (4, r4), (5, r5), (9, r9), (12, r12), (13, r13), (20, r20), (21, r21), (22, r22), (23, r23), (24, r24), (25, r25), (26, r26), (27, r27), (28, r28), (29, r29), (30, r30), (31, r31), (32, r32), (33, r33), (34, r34), (35, r35), (36, r36), (37, r37), (38, r38), (39, r39), (40, r40), (41, r41), (43, r43), (44, r44), (46, r46), (47, r47), (48, r48), (49, r49), (50, r50), (51, r51), (52, r52), (53, r53), (55, r55), (56, r56), (57, r57), (58, r58), (59, r59), (60, r60), (61, r61), (62, r62), (63, r63), (64, r64), (65, r65), (66, r66), (67, r67), (68, r68), (69, r69), (70, r70), (71, r71), (72, r72), (73, r73), (75, r75), (76, r76), (77, r77), (78, r78), (79, r79), (80, r80), (81, r81), (82, r82), (83, r83), (84, r84), (85, r85), (86, r86), (87, r87), (88, r88), (90, r90), (91, r91), (92, r92), (93, r93), (94, r94), (96, r96), (97, r97), (98, r98), (100, r100), (102, r102), (104, r104), (105, r105), (106, r106), (107, r107), (108, r108), (109, r109), (110, r110), (112, r112), (113, r113), (114, r114), (115, r115), (116, r116), (117, r117), (118, r118), (119, r119), (120, r120), (121, r121), (122, r122), (123, r123), (124, r124), (125, r125), (126, r126), (127, r127), (128, r128), (130, r130), (131, r131), (133, r133), (135, r135), (136, r136), (137, r137), (138, r138), (141, r141), (143, r143), (144, r144), (145, r145), (146, r146), (147, r147), (148, r148), (149, r149), (150, r150), (151, r151), (152, r152), (153, r153), (155, r155), (156, r156), (157, r157), (158, r158), (159, r159), (160, r160), (161, r161), (162, r162), (163, r163), (164, r164), (165, r165), (166, r166), (168, r168), (169, r169), (170, r170), (171, r171), (173, r173), (174, r174), (175, r175), (176, r176), (177, r177), (178, r178), (180, r180), (181, r181), (182, r182), (183, r183), (184, r184), (185, r185), (186, r186), (187, r187), (188, r188), (189, r189), (190, r190), (191, r191), (192, r192), (193, r193), (194, r194), (195, r195), (196, r196), (198, r198), (199, r199), (200, r200), (201, r201), (202, r202), (203, r203), (204, r204), (205, r205), (206, r206), (207, r207), (209, r209), (211, r211), (212, r212), (213, r213), (214, r214), (215, r215), (216, r216), (217, r217), (218, r218), (219, r219), (220, r220), (221, r221), (222, r222), (225, r225), (230, r230)]
theorem tab_ok : TabOk Tryz.prog tab :=
 (TabOk.cons ty1 (TabOk.cons ty2 (TabOk.cons ty3 (TabOk.cons ty4 (TabOk.cons ty5 (TabOk.cons ty9 (TabOk.cons ty12 (TabOk.cons ty13 (TabOk.cons ty20 (TabOk.cons ty21 (TabOk.cons ty22 (TabOk.cons ty23 (TabOk.cons ty24 (TabOk.cons ty25 (TabOk.cons ty26 (TabOk.cons ty27 (TabOk.cons ty28 (TabOk.cons ty29 (TabOk.cons ty30 (TabOk.cons ty31 (TabOk.cons ty32 (TabOk.cons ty33 (TabOk.cons ty34 (TabOk.cons ty35 (TabOk.cons ty36 (TabOk.cons ty37 (TabOk.cons ty38 (TabOk.cons ty39 (TabOk.cons ty40 (TabOk.cons ty41 (TabOk.cons ty43 (TabOk.cons ty44 (TabOk.cons ty46 (TabOk.cons ty47 (TabOk.cons ty48 (TabOk.cons ty49 (TabOk.cons ty50 (TabOk.cons ty51 (TabOk.cons ty52 (TabOk.cons ty53 (TabOk.cons ty55 (TabOk.cons ty56 (TabOk.cons ty57 (TabOk.cons ty58 (TabOk.cons ty59 (TabOk.cons ty60 (TabOk.cons ty61 (TabOk.cons ty62 (TabOk.cons ty63 (TabOk.cons ty64 (TabOk.cons ty65 (TabOk.cons ty66 (TabOk.cons ty67 (TabOk.cons ty68 (TabOk.cons ty69 (TabOk.cons ty70 (TabOk.cons ty71 (TabOk.cons ty72 (TabOk.cons ty73 (TabOk.cons ty75 (TabOk.cons ty76 (TabOk.cons ty77 (TabOk.cons ty78 (TabOk.cons ty79 (TabOk.cons ty80 (TabOk.cons ty81 (TabOk.cons ty82 (TabOk.cons ty83 (TabOk.cons ty84 (TabOk.cons ty85 (TabOk.cons ty86 (TabOk.cons ty87 (TabOk.cons ty88 (TabOk.cons ty90 (TabOk.cons ty91 (TabOk.cons ty92 (TabOk.cons ty93 (TabOk.cons ty94 (TabOk.cons ty96 (TabOk.cons ty97 (TabOk.cons ty98 (TabOk.cons ty100 (TabOk.cons ty102 (TabOk.cons ty104 (TabOk.cons ty105 (TabOk.cons ty106 (TabOk.cons ty107 (TabOk.cons ty108 (TabOk.cons ty109 (TabOk.cons ty110 (TabOk.cons ty112 (TabOk.cons ty113 (TabOk.cons ty114 (TabOk.cons ty115 (TabOk.cons ty116 (TabOk.cons ty117 (TabOk.cons ty118 (TabOk.cons ty119 (TabOk.cons ty120 (TabOk.cons ty121 (TabOk.cons ty122 (TabOk.cons ty123 (TabOk.cons ty124 (TabOk.cons ty125 (TabOk.cons ty126 (TabOk.cons ty127 (TabOk.cons ty128 (TabOk.cons ty130 (TabOk.cons ty131 (TabOk.cons ty133 (TabOk.cons ty135 (TabOk.cons ty136 (TabOk.cons ty137 (TabOk.cons ty138 (TabOk.cons ty141 (TabOk.cons ty143 (TabOk.cons ty144 (TabOk.cons ty145 (TabOk.cons ty146 (TabOk.cons ty147 (TabOk.cons ty148 (TabOk.cons ty149 (TabOk.cons ty150 (TabOk.cons ty151 (TabOk.cons ty152 (TabOk.cons ty153 (TabOk.cons ty155 (TabOk.cons ty156 (TabOk.cons ty157 (TabOk.cons ty158 (TabOk.cons ty159 (TabOk.cons ty160 (TabOk.cons ty161 (TabOk.cons ty162 (TabOk.cons ty163 (TabOk.cons ty164 (TabOk.cons ty165 (TabOk.cons ty166 (TabOk.cons ty168 (TabOk.cons ty169 (TabOk.cons ty170 (TabOk.cons ty171 (TabOk.cons ty173 (TabOk.cons ty174 (TabOk.cons ty175 (TabOk.cons ty176 (TabOk.cons ty177 (TabOk.cons ty178 (TabOk.cons ty180 (TabOk.cons ty181 (TabOk.cons ty182 (TabOk.cons ty183 (TabOk.cons ty184 (TabOk.cons ty185 (TabOk.cons ty186 (TabOk.cons ty187 (TabOk.cons ty188 (TabOk.cons ty189 (TabOk.cons ty190 (TabOk.cons ty191 (TabOk.cons ty192 (TabOk.cons ty193 (TabOk.cons ty194 (TabOk.cons ty195 (TabOk.cons ty196 (TabOk.cons ty198 (TabOk.cons ty199 (TabOk.cons ty200 (TabOk.cons ty201 (TabOk.cons ty202 (TabOk.cons ty203 (TabOk.cons ty204 (TabOk.cons ty205 (TabOk.cons ty206 (TabOk.cons ty207 (TabOk.cons ty209 (TabOk.cons ty211 (TabOk.cons ty212 (TabOk.cons ty213 (TabOk.cons ty214 (TabOk.cons ty215 (TabOk.cons ty216 (TabOk.cons ty217 (TabOk.cons ty218 (TabOk.cons ty219 (TabOk.cons ty220 (TabOk.cons ty221 (TabOk.cons ty222 (TabOk.cons ty225 (TabOk.cons ty230 TabOk.nil))))))))))))))))))))))))))))))))))))))))))))))))))))))))))))))))))))))))))))))))))))))))))))))))))))))))))))))))))))))))))))))))))))))))))))))))))))))))))))))))))))))))))))))))))))))))))))))
end Go.Proofs.YthiijfbcfoifnaaGreatDoor
namespace Go.Proofs.YthiijfbcfoifnaaGreatDoor
open Go.Eng
section
variable {sz n : Nat} {env : Env} {h : Upds} {all l : List Oper} {Q : Exit → St → Prop} {y : Code} {id : Nat} {ops : Array Oper} {K : Env → Upds → Nat → Prop} {d : Tmp} {op : Op} {ty : TypeId} {pos : String} {af : Array Edge} {v : AV}
theorem rC (h1 : RegS Tryz.prog all sz l (n + 8) ((d, v) :: env) h K) (hd : Nat.blt d sz = true := by exact rfl) (hop : ∀ K : Option AV → Upds → Prop, K (some v) [] → opD tab op (evalA env) (lookH h) n K := by exact fun _ h => h) :
  RegS Tryz.prog all sz (⟨some d, op, ty, pos, af, none⟩ :: l) n env h K := reg_quiet hd (step_C tab_ok hop) h1
theorem rQ (hs : StepIs Tryz.prog op env h n (some v) []) (h1 : RegS Tryz.prog all sz l (n + 8) ((d, v) :: env) h K) (hd : Nat.blt d sz = true := by exact rfl) :
  RegS Tryz.prog all sz (⟨some d, op, ty, pos, af, none⟩ :: l) n env h K := reg_quiet hd hs h1
theorem rN {x : Nat × Option Row} (h1 : RegS Tryz.prog all sz l (n + 8) ((d, v) :: env) (x :: h) K) (hd : Nat.blt d sz = true := by exact rfl) (hop : ∀ K : Option AV → Upds → Prop, K (some v) [x] → opD tab op (evalA env) (lookH h) n K := by exact fun _ h => h) :
  RegS Tryz.prog all sz (⟨some d, op, ty, pos, af, none⟩ :: l) n env h K := reg_new (step_C tab_ok hop) hd h1
theorem nS {b : Code} (h1 : WC Tryz.prog sz b Q env h n) : RegS Tryz.prog all sz [] n env h (RegK (SeqQ Tryz.prog b Q) sz) := reg_nil (seq_n h1)
theorem sR (h1 : RegS Tryz.prog ops.toList sz ops.toList n env h (RegK (SeqQ Tryz.prog y Q) sz)) : WC Tryz.prog sz (.seq (.region id ops false) y) Q env h n := wc_seq (wc_region h1)
theorem kS {b : Code} (h1 : WC Tryz.prog sz b Q env h n) : WC Tryz.prog sz .skip (SeqQ Tryz.prog b Q) env h n := wc_skip (seq_n h1)
theorem nQ {b c : Code} (h1 : WC Tryz.prog sz b (SeqQ Tryz.prog c Q) env h n) : RegS Tryz.prog all sz [] n env h (RegK (SeqQ Tryz.prog (.seq b c) Q) sz) := nS (wc_seq h1)
theorem qR {c : Code} (h1 : RegS Tryz.prog ops.toList sz ops.toList n env h (RegK (SeqQ Tryz.prog y (SeqQ Tryz.prog c Q)) sz)) : WC Tryz.prog sz (.seq (.seq (.region id ops false) y) c) Q env h n := wc_seq (sR h1)
theorem lf {l : Names} {st st' : St} (h1 : injOn (rho l) (keysOf st'.heap) = true := by exact rfl) (h2 : st'.sz = st.sz := by exact rfl) (h3 : st'.bs = st.bs := by exact rfl) (h4 : Nat.ble st'.bs st'.next = true := by exact rfl) (h5 : namesFrom st'.bs l = true := by exact rfl)
  (h6 : LeEnv (rho l) st.env st'.next st'.env := by exact ⟨⟨_, rfl, AVLe.of_eq rfl⟩, rfl, trivial⟩) (h7 : LeRows (rho l) st st'.next st'.heap := by exact trivial) : Le l st st' := .of h1 h2 h3 h4 h5 h6 h7
theorem nR (h1 : RegS Tryz.prog ops.toList sz ops.toList n env h (RegK (SeqQ Tryz.prog y Q) sz)) : RegS Tryz.prog all sz [] n env h (RegK (SeqQ Tryz.prog (.seq (.region id ops false) y) Q) sz) := nS (sR h1)
section
variable {dd : Option Tmp} {j g : Nat} {want b : Bool} {env' : Env}
theorem rO (h1 : RegS Tryz.prog all sz (⟨dd, op, ty, pos, af, none⟩ :: l) n env h K) (hj : ((all[j]?).bind (·.dst)) = some g := by exact rfl) (hb : lk env g = some (.bool b) := by exact rfl) (he : b = want := by assumption) :
  RegS Tryz.prog all sz (⟨dd, op, ty, pos, af, some (j, want)⟩ :: l) n env h K := reg_on hj hb he h1
theorem rP (h1 : RegS Tryz.prog all sz (⟨dd, op, ty, pos, af, none⟩ :: l) n env h K) (hj : ((all[j]?).bind (·.dst)) = some g := by exact rfl) (hb : lk env g = some (.bool b) := by exact rfl) (he : b = want := by exact rfl) :
  RegS Tryz.prog all sz (⟨dd, op, ty, pos, af, some (j, want)⟩ :: l) n env h K := reg_on hj hb he h1
theorem rS (h1 : RegS Tryz.prog all sz l (n + 8) env' h K) (hj : ((all[j]?).bind (·.dst)) = some g := by exact rfl) (hb : lk env g = some (.bool b) := by exact rfl) (he : b = !want := by assumption) (hd : dstOk dd sz = true := by exact rfl) (he' : putE dd none env = env' := by exact rfl) :
  RegS Tryz.prog all sz (⟨dd, op, ty, pos, af, some (j, want)⟩ :: l) n env h K := reg_skip hj hb he hd he' h1
theorem rT (h1 : RegS Tryz.prog all sz l (n + 8) env' h K) (hj : ((all[j]?).bind (·.dst)) = some g := by exact rfl) (hb : lk env g = some (.bool b) := by exact rfl) (he : b = !want := by exact rfl) (hd : dstOk dd sz = true := by exact rfl) (he' : putE dd none env = env' := by exact rfl) :
  RegS Tryz.prog all sz (⟨dd, op, ty, pos, af, some (j, want)⟩ :: l) n env h K := reg_skip hj hb he hd he' h1
end
section
variable {t t' e s m : Nat} {x z i : Operand}
theorem iA {re : TyR} {α : Type} {enc : α → D} {xs : List α} {k : IntKind} {m : Int} {el : α} (hx : evalA env x = some (.d (.arr s enc xs)) := by exact rfl) (hi : evalA env i = some (.int k m) := by exact rfl) (ht : tdesc tab t = some (.slice e) := by exact rfl) (he : lk tab e = some re := by exact rfl) (hs : Nat.beq re.size s = true := by exact rfl)
  (h0 : 0 ≤ m := by omega) (hel : xs[m.toNat]? = some el := by assumption) : StepIs Tryz.prog (.indexAddr t x i) env h n (some (.iptr (enc el))) [] := index_arr tab_ok ht he hs hx hi h0 hel
theorem iL {y : D} (hx : evalA env x = some (.iptr y) := by exact rfl) (hs : sizeOk tab t (.d y) = true := by exact rfl) : StepIs Tryz.prog (.load t x) env h n (some (.d y)) [] := load_i tab_ok hx hs
theorem iB {r : Nat} {p : List Step} {ty : TypeId} {a v : AV} (hx : evalA env x = some (.ptr r p) := by exact rfl) (hr : lookH h r = some (.box ty a) := by exact rfl) (hv : ASub a p v := by exact ⟨_, rfl, rfl⟩) (hs : sizeOk tab t v = true := by exact rfl) : StepIs Tryz.prog (.load t x) env h n (some v) [] := load_box tab_ok hx hr hv hs
theorem iM {r : Nat} {p : List Step} {ty : TypeId} {a v : AV} (hx : evalA env x = some (.ptr r p) := by exact rfl) (hr : lookH h r = some (.box ty a) := by exact rfl) (hv : ASub a p v := by exact rfl) (hs : sizeOk tab t v = true := by exact rfl) : StepIs Tryz.prog (.load t x) env h n (some v) [] := load_box tab_ok hx hr hv hs
theorem iE {α : Type} {enc : α → D} {xs : List α} (hx : evalA env x = some (.d (.arr s enc xs)) := by exact rfl) (ht : tdesc tab t = some (.slice e) := by exact rfl) :
  StepIs Tryz.prog (.call { callee := .builtin .len, args := #[x], argTypes := #[t] }) env h n (some (.int .i64 xs.length)) [] := len_arr tab_ok hx ht
theorem iF {c x y : Operand} {b : Bool} {v : AV} (hc : evalA env c = some (.bool b) := by exact rfl) (hb : b = false := by assumption) (hv : evalA env y = some v := by exact rfl) : StepIs Tryz.prog (.pick c x y) env h n (some v) [] := pick_F tab_ok hc hb hv
theorem iG {c x y : Operand} {b : Bool} {v : AV} (hc : evalA env c = some (.bool b) := by exact rfl) (hb : b = false := by exact rfl) (hv : evalA env y = some v := by exact rfl) : StepIs Tryz.prog (.pick c x y) env h n (some v) [] := pick_F tab_ok hc hb hv
theorem iT {c x y : Operand} {b : Bool} {v : AV} (hc : evalA env c = some (.bool b) := by exact rfl) (hb : b = true := by assumption) (hv : evalA env x = some v := by exact rfl) : StepIs Tryz.prog (.pick c x y) env h n (some v) [] := pick_T tab_ok hc hb hv
theorem iU {c x y : Operand} {b : Bool} {v : AV} (hc : evalA env c = some (.bool b) := by exact rfl) (hb : b = true := by exact rfl) (hv : evalA env x = some v := by exact rfl) : StepIs Tryz.prog (.pick c x y) env h n (some v) [] := pick_T tab_ok hc hb hv
theorem iD {x y : Operand} {t t' : TypeId} {a b : Int} (hx : evalA env x = some (.int .i64 a) := by exact rfl) (hy : evalA env y = some (.int .i64 b) := by exact rfl) (h0 : -9223372036854775808 ≤ a + b := by omega) (h1 : a + b ≤ 9223372036854775807 := by omega) :
  StepIs Tryz.prog (.binOp .add t x y t') env h n (some (.int .i64 (a + b))) [] := add_int tab_ok hx hy (wrap_i64 h0 h1)
theorem iS {r : TyR} {offs : List (Nat × Nat)} {parts : Array (Nat × Operand)} {q : AV} (ht : lk tab t = some r := by exact rfl) (hd : r.desc = .struct offs := by exact rfl) (hq : buildF tab offs (evalA env) parts.toList (.d r.zero) = some q := by exact rfl) (hag : q.isAgg = true := by exact rfl) :
  StepIs Tryz.prog (.build t parts) env h n (some q) [] := build_struct tab_ok ht hd hq hag
theorem rW {y : Operand} {r : Nat} {p : List Step} {row row' : Row} (h1 : RegS Tryz.prog all sz l (n + 8) env ((r, some row') :: h) K) (hx : evalA env x = some (.ptr r p) := by exact rfl) (hy : evalA env y = some v := by exact rfl) (hr : lookH h r = some row := by exact rfl) (hv : RUpd row p v row' := by exact ⟨_, ⟨rfl, rfl, rfl⟩, rfl⟩) (hs : sizeOk tab t v = true := by exact rfl) :
  RegS Tryz.prog all sz (⟨none, .store t x y, ty, pos, af, none⟩ :: l) n env h K := reg_store (store_row tab_ok hx hy hr hv hs) h1
theorem rX {y : Operand} {r : Nat} {p : List Step} {row row' : Row} (h1 : RegS Tryz.prog all sz l (n + 8) env ((r, some row') :: h) K) (hx : evalA env x = some (.ptr r p) := by exact rfl) (hy : evalA env y = some v := by exact rfl) (hr : lookH h r = some row := by exact rfl) (hv : RUpd row p v row' := by exact ⟨_, ⟨_, ⟨_, ⟨rfl, rfl, rfl⟩, rfl⟩, rfl⟩, rfl⟩) (hs : sizeOk tab t v = true := by exact rfl) :
  RegS Tryz.prog all sz (⟨none, .store t x y, ty, pos, af, none⟩ :: l) n env h K := reg_store (store_row tab_ok hx hy hr hv hs) h1
end
section
variable {c : Operand} {x y : Code} {b : Bool}
theorem wT (h1 : WC Tryz.prog sz x Q env h n) (hc : evalA env c = some (.bool b) := by exact rfl) (hb : b = true := by assumption) : WC Tryz.prog sz (.cond c x y) Q env h n := wc_true hc hb h1
theorem wV (h1 : WC Tryz.prog sz x Q env h n) (hc : evalA env c = some (.bool b) := by exact rfl) (hb : b = true := by exact rfl) : WC Tryz.prog sz (.cond c x y) Q env h n := wc_true hc hb h1
theorem wF (h1 : WC Tryz.prog sz y Q env h n) (hc : evalA env c = some (.bool b) := by exact rfl) (hb : b = false := by assumption) : WC Tryz.prog sz (.cond c x y) Q env h n := wc_false hc hb h1
theorem wG (h1 : WC Tryz.prog sz y Q env h n) (hc : evalA env c = some (.bool b) := by exact rfl) (hb : b = false := by exact rfl) : WC Tryz.prog sz (.cond c x y) Q env h n := wc_false hc hb h1
end
section
variable {acc : List DFact}
theorem dC (ks rs : List Nat) (h1 : RegD Tryz.prog all sz l (n + 8) ((d, v) :: env) h (⟨⟨some d, op, ty, pos, af, none⟩, ks, rs, some v, []⟩ :: acc) K) (hd : Nat.blt d sz = true := by exact rfl) (hop : ∀ K : Option AV → Upds → Prop, K (some v) [] → opD tab op (evalA (only ks env)) (lookH (only rs h)) n K := by exact fun _ h => h) :
  RegD Tryz.prog all sz (⟨some d, op, ty, pos, af, none⟩ :: l) n env h acc K := dreg_q ks rs hd (step_C tab_ok hop) h1
theorem dQ (ks rs : List Nat) (hs : StepIs Tryz.prog op (only ks env) (only rs h) n (some v) []) (h1 : RegD Tryz.prog all sz l (n + 8) ((d, v) :: env) h (⟨⟨some d, op, ty, pos, af, none⟩, ks, rs, some v, []⟩ :: acc) K) (hd : Nat.blt d sz = true := by exact rfl) :
  RegD Tryz.prog all sz (⟨some d, op, ty, pos, af, none⟩ :: l) n env h acc K := dreg_q ks rs hd hs h1
end
end
end Go.Proofs.YthiijfbcfoifnaaGreatDoor
namespace Go.Eng
open Go.RowKit
section
variable {P : Program} {T : Tab} {env : Env} {h : Upds} {n : Nat}
theorem find_sc {κ : Type} [DecidableEq κ] {σ : Place} {w w1 : World} {X : Nat → Prop} {f : κ → Value} {kt m : Nat} {ds : TypeDesc} (hm : m ≤ 10000) (hu : P.underlying kt = some ds) (he : ∀ a b, EqOk P m kt (.sc (f a)) (.sc (f b)) (decide (a = b)))
  (hs : ∀ a b, Instr.sameNow ds (f a) (f b) = some (decide (a = b))) {k : κ} {u : Value} (hk : RelV σ w X (.d (.sc (f k))) u) :
  ∀ (l : List (κ × AV)) (es : List MapEntry) (i : Nat), EntRel σ w X (fun k => .sc (f k)) l es → ∃ r, Instr.findNow ds u es i = some r ∧ (Instr.findAsking kt u es i).run P w1 = .ok r w1
 | [], es, i, h => by
  rw [show es = [] from h]
  exact ⟨none, rfl, by simp [Instr.findAsking]⟩
 | (k', v) :: l, es, i, h => by
  obtain ⟨e, es', rfl, h1, h2, h3⟩ := h
  have e1 := (RelV.sc.1 hk).1
  have e2 := (RelV.sc.1 h1).1
  have heq := he k k' σ w1 X u e.key (10000 - m) (RelV.sc.2 (RelV.sc.1 hk)) (RelV.sc.2 (RelV.sc.1 h1))
  rw [show 10000 - m + m = 10000 by omega] at heq
  have hsn : Instr.sameNow ds u e.key = some (decide (k = k')) := by rw [e1, e2]; exact hs k k'
  by_cases hkk : k = k'
  ·rw [decide_eq_true hkk] at heq hsn
   exact ⟨some (i, e.val), by simp only [Instr.findNow, hsn], by simp [Instr.findAsking, Op.equal, Op.maxDepth, heq]⟩
  ·rw [decide_eq_false hkk] at heq hsn
   obtain ⟨r, g1, g2⟩ := find_sc hm hu he hs hk l es' (i + 1) h3
   exact ⟨r, by simp only [Instr.findNow, hsn]; exact g1, by simp only [Instr.findAsking, Op.equal, Op.maxDepth, Sem.run_bind, heq, Result.andThen_ok]; simpa using g2⟩
theorem keyTy_sc {κ : Type} [DecidableEq κ] {f : κ → Value} {kt m : Nat} {ds : TypeDesc} (hm : m ≤ 10000) (hu : P.underlying kt = some ds) (ho : ∀ k, KeyOk P m kt (.sc (f k))) (he : ∀ a b, EqOk P m kt (.sc (f a)) (.sc (f b)) (decide (a = b)))
  (hs : ∀ a b, Instr.sameNow ds (f a) (f b) = some (decide (a = b))) (hb : ∀ k n, Instr.sameBits n (f k) (f k) = true) : KeyTy P kt (fun k => .sc (f k)) m :=
 ⟨hm, ho, he, fun σ w w1 X k u l es hk hl => by
  obtain ⟨r, g1, g2⟩ := find_sc (w1 := w1) hm hu he hs hk l es 0 hl
  simp only [Instr.findKey, Sem.run_bind, run_underlying hu, Result.andThen_ok, g1, Sem.run_pure, g2], fun k => hb k⟩
theorem keyTy_string {kt : Nat} (hu : P.underlying kt = some .string) : KeyTy P kt (fun l : List UInt8 => strD l) 1 := by
 refine keyTy_sc (f := fun l => .string (mkS l)) (by decide) hu (fun k => key_string hu) (fun a b => ?_) (fun a b => ?_) (fun k n => by
  have : (mkS k == mkS k) = true := by rw [ba_beq]; exact decide_eq_true rfl
  cases n <;> simpa [Instr.sameBits] using this)
 ·have := eq_string (P := P) (a := mkS a) (b := mkS b) hu
  rwa [mkS_dec] at this
 ·show some ((mkS a == mkS b)) = _
  rw [← mkS_dec, ba_beq]
theorem lookup2_some {t kt et : TypeId} {κ : Type} [DecidableEq κ] {enc : κ → D} {m r j : Nat} {x y : Operand} {k : κ} {l : List (κ × AV)} {v : AV} (K : KeyTy P kt enc m) (ht : P.underlying t = some (.map kt et))
  (hx : evalA env x = some (.mapr r)) (hy : evalA env y = some (.d (enc k))) (hr : lookH h r = some (.mo (mapC enc l))) (hf : findC k l 0 = some (j, v)) :
  StepIs P (.lookup t x y true) env h n (some (.tup (.acons v (.acons (.bool true) .anil)))) [] := .of_comes fun C G st σ w a o ho hA hd hst hn => by
 have h1 := (ev_sound hst (hA.ev hx)).1
 have h2 := (ev_sound hst (hA.ev hy)).1
 have hrow := hA.row _ _ hr
 obtain ⟨b, c, hs, hux⟩ := RelV.mapr.1 h1
 obtain ⟨b', es, hb1, hb2, hb3, hb4⟩ := hst.rows r _ hrow
 rw [hs] at hb2
 cases hb2
 have hl := (mapC_rel l _).1 hb4
 have hfd := K.found h2 hl
 rw [hf] at hfd
 obtain ⟨e, e1, e2, e3, e4, e5⟩ := hfd
 refine .quiet (u := .tuple #[e.val, .bool true]) hst hd ⟨rfl, rfl⟩ ?_ ?_ ?_
 ·have hget : (getObj b).run P w = .ok (.map es es.size) w := by simp [getObj, Sem.run, hb3]
  simp only [execOp, ho, Instr.lookup, Sem.run_bind, run_underlying ht, Result.andThen_ok, hux, hget, Sem.run_pure, K.check h2, e1]
  rfl
 ·unfold RelV
  rw [if_neg (by simp [AV.isAgg])]
  exact ⟨[e.val, .bool true], rfl, e.val, [.bool true], rfl, e4, .bool true, [], rfl, RelV.sc.2 ⟨rfl, rfl⟩, rfl⟩
 ·exact ⟨(mapC_within l).1 (hst.rowsG r _ hrow).2 (k, v) (List.mem_of_getElem? e5), trivial, trivial⟩
theorem lookup2_none {t kt et : TypeId} {κ : Type} [DecidableEq κ] {enc : κ → D} {m r : Nat} {x y : Operand} {k : κ} {l : List (κ × AV)} {d : D} (K : KeyTy P kt enc m) (ht : P.underlying t = some (.map kt et)) (hz : ZeroIs P et d)
  (hx : evalA env x = some (.mapr r)) (hy : evalA env y = some (.d (enc k))) (hr : lookH h r = some (.mo (mapC enc l))) (hf : findC k l 0 = none) :
  StepIs P (.lookup t x y true) env h n (some (.tup (.acons (.d d) (.acons (.bool false) .anil)))) [] := .of_comes fun C G st σ w a o ho hA hd hst hn => by
 have h1 := (ev_sound hst (hA.ev hx)).1
 have h2 := (ev_sound hst (hA.ev hy)).1
 have hrow := hA.row _ _ hr
 obtain ⟨b, c, hs, hux⟩ := RelV.mapr.1 h1
 obtain ⟨b', es, hb1, hb2, hb3, hb4⟩ := hst.rows r _ hrow
 rw [hs] at hb2
 cases hb2
 have hl := (mapC_rel l _).1 hb4
 have hfd := K.found h2 hl
 rw [hf] at hfd
 obtain ⟨z, hz, hzr⟩ := hz.run
 refine .quiet (u := .tuple #[z, .bool false]) hst hd ⟨rfl, rfl⟩ ?_ ?_ ⟨trivial, trivial, trivial⟩
 ·have hget : (getObj b).run P w = .ok (.map es es.size) w := by simp [getObj, Sem.run, hb3]
  simp only [execOp, ho, Instr.lookup, Sem.run_bind, run_underlying ht, Result.andThen_ok, hux, hget, Sem.run_pure, K.check h2, hfd, hz]
  rfl
 ·unfold RelV
  rw [if_neg (by simp [AV.isAgg])]
  exact ⟨[z, .bool false], rfl, z, [.bool false], rfl, hzr _ _ _, .bool false, [], rfl, RelV.sc.2 ⟨rfl, rfl⟩, rfl⟩
end
end Go.Eng
namespace Go.Eng
open Go.RowKit Go.Lib
theorem cat_ones (l : List Int) : cat (fun i => [Value.int .u8 (l.getD i 0)]) l.length = l.map fun v => Value.int .u8 v := by
 have key : ∀ n, n ≤ l.length → cat (fun i => [Value.int .u8 (l.getD i 0)]) n = (l.take n).map fun v => Value.int .u8 v := by
  intro n
  induction n with
  | zero => intro _; rfl
  | succ n ih =>
   intro hn
   have hlt : n < l.length := by omega
   have e : l.take (n + 1) = l.take n ++ [l[n]] := by rw [List.take_add_one, List.getElem?_eq_getElem hlt]; rfl
   have e2 : l.getD n 0 = l[n] := by rw [List.getD_eq_getElem?_getD, List.getElem?_eq_getElem hlt]; rfl
   rw [cat, ih (by omega), e, List.map_append, e2]
   rfl
 rw [key _ (Nat.le_refl _), List.take_length]
section
variable {P : Program} {T : Tab} {env : Env} {h : Upds} {n : Nat}
theorem append_str_core (hT : TabOk P T) {t t2 e r : Nat} {re : TyR} {ex : Bool} {xs : List Int} {l : List UInt8} {x y : Operand} (ht : tdesc T t = some (.slice e)) (ht2 : P.underlying t2 = some .string) (he : lk T e = some re) (hs : re.size = 1)
  (hx : evalA env x = some (.own r 0 xs.length 1 none)) (hrow : lookH h r = some (.ds e 1 ex encU8 xs)) (hy : evalA env y = some (.d (strD l))) (hys : 0 < (byI l).length) (hlen : xs.length + (byI l).length ≤ maxLen) (hbytes : (xs.length + (byI l).length) * re.bytes ≤ 140737488355328) :
  StepIs P (.call { callee := .builtin .append, args := #[x, y], argTypes := #[t, t2] }) env h n (some (.own n 0 (xs.length + (byI l).length) 1 none)) [(n, some (.ds e 1 false encU8 (xs ++ byI l))), (r, none)] := .of_comes fun C G st σ w a o ho hA hd hst hn => by
 obtain ⟨hx1, hx2⟩ := ev_sound hst (hA.ev hx)
 obtain ⟨hu, _⟩ := RelV.sc.1 (ev_sound hst (hA.ev hy)).1
 have hsz : (mkS l).size = (byI l).length := by rw [mkS_size]; simp [byI]
 have hsc : strCells (mkS l) = (byI l).map fun v => Value.int .u8 v := by simp [strCells, mkS_data, byI]
 obtain ⟨g, hg, hgs⟩ : ∃ g : Nat → List Value, (∀ i (h : i < (byI l).length), Enc w (st.X C.X0 σ) (encU8 (byI l)[i]) (g i) ∧ (g i).length = 1) ∧ cat g (byI l).length = strCells (mkS l) := by
  refine ⟨fun i => [Value.int .u8 ((byI l).getD i 0)], fun i hi => ⟨⟨by show [Value.int .u8 ((byI l).getD i 0)] = _; rw [List.getD_eq_getElem?_getD, List.getElem?_eq_getElem hi]; rfl, rfl⟩, rfl⟩, ?_⟩
  rw [hsc, cat_ones]
 have hr := hA.row _ _ hrow
 obtain ⟨i, z, hi, hi1, hi2, hi3, hi4⟩ := (hT e re he).info
 obtain ⟨ud, hud, hdd⟩ := tdesc_und hT ht
 cases hdd
 have hz : z.cells.size = 1 := by
  have h1 := Enc.len _ _ (Enc.closed w (fun _ => False) _ (hT e re he).zero)
  rw [hi4] at h1
  simpa [(hT e re he).zsize, hs] using h1
 have hi1' : i.size = 1 := by rw [hi1, hs]
 have hdm : (mkS l).data.map (fun b : UInt8 => Value.int .u8 (b.toNat : Int)) = (cat g (byI l).length).toArray := by
  rw [hgs]
  apply Array.ext'
  simp [strCells]
 have hnn : ¬ G n := hn n (Nat.le_refl _) (by omega)
 have hgl : (cat g (byI l).length).length = (byI l).length * 1 := cat_len _ fun i hi => (hg i hi).2
 have fin : ∀ (b c : Nat) (cur : Array Value) (w' : World), (∃ c0, σ r = some (b, c0)) ∨ w.heap.size ≤ b → w.grownBy w' ((σ r).map (·.1)) → w'.heap[b]? = some (.cells cur e (0, 0)) → cur.size = c * 1 → xs.length + (byI l).length ≤ c → c ≤ maxLen →
   (∃ f : Nat → List Value, (∀ i (h : i < xs.length), Enc w (st.X C.X0 σ) (encU8 xs[i]) (f i) ∧ (f i).length = 1) ∧ cur.toList.take ((xs.length + (byI l).length) * 1) = cat f xs.length ++ cat g (byI l).length) →
   (Builtin.append_ #[t, t2] o.type #[a.eval x, a.eval y]).run P w = .ok (.slice (some ⟨b, 0, none⟩) (xs.length + (byI l).length) c) w' →
   Comes1 P C G st n o a w (fun v' u' => v' = some (.own n 0 (xs.length + (byI l).length) 1 none) ∧ u' = [(n, some (.ds e 1 false encU8 (xs ++ (byI l)))), (r, none)]) := by
  rintro b c cur w' hb hgr hh hcs hle hcm ⟨f, hf, htk⟩ hrun
  obtain ⟨F, hF, hFc⟩ := join_cells hf hg
  have hsw := hst.swap hnn hr hgr (c := c) hb (.ds e 1 false encU8 (xs ++ (byI l))) trivial (fun σ' X' hk1 hk2 hσn => by
   refine .inr ⟨b, c, cur, hσn, (fun e => nomatch e), hh, hcs, by simpa using hle, hcm, F, fun i hi => ⟨hk2 _ _ (hF i hi).1, (hF i hi).2⟩, ?_⟩
   rw [List.length_append, htk, ← hFc, List.length_append])
  have hval : RelV (fun q => if q = n then some (b, c) else σ q) w' ((st.upd [(n, some (.ds e 1 false encU8 (xs ++ (byI l)))), (r, none)]).X C.X0 (fun q => if q = n then some (b, c) else σ q)) (.own n 0 (xs.length + (byI l).length) 1 none) (.slice (some ⟨b, 0, none⟩) (xs.length + (byI l).length) c) :=
   RelV.own.2 (.inr ⟨b, c, ⟨b, 0, none⟩, by simp, by simp, by simpa using hle, by simp, by simpa using hle, fun _ => by simp⟩)
  refine ⟨_, _, .value (.slice (some ⟨b, 0, none⟩) (xs.length + (byI l).length) c), _, w', _, fun q => G q ∨ q = n, ⟨rfl, rfl⟩, ?_, .inl rfl, by rw [St.put_upd]; exact hsw.set hd hval (.inr rfl), fun r hr => Or.inl hr, fun r hr => Or.imp id (fun h => ⟨by omega, by omega⟩) hr⟩
  simp [execOp, ho, resolve, invoke, builtin, hrun]
 have h63 : ¬ (9223372036854775807 < xs.length + (byI l).length) := by simp only [maxLen] at hlen; omega
 rcases hst.rows r _ hr with ⟨hσ, hxs⟩ | ⟨b, c, cur, hσ, _, hh, hcs, hle, hcm, f, hf, htk⟩
 ·rcases RelV.own.1 hx1 with ⟨_, _, _, _, hv⟩ | ⟨b, c, _, hσ', _⟩
  ·subst hxs
   have hrun := run_append_nil_string (P := P) w t t2 o.type e i z hud ht2 hi hi3 (mkS l) (by rw [hsz]; exact hys) (by rw [hsz]; omega) (by rw [hsz, hi2]; simp at hbytes; omega)
   rw [hdm, hsz] at hrun
   refine fin w.heap.size (grownCap w (byI l).length 0 e) ((cat g (byI l).length).toArray ++ Builtin.zeroCells z.cells (grownCap w (byI l).length 0 e - (byI l).length)) _ (.inr (Nat.le_refl _)) (grown_fresh w _ _) (heap_alloc_new w.drew _) ?_ ?_ (grownCap_le_maxLen w (byI l).length 0 e (by simpa using hlen)) ⟨g, fun i hi => by simp at hi, ?_⟩ (by rw [hv, hu, hrun]; simp)
   ·have hge := grownCap_ge w (byI l).length 0 e
    simp only [Array.size_append, List.size_toArray, size_zeroCells, hz, hgl, ← Nat.add_mul]
    congr 1; omega
   ·simpa using grownCap_ge w (byI l).length 0 e
   ·simp only [Array.toList_append, List.length_nil, Nat.zero_add, cat, List.nil_append]
    rw [← hgl]
    exact List.take_left
  ·rw [hσ] at hσ'; cases hσ'
 ·rcases RelV.own.1 hx1 with ⟨hσ', _⟩ | ⟨b', c', a', hσ', hv, _, _, hlec, had⟩
  ·rw [hσ] at hσ'; cases hσ'
  ·rw [hσ] at hσ'
   cases hσ'
   simp only [Option.getD_none, Nat.sub_zero] at hv hlec
   have hfl : (cat f xs.length).length = xs.length * 1 := cat_len _ fun i hi => (hf i hi).2
   by_cases hroom : xs.length + (byI l).length ≤ c
   ·have : a' = ⟨b, 0, none⟩ := by have := had (by omega); simpa using this
    subst this
    have hrun := run_append_room_string (P := P) w t t2 o.type e i hud ht2 hi hi1' b xs.length c cur hh (mkS l) (by rw [hsz]; exact hroom) (by rw [hsz, hcs]; omega)
    rw [hsz, ← hgs] at hrun
    refine fin b c _ _ (.inl ⟨c, hσ⟩) ?_ (setRow_heap w b cur _ e _ hh) ?_ hroom hcm ⟨f, hf, ?_⟩ (by rw [hv, hu, hrun])
    ·exact ⟨rfl, rfl, rfl, by simp, fun k _ hk => setRow_other w b k _ (fun e => hk (by rw [hσ]; simp [e]))⟩
    ·simp only [List.size_toArray, List.length_append, List.length_take, List.length_drop, Array.length_toList, hi1, hs, hgl, hcs]
     omega
    ·rw [Nat.mul_one] at htk
     rw [htk, List.append_assoc, ← List.append_assoc]
     have : (xs.length + (byI l).length) * 1 = (cat f xs.length ++ cat g (byI l).length).length := by rw [List.length_append, hfl, hgl, Nat.add_mul]
     rw [this]
     exact List.take_left
   ·have hrun := run_append_grow_string (P := P) w t t2 o.type e i z hud ht2 hi hi3 a' xs.length c (cat f xs.length) (by rw [hfl, hi1, hs]) (fun j u hj => by
     have hjl : j < xs.length * 1 := by rw [← hfl]; exact (List.getElem?_eq_some_iff.1 hj).1
     have hc0 : 0 < c := by
      rcases Nat.eq_zero_or_pos c with rfl | h1
      ·have : xs.length = 0 := by omega
       rw [this] at hjl; omega
      ·exact h1
     have : a' = ⟨b, 0, none⟩ := by have := had hc0; simpa using this
     subst this
     rw [add_mk, cell_of_row w b _ cur e (0, 0) hh]
     rw [← htk, List.getElem?_take, if_pos hjl] at hj
     rw [Nat.zero_add, ← Array.getElem?_toList]
     exact hj) (mkS l) (by rw [hsz]; omega) (by rw [hsz]; omega) (by rw [hsz]; exact growslice_fits (by omega) (by rw [hi2]; exact hbytes))
    rw [hsz, ← hgs] at hrun
    refine fin w.heap.size _ _ _ (.inr (Nat.le_refl _)) (grown_fresh w _ _) (heap_alloc_new w.drew _) ?_ (grownCap_ge w _ c e) (grownCap_le_maxLen w _ c e hlen) ⟨f, hf, ?_⟩ (by rw [hv, hu, hrun])
    ·have hge := grownCap_ge w (xs.length + (byI l).length) c e
     simp only [Array.size_append, List.size_toArray, size_zeroCells, hz, hgl, hfl, ← Nat.add_mul]
     congr 1; omega
    ·simp only [Array.toList_append]
     have : (xs.length + (byI l).length) * 1 = (cat f xs.length ++ cat g (byI l).length).length := by rw [List.length_append, hfl, hgl, Nat.add_mul]
     rw [this]
     exact List.take_left
theorem append_str (hT : TabOk P T) {t t2 e r L : Nat} {re : TyR} {ex : Bool} {xs : List Int} {l : List UInt8} {x y : Operand} (ht : tdesc T t = some (.slice e)) (ht2 : P.underlying t2 = some .string) (he : lk T e = some re) (hs : Nat.beq re.size 1 = true)
  (hx : evalA env x = some (.own r 0 L 1 none)) (hL : L = xs.length) (hrow : lookH h r = some (.ds e 1 ex encU8 xs)) (hy : evalA env y = some (.d (strD l))) (hys0 : 0 < l.length) (hlen0 : xs.length + l.length ≤ 1048576) (hbyt : Nat.ble re.bytes 134217728 = true) :
  StepIs P (.call { callee := .builtin .append, args := #[x, y], argTypes := #[t, t2] }) env h n (some (.own n 0 (xs.length + l.length) 1 none)) [(n, some (.ds e 1 false encU8 (xs ++ byI l))), (r, none)] := by
 subst hL
 have hs := Nat.eq_of_beq_eq_true hs
 have hbl : (byI l).length = l.length := by simp [byI]
 rw [← hbl]
 have hys : 0 < (byI l).length := by rw [hbl]; exact hys0
 have hlen : xs.length + (byI l).length ≤ maxLen := by rw [hbl]; simp only [maxLen]; omega
 have hbytes : (xs.length + (byI l).length) * re.bytes ≤ 140737488355328 := by
  have : (xs.length + (byI l).length) * re.bytes ≤ 1048576 * 134217728 := Nat.mul_le_mul (by omega) (Nat.le_of_ble_eq_true hbyt)
  omega
 refine append_str_core hT ht ht2 he hs hx hrow hy hys hlen hbytes
end
end Go.Eng
namespace Go.Eng
open Go.RowKit
section
variable {P : Program} {T : Tab} {env : Env} {h : Upds} {n : Nat}
theorem range_str (hT : TabOk P T) {t : Nat} {x : Operand} {l : List UInt8} (ht : tdesc T t = some .string) (hx : evalA env x = some (.d (strD l))) :
  StepIs P (.range t x) env h n (some (.ptr n [])) [(n, some (.si (mkS l) 0))] := .of_comes fun C G st σ w a o ho hA hd hst hn => by
 obtain ⟨ud, hud, hdd⟩ := tdesc_und hT ht
 cases hdd
 obtain ⟨hu, _⟩ := RelV.sc.1 (ev_sound hst (hA.ev hx)).1
 have hnn : ¬ G n := hn n (Nat.le_refl _) (by omega)
 have hnew := StRel.freshBy hst hnn (w' := w.alloc (.stringIter (mkS l) 0)) (by
   refine ⟨rfl, rfl, rfl, by simp, fun k hk _ => ?_⟩
   exact heap_alloc_old w _ hk) (Nat.le_refl _) (b := w.heap.size) (c := 1) (.si (mkS l) 0) trivial (fun σ' X' _ _ hs => ⟨w.heap.size, hs, heap_alloc_new w _⟩)
 refine ⟨some (.ptr n []), [(n, some (.si (mkS l) 0))], .value (.pointer (some ⟨w.heap.size, 0, none⟩)), .pointer (some ⟨w.heap.size, 0, none⟩), w.alloc (.stringIter (mkS l) 0), fun q => if q = n then some (w.heap.size, 1) else σ q, fun q => G q ∨ q = n, ⟨rfl, rfl⟩, ?_, .inl rfl, ?_, fun r hr => .inl hr, fun r hr => hr.imp id (fun e => by omega)⟩
 ·simp [execOp, ho, Instr.range, run_underlying hud, hu, newObj, Sem.run]
 ·rw [St.put_upd]
  exact hnew.set hd (RelV.ptr.2 ⟨w.heap.size, 1, by simp, by simp [pathOff]⟩) (.inr rfl)
theorem run_setIter (P : Program) (w : World) (b : Nat) (o : Obj) {s : ByteArray} {p : Nat} (hb : w.heap[b]? = some (.stringIter s p)) : (setObj b o).run P w = .ok () { w with heap := w.heap.setIfInBounds b o } := by
 simp [setObj, Sem.run, hb]
theorem next_str {x : Operand} {r i : Nat} {l : List UInt8} (hx : evalA env x = some (.ptr r [])) (hr : lookH h r = some (.si (mkS l) i)) (hi : i < l.length) :
  StepIs P (.next x true) env h n (some (.tup (.acons (.bool true) (.acons (.int .i64 i) (.acons (.int .i32 (Utf8.decode (mkS l) i).1) .anil))))) [(r, some (.si (mkS l) (i + (Utf8.decode (mkS l) i).2)))] := .of_comes fun C G st σ w a o ho hA hd hst hn => by
 have hrow := hA.row _ _ hr
 obtain ⟨b, hs, hh⟩ := hst.rows r _ hrow
 obtain ⟨b', c', hs', hu⟩ := RelV.ptr.1 (ev_sound hst (hA.ev hx)).1
 rw [hs] at hs'
 cases hs'
 have hst' := hst.writeObj (o' := .stringIter (mkS l) (i + (Utf8.decode (mkS l) i).2)) (row := .si (mkS l) (i + (Utf8.decode (mkS l) i).2)) hrow hs hh rfl trivial (fun w' _ hh' => ⟨b, hs, hh'⟩)
 refine ⟨_, _, .value (.tuple #[.bool true, goInt i, .int .i32 (Utf8.decode (mkS l) i).1]), _, { w with heap := w.heap.setIfInBounds b (.stringIter (mkS l) (i + (Utf8.decode (mkS l) i).2)) }, σ, G, ⟨rfl, rfl⟩, ?_, .inl rfl, ?_, fun _ h => h, fun _ h => .inl h⟩
 ·have hget : (getObj b).run P w = .ok (.stringIter (mkS l) i) w := by simp [getObj, Sem.run, hh]
  have hset := run_setIter P w b (.stringIter (mkS l) (i + (Utf8.decode (mkS l) i).2)) hh
  have hsz : i < (mkS l).size := by rw [mkS_size]; exact hi
  simp only [execOp, ho, Instr.next, hu, pathOff, Sem.run_bind, hget, Result.andThen_ok, if_pos hsz, hset, Sem.run_pure]
 ·rw [St.put_upd]
  refine hst'.set hd ?_ ⟨trivial, trivial, trivial, trivial⟩
  show RelV σ _ _ (.tup _) _
  unfold RelV
  rw [if_neg (by simp [AV.isAgg])]
  exact ⟨_, rfl, _, _, rfl, RelV.sc.2 ⟨rfl, rfl⟩, _, _, rfl, RelV.sc.2 ⟨rfl, rfl⟩, _, _, rfl, RelV.sc.2 ⟨rfl, rfl⟩, rfl⟩
theorem next_end {x : Operand} {r i : Nat} {l : List UInt8} (hx : evalA env x = some (.ptr r [])) (hr : lookH h r = some (.si (mkS l) i)) (hi : l.length ≤ i) :
  StepIs P (.next x true) env h n (some (.tup (.acons (.bool false) .anil))) [] := .of_comes fun C G st σ w a o ho hA hd hst hn => by
 have hrow := hA.row _ _ hr
 obtain ⟨b, hs, hh⟩ := hst.rows r _ hrow
 obtain ⟨b', c', hs', hu⟩ := RelV.ptr.1 (ev_sound hst (hA.ev hx)).1
 rw [hs] at hs'
 cases hs'
 refine .quiet (u := .tuple #[.bool false]) hst hd ⟨rfl, rfl⟩ ?_ ?_ ⟨trivial, trivial⟩
 ·have hget : (getObj b).run P w = .ok (.stringIter (mkS l) i) w := by simp [getObj, Sem.run, hh]
  have hsz : ¬ i < (mkS l).size := by rw [mkS_size]; omega
  simp only [execOp, ho, Instr.next, hu, pathOff, Sem.run_bind, hget, Result.andThen_ok, if_neg hsz, Sem.run_pure]
 ·unfold RelV
  rw [if_neg (by simp [AV.isAgg])]
  exact ⟨_, rfl, _, _, rfl, RelV.sc.2 ⟨rfl, rfl⟩, rfl⟩
end
theorem decode_low {l : List UInt8} {i : Nat} {c : UInt8} (hc : l[i]? = some c) (h7 : c.toNat < 128) : Utf8.decode (mkS l) i = (c.toNat, 1) := by
 have hlt := (List.getElem?_eq_some_iff.1 hc).1
 have hg : (mkS l).get! i = c := by
  have e : (mkS l).get! i = l.toArray[i]! := rfl
  rw [e, getElem!_pos l.toArray i (by simpa using hlt)]
  have := (List.getElem?_eq_some_iff.1 hc).2
  simpa using this
 rw [Lib.decode_at, hg, Lib.decodeN, if_pos h7]
end Go.Eng
namespace Go.Plain
open Go.Eng Go.Lib
def splitL : List UInt8 → UInt8 → List (List UInt8)
 | [], _ => [[]]
 | b :: l, c => if b = c then [] :: splitL l c else match splitL l c with
  | [] => [[b]]
  | w :: ws => (b :: w) :: ws
theorem splitL_ne : ∀ (l : List UInt8) (c : UInt8), splitL l c ≠ []
 | [], _ => by simp [splitL]
 | b :: l, c => by
  simp only [splitL]
  split
  ·simp
  ·split <;> simp
theorem splitL_one {c : UInt8} : ∀ {l : List UInt8}, c ∉ l → splitL l c = [l]
 | [], _ => rfl
 | b :: l, h => by
  simp only [List.mem_cons, not_or] at h
  rw [splitL, if_neg (Ne.symm h.1), splitL_one h.2]
theorem splitL_cons {c : UInt8} : ∀ {w : List UInt8} (l : List UInt8), c ∉ w → splitL (w ++ c :: l) c = w :: splitL l c
 | [], l, _ => by simp [splitL]
 | b :: w, l, h => by
  simp only [List.mem_cons, not_or] at h
  rw [List.cons_append, splitL, if_neg (Ne.symm h.1), splitL_cons l h.2]
def hexD : List UInt8 := [48, 49, 50, 51, 52, 53, 54, 55, 56, 57, 97, 98, 99, 100, 101, 102]
def hexC (n : Nat) : UInt8 := hexD.getD n 0
theorem hexD_get {n : Nat} (h : n < 16) : hexD[n]? = some (hexC n) := by
 rw [hexC, List.getD_eq_getElem?_getD, List.getElem?_eq_getElem (show n < hexD.length from h)]
 rfl
def hexB (b : UInt8) : List UInt8 := [hexC (b.toNat / 16), hexC (b.toNat % 16)]
theorem hexB_len (l : List UInt8) : (l.flatMap hexB).length = 2 * l.length := by
 induction l with
 | nil => rfl
 | cons b l ih => simp only [List.flatMap_cons, List.length_append, ih, hexB, List.length_cons, List.length_nil]; omega
def hexP (l : List UInt8) : List UInt8 := if l = [] then [45] else l.flatMap hexB
def nibO (c : UInt8) : Option Nat := if 0 ≤ indexByte hexD c then some (indexByte hexD c).toNat else none
def pairsO : List UInt8 → Option (List UInt8)
 | [] => some []
 | [_] => none
 | a :: b :: l => match nibO a, nibO b, pairsO l with
  | some x, some y, some r => some ((x * 16 + y).toUInt8 :: r)
  | _, _, _ => none
def unhexP (s : List UInt8) : Option (List UInt8) := if s = [45] then some [] else if s = [] then none else pairsO s
/-! Numbers. -/
/-! Operations. -/
structure POp where
 kind : Int
 index : Int
 data : List UInt8
 deriving DecidableEq
structure POp.Ok (o : POp) : Prop where
 kind : 0 ≤ o.kind ∧ o.kind ≤ 255
 index : -9223372036854775808 ≤ o.index ∧ o.index ≤ 9223372036854775807
def sRead : List UInt8 := [114, 101, 97, 100]
def sWrite : List UInt8 := [119, 114, 105, 116, 101]
def sFlush : List UInt8 := [102, 108, 117, 115, 104]
def sOp : List UInt8 := [111, 112]
def sClient : List UInt8 := [99, 108, 105, 101, 110, 116]
def lineP (o : POp) : List UInt8 :=
 if o.kind = 1 ∧ o.data = [] then sRead ++ 32 :: itoa o.index
 else if o.kind = 2 then sWrite ++ 32 :: (itoa o.index ++ 32 :: hexP o.data)
 else if o.kind = 3 ∧ o.index = 0 ∧ o.data = [] then sFlush
 else sOp ++ 32 :: (itoa o.kind ++ 32 :: (itoa o.index ++ 32 :: hexP o.data))
def opF (k i d : List UInt8) : Option POp := match parseUintB 8 k, atoiAll i, unhexP d with
 | .ok k, .ok i, some d => some ⟨k, i, d⟩
 | _, _, _ => none
def readW (w : List (List UInt8)) : Option POp := match w with
 | [] => none
 | a :: r => if a = sRead then (match r with | [i] => opF [49] i [45] | _ => none)
  else if a = sWrite then (match r with | [i, d] => opF [50] i d | _ => none)
  else if a = sFlush then (match r with | [] => opF [51] [48] [45] | _ => none)
  else if a = sOp then (match r with | [k, i, d] => opF k i d | _ => none)
  else none
def readP (t : List UInt8) : Option POp := match readW (splitL t 32) with
 | some o => if lineP o = t then some o else none
 | none => none
theorem opF_ok {k i d : List UInt8} {o : POp} (h : opF k i d = some o) : o.Ok := by
 simp only [opF] at h
 split at h
 ·rename_i k' i' d' h1 h2 h3
  cases h
  have hk : k' ≤ 255 := by
   rw [parseUintB] at h1
   split at h1
   ·cases h1
   ·have := parseUintM_le (2 ^ 8 - 1) _ 0 _ (by decide) h1
    omega
  refine ⟨by simp only; omega, ?_⟩
  cases i with
  | nil => simp [atoiAll] at h2
  | cons c r =>
   simp only [atoiAll] at h2
   split at h2
   ·cases h2
   ·cases h2
   ·split at h2
    ·cases h2
    ·rename_i u hu g1
     split at h2
     ·cases h2
     ·rename_i g2
      injection h2 with h2
      subst h2
      simp only
      split <;> rename_i g3 <;> simp only [g3, not_true_eq_false, false_and, true_and, not_false_eq_true] at g1 g2 <;> omega
 ·cases h
theorem readW_ok {w : List (List UInt8)} {o : POp} (h : readW w = some o) : o.Ok := by
 cases w with
 | nil => cases h
 | cons a r =>
  simp only [readW] at h
  by_cases h1 : a = sRead
  ·rw [if_pos h1] at h
   split at h
   ·exact opF_ok h
   ·cases h
  rw [if_neg h1] at h
  by_cases h2 : a = sWrite
  ·rw [if_pos h2] at h
   split at h
   ·exact opF_ok h
   ·cases h
  rw [if_neg h2] at h
  by_cases h3 : a = sFlush
  ·rw [if_pos h3] at h
   split at h
   ·exact opF_ok h
   ·cases h
  rw [if_neg h3] at h
  by_cases h4 : a = sOp
  ·rw [if_pos h4] at h
   split at h
   ·exact opF_ok h
   ·cases h
  rw [if_neg h4] at h
  cases h
theorem readP_some {t : List UInt8} {o : POp} (h : readP t = some o) : lineP o = t ∧ o.Ok := by
 simp only [readP] at h
 split at h
 ·rename_i o' ho
  split at h
  ·rename_i hl
   cases h
   exact ⟨hl, readW_ok ho⟩
  ·cases h
 ·cases h
def badP (p : List POp) : Bool := decide (64 < p.length) || p.any fun o => decide (64 < o.data.length)
def chkP (l : List (List POp)) : Int := if 8 < l.length then 3 else if l.any badP = true then 3 else 0
theorem chkP_ok {l : List (List POp)} : chkP l = 0 ↔ l.length ≤ 8 ∧ ∀ p ∈ l, badP p = false := by
 unfold chkP
 constructor
 ·intro h
  split at h
  ·cases h
  ·split at h
   ·cases h
   ·rename_i h1 h2
    refine ⟨by omega, fun p hp => ?_⟩
    simp only [List.any_eq_true, not_exists, not_and, Bool.not_eq_true] at h2
    exact h2 p hp
 ·rintro ⟨h1, h2⟩
  rw [if_neg (by omega), if_neg]
  simp only [List.any_eq_true, not_exists, not_and, Bool.not_eq_true]
  exact h2
def lastApp (l : List (List POp)) (o : POp) : List (List POp) := l.dropLast ++ [l.getLast?.getD [] ++ [o]]
theorem lastApp_snoc (l : List (List POp)) (p : List POp) (o : POp) : lastApp (l ++ [p]) o = l ++ [p ++ [o]] := by
 simp [lastApp]
def addP (l : List (List POp)) (t : List UInt8) : List (List POp) × Int :=
 if t = sClient then (if 8 < l.length + 1 then ([], 3) else (l ++ [[]], 0))
 else match readP t with
  | none => ([], 5)
  | some o => if l = [] then ([], 5) else if 64 < (l.getLast?.getD []).length + 1 ∨ 64 < o.data.length then ([], 3) else (lastApp l o, 0)
def cutL : List UInt8 → UInt8 → Option (List UInt8 × List UInt8)
 | [], _ => none
 | b :: l, c => if b = c then some ([], l) else match cutL l c with
  | none => none
  | some (p, q) => some (b :: p, q)
theorem cutL_some : ∀ {l : List UInt8} {c : UInt8} {p q : List UInt8}, cutL l c = some (p, q) → l = p ++ c :: q ∧ c ∉ p
 | [], _, _, _, h => by cases h
 | b :: l, c, p, q, h => by
  simp only [cutL] at h
  split at h
  ·rename_i e
   cases h
   subst e
   exact ⟨rfl, by simp⟩
  ·rename_i e
   split at h
   ·cases h
   ·rename_i p' q' h2
    cases h
    obtain ⟨h3, h4⟩ := cutL_some h2
    subst h3
    refine ⟨rfl, ?_⟩
    simp only [List.mem_cons, not_or]
    exact ⟨Ne.symm e, h4⟩
theorem cutL_none : ∀ {l : List UInt8} {c : UInt8}, cutL l c = none → c ∉ l
 | [], _, _ => by simp
 | b :: l, c, h => by
  simp only [cutL] at h
  split at h
  ·cases h
  ·rename_i e
   split at h
   ·rename_i h2
    simp only [List.mem_cons, not_or]
    exact ⟨Ne.symm e, cutL_none h2⟩
   ·cases h
theorem split_cut (s : List UInt8) (c : UInt8) : splitL s c = match cutL s c with
  | none => [s]
  | some (p, q) => p :: splitL q c := by
 cases h : cutL s c with
 | none => exact splitL_one (cutL_none h)
 | some pq =>
  obtain ⟨p, q⟩ := pq
  obtain ⟨rfl, h2⟩ := cutL_some h
  exact splitL_cons q h2
def parseP (s : List UInt8) (l : List (List POp)) (n : Nat) : List (List POp) × Nat × Int :=
 if s = [] then (l, 0, 0) else
 match _h : cutL s 10 with
 | none => ([], n, 5)
 | some (t, r) => if (addP l t).2 = 0 then parseP r (addP l t).1 (n + 1) else ([], n, (addP l t).2)
termination_by s.length
decreasing_by
 have := (cutL_some _h).1
 rw [this]
 simp
 omega
theorem parseP_nil (l : List (List POp)) (n : Nat) : parseP [] l n = (l, 0, 0) := by rw [parseP, if_pos rfl]
theorem parseP_none {s : List UInt8} (l : List (List POp)) (n : Nat) (hs : s ≠ []) (h : cutL s 10 = none) : parseP s l n = ([], n, 5) := by
 rw [parseP, if_neg hs]
 split
 ·rfl
 ·rename_i h2; rw [h] at h2; cases h2
theorem parseP_some {s t r : List UInt8} (l : List (List POp)) (n : Nat) (hs : s ≠ []) (h : cutL s 10 = some (t, r)) : parseP s l n = if (addP l t).2 = 0 then parseP r (addP l t).1 (n + 1) else ([], n, (addP l t).2) := by
 rw [parseP, if_neg hs]
 split
 ·rename_i h2; rw [h] at h2; cases h2
 ·rename_i h2; rw [h] at h2; cases h2; rfl
def parseR : List (List UInt8) → Nat → List (List POp) → List (List POp) × Nat × Int
 | [], _, l => (l, 0, 0)
 | [t], i, l => if t = [] then (l, 0, 0) else ([], i + 1, 5)
 | t :: u :: ts, i, l => if t = sClient then (if 0 < chkP (l ++ [[]]) then ([], i + 1, 3) else parseR (u :: ts) (i + 1) (l ++ [[]]))
  else match readP t with
   | none => ([], i + 1, 5)
   | some o => if l = [] then ([], i + 1, 5) else if 0 < chkP (lastApp l o) then ([], i + 1, 3) else parseR (u :: ts) (i + 1) (lastApp l o)
theorem chk_client {l : List (List POp)} (h : chkP l = 0) : chkP (l ++ [[]]) = if 8 < l.length + 1 then 3 else 0 := by
 obtain ⟨h1, h2⟩ := chkP_ok.1 h
 split
 ·rename_i h3
  unfold chkP
  rw [if_pos (by simpa using h3)]
 ·rename_i h3
  refine chkP_ok.2 ⟨by simp; omega, fun p hp => ?_⟩
  rcases List.mem_append.1 hp with hp | hp
  ·exact h2 p hp
  ·rw [List.mem_singleton.1 hp]; rfl
theorem chk_last {l : List (List POp)} (h : chkP l = 0) (hl : l ≠ []) (o : POp) : chkP (lastApp l o) = if 64 < (l.getLast?.getD []).length + 1 ∨ 64 < o.data.length then 3 else 0 := by
 obtain ⟨h1, h2⟩ := chkP_ok.1 h
 obtain ⟨m, p, rfl⟩ : ∃ m p, l = m ++ [p] := ⟨l.dropLast, l.getLast hl, (List.dropLast_concat_getLast hl).symm⟩
 have hg : (m ++ [p]).getLast?.getD [] = p := by simp
 rw [lastApp_snoc, hg]
 have hp := h2 p (by simp)
 simp only [badP, Bool.or_eq_false_iff, decide_eq_false_iff_not, List.any_eq_false, decide_eq_true_iff] at hp
 split
 ·rename_i h3
  unfold chkP
  rw [if_neg (by simpa using h1), if_pos]
  rw [List.any_append, Bool.or_eq_true]
  right
  simp only [List.any_cons, List.any_nil, Bool.or_false, badP, Bool.or_eq_true, decide_eq_true_iff, List.length_append, List.length_singleton, List.any_append]
  rcases h3 with h3 | h3
  ·exact .inl h3
  ·right; simp [h3]
 ·rename_i h3
  refine chkP_ok.2 ⟨by simpa using h1, fun q hq => ?_⟩
  rcases List.mem_append.1 hq with hq | hq
  ·exact h2 q (by simp [hq])
  ·rw [List.mem_singleton.1 hq]
   simp only [not_or] at h3
   simp only [badP, Bool.or_eq_false_iff, decide_eq_false_iff_not, List.any_eq_false, decide_eq_true_iff, List.length_append, List.length_singleton, List.mem_append, List.mem_singleton]
   refine ⟨h3.1, fun x hx => ?_⟩
   rcases hx with hx | rfl
   ·exact hp.2 x hx
   ·exact h3.2
theorem add_chk {l l' : List (List POp)} {t : List UInt8} (h : chkP l = 0) (ha : addP l t = (l', 0)) : chkP l' = 0 := by
 simp only [addP] at ha
 split at ha
 ·split at ha
  ·cases ha
  ·rename_i h3
   cases ha
   rw [chk_client h, if_neg h3]
 ·split at ha
  ·cases ha
  ·split at ha
   ·cases ha
   ·rename_i hl
    split at ha
    ·cases ha
    ·rename_i h3
     cases ha
     rw [chk_last h hl, if_neg h3]
def opsT (p : List POp) : List UInt8 := p.flatMap fun o => lineP o ++ [10]
def textP (l : List (List POp)) : List UInt8 := l.flatMap fun p => sClient ++ 10 :: opsT p
theorem opsT_snoc (p : List POp) (o : POp) : opsT (p ++ [o]) = opsT p ++ (lineP o ++ [10]) := by simp [opsT]
theorem textP_snoc (l : List (List POp)) (p : List POp) : textP (l ++ [p]) = textP l ++ (sClient ++ 10 :: opsT p) := by simp [textP]
def OkL (l : List (List POp)) : Prop := ∀ p ∈ l, ∀ o ∈ p, o.Ok
theorem add_text {l l' : List (List POp)} {t : List UInt8} (ha : addP l t = (l', 0)) : textP l' = textP l ++ (t ++ [10]) := by
 simp only [addP] at ha
 split at ha
 ·rename_i ht
  split at ha
  ·cases ha
  ·cases ha
   rw [textP_snoc, ht]
   simp [opsT]
 ·split at ha
  ·cases ha
  ·rename_i o ho
   split at ha
   ·cases ha
   ·rename_i hl
    split at ha
    ·cases ha
    ·cases ha
     obtain ⟨m, p, rfl⟩ : ∃ m p, l = m ++ [p] := ⟨l.dropLast, l.getLast hl, (List.dropLast_concat_getLast hl).symm⟩
     rw [lastApp_snoc, textP_snoc, textP_snoc, opsT_snoc, (readP_some ho).1]
     simp
theorem add_ok {l l' : List (List POp)} {t : List UInt8} (hl : OkL l) (ha : addP l t = (l', 0)) : OkL l' := by
 simp only [addP] at ha
 split at ha
 ·split at ha
  ·cases ha
  ·cases ha
   intro p hp
   rcases List.mem_append.1 hp with hp | hp
   ·exact hl p hp
   ·rw [List.mem_singleton.1 hp]; simp
 ·split at ha
  ·cases ha
  ·rename_i o ho
   split at ha
   ·cases ha
   ·rename_i hnil
    split at ha
    ·cases ha
    ·cases ha
     obtain ⟨m, p, rfl⟩ : ∃ m p, l = m ++ [p] := ⟨l.dropLast, l.getLast hnil, (List.dropLast_concat_getLast hnil).symm⟩
     rw [lastApp_snoc]
     intro q hq x hx
     rcases List.mem_append.1 hq with hq | hq
     ·exact hl q (by simp [hq]) x hx
     ·rw [List.mem_singleton.1 hq] at hx
      rcases List.mem_append.1 hx with hx | hx
      ·exact hl p (by simp) x hx
      ·rw [List.mem_singleton.1 hx]; exact (readP_some ho).2
theorem parse_out : ∀ (k : Nat) (s : List UInt8) (l m : List (List POp)) (n j : Nat), s.length ≤ k → chkP l = 0 → OkL l → parseP s l n = (m, j, 0) → j = 0 ∧ textP m = textP l ++ s ∧ chkP m = 0 ∧ OkL m := by
 intro k
 induction k with
 | zero =>
  intro s l m n j hs hc hok h
  have : s = [] := List.length_eq_zero_iff.1 (by omega)
  subst this
  rw [parseP_nil] at h
  cases h
  exact ⟨rfl, by simp, hc, hok⟩
 | succ k ih =>
  intro s l m n j hs hc hok h
  by_cases he : s = []
  ·subst he
   rw [parseP_nil] at h
   cases h
   exact ⟨rfl, by simp, hc, hok⟩
  ·cases hcut : cutL s 10 with
   | none => rw [parseP_none l _ he hcut] at h; cases h
   | some pq =>
    obtain ⟨t, r⟩ := pq
    rw [parseP_some l _ he hcut] at h
    have hsr := (cutL_some hcut).1
    split at h
    ·rename_i ha
     have ha' : addP l t = ((addP l t).1, 0) := by rw [← ha]
     obtain ⟨g1, g2, g3⟩ := ih r (addP l t).1 m (n + 1) j (by rw [hsr] at hs; simp at hs; omega) (add_chk hc ha') (add_ok hok ha') h
     refine ⟨g1, ?_, g3⟩
     rw [g2, add_text ha', hsr]
     simp
    ·rename_i ha
     injection h with _ h
     injection h with _ h
     exact absurd h ha
def intStep (sg : Int) (acc : Int) (c : UInt8) : Int := IntKind.i64.wrap (IntKind.i64.wrap (acc * 10) + IntKind.i64.wrap (sg * ((c.toNat : Int) - 48)))
def isDig (c : UInt8) : Bool := decide (48 ≤ c.toNat) && decide (c.toNat ≤ 57)
def sgOf (s : List UInt8) : Int := if s.head? = some 45 then -1 else 1
def digOf (s : List UInt8) : List UInt8 := if s.head? = some 45 then s.tail else s
def intV (s : List UInt8) : Int := (digOf s).foldl (intStep (sgOf s)) 0
def intR (s : List UInt8) : Option Int := if 19 < (digOf s).length then none else if (digOf s).all isDig = false then none else if itoa (intV s) = s then some (intV s) else none
def exStep (sg : Int) (acc : Int) (c : UInt8) : Int := acc * 10 + sg * ((c.toNat : Int) - 48)
def opR (k : Int) (i d : List UInt8) : Option POp := match intR i, unhexP d with
 | some i, some d => some ⟨k, i, d⟩
 | _, _ => none
def kindR (k : List UInt8) : Option Int := match intR k with
 | some n => if n < 0 ∨ 255 < n then none else some n
 | none => none
def wordsR (w : List (List UInt8)) : Option POp := match w with
 | [] => none
 | a :: r => if a = sRead ∧ r.length = 1 then opR 1 (r.getD 0 []) [45]
  else if a = sWrite ∧ r.length = 2 then opR 2 (r.getD 0 []) (r.getD 1 [])
  else if a = sFlush ∧ r.length = 0 then opR 3 [48] [45]
  else if a = sOp ∧ r.length = 3 then (match kindR (r.getD 0 []) with
   | some k => opR k (r.getD 1 []) (r.getD 2 [])
   | none => none)
  else none
def readR (s : List UInt8) : Option POp := match wordsR (splitL s 32) with
 | some o => if lineP o = s then some o else none
 | none => none
end Go.Plain
namespace Go.Proofs.YthiijfbcfoifnaaGreatDoor
open Go.Eng Go.Plain
abbrev bo (b : Bool) : D := .sc (.bool b)
abbrev i6 (n : Int) : D := .sc (.int .i64 n)
abbrev u8s (n : Int) : D := .sc (.int .u8 n)
abbrev encB (l : List UInt8) : D := .arr 1 encU8 (byI l)
theorem byI_app (a b : List UInt8) : byI a ++ byI b = byI (a ++ b) := by simp [byI]
theorem byI_len (l : List UInt8) : (byI l).length = l.length := by simp [byI]
theorem byI_get {l : List UInt8} {j : Nat} {b : UInt8} (h : l[j]? = some b) : (byI l)[j]? = some (b.toNat : Int) := by simp [byI, h]
def encPOp (o : POp) : D := .cons (u8s o.kind) (.cons (i6 o.index) (.cons (encB o.data) .nil))
abbrev encP (p : List POp) : D := .arr 3 encPOp p
abbrev encPL (l : List (List POp)) : D := .arr 1 encP l
def idxF {α : Type} (p : α → Bool) (l : List α) : Int := match l.findIdx? p with
 | some i => i
 | none => -1
theorem idxF_some {α : Type} {p : α → Bool} {l : List α} {i : Nat} {x : α} (hx : l[i]? = some x) (hp : p x = true) (hn : ∀ j, j < i → ∀ y, l[j]? = some y → p y = false) : idxF p l = i := by
 have : l.findIdx? p = some i := by
  rw [List.findIdx?_eq_some_iff_getElem]
  obtain ⟨h1, h2⟩ := List.getElem?_eq_some_iff.1 hx
  refine ⟨h1, by rw [h2]; exact hp, fun j hj => ?_⟩
  have := hn j hj _ (List.getElem?_eq_getElem (by omega))
  simp [this]
 simp [idxF, this]
theorem idxF_none {α : Type} {p : α → Bool} {l : List α} (hn : ∀ (j : Nat) (y : α), l[j]? = some y → p y = false) : idxF p l = -1 := by
 have : l.findIdx? p = none := by
  rw [List.findIdx?_eq_none_iff]
  intro x hx
  obtain ⟨j, hj⟩ := List.mem_iff_getElem?.1 hx
  exact hn j x hj
 simp [idxF, this]
theorem idxF_any {α : Type} (p : α → Bool) (l : List α) : decide (0 ≤ idxF p l) = l.any p := by
 cases h : l.any p with
 | true =>
  have : (l.findIdx? p).isSome = true := by rw [List.findIdx?_isSome]; exact h
  obtain ⟨i, hi⟩ := Option.isSome_iff_exists.1 this
  simp only [idxF, hi]
  exact dT (by omega)
 | false =>
  have : l.findIdx? p = none := by
   rw [List.findIdx?_eq_none_iff]
   intro x hx
   rw [List.any_eq_false] at h
   simpa using h x hx
  simp only [idxF, this]
  rfl
end Go.Proofs.YthiijfbcfoifnaaGreatDoor
namespace Go.Proofs.YthiijfbcfoifnaaGreatDoor
open Go.Eng Go.Plain
set_option maxHeartbeats 4000000
attribute [local irreducible] WC RegS RegD SeqQ BlkQ ScoQ RegK CutK Sat SatN FnIs LoopQ StepIs OpIs
theorem ixop_is {α : Type} (enc : α → D) (hsz : ∀ x, sizeOk tab 36 (.d (enc x)) = true) (p : α → Bool) (g : FuncId) (xs : List α) (hL : xs.length ≤ 1000000000) (hg : ∀ x ∈ xs, FnIs Tryz.prog g [.d (enc x)] [] (.bool (p x)) []) : FnIs Tryz.prog 101 [.d (.arr 3 enc xs), .fn (.func g) .anil .anil] [] (.int .i64 (idxF p xs)) [] := by
 refine fnIs_of tab_ok Tryz.func101 rfl rfl rfl ?_;refine sR ?_;refine rC ?_;refine nQ ?_;refine sR ?_;refine rC ?_;refine rQ iE ?_;refine rC ?_;refine nS ?_;refine wc_block ?_
 refine wc_inv (fun i : Nat => ⟨[(8, .int .i64 i), (7, .int .i64 xs.length), (1, .fn (.func g) .anil .anil), (0, .d (.arr 3 enc xs))], [], 72, Tryz.f101.ntmps, 64⟩) (fun i => i ≤ xs.length ∧ ∀ j, j < i → ∀ y, xs[j]? = some y → p y = false) (fun i => xs.length - i) 0 [] ⟨Nat.zero_le _, fun j hj => absurd hj (Nat.not_lt_zero _)⟩
  (.of rfl rfl rfl rfl rfl ⟨⟨_, rfl, .refl _⟩, rfl, ⟨_, rfl, .refl _⟩, rfl, ⟨_, rfl, .refl _⟩, rfl, ⟨_, rfl, .refl _⟩, rfl, trivial⟩ trivial) ?_
 rintro i ⟨hi, hno⟩
 refine wc_of ?_;refine sR ?_;refine rC ?_;refine nQ ?_
 refine wc_cond rfl (fun h2 => ?_) (fun h2 => ?_)
 ·have hlt : i < xs.length := by have := of_decide_eq_true h2; omega
  obtain ⟨x, hx⟩ : ∃ u, xs[i]? = some u := ⟨_, List.getElem?_eq_getElem hlt⟩
  have hx' : xs[((i : Int)).toNat]? = some x := by rw [Int.toNat_natCast]; exact hx
  have hpx := hg x (List.mem_of_getElem? hx)
  have hs := hsz x
  cases hp : p x with
  | true =>
   refine kS ?_;refine wc_seq ?_;refine wc_block ?_;refine sR ?_;iterate 2 refine rC ?_
   refine nR ?_;iterate 3 refine rC ?_
   refine rQ (index_arr tab_ok rfl rfl rfl rfl rfl (by omega) hx') ?_;refine rQ (load_i tab_ok rfl hs) ?_;refine rQ (call_r hpx rfl rfl (arg_e arg_nil) (.inl rfl) (fun _ => rfl)) ?_
   refine nS ?_;refine wT ?_;refine sR ?_;iterate 2 refine rC ?_
   refine nS ?_;refine wc_ret ?_;refine blk_r ?_;refine seq_r ?_;refine loop_r ?_;refine blk_r ?_;refine seq_r ?_
   exact ⟨trivial, [], .of rfl rfl rfl rfl rfl ⟨⟨_, rfl, AVLe.of_eq (by rw [idxF_some hx hp hno]; rfl)⟩, rfl, trivial⟩ trivial⟩
  | false =>
   refine kS ?_;refine wc_seq ?_;refine wc_block ?_;refine sR ?_;iterate 2 refine rC ?_
   refine nR ?_;iterate 3 refine rC ?_
   refine rQ (index_arr tab_ok rfl rfl rfl rfl rfl (by omega) hx') ?_;refine rQ (load_i tab_ok rfl hs) ?_;refine rQ (call_r hpx rfl rfl (arg_e arg_nil) (.inl rfl) (fun _ => rfl)) ?_
   refine nS ?_;refine wF ?_;refine wc_skip ?_;refine blk_n ?_;refine seq_n ?_;refine wc_region ?_;refine rQ iD ?_;refine rC ?_;refine reg_nil ?_;refine loop_n (i + 1) [] ⟨hlt, fun j hj y hy => ?_⟩ (by omega) ?_
   ·by_cases e : j = i
    ·subst e
     rw [hx] at hy
     cases hy
     exact hp
    ·exact hno j (by omega) y hy
   ·exact .of rfl rfl rfl rfl rfl ⟨⟨_, rfl, .refl _⟩, rfl, ⟨_, rfl, .refl _⟩, rfl, ⟨_, rfl, .refl _⟩, rfl, ⟨_, rfl, .refl _⟩, rfl, trivial⟩ trivial
 ·have he : i = xs.length := by have := of_decide_eq_false h2; omega
  refine wc_exit ?_;refine seq_x ?_;refine loop_x ?_;refine blk_x ?_;refine seq_n ?_;refine sR ?_;refine rC ?_;refine nS ?_;refine wc_ret ?_
  exact ⟨trivial, [], .of rfl rfl rfl rfl rfl ⟨⟨_, rfl, AVLe.of_eq (by
   rw [idxF_none fun j y hy => hno j (by have := (List.getElem?_eq_some_iff.1 hy).1; omega) y hy]
   rfl)⟩, rfl, trivial⟩ trivial⟩
theorem ixopc_is {α : Type} (enc : α → D) (hsz : ∀ x, sizeOk tab 36 (.d (enc x)) = true) (p : α → Bool) (g : FuncId) (xs : List α) (hL : xs.length ≤ 1000000000) (hg : ∀ x ∈ xs, FnIs Tryz.prog g [.d (enc x)] [] (.bool (p x)) []) : FnIs Tryz.prog 64 [.d (.arr 3 enc xs), .fn (.func g) .anil .anil] [] (.bool (xs.any p)) [] := by
 refine fnIs_of tab_ok Tryz.func64 rfl rfl rfl ?_;refine sR ?_;refine rC ?_;refine nR ?_;iterate 2 refine rC ?_
 refine rQ (call_r (ixop_is enc hsz p g xs hL hg) rfl rfl (arg_e (arg_fn arg_nil)) (.inl rfl) (fun _ => rfl)) ?_;iterate 2 refine rC ?_
 refine nS ?_;refine wc_ret ?_
 exact ⟨trivial, [], .of rfl rfl rfl rfl rfl ⟨⟨_, rfl, AVLe.of_eq (by rw [← idxF_any]; rfl)⟩, rfl, trivial⟩ trivial⟩
theorem ixp_is {α : Type} (enc : α → D) (hsz : ∀ x, sizeOk tab 32 (.d (enc x)) = true) (p : α → Bool) (g : FuncId) (xs : List α) (hL : xs.length ≤ 1000000000) (hg : ∀ x ∈ xs, FnIs Tryz.prog g [.d (enc x)] [] (.bool (p x)) []) : FnIs Tryz.prog 102 [.d (.arr 1 enc xs), .fn (.func g) .anil .anil] [] (.int .i64 (idxF p xs)) [] := by
 refine fnIs_of tab_ok Tryz.func102 rfl rfl rfl ?_;refine sR ?_;refine rC ?_;refine nQ ?_;refine sR ?_;refine rC ?_;refine rQ iE ?_;refine rC ?_;refine nS ?_;refine wc_block ?_
 refine wc_inv (fun i : Nat => ⟨[(8, .int .i64 i), (7, .int .i64 xs.length), (1, .fn (.func g) .anil .anil), (0, .d (.arr 1 enc xs))], [], 72, Tryz.f102.ntmps, 64⟩) (fun i => i ≤ xs.length ∧ ∀ j, j < i → ∀ y, xs[j]? = some y → p y = false) (fun i => xs.length - i) 0 [] ⟨Nat.zero_le _, fun j hj => absurd hj (Nat.not_lt_zero _)⟩
  (.of rfl rfl rfl rfl rfl ⟨⟨_, rfl, .refl _⟩, rfl, ⟨_, rfl, .refl _⟩, rfl, ⟨_, rfl, .refl _⟩, rfl, ⟨_, rfl, .refl _⟩, rfl, trivial⟩ trivial) ?_
 rintro i ⟨hi, hno⟩
 refine wc_of ?_;refine sR ?_;refine rC ?_;refine nQ ?_
 refine wc_cond rfl (fun h2 => ?_) (fun h2 => ?_)
 ·have hlt : i < xs.length := by have := of_decide_eq_true h2; omega
  obtain ⟨x, hx⟩ : ∃ u, xs[i]? = some u := ⟨_, List.getElem?_eq_getElem hlt⟩
  have hx' : xs[((i : Int)).toNat]? = some x := by rw [Int.toNat_natCast]; exact hx
  have hpx := hg x (List.mem_of_getElem? hx)
  have hs := hsz x
  cases hp : p x with
  | true =>
   refine kS ?_;refine wc_seq ?_;refine wc_block ?_;refine sR ?_;iterate 2 refine rC ?_
   refine nR ?_;iterate 3 refine rC ?_
   refine rQ (index_arr tab_ok rfl rfl rfl rfl rfl (by omega) hx') ?_;refine rQ (load_i tab_ok rfl hs) ?_;refine rQ (call_r hpx rfl rfl (arg_e arg_nil) (.inl rfl) (fun _ => rfl)) ?_
   refine nS ?_;refine wT ?_;refine sR ?_;iterate 2 refine rC ?_
   refine nS ?_;refine wc_ret ?_;refine blk_r ?_;refine seq_r ?_;refine loop_r ?_;refine blk_r ?_;refine seq_r ?_
   exact ⟨trivial, [], .of rfl rfl rfl rfl rfl ⟨⟨_, rfl, AVLe.of_eq (by rw [idxF_some hx hp hno]; rfl)⟩, rfl, trivial⟩ trivial⟩
  | false =>
   refine kS ?_;refine wc_seq ?_;refine wc_block ?_;refine sR ?_;iterate 2 refine rC ?_
   refine nR ?_;iterate 3 refine rC ?_
   refine rQ (index_arr tab_ok rfl rfl rfl rfl rfl (by omega) hx') ?_;refine rQ (load_i tab_ok rfl hs) ?_;refine rQ (call_r hpx rfl rfl (arg_e arg_nil) (.inl rfl) (fun _ => rfl)) ?_
   refine nS ?_;refine wF ?_;refine wc_skip ?_;refine blk_n ?_;refine seq_n ?_;refine wc_region ?_;refine rQ iD ?_;refine rC ?_;refine reg_nil ?_;refine loop_n (i + 1) [] ⟨hlt, fun j hj y hy => ?_⟩ (by omega) ?_
   ·by_cases e : j = i
    ·subst e
     rw [hx] at hy
     cases hy
     exact hp
    ·exact hno j (by omega) y hy
   ·exact .of rfl rfl rfl rfl rfl ⟨⟨_, rfl, .refl _⟩, rfl, ⟨_, rfl, .refl _⟩, rfl, ⟨_, rfl, .refl _⟩, rfl, ⟨_, rfl, .refl _⟩, rfl, trivial⟩ trivial
 ·have he : i = xs.length := by have := of_decide_eq_false h2; omega
  refine wc_exit ?_;refine seq_x ?_;refine loop_x ?_;refine blk_x ?_;refine seq_n ?_;refine sR ?_;refine rC ?_;refine nS ?_;refine wc_ret ?_
  exact ⟨trivial, [], .of rfl rfl rfl rfl rfl ⟨⟨_, rfl, AVLe.of_eq (by
   rw [idxF_none fun j y hy => hno j (by have := (List.getElem?_eq_some_iff.1 hy).1; omega) y hy]
   rfl)⟩, rfl, trivial⟩ trivial⟩
theorem ixpc_is {α : Type} (enc : α → D) (hsz : ∀ x, sizeOk tab 32 (.d (enc x)) = true) (p : α → Bool) (g : FuncId) (xs : List α) (hL : xs.length ≤ 1000000000) (hg : ∀ x ∈ xs, FnIs Tryz.prog g [.d (enc x)] [] (.bool (p x)) []) : FnIs Tryz.prog 66 [.d (.arr 1 enc xs), .fn (.func g) .anil .anil] [] (.bool (xs.any p)) [] := by
 refine fnIs_of tab_ok Tryz.func66 rfl rfl rfl ?_;refine sR ?_;refine rC ?_;refine nR ?_;iterate 2 refine rC ?_
 refine rQ (call_r (ixp_is enc hsz p g xs hL hg) rfl rfl (arg_e (arg_fn arg_nil)) (.inl rfl) (fun _ => rfl)) ?_;iterate 2 refine rC ?_
 refine nS ?_;refine wc_ret ?_
 exact ⟨trivial, [], .of rfl rfl rfl rfl rfl ⟨⟨_, rfl, AVLe.of_eq (by rw [← idxF_any]; rfl)⟩, rfl, trivial⟩ trivial⟩
theorem long_op (o : POp) : FnIs Tryz.prog 65 [.d (encPOp o)] [] (.bool (decide (64 < o.data.length))) [] := by
 have e : decide ((64 : Int) < ((byI o.data).length : Int)) = decide (64 < o.data.length) := by rw [byI_len]; exact decide_eq_decide.2 (by omega)
 refine fnIs_of tab_ok Tryz.func65 rfl rfl rfl ?_;refine sR ?_;refine rN ?_;refine rC ?_;refine nR ?_;refine rC ?_;refine rQ iB ?_;refine rQ iE ?_;iterate 2 refine rC ?_
 refine nS ?_;refine wc_ret ?_
 exact ⟨trivial, [], .of rfl rfl rfl rfl rfl ⟨⟨_, rfl, AVLe.of_eq (congrArg (fun b => AV.bool b) e)⟩, rfl, trivial⟩ trivial⟩
theorem long_p (p : List POp) (hL : p.length ≤ 1000000000) : FnIs Tryz.prog 63 [.d (encP p)] [] (.bool (badP p)) [] := by
 have e : decide ((64 : Int) < (p.length : Int)) = decide (64 < p.length) := decide_eq_decide.2 (by omega)
 refine fnIs_of tab_ok Tryz.func63 rfl rfl rfl ?_
 cases h : decide ((64 : Int) < (p.length : Int)) with
 | true =>
  rw [h] at e
  refine sR ?_;refine rC ?_;refine nR ?_;refine rC ?_;refine rQ iE ?_;iterate 2 refine rC ?_
  iterate 2 refine rS ?_
  refine rQ iT ?_;refine rC ?_;refine nS ?_;refine wc_ret ?_
  exact ⟨trivial, [], .of rfl rfl rfl rfl rfl ⟨⟨_, rfl, AVLe.of_eq (by rw [badP, ← e]; rfl)⟩, rfl, trivial⟩ trivial⟩
 | false =>
  rw [h] at e
  refine sR ?_;refine rC ?_;refine nR ?_;refine rC ?_;refine rQ iE ?_;iterate 2 refine rC ?_
  refine rO ?_;refine rC ?_;refine rO ?_;refine rQ (call_r (ixopc_is encPOp (fun _ => rfl) (fun o => decide (64 < o.data.length)) _ p hL (fun o _ => long_op o)) rfl rfl (arg_e (arg_fn arg_nil)) (.inl rfl) (fun _ => rfl)) ?_
  refine rQ iF ?_;refine rC ?_;refine nS ?_;refine wc_ret ?_
  exact ⟨trivial, [], .of rfl rfl rfl rfl rfl ⟨⟨_, rfl, AVLe.of_eq (by rw [badP, ← e]; rfl)⟩, rfl, trivial⟩ trivial⟩
theorem check_is (l : List (List POp)) (hL : l.length ≤ 1000000000) (hP : ∀ p ∈ l, p.length ≤ 1000000000) : FnIs Tryz.prog 30 [.d (encPL l)] [] (.int .i64 (chkP l)) [] := by
 refine fnIs_of tab_ok Tryz.func30 rfl rfl rfl ?_
 cases h : decide ((8 : Int) < (l.length : Int)) with
 | true =>
  have h8 : 8 < l.length := by have := of_decide_eq_true h; omega
  refine sR ?_;refine rC ?_;refine nR ?_;refine rC ?_;refine nQ ?_;refine sR ?_;refine rC ?_;refine rQ iE ?_;iterate 2 refine rC ?_
  iterate 3 refine rS ?_
  refine rQ iT ?_;refine nS ?_;refine wV ?_;refine sR ?_;refine rC ?_;refine nS ?_;refine wc_ret ?_;refine seq_r ?_
  exact ⟨trivial, [], .of rfl rfl rfl rfl rfl ⟨⟨_, rfl, AVLe.of_eq (by rw [chkP, if_pos h8]; rfl)⟩, rfl, trivial⟩ trivial⟩
 | false =>
  have h8 : ¬ 8 < l.length := by have := of_decide_eq_false h; omega
  cases hb : l.any badP with
  | true =>
   refine sR ?_;refine rC ?_;refine nR ?_;refine rC ?_;refine nQ ?_;refine sR ?_;refine rC ?_;refine rQ iE ?_;iterate 2 refine rC ?_
   refine rO ?_;refine rC ?_;refine rO ?_;refine rC ?_;refine rO ?_;refine rQ (call_r (ixpc_is encP (fun _ => rfl) badP _ l hL (fun p hp => long_p p (hP p hp))) rfl rfl (arg_e (arg_fn arg_nil)) (.inl rfl) (fun _ => rfl)) ?_
   refine rQ iF ?_;refine nS ?_;refine wT ?_;refine sR ?_;refine rC ?_;refine nS ?_;refine wc_ret ?_;refine seq_r ?_
   exact ⟨trivial, [], .of rfl rfl rfl rfl rfl ⟨⟨_, rfl, AVLe.of_eq (by rw [chkP, if_neg h8, if_pos hb]; rfl)⟩, rfl, trivial⟩ trivial⟩
  | false =>
   refine sR ?_;refine rC ?_;refine nR ?_;refine rC ?_;refine nQ ?_;refine sR ?_;refine rC ?_;refine rQ iE ?_;iterate 2 refine rC ?_
   refine rO ?_;refine rC ?_;refine rO ?_;refine rC ?_;refine rO ?_;refine rQ (call_r (ixpc_is encP (fun _ => rfl) badP _ l hL (fun p hp => long_p p (hP p hp))) rfl rfl (arg_e (arg_fn arg_nil)) (.inl rfl) (fun _ => rfl)) ?_
   refine rQ iF ?_;refine nS ?_;refine wF ?_;refine kS ?_;refine sR ?_;refine rC ?_;refine nS ?_;refine wc_ret ?_
   exact ⟨trivial, [], .of rfl rfl rfl rfl rfl ⟨⟨_, rfl, AVLe.of_eq (by rw [chkP, if_neg h8, if_neg (by rw [hb]; simp)]; rfl)⟩, rfl, trivial⟩ trivial⟩
end Go.Proofs.YthiijfbcfoifnaaGreatDoor
namespace Go.Plain
open Go.Eng Go.Lib
theorem cut_ib {c : UInt8} : ∀ {l : List UInt8}, match cutL l c with
  | none => indexByte l c = -1
  | some (p, _) => indexByte l c = (p.length : Int)
 | [] => rfl
 | b :: l => by
  simp only [cutL]
  by_cases e : b = c
  ·rw [if_pos e]
   subst e
   simp [indexByte]
  ·rw [if_neg e]
   have ih := @cut_ib c l
   have hb : (b == c) = false := by simpa using e
   cases h : cutL l c with
   | none =>
    rw [h] at ih
    simp only at ih ⊢
    simp [indexByte, hb, ih]
   | some pq =>
    obtain ⟨p, q⟩ := pq
    rw [h] at ih
    simp only at ih ⊢
    have h1 : ¬ ((p.length : Int) = -1) := by omega
    simp [indexByte, hb, ih, h1]
theorem lib_cut (l : List UInt8) (c : UInt8) : cut l [c] = match cutL l c with
  | none => (l, [], false)
  | some (p, q) => (p, q, true) := by
 have := @cut_ib c l
 rw [cut, index_one]
 cases h : cutL l c with
 | none =>
  rw [h] at this
  simp only at this
  rw [this, if_neg (by omega)]
 | some pq =>
  obtain ⟨p, q⟩ := pq
  rw [h] at this
  simp only at this
  obtain ⟨rfl, _⟩ := cutL_some h
  rw [this, if_pos (by omega)]
  simp
theorem indexB_is (l : List UInt8) (c : UInt8) : indexB (mkS l) (mkS [c]) = indexByte l c := by
 rw [indexB, mkS_data, mkS_data, index_one]
theorem splitL_len : ∀ (l : List UInt8) (c : UInt8), (splitL l c).length ≤ l.length + 1
 | [], _ => by simp [splitL]
 | b :: l, c => by
  have := splitL_len l c
  simp only [splitL]
  split
  ·simpa using this
  ·split
   ·simp
   ·rename_i h
    rw [h] at this
    simp only [List.length_cons] at this ⊢
    omega
theorem lib_split {c : UInt8} : ∀ (k : Nat) (l : List UInt8), l.length ≤ k → splitB (mkS [c]) 0 (countB (mkS l) (mkS [c])) (mkS l) = (splitL l c).map mkS ∧ countB (mkS l) (mkS [c]) + 1 = (splitL l c).length := by
 intro k
 induction k with
 | zero =>
  intro l hl
  obtain rfl : l = [] := List.eq_nil_of_length_eq_zero (by omega)
  have h := indexB_is [] c
  have hm : indexB (mkS []) (mkS [c]) = -1 := by rw [h]; rfl
  rw [countB_miss _ _ hm, splitB_zero]
  exact ⟨rfl, rfl⟩
 | succ k ih =>
  intro l hl
  have hib := @cut_ib c l
  rw [split_cut]
  cases h : cutL l c with
  | none =>
   rw [h] at hib
   simp only at hib
   have hm : indexB (mkS l) (mkS [c]) = -1 := by rw [indexB_is, hib]
   rw [countB_miss _ _ hm, splitB_zero]
   exact ⟨rfl, rfl⟩
  | some pq =>
   obtain ⟨p, q⟩ := pq
   rw [h] at hib
   simp only at hib
   obtain ⟨rfl, _⟩ := cutL_some h
   have hm : indexB (mkS (p ++ c :: q)) (mkS [c]) = (p.length : Nat) := by rw [indexB_is, hib]
   have hx : (mkS (p ++ c :: q)).extract (p.length + (mkS [c]).size) (mkS (p ++ c :: q)).size = mkS q := by
    rw [mkS_extract, mkS_size, mkS_size]
    congr 1
    have e1 : (p ++ c :: q).drop (p.length + [c].length) = q := by
     rw [List.drop_append, List.drop_eq_nil_of_le (by simp)]
     simp
    rw [e1]
    exact List.take_of_length_le (by simp; omega)
   have hy : (mkS (p ++ c :: q)).extract 0 (p.length + 0) = mkS p := by
    rw [mkS_extract]
    congr 1
    simp
   have hq : q.length ≤ k := by simp at hl; omega
   obtain ⟨h1, h2⟩ := ih q hq
   rw [countB_hit _ _ p.length (by rw [mkS_size]; exact Nat.le_refl 1) hm, hx, Nat.add_comm 1, splitB_hit _ _ _ _ _ hm, hx, hy, h1]
   refine ⟨rfl, ?_⟩
   simp only [List.length_cons]
   omega
end Go.Plain
namespace Go.Eng
open Go.RowKit
theorem RelV.er {σ : Place} {w : World} {X : Nat → Prop} {u : Value} : RelV σ w X .er u ↔ ∃ t v, u = .iface t v := by
 unfold RelV
 rw [if_neg (by simp [AV.isAgg])]
 simp only [Rel, List.cons.injEq, and_true]
theorem relV_er {σ : Place} {w : World} {X : Nat → Prop} {v v1 : Value} {t : TypeId} (h1 : v.oneCell' = true) : RelV σ w X (.tup (.acons (.d (.sc v)) (.acons .er .anil))) (.tuple #[v, .iface t v1]) := by
 unfold RelV
 rw [if_neg (by simp [AV.isAgg])]
 exact ⟨_, rfl, _, _, rfl, RelV.sc.2 ⟨rfl, h1⟩, _, _, rfl, RelV.er.2 ⟨_, _, rfl⟩, rfl⟩
theorem relV_sc2 {σ : Place} {w : World} {X : Nat → Prop} {v v1 : Value} (h1 : v.oneCell' = true) (h2 : v1.oneCell' = true) : RelV σ w X (.tup (.acons (.d (.sc v)) (.acons (.d (.sc v1)) .anil))) (.tuple #[v, v1]) := by
 unfold RelV
 rw [if_neg (by simp [AV.isAgg])]
 exact ⟨_, rfl, _, _, rfl, RelV.sc.2 ⟨rfl, h1⟩, _, _, rfl, RelV.sc.2 ⟨rfl, h2⟩, rfl⟩
theorem relV_sc3 {σ : Place} {w : World} {X : Nat → Prop} {v v1 v2 : Value} (h1 : v.oneCell' = true) (h2 : v1.oneCell' = true) (h3 : v2.oneCell' = true) : RelV σ w X (.tup (.acons (.d (.sc v)) (.acons (.d (.sc v1)) (.acons (.d (.sc v2)) .anil)))) (.tuple #[v, v1, v2]) := by
 unfold RelV
 rw [if_neg (by simp [AV.isAgg])]
 exact ⟨_, rfl, _, _, rfl, RelV.sc.2 ⟨rfl, h1⟩, _, _, rfl, RelV.sc.2 ⟨rfl, h2⟩, _, _, rfl, RelV.sc.2 ⟨rfl, h3⟩, rfl⟩
section
variable {P : Program} {T : Tab} {env : Env} {h : Upds} {n : Nat}
theorem run_eql_ni {t : Nat} {w : World} {ms} (hud : P.underlying t = some (.interface ms)) : (binOp .eql t .nilIface .nilIface).run P w = .ok (.bool true) w := by
 have h1 : (Op.equalIn 10000 t .nilIface .nilIface).run P w = .ok true w := by
  rw [show (10000 : Nat) = 9999 + 1 from rfl, Op.equalIn]
  simp only [Sem.run_bind, run_underlying hud, Result.andThen_ok, Sem.run_pure]
 show (do let b ← Op.equalIn 10000 t _ _; pure (Value.bool b) : Sem Value).run P w = _
 simp only [Sem.run_bind, h1, Result.andThen_ok, Sem.run_pure]
theorem run_eql_er {t t1 : Nat} {w : World} {ms} {v : Value} (hud : P.underlying t = some (.interface ms)) : (binOp .eql t (.iface t1 v) .nilIface).run P w = .ok (.bool false) w := by
 have h1 : (Op.equalIn 10000 t (.iface t1 v) .nilIface).run P w = .ok false w := by
  rw [show (10000 : Nat) = 9999 + 1 from rfl, Op.equalIn]
  simp only [Sem.run_bind, run_underlying hud, Result.andThen_ok, Sem.run_pure]
 show (do let b ← Op.equalIn 10000 t _ _; pure (Value.bool b) : Sem Value).run P w = _
 simp only [Sem.run_bind, h1, Result.andThen_ok, Sem.run_pure]
theorem eql_nilI {t t' : Nat} {x : Operand} {ms} (hu : P.underlying t = some (.interface ms)) (hx : evalA env x = some (.d (.sc .nilIface))) :
  StepIs P (.binOp .eql t x (.const .nilIface) t') env h n (some (.bool true)) [] := .of_comes fun C G st σ w ac o ho hA hdst hst hn => by
 obtain ⟨hv, _⟩ := RelV.sc.1 (ev_sound hst (hA.ev hx)).1
 refine .quiet (u := .bool true) hst hdst ⟨rfl, rfl⟩ ?_ (RelV.sc.2 ⟨rfl, rfl⟩) trivial
 have hg : (eqGuard .eql t x (.const .nilIface) .nilIface .nilIface).run P w = .ok () w := by
  simp [eqGuard]
  try (cases x <;> rfl)
 have hc : ac.eval (.const .nilIface) = .nilIface := rfl
 simp only [execOp, ho, hv, hc, Sem.run_bind, hg, Result.andThen_ok, run_eql_ni hu, Sem.run_pure]
theorem eql_er {t t' : Nat} {x : Operand} {ms} (hu : P.underlying t = some (.interface ms)) (hx : evalA env x = some .er) :
  StepIs P (.binOp .eql t x (.const .nilIface) t') env h n (some (.bool false)) [] := .of_comes fun C G st σ w ac o ho hA hdst hst hn => by
 obtain ⟨t1, v, hv⟩ := RelV.er.1 (ev_sound hst (hA.ev hx)).1
 refine .quiet (u := .bool false) hst hdst ⟨rfl, rfl⟩ ?_ (RelV.sc.2 ⟨rfl, rfl⟩) trivial
 have hg : (eqGuard .eql t x (.const .nilIface) (.iface t1 v) .nilIface).run P w = .ok () w := rfl
 have hc : ac.eval (.const .nilIface) = .nilIface := rfl
 simp only [execOp, ho, hv, hc, Sem.run_bind, hg, Result.andThen_ok, run_eql_er hu, Sem.run_pure]
end
end Go.Eng
namespace Go.Eng
open Go.RowKit
section
variable {P : Program} {T : Tab} {env : Env} {h : Upds} {n : Nat}
theorem add_add (a : Addr) (i j : Nat) : (a.add i).add j = a.add (i + j) := by
 cases a with
 | mk b o w =>
  simp only [Addr.add]
  by_cases h1 : i = 0 <;> by_cases h2 : j = 0 <;> simp [h1, h2, Nat.add_assoc]
theorem slice_from (hT : TabOk P T) {t e : Nat} {re : TyR} {x i : Operand} {α : Type} {s : Nat} {enc : α → D} {xs : List α} {k : IntKind} {m : Nat} (ht : tdesc T t = some (.slice e)) (he : lk T e = some re) (hs : Nat.beq re.size s = true)
  (hx : evalA env x = some (.d (.arr s enc xs))) (hi : evalA env i = some (.int k m)) (h1 : m ≤ xs.length) : StepIs P (.slice t x (some i) none none) env h n (some (.d (.arr s enc (xs.drop m)))) [] := .of_comes fun C G st σ w a o ho hA hdst hst hn => by
 obtain ⟨ud, hud, hdd⟩ := tdesc_und hT ht
 cases hdd
 have hs := Nat.eq_of_beq_eq_true hs
 obtain ⟨hx1, _⟩ := ev_sound hst (hA.ev hx)
 obtain ⟨hi1, _⟩ := RelV.sc.1 (ev_sound hst (hA.ev hi)).1
 have hsz := (hT e re he).run_size (P := P)
 have hlen : (xs.drop m).length = xs.length - m := by rw [List.length_drop]
 rcases RelV.arr.1 hx1 with ⟨rfl, hv⟩ | ⟨ad, c, hv, hc1, hc2, f, hf⟩
 ·have hm0 : m = 0 := by simpa using h1
  subst hm0
  refine .quiet (u := .slice none 0 0) hst hdst ⟨rfl, rfl⟩ ?_ (RelV.arr.2 (.inl ⟨rfl, rfl⟩)) trivial
  simp [execOp, ho, Instr.sliceAt, Instr.slice, hv, hi1, run_underlying hud, Instr.sliceBounds, Instr.sliceBound, asIntOf, hsz, Sem.run_bind, Sem.run_pure, Result.andThen_ok]
 ·have hlen2 : ¬ xs.length < m := by omega
  refine .quiet (u := .slice (some (if c = m then ad else ad.add (m * s))) (xs.length - m) (c - m)) hst hdst ⟨rfl, rfl⟩ ?_ (RelV.arr.2 (.inr ⟨_, c - m, by rw [hlen], by rw [hlen]; omega, by omega, fun j => f (j + m), fun j hj => ?_⟩)) trivial
  ·have hcm : ¬ c < m := by omega
   simp [execOp, ho, Instr.sliceAt, Instr.slice, hv, hi1, run_underlying hud, Instr.sliceBounds, Instr.sliceBound, asIntOf, hsz, hs, Sem.run_bind, Sem.run_pure, Result.andThen_ok, hlen2, hcm]
   rw [if_pos h1]
   split <;> rfl
  ·have hj2 : j + m < xs.length := by rw [hlen] at hj; omega
   obtain ⟨g1, g2, g3⟩ := hf (j + m) hj2
   refine ⟨by rw [List.getElem_drop]; simpa [Nat.add_comm] using g1, g2, fun q u hu => ?_⟩
   have := g3 q u hu
   rw [if_neg (by omega), add_add, Addr.add_block]
   rw [show m * s + (j * s + q) = (j + m) * s + q by rw [Nat.add_mul]; omega]
   exact this
end
end Go.Eng
namespace Go.Proofs
open Go.Shelf
def Tryz.lays137_ren : Go.Shelf.Ren := ⟨fun | 137 => 121 | 217 => 145 | 266 => 160 | n => n, fun | 9 => 9 | 5 => 5 | 3 => 3 | n => n, fun | n => n⟩
theorem Tryz.lays137 : Go.Proofs.Lays.n137 Tryz.prog Tryz.lays137_ren := {
 mixed := by kernel_rfl
 f137 := Tryz.func121.trans (congrArg some (by kernel_rfl))
 f217 := Tryz.func145.trans (congrArg some (by kernel_rfl))
 f266 := Tryz.func160.trans (congrArg some (by kernel_rfl))
 t3 := Tryz.underlying3
 a3 := Tryz.isAgg3
 z3 := Tryz.sizeOf3
 v3 := Tryz.zeroValue3
 t5 := Tryz.underlying5
 a5 := Tryz.isAgg5
 z5 := Tryz.sizeOf5
 v5 := Tryz.zeroValue5
 t9 := Tryz.underlying9
 a9 := Tryz.isAgg9
 z9 := Tryz.sizeOf9
 v9 := Tryz.zeroValue9 }
open Go.RowKit in
theorem Tryz.strings_IndexByte (s : ByteArray) (c : Int) (w : World) :
  Calls Tryz.prog 121 #[.string s, .int .u8 c] w fun e w' => e = .returned (.int .i64 (Lib.indexByte s.data.toList c.toNat.toUInt8)) ∧ w' = w := Any.strings_IndexByte Tryz.lays137 s c w
def Tryz.lays172_ren : Go.Shelf.Ren := ⟨fun | 172 => 136 | 244 => 149 | 245 => 144 | 247 => 161 | 279 => 156 | 280 => 157 | 281 => 158 | 282 => 159 | 287 => 143 | 316 => 163 | 171 => 32 | 205 => 164 | 321 => 154 | 322 => 155 | 243 => 67 | 246 => 103 | 283 => 105 | 284 => 106 | 285 => 107 | 286 => 108 | 129 => 131 | 317 => 130 | 318 => 132 | 319 => 133 | 320 => 134 | 337 => 147 | 338 => 148 | n => n, fun | 9 => 9 | 3 => 3 | 75 => 88 | 76 => 89 | 4 => 4 | 5 => 5 | 167 => 202 | 37 => 34 | 0 => 0 | 85 => 208 | 2 => 2 | 168 => 204 | 53 => 22 | 175 => 179 | 46 => 125 | 210 => 218 | 127 => 126 | 145 => 222 | 143 => 220 | 21 => 21 | 171 => 169 | 173 => 172 | 212 => 189 | 51 => 190 | 20 => 20 | 213 => 191 | 232 => 23 | 233 => 207 | 80 => 94 | n => n, fun | 15 => 6 | 16 => 7 | 17 => 0 | 18 => 2 | 19 => 3 | n => n⟩
def Tryz.lays283_ren : Go.Shelf.Ren := ⟨fun | 283 => 105 | n => n, fun | 3 => 3 | 9 => 9 | 4 => 4 | n => n, fun | n => n⟩
theorem Tryz.lays283 : Go.Proofs.Lays.n283 Tryz.prog Tryz.lays283_ren := {
 mixed := by kernel_rfl
 f283 := Tryz.func105.trans (congrArg some (by kernel_rfl))
 t3 := Tryz.underlying3
 a3 := Tryz.isAgg3
 z3 := Tryz.sizeOf3
 v3 := Tryz.zeroValue3
 t4 := Tryz.underlying4
 a4 := Tryz.isAgg4
 z4 := Tryz.sizeOf4
 v4 := Tryz.zeroValue4
 t9 := Tryz.underlying9
 a9 := Tryz.isAgg9
 z9 := Tryz.sizeOf9
 v9 := Tryz.zeroValue9 }
open Go.Lib in
theorem Tryz.internal_strconv_small (i : Nat) (h : i < 100) (w : World) :
  Calls Tryz.prog 105 #[.int .i64 i] w fun e w' => e = .returned (.string ⟨(Lib.decDigits i).toArray⟩) ∧ w' = w := Any.internal_strconv_small Tryz.lays283 i h w
def Tryz.laysM284_ren : Go.Shelf.Ren := ⟨fun | 284 => 106 | 129 => 131 | 317 => 130 | 318 => 132 | n => n, fun | 53 => 22 | 3 => 3 | 212 => 189 | 0 => 0 | 4 => 4 | 46 => 125 | 5 => 5 | 9 => 9 | n => n, fun | 17 => 0 | n => n⟩
theorem Tryz.laysM284 : Go.Proofs.LaysM.n284 Tryz.prog Tryz.laysM284_ren := {
 mixed := by kernel_rfl
 f129 := Tryz.func131.trans (congrArg some (by kernel_rfl))
 f284 := Tryz.func106.trans (congrArg some (by kernel_rfl))
 f317 := Tryz.func130.trans (congrArg some (by kernel_rfl))
 f318 := Tryz.func132.trans (congrArg some (by kernel_rfl))
 t0 := Tryz.underlying0
 a0 := Tryz.isAgg0
 z0 := Tryz.sizeOf0
 v0 := Tryz.zeroValue0
 t3 := Tryz.underlying3
 a3 := Tryz.isAgg3
 z3 := Tryz.sizeOf3
 v3 := Tryz.zeroValue3
 t4 := Tryz.underlying4
 a4 := Tryz.isAgg4
 z4 := Tryz.sizeOf4
 v4 := Tryz.zeroValue4
 t5 := Tryz.underlying5
 a5 := Tryz.isAgg5
 z5 := Tryz.sizeOf5
 v5 := Tryz.zeroValue5
 t9 := Tryz.underlying9
 a9 := Tryz.isAgg9
 z9 := Tryz.sizeOf9
 v9 := Tryz.zeroValue9
 t46 := Tryz.underlying125
 a46 := Tryz.isAgg125
 z46 := Tryz.sizeOf125
 v46 := Tryz.zeroValue125
 t53 := Tryz.underlying22
 a53 := Tryz.isAgg22
 z53 := Tryz.sizeOf22
 v53 := Tryz.zeroValue22
 t212 := Tryz.underlying189
 a212 := Tryz.isAgg189
 z212 := Tryz.sizeOf189
 v212 := Tryz.zeroValue189
 g17 := by kernel_rfl
 i0 := by kernel_rfl
 i3 := by kernel_rfl
 i4 := by kernel_rfl
 i5 := by kernel_rfl
 i9 := by kernel_rfl
 i46 := by kernel_rfl
 i53 := by kernel_rfl
 i212 := by kernel_rfl
 m17 := by kernel_rfl }
open Go.Lib in
theorem Tryz.internal_strconv_numDigits (u : Nat) (h1 : 1 ≤ u) (h2 : u < 18446744073709551616) (w : World) (htab : Lib.TabIs Tryz.prog w "internal/strconv.uint64pow10" .u64 Lib.pow10Tab) :
  Calls Tryz.prog 106 #[.int .u64 u] w fun e w' => e = .returned (.int .i64 (Lib.nDigits u)) ∧ w' = w := Any.internal_strconv_numDigits Tryz.laysM284 u h1 h2 w htab
def Tryz.lays285_ren : Go.Shelf.Ren := ⟨fun | 285 => 107 | n => n, fun | 37 => 34 | 53 => 22 | 3 => 3 | 4 => 4 | 51 => 190 | 9 => 9 | 5 => 5 | 0 => 0 | n => n, fun | n => n⟩
theorem Tryz.lays285 : Go.Proofs.Lays.n285 Tryz.prog Tryz.lays285_ren := {
 mixed := by kernel_rfl
 f285 := Tryz.func107.trans (congrArg some (by kernel_rfl))
 t0 := Tryz.underlying0
 a0 := Tryz.isAgg0
 z0 := Tryz.sizeOf0
 v0 := Tryz.zeroValue0
 t3 := Tryz.underlying3
 a3 := Tryz.isAgg3
 z3 := Tryz.sizeOf3
 v3 := Tryz.zeroValue3
 t4 := Tryz.underlying4
 a4 := Tryz.isAgg4
 z4 := Tryz.sizeOf4
 v4 := Tryz.zeroValue4
 t5 := Tryz.underlying5
 a5 := Tryz.isAgg5
 z5 := Tryz.sizeOf5
 v5 := Tryz.zeroValue5
 t9 := Tryz.underlying9
 a9 := Tryz.isAgg9
 z9 := Tryz.sizeOf9
 v9 := Tryz.zeroValue9
 t37 := Tryz.underlying34
 a37 := Tryz.isAgg34
 z37 := Tryz.sizeOf34
 v37 := Tryz.zeroValue34
 t51 := Tryz.underlying190
 a51 := Tryz.isAgg190
 z51 := Tryz.sizeOf190
 v51 := Tryz.zeroValue190
 t53 := Tryz.underlying22
 a53 := Tryz.isAgg22
 z53 := Tryz.sizeOf22
 v53 := Tryz.zeroValue22 }
open Go.RowKit Go.Sort Go.Lib in
theorem Tryz.internal_strconv_formatBase10 (blk off cap : Nat) (u : Nat) (d : Array UInt8) (w : World) (hH : Holds (fun (b : UInt8) => Value.int .u8 (b.toNat : Int)) w blk off d) (hu : u < 10 ^ d.size) (hu64 : u < 18446744073709551616) (hsz : d.size < 4611686018427387904) :
  Calls Tryz.prog 107 #[.slice (some ⟨blk, off, none⟩) d.size cap, .int .u64 u] w fun e w' =>
   e = .returned (.tuple #[]) ∧ ∃ (n v' : Nat) (dk : Array UInt8), w' = (putRow (fun (b : UInt8) => Value.int .u8 (b.toNat : Int)) w blk off dk).drewN n ∧ FmtInv d.size u 0 v' dk := Any.internal_strconv_formatBase10 Tryz.lays285 blk off cap u d w hH hu hu64 hsz
def Tryz.laysM246_ren : Go.Shelf.Ren := ⟨fun | 246 => 103 | 283 => 105 | 284 => 106 | 285 => 107 | 286 => 108 | 129 => 131 | 317 => 130 | 318 => 132 | 319 => 133 | 320 => 134 | 337 => 147 | 338 => 148 | n => n, fun | 2 => 2 | 3 => 3 | 9 => 9 | 4 => 4 | 171 => 169 | 0 => 0 | 53 => 22 | 37 => 34 | 5 => 5 | 173 => 172 | 212 => 189 | 51 => 190 | 20 => 20 | 213 => 191 | 46 => 125 | 232 => 23 | 233 => 207 | n => n, fun | 17 => 0 | 18 => 2 | 19 => 3 | n => n⟩
def Tryz.laysM243_ren : Go.Shelf.Ren := ⟨fun | 243 => 67 | 246 => 103 | 283 => 105 | 284 => 106 | 285 => 107 | 286 => 108 | 129 => 131 | 317 => 130 | 318 => 132 | 319 => 133 | 320 => 134 | 337 => 147 | 338 => 148 | n => n, fun | 3 => 3 | 9 => 9 | 2 => 2 | 4 => 4 | 171 => 169 | 0 => 0 | 53 => 22 | 37 => 34 | 5 => 5 | 173 => 172 | 212 => 189 | 51 => 190 | 20 => 20 | 213 => 191 | 46 => 125 | 232 => 23 | 233 => 207 | n => n, fun | 17 => 0 | 18 => 2 | 19 => 3 | n => n⟩
def Tryz.laysM171_ren : Go.Shelf.Ren := ⟨fun | 171 => 32 | 243 => 67 | 246 => 103 | 283 => 105 | 284 => 106 | 285 => 107 | 286 => 108 | 129 => 131 | 317 => 130 | 318 => 132 | 319 => 133 | 320 => 134 | 337 => 147 | 338 => 148 | n => n, fun | 3 => 3 | 9 => 9 | 2 => 2 | 4 => 4 | 171 => 169 | 0 => 0 | 53 => 22 | 37 => 34 | 5 => 5 | 173 => 172 | 212 => 189 | 51 => 190 | 20 => 20 | 213 => 191 | 46 => 125 | 232 => 23 | 233 => 207 | n => n, fun | 17 => 0 | 18 => 2 | 19 => 3 | n => n⟩
theorem Tryz.laysM171 : Go.Proofs.LaysM.n171 Tryz.prog Tryz.laysM171_ren := {
 mixed := by kernel_rfl
 f129 := Tryz.func131.trans (congrArg some (by kernel_rfl))
 f171 := Tryz.func32.trans (congrArg some (by kernel_rfl))
 f243 := Tryz.func67.trans (congrArg some (by kernel_rfl))
 f246 := Tryz.func103.trans (congrArg some (by kernel_rfl))
 f283 := Tryz.func105.trans (congrArg some (by kernel_rfl))
 f284 := Tryz.func106.trans (congrArg some (by kernel_rfl))
 f285 := Tryz.func107.trans (congrArg some (by kernel_rfl))
 f286 := Tryz.func108.trans (congrArg some (by kernel_rfl))
 f317 := Tryz.func130.trans (congrArg some (by kernel_rfl))
 f318 := Tryz.func132.trans (congrArg some (by kernel_rfl))
 f319 := Tryz.func133.trans (congrArg some (by kernel_rfl))
 f320 := Tryz.func134.trans (congrArg some (by kernel_rfl))
 f337 := Tryz.func147.trans (congrArg some (by kernel_rfl))
 f338 := Tryz.func148.trans (congrArg some (by kernel_rfl))
 t0 := Tryz.underlying0
 a0 := Tryz.isAgg0
 z0 := Tryz.sizeOf0
 v0 := Tryz.zeroValue0
 t2 := Tryz.underlying2
 a2 := Tryz.isAgg2
 z2 := Tryz.sizeOf2
 v2 := Tryz.zeroValue2
 t3 := Tryz.underlying3
 a3 := Tryz.isAgg3
 z3 := Tryz.sizeOf3
 v3 := Tryz.zeroValue3
 t4 := Tryz.underlying4
 a4 := Tryz.isAgg4
 z4 := Tryz.sizeOf4
 v4 := Tryz.zeroValue4
 t5 := Tryz.underlying5
 a5 := Tryz.isAgg5
 z5 := Tryz.sizeOf5
 v5 := Tryz.zeroValue5
 t9 := Tryz.underlying9
 a9 := Tryz.isAgg9
 z9 := Tryz.sizeOf9
 v9 := Tryz.zeroValue9
 t20 := Tryz.underlying20
 a20 := Tryz.isAgg20
 z20 := Tryz.sizeOf20
 v20 := Tryz.zeroValue20
 t37 := Tryz.underlying34
 a37 := Tryz.isAgg34
 z37 := Tryz.sizeOf34
 v37 := Tryz.zeroValue34
 t46 := Tryz.underlying125
 a46 := Tryz.isAgg125
 z46 := Tryz.sizeOf125
 v46 := Tryz.zeroValue125
 t51 := Tryz.underlying190
 a51 := Tryz.isAgg190
 z51 := Tryz.sizeOf190
 v51 := Tryz.zeroValue190
 t53 := Tryz.underlying22
 a53 := Tryz.isAgg22
 z53 := Tryz.sizeOf22
 v53 := Tryz.zeroValue22
 t171 := Tryz.underlying169
 a171 := Tryz.isAgg169
 z171 := Tryz.sizeOf169
 v171 := Tryz.zeroValue169
 t173 := Tryz.underlying172
 a173 := Tryz.isAgg172
 z173 := Tryz.sizeOf172
 v173 := Tryz.zeroValue172
 t212 := Tryz.underlying189
 a212 := Tryz.isAgg189
 z212 := Tryz.sizeOf189
 v212 := Tryz.zeroValue189
 t213 := Tryz.underlying191
 a213 := Tryz.isAgg191
 z213 := Tryz.sizeOf191
 t232 := Tryz.underlying23
 a232 := Tryz.isAgg23
 z232 := Tryz.sizeOf23
 v232 := Tryz.zeroValue23
 t233 := Tryz.underlying207
 a233 := Tryz.isAgg207
 z233 := Tryz.sizeOf207
 v233 := Tryz.zeroValue207
 g17 := by kernel_rfl
 g18 := by kernel_rfl
 g19 := by kernel_rfl
 i0 := by kernel_rfl
 i2 := by kernel_rfl
 i3 := by kernel_rfl
 i4 := by kernel_rfl
 i5 := by kernel_rfl
 i9 := by kernel_rfl
 i20 := by kernel_rfl
 i37 := by kernel_rfl
 i46 := by kernel_rfl
 i51 := by kernel_rfl
 i53 := by kernel_rfl
 i171 := by kernel_rfl
 i173 := by kernel_rfl
 i212 := by kernel_rfl
 i232 := by kernel_rfl
 i233 := by kernel_rfl
 m17 := by kernel_rfl
 m18 := by kernel_rfl
 m19 := by kernel_rfl }
open Go.RowKit Go.Sort Go.Lib in
theorem Tryz.strconv_Itoa (n : Int) (h0 : -9223372036854775808 ≤ n) (h1 : n ≤ 9223372036854775807) (w : World) (htab : Lib.TabIs Tryz.prog w "internal/strconv.uint64pow10" .u64 Lib.pow10Tab) :
  Calls Tryz.prog 32 #[.int .i64 n] w fun e w' => e = .returned (.string ⟨(Lib.itoa n).toArray⟩) ∧ ∃ k os, w' = grow (w.drewN k) os := Any.strconv_Itoa Tryz.laysM171 n h0 h1 w htab
def Tryz.laysC245_ren : Go.Shelf.Ren := ⟨fun | 245 => 144 | 279 => 156 | 280 => 157 | 281 => 158 | 282 => 159 | 316 => 163 | 171 => 32 | 205 => 164 | 243 => 67 | 246 => 103 | 283 => 105 | 284 => 106 | 285 => 107 | 286 => 108 | 129 => 131 | 317 => 130 | 318 => 132 | 319 => 133 | 320 => 134 | 337 => 147 | 338 => 148 | n => n, fun | 9 => 9 | 3 => 3 | 75 => 88 | 167 => 202 | 4 => 4 | 168 => 204 | 210 => 218 | 37 => 34 | 0 => 0 | 127 => 126 | 145 => 222 | 143 => 220 | 2 => 2 | 171 => 169 | 53 => 22 | 5 => 5 | 173 => 172 | 212 => 189 | 51 => 190 | 20 => 20 | 213 => 191 | 46 => 125 | 232 => 23 | 233 => 207 | 80 => 94 | n => n, fun | 15 => 6 | 16 => 7 | 17 => 0 | 18 => 2 | 19 => 3 | n => n⟩
theorem Tryz.laysC245 : Go.Proofs.LaysC.n245 Tryz.prog Tryz.laysC245_ren := {
 mixed := by kernel_rfl
 f129 := Tryz.func131.trans (congrArg some (by kernel_rfl))
 f171 := Tryz.func32.trans (congrArg some (by kernel_rfl))
 f205 := Tryz.func164.trans (congrArg some (by kernel_rfl))
 f243 := Tryz.func67.trans (congrArg some (by kernel_rfl))
 f245 := Tryz.func144.trans (congrArg some (by kernel_rfl))
 f246 := Tryz.func103.trans (congrArg some (by kernel_rfl))
 f279 := Tryz.func156.trans (congrArg some (by kernel_rfl))
 f280 := Tryz.func157.trans (congrArg some (by kernel_rfl))
 f281 := Tryz.func158.trans (congrArg some (by kernel_rfl))
 f282 := Tryz.func159.trans (congrArg some (by kernel_rfl))
 f283 := Tryz.func105.trans (congrArg some (by kernel_rfl))
 f284 := Tryz.func106.trans (congrArg some (by kernel_rfl))
 f285 := Tryz.func107.trans (congrArg some (by kernel_rfl))
 f286 := Tryz.func108.trans (congrArg some (by kernel_rfl))
 f316 := Tryz.func163.trans (congrArg some (by kernel_rfl))
 f317 := Tryz.func130.trans (congrArg some (by kernel_rfl))
 f318 := Tryz.func132.trans (congrArg some (by kernel_rfl))
 f319 := Tryz.func133.trans (congrArg some (by kernel_rfl))
 f320 := Tryz.func134.trans (congrArg some (by kernel_rfl))
 f337 := Tryz.func147.trans (congrArg some (by kernel_rfl))
 f338 := Tryz.func148.trans (congrArg some (by kernel_rfl))
 t0 := Tryz.underlying0
 a0 := Tryz.isAgg0
 z0 := Tryz.sizeOf0
 v0 := Tryz.zeroValue0
 t2 := Tryz.underlying2
 a2 := Tryz.isAgg2
 z2 := Tryz.sizeOf2
 v2 := Tryz.zeroValue2
 t3 := Tryz.underlying3
 a3 := Tryz.isAgg3
 z3 := Tryz.sizeOf3
 v3 := Tryz.zeroValue3
 t4 := Tryz.underlying4
 a4 := Tryz.isAgg4
 z4 := Tryz.sizeOf4
 v4 := Tryz.zeroValue4
 t5 := Tryz.underlying5
 a5 := Tryz.isAgg5
 z5 := Tryz.sizeOf5
 v5 := Tryz.zeroValue5
 t9 := Tryz.underlying9
 a9 := Tryz.isAgg9
 z9 := Tryz.sizeOf9
 v9 := Tryz.zeroValue9
 t20 := Tryz.underlying20
 a20 := Tryz.isAgg20
 z20 := Tryz.sizeOf20
 v20 := Tryz.zeroValue20
 t37 := Tryz.underlying34
 a37 := Tryz.isAgg34
 z37 := Tryz.sizeOf34
 v37 := Tryz.zeroValue34
 t46 := Tryz.underlying125
 a46 := Tryz.isAgg125
 z46 := Tryz.sizeOf125
 v46 := Tryz.zeroValue125
 t51 := Tryz.underlying190
 a51 := Tryz.isAgg190
 z51 := Tryz.sizeOf190
 v51 := Tryz.zeroValue190
 t53 := Tryz.underlying22
 a53 := Tryz.isAgg22
 z53 := Tryz.sizeOf22
 v53 := Tryz.zeroValue22
 t75 := Tryz.underlying88
 a75 := Tryz.isAgg88
 z75 := Tryz.sizeOf88
 v75 := Tryz.zeroValue88
 t127 := Tryz.underlying126
 a127 := Tryz.isAgg126
 z127 := Tryz.sizeOf126
 v127 := Tryz.zeroValue126
 t143 := Tryz.underlying220
 a143 := Tryz.isAgg220
 z143 := Tryz.sizeOf220
 v143 := Tryz.zeroValue220
 t145 := Tryz.underlying222
 a145 := Tryz.isAgg222
 z145 := Tryz.sizeOf222
 v145 := Tryz.zeroValue222
 t167 := Tryz.underlying202
 a167 := Tryz.isAgg202
 z167 := Tryz.sizeOf202
 v167 := Tryz.zeroValue202
 t168 := Tryz.underlying204
 a168 := Tryz.isAgg204
 z168 := Tryz.sizeOf204
 v168 := Tryz.zeroValue204
 t171 := Tryz.underlying169
 a171 := Tryz.isAgg169
 z171 := Tryz.sizeOf169
 v171 := Tryz.zeroValue169
 t173 := Tryz.underlying172
 a173 := Tryz.isAgg172
 z173 := Tryz.sizeOf172
 v173 := Tryz.zeroValue172
 t210 := Tryz.underlying218
 a210 := Tryz.isAgg218
 z210 := Tryz.sizeOf218
 v210 := Tryz.zeroValue218
 t212 := Tryz.underlying189
 a212 := Tryz.isAgg189
 z212 := Tryz.sizeOf189
 v212 := Tryz.zeroValue189
 t213 := Tryz.underlying191
 a213 := Tryz.isAgg191
 z213 := Tryz.sizeOf191
 t232 := Tryz.underlying23
 a232 := Tryz.isAgg23
 z232 := Tryz.sizeOf23
 v232 := Tryz.zeroValue23
 t233 := Tryz.underlying207
 a233 := Tryz.isAgg207
 z233 := Tryz.sizeOf207
 v233 := Tryz.zeroValue207
 g15 := by kernel_rfl
 g16 := by kernel_rfl
 g17 := by kernel_rfl
 g18 := by kernel_rfl
 g19 := by kernel_rfl
 t80 := Tryz.underlying94
 a80 := Tryz.isAgg94
 z80 := Tryz.sizeOf94
 v80 := Tryz.zeroValue94
 i0 := by kernel_rfl
 i2 := by kernel_rfl
 i3 := by kernel_rfl
 i4 := by kernel_rfl
 i5 := by kernel_rfl
 i9 := by kernel_rfl
 i20 := by kernel_rfl
 i37 := by kernel_rfl
 i46 := by kernel_rfl
 i51 := by kernel_rfl
 i53 := by kernel_rfl
 i75 := by kernel_rfl
 i80 := by kernel_rfl
 i127 := by kernel_rfl
 i143 := by kernel_rfl
 i145 := by kernel_rfl
 i167 := by kernel_rfl
 i168 := by kernel_rfl
 i171 := by kernel_rfl
 i173 := by kernel_rfl
 i210 := by kernel_rfl
 i212 := by kernel_rfl
 i232 := by kernel_rfl
 i233 := by kernel_rfl
 m15 := by kernel_rfl
 m16 := by kernel_rfl
 m17 := by kernel_rfl
 m18 := by kernel_rfl
 m19 := by kernel_rfl
 c0 := by kernel_rfl
 c2 := by kernel_rfl
 c3 := by kernel_rfl
 c4 := by kernel_rfl
 c5 := by kernel_rfl
 c9 := by kernel_rfl
 c20 := by kernel_rfl
 c37 := by kernel_rfl
 c46 := by kernel_rfl
 c51 := by kernel_rfl
 c53 := by kernel_rfl
 c75 := by kernel_rfl
 c80 := by kernel_rfl
 c127 := by kernel_rfl
 c143 := by kernel_rfl
 c145 := by kernel_rfl
 c167 := by kernel_rfl
 c168 := by kernel_rfl
 c171 := by kernel_rfl
 c173 := by kernel_rfl
 c210 := by kernel_rfl
 c212 := by kernel_rfl
 c213 := by kernel_rfl
 c232 := by kernel_rfl
 c233 := by kernel_rfl }
open Go.RowKit in
theorem Tryz.strconv_toError_syntax (fn s : ByteArray) (base bits : Int) (ev : Value) (w : World) (hlim : s.size ≤ 281474976710656) (hv : w.cell? ⟨6, 0, none⟩ = some ev) (hev : ev = .nilIface ∨ ∃ te pe, ev = .iface te pe) :
  Calls Tryz.prog 144 #[.string fn, .string s, .int .i64 base, .int .i64 bits, .iface 202 (.int .i64 2)] w fun e w' => ∃ N, e = .returned (.iface 204 (.pointer (some ⟨N, 0, none⟩))) ∧ w.heap.size ≤ N ∧ w'.heap[N]? = some (.cells #[.string fn, .string s, ev] 218 (0, 0)) ∧ Below w.heap.size w w' := Any.strconv_toError_syntax Tryz.laysC245 fn s base bits ev w hlim hv hev
def Tryz.lays321_ren : Go.Shelf.Ren := ⟨fun | 321 => 154 | n => n, fun | 5 => 5 | n => n, fun | n => n⟩
theorem Tryz.lays321 : Go.Proofs.Lays.n321 Tryz.prog Tryz.lays321_ren := {
 mixed := by kernel_rfl
 f321 := Tryz.func154.trans (congrArg some (by kernel_rfl))
 t5 := Tryz.underlying5
 a5 := Tryz.isAgg5
 z5 := Tryz.sizeOf5
 v5 := Tryz.zeroValue5 }
open Go.RowKit in
theorem Tryz.internal_strconv_lower (c : Int) (w : World) :
  Calls Tryz.prog 154 #[.int .u8 c] w fun e w' => e = .returned (.int .u8 (bits .or .u8 c 32)) ∧ w' = w := Any.internal_strconv_lower Tryz.lays321 c w
open Go.RowKit in
theorem Tryz.strconv_toError_range (fn s : ByteArray) (base bits : Int) (ev : Value) (w : World) (hlim : s.size ≤ 281474976710656) (hv : w.cell? ⟨7, 0, none⟩ = some ev) (hev : ev = .nilIface ∨ ∃ te pe, ev = .iface te pe) :
  Calls Tryz.prog 144 #[.string fn, .string s, .int .i64 base, .int .i64 bits, .iface 202 (.int .i64 1)] w fun e w' => ∃ N, e = .returned (.iface 204 (.pointer (some ⟨N, 0, none⟩))) ∧ w.heap.size ≤ N ∧ w'.heap[N]? = some (.cells #[.string fn, .string s, ev] 218 (0, 0)) ∧ Below w.heap.size w w' := Any.strconv_toError_range Tryz.laysC245 fn s base bits ev w hlim hv hev
def Tryz.laysC172_ren : Go.Shelf.Ren := ⟨fun | 172 => 136 | 244 => 149 | 245 => 144 | 247 => 161 | 279 => 156 | 280 => 157 | 281 => 158 | 282 => 159 | 287 => 143 | 316 => 163 | 171 => 32 | 205 => 164 | 321 => 154 | 322 => 155 | 243 => 67 | 246 => 103 | 283 => 105 | 284 => 106 | 285 => 107 | 286 => 108 | 129 => 131 | 317 => 130 | 318 => 132 | 319 => 133 | 320 => 134 | 337 => 147 | 338 => 148 | n => n, fun | 9 => 9 | 3 => 3 | 75 => 88 | 76 => 89 | 4 => 4 | 5 => 5 | 167 => 202 | 37 => 34 | 0 => 0 | 85 => 208 | 2 => 2 | 168 => 204 | 53 => 22 | 175 => 179 | 46 => 125 | 210 => 218 | 127 => 126 | 145 => 222 | 143 => 220 | 21 => 21 | 171 => 169 | 173 => 172 | 212 => 189 | 51 => 190 | 20 => 20 | 213 => 191 | 232 => 23 | 233 => 207 | 80 => 94 | n => n, fun | 15 => 6 | 16 => 7 | 17 => 0 | 18 => 2 | 19 => 3 | n => n⟩
theorem Tryz.laysC172 : Go.Proofs.LaysC.n172 Tryz.prog Tryz.laysC172_ren := {
 mixed := by kernel_rfl
 f129 := Tryz.func131.trans (congrArg some (by kernel_rfl))
 f171 := Tryz.func32.trans (congrArg some (by kernel_rfl))
 f172 := Tryz.func136.trans (congrArg some (by kernel_rfl))
 f205 := Tryz.func164.trans (congrArg some (by kernel_rfl))
 f243 := Tryz.func67.trans (congrArg some (by kernel_rfl))
 f244 := Tryz.func149.trans (congrArg some (by kernel_rfl))
 f245 := Tryz.func144.trans (congrArg some (by kernel_rfl))
 f246 := Tryz.func103.trans (congrArg some (by kernel_rfl))
 f247 := Tryz.func161.trans (congrArg some (by kernel_rfl))
 f279 := Tryz.func156.trans (congrArg some (by kernel_rfl))
 f280 := Tryz.func157.trans (congrArg some (by kernel_rfl))
 f281 := Tryz.func158.trans (congrArg some (by kernel_rfl))
 f282 := Tryz.func159.trans (congrArg some (by kernel_rfl))
 f283 := Tryz.func105.trans (congrArg some (by kernel_rfl))
 f284 := Tryz.func106.trans (congrArg some (by kernel_rfl))
 f285 := Tryz.func107.trans (congrArg some (by kernel_rfl))
 f286 := Tryz.func108.trans (congrArg some (by kernel_rfl))
 f287 := Tryz.func143.trans (congrArg some (by kernel_rfl))
 f316 := Tryz.func163.trans (congrArg some (by kernel_rfl))
 f317 := Tryz.func130.trans (congrArg some (by kernel_rfl))
 f318 := Tryz.func132.trans (congrArg some (by kernel_rfl))
 f319 := Tryz.func133.trans (congrArg some (by kernel_rfl))
 f320 := Tryz.func134.trans (congrArg some (by kernel_rfl))
 f321 := Tryz.func154.trans (congrArg some (by kernel_rfl))
 f322 := Tryz.func155.trans (congrArg some (by kernel_rfl))
 f337 := Tryz.func147.trans (congrArg some (by kernel_rfl))
 f338 := Tryz.func148.trans (congrArg some (by kernel_rfl))
 t0 := Tryz.underlying0
 a0 := Tryz.isAgg0
 z0 := Tryz.sizeOf0
 v0 := Tryz.zeroValue0
 t2 := Tryz.underlying2
 a2 := Tryz.isAgg2
 z2 := Tryz.sizeOf2
 v2 := Tryz.zeroValue2
 t3 := Tryz.underlying3
 a3 := Tryz.isAgg3
 z3 := Tryz.sizeOf3
 v3 := Tryz.zeroValue3
 t4 := Tryz.underlying4
 a4 := Tryz.isAgg4
 z4 := Tryz.sizeOf4
 v4 := Tryz.zeroValue4
 t5 := Tryz.underlying5
 a5 := Tryz.isAgg5
 z5 := Tryz.sizeOf5
 v5 := Tryz.zeroValue5
 t9 := Tryz.underlying9
 a9 := Tryz.isAgg9
 z9 := Tryz.sizeOf9
 v9 := Tryz.zeroValue9
 t20 := Tryz.underlying20
 a20 := Tryz.isAgg20
 z20 := Tryz.sizeOf20
 v20 := Tryz.zeroValue20
 t21 := Tryz.underlying21
 a21 := Tryz.isAgg21
 z21 := Tryz.sizeOf21
 v21 := Tryz.zeroValue21
 t37 := Tryz.underlying34
 a37 := Tryz.isAgg34
 z37 := Tryz.sizeOf34
 v37 := Tryz.zeroValue34
 t46 := Tryz.underlying125
 a46 := Tryz.isAgg125
 z46 := Tryz.sizeOf125
 v46 := Tryz.zeroValue125
 t51 := Tryz.underlying190
 a51 := Tryz.isAgg190
 z51 := Tryz.sizeOf190
 v51 := Tryz.zeroValue190
 t53 := Tryz.underlying22
 a53 := Tryz.isAgg22
 z53 := Tryz.sizeOf22
 v53 := Tryz.zeroValue22
 t75 := Tryz.underlying88
 a75 := Tryz.isAgg88
 z75 := Tryz.sizeOf88
 v75 := Tryz.zeroValue88
 t76 := Tryz.underlying89
 a76 := Tryz.isAgg89
 z76 := Tryz.sizeOf89
 v76 := Tryz.zeroValue89
 t85 := Tryz.underlying208
 a85 := Tryz.isAgg208
 z85 := Tryz.sizeOf208
 v85 := Tryz.zeroValue208
 t127 := Tryz.underlying126
 a127 := Tryz.isAgg126
 z127 := Tryz.sizeOf126
 v127 := Tryz.zeroValue126
 t143 := Tryz.underlying220
 a143 := Tryz.isAgg220
 z143 := Tryz.sizeOf220
 v143 := Tryz.zeroValue220
 t145 := Tryz.underlying222
 a145 := Tryz.isAgg222
 z145 := Tryz.sizeOf222
 v145 := Tryz.zeroValue222
 t167 := Tryz.underlying202
 a167 := Tryz.isAgg202
 z167 := Tryz.sizeOf202
 v167 := Tryz.zeroValue202
 t168 := Tryz.underlying204
 a168 := Tryz.isAgg204
 z168 := Tryz.sizeOf204
 v168 := Tryz.zeroValue204
 t171 := Tryz.underlying169
 a171 := Tryz.isAgg169
 z171 := Tryz.sizeOf169
 v171 := Tryz.zeroValue169
 t173 := Tryz.underlying172
 a173 := Tryz.isAgg172
 z173 := Tryz.sizeOf172
 v173 := Tryz.zeroValue172
 t175 := Tryz.underlying179
 a175 := Tryz.isAgg179
 z175 := Tryz.sizeOf179
 v175 := Tryz.zeroValue179
 t210 := Tryz.underlying218
 a210 := Tryz.isAgg218
 z210 := Tryz.sizeOf218
 v210 := Tryz.zeroValue218
 t212 := Tryz.underlying189
 a212 := Tryz.isAgg189
 z212 := Tryz.sizeOf189
 v212 := Tryz.zeroValue189
 t213 := Tryz.underlying191
 a213 := Tryz.isAgg191
 z213 := Tryz.sizeOf191
 t232 := Tryz.underlying23
 a232 := Tryz.isAgg23
 z232 := Tryz.sizeOf23
 v232 := Tryz.zeroValue23
 t233 := Tryz.underlying207
 a233 := Tryz.isAgg207
 z233 := Tryz.sizeOf207
 v233 := Tryz.zeroValue207
 g15 := by kernel_rfl
 g16 := by kernel_rfl
 g17 := by kernel_rfl
 g18 := by kernel_rfl
 g19 := by kernel_rfl
 t80 := Tryz.underlying94
 a80 := Tryz.isAgg94
 z80 := Tryz.sizeOf94
 v80 := Tryz.zeroValue94
 i0 := by kernel_rfl
 i2 := by kernel_rfl
 i3 := by kernel_rfl
 i4 := by kernel_rfl
 i5 := by kernel_rfl
 i9 := by kernel_rfl
 i20 := by kernel_rfl
 i21 := by kernel_rfl
 i37 := by kernel_rfl
 i46 := by kernel_rfl
 i51 := by kernel_rfl
 i53 := by kernel_rfl
 i75 := by kernel_rfl
 i76 := by kernel_rfl
 i80 := by kernel_rfl
 i85 := by kernel_rfl
 i127 := by kernel_rfl
 i143 := by kernel_rfl
 i145 := by kernel_rfl
 i167 := by kernel_rfl
 i168 := by kernel_rfl
 i171 := by kernel_rfl
 i173 := by kernel_rfl
 i175 := by kernel_rfl
 i210 := by kernel_rfl
 i212 := by kernel_rfl
 i232 := by kernel_rfl
 i233 := by kernel_rfl
 m15 := by kernel_rfl
 m16 := by kernel_rfl
 m17 := by kernel_rfl
 m18 := by kernel_rfl
 m19 := by kernel_rfl
 c0 := by kernel_rfl
 c2 := by kernel_rfl
 c3 := by kernel_rfl
 c4 := by kernel_rfl
 c5 := by kernel_rfl
 c9 := by kernel_rfl
 c20 := by kernel_rfl
 c21 := by kernel_rfl
 c37 := by kernel_rfl
 c46 := by kernel_rfl
 c51 := by kernel_rfl
 c53 := by kernel_rfl
 c75 := by kernel_rfl
 c76 := by kernel_rfl
 c80 := by kernel_rfl
 c85 := by kernel_rfl
 c127 := by kernel_rfl
 c143 := by kernel_rfl
 c145 := by kernel_rfl
 c167 := by kernel_rfl
 c168 := by kernel_rfl
 c171 := by kernel_rfl
 c173 := by kernel_rfl
 c175 := by kernel_rfl
 c210 := by kernel_rfl
 c212 := by kernel_rfl
 c213 := by kernel_rfl
 c232 := by kernel_rfl
 c233 := by kernel_rfl }
open Go.RowKit in
theorem Tryz.strconv_Atoi_ok (s : ByteArray) (hmax : s.size ≤ 9223372036854775806) (v : Int) (h : Lib.atoiAll s.data.toList = .ok v) (w : World) :
  Calls Tryz.prog 136 #[.string s] w fun e w' => e = .returned (.tuple #[.int .i64 v, .nilIface]) ∧ (w' = w ∨ ∃ t, w' = Lib.bytesWorld w 5 t) := Any.strconv_Atoi_ok Tryz.laysC172 s hmax v h w
open Go.RowKit in
theorem Tryz.strconv_Atoi_syntax (s : ByteArray) (hlim : s.size ≤ 281474976710656) (h : Lib.atoiAll s.data.toList = Lib.atoiAll []) (ev : Value) (w : World) (hv : w.cell? ⟨6, 0, none⟩ = some ev) (hev : ev = .nilIface ∨ ∃ te pe, ev = .iface te pe) :
  Calls Tryz.prog 136 #[.string s] w fun e w' => ∃ N, e = .returned (.tuple #[.int .i64 (0), .iface 204 (.pointer (some ⟨N, 0, none⟩))]) ∧ w.heap.size ≤ N ∧ w'.heap[N]? = some (.cells #[.string ⟨#[65, 116, 111, 105]⟩, .string s, ev] 218 (0, 0)) ∧ Below w.heap.size w w' := Any.strconv_Atoi_syntax Tryz.laysC172 s hlim h ev w hv hev
open Go.RowKit in
theorem Tryz.strconv_Atoi_range (s : ByteArray) (hlim : s.size ≤ 281474976710656) (h : Lib.atoiAll s.data.toList = .range) (ev : Value) (w : World) (hv : w.cell? ⟨7, 0, none⟩ = some ev) (hev : ev = .nilIface ∨ ∃ te pe, ev = .iface te pe) :
  Calls Tryz.prog 136 #[.string s] w fun e w' => ∃ N, e = .returned (.tuple #[.int .i64 (Lib.atoiSat s.data.toList), .iface 204 (.pointer (some ⟨N, 0, none⟩))]) ∧ w.heap.size ≤ N ∧ w'.heap[N]? = some (.cells #[.string ⟨#[65, 116, 111, 105]⟩, .string s, ev] 218 (0, 0)) ∧ Below w.heap.size w w' := Any.strconv_Atoi_range Tryz.laysC172 s hlim h ev w hv hev
def Tryz.laysPu14_ren : Go.Shelf.Ren := ⟨fun | 14 => 120 | 16 => 143 | 17 => 144 | 19 => 154 | 20 => 155 | 21 => 156 | 22 => 157 | 23 => 158 | 24 => 159 | 25 => 163 | 27 => 32 | 26 => 164 | 28 => 67 | 29 => 103 | 30 => 105 | 31 => 106 | 32 => 107 | 33 => 108 | 35 => 131 | 34 => 130 | 36 => 132 | 37 => 133 | 38 => 134 | 39 => 147 | 40 => 148 | n => n, fun | 9 => 9 | 3 => 3 | 22 => 22 | 24 => 88 | 25 => 179 | 4 => 4 | 34 => 202 | 5 => 5 | 36 => 125 | 37 => 34 | 0 => 0 | 39 => 204 | 21 => 21 | 44 => 218 | 47 => 126 | 50 => 222 | 48 => 220 | 2 => 2 | 52 => 169 | 55 => 172 | 59 => 189 | 60 => 190 | 20 => 20 | 61 => 191 | 65 => 23 | 66 => 207 | 67 => 94 | n => n, fun | 0 => 6 | 1 => 7 | 2 => 0 | 3 => 2 | 4 => 3 | n => n⟩
theorem Tryz.laysPu14 : Go.Proofs.LaysPu.n14 Tryz.prog Tryz.laysPu14_ren := {
 mixed := by kernel_rfl
 f14 := Tryz.func120.trans (congrArg some (by kernel_rfl))
 f16 := Tryz.func143.trans (congrArg some (by kernel_rfl))
 f17 := Tryz.func144.trans (congrArg some (by kernel_rfl))
 f19 := Tryz.func154.trans (congrArg some (by kernel_rfl))
 f20 := Tryz.func155.trans (congrArg some (by kernel_rfl))
 f21 := Tryz.func156.trans (congrArg some (by kernel_rfl))
 f22 := Tryz.func157.trans (congrArg some (by kernel_rfl))
 f23 := Tryz.func158.trans (congrArg some (by kernel_rfl))
 f24 := Tryz.func159.trans (congrArg some (by kernel_rfl))
 f25 := Tryz.func163.trans (congrArg some (by kernel_rfl))
 f26 := Tryz.func164.trans (congrArg some (by kernel_rfl))
 f27 := Tryz.func32.trans (congrArg some (by kernel_rfl))
 f28 := Tryz.func67.trans (congrArg some (by kernel_rfl))
 f29 := Tryz.func103.trans (congrArg some (by kernel_rfl))
 f30 := Tryz.func105.trans (congrArg some (by kernel_rfl))
 f31 := Tryz.func106.trans (congrArg some (by kernel_rfl))
 f32 := Tryz.func107.trans (congrArg some (by kernel_rfl))
 f33 := Tryz.func108.trans (congrArg some (by kernel_rfl))
 f34 := Tryz.func130.trans (congrArg some (by kernel_rfl))
 f35 := Tryz.func131.trans (congrArg some (by kernel_rfl))
 f36 := Tryz.func132.trans (congrArg some (by kernel_rfl))
 f37 := Tryz.func133.trans (congrArg some (by kernel_rfl))
 f38 := Tryz.func134.trans (congrArg some (by kernel_rfl))
 f39 := Tryz.func147.trans (congrArg some (by kernel_rfl))
 f40 := Tryz.func148.trans (congrArg some (by kernel_rfl))
 t0 := Tryz.underlying0
 a0 := Tryz.isAgg0
 z0 := Tryz.sizeOf0
 v0 := Tryz.zeroValue0
 i0 := by kernel_rfl
 t2 := Tryz.underlying2
 a2 := Tryz.isAgg2
 z2 := Tryz.sizeOf2
 v2 := Tryz.zeroValue2
 i2 := by kernel_rfl
 t3 := Tryz.underlying3
 a3 := Tryz.isAgg3
 z3 := Tryz.sizeOf3
 v3 := Tryz.zeroValue3
 i3 := by kernel_rfl
 t4 := Tryz.underlying4
 a4 := Tryz.isAgg4
 z4 := Tryz.sizeOf4
 v4 := Tryz.zeroValue4
 i4 := by kernel_rfl
 t5 := Tryz.underlying5
 a5 := Tryz.isAgg5
 z5 := Tryz.sizeOf5
 v5 := Tryz.zeroValue5
 i5 := by kernel_rfl
 t9 := Tryz.underlying9
 a9 := Tryz.isAgg9
 z9 := Tryz.sizeOf9
 v9 := Tryz.zeroValue9
 i9 := by kernel_rfl
 t20 := Tryz.underlying20
 a20 := Tryz.isAgg20
 z20 := Tryz.sizeOf20
 v20 := Tryz.zeroValue20
 i20 := by kernel_rfl
 t21 := Tryz.underlying21
 a21 := Tryz.isAgg21
 z21 := Tryz.sizeOf21
 v21 := Tryz.zeroValue21
 i21 := by kernel_rfl
 t22 := Tryz.underlying22
 a22 := Tryz.isAgg22
 z22 := Tryz.sizeOf22
 v22 := Tryz.zeroValue22
 i22 := by kernel_rfl
 t24 := Tryz.underlying88
 a24 := Tryz.isAgg88
 z24 := Tryz.sizeOf88
 v24 := Tryz.zeroValue88
 i24 := by kernel_rfl
 t25 := Tryz.underlying179
 a25 := Tryz.isAgg179
 z25 := Tryz.sizeOf179
 v25 := Tryz.zeroValue179
 i25 := by kernel_rfl
 t34 := Tryz.underlying202
 a34 := Tryz.isAgg202
 z34 := Tryz.sizeOf202
 v34 := Tryz.zeroValue202
 i34 := by kernel_rfl
 c34 := by kernel_rfl
 t36 := Tryz.underlying125
 a36 := Tryz.isAgg125
 z36 := Tryz.sizeOf125
 v36 := Tryz.zeroValue125
 i36 := by kernel_rfl
 t37 := Tryz.underlying34
 a37 := Tryz.isAgg34
 z37 := Tryz.sizeOf34
 v37 := Tryz.zeroValue34
 i37 := by kernel_rfl
 t39 := Tryz.underlying204
 a39 := Tryz.isAgg204
 z39 := Tryz.sizeOf204
 v39 := Tryz.zeroValue204
 i39 := by kernel_rfl
 t44 := Tryz.underlying218
 a44 := Tryz.isAgg218
 z44 := Tryz.sizeOf218
 v44 := Tryz.zeroValue218
 i44 := by kernel_rfl
 t47 := Tryz.underlying126
 a47 := Tryz.isAgg126
 z47 := Tryz.sizeOf126
 v47 := Tryz.zeroValue126
 i47 := by kernel_rfl
 t48 := Tryz.underlying220
 a48 := Tryz.isAgg220
 z48 := Tryz.sizeOf220
 v48 := Tryz.zeroValue220
 i48 := by kernel_rfl
 t50 := Tryz.underlying222
 a50 := Tryz.isAgg222
 z50 := Tryz.sizeOf222
 v50 := Tryz.zeroValue222
 i50 := by kernel_rfl
 t52 := Tryz.underlying169
 a52 := Tryz.isAgg169
 z52 := Tryz.sizeOf169
 v52 := Tryz.zeroValue169
 i52 := by kernel_rfl
 t55 := Tryz.underlying172
 a55 := Tryz.isAgg172
 z55 := Tryz.sizeOf172
 v55 := Tryz.zeroValue172
 i55 := by kernel_rfl
 t59 := Tryz.underlying189
 a59 := Tryz.isAgg189
 z59 := Tryz.sizeOf189
 v59 := Tryz.zeroValue189
 i59 := by kernel_rfl
 t60 := Tryz.underlying190
 a60 := Tryz.isAgg190
 z60 := Tryz.sizeOf190
 v60 := Tryz.zeroValue190
 i60 := by kernel_rfl
 t61 := Tryz.underlying191
 a61 := Tryz.isAgg191
 z61 := Tryz.sizeOf191
 t65 := Tryz.underlying23
 a65 := Tryz.isAgg23
 z65 := Tryz.sizeOf23
 v65 := Tryz.zeroValue23
 i65 := by kernel_rfl
 t66 := Tryz.underlying207
 a66 := Tryz.isAgg207
 z66 := Tryz.sizeOf207
 v66 := Tryz.zeroValue207
 i66 := by kernel_rfl
 t67 := Tryz.underlying94
 a67 := Tryz.isAgg94
 z67 := Tryz.sizeOf94
 v67 := Tryz.zeroValue94
 i67 := by kernel_rfl
 g0 := by kernel_rfl
 m0 := by kernel_rfl
 g1 := by kernel_rfl
 m1 := by kernel_rfl
 g2 := by kernel_rfl
 m2 := by kernel_rfl
 g3 := by kernel_rfl
 m3 := by kernel_rfl
 g4 := by kernel_rfl
 m4 := by kernel_rfl }
open Go.RowKit in
theorem Tryz.strconv_ParseUint_10_at64_ok (s : ByteArray) (hmax : s.size ≤ 9223372036854775806) (u : Nat) (h : Lib.parseUintB 64 s.data.toList = .ok u) (w : World) :
  Calls Tryz.prog 120 #[.string s, .int .i64 10, .int .i64 64] w fun e w' => e = .returned (.tuple #[.int .u64 u, .nilIface]) ∧ (w' = w ∨ w' = Lib.bytesWorld w 5 s) := Any.strconv_ParseUint_10_at64_ok Tryz.laysPu14 s hmax u h w
open Go.RowKit in
theorem Tryz.strconv_ParseUint_10_at64_syntax (s : ByteArray) (hlim : s.size ≤ 281474976710656) (h : Lib.parseUintB 64 s.data.toList = Lib.parseUintB 64 []) (ev : Value) (w : World) (hv : w.cell? ⟨6, 0, none⟩ = some ev) (hev : ev = .nilIface ∨ ∃ te pe, ev = .iface te pe) :
  Calls Tryz.prog 120 #[.string s, .int .i64 10, .int .i64 64] w fun e w' => ∃ N, e = .returned (.tuple #[.int .u64 0, .iface 204 (.pointer (some ⟨N, 0, none⟩))]) ∧ w.heap.size ≤ N ∧ w'.heap[N]? = some (.cells #[.string ⟨#[80, 97, 114, 115, 101, 85, 105, 110, 116]⟩, .string s, ev] 218 (0, 0)) ∧ Below w.heap.size w w' := Any.strconv_ParseUint_10_at64_syntax Tryz.laysPu14 s hlim h ev w hv hev
open Go.RowKit in
theorem Tryz.strconv_ParseUint_10_at64_range (s : ByteArray) (hlim : s.size ≤ 281474976710656) (h : Lib.parseUintB 64 s.data.toList = .range) (ev : Value) (w : World) (hv : w.cell? ⟨7, 0, none⟩ = some ev) (hev : ev = .nilIface ∨ ∃ te pe, ev = .iface te pe) :
  Calls Tryz.prog 120 #[.string s, .int .i64 10, .int .i64 64] w fun e w' => ∃ N, e = .returned (.tuple #[.int .u64 18446744073709551615, .iface 204 (.pointer (some ⟨N, 0, none⟩))]) ∧ w.heap.size ≤ N ∧ w'.heap[N]? = some (.cells #[.string ⟨#[80, 97, 114, 115, 101, 85, 105, 110, 116]⟩, .string s, ev] 218 (0, 0)) ∧ Below w.heap.size w w' := Any.strconv_ParseUint_10_at64_range Tryz.laysPu14 s hlim h ev w hv hev
open Go.RowKit in
theorem Tryz.strconv_ParseUint_10_at8_ok (s : ByteArray) (hmax : s.size ≤ 9223372036854775806) (u : Nat) (h : Lib.parseUintB 8 s.data.toList = .ok u) (w : World) :
  Calls Tryz.prog 120 #[.string s, .int .i64 10, .int .i64 8] w fun e w' => e = .returned (.tuple #[.int .u64 u, .nilIface]) ∧ (w' = w ∨ w' = Lib.bytesWorld w 5 s) := Any.strconv_ParseUint_10_at8_ok Tryz.laysPu14 s hmax u h w
open Go.RowKit in
theorem Tryz.strconv_ParseUint_10_at8_syntax (s : ByteArray) (hlim : s.size ≤ 281474976710656) (h : Lib.parseUintB 8 s.data.toList = Lib.parseUintB 8 []) (ev : Value) (w : World) (hv : w.cell? ⟨6, 0, none⟩ = some ev) (hev : ev = .nilIface ∨ ∃ te pe, ev = .iface te pe) :
  Calls Tryz.prog 120 #[.string s, .int .i64 10, .int .i64 8] w fun e w' => ∃ N, e = .returned (.tuple #[.int .u64 0, .iface 204 (.pointer (some ⟨N, 0, none⟩))]) ∧ w.heap.size ≤ N ∧ w'.heap[N]? = some (.cells #[.string ⟨#[80, 97, 114, 115, 101, 85, 105, 110, 116]⟩, .string s, ev] 218 (0, 0)) ∧ Below w.heap.size w w' := Any.strconv_ParseUint_10_at8_syntax Tryz.laysPu14 s hlim h ev w hv hev
open Go.RowKit in
theorem Tryz.strconv_ParseUint_10_at8_range (s : ByteArray) (hlim : s.size ≤ 281474976710656) (h : Lib.parseUintB 8 s.data.toList = .range) (ev : Value) (w : World) (hv : w.cell? ⟨7, 0, none⟩ = some ev) (hev : ev = .nilIface ∨ ∃ te pe, ev = .iface te pe) :
  Calls Tryz.prog 120 #[.string s, .int .i64 10, .int .i64 8] w fun e w' => ∃ N, e = .returned (.tuple #[.int .u64 255, .iface 204 (.pointer (some ⟨N, 0, none⟩))]) ∧ w.heap.size ≤ N ∧ w'.heap[N]? = some (.cells #[.string ⟨#[80, 97, 114, 115, 101, 85, 105, 110, 116]⟩, .string s, ev] 218 (0, 0)) ∧ Below w.heap.size w w' := Any.strconv_ParseUint_10_at8_range Tryz.laysPu14 s hlim h ev w hv hev
def Tryz.lays219_ren : Go.Shelf.Ren := ⟨fun | 219 => 139 | 217 => 145 | 225 => 150 | 224 => 151 | 267 => 152 | 266 => 160 | 314 => 162 | n => n, fun | 9 => 9 | 3 => 3 | 4 => 4 | 5 => 5 | 46 => 125 | 146 => 210 | 51 => 190 | n => n, fun | 1 => 1 | n => n⟩
def Tryz.lays145_ren : Go.Shelf.Ren := ⟨fun | 145 => 76 | 220 => 116 | 219 => 139 | 217 => 145 | 225 => 150 | 224 => 151 | 267 => 152 | 266 => 160 | 314 => 162 | n => n, fun | 9 => 9 | 4 => 4 | 59 => 142 | 3 => 3 | 5 => 5 | 46 => 125 | 146 => 210 | 51 => 190 | n => n, fun | 1 => 1 | n => n⟩
theorem Tryz.lays145 : Go.Proofs.Lays.n145 Tryz.prog Tryz.lays145_ren := {
 mixed := by kernel_rfl
 f145 := Tryz.func76.trans (congrArg some (by kernel_rfl))
 f217 := Tryz.func145.trans (congrArg some (by kernel_rfl))
 f219 := Tryz.func139.trans (congrArg some (by kernel_rfl))
 f220 := Tryz.func116.trans (congrArg some (by kernel_rfl))
 f224 := Tryz.func151.trans (congrArg some (by kernel_rfl))
 f225 := Tryz.func150.trans (congrArg some (by kernel_rfl))
 f266 := Tryz.func160.trans (congrArg some (by kernel_rfl))
 f267 := Tryz.func152.trans (congrArg some (by kernel_rfl))
 f314 := Tryz.func162.trans (congrArg some (by kernel_rfl))
 t3 := Tryz.underlying3
 a3 := Tryz.isAgg3
 z3 := Tryz.sizeOf3
 v3 := Tryz.zeroValue3
 t4 := Tryz.underlying4
 a4 := Tryz.isAgg4
 z4 := Tryz.sizeOf4
 v4 := Tryz.zeroValue4
 t5 := Tryz.underlying5
 a5 := Tryz.isAgg5
 z5 := Tryz.sizeOf5
 v5 := Tryz.zeroValue5
 t9 := Tryz.underlying9
 a9 := Tryz.isAgg9
 z9 := Tryz.sizeOf9
 v9 := Tryz.zeroValue9
 t46 := Tryz.underlying125
 a46 := Tryz.isAgg125
 z46 := Tryz.sizeOf125
 v46 := Tryz.zeroValue125
 t51 := Tryz.underlying190
 a51 := Tryz.isAgg190
 z51 := Tryz.sizeOf190
 v51 := Tryz.zeroValue190
 t59 := Tryz.underlying142
 a59 := Tryz.isAgg142
 z59 := Tryz.sizeOf142
 v59 := Tryz.zeroValue142
 t146 := Tryz.underlying210
 a146 := Tryz.isAgg210
 z146 := Tryz.sizeOf210
 v146 := Tryz.zeroValue210
 g1 := by kernel_rfl }
open Go.RowKit Go.Lib in
theorem Tryz.strings_Cut (s sep : ByteArray) (m : Int) (w : World) (hs : s.size < 4294967281) (hm : w.cell? ⟨1, 0, none⟩ = some (.int .i64 m)) :
  Calls Tryz.prog 76 #[.string s, .string sep] w fun e w' => e = .returned (.tuple #[.string ⟨(Lib.cut s.data.toList sep.data.toList).1.toArray⟩, .string ⟨(Lib.cut s.data.toList sep.data.toList).2.1.toArray⟩, .bool (Lib.cut s.data.toList sep.data.toList).2.2]) ∧ ∃ n, w' = w.drewN n := Any.strings_Cut Tryz.lays145 s sep m w hs hm
def Tryz.lays207_ren : Go.Shelf.Ren := ⟨fun | 207 => 81 | n => n, fun | 9 => 9 | 4 => 4 | 3 => 3 | n => n, fun | n => n⟩
def Tryz.lays100_ren : Go.Shelf.Ren := ⟨fun | 100 => 45 | 207 => 81 | n => n, fun | 9 => 9 | 4 => 4 | 3 => 3 | n => n, fun | n => n⟩
theorem Tryz.lays100 : Go.Proofs.Lays.n100 Tryz.prog Tryz.lays100_ren := {
 mixed := by kernel_rfl
 f100 := Tryz.func45.trans (congrArg some (by kernel_rfl))
 f207 := Tryz.func81.trans (congrArg some (by kernel_rfl))
 t3 := Tryz.underlying3
 a3 := Tryz.isAgg3
 z3 := Tryz.sizeOf3
 v3 := Tryz.zeroValue3
 t4 := Tryz.underlying4
 a4 := Tryz.isAgg4
 z4 := Tryz.sizeOf4
 v4 := Tryz.zeroValue4
 t9 := Tryz.underlying9
 a9 := Tryz.isAgg9
 z9 := Tryz.sizeOf9
 v9 := Tryz.zeroValue9 }
open Go.RowKit Go.Lib in
theorem Tryz.strings_HasSuffix (s p : ByteArray) (w : World) (hs : s.size ≤ 9223372036854775807) :
  Calls Tryz.prog 45 #[.string s, .string p] w fun e w' => e = .returned (.bool (Lib.hasSuffix s.data.toList p.data.toList)) ∧ w' = w := Any.strings_HasSuffix Tryz.lays100 s p w hs
def Tryz.lays221_ren : Go.Shelf.Ren := ⟨fun | 221 => 82 | 268 => 117 | 138 => 118 | 143 => 119 | 195 => 140 | 197 => 141 | 218 => 142 | 219 => 139 | 260 => 153 | 217 => 145 | 225 => 150 | 224 => 151 | 267 => 152 | 266 => 160 | 314 => 162 | n => n, fun | 9 => 9 | 3 => 3 | 31 => 78 | 4 => 4 | 0 => 0 | 105 => 197 | 21 => 21 | 5 => 5 | 46 => 125 | 119 => 212 | 139 => 215 | 138 => 214 | 146 => 210 | 51 => 190 | n => n, fun | 1 => 1 | 3 => 4 | 4 => 5 | n => n⟩
def Tryz.lays146_ren : Go.Shelf.Ren := ⟨fun | 146 => 46 | 221 => 82 | 268 => 117 | 138 => 118 | 143 => 119 | 195 => 140 | 197 => 141 | 218 => 142 | 219 => 139 | 260 => 153 | 217 => 145 | 225 => 150 | 224 => 151 | 267 => 152 | 266 => 160 | 314 => 162 | n => n, fun | 9 => 9 | 31 => 78 | 3 => 3 | 4 => 4 | 0 => 0 | 105 => 197 | 21 => 21 | 5 => 5 | 46 => 125 | 119 => 212 | 139 => 215 | 138 => 214 | 146 => 210 | 51 => 190 | n => n, fun | 1 => 1 | 3 => 4 | 4 => 5 | n => n⟩
theorem Tryz.lays146 : Go.Proofs.Lays.n146 Tryz.prog Tryz.lays146_ren := {
 mixed := by kernel_rfl
 f138 := Tryz.func118.trans (congrArg some (by kernel_rfl))
 f143 := Tryz.func119.trans (congrArg some (by kernel_rfl))
 f146 := Tryz.func46.trans (congrArg some (by kernel_rfl))
 f195 := Tryz.func140.trans (congrArg some (by kernel_rfl))
 f197 := Tryz.func141.trans (congrArg some (by kernel_rfl))
 f217 := Tryz.func145.trans (congrArg some (by kernel_rfl))
 f218 := Tryz.func142.trans (congrArg some (by kernel_rfl))
 f219 := Tryz.func139.trans (congrArg some (by kernel_rfl))
 f221 := Tryz.func82.trans (congrArg some (by kernel_rfl))
 f224 := Tryz.func151.trans (congrArg some (by kernel_rfl))
 f225 := Tryz.func150.trans (congrArg some (by kernel_rfl))
 f260 := Tryz.func153.trans (congrArg some (by kernel_rfl))
 f266 := Tryz.func160.trans (congrArg some (by kernel_rfl))
 f267 := Tryz.func152.trans (congrArg some (by kernel_rfl))
 f268 := Tryz.func117.trans (congrArg some (by kernel_rfl))
 f314 := Tryz.func162.trans (congrArg some (by kernel_rfl))
 t0 := Tryz.underlying0
 a0 := Tryz.isAgg0
 z0 := Tryz.sizeOf0
 v0 := Tryz.zeroValue0
 t3 := Tryz.underlying3
 a3 := Tryz.isAgg3
 z3 := Tryz.sizeOf3
 v3 := Tryz.zeroValue3
 t4 := Tryz.underlying4
 a4 := Tryz.isAgg4
 z4 := Tryz.sizeOf4
 v4 := Tryz.zeroValue4
 t5 := Tryz.underlying5
 a5 := Tryz.isAgg5
 z5 := Tryz.sizeOf5
 v5 := Tryz.zeroValue5
 t9 := Tryz.underlying9
 a9 := Tryz.isAgg9
 z9 := Tryz.sizeOf9
 v9 := Tryz.zeroValue9
 t21 := Tryz.underlying21
 a21 := Tryz.isAgg21
 z21 := Tryz.sizeOf21
 v21 := Tryz.zeroValue21
 t31 := Tryz.underlying78
 a31 := Tryz.isAgg78
 z31 := Tryz.sizeOf78
 v31 := Tryz.zeroValue78
 t46 := Tryz.underlying125
 a46 := Tryz.isAgg125
 z46 := Tryz.sizeOf125
 v46 := Tryz.zeroValue125
 t51 := Tryz.underlying190
 a51 := Tryz.isAgg190
 z51 := Tryz.sizeOf190
 v51 := Tryz.zeroValue190
 t105 := Tryz.underlying197
 a105 := Tryz.isAgg197
 z105 := Tryz.sizeOf197
 v105 := Tryz.zeroValue197
 t119 := Tryz.underlying212
 a119 := Tryz.isAgg212
 z119 := Tryz.sizeOf212
 t138 := Tryz.underlying214
 a138 := Tryz.isAgg214
 z138 := Tryz.sizeOf214
 v138 := Tryz.zeroValue214
 t139 := Tryz.underlying215
 a139 := Tryz.isAgg215
 z139 := Tryz.sizeOf215
 v139 := Tryz.zeroValue215
 t146 := Tryz.underlying210
 a146 := Tryz.isAgg210
 z146 := Tryz.sizeOf210
 v146 := Tryz.zeroValue210
 g1 := by kernel_rfl
 g3 := by kernel_rfl
 g4 := by kernel_rfl }
open Go.RowKit Go.Lib in
theorem Tryz.strings_Split (s sep : ByteArray) (m : Int) (w : World) (hs : s.size < 4294967281) (hm : w.cell? ⟨1, 0, none⟩ = some (.int .i64 m)) (h1 : 1 ≤ sep.size) :
  Calls Tryz.prog 46 #[.string s, .string sep] w fun e w' =>
   e = .returned (.slice (some ⟨w.heap.size, 0, none⟩) (Lib.countB s sep + 1) (Lib.countB s sep + 1)) ∧ w' = w.alloc (.cells ((Lib.splitB sep 0 (Lib.countB s sep) s).map Value.string).toArray 9) := Any.strings_Split Tryz.lays146 (by kernel_rfl) s sep m w hs hm h1
end Go.Proofs
namespace Go.Proofs.YthiijfbcfoifnaaGreatDoor
open Go.Eng Go.Plain Go.RowKit
theorem glob_max {w : World} (h : GlobsAt w) : ∃ m, w.cell? ⟨1, 0, none⟩ = some (.int .i64 m) := by
 obtain ⟨⟨m, t, fr, h1⟩, _⟩ := h _ (List.mem_cons_self ..)
 exact ⟨m, by simp [World.cell?, h1]⟩
theorem glob_err {w : World} (h : GlobsAt w) (i : Nat) (hi : i = 6 ∨ i = 7) : ∃ ev, w.cell? ⟨i, 0, none⟩ = some ev ∧ (ev = .nilIface ∨ ∃ te pe, ev = .iface te pe) := by
 have hm : (i, IfaceCell) ∈ globs := by
  rcases hi with rfl | rfl
  ·exact .tail _ (.head _)
  ·exact .tail _ (.tail _ (.head _))
 obtain ⟨⟨ev, t, fr, h1, h2⟩, _⟩ := h _ hm
 exact ⟨ev, by simp only at h1; simp [World.cell?, h1], h2⟩
theorem pow10_is : Tryz.prog.globalNamed "internal/strconv.uint64pow10" = some 0 := by kernel_rfl
theorem glob_tab {w : World} (h : GlobsAt w) : Lib.TabIs Tryz.prog w "internal/strconv.uint64pow10" .u64 Lib.pow10Tab := by
 obtain ⟨⟨t, fr, h1⟩, _⟩ := h _ (.tail _ (.tail _ (.tail _ (.head _))))
 simp only at h1
 unfold Lib.TabIs World.var?
 rw [pow10_is]
 simp only [Option.bind_some, h1]
theorem below_bytes (w : World) (e : TypeId) (t : ByteArray) : Below w.heap.size w (Lib.bytesWorld w e t) := Go.Joins.below_bytesWorld _ _ _ _ (Nat.le_refl _)
theorem below_grow (w : World) (q : Nat) (os : Array Obj) : Below w.heap.size w (Sort.grow (w.drewN q) os) :=
 ⟨rfl, rfl, rfl, by simp [Sort.grow], fun i hi => by
  show ((w.drewN q).heap ++ os)[i]? = _
  rw [Array.getElem?_append_left (by show i < w.heap.size; omega)]
  rfl⟩
theorem itoa_is {n : Int} (h0 : -9223372036854775808 ≤ n) (h1 : n ≤ 9223372036854775807) : FnIs Tryz.prog 32 [.int .i64 n] [] (.d (strD (Lib.itoa n))) [] :=
 .of_calls1 rfl ⟨_, Tryz.func32, by kernel_rfl, by kernel_rfl⟩ fun σ w X vs ha hg => by
  rw [ha.one]
  refine (Tryz.strconv_Itoa n h0 h1 w (glob_tab hg)).mono ?_
  rintro e w' ⟨rfl, k, os, rfl⟩
  exact ⟨rfl, below_grow _ _ _⟩
def atoiV (l : List UInt8) : Int := match Lib.atoiAll l with
 | .ok v => v
 | .range => Lib.atoiSat l
 | _ => 0
def okA {α : Type} (p : α → Bool) (x : α) : AV := bif p x then .d (.sc .nilIface) else .er
def atoiOk (l : List UInt8) : Bool := match Lib.atoiAll l with
 | .ok _ => true
 | _ => false
def puOk (l : List UInt8) : Bool := match Lib.parseUintB 8 l with
 | .ok _ => true
 | _ => false
def puV (l : List UInt8) : Int := match Lib.parseUintB 8 l with
 | .ok u => u
 | .range => 255
 | _ => 0
def erA (b : Bool) : AV := bif b then .d (.sc .nilIface) else .er
theorem atoi_is {l : List UInt8} (hl : l.length ≤ 281474976710656) : FnIs Tryz.prog 136 [.d (strD l)] [] (.tup (.acons (.int .i64 (atoiV l)) (.acons (erA (atoiOk l)) .anil))) [] := by
 refine .of_calls (fun G => ⟨trivial, by unfold erA; cases atoiOk l <;> trivial, trivial⟩) ⟨_, Tryz.func136, by kernel_rfl, by kernel_rfl⟩ fun σ w X vs _ ha hg => ?_
 rw [ha.one]
 have hd := mkS_data l
 have hsz : (mkS l).size ≤ 281474976710656 := by rw [mkS_size]; exact hl
 cases h : Lib.atoiAll l
 case ok v =>
  refine (Tryz.strconv_Atoi_ok (mkS l) (by omega) v (by rw [hd]; exact h) w).mono ?_
  rintro e w' ⟨rfl, hw⟩
  refine ⟨_, rfl, ?_, by simp only [atoiV, atoiOk, erA, h, cond_true]; exact relV_sc2 rfl rfl⟩
  rcases hw with rfl | ⟨t, rfl⟩
  ·exact Below.refl _ _
  ·exact below_bytes _ _ _
 case range =>
  obtain ⟨ev, h1, h2⟩ := glob_err hg 7 (.inr rfl)
  refine (Tryz.strconv_Atoi_range (mkS l) hsz (by rw [hd]; exact h) ev w h1 h2).mono ?_
  rintro e w' ⟨N, rfl, _, _, hb⟩
  exact ⟨_, rfl, hb, by simp only [atoiV, atoiOk, erA, h, cond_false]; rw [hd]; exact relV_er rfl⟩
 next =>
  obtain ⟨ev, h1, h2⟩ := glob_err hg 6 (.inl rfl)
  refine (Tryz.strconv_Atoi_syntax (mkS l) hsz (by rw [hd]; exact h) ev w h1 h2).mono ?_
  rintro e w' ⟨N, rfl, _, _, hb⟩
  exact ⟨_, rfl, hb, by simp only [atoiV, atoiOk, erA, h, cond_false]; exact relV_er rfl⟩
theorem pu_is {l : List UInt8} (hl : l.length ≤ 281474976710656) : FnIs Tryz.prog 120 [.d (strD l), .int .i64 10, .int .i64 8] [] (.tup (.acons (.int .u64 (puV l)) (.acons (erA (puOk l)) .anil))) [] := by
 refine .of_calls (fun G => ⟨trivial, by unfold erA; cases puOk l <;> trivial, trivial⟩) ⟨_, Tryz.func120, by kernel_rfl, by kernel_rfl⟩ fun σ w X vs _ ha hg => ?_
 rw [ha.three]
 have hd := mkS_data l
 have hsz : (mkS l).size ≤ 281474976710656 := by rw [mkS_size]; exact hl
 cases h : Lib.parseUintB 8 l
 case ok v =>
  refine (Tryz.strconv_ParseUint_10_at8_ok (mkS l) (by omega) v (by rw [hd]; exact h) w).mono ?_
  rintro e w' ⟨rfl, hw⟩
  refine ⟨_, rfl, ?_, by simp only [puV, puOk, erA, h, cond_true]; exact relV_sc2 rfl rfl⟩
  rcases hw with rfl | rfl
  ·exact Below.refl _ _
  ·exact below_bytes _ _ _
 case range =>
  obtain ⟨ev, h1, h2⟩ := glob_err hg 7 (.inr rfl)
  refine (Tryz.strconv_ParseUint_10_at8_range (mkS l) hsz (by rw [hd]; exact h) ev w h1 h2).mono ?_
  rintro e w' ⟨N, rfl, _, _, hb⟩
  exact ⟨_, rfl, hb, by simp only [puV, puOk, erA, h, cond_false]; exact relV_er rfl⟩
 next =>
  obtain ⟨ev, h1, h2⟩ := glob_err hg 6 (.inl rfl)
  refine (Tryz.strconv_ParseUint_10_at8_syntax (mkS l) hsz (by rw [hd]; exact h) ev w h1 h2).mono ?_
  rintro e w' ⟨N, rfl, _, _, hb⟩
  exact ⟨_, rfl, hb, by simp only [puV, puOk, erA, h, cond_false]; exact relV_er rfl⟩
def cutA (l : List UInt8) (c : UInt8) : List UInt8 × List UInt8 × Bool := match cutL l c with
 | none => (l, [], false)
 | some (p, q) => (p, q, true)
theorem cut_is {l : List UInt8} {c : UInt8} (hl : l.length < 4294967281) : FnIs Tryz.prog 76 [.d (strD l), .d (strD [c])] [] (.tup (.acons (.d (strD (cutA l c).1)) (.acons (.d (strD (cutA l c).2.1)) (.acons (.bool (cutA l c).2.2) .anil)))) [] := by
 refine .of_calls (fun G => ⟨trivial, trivial, trivial, trivial⟩) ⟨_, Tryz.func76, by kernel_rfl, by kernel_rfl⟩ fun σ w X vs _ ha hg => ?_
 rw [ha.two]
 obtain ⟨m, hm⟩ := glob_max hg
 refine (Tryz.strings_Cut (mkS l) (mkS [c]) m w (by rw [mkS_size]; exact hl) hm).mono ?_
 rintro e w' ⟨rfl, k, rfl⟩
 refine ⟨_, rfl, Go.Joins.below_draws _ _ _, ?_⟩
 have e1 : Lib.cut (mkS l).data.toList (mkS [c]).data.toList = cutA l c := by
  rw [mkS_data, mkS_data, lib_cut]
  rfl
 rw [e1]
 exact relV_sc3 rfl rfl rfl
theorem ib_is {l : List UInt8} {c : Int} : FnIs Tryz.prog 121 [.d (strD l), .int .u8 c] [] (.int .i64 (Lib.indexByte l c.toNat.toUInt8)) [] :=
 .of_calls1 rfl ⟨_, Tryz.func121, by kernel_rfl, by kernel_rfl⟩ fun σ w X vs ha hg => by
  rw [ha.two]
  refine (Tryz.strings_IndexByte (mkS l) c w).mono ?_
  rintro e w' ⟨rfl, rfl⟩
  exact ⟨by rw [mkS_data], Below.refl _ _⟩
theorem split_is {l : List UInt8} {c : UInt8} (hl : l.length < 4294967281) : FnIs Tryz.prog 46 [.d (strD l), .d (strD [c])] [] (.d (.arr 1 strD (splitL l c))) [] := by
 refine .of_calls (fun G => trivial) ⟨_, Tryz.func46, by kernel_rfl, by kernel_rfl⟩ fun σ w X vs hX ha hg => ?_
 rw [ha.two]
 obtain ⟨m, hm⟩ := glob_max hg
 refine (Tryz.strings_Split (mkS l) (mkS [c]) m w (by rw [mkS_size]; exact hl) hm (by rw [mkS_size]; exact Nat.le_refl 1)).mono ?_
 rintro e w' ⟨rfl, rfl⟩
 obtain ⟨h1, h2⟩ := lib_split (c := c) l.length l (Nat.le_refl _)
 rw [h1, h2]
 have hlen : (splitL l c).length ≤ l.length + 1 := splitL_len l c
 refine ⟨_, rfl, Go.Joins.below_alloc1 _ _, RelV.arr.2 (.inr ⟨_, _, rfl, Nat.le_refl _, by unfold maxLen; omega, fun i => [.string (mkS ((splitL l c).getD i []))], fun i hi => ⟨?_, rfl, fun j u hu => ?_⟩⟩)⟩
 ·show Enc _ _ _ [.string (mkS ((splitL l c).getD i []))]
  rw [List.getD_eq_getElem?_getD, List.getElem?_eq_getElem hi]
  exact ⟨rfl, rfl⟩
 ·match j, hu with
  | 0, hu =>
   simp only [List.getElem?_cons_zero, Option.some.injEq] at hu
   subst hu
   refine ⟨?_, fun hx => absurd (hX _ hx) (Nat.lt_irrefl _)⟩
   rw [add_mk]
   simp only [Nat.mul_one, Nat.add_zero, Nat.zero_add]
   rw [World.cell?]
   simp only [heap_alloc_new]
   simp [List.getElem?_eq_getElem hi, List.getD_eq_getElem?_getD]
end Go.Proofs.YthiijfbcfoifnaaGreatDoor
namespace Go.Proofs.YthiijfbcfoifnaaGreatDoor
open Go.Eng
set_option maxHeartbeats 2000000
set_option maxRecDepth 20000
attribute [local irreducible] WC RegS RegD SeqQ BlkQ ScoQ RegK CutK Sat SatN FnIs LoopQ StepIs OpIs
def bAV (b : Bool) (r : Nat) : AV := match b with
 | true => .d (.sc nilp)
 | false => .ptr r []
abbrev bldRow (b : Bool) (r q n : Nat) : Row := .box 86 (.acons (bAV b r) (.acons (.own q 0 n 1 none) (.d .nil)))
abbrev rowT (l : List UInt8) : Row := .ds 5 1 false encU8 (byI l)
theorem copycheck_fresh (l : List UInt8) (n : Nat) : FnIs Tryz.prog 68 [.ptr 0 []] [(0, .box 86 (.acons (.d (.sc nilp)) (.acons (.own 1 0 n 1 none) (.d .nil)))), (1, rowT l)] (.tup .anil) [(0, .box 86 (.acons (.ptr 0 []) (.acons (.own 1 0 n 1 none) (.d .nil)))), (1, rowT l)] := by
 refine fnIs_of tab_ok Tryz.func68 rfl rfl rfl ?_;refine sR ?_;iterate 3 refine rC ?_
 refine rQ iM ?_;refine rQ (eql_pn rfl rfl rfl) ?_;refine nS ?_;refine wV ?_;refine wc_region ?_;iterate 2 refine rC ?_
 refine rQ (conv_ptr_to tab_ok rfl rfl rfl rfl rfl rfl rfl rfl) ?_;refine rQ (native_same rfl rfl rfl rfl rfl rfl) ?_;refine rQ (conv_ptr_from tab_ok rfl rfl rfl rfl rfl rfl (by kernel_rfl)) ?_
 iterate 2 refine rC ?_
 refine reg_store (store_row tab_ok rfl rfl rfl ⟨_, ⟨_, ⟨rfl, rfl, rfl⟩, rfl⟩, rfl⟩ rfl) ?_;refine reg_nil ?_
 exact ⟨trivial, [], .of rfl rfl rfl rfl rfl ⟨⟨_, rfl, AVLe.of_eq rfl⟩, rfl, trivial⟩ ⟨⟨rfl, rfl, _, rfl, .refl _⟩, ⟨rfl, rfl, _, rfl, .refl _⟩, trivial⟩⟩
theorem copycheck_used (l : List UInt8) (n : Nat) : FnIs Tryz.prog 68 [.ptr 0 []] [(0, .box 86 (.acons (.ptr 0 []) (.acons (.own 1 0 n 1 none) (.d .nil)))), (1, rowT l)] (.tup .anil) [(0, .box 86 (.acons (.ptr 0 []) (.acons (.own 1 0 n 1 none) (.d .nil)))), (1, rowT l)] := by
 refine fnIs_of tab_ok Tryz.func68 rfl rfl rfl ?_;refine sR ?_;iterate 3 refine rC ?_
 refine rQ iM ?_;refine rQ (eql_ptr rfl rfl rfl) ?_;refine nS ?_;refine wG ?_;refine sR ?_;iterate 3 refine rC ?_
 refine rQ iM ?_;refine rC ?_;refine rQ (neq_self tab_ok rfl rfl rfl rfl) ?_;refine nS ?_;refine wG ?_;refine wc_skip ?_
 exact ⟨trivial, [], .of rfl rfl rfl rfl rfl ⟨⟨_, rfl, AVLe.of_eq rfl⟩, rfl, trivial⟩ ⟨⟨rfl, rfl, _, rfl, .refl _⟩, ⟨rfl, rfl, _, rfl, .refl _⟩, trivial⟩⟩
theorem writebyte_fresh (l : List UInt8) (c : UInt8) (n : Nat) (hn : l.length = n) (hlen : n + 1 ≤ 1048576) : FnIs Tryz.prog 129 [.ptr 0 [], .int .u8 c.toNat] [(0, bldRow true 0 1 n), (1, rowT l)] (.d (.sc .nilIface)) [(0, bldRow false 0 64 (n + 1)), (64, rowT (l ++ [c]))] := by
 obtain rfl : (byI l).length = n := by rw [byI_len]; exact hn
 have hcc := copycheck_fresh l (byI l).length
 have hlen2 : (byI l).length + 1 ≤ 1048576 := hlen
 refine fnIs_of tab_ok Tryz.func129 rfl rfl rfl ?_;refine sR ?_;refine rC ?_;refine nR ?_;refine rC ?_;refine reg_do rfl (call_h [(0, some 0), (1, some 1)] hcc rfl rfl rfl (arg_ptr rfl rfl arg_nil) ⟨⟨rfl, rfl, _, _, rfl, rfl, .refl _⟩, ⟨rfl, rfl, _, _, rfl, rfl, .refl _⟩, trivial⟩ rfl rfl (.inl rfl) rfl rfl) rfl rfl ?_
 refine nR ?_;iterate 4 refine rC ?_
 refine rQ iM ?_;refine rC ?_;refine reg_new (build_slice tab_ok rfl rfl rfl rfl rfl rfl rfl rfl) rfl ?_;refine reg_new2 (append_one (s := 1) (enc := encU8) tab_ok (c.toNat : Int) rfl rfl rfl rfl rfl rfl rfl rfl rfl hlen2 rfl) rfl ?_
 iterate 2 refine rC ?_
 refine reg_store (store_row tab_ok rfl rfl rfl ⟨_, ⟨_, ⟨rfl, rfl, rfl⟩, rfl⟩, rfl⟩ rfl) ?_;refine nR ?_;refine rC ?_;refine nS ?_;refine wc_ret ?_
 rw [show byI l ++ [(c.toNat : Int)] = byI (l ++ [c]) from byI_app l [c]]
 exact ⟨trivial, [(64, some 144)], .of rfl rfl rfl rfl rfl ⟨⟨_, rfl, AVLe.of_eq rfl⟩, rfl, trivial⟩ ⟨⟨rfl, rfl, _, rfl, .refl _⟩, ⟨rfl, rfl, _, rfl, .refl _⟩, trivial⟩⟩
theorem writebyte_used (l : List UInt8) (c : UInt8) (n : Nat) (hn : l.length = n) (hlen : n + 1 ≤ 1048576) : FnIs Tryz.prog 129 [.ptr 0 [], .int .u8 c.toNat] [(0, bldRow false 0 1 n), (1, rowT l)] (.d (.sc .nilIface)) [(0, bldRow false 0 64 (n + 1)), (64, rowT (l ++ [c]))] := by
 obtain rfl : (byI l).length = n := by rw [byI_len]; exact hn
 have hcc := copycheck_used l (byI l).length
 have hlen2 : (byI l).length + 1 ≤ 1048576 := hlen
 refine fnIs_of tab_ok Tryz.func129 rfl rfl rfl ?_;refine sR ?_;refine rC ?_;refine nR ?_;refine rC ?_;refine reg_do rfl (call_h [(0, some 0), (1, some 1)] hcc rfl rfl rfl (arg_ptr rfl rfl arg_nil) ⟨⟨rfl, rfl, _, _, rfl, rfl, .refl _⟩, ⟨rfl, rfl, _, _, rfl, rfl, .refl _⟩, trivial⟩ rfl rfl (.inl rfl) rfl rfl) rfl rfl ?_
 refine nR ?_;iterate 4 refine rC ?_
 refine rQ iM ?_;refine rC ?_;refine reg_new (build_slice tab_ok rfl rfl rfl rfl rfl rfl rfl rfl) rfl ?_;refine reg_new2 (append_one (s := 1) (enc := encU8) tab_ok (c.toNat : Int) rfl rfl rfl rfl rfl rfl rfl rfl rfl hlen2 rfl) rfl ?_
 iterate 2 refine rC ?_
 refine reg_store (store_row tab_ok rfl rfl rfl ⟨_, ⟨_, ⟨rfl, rfl, rfl⟩, rfl⟩, rfl⟩ rfl) ?_;refine nR ?_;refine rC ?_;refine nS ?_;refine wc_ret ?_
 rw [show byI l ++ [(c.toNat : Int)] = byI (l ++ [c]) from byI_app l [c]]
 exact ⟨trivial, [(64, some 144)], .of rfl rfl rfl rfl rfl ⟨⟨_, rfl, AVLe.of_eq rfl⟩, rfl, trivial⟩ ⟨⟨rfl, rfl, _, rfl, .refl _⟩, ⟨rfl, rfl, _, rfl, .refl _⟩, trivial⟩⟩
theorem writebyte_is (b : Bool) (l : List UInt8) (c : UInt8) (n : Nat) (hn : l.length = n) (hlen : n + 1 ≤ 1048576) : FnIs Tryz.prog 129 [.ptr 0 [], .int .u8 c.toNat] [(0, bldRow b 0 1 n), (1, rowT l)] (.d (.sc .nilIface)) [(0, bldRow false 0 64 (n + 1)), (64, rowT (l ++ [c]))] := by
 cases b with
 | true => exact writebyte_fresh l c n hn hlen
 | false => exact writebyte_used l c n hn hlen
theorem bstring_is (l : List UInt8) (n : Nat) (hn : l.length = n) (hne : l ≠ []) (hlen : n ≤ 1048576) : FnIs Tryz.prog 38 [.ptr 0 []] [(0, bldRow false 0 1 n), (1, rowT l)] (.d (strD l)) [] := by
 have h0 : 0 < n := by rw [← hn]; exact List.length_pos_iff.2 hne
 have h63 : l.length ≤ 9223372036854775807 := by omega
 refine fnIs_of tab_ok Tryz.func38 rfl rfl rfl ?_;refine sR ?_;refine rC ?_;refine nQ ?_;refine wc_draw (by kernel_rfl) ?_;refine dC [0] [] ?_;refine dC [3] [] ?_
 refine dC [4] [] ?_;refine dQ [5] [0] iM ?_;refine dQ [6] [1] (slice_data rfl h0) ?_;refine dC [0] [] ?_;refine dC [8] [] ?_;refine dC [9] [] ?_;refine dQ [10] [0] iM ?_
 refine dQ [11] [1] (len_own tab_ok rfl rfl) ?_;refine dreg_w [7, 12] [1] rfl (unsafe_str (l := l) rfl rfl rfl rfl rfl hn hne h63) ?_;refine dC [13] [] ?_;refine dreg_end (by kernel_rfl) ?_
 refine seq_n ?_;refine wc_ret ?_
 exact ⟨trivial, [], lf⟩
theorem bstring_zero : FnIs Tryz.prog 38 [.ptr 0 []] [(0, .box 86 (.d (.cons (.sc nilp) (.cons (.sc nil_) .nil))))] (.d (strD [])) [] := by
 refine fnIs_of tab_ok Tryz.func38 rfl rfl rfl ?_;refine sR ?_;refine rC ?_;refine nQ ?_;refine wc_draw (by kernel_rfl) ?_;refine dC [0] [] ?_;refine dC [3] [] ?_
 refine dC [4] [] ?_;refine dQ [5] [0] iB ?_;refine dQ [6] [] (slice_data_nil rfl) ?_;refine dC [0] [] ?_;refine dC [8] [] ?_;refine dC [9] [] ?_;refine dQ [10] [0] iB ?_
 refine dQ [11] [] (len_nil tab_ok rfl rfl) ?_;refine dQ [7, 12] [] (unsafe_str0 rfl rfl) ?_;refine dC [13] [] ?_;refine dreg_end (by kernel_rfl) ?_;refine seq_n ?_
 refine wc_ret ?_
 exact ⟨trivial, [], lf⟩
theorem writestr_fresh (l s : List UInt8) (n : Nat) (hn : l.length = n) (hs0 : 0 < s.length) (hlen : n + s.length ≤ 1048576) : FnIs Tryz.prog 33 [.ptr 0 [], .d (strD s)] [(0, bldRow true 0 1 n), (1, rowT l)] (.tup (.acons (.int .i64 s.length) (.acons (.d (.sc .nilIface)) .anil))) [(0, bldRow false 0 64 (n + s.length)), (64, rowT (l ++ s))] := by
 have hbl : n = (byI l).length := by rw [byI_len]; exact hn.symm
 have hcc := copycheck_fresh l n
 have hlen2 : (byI l).length + s.length ≤ 1048576 := by rw [← hbl]; exact hlen
 refine fnIs_of tab_ok Tryz.func33 rfl rfl rfl ?_;refine sR ?_;iterate 2 refine rC ?_
 refine nR ?_;refine rC ?_;refine reg_do rfl (call_h [(0, some 0), (1, some 1)] hcc rfl rfl rfl (arg_ptr rfl rfl arg_nil) ⟨⟨rfl, rfl, _, _, rfl, rfl, .refl _⟩, ⟨rfl, rfl, _, _, rfl, rfl, .refl _⟩, trivial⟩ rfl rfl (.inl rfl) rfl rfl) rfl rfl ?_
 refine nR ?_;iterate 4 refine rC ?_
 refine rQ iM ?_;refine rC ?_;refine reg_new2 (append_str (l := s) tab_ok rfl Tryz.underlying9 rfl rfl rfl hbl rfl rfl hs0 hlen2 rfl) rfl ?_;iterate 2 refine rC ?_
 refine reg_store (store_row tab_ok rfl rfl rfl ⟨_, ⟨_, ⟨rfl, rfl, rfl⟩, rfl⟩, rfl⟩ rfl) ?_;refine nR ?_;refine rC ?_;refine rQ (len_s tab_ok rfl rfl) ?_;iterate 2 refine rC ?_
 refine nS ?_;refine wc_ret ?_
 rw [byI_app l s]
 exact ⟨trivial, [(64, some 144)], .of rfl rfl rfl rfl rfl ⟨⟨_, rfl, AVLe.of_eq rfl⟩, rfl, trivial⟩ ⟨⟨rfl, rfl, _, rfl, RowLe.of_eq (by rw [hbl]; rfl)⟩, ⟨rfl, rfl, _, rfl, .refl _⟩, trivial⟩⟩
theorem writestr_used (l s : List UInt8) (n : Nat) (hn : l.length = n) (hs0 : 0 < s.length) (hlen : n + s.length ≤ 1048576) : FnIs Tryz.prog 33 [.ptr 0 [], .d (strD s)] [(0, bldRow false 0 1 n), (1, rowT l)] (.tup (.acons (.int .i64 s.length) (.acons (.d (.sc .nilIface)) .anil))) [(0, bldRow false 0 64 (n + s.length)), (64, rowT (l ++ s))] := by
 have hbl : n = (byI l).length := by rw [byI_len]; exact hn.symm
 have hcc := copycheck_used l n
 have hlen2 : (byI l).length + s.length ≤ 1048576 := by rw [← hbl]; exact hlen
 refine fnIs_of tab_ok Tryz.func33 rfl rfl rfl ?_;refine sR ?_;iterate 2 refine rC ?_
 refine nR ?_;refine rC ?_;refine reg_do rfl (call_h [(0, some 0), (1, some 1)] hcc rfl rfl rfl (arg_ptr rfl rfl arg_nil) ⟨⟨rfl, rfl, _, _, rfl, rfl, .refl _⟩, ⟨rfl, rfl, _, _, rfl, rfl, .refl _⟩, trivial⟩ rfl rfl (.inl rfl) rfl rfl) rfl rfl ?_
 refine nR ?_;iterate 4 refine rC ?_
 refine rQ iM ?_;refine rC ?_;refine reg_new2 (append_str (l := s) tab_ok rfl Tryz.underlying9 rfl rfl rfl hbl rfl rfl hs0 hlen2 rfl) rfl ?_;iterate 2 refine rC ?_
 refine reg_store (store_row tab_ok rfl rfl rfl ⟨_, ⟨_, ⟨rfl, rfl, rfl⟩, rfl⟩, rfl⟩ rfl) ?_;refine nR ?_;refine rC ?_;refine rQ (len_s tab_ok rfl rfl) ?_;iterate 2 refine rC ?_
 refine nS ?_;refine wc_ret ?_
 rw [byI_app l s]
 exact ⟨trivial, [(64, some 144)], .of rfl rfl rfl rfl rfl ⟨⟨_, rfl, AVLe.of_eq rfl⟩, rfl, trivial⟩ ⟨⟨rfl, rfl, _, rfl, RowLe.of_eq (by rw [hbl]; rfl)⟩, ⟨rfl, rfl, _, rfl, .refl _⟩, trivial⟩⟩
theorem writestr_is (b : Bool) (l s : List UInt8) (n : Nat) (hn : l.length = n) (hs0 : 0 < s.length) (hlen : n + s.length ≤ 1048576) : FnIs Tryz.prog 33 [.ptr 0 [], .d (strD s)] [(0, bldRow b 0 1 n), (1, rowT l)] (.tup (.acons (.int .i64 s.length) (.acons (.d (.sc .nilIface)) .anil))) [(0, bldRow false 0 64 (n + s.length)), (64, rowT (l ++ s))] := by
 cases b with
 | true => exact writestr_fresh l s n hn hs0 hlen
 | false => exact writestr_used l s n hn hs0 hlen
end Go.Proofs.YthiijfbcfoifnaaGreatDoor
namespace Go.Eng
open Go.RowKit
section
variable {P : Program} {T : Tab} {env : Env} {h : Upds} {n : Nat}
theorem rem_nat (hT : TabOk P T) {x y : Operand} {t t' : TypeId} {k : IntKind} {a b : Nat} {c : Int} (hx : evalA env x = some (.int k a)) (hy : evalA env y = some (.int k c)) (hc : c = (b : Int)) (hb : b ≠ 0) : StepIs P (.binOp .rem t x y t') env h n (some (.int k ((a % b : Nat) : Int))) [] := by
 subst hc
 have := rem_int (P := P) (h := h) (n := n) (t := t) (t' := t') hT hx hy (by omega : (b : Int) ≠ 0)
 rwa [show ((a : Int).tmod b) = ((a % b : Nat) : Int) from rfl] at this
theorem quo_nat (hT : TabOk P T) {x y : Operand} {t t' : TypeId} {k : IntKind} {a b : Nat} {c : Int} (hx : evalA env x = some (.int k a)) (hy : evalA env y = some (.int k c)) (hc : c = (b : Int)) (hb : b ≠ 0) (hw : k.wrap ((a / b : Nat) : Int) = ((a / b : Nat) : Int)) : StepIs P (.binOp .quo t x y t') env h n (some (.int k ((a / b : Nat) : Int))) [] := by
 subst hc
 exact quo_int hT hx hy (by omega : (b : Int) ≠ 0) (by rw [show ((a : Int).tdiv b) = ((a / b : Nat) : Int) from rfl]; exact hw)
theorem wrap_u8n {a : Nat} (h : a < 256) : IntKind.u8.wrap (a : Int) = (a : Int) := by
 simp [IntKind.wrap, IntKind.signed, IntKind.bits]
 omega
end
end Go.Eng
namespace Go.Proofs.YthiijfbcfoifnaaGreatDoor
open Go.Eng Go.Plain
set_option maxHeartbeats 4000000
set_option maxRecDepth 20000
attribute [local irreducible] WC RegS RegD SeqQ BlkQ ScoQ RegK CutK Sat SatN FnIs LoopQ StepIs OpIs
theorem hex_take {l : List UInt8} {i : Nat} {b : UInt8} (hb : l[i]? = some b) : (l.take i).flatMap hexB ++ [hexC (b.toNat / 16)] ++ [hexC (b.toNat % 16)] = (l.take (i + 1)).flatMap hexB := by
 rw [List.take_add_one, hb]
 simp [hexB]
theorem hex_nil : FnIs Tryz.prog 92 [.d (encB [])] [] (.d (strD (hexP []))) [] := by
 refine fnIs_of tab_ok Tryz.func92 rfl rfl rfl ?_;refine sR ?_;refine rC ?_;refine nQ ?_;refine sR ?_;refine rC ?_;refine rQ iE ?_;refine rC ?_;refine nS ?_;refine wV ?_
 refine sR ?_;refine rC ?_;refine nS ?_;refine wc_ret ?_;refine seq_r ?_
 exact ⟨trivial, [], lf⟩
theorem hex_some (l : List UInt8) (hne : l ≠ []) (hL : l.length ≤ 524288) : FnIs Tryz.prog 92 [.d (encB l)] [] (.d (strD (hexP l))) [] := by
 have hpos : 0 < l.length := List.length_pos_iff.2 hne
 have hbl : (byI l).length = l.length := byI_len l
 have hz : decide (((byI l).length : Int) = 0) = false := dF (by omega)
 refine fnIs_of tab_ok Tryz.func92 rfl rfl rfl ?_;refine sR ?_;refine rC ?_;refine nQ ?_;refine sR ?_;refine rC ?_;refine rQ iE ?_;refine rC ?_;refine nS ?_;refine wF ?_
 refine kS ?_;refine sR ?_;refine rN ?_;refine nQ ?_;refine sR ?_;refine rC ?_;refine rQ iE ?_;refine rC ?_;refine nS ?_;refine wc_block ?_
 refine wc_inv (fun i : Nat => ⟨[(11, .int .i64 i), (10, .int .i64 (byI l).length), (9, .d (encB l)), (3, .ptr 65 [])], [(65, some (bldRow (Nat.beq i 0) 65 66 (2 * i))), (66, some (rowT ((l.take i).flatMap hexB)))], 72, Tryz.f92.ntmps, 64⟩) (fun i => i ≤ l.length) (fun i => l.length - i) 0 [(65, some 96), (66, none)] (Nat.zero_le _)
  (.of rfl rfl rfl rfl rfl ⟨⟨_, rfl, .refl _⟩, rfl, ⟨_, rfl, .refl _⟩, rfl, ⟨_, rfl, .refl _⟩, rfl, ⟨_, rfl, .refl _⟩, rfl, trivial⟩ ⟨⟨rfl, rfl, _, rfl, RowLe.split2⟩, ⟨rfl, rfl, rfl⟩, trivial⟩) ?_
 intro i hi
 refine wc_of ?_;refine sR ?_;refine rC ?_;refine nQ ?_
 refine wc_cond rfl (fun h3 => ?_) (fun h3 => ?_)
 ·have hlt : i < l.length := by have := of_decide_eq_true h3; omega
  obtain ⟨b, hb⟩ : ∃ b, l[i]? = some b := ⟨_, List.getElem?_eq_getElem hlt⟩
  have hb' : (byI l)[((i : Int)).toNat]? = some (b.toNat : Int) := by rw [Int.toNat_natCast]; exact byI_get hb
  have hb8 : b.toNat < 256 := b.toNat_lt
  have hw16 : IntKind.u8.wrap ((b.toNat / 16 : Nat) : Int) = ((b.toNat / 16 : Nat) : Int) := wrap_u8n (by omega)
  have hd1 := hexD_get (n := b.toNat / 16) (by omega)
  have hd2 := hexD_get (n := b.toNat % 16) (by omega)
  have hpl : ((l.take i).flatMap hexB).length = 2 * i := by rw [hexB_len, List.length_take, Nat.min_eq_left hi]
  have hp1 : 2 * i + 1 ≤ 1048576 := by omega
  have hpl2 : ((l.take i).flatMap hexB ++ [hexC (b.toNat / 16)]).length = 2 * i + 1 := by rw [List.length_append, hpl]; rfl
  have hp2 : 2 * i + 1 + 1 ≤ 1048576 := by omega
  have hgo := hex_take hb
  refine kS ?_;refine wc_seq ?_;refine wc_block ?_;refine sR ?_;refine rQ iA ?_;refine rQ iL ?_;refine rC ?_;refine nR ?_;refine rC ?_;refine rQ (quo_nat (a := b.toNat) (b := 16) tab_ok rfl rfl rfl (by decide) hw16) ?_
  refine rQ (index_s (l := hexD) (m := b.toNat / 16) tab_ok rfl rfl rfl hd1) ?_
  refine reg_do rfl (call_h [(0, some 65), (1, some 66)] (writebyte_is (Nat.beq i 0) ((l.take i).flatMap hexB) (hexC (b.toNat / 16)) (2 * i) hpl hp1) rfl rfl rfl (arg_ptr rfl rfl (arg_e arg_nil)) ⟨⟨rfl, (by cases Nat.beq i 0 <;> rfl), _, _, rfl, rfl, (by cases Nat.beq i 0 <;> exact .refl _)⟩, ⟨rfl, rfl, _, _, rfl, rfl, .refl _⟩, trivial⟩ rfl rfl (.inl rfl) rfl rfl) rfl rfl ?_
  refine nS ?_;refine wc_region ?_;refine rC ?_;refine rQ (rem_nat (a := b.toNat) (b := 16) tab_ok rfl rfl rfl (by decide)) ?_;refine rQ (index_s (l := hexD) (m := b.toNat % 16) tab_ok rfl rfl rfl hd2) ?_
  refine reg_do rfl (call_h [(0, some 65), (1, some 128)] (writebyte_is false ((l.take i).flatMap hexB ++ [hexC (b.toNat / 16)]) (hexC (b.toNat % 16)) (2 * i + 1) hpl2 hp2) rfl rfl rfl (arg_ptr rfl rfl (arg_e arg_nil)) ⟨⟨rfl, rfl, _, _, rfl, rfl, .refl _⟩, ⟨rfl, rfl, _, _, rfl, rfl, .refl _⟩, trivial⟩ rfl rfl (.inl rfl) rfl rfl) rfl rfl ?_
  refine reg_nil ?_;refine blk_n ?_;refine seq_n ?_;refine wc_region ?_;refine rQ iD ?_;refine rC ?_;refine reg_nil ?_
  exact loop_n (i + 1) [(66, some 160)] hlt (by omega) (.of rfl rfl rfl rfl rfl ⟨⟨_, rfl, .refl _⟩, rfl, ⟨_, rfl, .refl _⟩, rfl, ⟨_, rfl, .refl _⟩, rfl, ⟨_, rfl, .refl _⟩, rfl, trivial⟩ ⟨⟨rfl, rfl, _, rfl, .refl _⟩, ⟨rfl, rfl, _, rfl, RowLe.of_eq (congrArg rowT hgo)⟩, trivial⟩)
 ·have he : i = l.length := by have := of_decide_eq_false h3; omega
  subst he
  have hnn : l.flatMap hexB ≠ [] := fun e => by have := hexB_len l; rw [e] at this; simp at this; omega
  have hp4 : 2 * l.length ≤ 1048576 := by omega
  have hbz : Nat.beq l.length 0 = false := by
   cases hz : Nat.beq l.length 0 with
   | false => rfl
   | true => have := Nat.eq_of_beq_eq_true hz; omega
  rw [hbz, List.take_length]
  refine wc_exit ?_;refine seq_x ?_;refine loop_x ?_;refine blk_x ?_;refine seq_n ?_;refine sR ?_;refine reg_new2 (call_h [(0, some 65), (1, some 66)] (bstring_is (l.flatMap hexB) (2 * l.length) (hexB_len l) hnn hp4) rfl rfl rfl (arg_ptr rfl rfl arg_nil) ⟨⟨rfl, rfl, _, _, rfl, rfl, .refl _⟩, ⟨rfl, rfl, _, _, rfl, rfl, .refl _⟩, trivial⟩ rfl rfl (.inl rfl) rfl rfl) rfl ?_
  refine rC ?_;refine nS ?_;refine wc_ret ?_
  rw [show hexP l = l.flatMap hexB from if_neg hne]
  exact ⟨trivial, [], lf⟩
theorem hex_is (l : List UInt8) (hL : l.length ≤ 524288) : FnIs Tryz.prog 92 [.d (encB l)] [] (.d (strD (hexP l))) [] := by
 by_cases h : l = []
 ·subst h; exact hex_nil
 ·exact hex_some l h hL
end Go.Proofs.YthiijfbcfoifnaaGreatDoor
namespace Go.Plain
open Go.Eng Go.Lib
def nibV (c : UInt8) : Nat := (indexByte hexD c).toNat
def pairsV : List UInt8 → List Int
 | [] => []
 | [a] => [(nibV a : Int)]
 | a :: b :: l => ((nibV a * 16 + nibV b : Nat) : Int) :: pairsV l
theorem ib_mem {c : UInt8} (h : 0 ≤ indexByte hexD c) : hexD[(indexByte hexD c).toNat]? = some c := (indexByte_some (show indexByte hexD c = ((indexByte hexD c).toNat : Nat) by omega)).1
theorem nibV_lt (c : UInt8) : nibV c < 16 := by
 by_cases h : 0 ≤ indexByte hexD c
 ·have := (List.getElem?_eq_some_iff.1 (ib_mem h)).1
  exact this
 ·unfold nibV; omega
theorem hexD_low {c : UInt8} (h : 0 ≤ indexByte hexD c) : c.toNat < 128 := by
 have hm : c ∈ hexD := List.mem_of_getElem? (ib_mem h)
 have : ∀ c ∈ hexD, c.toNat < 128 := by decide
 exact this c hm
theorem pv_len : ∀ l, (pairsV l).length = (l.length + 1) / 2
 | [] => rfl
 | [_] => by simp [pairsV]
 | _ :: _ :: l => by simp only [pairsV, List.length_cons, pv_len l]; omega
theorem pv_even : ∀ (l : List UInt8) (c : UInt8), l.length % 2 = 0 → pairsV (l ++ [c]) = pairsV l ++ [(nibV c : Int)]
 | [], _, _ => rfl
 | [_], _, h => by simp at h
 | a :: b :: l, c, h => by
  have := pv_even l c (by simp only [List.length_cons] at h; omega)
  simp only [List.cons_append, pairsV, this]
theorem pv_odd : ∀ (l : List UInt8) (c : UInt8), l.length % 2 = 1 → ∃ (r : List Int) (x : Nat), x < 16 ∧ pairsV l = r ++ [(x : Int)] ∧ pairsV (l ++ [c]) = r ++ [((x * 16 + nibV c : Nat) : Int)]
 | [], _, h => by simp at h
 | [a], c, _ => ⟨[], nibV a, nibV_lt a, rfl, rfl⟩
 | a :: b :: l, c, h => by
  obtain ⟨r, x, h1, h2, h3⟩ := pv_odd l c (by simp only [List.length_cons] at h; omega)
  exact ⟨((nibV a * 16 + nibV b : Nat) : Int) :: r, x, h1, by simp only [pairsV, h2, List.cons_append], by simp only [List.cons_append, pairsV, h3]⟩
def uX (m : Nat) (s : List UInt8) (i : Nat) : List Int := pairsV (s.take i) ++ List.replicate (m - (i + 1) / 2) 0
theorem uX_zero (m : Nat) (s : List UInt8) : uX m s 0 = List.replicate m 0 := by simp [uX, pairsV]
theorem uX_step {m i : Nat} {s : List UInt8} {c : UInt8} (hc : s[i]? = some c) (hm : s.length = 2 * m) : ∃ x : Nat, x < 16 ∧ (uX m s i)[i / 2]? = some (x : Int) ∧ (uX m s i).set (i / 2) ((x * 16 + nibV c : Nat) : Int) = uX m s (i + 1) := by
 have hi : i < s.length := (List.getElem?_eq_some_iff.1 hc).1
 have hl : (s.take i).length = i := by rw [List.length_take, Nat.min_eq_left (by omega)]
 have ht : s.take (i + 1) = s.take i ++ [c] := by rw [List.take_add_one, hc]; rfl
 have hpl : (pairsV (s.take i)).length = (i + 1) / 2 := by rw [pv_len, hl]
 by_cases he : i % 2 = 0
 ·have e1 : (i + 1) / 2 = i / 2 := by omega
  have e2 : (i + 1 + 1) / 2 = i / 2 + 1 := by omega
  have e3 : m - i / 2 = (m - (i / 2 + 1)) + 1 := by omega
  refine ⟨0, by decide, ?_, ?_⟩
  ·simp only [uX]
   rw [List.getElem?_append_right (by omega), hpl, e1, Nat.sub_self, e3, List.replicate_succ]
   rfl
  ·simp only [uX]
   rw [List.set_append_right _ _ (by omega), hpl, e1, Nat.sub_self, e3, List.replicate_succ, List.set_cons_zero, ht, pv_even _ _ (by rw [hl]; exact he), e2]
   simp
 ·obtain ⟨r, x, h1, h2, h3⟩ := pv_odd (s.take i) c (by rw [hl]; omega)
  have hr : r.length = i / 2 := by
   have := congrArg List.length h2
   rw [hpl] at this
   simp at this
   omega
  have e2 : (i + 1 + 1) / 2 = (i + 1) / 2 := by omega
  refine ⟨x, h1, ?_, ?_⟩
  ·simp only [uX, h2]
   rw [List.append_assoc, List.getElem?_append_right (by omega), hr, Nat.sub_self]
   rfl
  ·simp only [uX, h2]
   rw [List.append_assoc, List.set_append_right _ _ (by omega), hr, Nat.sub_self, ht, h3, e2]
   simp
theorem pairs_some : ∀ (s : List UInt8), s.length % 2 = 0 → (∀ c ∈ s, 0 ≤ indexByte hexD c) → ∃ t, pairsO s = some t ∧ byI t = pairsV s
 | [], _, _ => ⟨[], rfl, rfl⟩
 | [_], h, _ => by simp at h
 | a :: b :: l, h, hd => by
  obtain ⟨t, h1, h2⟩ := pairs_some l (by simp only [List.length_cons] at h; omega) fun c hc => hd c (by simp [hc])
  have ha := hd a (by simp)
  have hb := hd b (by simp)
  have na := nibV_lt a
  have nb := nibV_lt b
  refine ⟨(nibV a * 16 + nibV b).toUInt8 :: t, ?_, ?_⟩
  ·simp only [pairsO, nibO, if_pos ha, if_pos hb, h1, nibV]
  ·simp only [byI, List.map_cons, pairsV]
   rw [show (t.map fun b => (b.toNat : Int)) = byI t from rfl, h2]
   congr 1
   have : (nibV a * 16 + nibV b).toUInt8.toNat = nibV a * 16 + nibV b := by simp; omega
   rw [this]
theorem pairs_bad : ∀ (s : List UInt8) (c : UInt8), c ∈ s → indexByte hexD c < 0 → pairsO s = none
 | [], _, h, _ => by simp at h
 | [_], _, _, _ => rfl
 | a :: b :: l, c, h, hc => by
  have hn : nibO c = none := by unfold nibO; rw [if_neg (by omega)]
  simp only [List.mem_cons] at h
  simp only [pairsO]
  rcases h with rfl | rfl | h
  ·rw [hn]
  ·rw [hn]
   cases nibO a <;> rfl
  ·rw [pairs_bad l c h hc]
   cases nibO a <;> cases nibO b <;> rfl
theorem pairs_odd : ∀ (s : List UInt8), s.length % 2 = 1 → pairsO s = none
 | [], h => by simp at h
 | [_], _ => rfl
 | a :: b :: l, h => by
  simp only [pairsO]
  rw [pairs_odd l (by simp only [List.length_cons] at h; omega)]
  cases nibO a <;> cases nibO b <;> rfl
end Go.Plain
namespace Go.Proofs.YthiijfbcfoifnaaGreatDoor
open Go.Eng Go.Plain
set_option maxHeartbeats 4000000
set_option maxRecDepth 20000
attribute [local irreducible] WC RegS RegD SeqQ BlkQ ScoQ RegK CutK Sat SatN FnIs LoopQ StepIs OpIs
abbrev unR (o : Option (List UInt8)) : AV := .tup (.acons (.d (encB (o.getD []))) (.acons (.bool o.isSome) .anil))
theorem nil_arr {α : Type} (s : Nat) (enc : α → D) : AVLe (.d (.sc nil_)) (.d (.arr s enc [])) := fun σ w X v h => AVLe.empty_arr s enc σ w X v (AVLe.nil_empty σ w X v h)
theorem unhex_minus : FnIs Tryz.prog 137 [.d (strD [45])] [] (unR (unhexP [45])) [] := by
 refine fnIs_of tab_ok Tryz.func137 rfl rfl rfl ?_;refine sR ?_;iterate 2 refine rC ?_
 refine nQ ?_;refine sR ?_;refine rC ?_;refine rQ (eql_s tab_ok rfl rfl rfl) ?_;refine nS ?_;refine wV ?_;refine sR ?_;iterate 2 refine rC ?_
 refine nS ?_;refine wc_ret ?_;refine seq_r ?_
 exact ⟨trivial, [], .of rfl rfl rfl rfl rfl ⟨⟨_, rfl, AVLe.tup1 (nil_arr _ _) rfl⟩, rfl, trivial⟩ trivial⟩
theorem unhex_empty (s : List UInt8) (hs : s = []) : FnIs Tryz.prog 137 [.d (strD s)] [] (unR (unhexP s)) [] := by
 have h0 : decide (s = [45]) = false := by rw [hs]; rfl
 have h1 : decide ((s.length : Int) = 0) = true := by rw [hs]; rfl
 rw [show unhexP s = none by rw [hs]; rfl]
 refine fnIs_of tab_ok Tryz.func137 rfl rfl rfl ?_;refine sR ?_;iterate 2 refine rC ?_
 refine nQ ?_;refine sR ?_;refine rC ?_;refine rQ (eql_s (a := s) (b := [45]) tab_ok rfl rfl rfl) ?_;refine nS ?_;refine wF ?_;refine kS ?_;refine qR ?_;refine rC ?_
 refine rQ (len_s tab_ok rfl rfl) ?_;iterate 2 refine rC ?_
 iterate 4 refine rS ?_
 refine rQ iT ?_;refine nS ?_;refine wV ?_;refine sR ?_;iterate 2 refine rC ?_
 refine nS ?_;refine wc_ret ?_;refine seq_r ?_
 exact ⟨trivial, [], .of rfl rfl rfl rfl rfl ⟨⟨_, rfl, AVLe.tup1 (nil_arr _ _) rfl⟩, rfl, trivial⟩ trivial⟩
theorem unhex_odd (s : List UInt8) (hs : s.length % 2 = 1) : FnIs Tryz.prog 137 [.d (strD s)] [] (unR (if s = [45] then some [] else none)) [] := by
 by_cases h45 : s = [45]
 ·rw [if_pos h45, h45]; exact unhex_minus
 have h0 : decide (s = [45]) = false := dF h45
 have h1 : decide ((s.length : Int) = 0) = false := dF (by omega)
 have h2 : (!decide (((s.length % 2 : Nat) : Int) = 0)) = true := by rw [hs]; rfl
 rw [if_neg h45]
 refine fnIs_of tab_ok Tryz.func137 rfl rfl rfl ?_;refine sR ?_;iterate 2 refine rC ?_
 refine nQ ?_;refine sR ?_;refine rC ?_;refine rQ (eql_s (a := s) (b := [45]) tab_ok rfl rfl rfl) ?_;refine nS ?_;refine wF ?_;refine kS ?_;refine qR ?_;refine rC ?_
 refine rQ (len_s tab_ok rfl rfl) ?_;iterate 2 refine rC ?_
 refine rO ?_;refine rC ?_;refine rO ?_;refine rQ (len_s tab_ok rfl rfl) ?_;refine rO ?_;refine rQ (rem_nat (a := s.length) (b := 2) tab_ok rfl rfl rfl (by decide)) ?_
 refine rO ?_;refine rC ?_;refine rQ iF ?_;refine nS ?_;refine wT ?_;refine sR ?_;iterate 2 refine rC ?_
 refine nS ?_;refine wc_ret ?_;refine seq_r ?_
 exact ⟨trivial, [], .of rfl rfl rfl rfl rfl ⟨⟨_, rfl, AVLe.tup1 (nil_arr _ _) rfl⟩, rfl, trivial⟩ trivial⟩
theorem unhex_bad (s : List UInt8) (m : Nat) (hm : s.length = 2 * m) (hpos : s ≠ []) (hL : s.length ≤ 1048576) (hbad : ∃ c ∈ s, Lib.indexByte hexD c < 0) : FnIs Tryz.prog 137 [.d (strD s)] [] (unR (unhexP s)) [] := by
 have h45 : s ≠ [45] := fun e => by rw [e] at hm; simp at hm; omega
 have hlen : 0 < s.length := List.length_pos_iff.2 hpos
 have h0 : decide (s = [45]) = false := dF h45
 have h1 : decide ((s.length : Int) = 0) = false := dF (by omega)
 have h2 : (!decide (((s.length % 2 : Nat) : Int) = 0)) = false := by rw [show s.length % 2 = 0 by omega]; rfl
 have hm2 : m = s.length / 2 := by omega
 have hwl : IntKind.i64.wrap ((s.length / 2 : Nat) : Int) = ((s.length / 2 : Nat) : Int) := wrap_i64 (by omega) (by omega)
 refine fnIs_of tab_ok Tryz.func137 rfl rfl rfl ?_;refine sR ?_;iterate 2 refine rC ?_
 refine nQ ?_;refine sR ?_;refine rC ?_;refine rQ (eql_s (a := s) (b := [45]) tab_ok rfl rfl rfl) ?_;refine nS ?_;refine wF ?_;refine kS ?_;refine qR ?_;refine rC ?_
 refine rQ (len_s tab_ok rfl rfl) ?_;iterate 2 refine rC ?_
 refine rO ?_;refine rC ?_;refine rO ?_;refine rQ (len_s tab_ok rfl rfl) ?_;refine rO ?_;refine rQ (rem_nat (a := s.length) (b := 2) tab_ok rfl rfl rfl (by decide)) ?_
 refine rO ?_;refine rC ?_;refine rQ iF ?_;refine nS ?_;refine wF ?_;refine kS ?_;refine sR ?_;refine rC ?_;refine rQ (len_s tab_ok rfl rfl) ?_;refine rQ (quo_nat (a := s.length) (b := 2) tab_ok rfl rfl rfl (by decide) hwl) ?_
 refine reg_new (make_full (enc := encU8) (s := 1) (N := s.length / 2) tab_ok 0 rfl rfl rfl rfl rfl rfl rfl (by omega) rfl) rfl ?_;refine rC ?_;refine nQ ?_;refine sR ?_
 refine rC ?_;refine reg_new (range_str tab_ok rfl rfl) rfl ?_;refine nS ?_;refine wc_block ?_
 refine wc_inv (fun i : Nat => ⟨[(23, .ptr 66 []), (4, .own 65 0 (s.length / 2) 1 none), (0, .d (strD s))], [(65, some (.ds 5 1 true encU8 (uX m s i))), (66, some (.si (mkS s) i))], 72, Tryz.f137.ntmps, 64⟩) (fun i => i ≤ s.length ∧ ∀ c ∈ s.take i, 0 ≤ Lib.indexByte hexD c) (fun i => s.length - i) 0 [(65, some 192), (66, some 216)] ⟨Nat.zero_le _, by simp⟩
  (.of rfl rfl rfl rfl rfl ⟨⟨_, rfl, .refl _⟩, rfl, ⟨_, rfl, .refl _⟩, rfl, ⟨_, rfl, .refl _⟩, rfl, trivial⟩ ⟨⟨rfl, rfl, _, rfl, RowLe.of_eq (by rw [uX_zero, hm2]; rfl)⟩, ⟨rfl, rfl, _, rfl, .refl _⟩, trivial⟩) ?_
 intro i hi
 refine wc_of ?_
 obtain ⟨hi, hdig⟩ := hi
 by_cases hlt : i < s.length
 ·obtain ⟨c, hc⟩ : ∃ c, s[i]? = some c := ⟨_, List.getElem?_eq_getElem hlt⟩
  have hib : FnIs Tryz.prog 121 [.d (strD hexD), .int .u8 c.toNat] [] (.int .i64 (Lib.indexByte hexD c)) [] := by
   have := ib_is (l := hexD) (c := (c.toNat : Int))
   rwa [show ((c.toNat : Int)).toNat.toUInt8 = c by simp] at this
  by_cases hneg : Lib.indexByte hexD c < 0
  ·have hd := dT hneg
   have hnone : unhexP s = none := by rw [unhexP, if_neg h45, if_neg hpos, pairs_bad s c (List.mem_of_getElem? hc) hneg]
   rw [hnone]
   refine sR ?_;refine reg_new (next_str rfl rfl (by omega)) rfl ?_;refine rC ?_;refine nQ ?_;refine wV ?_;refine kS ?_;refine wc_block ?_;refine sR ?_;iterate 2 refine rC ?_
   refine nR ?_;iterate 2 refine rC ?_
   refine rQ (index_s (l := s) (m := i) tab_ok rfl rfl rfl hc) ?_;refine rQ (call_r hib rfl rfl (arg_e (arg_e arg_nil)) (.inl rfl) (fun _ => rfl)) ?_;refine rC ?_;refine nQ ?_
   refine sR ?_;iterate 2 refine rC ?_
   refine nS ?_;refine wT ?_;refine sR ?_;iterate 2 refine rC ?_
   refine nS ?_;refine wc_ret ?_;refine seq_r ?_;refine blk_r ?_;refine loop_r ?_;refine blk_r ?_;refine seq_r ?_
   exact ⟨trivial, [], .of rfl rfl rfl rfl rfl ⟨⟨_, rfl, AVLe.tup1 (nil_arr _ _) rfl⟩, rfl, trivial⟩ trivial⟩
  ·have hd : decide (Lib.indexByte hexD c < 0) = false := dF hneg
   obtain ⟨x, hx1, hx2, hx3⟩ := uX_step hc hm
   replace hx2 : (uX m s i)[(((i / 2 : Nat) : Int)).toNat]? = some (x : Int) := by rw [Int.toNat_natCast]; exact hx2
   have hn16 := nibV_lt c
   have hwi : IntKind.i64.wrap ((i / 2 : Nat) : Int) = ((i / 2 : Nat) : Int) := wrap_i64 (by omega) (by omega)
   have hw1 : IntKind.u8.wrap ((x : Int) * 16) = ((x * 16 : Nat) : Int) := wrap_u8n (a := x * 16) (by omega)
   have hw2 : IntKind.u8.wrap (Lib.indexByte hexD c) = (nibV c : Int) := by
    rw [show Lib.indexByte hexD c = (nibV c : Int) by unfold nibV; omega]
    exact wrap_u8n (by omega)
   have hw3 : IntKind.u8.wrap (((x * 16 : Nat) : Int) + (nibV c : Int)) = ((x * 16 + nibV c : Nat) : Int) := wrap_u8n (a := x * 16 + nibV c) (by omega)
   have hlow := decode_low (i := i) hc (hexD_low (by omega))
   refine sR ?_;refine reg_new (next_str rfl rfl (by omega)) rfl ?_;refine rC ?_;refine nQ ?_;refine wV ?_;refine kS ?_;refine wc_block ?_;refine sR ?_;iterate 2 refine rC ?_
   refine nR ?_;iterate 2 refine rC ?_
   refine rQ (index_s (l := s) (m := i) tab_ok rfl rfl rfl hc) ?_;refine rQ (call_r hib rfl rfl (arg_e (arg_e arg_nil)) (.inl rfl) (fun _ => rfl)) ?_;refine rC ?_;refine nQ ?_
   refine sR ?_;iterate 2 refine rC ?_
   refine nS ?_;refine wF ?_;refine kS ?_;refine wc_region ?_;iterate 2 refine rC ?_
   refine rQ (quo_nat (a := i) (b := 2) tab_ok rfl rfl rfl (by decide) hwi) ?_;iterate 2 refine rC ?_
   refine rQ (quo_nat (a := i) (b := 2) tab_ok rfl rfl rfl (by decide) hwi) ?_;refine rQ (index_own tab_ok rfl rfl rfl rfl rfl (by omega) (by omega)) ?_;refine rQ (load_row tab_ok rfl rfl ⟨rfl, (x : Int), hx2, _, rfl, rfl⟩ rfl) ?_
   refine rQ (mul_int (m := ((x * 16 : Nat) : Int)) tab_ok rfl rfl hw1) ?_;refine rC ?_;refine rQ (conv_int (m := (nibV c : Int)) tab_ok rfl rfl rfl hw2) ?_;refine rQ (add_int (m := ((x * 16 + nibV c : Nat) : Int)) tab_ok rfl rfl hw3) ?_
   refine rQ (index_own tab_ok rfl rfl rfl rfl rfl (by omega) (by omega)) ?_;refine reg_store (store_row tab_ok rfl rfl rfl ⟨rfl, (x : Int), ((x * 16 + nibV c : Nat) : Int), hx2, ⟨rfl, rfl, rfl⟩, rfl⟩ rfl) ?_
   refine reg_nil ?_;refine blk_n ?_
   exact loop_n (i + 1) [] ⟨hlt, fun b hb => by rw [List.take_add_one, hc] at hb; rcases List.mem_append.1 hb with hb | hb; exact hdig b hb; rw [show b = c by simpa using hb]; omega⟩ (by omega) (.of rfl rfl rfl rfl rfl ⟨⟨_, rfl, .refl _⟩, rfl, ⟨_, rfl, .refl _⟩, rfl, ⟨_, rfl, .refl _⟩, rfl, trivial⟩ ⟨⟨rfl, rfl, _, rfl, RowLe.of_eq (congrArg (Row.ds 5 1 true encU8) hx3)⟩, ⟨rfl, rfl, _, rfl, RowLe.of_eq (by rw [hlow]; rfl)⟩, trivial⟩)
 ·have he : i = s.length := by omega
  obtain ⟨c, h3, h4⟩ := hbad
  have := hdig c (by rw [he, List.take_length]; exact h3)
  omega
theorem unhex_own (s : List UInt8) (m : Nat) (hm : s.length = 2 * m) (hpos : s ≠ []) (hL : s.length ≤ 1048576) (hall : ∀ c ∈ s, 0 ≤ Lib.indexByte hexD c) : FnIs Tryz.prog 137 [.d (strD s)] [] (.tup (.acons (.own 64 0 (s.length / 2) 1 none) (.acons (.bool true) .anil))) [(64, .ds 5 1 true encU8 (pairsV s))] := by
 have h45 : s ≠ [45] := fun e => by rw [e] at hm; simp at hm; omega
 have hlen : 0 < s.length := List.length_pos_iff.2 hpos
 have h0 : decide (s = [45]) = false := dF h45
 have h1 : decide ((s.length : Int) = 0) = false := dF (by omega)
 have h2 : (!decide (((s.length % 2 : Nat) : Int) = 0)) = false := by rw [show s.length % 2 = 0 by omega]; rfl
 have hm2 : m = s.length / 2 := by omega
 have hrep : m - (s.length + 1) / 2 = 0 := by omega
 have hwl : IntKind.i64.wrap ((s.length / 2 : Nat) : Int) = ((s.length / 2 : Nat) : Int) := wrap_i64 (by omega) (by omega)
 refine fnIs_of tab_ok Tryz.func137 rfl rfl rfl ?_;refine sR ?_;iterate 2 refine rC ?_
 refine nQ ?_;refine sR ?_;refine rC ?_;refine rQ (eql_s (a := s) (b := [45]) tab_ok rfl rfl rfl) ?_;refine nS ?_;refine wF ?_;refine kS ?_;refine qR ?_;refine rC ?_
 refine rQ (len_s tab_ok rfl rfl) ?_;iterate 2 refine rC ?_
 refine rO ?_;refine rC ?_;refine rO ?_;refine rQ (len_s tab_ok rfl rfl) ?_;refine rO ?_;refine rQ (rem_nat (a := s.length) (b := 2) tab_ok rfl rfl rfl (by decide)) ?_
 refine rO ?_;refine rC ?_;refine rQ iF ?_;refine nS ?_;refine wF ?_;refine kS ?_;refine sR ?_;refine rC ?_;refine rQ (len_s tab_ok rfl rfl) ?_;refine rQ (quo_nat (a := s.length) (b := 2) tab_ok rfl rfl rfl (by decide) hwl) ?_
 refine reg_new (make_full (enc := encU8) (s := 1) (N := s.length / 2) tab_ok 0 rfl rfl rfl rfl rfl rfl rfl (by omega) rfl) rfl ?_;refine rC ?_;refine nQ ?_;refine sR ?_
 refine rC ?_;refine reg_new (range_str tab_ok rfl rfl) rfl ?_;refine nS ?_;refine wc_block ?_
 refine wc_inv (fun i : Nat => ⟨[(23, .ptr 66 []), (4, .own 65 0 (s.length / 2) 1 none), (0, .d (strD s))], [(65, some (.ds 5 1 true encU8 (uX m s i))), (66, some (.si (mkS s) i))], 72, Tryz.f137.ntmps, 64⟩) (fun i => i ≤ s.length ∧ ∀ c ∈ s.take i, 0 ≤ Lib.indexByte hexD c) (fun i => s.length - i) 0 [(65, some 192), (66, some 216)] ⟨Nat.zero_le _, by simp⟩
  (.of rfl rfl rfl rfl rfl ⟨⟨_, rfl, .refl _⟩, rfl, ⟨_, rfl, .refl _⟩, rfl, ⟨_, rfl, .refl _⟩, rfl, trivial⟩ ⟨⟨rfl, rfl, _, rfl, RowLe.of_eq (by rw [uX_zero, hm2]; rfl)⟩, ⟨rfl, rfl, _, rfl, .refl _⟩, trivial⟩) ?_
 intro i hi
 refine wc_of ?_
 obtain ⟨hi, hdig⟩ := hi
 by_cases hlt : i < s.length
 ·obtain ⟨c, hc⟩ : ∃ c, s[i]? = some c := ⟨_, List.getElem?_eq_getElem hlt⟩
  have hib : FnIs Tryz.prog 121 [.d (strD hexD), .int .u8 c.toNat] [] (.int .i64 (Lib.indexByte hexD c)) [] := by
   have := ib_is (l := hexD) (c := (c.toNat : Int))
   rwa [show ((c.toNat : Int)).toNat.toUInt8 = c by simp] at this
  have hneg : ¬ Lib.indexByte hexD c < 0 := by have := hall c (List.mem_of_getElem? hc); omega
  have hd : decide (Lib.indexByte hexD c < 0) = false := dF hneg
  obtain ⟨x, hx1, hx2, hx3⟩ := uX_step hc hm
  replace hx2 : (uX m s i)[(((i / 2 : Nat) : Int)).toNat]? = some (x : Int) := by rw [Int.toNat_natCast]; exact hx2
  have hn16 := nibV_lt c
  have hwi : IntKind.i64.wrap ((i / 2 : Nat) : Int) = ((i / 2 : Nat) : Int) := wrap_i64 (by omega) (by omega)
  have hw1 : IntKind.u8.wrap ((x : Int) * 16) = ((x * 16 : Nat) : Int) := wrap_u8n (a := x * 16) (by omega)
  have hw2 : IntKind.u8.wrap (Lib.indexByte hexD c) = (nibV c : Int) := by
   rw [show Lib.indexByte hexD c = (nibV c : Int) by unfold nibV; omega]
   exact wrap_u8n (by omega)
  have hw3 : IntKind.u8.wrap (((x * 16 : Nat) : Int) + (nibV c : Int)) = ((x * 16 + nibV c : Nat) : Int) := wrap_u8n (a := x * 16 + nibV c) (by omega)
  have hlow := decode_low (i := i) hc (hexD_low (by omega))
  refine sR ?_;refine reg_new (next_str rfl rfl (by omega)) rfl ?_;refine rC ?_;refine nQ ?_;refine wV ?_;refine kS ?_;refine wc_block ?_;refine sR ?_;iterate 2 refine rC ?_
  refine nR ?_;iterate 2 refine rC ?_
  refine rQ (index_s (l := s) (m := i) tab_ok rfl rfl rfl hc) ?_;refine rQ (call_r hib rfl rfl (arg_e (arg_e arg_nil)) (.inl rfl) (fun _ => rfl)) ?_;refine rC ?_;refine nQ ?_
  refine sR ?_;iterate 2 refine rC ?_
  refine nS ?_;refine wF ?_;refine kS ?_;refine wc_region ?_;iterate 2 refine rC ?_
  refine rQ (quo_nat (a := i) (b := 2) tab_ok rfl rfl rfl (by decide) hwi) ?_;iterate 2 refine rC ?_
  refine rQ (quo_nat (a := i) (b := 2) tab_ok rfl rfl rfl (by decide) hwi) ?_;refine rQ (index_own tab_ok rfl rfl rfl rfl rfl (by omega) (by omega)) ?_;refine rQ (load_row tab_ok rfl rfl ⟨rfl, (x : Int), hx2, _, rfl, rfl⟩ rfl) ?_
  refine rQ (mul_int (m := ((x * 16 : Nat) : Int)) tab_ok rfl rfl hw1) ?_;refine rC ?_;refine rQ (conv_int (m := (nibV c : Int)) tab_ok rfl rfl rfl hw2) ?_;refine rQ (add_int (m := ((x * 16 + nibV c : Nat) : Int)) tab_ok rfl rfl hw3) ?_
  refine rQ (index_own tab_ok rfl rfl rfl rfl rfl (by omega) (by omega)) ?_;refine reg_store (store_row tab_ok rfl rfl rfl ⟨rfl, (x : Int), ((x * 16 + nibV c : Nat) : Int), hx2, ⟨rfl, rfl, rfl⟩, rfl⟩ rfl) ?_
  refine reg_nil ?_;refine blk_n ?_
  exact loop_n (i + 1) [] ⟨hlt, fun b hb => by rw [List.take_add_one, hc] at hb; rcases List.mem_append.1 hb with hb | hb; exact hdig b hb; rw [show b = c by simpa using hb]; omega⟩ (by omega) (.of rfl rfl rfl rfl rfl ⟨⟨_, rfl, .refl _⟩, rfl, ⟨_, rfl, .refl _⟩, rfl, ⟨_, rfl, .refl _⟩, rfl, trivial⟩ ⟨⟨rfl, rfl, _, rfl, RowLe.of_eq (congrArg (Row.ds 5 1 true encU8) hx3)⟩, ⟨rfl, rfl, _, rfl, RowLe.of_eq (by rw [hlow]; rfl)⟩, trivial⟩)
 ·have he : i = s.length := by omega
  subst he
  refine sR ?_;refine rQ (next_end rfl rfl (by omega)) ?_;refine rC ?_;refine nQ ?_;refine wG ?_;refine wc_exit ?_;refine seq_x ?_;refine loop_x ?_;refine blk_x ?_
  refine seq_n ?_;refine sR ?_;iterate 3 refine rC ?_
  refine nS ?_;refine wc_ret ?_
  exact ⟨trivial, [(64, some 65)], .of rfl rfl rfl rfl rfl ⟨⟨_, rfl, AVLe.of_eq rfl⟩, rfl, trivial⟩ ⟨⟨rfl, rfl, _, rfl, RowLe.of_eq (by simp only [uX, List.take_length, hrep]; simp; rfl)⟩, trivial⟩⟩
theorem unhex_is (s : List UInt8) (hL : s.length ≤ 1048576) : FnIs Tryz.prog 137 [.d (strD s)] [] (unR (unhexP s)) [] := by
 by_cases hpos : s = []
 ·exact unhex_empty s hpos
 by_cases hodd : s.length % 2 = 1
 ·have := unhex_odd s hodd
  rwa [show unhexP s = if s = [45] then some [] else none by rw [unhexP, if_neg hpos, pairs_odd s hodd]]
 have hm : s.length = 2 * (s.length / 2) := by omega
 by_cases hall : ∀ c ∈ s, 0 ≤ Lib.indexByte hexD c
 ·obtain ⟨t, h1, h2⟩ := pairs_some s (by omega) hall
  have h45 : s ≠ [45] := fun e => by rw [e] at hodd; simp at hodd
  have hu : unhexP s = some t := by rw [unhexP, if_neg h45, if_neg hpos, h1]
  have := unhex_own s _ hm hpos hL hall
  rw [hu]
  rw [← h2] at this
  exact this.freeze_out 64 _ rfl (Frz.tup (.cons (Frz.own (by rw [show (some t).getD [] = t from rfl, h2, pv_len]; omega)) (.cons (.refl _) .nil))) trivial
 ·have hbad : ∃ c ∈ s, Lib.indexByte hexD c < 0 := by
   simp only [Classical.not_forall] at hall
   obtain ⟨c, h1, h2⟩ := hall
   exact ⟨c, h1, by omega⟩
  exact unhex_bad s _ hm hpos hL hbad
end Go.Proofs.YthiijfbcfoifnaaGreatDoor
namespace Go.Plain
open Go.Eng Go.Lib
theorem dec_len10 : ∀ (k u : Nat), u < 10 ^ (k + 1) → (decDigits u).length ≤ k + 1
 | 0, u, h => by
  rw [decDigits, dif_pos (by simpa using h)]
  simp
 | k + 1, u, h => by
  rw [decDigits]
  split
  ·simp
  ·have h2 : u / 10 < 10 ^ (k + 1) := by
    rw [Nat.div_lt_iff_lt_mul (by decide), ← Nat.pow_succ]
    exact h
   have := dec_len10 k (u / 10) h2
   simp only [List.length_append, List.length_cons, List.length_nil]
   omega
theorem itoa_len {n : Int} (h0 : -9223372036854775808 ≤ n) (h1 : n ≤ 9223372036854775807) : (itoa n).length ≤ 20 := by
 rw [itoa]
 split
 ·have := dec_len10 18 n.natAbs (by omega)
  simp only [List.length_cons]
  omega
 ·have := dec_len10 18 n.toNat (by omega)
  omega
theorem hexP_len (l : List UInt8) : (hexP l).length ≤ 2 * l.length + 1 := by
 rw [hexP]
 split
 ·simp
 ·rw [hexB_len]; omega
theorem line_len {o : POp} (h : o.Ok) : (lineP o).length ≤ 50 + 2 * o.data.length := by
 obtain ⟨⟨k0, k1⟩, i0, i1⟩ := h
 have h1 := itoa_len i0 i1
 have h2 := itoa_len (n := o.kind) (by omega) (by omega)
 have h3 := hexP_len o.data
 rw [lineP]
 split
 ·simp only [List.length_append, List.length_cons, sRead, List.length_nil]; omega
 ·split
  ·simp only [List.length_append, List.length_cons, sWrite, List.length_nil]; omega
  ·split
   ·simp only [sFlush, List.length_cons, List.length_nil]; omega
   ·simp only [List.length_append, List.length_cons, sOp, List.length_nil]; omega
theorem ops_len {D : Nat} : ∀ (p : List POp), (∀ o ∈ p, o.Ok ∧ o.data.length ≤ D) → (opsT p).length ≤ (51 + 2 * D) * p.length
 | [], _ => by simp [opsT]
 | o :: p, h => by
  have ih := ops_len p fun x hx => h x (by simp [hx])
  obtain ⟨h1, h2⟩ := h o (by simp)
  have h3 := line_len h1
  simp only [opsT, List.flatMap_cons, List.length_append, List.length_cons, List.length_nil] at ih ⊢
  rw [Nat.mul_add]
  omega
theorem text_len {D N : Nat} : ∀ (l : List (List POp)), (∀ p ∈ l, p.length ≤ N ∧ ∀ o ∈ p, o.Ok ∧ o.data.length ≤ D) → (textP l).length ≤ (7 + (51 + 2 * D) * N) * l.length
 | [], _ => by simp [textP]
 | p :: l, h => by
  have ih := text_len l fun x hx => h x (by simp [hx])
  obtain ⟨h1, h2⟩ := h p (by simp)
  have h3 := ops_len p h2
  have h4 : (51 + 2 * D) * p.length ≤ (51 + 2 * D) * N := Nat.mul_le_mul_left _ h1
  simp only [textP, List.flatMap_cons, List.length_append, List.length_cons, sClient, List.length_nil] at ih ⊢
  rw [Nat.mul_add]
  omega
end Go.Plain
