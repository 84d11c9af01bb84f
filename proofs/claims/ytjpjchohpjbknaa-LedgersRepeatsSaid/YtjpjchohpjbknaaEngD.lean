/- The engine: ways that meet again, arrays as slices, memory that is given up. -/
import Derived.Test.YtjpjchohpjbknaaEngC
import Derived.Test.YtjpjchohpjbknaaEngB
import Derived.Laws.BytesString
import Derived.Laws.Strings

set_option linter.unusedVariables false
set_option linter.unusedSimpArgs false

/- Ways that part and meet again. -/
namespace Go.Eng
open Go.RowKit
section
variable {P : Program} {sz : Nat} {env : Env} {h : Upds} {n : Nat} {Q : Exit → St → Prop} {st : St}
universe u
def MidQ {α : Type u} (mk : α → St) (Inv : α → Prop) (Q : Exit → St → Prop) (e : Exit) (st : St) : Prop := match e with
  | .normal => ∃ a l, Inv a ∧ Le l st (mk a)
  | e => Q e st
theorem wc_mid {α : Type u} (mk : α → St) (Inv : α → Prop) {x y : Code} (hx : WC P sz x (MidQ mk Inv Q) env h n) (hy : ∀ a, Inv a → Sat P y Q (mk a)) : WC P sz (.seq x y) Q env h n := by
  refine wc_seq (Sat.mono ?_ hx)
  intro e st hq
  cases e with
  | normal => obtain ⟨a, l, h1, h2⟩ := hq; exact Sat.le l h2 (hy a h1)
  | _ => exact hq
variable {α : Type u} {mk : α → St} {Inv : α → Prop}
theorem mid_n (a : α) (l : Names) (h1 : Inv a) (h2 : Le l st (mk a)) : MidQ mk Inv Q .normal st := ⟨a, l, h1, h2⟩
theorem mid_r (h : Q .ret st) : MidQ mk Inv Q .ret st := h
theorem mid_x {i : Nat} (h : Q (.exit i) st) : MidQ mk Inv Q (.exit i) st := h
end
end Go.Eng

/- A value told otherwise; arrays that are written out. -/
namespace Go.Eng
open Go.RowKit
section
variable {P : Program} {T : Tab} {env : Env} {h : Upds} {n : Nat}
theorem StepIs.val_le {op : Op} {x y : D} {u : Upds} (hs : StepIs P op env h n (some (.d x)) u) (hle : DLe x y) (hag : x.isAgg = y.isAgg) : StepIs P op env h n (some (.d y)) u := by
  intro C G st σ w a o ho hA hd hst hn hbs next Q hnext
  refine hs C G st σ w a o ho hA hd hst hn hbs next Q fun z w' σ' G' g1 g2 g3 => hnext z w' σ' G' ?_ g2 g3
  refine ⟨?_, ?_, g1.rows, g1.rowsG, g1.inj, g1.high, g1.size, g1.below, g1.defers, g1.sz, g1.x0, g1.agree, g1.baseG, g1.bs, g1.rok⟩
  · intro i v hv
    cases hdst : o.dst with
    | none =>
      rw [hdst] at hv
      have := g1.env i v (by rw [hdst]; exact hv)
      rw [hdst] at this
      exact this
    | some d =>
      rw [hdst] at hv
      simp only [St.put, Option.getD_some, lk_cons] at hv
      split at hv
      · rename_i e
        subst e
        cases hv
        obtain ⟨q, hq1, hq2⟩ := g1.env d (.d x) (by rw [hdst]; simp [St.put, lk_cons])
        rw [hdst] at hq1 hq2
        refine ⟨q, hq1, ?_⟩
        unfold RelV at hq2 ⊢
        by_cases hy : y.isAgg = true
        · rw [if_pos (show (AV.d x).isAgg = true from hag.trans hy)] at hq2
          rw [if_pos (show (AV.d y).isAgg = true from hy)]
          obtain ⟨cs, hcs, he⟩ := hq2
          exact ⟨cs, hcs, hle _ _ _ he⟩
        · rw [if_neg (show ¬ (AV.d x).isAgg = true from fun e => hy (hag.symm.trans e))] at hq2
          rw [if_neg (show ¬ (AV.d y).isAgg = true from hy)]
          exact hle _ _ _ hq2
      · rename_i e
        have := g1.env i v (by rw [hdst]; simp only [St.put, Option.getD_some, lk_cons]; rw [if_neg e]; exact hv)
        rw [hdst] at this
        exact this
  · intro i v hv
    cases hdst : o.dst with
    | none => rw [hdst] at hv; exact g1.envG i v (by rw [hdst]; exact hv)
    | some d =>
      rw [hdst] at hv
      simp only [St.put, Option.getD_some, lk_cons] at hv
      split at hv
      · cases hv; trivial
      · rename_i e
        exact g1.envG i v (by rw [hdst]; simp only [St.put, Option.getD_some, lk_cons]; rw [if_neg e]; exact hv)
/-- A written-out chain of cells is an array. -/
theorem DLe.chain_vec {α : Type} {enc : α → D} {s : Nat} (hsz : ∀ (w : World) (X : Nat → Prop) (x : α) (cs : List Value), Enc w X (enc x) cs → cs.length = s) : ∀ (xs : List α), ∀ (d : D), d = (xs.foldr (fun x r => D.cons (enc x) r) .nil) → DLe d (.vec xs.length s enc xs)
  | [], d, hd => by
    subst hd
    intro w X cs h
    exact ⟨rfl, fun _ => [], fun i h => absurd h (Nat.not_lt_zero _), h⟩
  | x :: xs, d, hd => by
    subst hd
    rintro w X cs ⟨c1, c2, rfl, h1, h2⟩
    obtain ⟨-, f, hf, hc⟩ := DLe.chain_vec hsz xs _ rfl w X c2 h2
    refine ⟨rfl, fun i => match i with | 0 => c1 | j + 1 => f j, fun i hi => ?_, ?_⟩
    · cases i with
      | zero => exact ⟨h1, hsz w X x c1 h1⟩
      | succ j => exact hf j (by simpa using hi)
    · subst hc
      have h3 := cat_add (f := fun i => match i with | 0 => c1 | j + 1 => f j) 1 xs.length
      rw [show (x :: xs).length = 1 + xs.length by simp [Nat.add_comm], h3]
      congr 1
      exact cat_congr _ fun i _ => by rw [Nat.add_comm]
end
end Go.Eng

/- append onto an empty slice that is not owned. -/
namespace Go.Eng
open Go.RowKit
section
variable {C : Ctx} {w w' : World} {G : Nat → Prop} {st : St} {σ : Place} {a : Act}
/-- A new row in a new block. -/
theorem StRel.freshBy (h : StRel C G st σ w a) {n : Nat} (hn : ¬ G n) (hg : w.grownBy w' none) {b c : Nat} (hb : w.heap.size ≤ b) (row : Row) (hw : row.within G)
    (hrow : ∀ (σ' : Place) (X' : Nat → Prop), (∀ (x : AV) (m : Bool) (l : List Value), x.within G → Rel σ w (st.X C.X0 σ) x m l → Rel σ' w' X' x m l) → (∀ (x : D) (l : List Value), Enc w (st.X C.X0 σ) x l → Enc w' X' x l) →
      σ' n = some (b, c) → RowRel σ' w' X' n row) :
    StRel C (fun q => G q ∨ q = n) (st.upd [(n, some row)]) (fun q => if q = n then some (b, c) else σ q) w' a := by
  have hne : ∀ q, G q → q ≠ n := fun q hq e => hn (e ▸ hq)
  have hold : ∀ q row', st.row q = some row' → ∀ b c', σ q = some (b, c') → b < w.heap.size := fun q row' hq b c' hs => h.lt hq hs
  have hno : ∀ k : Nat, (some k : Option Nat) ≠ none := fun k e => by cases e
  have hX : ∀ q, (st.upd [(n, some row)]).X C.X0 (fun q => if q = n then some (b, c) else σ q) q → st.X C.X0 σ q ∨ w.heap.size ≤ q := by
    rintro q (hx0 | ⟨r1, row1, c1, h1, h2⟩)
    · exact .inl (.inl hx0)
    rw [St.row_one] at h1
    by_cases e : r1 = n
    · subst e
      simp only [if_true, Option.some.injEq, Prod.mk.injEq] at h2
      rw [← h2.1]
      exact .inr hb
    · rw [if_neg (Ne.symm e)] at h1
      simp only [if_neg e] at h2
      exact .inl (.inr ⟨r1, row1, c1, h1, h2⟩)
  have hσ : ∀ q, G q → ((fun q => if q = n then some (b, c) else σ q) : Place) q = σ q := fun q hq => by simp [hne q hq]
  have hk : ∀ (a : Addr) (u : Value), w.cell? a = some u → ¬ st.X C.X0 σ a.block → w'.cell? a = some u ∧ ¬ (st.upd [(n, some row)]).X C.X0 (fun q => if q = n then some (b, c) else σ q) a.block := by
    intro a u h1 h2
    have hlt := World.block_lt_of_cell? w a h1
    refine ⟨?_, fun hx => ?_⟩
    · rw [World.cell?_of_block (hg.block _ hlt (hno _))]
      exact h1
    · rcases hX _ hx with hx | hx
      · exact h2 hx
      · omega
  refine h.core (fun r hr => .inl hr) hσ hk rfl rfl rfl ?_ ?_ ?_ (Nat.le_trans h.size hg.size) ?_
  · intro q row' hq
    rw [St.row_one] at hq
    split at hq
    · rename_i e
      subst e
      simp only [Option.some.injEq] at hq
      subst hq
      refine .inr ⟨.inr rfl, ?_, hrow _ _ (fun x m l hx => Rel.mono hσ hk x m l hx) (fun x l => Enc.mono hk x l) (by simp)⟩
      cases row with
      | box t x => exact AV.within.mono (fun r hr => .inl hr) x hw
      | ds => trivial
      | lits t s k ex x => exact AV.within.mono (fun r hr => .inl hr) x hw
      | mo x => exact AV.within.mono (fun r hr => .inl hr) x hw
    · exact .inl ⟨hq, fun b1 c1 hs => hg.block _ (hold _ _ hq _ _ hs) (hno _)⟩
  · intro r1 r2 row1 row2 b1 c1 c2 h1 h2 h3 h4
    rw [St.row_one] at h1 h2
    have key : ∀ q row1 c1, q ≠ n → (if n = q then some row else st.row q) = some row1 → σ q = some (b, c1) → False := by
      intro q row1 c1 hq h1 h3
      rw [if_neg (Ne.symm hq)] at h1
      have := hold _ _ h1 _ _ h3; omega
    by_cases e1 : r1 = n <;> by_cases e2 : r2 = n
    · rw [e1, e2]
    · simp only [e1, if_true, Option.some.injEq, Prod.mk.injEq] at h3
      simp only [if_neg e2] at h4
      rw [← h3.1] at h4
      exact (key _ _ _ e2 h2 h4).elim
    · simp only [e2, if_true, Option.some.injEq, Prod.mk.injEq] at h4
      simp only [if_neg e1] at h3
      rw [← h4.1] at h3
      exact (key _ _ _ e1 h1 h3).elim
    · rw [if_neg (Ne.symm e1)] at h1
      rw [if_neg (Ne.symm e2)] at h2
      simp only [if_neg e1] at h3
      simp only [if_neg e2] at h4
      exact h.inj _ _ _ _ _ _ _ h1 h2 h3 h4
  · intro r1 row1 b1 c1 h1 h2
    rw [St.row_one] at h1
    by_cases e : r1 = n
    · simp only [e, if_true, Option.some.injEq, Prod.mk.injEq] at h2
      rw [← h2.1]
      have := h.size
      exact .inl (by omega)
    · rw [if_neg (Ne.symm e)] at h1
      simp only [if_neg e] at h2
      exact h.high _ _ _ _ h1 h2
  · have hsz := h.size
    exact ⟨hg.os, hg.tape, hg.output, hg.size, fun k hk' hm => hg.block k (by omega) (hno _), fun k o ho hbk => (hg.block k (Array.getElem?_eq_some_iff.1 ho).1 (hno _)).trans ho⟩
end
section
variable {P : Program} {T : Tab} {sz : Nat} {env : Env} {h : Upds} {n : Nat}
/-- What stands before the appended, where there is no room for more: it is read and copied. -/
def OldIs {α : Type} (s : Nat) (enc : α → D) (xs : List α) (more : Nat) (w : World) (X : Nat → Prop) (u : Value) : Prop :=
  ∃ (ax : Option Addr) (c : Nat) (f : Nat → List Value), u = .slice ax xs.length c ∧ c < xs.length + more ∧ (ax = none → xs = [] ∧ c = 0) ∧ (∀ i (h : i < xs.length), Enc w X (enc xs[i]) (f i) ∧ (f i).length = s) ∧
    ∀ ad, ax = some ad → ∀ j v, (cat f xs.length)[j]? = some v → w.cell? (ad.add j) = some v
/-- append, always into new memory. -/
theorem append_fresh (hT : TabOk P T) {t e : Nat} {re : TyR} {s : Nat} {α : Type} {enc : α → D} {xs ys : List α} {x y : Operand} (ht : tdesc T t = some (.slice e)) (he : lk T e = some re) (hs : re.size = s)
    (hys : 0 < ys.length) (hlen : xs.length + ys.length ≤ maxLen) (hbytes : (xs.length + ys.length) * re.bytes ≤ 140737488355328)
    (hold : ∀ (C : Ctx) (G : Nat → Prop) (st : St) (σ : Place) (w : World) (a : Act), Agree env h st → StRel C G st σ w a → OldIs s enc xs ys.length w (st.X C.X0 σ) (a.eval x))
    (hsrc : ∀ (C : Ctx) (G : Nat → Prop) (st : St) (σ : Place) (w : World) (a : Act), Agree env h st → StRel C G st σ w a → SrcIs s enc ys w (st.X C.X0 σ) (a.eval y)) :
    StepIs P (.call { callee := .builtin .append, args := #[x, y], argTypes := #[t, t] }) env h n (some (.own n 0 (xs.length + ys.length) s none)) [(n, some (.ds e s false enc (xs ++ ys)))] := .of_comes fun C G st σ w a o ho hA hd hst hn => by
  obtain ⟨ax, c0, f, hax, hc0, hnone, hf, hfc⟩ := hold C G st σ w a hA hst
  obtain ⟨ad, c1, g, hu, hg, hgc⟩ := hsrc C G st σ w a hA hst
  obtain ⟨i, z, hi, hi1, hi2, hi3, hi4⟩ := (hT e re he).info
  obtain ⟨ud, hud, hdd⟩ := tdesc_und hT ht
  cases hdd
  have hz : z.cells.size = s := by
    have h1 := Enc.len _ _ (Enc.closed w (fun _ => False) _ (hT e re he).zero)
    rw [hi4] at h1
    simpa [(hT e re he).zsize, hs] using h1
  have hnn : ¬ G n := hn n (Nat.le_refl _) (by omega)
  have hgl : (cat g ys.length).length = ys.length * s := cat_len _ fun i hi => (hg i hi).2
  have hfl : (cat f xs.length).length = xs.length * s := cat_len _ fun i hi => (hf i hi).2
  have fin : ∀ (c : Nat) (cur : Array Value) (w' : World), w.grownBy w' none → w'.heap[w.heap.size]? = some (.cells cur e (0, 0)) → cur.size = c * s → xs.length + ys.length ≤ c → c ≤ maxLen →
      cur.toList.take ((xs.length + ys.length) * s) = cat f xs.length ++ cat g ys.length →
      (Builtin.append_ #[t, t] o.type #[a.eval x, a.eval y]).run P w = .ok (.slice (some ⟨w.heap.size, 0, none⟩) (xs.length + ys.length) c) w' →
      Comes1 P C G st n o a w (fun v' u' => v' = some (.own n 0 (xs.length + ys.length) s none) ∧ u' = [(n, some (.ds e s false enc (xs ++ ys)))]) := by
    rintro c cur w' hgr hh hcs hle hcm htk hrun
    obtain ⟨F, hF, hFc⟩ := join_cells hf hg
    have hsw := hst.freshBy hnn hgr (b := w.heap.size) (c := c) (Nat.le_refl _) (.ds e s false enc (xs ++ ys)) trivial (fun σ' X' hk1 hk2 hσn => by
      exact .inr ⟨w.heap.size, c, cur, hσn, (fun e => nomatch e), hh, hcs, by simpa using hle, hcm, F, fun i hi => ⟨hk2 _ _ (hF i hi).1, (hF i hi).2⟩, by rw [hFc, List.length_append]; exact htk⟩)
    have hval : RelV (fun q => if q = n then some (w.heap.size, c) else σ q) w' ((st.upd [(n, some (.ds e s false enc (xs ++ ys)))]).X C.X0 (fun q => if q = n then some (w.heap.size, c) else σ q)) (.own n 0 (xs.length + ys.length) s none) (.slice (some ⟨w.heap.size, 0, none⟩) (xs.length + ys.length) c) :=
      RelV.own.2 (.inr ⟨w.heap.size, c, ⟨w.heap.size, 0, none⟩, by simp, by simp, by simpa using hle, by simp, by simpa using hle, fun _ => by simp⟩)
    refine ⟨_, _, .value (.slice (some ⟨w.heap.size, 0, none⟩) (xs.length + ys.length) c), _, w', _, fun q => G q ∨ q = n, ⟨rfl, rfl⟩, ?_, .inl rfl, by rw [St.put_upd]; exact hsw.set hd hval (.inr rfl), fun r hr => Or.inl hr, fun r hr => Or.imp id (fun h => ⟨by omega, by omega⟩) hr⟩
    simp [execOp, ho, resolve, invoke, builtin, hrun]
  cases ax with
  | none =>
    obtain ⟨rfl, rfl⟩ := hnone rfl
    simp only [List.length_nil, Nat.zero_add] at hlen hbytes fin hax
    have hrun := run_append_nil (P := P) w t o.type e i z hud hi hi3 ad ys.length c1 (cat g ys.length) (by rw [hgl, hi1, hs]) hgc hys (by simp only [maxLen] at hlen; omega) (by rw [hi2]; exact Nat.le_trans hbytes (by decide))
    simp only [List.length_nil, Nat.zero_add]
    refine fin (grownCap w ys.length 0 e) ((cat g ys.length).toArray ++ Builtin.zeroCells z.cells (grownCap w ys.length 0 e - ys.length)) _ (grown_fresh w _ _) (heap_alloc_new w.drew _) ?_ ?_ (grownCap_le_maxLen w ys.length 0 e hlen) ?_ (by rw [hax, hu, hrun])
    · have hge := grownCap_ge w ys.length 0 e
      simp only [Array.size_append, List.size_toArray, size_zeroCells, hz, hgl, ← Nat.add_mul]
      congr 1; omega
    · exact grownCap_ge w ys.length 0 e
    · simp only [Array.toList_append, cat, List.nil_append]
      rw [← hgl]
      exact List.take_left
  | some a' =>
    have hrun := run_append_grow (P := P) w t o.type e i z hud hi hi3 a' xs.length c0 (cat f xs.length) (by rw [hfl, hi1, hs]) (hfc a' rfl) ad ys.length c1 (cat g ys.length) (by rw [hgl, hi1, hs]) hgc hc0 (by simp only [maxLen] at hlen; omega) (growslice_fits hc0 (by rw [hi2]; exact hbytes))
    refine fin _ _ _ (grown_fresh w _ _) (heap_alloc_new w.drew _) ?_ (grownCap_ge w _ c0 e) (grownCap_le_maxLen w _ c0 e hlen) ?_ (by rw [hax, hu, hrun])
    · have hge := grownCap_ge w (xs.length + ys.length) c0 e
      simp only [Array.size_append, List.size_toArray, List.length_append, size_zeroCells, hz, hgl, hfl, ← Nat.add_mul]
      congr 1; omega
    · simp only [Array.toList_append]
      have : (xs.length + ys.length) * s = (cat f xs.length ++ cat g ys.length).length := by rw [List.length_append, hfl, hgl, Nat.add_mul]
      rw [this]
      exact List.take_left
/-- append(empty, l...): new memory. -/
theorem append_empty (hT : TabOk P T) {t e : Nat} {re : TyR} {s : Nat} {α : Type} {enc : α → D} {ys : List α} {x y : Operand} {v : AV} (ht : tdesc T t = some (.slice e)) (he : lk T e = some re) (hs : re.size = s)
    (hx : evalA env x = some v) (hv : v = .empty ∨ v = .d (.sc (.slice none 0 0))) (hys : 0 < ys.length) (hlen : ys.length ≤ maxLen) (hbytes : ys.length * re.bytes ≤ 140737488355328)
    (hsrc : ∀ (C : Ctx) (G : Nat → Prop) (st : St) (σ : Place) (w : World) (a : Act), Agree env h st → StRel C G st σ w a → SrcIs s enc ys w (st.X C.X0 σ) (a.eval y)) :
    StepIs P (.call { callee := .builtin .append, args := #[x, y], argTypes := #[t, t] }) env h n (some (.own n 0 ys.length s none)) [(n, some (.ds e s false enc ys))] := by
  have := append_fresh (n := n) hT (xs := []) ht he hs hys (by simpa using hlen) (by simpa using hbytes) (x := x) (fun C G st σ w a hA hst => by
    obtain ⟨hx1, hx2⟩ := ev_sound hst (hA.ev hx)
    rcases hv with rfl | rfl
    · unfold RelV at hx1
      rw [if_neg (by simp [AV.isAgg])] at hx1
      obtain ⟨ax, hax⟩ := hx1
      exact ⟨ax, 0, fun _ => [], by simpa using hax, by simpa using hys, fun _ => ⟨rfl, rfl⟩, fun i hi => by simp at hi, fun _ _ j v hj => by simp [cat] at hj⟩
    · obtain ⟨hx3, _⟩ := RelV.sc.1 hx1
      exact ⟨none, 0, fun _ => [], hx3, by simpa using hys, fun _ => ⟨rfl, rfl⟩, fun i hi => by simp at hi, fun _ _ j v hj => by simp [cat] at hj⟩) hsrc
  simpa using this
end
end Go.Eng

/- slices.Clone and slices.Clip: s[:0:0], s[:len(s):len(s)]. -/
namespace Go.Eng
open Go.RowKit
section
variable {P : Program} {T : Tab} {sz : Nat} {env : Env} {h : Upds} {n : Nat}
/-- 's[:0:0]'. -/
theorem slice_00 (hT : TabOk P T) {t e : Nat} {re : TyR} {x i j : Operand} {α : Type} {s : Nat} {enc : α → D} {xs : List α} {k k' : IntKind} (ht : tdesc T t = some (.slice e)) (he : lk T e = some re)
    (hx : evalA env x = some (.d (.arr s enc xs))) (hi : evalA env i = some (.int k 0)) (hj : evalA env j = some (.int k' 0)) : StepIs P (.slice t x none (some i) (some j)) env h n (some .empty) [] := .of_comes fun C G st σ w a o ho hA hdst hst hn => by
  obtain ⟨ud, hud, hdd⟩ := tdesc_und hT ht
  cases hdd
  obtain ⟨hx1, _⟩ := ev_sound hst (hA.ev hx)
  obtain ⟨hi1, _⟩ := RelV.sc.1 (ev_sound hst (hA.ev hi)).1
  obtain ⟨hj1, _⟩ := RelV.sc.1 (ev_sound hst (hA.ev hj)).1
  have hsz := (hT e re he).run_size (P := P)
  have hem : ∀ ad, RelV σ w (st.X C.X0 σ) .empty (.slice ad 0 0) := fun ad => by unfold RelV; rw [if_neg (by simp [AV.isAgg])]; exact ⟨ad, rfl⟩
  rcases RelV.arr.1 hx1 with ⟨rfl, hv⟩ | ⟨ad, c, hv, hc1, hc2, f, hf⟩
  · refine .quiet (u := .slice none 0 0) hst hdst ⟨rfl, rfl⟩ ?_ (hem _) trivial
    simp [execOp, ho, Instr.sliceAt, Instr.slice, hv, hi1, hj1, run_underlying hud, Instr.sliceBounds, Instr.sliceBound, asIntOf, hsz, Sem.run_bind, Sem.run_pure, Result.andThen_ok]
  · refine .quiet (u := .slice (some ad) 0 0) hst hdst ⟨rfl, rfl⟩ ?_ (hem _) trivial
    simp [execOp, ho, Instr.sliceAt, Instr.slice, hv, hi1, hj1, run_underlying hud, Instr.sliceBounds, Instr.sliceBound, asIntOf, hsz, Sem.run_bind, Sem.run_pure, Result.andThen_ok, Addr.add_zero']
/-- 's[:len(s):len(s)]' of an owned slice. -/
theorem slice_clip (hT : TabOk P T) {t e r len : Nat} {re : TyR} {x i j : Operand} {s : Nat} {k k' : IntKind} (ht : tdesc T t = some (.slice e)) (he : lk T e = some re)
    (hx : evalA env x = some (.own r 0 len s none)) (hi : evalA env i = some (.int k len)) (hj : evalA env j = some (.int k' len)) : StepIs P (.slice t x none (some i) (some j)) env h n (some (.own r 0 len s (some len))) [] := .of_comes fun C G st σ w a o ho hA hdst hst hn => by
  obtain ⟨ud, hud, hdd⟩ := tdesc_und hT ht
  cases hdd
  obtain ⟨hx1, hx2⟩ := ev_sound hst (hA.ev hx)
  obtain ⟨hi1, _⟩ := RelV.sc.1 (ev_sound hst (hA.ev hi)).1
  obtain ⟨hj1, _⟩ := RelV.sc.1 (ev_sound hst (hA.ev hj)).1
  have hsz := (hT e re he).run_size (P := P)
  rcases RelV.own.1 hx1 with ⟨hσ, h1, h2, h3, hv⟩ | ⟨b, c, ad, hσ, hv, h1, h2, h3, h4⟩
  · subst h2
    refine .quiet (u := .slice none 0 0) hst hdst ⟨rfl, rfl⟩ ?_ (RelV.own.2 (.inl ⟨hσ, rfl, rfl, rfl, rfl⟩)) hx2
    simp [execOp, ho, Instr.sliceAt, Instr.slice, hv, hi1, hj1, run_underlying hud, Instr.sliceBounds, Instr.sliceBound, asIntOf, hsz, Sem.run_bind, Sem.run_pure, Result.andThen_ok]
  · simp only [Option.getD_none, Nat.sub_zero, Nat.zero_add] at hv h1 h2 h3
    refine .quiet (u := .slice (some ad) len len) hst hdst ⟨rfl, rfl⟩ ?_ (RelV.own.2 (.inr ⟨b, c, ad, hσ, rfl, by simpa using h1, by simpa using h1, by simp, h4⟩)) hx2
    have hle : (len : Int) ≤ (c : Int) := by omega
    simp [execOp, ho, Instr.sliceAt, Instr.slice, hv, hi1, hj1, run_underlying hud, Instr.sliceBounds, Instr.sliceBound, asIntOf, hsz, Sem.run_bind, Sem.run_pure, Result.andThen_ok, h1, Addr.add_zero']
/-- cap of a slice whose cap is told. -/
theorem cap_own (hT : TabOk P T) {t e r off len s m : Nat} {x : Operand} (ht : tdesc T t = some (.slice e)) (hx : evalA env x = some (.own r off len s (some m))) :
    StepIs P (.call { callee := .builtin .cap, args := #[x], argTypes := #[t] }) env h n (some (.int .i64 m)) [] := .of_comes fun C G st σ w a o ho hA hd hst hn => by
  obtain ⟨ud, hud, hdd⟩ := tdesc_und hT ht
  cases hdd
  obtain ⟨hx1, _⟩ := ev_sound hst (hA.ev hx)
  have hv : ∃ b l, a.eval x = .slice b l m := by
    rcases RelV.own.1 hx1 with ⟨_, _, _, hm, hv⟩ | ⟨b, c, ad, _, hv, _⟩
    · simp only [Option.getD_some] at hm
      subst hm
      exact ⟨_, _, hv⟩
    · exact ⟨_, _, hv⟩
  obtain ⟨b, l, hv⟩ := hv
  refine .quiet (u := goInt m) hst hd ⟨rfl, rfl⟩ ?_ (RelV.sc.2 ⟨rfl, rfl⟩) trivial
  simp [execOp, ho, resolve, invoke, builtin, Builtin.cap_, hv, run_underlying hud, goInt]
/-- append(empty, l...), l only read. -/
theorem append_empty_arr (hT : TabOk P T) {t e : Nat} {re : TyR} {s : Nat} {α : Type} {enc : α → D} {ys : List α} {x y : Operand} (ht : tdesc T t = some (.slice e)) (he : lk T e = some re) (hs : Nat.beq re.size s = true) (hs0 : Nat.blt 0 s = true)
    {v : AV} (hx : evalA env x = some v) (hv : v = .empty ∨ v = .d (.sc (.slice none 0 0))) (hy : evalA env y = some (.d (.arr s enc ys))) (hys : 0 < ys.length) (hlen : ys.length ≤ 1048576) (hbytes : Nat.ble re.bytes 134217728 = true) :
    StepIs P (.call { callee := .builtin .append, args := #[x, y], argTypes := #[t, t] }) env h n (some (.own n 0 ys.length s none)) [(n, some (.ds e s false enc ys))] := by
  have hs0 := Nat.le_of_ble_eq_true hs0
  have hb := Nat.le_of_ble_eq_true hbytes
  refine append_empty hT ht he (Nat.eq_of_beq_eq_true hs) hx hv hys (by simp only [maxLen]; omega) ?_ ?_
  · have : ys.length * re.bytes ≤ 1048576 * 134217728 := Nat.mul_le_mul hlen hb
    omega
  · intro C G st σ w a hA hst
    obtain ⟨hy1, _⟩ := ev_sound hst (hA.ev hy)
    rcases RelV.arr.1 hy1 with ⟨rfl, _⟩ | ⟨ad, c, hv, _, _, f, hf⟩
    · simp at hys
    · refine ⟨ad, c, f, hv, fun i hi => ⟨(hf i hi).1, (hf i hi).2.1⟩, fun j u hj => ?_⟩
      have hjl := (List.getElem?_eq_some_iff.1 hj).1
      rw [cat_len _ fun i hi => (hf i hi).2.1] at hjl
      have hi : j / s < ys.length := Nat.div_lt_of_lt_mul (by rw [Nat.mul_comm]; exact hjl)
      have hm : j % s < s := Nat.mod_lt _ hs0
      have hj2 : j / s * s + j % s = j := by rw [Nat.mul_comm]; exact Nat.div_add_mod j s
      have := cat_get ys.length (fun i hi => (hf i hi).2.1) (j / s) (j % s) hi hm
      rw [hj2, hj] at this
      have := ((hf _ hi).2.2 (j % s) u this.symm).1
      rwa [hj2] at this
end
end Go.Eng

/- Owned memory that is given up: from then on it is only read. -/
namespace Go.Eng
open Go.RowKit
/-- What is known of a still holds as a' when row r is given up. -/
def Frz (r : Nat) (row : Row) (a a' : AV) : Prop :=
  a'.isAgg = a.isAgg ∧ (a.flat = true → a'.flat = true) ∧ (∀ G : Nat → Prop, a.within G → a'.within G) ∧
    ∀ (σ : Place) (w : World) (X X' : Nat → Prop), (∀ b, X' b → X b) → (∀ b c, σ r = some (b, c) → ¬ X' b) → RowRel σ w X r row → ∀ cs, Rel σ w X a false cs → Rel σ w X' a' false cs
def FrzR (r : Nat) (row x x' : Row) : Prop :=
  (∀ G : Nat → Prop, x.within G → x'.within G) ∧
    ∀ (σ : Place) (w : World) (X X' : Nat → Prop) (q : Nat), (∀ b, X' b → X b) → (∀ b c, σ r = some (b, c) → ¬ X' b) → RowRel σ w X r row → RowRel σ w X q x → RowRel σ w X' q x'
section
variable {r : Nat} {row : Row}
theorem Frz.refl (a : AV) : Frz r row a a :=
  ⟨rfl, fun h => h, fun _ h => h, fun _ _ _ _ hx _ _ cs h => Rel.mono (G := fun _ => True) (fun _ _ => rfl) (fun _ _ h1 h2 => ⟨h1, fun h => h2 (hx _ h)⟩) a false cs a.within_all h⟩
theorem Frz.cons {a b x y : AV} (h1 : Frz r row a x) (h2 : Frz r row b y) : Frz r row (.acons a b) (.acons x y) := by
  refine ⟨rfl, fun h => ?_, fun G g => ⟨h1.2.2.1 G g.1, h2.2.2.1 G g.2⟩, fun σ w X X' hx hn hr cs h => ?_⟩
  · simp only [AV.flat] at h ⊢
    cases ha : a.flat <;> simp [ha] at h
    rw [h1.2.1 ha, h2.2.1 h]
    rfl
  · obtain ⟨c1, c2, rfl, g1, g2⟩ := h
    exact ⟨c1, c2, rfl, h1.2.2.2 σ w X X' hx hn hr _ g1, h2.2.2.2 σ w X X' hx hn hr _ g2⟩
theorem Frz.dcons {a b : AV} {x y : D} (h1 : Frz r row a (.d x)) (h2 : Frz r row b (.d y)) : Frz r row (.acons a b) (.d (.cons x y)) := by
  refine ⟨rfl, fun _ => rfl, fun G _ => trivial, fun σ w X X' hx hn hr cs h => ?_⟩
  obtain ⟨c1, c2, rfl, g1, g2⟩ := h
  exact ⟨c1, c2, rfl, h1.2.2.2 σ w X X' hx hn hr _ g1, h2.2.2.2 σ w X X' hx hn hr _ g2⟩
theorem Frz.dnil : Frz r row .anil (.d .nil) := ⟨rfl, fun _ => rfl, fun _ _ => trivial, fun _ _ _ _ _ _ _ _ h => h⟩
theorem Frz.own {te s : Nat} {ex : Bool} {α : Type} {enc : α → D} {xs : List α} {len : Nat} {cap : Option Nat} (hl : len = xs.length) : Frz r (.ds te s ex enc xs) (.own r 0 len s cap) (.d (.arr s enc xs)) := by
  subst hl
  refine ⟨rfl, fun _ => rfl, fun _ _ => trivial, fun σ w X X' hx hn hr cs h => ?_⟩
  rcases h with ⟨h0, _, hl, _, rfl⟩ | ⟨b, c, ad, hb, rfl, hle1, hle2, hle3, had⟩
  · exact .inl ⟨List.eq_nil_of_length_eq_zero hl, rfl⟩
  · rcases hr with ⟨h0, rfl⟩ | ⟨b', c', cur, hb', _, hh, hsz, hlen, hmax, f, hf, htake⟩
    · rw [hb] at h0; cases h0
    · rw [hb] at hb'
      cases hb'
      refine .inr ⟨ad, cap.getD (c - 0), rfl, hle3, by omega, f, fun i hi => ?_⟩
      obtain ⟨h1, h2⟩ := hf i hi
      have hoff : ad = ⟨b, 0 * s, none⟩ := had (by omega)
      subst hoff
      refine ⟨Enc.sub hx _ _ h1, h2, fun j u hj => ⟨?_, hn b c hb⟩⟩
      rw [add_mk, cell_of_row w b _ cur te (0, 0) hh]
      have hjs : j < s := by rw [← h2]; exact (List.getElem?_eq_some_iff.1 hj).1
      have hcg := cat_get (f := f) (s := s) xs.length (fun i hi => (hf i hi).2) i j hi hjs
      rw [← htake, hj, List.getElem?_take] at hcg
      have hlt2 : i * s + j < xs.length * s := by
        have : (i + 1) * s ≤ xs.length * s := Nat.mul_le_mul_right s hi
        rw [Nat.add_mul] at this; omega
      rw [if_pos hlt2] at hcg
      rw [← Array.getElem?_toList, Nat.zero_mul, Nat.zero_add]
      exact hcg
/-- A slice of an array that lies alone in its row. -/
theorem Frz.asl {t s m len cap : Nat} {α : Type} {enc : α → D} {xs : List α} (h1 : len ≤ cap) (h2 : cap ≤ m) (hm : m ≤ 1048576) : Frz r (.box t (.d (.vec m s enc xs))) (.asl r [] len cap) (.d (.arr s enc (xs.take len))) := by
  refine ⟨rfl, fun _ => rfl, fun _ _ => trivial, fun σ w X X' hx hn hr cs h => ?_⟩
  obtain ⟨-, b, cur, hb, hh, hxl, f, hf, hcur⟩ := hr
  obtain ⟨b', c', hb', rfl⟩ := h
  rw [hb] at hb'
  cases hb'
  have hlen : (xs.take len).length = len := by rw [List.length_take]; omega
  refine .inr ⟨⟨b, pathOff [], none⟩, cap, by rw [hlen], by rw [hlen]; exact h1, by simp only [maxLen]; omega, f, fun i hi => ?_⟩
  rw [hlen] at hi
  have hil : i < xs.length := by omega
  obtain ⟨g1, g2⟩ := hf i hil
  rw [List.getElem_take]
  refine ⟨Enc.sub hx _ _ g1, g2, fun j u hj => ⟨?_, hn b 1 hb⟩⟩
  rw [add_mk, cell_of_row w b _ cur t (0, 0) hh, ← Array.getElem?_toList, hcur]
  have hjs : j < s := by rw [← g2]; exact (List.getElem?_eq_some_iff.1 hj).1
  have := cat_get (f := f) (s := s) m (fun i hi => (hf i (by omega)).2) i j (by omega) hjs
  rw [show pathOff [] + (i * s + j) = i * s + j from Nat.zero_add _, this]
  exact hj
theorem FrzR.refl (x : Row) : FrzR r row x x :=
  ⟨fun _ h => h, fun _ _ _ _ _ hx _ _ h => RowRel.mono (G := fun _ => True) (fun _ _ => rfl) (fun _ _ h1 h2 => ⟨h1, fun h => h2 (hx _ h)⟩) trivial x.within_all (fun _ _ _ => rfl) h⟩
theorem FrzR.box {t : TypeId} {a a' : AV} (h : Frz r row a a') : FrzR r row (.box t a) (.box t a') := by
  refine ⟨h.2.2.1, fun σ w X X' q hx hn hr hq => ?_⟩
  obtain ⟨hf, b, cs, h1, h2, h3⟩ := hq
  exact ⟨h.2.1 hf, b, cs, h1, h2, h.2.2.2 σ w X X' hx hn hr _ h3⟩
end
theorem StRel.freeze {C : Ctx} {G : Nat → Prop} {st st' : St} {σ : Place} {w : World} {a : Act} (h : StRel C G st σ w a) (r : Nat) (row : Row) (hrow : st.row r = some row)
    (hE : ∀ i v', lk st'.env i = some v' → ∃ v, lk st.env i = some v ∧ Frz r row v v') (hH : ∀ q x', st'.row q = some x' → q ≠ r ∧ ∃ x, st.row q = some x ∧ FrzR r row x x')
    (hsz : st'.sz = st.sz) (hbs : st'.bs = st.bs) : StRel C G st' σ w a := by
  have hx : ∀ b, st'.X C.X0 σ b → st.X C.X0 σ b := by
    rintro b (hb | ⟨q, x', c, h1, h2⟩)
    · exact .inl hb
    · obtain ⟨_, x, h3, _⟩ := hH q x' h1
      exact .inr ⟨q, x, c, h3, h2⟩
  have hn : ∀ b c, σ r = some (b, c) → ¬ st'.X C.X0 σ b := by
    rintro b c hb (hx0 | ⟨q, x', c', h1, h2⟩)
    · obtain ⟨h3, h4⟩ := h.x0 _ hx0
      rcases h.high _ _ _ _ hrow hb with h5 | h5
      · omega
      · exact h4 h5
    · obtain ⟨hq, x, h3, _⟩ := hH q x' h1
      exact hq (h.inj _ _ _ _ _ _ _ h3 hrow h2 hb)
  have hr := h.rows r row hrow
  refine ⟨?_, ?_, ?_, ?_, ?_, ?_, h.size, h.below, h.defers, by rw [hsz]; exact h.sz, h.x0, h.agree, h.baseG, by rw [hbs]; exact h.bs, h.rok⟩
  · intro i v' hv'
    obtain ⟨v, hv, hf⟩ := hE i v' hv'
    obtain ⟨u, hu1, hu2⟩ := h.env i v hv
    refine ⟨u, hu1, ?_⟩
    unfold RelV at hu2 ⊢
    rw [hf.1]
    split at hu2 <;> rename_i hag
    · obtain ⟨c, rfl, hc⟩ := hu2
      rw [if_pos hag]
      exact ⟨c, rfl, hf.2.2.2 σ w _ _ hx hn hr _ hc⟩
    · rw [if_neg hag]
      exact hf.2.2.2 σ w _ _ hx hn hr _ hu2
  · intro i v' hv'
    obtain ⟨v, hv, hf⟩ := hE i v' hv'
    exact hf.2.2.1 G (h.envG i v hv)
  · intro q x' hq
    obtain ⟨_, x, h1, hf⟩ := hH q x' hq
    exact hf.2 σ w _ _ q hx hn hr (h.rows q x h1)
  · intro q x' hq
    obtain ⟨_, x, h1, hf⟩ := hH q x' hq
    exact ⟨(h.rowsG q x h1).1, hf.1 G (h.rowsG q x h1).2⟩
  · intro q q' x x' b c c' h1 h2 h3 h4
    obtain ⟨_, y, g1, _⟩ := hH q x h1
    obtain ⟨_, y', g2, _⟩ := hH q' x' h2
    exact h.inj _ _ _ _ _ _ _ g1 g2 h3 h4
  · intro q x b c h1 h2
    obtain ⟨_, y, g1, _⟩ := hH q x h1
    exact h.high _ _ _ _ g1 h2
def FrzEnv (r : Nat) (row : Row) (env : Env) : Env → Prop
  | [] => True
  | (k, v') :: l => (∃ v, lk env k = some v ∧ Frz r row v v') ∧ FrzEnv r row env l
def FrzRows (r : Nat) (row : Row) (h : Upds) : Upds → Prop
  | [] => True
  | (q, some x') :: l => (Nat.beq q r = false ∧ ∃ x, lookH h q = some x ∧ FrzR r row x x') ∧ FrzRows r row h l
  | (_, none) :: l => FrzRows r row h l
theorem FrzEnv.out {r : Nat} {row : Row} {env : Env} : ∀ (l : Env), FrzEnv r row env l → ∀ i v', lk l i = some v' → ∃ v, lk env i = some v ∧ Frz r row v v'
  | [], _, i, v', h => by simp [lk] at h
  | (k, x) :: l, ⟨h1, h2⟩, i, v', h => by
    rw [lk_cons] at h
    split at h
    · rename_i e
      subst e
      cases h
      exact h1
    · exact FrzEnv.out l h2 i v' h
theorem FrzRows.out {r : Nat} {row : Row} {hh : Upds} : ∀ (l : Upds), FrzRows r row hh l → ∀ q x', lookH l q = some x' → q ≠ r ∧ ∃ x, lookH hh q = some x ∧ FrzR r row x x'
  | [], _, q, x', h => by simp [lookH, lk] at h
  | (k, some x) :: l, ⟨⟨h1, h2⟩, h3⟩, q, x', h => by
    unfold lookH at h
    rw [lk_cons] at h
    by_cases e : k = q
    · subst e
      rw [if_pos rfl] at h
      cases h
      exact ⟨Nat.ne_of_beq_eq_false h1, h2⟩
    · rw [if_neg e] at h
      exact FrzRows.out l h3 q x' h
  | (k, none) :: l, h3, q, x', h => by
    unfold lookH at h
    rw [lk_cons] at h
    by_cases e : k = q
    · rw [if_pos e] at h
      cases h
    · rw [if_neg e] at h
      exact FrzRows.out l h3 q x' h
section
variable {P : Program} {sz : Nat} {env : Env} {h : Upds} {n : Nat} {Q : Exit → St → Prop}
/-- Row r is given up. -/
theorem wc_freeze {c : Code} {env' : Env} {h' : Upds} (r : Nat) (row : Row) (hrow : lookH h r = some row) (hE : FrzEnv r row env env') (hH : FrzRows r row h h') (hw : WC P sz c Q env' h' n) : WC P sz c Q env h n := by
  intro C σ w a hst
  refine hw C σ w a (hst.freeze (st' := ⟨env', h', n, sz, 64⟩) r row (by rw [← lookH_row]; exact hrow) (FrzEnv.out env' hE) (fun q x' hq => ?_) rfl rfl)
  rw [← lookH_row] at hq
  obtain ⟨h1, x, h2, h3⟩ := FrzRows.out h' hH q x' hq
  exact ⟨h1, x, by rw [← lookH_row]; exact h2, h3⟩
end
end Go.Eng

/- Slices: empty ones, nil, arrays as slices. -/
namespace Go.Eng
open Go.RowKit
section
variable {P : Program} {T : Tab} {sz : Nat} {env : Env} {h : Upds} {n : Nat}
/-- '[]T{}'. -/
theorem build_empty (hT : TabOk P T) {t e : Nat} {re : TyR} (ht : tdesc T t = some (.slice e)) (he : lk T e = some re) : StepIs P (.buildSlice t 0 #[]) env h n (some .empty) [] := .of_comes fun C G st σ w a o ho hA hdst hst hn => by
  obtain ⟨ud, hud, hdd⟩ := tdesc_und hT ht
  cases hdd
  have hal := hst.allocBook (.cells #[] e (0, 0))
  refine ⟨_, _, .value (.slice (some ⟨w.heap.size, 0, none⟩) 0 0), .slice (some ⟨w.heap.size, 0, none⟩) 0 0, w.alloc (.cells #[] e), σ, G, ⟨rfl, rfl⟩, ?_, .inl rfl, hal.set hdst (by unfold RelV; rw [if_neg (by simp [AV.isAgg])]; exact ⟨_, rfl⟩) trivial, fun _ h => h, fun _ h => .inl h⟩
  have h0 : Array.map (fun _ => (default : Value)) (Array.range 0) = #[] := Array.ext' (by simp)
  simp [execOp, ho, Instr.buildSlice, run_underlying hud, (hT e re he).run_size, Instr.fill, newRow, Sem.run_bind, Result.andThen_ok, h0]
theorem run_eql_nil {t e : Nat} {w : World} (hud : P.underlying t = some (.slice e)) (ad : Addr) (l c l' c' : Nat) : (binOp .eql t (.slice (some ad) l c) (.slice none l' c')).run P w = .ok (.bool false) w := by
  have h1 : (Op.equalIn 10000 t (.slice (some ad) l c) (.slice none l' c')).run P w = .ok false w := by
    rw [show (10000 : Nat) = 9999 + 1 from rfl, Op.equalIn]
    simp only [Sem.run_bind, run_underlying hud, Result.andThen_ok, Sem.run_pure]
  show (do let b ← Op.equalIn 10000 t _ _; pure (Value.bool b) : Sem Value).run P w = _
  simp only [Sem.run_bind, h1, Result.andThen_ok, Sem.run_pure]
/-- A slice that has elements is not nil. -/
theorem eql_nil (hT : TabOk P T) {t t' e : Nat} {x y : Operand} {α : Type} {s l c : Nat} {enc : α → D} {xs : List α} (ht : tdesc T t = some (.slice e)) (hx : evalA env x = some (.d (.arr s enc xs))) (hy : evalA env y = some (.d (.sc (.slice none l c)))) (hp : 0 < xs.length) :
    StepIs P (.binOp .eql t x y t') env h n (some (.bool false)) [] := .of_comes fun C G st σ w a o ho hA hdst hst hn => by
  obtain ⟨ud, hud, hdd⟩ := tdesc_und hT ht
  cases hdd
  obtain ⟨hx1, _⟩ := ev_sound hst (hA.ev hx)
  obtain ⟨hy1, _⟩ := RelV.sc.1 (ev_sound hst (hA.ev hy)).1
  rcases RelV.arr.1 hx1 with ⟨rfl, _⟩ | ⟨ad, c, hv, _, _, f, hf⟩
  · simp at hp
  · refine .quiet (u := .bool false) hst hdst ⟨rfl, rfl⟩ ?_ (RelV.sc.2 ⟨rfl, rfl⟩) trivial
    have hg : ∀ l1 c1 l2 c2, (eqGuard .eql t x y (.slice (some ad) l1 c1) (.slice none l2 c2)).run P w = .ok () w := fun _ _ _ _ => rfl
    simp only [execOp, ho, hv, hy1, Sem.run_bind, hg, Result.andThen_ok, run_eql_nil hud, Sem.run_pure]
end
end Go.Eng

/- Arrays as slices: x[:], x[:i], copy into them, append onto them. -/
namespace Go.Eng
open Go.RowKit
section
variable {P : Program} {T : Tab} {sz : Nat} {env : Env} {h : Upds} {n : Nat}
/-- 'x[:]' of an array behind a pointer. -/
theorem slice_ptr (hT : TabOk P T) {t e L r : Nat} {re : TyR} {x : Operand} {p : List Step} (ht : tdesc T t = some (.array L e)) (he : lk T e = some re) (hx : evalA env x = some (.ptr r p)) :
    StepIs P (.slice t x none none none) env h n (some (.asl r p L L)) [] := .of_comes fun C G st σ w a o ho hA hdst hst hn => by
  obtain ⟨ud, hud, hdd⟩ := tdesc_und hT ht
  cases hdd
  obtain ⟨hx1, hx2⟩ := ev_sound hst (hA.ev hx)
  obtain ⟨b, c, hb, hv⟩ := RelV.ptr.1 hx1
  have hsz := (hT e re he).run_size (P := P)
  refine .quiet (u := .slice (some ⟨b, pathOff p, none⟩) L L) hst hdst ⟨rfl, rfl⟩ ?_ (RelV.asl.2 ⟨b, c, hb, rfl⟩) hx2
  simp [execOp, ho, Instr.sliceAt, Instr.sureAddr, hv, run_underlying hud, Instr.sliceBounds, hsz, Sem.run_bind, Sem.run_pure, Result.andThen_ok, Addr.add_zero']
/-- 'x[:i]' of an array behind a pointer. -/
theorem slice_ptr_to (hT : TabOk P T) {t e L r m : Nat} {re : TyR} {x i : Operand} {p : List Step} {k : IntKind} (ht : tdesc T t = some (.array L e)) (he : lk T e = some re) (hx : evalA env x = some (.ptr r p)) (hi : evalA env i = some (.int k m)) (hm : m ≤ L) :
    StepIs P (.slice t x none (some i) none) env h n (some (.asl r p m L)) [] := .of_comes fun C G st σ w a o ho hA hdst hst hn => by
  obtain ⟨ud, hud, hdd⟩ := tdesc_und hT ht
  cases hdd
  obtain ⟨hx1, hx2⟩ := ev_sound hst (hA.ev hx)
  obtain ⟨hi1, _⟩ := RelV.sc.1 (ev_sound hst (hA.ev hi)).1
  obtain ⟨b, c, hb, hv⟩ := RelV.ptr.1 hx1
  have hsz := (hT e re he).run_size (P := P)
  refine .quiet (u := .slice (some ⟨b, pathOff p, none⟩) m L) hst hdst ⟨rfl, rfl⟩ ?_ (RelV.asl.2 ⟨b, c, hb, rfl⟩) hx2
  have hle : (m : Int) ≤ (L : Int) := by omega
  simp [execOp, ho, Instr.sliceAt, Instr.sureAddr, hv, hi1, run_underlying hud, Instr.sliceBounds, Instr.sliceBound, asIntOf, hm, hsz, Sem.run_bind, Sem.run_pure, Result.andThen_ok, Addr.add_zero']
/-- copy into a slice of an array, as many elements as it has. -/
theorem copy_asl (hT : TabOk P T) {t t' e r L cap : Nat} {re : TyR} {s : Nat} {α : Type} {enc : α → D} {ys : List α} {x y : Operand} {p : List Step} {row row' : Row} (ht : tdesc T t = some (.slice e)) (he : lk T e = some re) (hs : Nat.beq re.size s = true) (hs0 : Nat.blt 0 s = true)
    (hx : evalA env x = some (.asl r p L cap)) (hrow : lookH h r = some row) (hy : evalA env y = some (.d (.arr s enc ys))) (hl : ys.length = L) (hL : Nat.blt 0 L = true) (hu : RUpd row p (.d (.vec L s enc ys)) row') :
    StepIs P (.call { callee := .builtin .copy, args := #[x, y], argTypes := #[t, t'] }) env h n (some (.int .i64 L)) [(r, some row')] := .of_comes fun C G st σ w a o ho hA hd hst hn => by
  have hs0 := Nat.le_of_ble_eq_true hs0
  have hL := Nat.le_of_ble_eq_true hL
  have hs := Nat.eq_of_beq_eq_true hs
  obtain ⟨ud, hud, hdd⟩ := tdesc_und hT ht
  cases hdd
  obtain ⟨hx1, hx2⟩ := ev_sound hst (hA.ev hx)
  obtain ⟨hy1, _⟩ := ev_sound hst (hA.ev hy)
  have hrow := hA.row _ _ hrow
  obtain ⟨b, c, hb, hux⟩ := RelV.asl.1 hx1
  rcases RelV.arr.1 hy1 with ⟨rfl, _⟩ | ⟨ad, cy, hvy, _, _, f, hf⟩
  · simp at hl; omega
  have hm' : Rel σ w (st.X C.X0 σ) (.d (.vec L s enc ys)) false (cat f L) := ⟨hl, f, fun i hi => ⟨(hf i hi).1, (hf i hi).2.1⟩, rfl⟩
  obtain ⟨b', c', cur, t2, A, m, C', hb', hh, ⟨hcur, hA2⟩, hml, hnew⟩ := RUpd.cells hu (hst.rows r row hrow) rfl hm' (hst.rowsG r row hrow).2 trivial
  rw [hb] at hb'
  cases hb'
  have hw := hst.write (new := (A ++ cat f L ++ C').toArray) hrow hb hh (RUpd.within (hst.rowsG r row hrow).2 (show (AV.d (.vec L s enc ys)).within G from trivial) hu) (fun w' ht hd' hh' => hnew w' ht hd' hh')
  have hfl : (cat f L).length = L * s := cat_len _ fun i hi => (hf i (by omega)).2.1
  have hsrc : ∀ j u, (cat f L)[j]? = some u → w.cell? (ad.add j) = some u := fun j u hj => by
    have hjl := (List.getElem?_eq_some_iff.1 hj).1
    rw [hfl] at hjl
    have hi : j / s < L := Nat.div_lt_of_lt_mul (by rw [Nat.mul_comm]; exact hjl)
    have hm : j % s < s := Nat.mod_lt _ hs0
    have hj2 : j / s * s + j % s = j := by rw [Nat.mul_comm]; exact Nat.div_add_mod j s
    have := cat_get _ (fun i hi => (hf i (by omega)).2.1) (j / s) (j % s) hi hm
    rw [hj2, hj] at this
    have := ((hf _ (by omega)).2.2 (j % s) u this.symm).1
    rwa [hj2] at this
  have hone : ∀ u ∈ cat f L, u.oneCell' = true := fun u hu => by
    obtain ⟨k, hk, hu⟩ := cat_mem _ hu
    exact Enc.one _ _ (hf k (by omega)).1 u hu
  have hf1 := run_firstCells_some (P := P) w s L ad ys.length cy _ hfl hsrc
  have hst1 : (storeCells ⟨b, pathOff p, none⟩ (cat f L) 0).run P w = .ok () (w.setRow b (A ++ cat f L ++ C').toArray) := by
    have hcl : cur.size = A.length + m.length + C'.length := by
      have := congrArg List.length hcur
      simp at this; omega
    rw [run_storeCells_at P b (pathOff p) t2 _ 0 cur w hh (by omega) hone]
    congr 3
    rw [hcur]
    have e1 : List.take (pathOff p + 0) (A ++ m ++ C') = A := by rw [← hA2]; simp
    have e2 : List.drop (pathOff p + 0 + (cat f L).length) (A ++ m ++ C') = C' := by
      rw [← hml, ← hA2, Nat.add_zero, ← List.length_append, List.drop_left]
    rw [e1, e2]
  have hrun : (Builtin.copy_ #[t, t'] o.type #[a.eval x, a.eval y]).run P w = .ok (goInt (L : Nat)) (w.setRow b (A ++ cat f L ++ C').toArray) := by
    have hmin : Nat.min ys.length L = L := by rw [hl]; exact Nat.min_self L
    simp [Builtin.copy_, hux, hvy, run_underlying hud, Builtin.lenOf, (hT e re he).run_size, hs, hmin, hf1, hst1, goInt]
  refine ⟨_, _, .value (goInt (L : Nat)), _, _, σ, G, ⟨rfl, rfl⟩, ?_, .inl rfl, by rw [St.put_upd]; exact hw.set hd (u := goInt (L : Nat)) (RelV.sc.2 ⟨rfl, rfl⟩) trivial, fun _ h => h, fun _ h => .inl h⟩
  simp [execOp, ho, resolve, invoke, builtin, hrun]
end
end Go.Eng

/- Arrays of values that are not data; append onto a slice of an array. -/
namespace Go.Eng
open Go.RowKit
section
variable {P : Program} {T : Tab} {sz : Nat} {env : Env} {h : Upds} {n : Nat}
/-- 'x[i]' of an array of whatever values. -/
theorem index_av (hT : TabOk P T) {t l e : Nat} {re : TyR} {x i : Operand} {v z : AV} {k : IntKind} {m : Int} (ht : tdesc T t = some (.array l e)) (he : lk T e = some re) (hx : evalA env x = some v) (hi : evalA env i = some (.int k m)) (h0 : 0 ≤ m) (h1 : m < l)
    (hvf : v.flat = true) (hz : v.chainAt m.toNat (m.toNat * re.size) = some z) (hs : sizeOk T e z = true) : StepIs P (.index t x i) env h n (some z) [] := .of_comes fun C G st σ w a o ho hA hdst hst hn => by
  obtain ⟨hx1, hx2⟩ := ev_sound hst (hA.ev hx)
  obtain ⟨hi1, _⟩ := RelV.sc.1 (ev_sound hst (hA.ev hi)).1
  obtain ⟨c, hu, hc⟩ := hx1.agg (AV.isAgg_of_chain hz)
  obtain ⟨A, m', C', hat, _, hm, _⟩ := AV.chainAt_cells _ _ _ _ _ hvf hz hc
  obtain ⟨u, hrun, hrel⟩ := run_part (σ := σ) (w := w) hT hs hat hm
  obtain ⟨ud, hud, hdd⟩ := tdesc_und hT ht
  cases hdd
  refine .quiet (u := u) hst hdst ⟨rfl, rfl⟩ ?_ hrel (AV.within.at hx2 hz)
  simp [execOp, ho, hu, hi1, Instr.index, asIntOf, run_underlying hud, h0, h1, (hT e re he).run_size, hrun]
/-- An array that is written out of whatever values. -/
theorem build_arr_av (hT : TabOk P T) {t e len : Nat} {r re : TyR} {parts : Array (Nat × Operand)} {q : AV} (ht : lk T t = some r) (hd : r.desc = .array len e) (he : lk T e = some re) (hok : (manyD re.zero len).okC = true) (hzf : (manyD re.zero len).flatC = r.zero.flatC)
    (hq : buildF T (offsOf re.size e 0 len) (evalA env) parts.toList (.d (manyD re.zero len)) = some q) (hag : q.isAgg = true) : StepIs P (.build t parts) env h n (some q) [] := .of_comes fun C G st σ w a o ho hA hdst hst hn => by
  obtain ⟨u, hu, hdu⟩ := (hT t r ht).und
  rw [hd] at hdu
  cases hdu
  obtain ⟨z, hz, hzc⟩ := (hT t r ht).run_zero w
  have henc : Rel σ w (st.X C.X0 σ) (.d (manyD re.zero len)) false z.cells.toList := by rw [← hzc, ← hzf]; exact Enc.closed _ _ _ hok
  obtain ⟨cs', hfill, h1, h2, h3⟩ := buildF_sound hT hst hA (pl := fun i => some (i * re.size, re.size)) (fun k o t' r' ho hr' => by
    obtain ⟨h4, h5, _⟩ := offsOf_at len 0 k o t' ho
    subst h5
    rw [he] at hr'
    cases hr'
    rw [h4, Nat.zero_add]) parts.toList (.d (manyD re.zero len)) q z.cells.toList hq rfl trivial henc
  refine .quiet (u := .agg cs'.toArray) hst hdst ⟨rfl, rfl⟩ ?_ (by unfold RelV; rw [if_pos hag]; exact ⟨cs', rfl, h1⟩) h3
  have hcs : z.cells.toList.toArray = z.cells := by simp
  have hb : (Instr.build t (parts.map fun x => (x.1, a.eval x.2))).run P w = .ok (.agg cs'.toArray) w := by
    have hpt : (parts.map fun x => (x.1, a.eval x.2)).toList = parts.toList.map fun x => (x.1, a.eval x.2) := by simp
    simp only [Instr.build, Sem.run_bind, hz, Result.andThen_ok, run_underlying hu, (hT e re he).run_size]
    rw [hpt, ← hcs, hfill]
    simp [Sem.run_pure]
  simp only [execOp, ho, Sem.run_bind]
  rw [show (parts.map fun (x : Nat × Operand) => match x with | (i, x) => (i, a.eval x)) = parts.map fun x => (x.1, a.eval x.2) from rfl, hb]
  rfl
/-- append(x[:], el) for an array that lies alone in its row: new memory. -/
theorem append_asl_one (hT : TabOk P T) {t e r r2 L : Nat} {re : TyR} {s : Nat} {ex2 : Bool} {cap2 : Option Nat} {tb : TypeId} {α : Type} {enc : α → D} {xs : List α} {x y : Operand} {d : D} (el : α) (ht : tdesc T t = some (.slice e)) (he : lk T e = some re) (hs : Nat.beq re.size s = true) (hs0 : Nat.blt 0 s = true)
    (hx : evalA env x = some (.asl r [] L L)) (hrow : lookH h r = some (.box tb (.d (.vec L s enc xs)))) (hy : evalA env y = some (.own r2 0 1 s cap2)) (hrow2 : lookH h r2 = some (.lits e s 1 ex2 (.acons (.d d) .anil))) (hd : d = enc el)
    (hlen : L + 1 ≤ 1048576) (hbytes : Nat.ble re.bytes 134217728 = true) :
    StepIs P (.call { callee := .builtin .append, args := #[x, y], argTypes := #[t, t] }) env h n (some (.own n 0 (xs.length + 1) s none)) [(n, some (.ds e s false enc (xs ++ [el])))] := by
  have hs0 := Nat.le_of_ble_eq_true hs0
  have hb := Nat.le_of_ble_eq_true hbytes
  by_cases hL : xs.length = L
  · refine append_fresh hT (xs := xs) (ys := [el]) ht he (Nat.eq_of_beq_eq_true hs) (by simp) (by simp only [maxLen, List.length_cons, List.length_nil]; omega) ?_ (fun C G st σ w a hA hst => ?_) (fun C G st σ w a hA hst => ?_)
    · have : (xs.length + [el].length) * re.bytes ≤ 1048576 * 134217728 := Nat.mul_le_mul (by simp only [List.length_cons, List.length_nil]; omega) hb
      omega
    · obtain ⟨b, c, hb1, hv⟩ := RelV.asl.1 (ev_sound hst (hA.ev hx)).1
      obtain ⟨-, b2, cur, hb2, hh, hxl, f, hf, hcur⟩ := hst.rows r _ (hA.row _ _ hrow)
      rw [hb1] at hb2
      cases hb2
      refine ⟨some ⟨b, pathOff [], none⟩, L, f, by rw [hv, hL], (by simp only [List.length_cons, List.length_nil]; omega), (fun e => by cases e), hf, fun ad had j v hj => ?_⟩
      cases had
      rw [add_mk, cell_of_row w b _ cur tb (0, 0) hh, ← Array.getElem?_toList, hcur, show pathOff [] + j = j from Nat.zero_add j, ← hL]
      exact hj
    · obtain ⟨hy1, _⟩ := ev_sound hst (hA.ev hy)
      have hr2 := hst.rows r2 _ (hA.row _ _ hrow2)
      rcases RelV.own.1 hy1 with ⟨_, _, h0, _⟩ | ⟨b, c, ad, hb, hv, hle, _, _, had⟩
      · omega
      · have : ad = ⟨b, 0, none⟩ := by have := had (by omega); simpa using this
        subst this
        rcases hr2 with ⟨_, ⟨hn, _⟩ | ⟨b', c', cur, cs, hb', _, hh, hcs, _, _, hcl, hrel, htk⟩⟩
        · rw [hb] at hn; cases hn
        · rw [hb] at hb'
          cases hb'
          obtain ⟨c1, c2, rfl, h1, h2⟩ := hrel
          obtain rfl : c2 = [] := h2
          rw [List.append_nil] at hcl htk
          have h1 : Enc w (st.X C.X0 σ) d c1 := h1
          refine ⟨⟨b, 0, none⟩, _, fun _ => c1, hv, fun i hi => ?_, fun j u hj => ?_⟩
          · have : i = 0 := by simp at hi; exact hi
            subst this
            exact ⟨by simpa [← hd] using h1, by simpa using hcl⟩
          · simp only [List.length_cons, List.length_nil, cat, List.nil_append] at hj
            have hjl := (List.getElem?_eq_some_iff.1 hj).1
            rw [add_mk, cell_of_row w b _ cur e (0, 0) hh, Nat.zero_add, ← Array.getElem?_toList]
            rw [← htk, List.getElem?_take, if_pos (by omega)] at hj
            exact hj
  · intro C G st σ w a o ho hA hdst hst hn
    obtain ⟨-, b2, cur, hb2, hh, hxl, _⟩ := hst.rows r _ (hA.row _ _ hrow)
    exact absurd hxl hL
end
end Go.Eng

/- copy from one owned slice to another. -/
namespace Go.Eng
open Go.RowKit
section
variable {P : Program} {T : Tab} {sz : Nat} {env : Env} {h : Upds} {n : Nat}
/-- The elements of an owned slice. -/
theorem src_own {r L s : Nat} {cap : Option Nat} {te : TypeId} {ex : Bool} {α : Type} {enc : α → D} {ys : List α} {y : Operand} (hy : evalA env y = some (.own r 0 L s cap)) (hrow : lookH h r = some (.ds te s ex enc ys)) (hl : L = ys.length) (hp : 0 < ys.length) :
    ∀ (C : Ctx) (G : Nat → Prop) (st : St) (σ : Place) (w : World) (a : Act), Agree env h st → StRel C G st σ w a → SrcIs s enc ys w (st.X C.X0 σ) (a.eval y) := by
  intro C G st σ w a hA hst
  subst hl
  obtain ⟨hy1, _⟩ := ev_sound hst (hA.ev hy)
  rcases RelV.own.1 hy1 with ⟨_, _, h0, _⟩ | ⟨b, c, ad, hb, hv, hle, hle2, _, had⟩
  · omega
  · rcases hst.rows r _ (hA.row _ _ hrow) with ⟨h0, rfl⟩ | ⟨b', c', cur, hb', _, hh, hcs, hlen, hmax, f, hf, htk⟩
    · simp at hp
    · rw [hb] at hb'
      cases hb'
      have : ad = ⟨b, 0, none⟩ := by have := had (by omega); simpa using this
      subst this
      refine ⟨⟨b, 0, none⟩, _, f, hv, hf, fun j u hj => ?_⟩
      have hjl := (List.getElem?_eq_some_iff.1 hj).1
      rw [add_mk, cell_of_row w b _ cur te (0, 0) hh, Nat.zero_add, ← Array.getElem?_toList]
      rw [cat_len _ fun i hi => (hf i hi).2] at hjl
      rw [← htk, List.getElem?_take, if_pos hjl] at hj
      exact hj
/-- The elements of a slice that is only read. -/
theorem src_arr {s : Nat} {α : Type} {enc : α → D} {ys : List α} {y : Operand} (hs0 : 0 < s) (hy : evalA env y = some (.d (.arr s enc ys))) (hys : 0 < ys.length) :
    ∀ (C : Ctx) (G : Nat → Prop) (st : St) (σ : Place) (w : World) (a : Act), Agree env h st → StRel C G st σ w a → SrcIs s enc ys w (st.X C.X0 σ) (a.eval y) := by
  intro C G st σ w a hA hst
  obtain ⟨hy1, _⟩ := ev_sound hst (hA.ev hy)
  rcases RelV.arr.1 hy1 with ⟨rfl, _⟩ | ⟨ad, c, hv, _, _, f, hf⟩
  · simp at hys
  · refine ⟨ad, c, f, hv, fun i hi => ⟨(hf i hi).1, (hf i hi).2.1⟩, fun j u hj => ?_⟩
    have hjl := (List.getElem?_eq_some_iff.1 hj).1
    rw [cat_len _ fun i hi => (hf i hi).2.1] at hjl
    have hi : j / s < ys.length := Nat.div_lt_of_lt_mul (by rw [Nat.mul_comm]; exact hjl)
    have hm : j % s < s := Nat.mod_lt _ hs0
    have hj2 : j / s * s + j % s = j := by rw [Nat.mul_comm]; exact Nat.div_add_mod j s
    have := cat_get ys.length (fun i hi => (hf i hi).2.1) (j / s) (j % s) hi hm
    rw [hj2, hj] at this
    have := ((hf _ hi).2.2 (j % s) u this.symm).1
    rwa [hj2] at this
/-- copy that fills an owned slice. -/
theorem copy_full (hT : TabOk P T) {t t' e r L : Nat} {re : TyR} {s : Nat} {ex : Bool} {te : TypeId} {cap : Option Nat} {α : Type} {enc : α → D} {xs ys : List α} {x y : Operand} (ht : tdesc T t = some (.slice e)) (he : lk T e = some re) (hs : Nat.beq re.size s = true) (hs0 : Nat.blt 0 s = true)
    (hx : evalA env x = some (.own r 0 L s cap)) (hrow : lookH h r = some (.ds te s ex enc xs)) (hlx : L = xs.length) (hly : ys.length = L) (hL : 0 < L)
    (hsrc : ∀ (C : Ctx) (G : Nat → Prop) (st : St) (σ : Place) (w : World) (a : Act), Agree env h st → StRel C G st σ w a → SrcIs s enc ys w (st.X C.X0 σ) (a.eval y)) :
    StepIs P (.call { callee := .builtin .copy, args := #[x, y], argTypes := #[t, t'] }) env h n (some (.int .i64 L)) [(r, some (.ds te s ex enc ys))] := .of_comes fun C G st σ w a o ho hA hd hst hn => by
  have hs0 := Nat.le_of_ble_eq_true hs0
  have hs := Nat.eq_of_beq_eq_true hs
  obtain ⟨ud, hud, hdd⟩ := tdesc_und hT ht
  cases hdd
  obtain ⟨hx1, hx2⟩ := ev_sound hst (hA.ev hx)
  obtain ⟨ad, cy, f, hvy, hf, hfc⟩ := hsrc C G st σ w a hA hst
  have hr := hA.row _ _ hrow
  rcases hst.rows r _ hr with ⟨_, rfl⟩ | ⟨b, c, cur, hσ, hex, hh, hcs, hle, hcm, g, hg, htk⟩
  · simp at hlx; omega
  rcases RelV.own.1 hx1 with ⟨_, _, hl0, _⟩ | ⟨b', c', a', hσ', hv, _, _, hlec, had⟩
  · omega
  rw [hσ] at hσ'
  cases hσ'
  have : a' = ⟨b, 0, none⟩ := by have := had (by omega); simpa using this
  subst this
  have hfl : (cat f L).length = L * s := cat_len _ fun i hi => (hf i (by omega)).2
  have hone : ∀ u ∈ cat f L, u.oneCell' = true := fun u hu => by
    obtain ⟨k, hk, hu⟩ := cat_mem _ hu
    exact Enc.one _ _ (hf k (by omega)).1 u hu
  have hmulc : L * s ≤ c * s := Nat.mul_le_mul_right _ (by omega)
  rw [hly] at hfc hvy
  have hf1 := run_firstCells_some (P := P) w s L ad L cy _ hfl hfc
  have hst1 := run_storeCells_at P b 0 te (cat f L) 0 cur w hh (by rw [hfl, hcs]; omega) hone
  simp only [Nat.add_zero, Nat.zero_add, List.take_zero, List.nil_append] at hst1
  have hrun : (Builtin.copy_ #[t, t'] o.type #[a.eval x, a.eval y]).run P w = .ok (goInt (L : Nat)) (w.setRow b (cat f L ++ cur.toList.drop (cat f L).length).toArray) := by
    have hmin : Nat.min L L = L := Nat.min_self L
    simp [Builtin.copy_, hv, hvy, run_underlying hud, Builtin.lenOf, (hT e re he).run_size, hs, hmin, hf1, hst1, goInt]
  have hw := hst.write (new := (cat f L ++ cur.toList.drop (cat f L).length).toArray) (row := .ds te s ex enc ys) hr hσ hh trivial (fun w' hk1 hk2 hh' => by
    refine .inr ⟨b, c, _, hσ, fun e => by rw [hly, hlx]; exact hex e, hh', ?_, by omega, hcm, f, fun i hi => ⟨hk2 _ _ (hf i hi).1, (hf i hi).2⟩, ?_⟩
    · simp only [List.size_toArray, List.length_append, List.length_drop, Array.length_toList, hfl, hcs]; omega
    · rw [hly]
      simp only []
      rw [← hfl]
      exact List.take_left)
  refine ⟨_, _, .value (goInt (L : Nat)), _, _, σ, G, ⟨rfl, rfl⟩, ?_, .inl rfl, by rw [St.put_upd]; exact hw.set hd (u := goInt (L : Nat)) (RelV.sc.2 ⟨rfl, rfl⟩) trivial, fun _ h => h, fun _ h => .inl h⟩
  simp [execOp, ho, resolve, invoke, builtin, hrun]
end
end Go.Eng

/- The head of an owned slice; memory that is given up inside a region. -/
set_option linter.unusedSimpArgs false
namespace Go.Eng
open Go.RowKit
section
variable {P : Program} {T : Tab} {sz : Nat} {env : Env} {h : Upds} {n : Nat}
/-- 's[:m]' of an owned slice. -/
theorem slice_own_to (hT : TabOk P T) {t e r len m : Nat} {re : TyR} {x j : Operand} {s : Nat} {k' : IntKind} (ht : tdesc T t = some (.slice e)) (he : lk T e = some re)
    (hx : evalA env x = some (.own r 0 len s none)) (hj : evalA env j = some (.int k' m)) (hm : m ≤ len) : StepIs P (.slice t x none (some j) none) env h n (some (.own r 0 m s none)) [] := .of_comes fun C G st σ w a o ho hA hdst hst hn => by
  obtain ⟨ud, hud, hdd⟩ := tdesc_und hT ht
  cases hdd
  obtain ⟨hx1, hx2⟩ := ev_sound hst (hA.ev hx)
  obtain ⟨hj1, _⟩ := RelV.sc.1 (ev_sound hst (hA.ev hj)).1
  have hsz := (hT e re he).run_size (P := P)
  rcases RelV.own.1 hx1 with ⟨hσ, h1, h2, h3, hv⟩ | ⟨b, c, ad, hσ, hv, h1, h2, h3, h4⟩
  · subst h2
    obtain rfl : m = 0 := by omega
    refine .quiet (u := .slice none 0 0) hst hdst ⟨rfl, rfl⟩ ?_ (RelV.own.2 (.inl ⟨hσ, rfl, rfl, rfl, rfl⟩)) hx2
    simp [execOp, ho, Instr.sliceAt, Instr.slice, hv, hj1, run_underlying hud, Instr.sliceBounds, Instr.sliceBound, asIntOf, hsz, Sem.run_bind, Sem.run_pure, Result.andThen_ok]
  · simp only [Option.getD_none, Nat.sub_zero, Nat.zero_add] at hv h1 h2 h3
    refine .quiet (u := .slice (some ad) m c) hst hdst ⟨rfl, rfl⟩ ?_ (RelV.own.2 (.inr ⟨b, c, ad, hσ, by simp, by (first | omega | (simp <;> omega)), by (first | omega | (simp <;> omega)), by (first | omega | (simp <;> omega)), h4⟩)) hx2
    have hle : ¬ c < m := by omega
    simp [execOp, ho, Instr.sliceAt, Instr.slice, hv, hj1, run_underlying hud, Instr.sliceBounds, Instr.sliceBound, asIntOf, hsz, Sem.run_bind, Sem.run_pure, Result.andThen_ok, hle, Addr.add_zero']
end
section
variable {P : Program} {sz : Nat} {env : Env} {h : Upds} {n : Nat} {all l : List Oper} {K : Env → Upds → Nat → Prop}
/-- Row r is given up, inside a region. -/
theorem reg_freeze {env' : Env} {h' : Upds} (r : Nat) (row : Row) (hrow : lookH h r = some row) (hE : FrzEnv r row env env') (hH : FrzRows r row h h') (h1 : RegS P all sz l n env' h' K) : RegS P all sz l n env h K := by
  intro C σ w a hst Q hQ
  refine h1 C σ w a (hst.freeze (st' := ⟨env', h', n, sz, 64⟩) r row (by rw [← lookH_row]; exact hrow) (FrzEnv.out env' hE) (fun q x' hq => ?_) rfl rfl) Q hQ
  rw [← lookH_row] at hq
  obtain ⟨h1, x, h2, h3⟩ := FrzRows.out h' hH q x' hq
  exact ⟨h1, x, by rw [← lookH_row]; exact h2, h3⟩
end
end Go.Eng

/- Pointers to what nobody writes. -/
set_option linter.unusedSimpArgs false
namespace Go.Eng
open Go.RowKit
abbrev nilp : Value := .pointer none
theorem RelV.pt {σ : Place} {w : World} {x : D} {u : Value} {X : Nat → Prop} : RelV σ w X (.d (.pt x)) u ↔ RelV σ w X (.iptr x) u := by
  unfold RelV
  simp only [AV.isAgg, D.isAgg, Rel, Enc]
  exact Iff.rfl
theorem pt_iptr (x : D) : AVLe (.d (.pt x)) (.iptr x) := fun _ _ _ _ h => RelV.pt.1 h
theorem iptr_pt (x : D) : AVLe (.iptr x) (.d (.pt x)) := fun _ _ _ _ h => RelV.pt.2 h
theorem DLe.pt {x y : D} (h : DLe x y) (hs : x.size = y.size) : DLe (.pt x) (.pt y) := by
  rintro w X cs ⟨a, c, rfl, h1, h2⟩
  exact ⟨a, c, rfl, h _ _ _ h1, h2⟩
section
variable {P : Program} {T : Tab} {sz : Nat} {env : Env} {h : Upds} {n : Nat}
theorem load_pt (hT : TabOk P T) {t : TypeId} {x : Operand} {y : D} (hx : evalA env x = some (.d (.pt y))) (hs : sizeOk T t (.d y) = true) : StepIs P (.load t x) env h n (some (.d y)) [] := .of_comes fun C G st σ w a o ho hA hd hst hn => by
  obtain ⟨h1, _⟩ := ev_sound hst (hA.ev hx)
  obtain ⟨ad, m, hu, hm, hst'⟩ := RelV.iptr.1 (RelV.pt.1 h1)
  obtain ⟨tr, htr, hsz, hf, hag⟩ := sizeOk.out hs
  have hm' : Rel σ w (st.X C.X0 σ) (.d y) false m := hm
  have hl : m.length = tr.size := by rw [Rel.len _ _ hf hm', hsz]
  obtain ⟨u, hrun, hrel⟩ := run_loadVar (hT t tr htr) (fun j u hj => (hst' j u hj).1) hl hm' hf hag
  refine .quiet hst hd ⟨rfl, rfl⟩ ?_ hrel trivial
  simp [execOp, ho, Instr.loadAt, hu, Instr.sureAddr, hrun]
theorem nilCheck_pt {x : Operand} {y : D} (hx : evalA env x = some (.d (.pt y))) : StepIs P (.nilCheck x) env h n (some (.iptr y)) [] := .of_comes fun C G st σ w a o ho hA hd hst hn => by
  obtain ⟨h1, _⟩ := ev_sound hst (hA.ev hx)
  have h2 := RelV.pt.1 h1
  obtain ⟨ad, m, hu, hm, hst'⟩ := RelV.iptr.1 h2
  refine .quiet (u := .pointer (some ad)) hst hd ⟨rfl, rfl⟩ ?_ (hu ▸ h2) trivial
  simp [execOp, ho, hu]
theorem fieldAddr_pt (hT : TabOk P T) {s f off t : Nat} {fs : List (Nat × Nat)} {x : Operand} {d z : D} (hs : tdesc T s = some (.struct fs)) (hx : evalA env x = some (.d (.pt d))) (hf : fs[f]? = some (off, t)) (hz : d.chainAt f off = some z) :
    StepIs P (.fieldAddr s x f) env h n (some (.iptr z)) [] := .of_comes fun C G st σ w a o ho hA hd hst hn => by
  obtain ⟨h1, _⟩ := ev_sound hst (hA.ev hx)
  obtain ⟨ad, m, hu, hm, hst'⟩ := RelV.iptr.1 (RelV.pt.1 h1)
  obtain ⟨A, m', C, ⟨rfl, hA'⟩, hm', _⟩ := D.chainAt_cells f off d z m hz hm
  refine .quiet (u := .pointer (some (ad.add off))) hst hd ⟨rfl, rfl⟩ ?_ (RelV.iptr.2 ⟨ad.add off, m', rfl, hm', fun j u hj => ?_⟩) trivial
  · simp only [execOp, ho, hu, Sem.run_bind, run_fieldAt hT hs hf, Result.andThen_ok]
    rfl
  · have := hst' (off + j) u (by
      rw [List.append_assoc, List.getElem?_append_right (by omega), List.getElem?_append_left (by have := (List.getElem?_eq_some_iff.1 hj).1; omega), ← hj]
      congr 1; omega)
    rw [add_of_add]
    exact ⟨this.1, by rw [Addr.add_block]; exact this.2⟩
theorem index_pt (hT : TabOk P T) {t e l : Nat} {re : TyR} {x i : Operand} {d z : D} {k : IntKind} {m : Int} (ht : tdesc T t = some (.array l e)) (he : lk T e = some re) (hx : evalA env x = some (.d (.pt d))) (hi : evalA env i = some (.int k m)) (h0 : 0 ≤ m) (h1 : m < l)
    (hz : Sub d [.idx m.toNat re.size] z) : StepIs P (.indexAddr t x i) env h n (some (.iptr z)) [] := .of_comes fun C G st σ w a o ho hA hd hst hn => by
  obtain ⟨hx1, _⟩ := ev_sound hst (hA.ev hx)
  obtain ⟨hi1, _⟩ := RelV.sc.1 (ev_sound hst (hA.ev hi)).1
  obtain ⟨ad, c, hu, hc, hst'⟩ := RelV.iptr.1 (RelV.pt.1 hx1)
  obtain ⟨A, m', C, ⟨rfl, hA'⟩, hm'⟩ := Sub.cells _ _ _ _ hz hc
  simp only [pathOff, Step.off, Nat.add_zero] at hA'
  refine .quiet (u := .pointer (some (ad.add (m.toNat * re.size)))) hst hd ⟨rfl, rfl⟩ ?_ (RelV.iptr.2 ⟨_, m', rfl, hm', fun j v hj => ?_⟩) trivial
  · simp only [execOp, ho, hu, hi1, Sem.run_bind, run_indexAt_array hT ht he h0 h1, Result.andThen_ok, Sem.run_pure]
  · have := hst' (m.toNat * re.size + j) v (by
      rw [List.append_assoc, List.getElem?_append_right (by omega), List.getElem?_append_left (by have := (List.getElem?_eq_some_iff.1 hj).1; omega), ← hj]
      congr 1; omega)
    rw [add_of_add, Addr.add_block]
    exact this
theorem run_eql_ptr {t e : Nat} {w : World} (hud : P.underlying t = some (.pointer e)) (x : Option Addr) : (binOp .eql t (.pointer x) nilp).run P w = .ok (.bool x.isNone) w := by
  have h1 : (Op.equalIn 10000 t (.pointer x) nilp).run P w = .ok x.isNone w := by
    rw [show (10000 : Nat) = 9999 + 1 from rfl, Op.equalIn]
    cases x <;> simp only [Sem.run_bind, run_underlying hud, Result.andThen_ok, Sem.run_pure] <;> rfl
  show (do let b ← Op.equalIn 10000 t _ _; pure (Value.bool b) : Sem Value).run P w = _
  simp only [Sem.run_bind, h1, Result.andThen_ok, Sem.run_pure]
theorem run_neq_ptr {t e : Nat} {w : World} (hud : P.underlying t = some (.pointer e)) (x : Option Addr) : (binOp .neq t (.pointer x) nilp).run P w = .ok (.bool !x.isNone) w := by
  have h1 : (Op.equalIn 10000 t (.pointer x) nilp).run P w = .ok x.isNone w := by
    rw [show (10000 : Nat) = 9999 + 1 from rfl, Op.equalIn]
    cases x <;> simp only [Sem.run_bind, run_underlying hud, Result.andThen_ok, Sem.run_pure] <;> rfl
  show (do let b ← Op.equalIn 10000 t _ _; pure (Value.bool !b) : Sem Value).run P w = _
  simp only [Sem.run_bind, h1, Result.andThen_ok, Sem.run_pure]
theorem eqG {op : BinOp} {t : Nat} {x y : Operand} {w : World} (p q : Option Addr) : (eqGuard op t x y (.pointer p) (.pointer q)).run P w = .ok () w := by cases op <;> rfl
theorem eql_pt {t t' e : Nat} {x y : Operand} {d : D} (hud : P.underlying t = some (.pointer e)) (hx : evalA env x = some (.d (.pt d))) (hy : evalA env y = some (.d (.sc nilp))) :
    StepIs P (.binOp .eql t x y t') env h n (some (.bool false)) [] := .of_comes fun C G st σ w a o ho hA hdst hst hn => by
  obtain ⟨hx1, _⟩ := ev_sound hst (hA.ev hx)
  obtain ⟨hy1, _⟩ := RelV.sc.1 (ev_sound hst (hA.ev hy)).1
  obtain ⟨ad, c, hv, _⟩ := RelV.iptr.1 (RelV.pt.1 hx1)
  refine .quiet (u := .bool false) hst hdst ⟨rfl, rfl⟩ ?_ (RelV.sc.2 ⟨rfl, rfl⟩) trivial
  simp only [execOp, ho, hv, hy1, Sem.run_bind, eqG, Result.andThen_ok, run_eql_ptr hud, Sem.run_pure, Option.isNone]
theorem eql_pn {t t' e : Nat} {x y : Operand} (hud : P.underlying t = some (.pointer e)) (hx : evalA env x = some (.d (.sc nilp))) (hy : evalA env y = some (.d (.sc nilp))) :
    StepIs P (.binOp .eql t x y t') env h n (some (.bool true)) [] := .of_comes fun C G st σ w a o ho hA hdst hst hn => by
  obtain ⟨hv, _⟩ := RelV.sc.1 (ev_sound hst (hA.ev hx)).1
  obtain ⟨hy1, _⟩ := RelV.sc.1 (ev_sound hst (hA.ev hy)).1
  refine .quiet (u := .bool true) hst hdst ⟨rfl, rfl⟩ ?_ (RelV.sc.2 ⟨rfl, rfl⟩) trivial
  simp only [execOp, ho, hv, hy1, Sem.run_bind, eqG, Result.andThen_ok, run_eql_ptr hud, Sem.run_pure, Option.isNone]
theorem neq_pt {t t' e : Nat} {x y : Operand} {d : D} (hud : P.underlying t = some (.pointer e)) (hx : evalA env x = some (.d (.pt d))) (hy : evalA env y = some (.d (.sc nilp))) :
    StepIs P (.binOp .neq t x y t') env h n (some (.bool true)) [] := .of_comes fun C G st σ w a o ho hA hdst hst hn => by
  obtain ⟨hx1, _⟩ := ev_sound hst (hA.ev hx)
  obtain ⟨hy1, _⟩ := RelV.sc.1 (ev_sound hst (hA.ev hy)).1
  obtain ⟨ad, c, hv, _⟩ := RelV.iptr.1 (RelV.pt.1 hx1)
  refine .quiet (u := .bool true) hst hdst ⟨rfl, rfl⟩ ?_ (RelV.sc.2 ⟨rfl, rfl⟩) trivial
  simp only [execOp, ho, hv, hy1, Sem.run_bind, eqG, Result.andThen_ok, run_neq_ptr hud, Sem.run_pure, Option.isNone, Bool.not_false]
theorem neq_pn {t t' e : Nat} {x y : Operand} (hud : P.underlying t = some (.pointer e)) (hx : evalA env x = some (.d (.sc nilp))) (hy : evalA env y = some (.d (.sc nilp))) :
    StepIs P (.binOp .neq t x y t') env h n (some (.bool false)) [] := .of_comes fun C G st σ w a o ho hA hdst hst hn => by
  obtain ⟨hv, _⟩ := RelV.sc.1 (ev_sound hst (hA.ev hx)).1
  obtain ⟨hy1, _⟩ := RelV.sc.1 (ev_sound hst (hA.ev hy)).1
  refine .quiet (u := .bool false) hst hdst ⟨rfl, rfl⟩ ?_ (RelV.sc.2 ⟨rfl, rfl⟩) trivial
  simp only [execOp, ho, hv, hy1, Sem.run_bind, eqG, Result.andThen_ok, run_neq_ptr hud, Sem.run_pure, Option.isNone, Bool.not_true]
end
section
variable {r : Nat} {row : Row}
/-- A pointer to a variable that is given up. -/
theorem Frz.ptr {t : TypeId} {x : D} : Frz r (.box t (.d x)) (.ptr r []) (.d (.pt x)) := by
  refine ⟨rfl, fun _ => rfl, fun _ _ => trivial, fun σ w X X' hx hn hr cs h => ?_⟩
  obtain ⟨-, b, cur, hb, hh, hd⟩ := hr
  obtain ⟨b', c', hb', rfl⟩ := h
  rw [hb] at hb'
  cases hb'
  refine ⟨⟨b, pathOff [], none⟩, cur.toList, rfl, Enc.sub hx _ _ hd, fun j u hj => ⟨?_, hn b 1 hb⟩⟩
  rw [add_mk, cell_of_row w b _ cur t (0, 0) hh, ← Array.getElem?_toList]
  rw [show pathOff [] + j = j from Nat.zero_add _]
  exact hj
theorem Frz.iptr (x : D) : Frz r row (.iptr x) (.d (.pt x)) :=
  ⟨rfl, fun _ => rfl, fun _ _ => trivial, fun σ w X X' hx hn hr cs h => by
    have h' : Enc w X (.pt x) cs := h
    exact Enc.sub hx _ _ h'⟩
theorem Frz.le {a x y : AV} (h1 : Frz r row a x) (hag : y.isAgg = x.isAgg) (hf : x.flat = true → y.flat = true) (hw : ∀ G : Nat → Prop, x.within G → y.within G) (hle : ∀ (σ : Place) (w : World) (X : Nat → Prop) (cs : List Value), Rel σ w X x false cs → Rel σ w X y false cs) : Frz r row a y :=
  ⟨hag.trans h1.1, fun h => hf (h1.2.1 h), fun G g => hw G (h1.2.2.1 G g), fun σ w X X' hx hn hr cs h => hle _ _ _ _ (h1.2.2.2 σ w X X' hx hn hr cs h)⟩
end
end Go.Eng

/- Slices whose capacity is their length; bytes as strings; no bytes, nil or not. -/
set_option linter.unusedSimpArgs false
namespace Go.Eng
open Go.RowKit
theorem RelV.arx {σ : Place} {w : World} {α : Type} {s : Nat} {enc : α → D} {xs : List α} {u : Value} {X : Nat → Prop} : RelV σ w X (.d (.arx s enc xs)) u ↔ (xs = [] ∧ ∃ a, u = .slice a 0 0) ∨
      ∃ a, u = .slice (some a) xs.length xs.length ∧ xs.length ≤ maxLen ∧
        ∃ f : Nat → List Value, ∀ i (h : i < xs.length), Enc w X (enc xs[i]) (f i) ∧ (f i).length = s ∧
          ∀ j u, (f i)[j]? = some u → w.cell? (a.add (i * s + j)) = some u ∧ ¬ X a.block := by
  unfold RelV
  simp only [AV.isAgg, D.isAgg, Rel, Enc]
  simp
theorem DLe.arx_arr {α : Type} {s : Nat} {enc : α → D} {xs : List α} : DLe (.arx s enc xs) (.arr s enc xs) := by
  rintro w X cs (⟨rfl, a, rfl⟩ | ⟨a, rfl, h1, f, hf⟩)
  · cases a with
    | none => exact .inl ⟨rfl, rfl⟩
    | some a => exact .inr ⟨a, 0, rfl, Nat.le_refl _, Nat.zero_le _, fun _ => [], fun i h => absurd h (Nat.not_lt_zero _)⟩
  · exact .inr ⟨a, _, rfl, Nat.le_refl _, h1, f, hf⟩
theorem DLe.nil_arx {α : Type} (s : Nat) (enc : α → D) : DLe (.sc nil_) (.arx s enc []) := fun _ _ _ h => .inl ⟨rfl, none, h.1⟩
theorem AVLe.empty_arx {α : Type} (s : Nat) (enc : α → D) : AVLe .empty (.d (.arx s enc [])) := fun σ w X v h => by
  unfold RelV at h
  rw [if_neg (by simp [AV.isAgg])] at h
  obtain ⟨a, ha⟩ := h
  exact RelV.arx.2 (.inl ⟨rfl, a, by simpa using ha⟩)
theorem AVLe.empty_arr {α : Type} (s : Nat) (enc : α → D) : AVLe .empty (.d (.arr s enc [])) := fun σ w X v h => by
  have h2 := RelV.arx.1 (AVLe.empty_arx s enc σ w X v h)
  rcases h2 with ⟨_, a, rfl⟩ | ⟨a, rfl, _, f, hf⟩
  · cases a with
    | none => exact RelV.arr.2 (.inl ⟨rfl, rfl⟩)
    | some a => exact RelV.arr.2 (.inr ⟨a, 0, rfl, Nat.le_refl _, Nat.zero_le _, fun _ => [], fun i h => absurd h (Nat.not_lt_zero _)⟩)
  · exact RelV.arr.2 (.inr ⟨a, 0, rfl, Nat.le_refl _, Nat.zero_le _, fun _ => [], fun i h => absurd h (Nat.not_lt_zero _)⟩)
theorem AVLe.nil_empty : AVLe (.d (.sc nil_)) .empty := fun σ w X v h => by
  obtain ⟨rfl, _⟩ := RelV.sc.1 h
  unfold RelV
  rw [if_neg (by simp [AV.isAgg])]
  exact ⟨none, rfl⟩
section
variable {P : Program} {T : Tab} {sz : Nat} {env : Env} {h : Upds} {n : Nat}
theorem len_arx (hT : TabOk P T) {x : Operand} {t e : TypeId} {α : Type} {s : Nat} {enc : α → D} {xs : List α} (hx : evalA env x = some (.d (.arx s enc xs))) (ht : tdesc T t = some (.slice e)) :
    StepIs P (.call { callee := .builtin .len, args := #[x], argTypes := #[t] }) env h n (some (.int .i64 xs.length)) [] := .len rfl hx fun C st σ w a ty hr => by
  obtain ⟨u, hu, hdu⟩ := tdesc_und hT ht
  cases hdu
  rcases RelV.arx.1 hr with ⟨rfl, ad, hv⟩ | ⟨ad, hv, _⟩ <;> simp [Builtin.len_, hv, run_underlying hu]
theorem cap_arx (hT : TabOk P T) {x : Operand} {t e : TypeId} {α : Type} {s : Nat} {enc : α → D} {xs : List α} (ht : tdesc T t = some (.slice e)) (hx : evalA env x = some (.d (.arx s enc xs))) :
    StepIs P (.call { callee := .builtin .cap, args := #[x], argTypes := #[t] }) env h n (some (.int .i64 xs.length)) [] := .of_comes fun C G st σ w a o ho hA hd hst hn => by
  obtain ⟨ud, hud, hdd⟩ := tdesc_und hT ht
  cases hdd
  obtain ⟨hx1, _⟩ := ev_sound hst (hA.ev hx)
  have hv : ∃ b l, a.eval x = .slice b l xs.length := by
    rcases RelV.arx.1 hx1 with ⟨rfl, ad, hv⟩ | ⟨ad, hv, _⟩ <;> exact ⟨_, _, hv⟩
  obtain ⟨b, l, hv⟩ := hv
  refine .quiet (u := goInt xs.length) hst hd ⟨rfl, rfl⟩ ?_ (RelV.sc.2 ⟨rfl, rfl⟩) trivial
  simp [execOp, ho, resolve, invoke, builtin, Builtin.cap_, hv, run_underlying hud, goInt]
theorem cap_empty (hT : TabOk P T) {x : Operand} {t e : TypeId} (ht : tdesc T t = some (.slice e)) (hx : evalA env x = some .empty) :
    StepIs P (.call { callee := .builtin .cap, args := #[x], argTypes := #[t] }) env h n (some (.int .i64 (0 : Nat))) [] := .of_comes fun C G st σ w a o ho hA hd hst hn => by
  obtain ⟨ud, hud, hdd⟩ := tdesc_und hT ht
  cases hdd
  obtain ⟨hx1, _⟩ := ev_sound hst (hA.ev hx)
  have hv : ∃ b, a.eval x = .slice b 0 0 := by
    unfold RelV at hx1
    rw [if_neg (by simp [AV.isAgg])] at hx1
    obtain ⟨ad, hv⟩ := hx1
    exact ⟨ad, by simpa using hv⟩
  obtain ⟨b, hv⟩ := hv
  refine .quiet (u := goInt 0) hst hd ⟨rfl, rfl⟩ ?_ (RelV.sc.2 ⟨rfl, rfl⟩) trivial
  simp [execOp, ho, resolve, invoke, builtin, Builtin.cap_, hv, run_underlying hud, goInt]
/-- 's[:0:0]' of an empty slice. -/
theorem slice_e00 (hT : TabOk P T) {t e : Nat} {re : TyR} {x i j : Operand} {k k' : IntKind} (ht : tdesc T t = some (.slice e)) (he : lk T e = some re)
    (hx : evalA env x = some .empty) (hi : evalA env i = some (.int k 0)) (hj : evalA env j = some (.int k' 0)) : StepIs P (.slice t x none (some i) (some j)) env h n (some .empty) [] := .of_comes fun C G st σ w a o ho hA hdst hst hn => by
  obtain ⟨ud, hud, hdd⟩ := tdesc_und hT ht
  cases hdd
  obtain ⟨hx1, _⟩ := ev_sound hst (hA.ev hx)
  obtain ⟨hi1, _⟩ := RelV.sc.1 (ev_sound hst (hA.ev hi)).1
  obtain ⟨hj1, _⟩ := RelV.sc.1 (ev_sound hst (hA.ev hj)).1
  have hsz := (hT e re he).run_size (P := P)
  have hv : ∃ b, a.eval x = .slice b 0 0 := by
    unfold RelV at hx1
    rw [if_neg (by simp [AV.isAgg])] at hx1
    obtain ⟨ad, hv⟩ := hx1
    exact ⟨ad, by simpa using hv⟩
  obtain ⟨b, hv⟩ := hv
  refine .quiet (u := .slice b 0 0) hst hdst ⟨rfl, rfl⟩ ?_ (by unfold RelV; rw [if_neg (by simp [AV.isAgg])]; exact ⟨b, rfl⟩) trivial
  cases b <;> simp [execOp, ho, Instr.sliceAt, Instr.slice, hv, hi1, hj1, run_underlying hud, Instr.sliceBounds, Instr.sliceBound, asIntOf, hsz, Sem.run_bind, Sem.run_pure, Result.andThen_ok, Addr.add_zero']
theorem index_arx (hT : TabOk P T) {t e : TypeId} {x i : Operand} {re : TyR} {α : Type} {s : Nat} {enc : α → D} {xs : List α} {k : IntKind} {m : Int} {el : α} (ht : tdesc T t = some (.slice e)) (he : lk T e = some re) (hs : Nat.beq re.size s = true)
    (hx : evalA env x = some (.d (.arx s enc xs))) (hi : evalA env i = some (.int k m)) (h0 : 0 ≤ m) (hel : xs[m.toNat]? = some el) : StepIs P (.indexAddr t x i) env h n (some (.iptr (enc el))) [] := .of_comes fun C G st σ w a o ho hA hd hst hn => by
  obtain ⟨hx1, hx2⟩ := ev_sound hst (hA.ev hx)
  obtain ⟨hi1, _⟩ := RelV.sc.1 (ev_sound hst (hA.ev hi)).1
  obtain ⟨hlt, hee⟩ := List.getElem?_eq_some_iff.1 hel
  rcases RelV.arx.1 hx1 with ⟨rfl, _⟩ | ⟨ad, hu, _, f, hf⟩
  · simp at hlt
  · obtain ⟨h2, h3, h4⟩ := hf _ hlt
    rw [hee] at h2
    refine .quiet (u := .pointer (some (ad.add (m.toNat * s)))) hst hd ⟨rfl, rfl⟩ ?_ (RelV.iptr.2 ⟨_, f m.toNat, rfl, h2, fun j v hj => ?_⟩) trivial
    · simp only [execOp, ho, hu, hi1, Sem.run_bind, run_indexAt_slice hT ht he h0 (show m < (xs.length : Int) by omega), Result.andThen_ok, Sem.run_pure, Nat.eq_of_beq_eq_true hs]
    · rw [add_of_add, Addr.add_block]; exact h4 j v hj
/-- Bytes as a string. -/
def strOf (l : List Int) : ByteArray := l.foldl (fun r n => r.push (UInt8.ofNat n.toNat)) ByteArray.empty
theorem bytes_cells {w : World} {X : Nat → Prop} {xs : List Int} {a : Addr} {f : Nat → List Value} (hf : ∀ i (h : i < xs.length), Enc w X (encU8 xs[i]) (f i) ∧ (f i).length = 1 ∧ ∀ j u, (f i)[j]? = some u → w.cell? (a.add (i * 1 + j)) = some u ∧ ¬ X a.block) :
    (loadCells a xs.length).run P w = .ok (xs.map (Value.int .u8)).toArray w := by
  have h := run_loadCells_list (P := P) w a (xs.map (Value.int .u8)) (fun j v hv => ?_)
  · simpa using h
  · rw [List.getElem?_map, Option.map_eq_some_iff] at hv
    obtain ⟨y, hy, rfl⟩ := hv
    obtain ⟨hj, hy⟩ := List.getElem?_eq_some_iff.1 hy
    obtain ⟨h1, _, h3⟩ := hf j hj
    obtain ⟨h1, _⟩ := h1
    rw [hy] at h1
    have := (h3 0 (.int .u8 y) (by rw [h1]; rfl)).1
    simpa using this
theorem conv_bytes (hT : TabOk P T) {t t' e : TypeId} {x : Operand} {xs : List Int} (ht : tdesc T t = some (.slice e)) (he : tdesc T e = some (.int .u8)) (ht' : tdesc T t' = some .string) (hx : evalA env x = some (.d (.arr 1 encU8 xs))) :
    StepIs P (.convert t t' x) env h n (some (.d (.sc (.string (strOf xs))))) [] := .of_comes fun C G st σ w a o ho hA hd hst hn => by
  obtain ⟨u1, hu1, hd1⟩ := tdesc_und hT ht
  obtain ⟨u2, hu2, hd2⟩ := tdesc_und hT he
  obtain ⟨u3, hu3, hd3⟩ := tdesc_und hT ht'
  cases hd1; cases hd2; cases hd3
  obtain ⟨hx1, _⟩ := ev_sound hst (hA.ev hx)
  refine .quiet (u := .string (strOf xs)) hst hd ⟨rfl, rfl⟩ ?_ (RelV.sc.2 ⟨rfl, rfl⟩) trivial
  rcases RelV.arr.1 hx1 with ⟨rfl, hv⟩ | ⟨ad, c, hv, hc1, hc2, f, hf⟩
  · simp only [execOp, ho, hv, Sem.run_bind, run_convert_bytes_string w t t' e _ _ _ hu1 hu2 hu3, Conv.bytesToString, Sem.run_pure, Result.andThen_ok]
    rfl
  · simp only [execOp, ho, hv, Sem.run_bind, run_convert_bytes_string w t t' e _ _ _ hu1 hu2 hu3, run_bytesToString w ad _ _ xs (bytes_cells hf), Sem.run_pure, Result.andThen_ok]
    rfl
theorem conv_bytesx (hT : TabOk P T) {t t' e : TypeId} {x : Operand} {xs : List Int} (ht : tdesc T t = some (.slice e)) (he : tdesc T e = some (.int .u8)) (ht' : tdesc T t' = some .string) (hx : evalA env x = some (.d (.arx 1 encU8 xs))) :
    StepIs P (.convert t t' x) env h n (some (.d (.sc (.string (strOf xs))))) [] := .of_comes fun C G st σ w a o ho hA hd hst hn => by
  obtain ⟨u1, hu1, hd1⟩ := tdesc_und hT ht
  obtain ⟨u2, hu2, hd2⟩ := tdesc_und hT he
  obtain ⟨u3, hu3, hd3⟩ := tdesc_und hT ht'
  cases hd1; cases hd2; cases hd3
  obtain ⟨hx1, _⟩ := ev_sound hst (hA.ev hx)
  refine .quiet (u := .string (strOf xs)) hst hd ⟨rfl, rfl⟩ ?_ (RelV.sc.2 ⟨rfl, rfl⟩) trivial
  have h0 : ∀ ad : Addr, (loadCells ad 0).run P w = .ok #[] w := fun ad => by simpa using run_loadCells_list (P := P) w ad [] (by simp)
  rcases RelV.arx.1 hx1 with ⟨rfl, ad, hv⟩ | ⟨ad, hv, hc1, f, hf⟩
  · cases ad with
    | none =>
      simp only [execOp, ho, hv, Sem.run_bind, run_convert_bytes_string w t t' e _ _ _ hu1 hu2 hu3, Conv.bytesToString, Sem.run_pure, Result.andThen_ok]
      rfl
    | some ad =>
      simp only [execOp, ho, hv, Sem.run_bind, run_convert_bytes_string w t t' e _ _ _ hu1 hu2 hu3, run_bytesToString w ad _ _ [] (by simpa using h0 ad), Sem.run_pure, Result.andThen_ok]
      rfl
  · simp only [execOp, ho, hv, Sem.run_bind, run_convert_bytes_string w t t' e _ _ _ hu1 hu2 hu3, run_bytesToString w ad _ _ xs (bytes_cells hf), Sem.run_pure, Result.andThen_ok]
    rfl
end
/-- No elements: nil, or not nil. -/
theorem FnIs.split_arr {P : Program} {f : FuncId} {α : Type} {s : Nat} {enc : α → D} {avs : List AV} {h0 : List (Nat × Row)} {res : AV} {rows : List (Nat × Row)}
    (h1 : FnIs P f (.d (.sc nil_) :: avs) h0 res rows) (h2 : ∀ c : Addr × Nat, FnIs P f (.d (.sc (.slice (some c.1) 0 c.2)) :: avs) h0 res rows) : FnIs P f (.d (.arr s enc ([] : List α)) :: avs) h0 res rows := by
  refine ⟨h1.1, fun C σ w vs hbs hB hw0 hσ0 hro hst => ?_⟩
  obtain ⟨u, hu1, hu2⟩ := hst.env 0 _ rfl
  have key : ∀ v : Value, v.oneCell' = true → u = v → StRel C (fun r => r < 64) (inSt (.d (.sc v) :: avs) h0) σ w ⟨vs.toArray, []⟩ := fun v hv e => by
    refine ⟨fun i y hy => ?_, fun i y hy => ?_, hst.rows, hst.rowsG, hst.inj, hst.high, hst.size, hst.below, hst.defers, hst.sz, hst.x0, hst.agree, hst.baseG, hst.bs, hst.rok⟩
    · simp only [inSt, avEnv, lk_cons] at hy
      split at hy
      · rename_i e2
        subst e2
        cases hy
        exact ⟨u, hu1, RelV.sc.2 ⟨e, hv⟩⟩
      · rename_i e2
        exact hst.env i y (by simp only [inSt, avEnv, lk_cons]; rw [if_neg e2]; exact hy)
    · simp only [inSt, avEnv, lk_cons] at hy
      split at hy
      · cases hy; trivial
      · rename_i e2
        exact hst.envG i y (by simp only [inSt, avEnv, lk_cons]; rw [if_neg e2]; exact hy)
  rcases RelV.arr.1 hu2 with ⟨_, rfl⟩ | ⟨a, c, rfl, hc, hm, f, hf⟩
  · exact h1.2 C σ w vs hbs hB hw0 hσ0 hro (key _ rfl rfl)
  · exact (h2 (a, c)).2 C σ w vs hbs hB hw0 hσ0 hro (key _ rfl rfl)
section
variable {r : Nat} {row : Row}
/-- An owned slice whose capacity is its length. -/
theorem Frz.ownx {te s : Nat} {ex : Bool} {α : Type} {enc : α → D} {xs : List α} {len m : Nat} (hl : len = xs.length) (hm : m = len) : Frz r (.ds te s ex enc xs) (.own r 0 len s (some m)) (.d (.arx s enc xs)) := by
  subst hl hm
  refine ⟨rfl, fun _ => rfl, fun _ _ => trivial, fun σ w X X' hx hn hr cs h => ?_⟩
  rcases h with ⟨h0, _, hl, _, rfl⟩ | ⟨b, c, ad, hb, rfl, hle1, hle2, hle3, had⟩
  · exact .inl ⟨List.eq_nil_of_length_eq_zero hl, none, rfl⟩
  · rcases hr with ⟨h0, rfl⟩ | ⟨b', c', cur, hb', _, hh, hsz, hlen, hmax, f, hf, htake⟩
    · rw [hb] at h0; cases h0
    · rw [hb] at hb'
      cases hb'
      simp only [Option.getD_some] at hle2 hle3 ⊢
      refine .inr ⟨ad, rfl, by omega, f, fun i hi => ?_⟩
      obtain ⟨h1, h2⟩ := hf i hi
      have hoff : ad = ⟨b, 0 * s, none⟩ := had (by omega)
      subst hoff
      refine ⟨Enc.sub hx _ _ h1, h2, fun j u hj => ⟨?_, hn b c hb⟩⟩
      rw [add_mk, cell_of_row w b _ cur te (0, 0) hh]
      have hjs : j < s := by rw [← h2]; exact (List.getElem?_eq_some_iff.1 hj).1
      have hcg := cat_get (f := f) (s := s) xs.length (fun i hi => (hf i hi).2) i j hi hjs
      rw [← htake, hj, List.getElem?_take] at hcg
      have hlt2 : i * s + j < xs.length * s := by
        have : (i + 1) * s ≤ xs.length * s := Nat.mul_le_mul_right s hi
        rw [Nat.add_mul] at this; omega
      rw [if_pos hlt2] at hcg
      rw [← Array.getElem?_toList, Nat.zero_mul, Nat.zero_add]
      exact hcg
theorem Frz.empty_arx {α : Type} (s : Nat) (enc : α → D) : Frz r row .empty (.d (.arx s enc [])) :=
  ⟨rfl, fun _ => rfl, fun _ _ => trivial, fun σ w X X' hx hn hr cs h => by
    obtain ⟨a, rfl⟩ := h
    exact .inl ⟨rfl, a, rfl⟩⟩
end
end Go.Eng

/- copy into a part of an owned slice; tails and heads of owned slices. -/
set_option linter.unusedSimpArgs false
namespace Go.Eng
open Go.RowKit
section
variable {P : Program} {T : Tab} {sz : Nat} {env : Env} {h : Upds} {n : Nat}
/-- The first elements of an owned slice. -/
theorem src_pre {r L s : Nat} {cap : Option Nat} {te : TypeId} {ex : Bool} {α : Type} {enc : α → D} {xs : List α} {y : Operand} (hy : evalA env y = some (.own r 0 L s cap)) (hrow : lookH h r = some (.ds te s ex enc xs)) (hl : L ≤ xs.length) (hp : 0 < L) :
    ∀ (C : Ctx) (G : Nat → Prop) (st : St) (σ : Place) (w : World) (a : Act), Agree env h st → StRel C G st σ w a → SrcIs s enc (xs.take L) w (st.X C.X0 σ) (a.eval y) := by
  intro C G st σ w a hA hst
  have hyl : (xs.take L).length = L := by simp; omega
  obtain ⟨hy1, _⟩ := ev_sound hst (hA.ev hy)
  rcases RelV.own.1 hy1 with ⟨_, _, h0, _⟩ | ⟨b, c, ad, hb, hv, hle, hle2, _, had⟩
  · omega
  · rcases hst.rows r _ (hA.row _ _ hrow) with ⟨h0, rfl⟩ | ⟨b', c', cur, hb', _, hh, hcs, hlen, hmax, f, hf, htk⟩
    · simp at hl; omega
    · rw [hb] at hb'
      cases hb'
      have : ad = ⟨b, 0, none⟩ := by have := had (by omega); simpa using this
      subst this
      refine ⟨⟨b, 0, none⟩, _, f, by rw [hyl]; exact hv, fun i hi => ?_, fun j u hj => ?_⟩
      · rw [hyl] at hi
        rw [List.getElem_take]
        exact hf i (by omega)
      · rw [hyl] at hj
        have hjl := (List.getElem?_eq_some_iff.1 hj).1
        rw [cat_len _ fun i hi => (hf i (by omega)).2] at hjl
        rw [add_mk, cell_of_row w b _ cur te (0, 0) hh, Nat.zero_add, ← Array.getElem?_toList]
        have hmul : L * s ≤ xs.length * s := Nat.mul_le_mul_right _ hl
        have h1 : (cat f xs.length)[j]? = some u := by
          rw [show xs.length = L + (xs.length - L) by omega, cat_add, List.getElem?_append_left (by rw [cat_len _ fun i hi => (hf i (by omega)).2]; exact hjl)]
          exact hj
        rw [← htk, List.getElem?_take, if_pos (by omega)] at h1
        exact h1
/-- copy into an owned slice that may begin inside its row. -/
theorem copy_at (hT : TabOk P T) {t t' e r off L m : Nat} {re : TyR} {s : Nat} {ex : Bool} {te : TypeId} {cap : Option Nat} {α : Type} {enc : α → D} {xs ys zs : List α} {x y : Operand} (ht : tdesc T t = some (.slice e)) (he : lk T e = some re) (hs : Nat.beq re.size s = true) (hs0 : Nat.blt 0 s = true)
    (hx : evalA env x = some (.own r off L s cap)) (hrow : lookH h r = some (.ds te s ex enc xs)) (hlx : off + L ≤ xs.length) (hm : min ys.length L = m) (hm0 : 0 < m) (hz : xs.take off ++ ys.take m ++ xs.drop (off + m) = zs)
    (hsrc : ∀ (C : Ctx) (G : Nat → Prop) (st : St) (σ : Place) (w : World) (a : Act), Agree env h st → StRel C G st σ w a → SrcIs s enc ys w (st.X C.X0 σ) (a.eval y)) :
    StepIs P (.call { callee := .builtin .copy, args := #[x, y], argTypes := #[t, t'] }) env h n (some (.int .i64 m)) [(r, some (.ds te s ex enc zs))] := .of_comes fun C G st σ w a o ho hA hd hst hn => by
  subst hz
  have hs0 := Nat.le_of_ble_eq_true hs0
  have hs := Nat.eq_of_beq_eq_true hs
  obtain ⟨ud, hud, hdd⟩ := tdesc_und hT ht
  cases hdd
  obtain ⟨hx1, hx2⟩ := ev_sound hst (hA.ev hx)
  obtain ⟨ad, cy, f, hvy, hf, hfc⟩ := hsrc C G st σ w a hA hst
  have hr := hA.row _ _ hrow
  rcases hst.rows r _ hr with ⟨_, rfl⟩ | ⟨b, c, cur, hσ, hex, hh, hcs, hle, hcm, g, hg, htk⟩
  · simp at hlx; omega
  rcases RelV.own.1 hx1 with ⟨_, _, hl0, _⟩ | ⟨b', c', a', hσ', hv, _, _, hlec, had⟩
  · omega
  rw [hσ] at hσ'
  cases hσ'
  have : a' = ⟨b, off * s, none⟩ := had (by omega)
  subst this
  have hmy : m ≤ ys.length := by omega
  have hom : off + m ≤ xs.length := by omega
  have hfl : (cat f m).length = m * s := cat_len _ fun i hi => (hf i (by omega)).2
  have hone : ∀ u ∈ cat f m, u.oneCell' = true := fun u hu => by
    obtain ⟨k, hk, hu⟩ := cat_mem _ hu
    exact Enc.one _ _ (hf k (by omega)).1 u hu
  have hmulc : (off + m) * s ≤ c * s := Nat.mul_le_mul_right _ (by omega)
  have hmulx : (off + m) * s ≤ xs.length * s := Nat.mul_le_mul_right _ hom
  have hadd : (off + m) * s = off * s + m * s := Nat.add_mul _ _ _
  have hfc' : ∀ j v, (cat f m)[j]? = some v → w.cell? (ad.add j) = some v := fun j v hj => by
    have hjl := (List.getElem?_eq_some_iff.1 hj).1
    refine hfc j v ?_
    rw [show ys.length = m + (ys.length - m) by omega, cat_add, List.getElem?_append_left hjl]
    exact hj
  have hf1 := run_firstCells_some (P := P) w s m ad ys.length cy _ hfl hfc'
  have hst1 := run_storeCells_at P b (off * s) te (cat f m) 0 cur w hh (by rw [hfl, hcs]; omega) hone
  simp only [Nat.add_zero, Nat.zero_add] at hst1
  have hrun : (Builtin.copy_ #[t, t'] o.type #[a.eval x, a.eval y]).run P w = .ok (goInt (m : Nat)) (w.setRow b (cur.toList.take (off * s) ++ cat f m ++ cur.toList.drop (off * s + (cat f m).length)).toArray) := by
    have hmin : Nat.min ys.length L = m := hm
    simp [Builtin.copy_, hv, hvy, run_underlying hud, Builtin.lenOf, (hT e re he).run_size, hs, hmin, hf1, hst1, goInt]
  have hgl : ∀ k, k ≤ xs.length → (cat g k).length = k * s := fun k hk => cat_len _ fun i hi => (hg i (by omega)).2
  have e1 : cur.toList.take (off * s) = cat g off := by
    have hos : off * s ≤ xs.length * s := by omega
    have := congrArg (List.take (off * s)) htk
    rw [List.take_take, Nat.min_eq_left hos] at this
    rw [this, show xs.length = off + (xs.length - off) by omega, cat_add, ← hgl off (by omega), List.take_left]
  have e3 : (cur.toList.drop ((off + m) * s)).take ((xs.length - (off + m)) * s) = cat (fun i => g (off + m + i)) (xs.length - (off + m)) := by
    have := congrArg (List.drop ((off + m) * s)) htk
    rw [List.drop_take, ← Nat.sub_mul] at this
    rw [this]
    conv => lhs; rw [show xs.length = (off + m) + (xs.length - (off + m)) by omega, cat_add, ← hgl (off + m) hom, List.drop_left]
  have hw := hst.write (new := (cur.toList.take (off * s) ++ cat f m ++ cur.toList.drop (off * s + (cat f m).length)).toArray) (row := .ds te s ex enc (xs.take off ++ ys.take m ++ xs.drop (off + m))) hr hσ hh trivial (fun w' hk1 hk2 hh' => by
    have hzl : (xs.take off ++ ys.take m ++ xs.drop (off + m)).length = xs.length := by simp; omega
    obtain ⟨F1, hF1, hc1⟩ := join_cells (s := s) (enc := enc) (w := w') (X := st.X C.X0 σ) (xs := xs.take off) (ys := ys.take m) (f := g) (g := f)
      (fun i hi => by rw [List.getElem_take]; exact ⟨hk2 _ _ (hg i (by simp at hi; omega)).1, (hg i (by simp at hi; omega)).2⟩)
      (fun i hi => by rw [List.getElem_take]; exact ⟨hk2 _ _ (hf i (by simp at hi; omega)).1, (hf i (by simp at hi; omega)).2⟩)
    obtain ⟨F, hF, hc⟩ := join_cells (xs := xs.take off ++ ys.take m) (ys := xs.drop (off + m)) (f := F1) (g := fun i => g (off + m + i)) hF1
      (fun i hi => by rw [List.getElem_drop]; exact ⟨hk2 _ _ (hg (off + m + i) (by simp at hi; omega)).1, (hg (off + m + i) (by simp at hi; omega)).2⟩)
    refine .inr ⟨b, c, _, hσ, fun e => by rw [hzl]; exact hex e, hh', ?_, by rw [hzl]; exact hle, hcm, F, hF, ?_⟩
    · simp only [List.size_toArray, List.length_append, List.length_take, List.length_drop, Array.length_toList, hfl, hcs]; omega
    · rw [hc, hc1, hzl]
      rw [show (xs.take off).length = off by simp; omega, show (ys.take m).length = m by simp; omega, show (xs.drop (off + m)).length = xs.length - (off + m) by simp, ← e1, ← e3, hfl, hadd]
      have l1 : (cur.toList.take (off * s)).length = off * s := by rw [e1]; exact hgl off (by omega)
      rw [show ∀ l : List Value, l.toArray.toList = l from fun l => rfl]
      have l2 : (cur.toList.take (off * s) ++ cat f m).length = off * s + m * s := by rw [List.length_append, l1, hfl]
      rw [List.take_append, List.take_of_length_le (l := cur.toList.take (off * s) ++ cat f m) (by rw [l2]; omega), l2]
      rw [show xs.length * s - (off * s + m * s) = (xs.length - (off + m)) * s by rw [Nat.sub_mul, hadd]])
  refine ⟨_, _, .value (goInt (m : Nat)), _, _, σ, G, ⟨rfl, rfl⟩, ?_, .inl rfl, by rw [St.put_upd]; exact hw.set hd (u := goInt (m : Nat)) (RelV.sc.2 ⟨rfl, rfl⟩) trivial, fun _ h => h, fun _ h => .inl h⟩
  simp [execOp, ho, resolve, invoke, builtin, hrun]
/-- 's[m:]' of an owned slice. -/
theorem slice_own_from (hT : TabOk P T) {t e r len m : Nat} {re : TyR} {x j : Operand} {s : Nat} {k' : IntKind} (ht : tdesc T t = some (.slice e)) (he : lk T e = some re) (hs : Nat.beq re.size s = true)
    (hx : evalA env x = some (.own r 0 len s none)) (hj : evalA env j = some (.int k' m)) (hm : m ≤ len) : StepIs P (.slice t x (some j) none none) env h n (some (.own r m (len - m) s none)) [] := .of_comes fun C G st σ w a o ho hA hdst hst hn => by
  obtain ⟨ud, hud, hdd⟩ := tdesc_und hT ht
  cases hdd
  have hs := Nat.eq_of_beq_eq_true hs
  obtain ⟨hx1, hx2⟩ := ev_sound hst (hA.ev hx)
  obtain ⟨hj1, _⟩ := RelV.sc.1 (ev_sound hst (hA.ev hj)).1
  have hsz := (hT e re he).run_size (P := P)
  rcases RelV.own.1 hx1 with ⟨hσ, h1, h2, h3, hv⟩ | ⟨b, c, ad, hσ, hv, h1, h2, h3, h4⟩
  · subst h2
    obtain rfl : m = 0 := by omega
    refine .quiet (u := .slice none 0 0) hst hdst ⟨rfl, rfl⟩ ?_ (RelV.own.2 (.inl ⟨hσ, rfl, rfl, rfl, rfl⟩)) hx2
    simp [execOp, ho, Instr.sliceAt, Instr.slice, hv, hj1, run_underlying hud, Instr.sliceBounds, Instr.sliceBound, asIntOf, hsz, Sem.run_bind, Sem.run_pure, Result.andThen_ok]
  · simp only [Option.getD_none, Nat.sub_zero, Nat.zero_add] at hv h1 h2 h3
    have hlen : ¬ len < m := by omega
    refine .quiet (u := .slice (some (if c = m then ad else ad.add (m * s))) (len - m) (c - m)) hst hdst ⟨rfl, rfl⟩ ?_ (RelV.own.2 (.inr ⟨b, c, _, hσ, rfl, by omega, by simp; omega, by simp; omega, fun hlt => ?_⟩)) hx2
    · have hcm : ¬ c < m := by omega
      simp [execOp, ho, Instr.sliceAt, Instr.slice, hv, hj1, run_underlying hud, Instr.sliceBounds, Instr.sliceBound, asIntOf, hsz, hs, Sem.run_bind, Sem.run_pure, Result.andThen_ok, hlen, hcm]
      rw [if_pos hm]
      split <;> rfl
    · rw [if_neg (by omega), h4 (by omega), add_mk]
      simp
end
end Go.Eng

/- Nothing appended; a slice without elements that is not nil; tuples told otherwise. -/
set_option linter.unusedSimpArgs false
namespace Go.Eng
open Go.RowKit
section
variable {P : Program} {T : Tab} {sz : Nat} {env : Env} {h : Upds} {n : Nat}
/-- append(empty, nothing...). -/
theorem append_e_e (hT : TabOk P T) {t e : Nat} {re : TyR} {x y : Operand} {a : Addr} {c : Nat} (ht : tdesc T t = some (.slice e)) (he : lk T e = some re)
    (hx : evalA env x = some .empty) (hy : evalA env y = some (.d (.sc (.slice (some a) 0 c)))) :
    StepIs P (.call { callee := .builtin .append, args := #[x, y], argTypes := #[t, t] }) env h n (some .empty) [] := .of_comes fun C G st σ w ac o ho hA hd hst hn => by
  obtain ⟨ud, hud, hdd⟩ := tdesc_und hT ht
  cases hdd
  obtain ⟨hx1, _⟩ := ev_sound hst (hA.ev hx)
  obtain ⟨hy1, _⟩ := RelV.sc.1 (ev_sound hst (hA.ev hy)).1
  have hsz := (hT e re he).run_size (P := P)
  have hv : ∃ b, ac.eval x = .slice b 0 0 := by
    unfold RelV at hx1
    rw [if_neg (by simp [AV.isAgg])] at hx1
    obtain ⟨ad, hv⟩ := hx1
    exact ⟨ad, by simpa using hv⟩
  obtain ⟨b, hv⟩ := hv
  have h0 : (loadCells a 0).run P w = .ok #[] w := by simpa using run_loadCells_list (P := P) w a [] (by simp)
  refine .quiet (u := .slice b 0 0) hst hd ⟨rfl, rfl⟩ ?_ (by unfold RelV; rw [if_neg (by simp [AV.isAgg])]; exact ⟨b, rfl⟩) trivial
  cases b <;> simp [execOp, ho, resolve, invoke, builtin, Builtin.append_, hv, hy1, run_underlying hud, hsz, Builtin.lenOf, Builtin.firstCells, h0, storeCells, Sem.run_bind, Sem.run_pure, Result.andThen_ok]
theorem eql_snil (hT : TabOk P T) {t t' e : Nat} {x y : Operand} {a : Addr} {c l2 c2 : Nat} (ht : tdesc T t = some (.slice e)) (hx : evalA env x = some (.d (.sc (.slice (some a) 0 c)))) (hy : evalA env y = some (.d (.sc (.slice none l2 c2)))) :
    StepIs P (.binOp .eql t x y t') env h n (some (.bool false)) [] := .of_comes fun C G st σ w ac o ho hA hdst hst hn => by
  obtain ⟨ud, hud, hdd⟩ := tdesc_und hT ht
  cases hdd
  obtain ⟨hv, _⟩ := RelV.sc.1 (ev_sound hst (hA.ev hx)).1
  obtain ⟨hy1, _⟩ := RelV.sc.1 (ev_sound hst (hA.ev hy)).1
  refine .quiet (u := .bool false) hst hdst ⟨rfl, rfl⟩ ?_ (RelV.sc.2 ⟨rfl, rfl⟩) trivial
  have hg : ∀ l1 c1 l2 c2, (eqGuard .eql t x y (.slice (some a) l1 c1) (.slice none l2 c2)).run P w = .ok () w := fun _ _ _ _ => rfl
  simp only [execOp, ho, hv, hy1, Sem.run_bind, hg, Result.andThen_ok, run_eql_nil hud, Sem.run_pure]
theorem run_eql_nn {t e : Nat} {w : World} (hud : P.underlying t = some (.slice e)) (l c l' c' : Nat) : (binOp .eql t (.slice none l c) (.slice none l' c')).run P w = .ok (.bool true) w := by
  have h1 : (Op.equalIn 10000 t (.slice none l c) (.slice none l' c')).run P w = .ok true w := by
    rw [show (10000 : Nat) = 9999 + 1 from rfl, Op.equalIn]
    simp only [Sem.run_bind, run_underlying hud, Result.andThen_ok, Sem.run_pure, Option.isNone]
  show (do let b ← Op.equalIn 10000 t _ _; pure (Value.bool b) : Sem Value).run P w = _
  simp only [Sem.run_bind, h1, Result.andThen_ok, Sem.run_pure]
theorem eql_nn (hT : TabOk P T) {t t' e : Nat} {x y : Operand} {l c l2 c2 : Nat} (ht : tdesc T t = some (.slice e)) (hx : evalA env x = some (.d (.sc (.slice none l c)))) (hy : evalA env y = some (.d (.sc (.slice none l2 c2)))) :
    StepIs P (.binOp .eql t x y t') env h n (some (.bool true)) [] := .of_comes fun C G st σ w ac o ho hA hdst hst hn => by
  obtain ⟨ud, hud, hdd⟩ := tdesc_und hT ht
  cases hdd
  obtain ⟨hv, _⟩ := RelV.sc.1 (ev_sound hst (hA.ev hx)).1
  obtain ⟨hy1, _⟩ := RelV.sc.1 (ev_sound hst (hA.ev hy)).1
  refine .quiet (u := .bool true) hst hdst ⟨rfl, rfl⟩ ?_ (RelV.sc.2 ⟨rfl, rfl⟩) trivial
  have hg : ∀ l1 c1 l2 c2, (eqGuard .eql t x y (.slice none l1 c1) (.slice none l2 c2)).run P w = .ok () w := fun _ _ _ _ => rfl
  simp only [execOp, ho, hv, hy1, Sem.run_bind, hg, Result.andThen_ok, run_eql_nn hud, Sem.run_pure]
end
/-- The first component told otherwise. -/
theorem AVLe.acons1 {a b r : AV} (h : AVLe a b) (hag : b.isAgg = a.isAgg) : ∀ (σ : Place) (w : World) (X : Nat → Prop) vs, Rel σ w X (.acons a r) true vs → Rel σ w X (.acons b r) true vs := by
  rintro σ w X vs ⟨v, us, rfl, h1, h2⟩
  refine ⟨v, us, rfl, ?_, h2⟩
  have := h σ w X v (by unfold RelV; exact h1)
  unfold RelV at this
  exact this
theorem AVLe.tup1 {a b r : AV} (h : AVLe a b) (hag : b.isAgg = a.isAgg) : AVLe (.tup (.acons a r)) (.tup (.acons b r)) := by
  intro σ w X u hu
  unfold RelV at hu ⊢
  rw [if_neg (by simp [AV.isAgg])] at hu ⊢
  obtain ⟨vs, h1, h2⟩ := hu
  exact ⟨vs, h1, AVLe.acons1 h hag σ w X vs h2⟩
end Go.Eng

/- Bits of small numbers; a slice of one element that is written out, frozen. -/
set_option linter.unusedSimpArgs false
namespace Go.Eng
open Go.RowKit
section
variable {P : Program} {T : Tab} {sz : Nat} {env : Env} {h : Upds} {n : Nat}
theorem wrap_u64 {m : Int} (h0 : 0 ≤ m) (h1 : m ≤ 18446744073709551615) : IntKind.u64.wrap m = m := by
  simp [IntKind.wrap, IntKind.signed, IntKind.bits]
  omega
theorem and_m32 (hT : TabOk P T) {x y : Operand} {t t' : TypeId} {c : Nat} (hx : evalA env x = some (.int .u64 c)) (hy : evalA env y = some (.int .u64 4294967295)) (hc : c < 4294967296) : StepIs P (.binOp .and t x y t') env h n (some (.int .u64 c)) [] := .of_opD hT fun K hK => by
  simp only [opD, hx, hy, Nat.beq_refl]
  refine ⟨c, fun P w => ?_, hK⟩
  have h1 : (BitVec.ofInt 64 (c : Int) &&& BitVec.ofInt 64 4294967295).toNat = c := by
    rw [BitVec.toNat_and, show (BitVec.ofInt 64 4294967295).toNat = 2 ^ 32 - 1 from rfl, Nat.and_two_pow_sub_one_eq_mod]
    simp
    omega
  show (Op.intBits .and .u64 c 4294967295).run P w = _
  simp only [Op.intBits]
  show (pure (Value.int .u64 (IntKind.u64.wrap ((BitVec.ofInt 64 (c : Int) &&& BitVec.ofInt 64 4294967295).toNat : Int))) : Sem Value).run P w = _
  rw [h1, wrap_u64 (by omega) (by omega)]
  rfl
theorem shr_32 (hT : TabOk P T) {x y : Operand} {t t' : TypeId} {c : Nat} (hx : evalA env x = some (.int .u64 c)) (hy : evalA env y = some (.int .u64 32)) (hc : c < 4294967296) : StepIs P (.binOp .shr t x y t') env h n (some (.int .u64 0)) [] := .of_opD hT fun K hK => by
  simp only [opD, hx, hy, Nat.beq_refl]
  refine ⟨0, fun P w => ?_, hK⟩
  show (Op.shift .shr .u64 c .u64 32).run P w = _
  have h1 : (c : Int).fdiv (2 ^ (min (32 : Int).toNat IntKind.u64.bits)) = 0 := by
    show (c : Int).fdiv (2 ^ 32) = 0
    rw [Int.fdiv_eq_ediv_of_nonneg _ (by decide)]
    omega
  simp only [Op.shift, h1]
  rfl
end
section
variable {r : Nat} {row : Row}
theorem Frz.lits1 {t s : Nat} {ex : Bool} {d : D} {α : Type} {enc : α → D} (x : α) {cap : Option Nat} (hd : d = enc x) (hs : d.size = s) : Frz r (.lits t s 1 ex (.acons (.d d) .anil)) (.own r 0 1 s cap) (.d (.arr s enc [x])) := by
  subst hd
  refine ⟨rfl, fun _ => rfl, fun _ _ => trivial, fun σ w X X' hx hn hr cs h => ?_⟩
  rcases h with ⟨h0, _, hl, _, rfl⟩ | ⟨b, c, ad, hb, rfl, hle1, hle2, hle3, had⟩
  · cases hl
  · rcases hr with ⟨_, ⟨h0, h1⟩ | ⟨b', c', cur, cs', hb', _, hh, hsz, hlen, hmax, hcl, hrel, htake⟩⟩
    · cases h1
    · rw [hb] at hb'
      cases hb'
      obtain ⟨c1, c2, rfl, hc1, rfl⟩ := hrel
      refine .inr ⟨ad, cap.getD (c - 0), rfl, hle3, by omega, fun _ => c1, fun i hi => ?_⟩
      have hi0 : i = 0 := by simpa using hi
      subst hi0
      have hl1 : c1.length = s := by have := hcl; simpa using this
      have hoff : ad = ⟨b, 0 * s, none⟩ := had (by omega)
      subst hoff
      refine ⟨Enc.sub hx _ _ hc1, hl1, fun j u hj => ⟨?_, hn b c hb⟩⟩
      rw [add_mk, cell_of_row w b _ cur t (0, 0) hh]
      have hjs : j < s := by rw [← hl1]; exact (List.getElem?_eq_some_iff.1 hj).1
      have := congrArg (fun l => l[j]?) htake
      simp only [List.getElem?_take, Nat.one_mul, if_pos hjs, List.append_nil] at this
      rw [hj] at this
      simpa using this
end
end Go.Eng

/- Contracts, handed rows that the function gives up; arguments told otherwise. -/
set_option linter.unusedSimpArgs false
namespace Go.Eng
open Go.RowKit
variable {P : Program} {f : FuncId} {avs avs' : List AV} {h0 h0' : List (Nat × Row)} {res : AV} {rows : List (Nat × Row)}
theorem FnIs.freeze (r : Nat) (row : Row) (hrow : lookH (someRows h0) r = some row) (hE : FrzEnv r row (avEnv 0 avs) (avEnv 0 avs')) (hH : FrzRows r row (someRows h0) (someRows h0')) (hl : avs'.length = avs.length) (h : FnIs P f avs' h0' res rows) : FnIs P f avs h0 res rows := by
  refine ⟨h.1, fun C σ w vs hbs hB hw0 hσ0 hro hst => h.2 C σ w vs hbs hB hw0 hσ0 hro ?_⟩
  refine hst.freeze (st' := inSt avs' h0') r row (by rw [← lookH_row]; exact hrow) (FrzEnv.out _ hE) (fun q x' hq => ?_) hl rfl
  rw [← lookH_row] at hq
  obtain ⟨h1, x, h2, h3⟩ := FrzRows.out _ hH q x' hq
  exact ⟨h1, x, by rw [← lookH_row]; exact h2, h3⟩
/-- Every argument of avs may be told as that of avs'. -/
def ArgsLe : List AV → List AV → Prop
  | [], [] => True
  | a :: as, b :: bs => (AVLe a b ∧ ∀ G : Nat → Prop, a.within G → b.within G) ∧ ArgsLe as bs
  | _, _ => False
theorem ArgsLe.len : ∀ {as bs : List AV}, ArgsLe as bs → bs.length = as.length
  | [], [], _ => rfl
  | _ :: _, _ :: _, h => by simp [ArgsLe.len h.2]
  | [], _ :: _, h => h.elim
  | _ :: _, [], h => h.elim
theorem ArgsLe.out : ∀ {as bs : List AV} (k : Nat), ArgsLe as bs → ∀ i v', lk (avEnv k bs) i = some v' → ∃ v, lk (avEnv k as) i = some v ∧ AVLe v v' ∧ ∀ G : Nat → Prop, v.within G → v'.within G
  | [], [], k, _, i, v', h => by simp [avEnv, lk] at h
  | a :: as, b :: bs, k, h, i, v', hv => by
    simp only [avEnv, lk_cons] at hv ⊢
    split at hv
    · rename_i e
      cases hv
      exact ⟨a, by rw [if_pos e], h.1⟩
    · rename_i e
      obtain ⟨v, h1, h2⟩ := ArgsLe.out (k + 1) h.2 i v' hv
      exact ⟨v, by rw [if_neg e]; exact h1, h2⟩
  | [], _ :: _, _, h, _, _, _ => h.elim
  | _ :: _, [], _, h, _, _, _ => h.elim
theorem FnIs.args_le (ha : ArgsLe avs avs') (h : FnIs P f avs' h0 res rows) : FnIs P f avs h0 res rows := by
  refine ⟨h.1, fun C σ w vs hbs hB hw0 hσ0 hro hst => h.2 C σ w vs hbs hB hw0 hσ0 hro ?_⟩
  refine ⟨fun i y hy => ?_, fun i y hy => ?_, hst.rows, hst.rowsG, hst.inj, hst.high, hst.size, hst.below, hst.defers, hst.sz.trans ha.len.symm, hst.x0, hst.agree, hst.baseG, hst.bs, hst.rok⟩
  · obtain ⟨v, h1, h2, _⟩ := ArgsLe.out 0 ha i y hy
    obtain ⟨u, hu1, hu2⟩ := hst.env i v h1
    exact ⟨u, hu1, h2 _ _ _ _ hu2⟩
  · obtain ⟨v, h1, _, h3⟩ := ArgsLe.out 0 ha i y hy
    exact h3 _ (hst.envG i v h1)
theorem ArgsLe.nil : ArgsLe [] [] := trivial
theorem ArgsLe.same {a : AV} {as bs : List AV} (h : ArgsLe as bs) : ArgsLe (a :: as) (a :: bs) := ⟨⟨AVLe.of_eq rfl, fun _ h => h⟩, h⟩
theorem ArgsLe.emp {α : Type} {s : Nat} {enc : α → D} {as bs : List AV} (h : ArgsLe as bs) : ArgsLe (.empty :: as) (.d (.arr s enc []) :: bs) := ⟨⟨AVLe.empty_arr s enc, fun _ _ => trivial⟩, h⟩
/-- An argument that is an empty slice. -/
theorem arg_emp {look : Nat → Option Row} {ρ : Nat → Option Nat} {bs avs : List AV} (h : ArgsA look ρ bs avs) : ArgsA look ρ (.empty :: bs) (.empty :: avs) :=
  ⟨_, avs, rfl, ⟨rfl, rfl⟩, AVLe.of_eq rfl, h⟩
end Go.Eng

/- Strings, compared. -/
set_option linter.unusedSimpArgs false
namespace Go.Eng
open Go.RowKit
section
variable {P : Program} {T : Tab} {sz : Nat} {env : Env} {h : Upds} {n : Nat}
theorem ba_ext {a b : ByteArray} : a.data.toList = b.data.toList ↔ a = b := by
  constructor
  · intro h
    cases a; cases b
    simp only [ByteArray.mk.injEq]
    exact Array.ext' h
  · rintro rfl; rfl
theorem ba_list (a b : ByteArray) : (a.toList == b.toList) = decide (a = b) := by
  rw [ByteArray.toList_eq, ByteArray.toList_eq, Bool.eq_iff_iff, beq_iff_eq, decide_eq_true_iff]
  exact ba_ext
theorem ba_beq (a b : ByteArray) : (a == b) = decide (a = b) := by
  have h1 : (a == b) = (a.data == b.data) := rfl
  rw [h1, Bool.eq_iff_iff, beq_iff_eq, decide_eq_true_iff]
  cases a; cases b
  simp
theorem eq_string {t : Nat} {a b : ByteArray} (ht : P.underlying t = some .string) : EqOk P 1 t (.sc (.string a)) (.sc (.string b)) (decide (a = b)) := by
  intro σ w X u v dd hu hv
  obtain ⟨rfl, _⟩ := RelV.sc.1 hu
  obtain ⟨rfl, _⟩ := RelV.sc.1 hv
  rw [show dd + 1 = dd + 1 from rfl, Op.equalIn]
  simp only [Sem.run_bind, run_underlying ht, Result.andThen_ok, Sem.run_pure, ba_beq]
theorem eqG_s {op : BinOp} {t : Nat} {x y : Operand} {w : World} (p q : ByteArray) : (eqGuard op t x y (.string p) (.string q)).run P w = .ok () w := by cases op <;> rfl
theorem eql_str (hT : TabOk P T) {t t' : Nat} {x y : Operand} {a b : ByteArray} (ht : tdesc T t = some .string) (hx : evalA env x = some (.d (.sc (.string a)))) (hy : evalA env y = some (.d (.sc (.string b)))) :
    StepIs P (.binOp .eql t x y t') env h n (some (.bool (decide (a = b)))) [] := .of_comes fun C G st σ w ac o ho hA hdst hst hn => by
  obtain ⟨ud, hud, hdd⟩ := tdesc_und hT ht
  cases hdd
  have h1 := (ev_sound hst (hA.ev hx)).1
  have h2 := (ev_sound hst (hA.ev hy)).1
  obtain ⟨hv, _⟩ := RelV.sc.1 h1
  obtain ⟨hy1, _⟩ := RelV.sc.1 h2
  refine .quiet (u := .bool (decide (a = b))) hst hdst ⟨rfl, rfl⟩ ?_ (RelV.sc.2 ⟨rfl, rfl⟩) trivial
  have h3 : (binOp .eql t (.string a) (.string b)).run P w = .ok (.bool (decide (a = b))) w := by
    rw [binOp_string_eql, ba_list]
    rfl
  simp only [execOp, ho, hv, hy1, Sem.run_bind, eqG_s, Result.andThen_ok, h3, Sem.run_pure]
theorem neq_str (hT : TabOk P T) {t t' : Nat} {x y : Operand} {a b : ByteArray} (ht : tdesc T t = some .string) (hx : evalA env x = some (.d (.sc (.string a)))) (hy : evalA env y = some (.d (.sc (.string b)))) :
    StepIs P (.binOp .neq t x y t') env h n (some (.bool (!decide (a = b)))) [] := .of_comes fun C G st σ w ac o ho hA hdst hst hn => by
  obtain ⟨ud, hud, hdd⟩ := tdesc_und hT ht
  cases hdd
  have h1 := (ev_sound hst (hA.ev hx)).1
  have h2 := (ev_sound hst (hA.ev hy)).1
  obtain ⟨hv, _⟩ := RelV.sc.1 h1
  obtain ⟨hy1, _⟩ := RelV.sc.1 h2
  refine .quiet (u := .bool (!decide (a = b))) hst hdst ⟨rfl, rfl⟩ ?_ (RelV.sc.2 ⟨rfl, rfl⟩) trivial
  have h3 : (binOp .neq t (.string a) (.string b)).run P w = .ok (.bool (!decide (a = b))) w := by
    rw [binOp_string_neq, ba_list]
    rfl
  simp only [execOp, ho, hv, hy1, Sem.run_bind, eqG_s, Result.andThen_ok, h3, Sem.run_pure]
end
end Go.Eng

/- Shifts of small numbers; two elements that are written out, frozen. -/
set_option linter.unusedSimpArgs false
namespace Go.Eng
open Go.RowKit
section
variable {P : Program} {T : Tab} {sz : Nat} {env : Env} {h : Upds} {n : Nat}
theorem shr_nat {t t' : Nat} {x y : Operand} {k k' : IntKind} {a s : Nat} {m : Nat} (hx : evalA env x = some (.int k a)) (hy : evalA env y = some (.int k' s)) (hs : s ≤ k.bits) (hm : a / 2 ^ s = m) :
    StepIs P (.binOp .shr t x y t') env h n (some (.int k m)) [] := .of_comes fun C G st σ w ac o ho hA hdst hst hn => by
  obtain ⟨hv, _⟩ := RelV.sc.1 (ev_sound hst (hA.ev hx)).1
  obtain ⟨hy1, _⟩ := RelV.sc.1 (ev_sound hst (hA.ev hy)).1
  refine .quiet (u := .int k m) hst hdst ⟨rfl, rfl⟩ ?_ (RelV.sc.2 ⟨rfl, rfl⟩) trivial
  have hg : (eqGuard .shr t x y (.int k a) (.int k' s)).run P w = .ok () w := rfl
  have h1 : (a : Int).fdiv (2 ^ (min (s : Int).toNat k.bits)) = m := by
    rw [show (s : Int).toNat = s from rfl, Nat.min_eq_left hs, Int.fdiv_eq_ediv_of_nonneg _ (Int.le_of_lt (Int.pow_pos (by decide)))]
    rw [← hm]
    norm_cast
  have h2 : (binOp .shr t (.int k a) (.int k' s)).run P w = .ok (.int k m) w := by
    show (Op.shift .shr k a k' s).run P w = _
    simp only [Op.shift, h1, if_neg (show ¬ (s : Int) < 0 by omega)]
    rfl
  simp only [execOp, ho, hv, hy1, Sem.run_bind, hg, Result.andThen_ok, h2, Sem.run_pure]
end
section
variable {r : Nat} {row : Row}
/-- Two elements that are written out. -/
theorem Frz.lits2 {t s : Nat} {ex : Bool} {d e : D} {α : Type} {enc : α → D} (x y : α) {cap : Option Nat} (hd : d = enc x) (he : e = enc y) (hs : d.size = s) (hs2 : e.size = s) : Frz r (.lits t s 2 ex (.acons (.d d) (.acons (.d e) .anil))) (.own r 0 2 s cap) (.d (.arr s enc [x, y])) := by
  subst hd he
  refine ⟨rfl, fun _ => rfl, fun _ _ => trivial, fun σ w X X' hx hn hr cs h => ?_⟩
  rcases h with ⟨h0, _, hl, _, rfl⟩ | ⟨b, c, ad, hb, rfl, hle1, hle2, hle3, had⟩
  · cases hl
  · rcases hr with ⟨_, ⟨h0, h1⟩ | ⟨b', c', cur, cs', hb', _, hh, hsz, hlen, hmax, hcl, hrel, htake⟩⟩
    · cases h1
    · rw [hb] at hb'
      cases hb'
      obtain ⟨c1, c2, rfl, hc1, c3, c4, rfl, hc3, rfl⟩ := hrel
      have l1 : c1.length = s := by rw [← hs]; exact Enc.len _ _ hc1
      have l3 : c3.length = s := by rw [← hs2]; exact Enc.len _ _ hc3
      have hoff : ad = ⟨b, 0 * s, none⟩ := had (by omega)
      subst hoff
      have key : ∀ (k : Nat) (u : Value), (c1 ++ c3)[k]? = some u → w.cell? ((⟨b, 0 * s, none⟩ : Addr).add k) = some u := fun k u hk => by
        rw [add_mk, cell_of_row w b _ cur t (0, 0) hh]
        have hkl := (List.getElem?_eq_some_iff.1 hk).1
        rw [List.length_append, l1, l3] at hkl
        have := congrArg (fun l => l[k]?) htake
        simp only [List.getElem?_take, List.append_nil] at this
        rw [if_pos (by omega), hk] at this
        simpa using this
      refine .inr ⟨⟨b, 0 * s, none⟩, cap.getD (c - 0), rfl, hle3, by omega, fun i => if i = 0 then c1 else c3, fun i hi => ?_⟩
      have hi2 : i = 0 ∨ i = 1 := by have : i < 2 := hi; omega
      rcases hi2 with rfl | rfl
      · refine ⟨Enc.sub hx _ _ hc1, l1, fun j u hj => ⟨?_, hn b c hb⟩⟩
        have hj : c1[j]? = some u := hj
        have := key j u (by rw [List.getElem?_append_left (List.getElem?_eq_some_iff.1 hj).1]; exact hj)
        simpa using this
      · refine ⟨Enc.sub hx _ _ hc3, l3, fun j u hj => ⟨?_, hn b c hb⟩⟩
        have hj : c3[j]? = some u := hj
        have := key (s + j) u (by rw [List.getElem?_append_right (by omega), l1, Nat.add_sub_cancel_left]; exact hj)
        simpa using this
end
end Go.Eng

/- Nothing appended to nil; an owned slice, copied. -/
set_option linter.unusedSimpArgs false
namespace Go.Eng
open Go.RowKit
section
variable {P : Program} {T : Tab} {sz : Nat} {env : Env} {h : Upds} {n : Nat}
/-- append(nil, nothing...). -/
theorem append_n_e (hT : TabOk P T) {t e : Nat} {re : TyR} {x y : Operand} {α : Type} {s : Nat} {enc : α → D} (ht : tdesc T t = some (.slice e)) (he : lk T e = some re)
    (hx : evalA env x = some (.d (.sc nil_))) (hy : evalA env y = some (.d (.arr s enc ([] : List α)))) :
    StepIs P (.call { callee := .builtin .append, args := #[x, y], argTypes := #[t, t] }) env h n (some (.d (.sc nil_))) [] := .of_comes fun C G st σ w ac o ho hA hd hst hn => by
  obtain ⟨ud, hud, hdd⟩ := tdesc_und hT ht
  cases hdd
  obtain ⟨hv, _⟩ := RelV.sc.1 (ev_sound hst (hA.ev hx)).1
  obtain ⟨hy1, _⟩ := ev_sound hst (hA.ev hy)
  have hsz := (hT e re he).run_size (P := P)
  have h0 : ∀ a : Addr, (loadCells a 0).run P w = .ok #[] w := fun a => by simpa using run_loadCells_list (P := P) w a [] (by simp)
  refine .quiet (u := nil_) hst hd ⟨rfl, rfl⟩ ?_ (RelV.sc.2 ⟨rfl, rfl⟩) trivial
  rcases RelV.arr.1 hy1 with ⟨_, hu⟩ | ⟨a, c, hu, _⟩
  · simp [execOp, ho, resolve, invoke, builtin, Builtin.append_, hv, hu, run_underlying hud, hsz, Builtin.lenOf, Builtin.firstCells, storeCells, Sem.run_bind, Sem.run_pure, Result.andThen_ok, nil_]
  · simp [execOp, ho, resolve, invoke, builtin, Builtin.append_, hv, hu, run_underlying hud, hsz, Builtin.lenOf, Builtin.firstCells, h0, storeCells, Sem.run_bind, Sem.run_pure, Result.andThen_ok, nil_]
/-- append(empty, l...), l an owned slice. -/
theorem append_empty_own (hT : TabOk P T) {t e r L : Nat} {re : TyR} {s : Nat} {cap : Option Nat} {te : TypeId} {ex : Bool} {α : Type} {enc : α → D} {ys : List α} {x y : Operand} (ht : tdesc T t = some (.slice e)) (he : lk T e = some re) (hs : Nat.beq re.size s = true) (hs0 : Nat.blt 0 s = true)
    {v : AV} (hx : evalA env x = some v) (hv : v = .empty ∨ v = .d (.sc (.slice none 0 0))) (hy : evalA env y = some (.own r 0 L s cap)) (hrow : lookH h r = some (.ds te s ex enc ys)) (hL : L = ys.length) (hys : 0 < ys.length) (hlen : ys.length ≤ 1048576) (hbytes : Nat.ble re.bytes 134217728 = true) :
    StepIs P (.call { callee := .builtin .append, args := #[x, y], argTypes := #[t, t] }) env h n (some (.own n 0 ys.length s none)) [(n, some (.ds e s false enc ys))] := by
  have hs0 := Nat.le_of_ble_eq_true hs0
  have hb := Nat.le_of_ble_eq_true hbytes
  refine append_empty hT ht he (Nat.eq_of_beq_eq_true hs) hx hv hys (by simp only [maxLen]; omega) ?_ (src_own hy hrow hL hys)
  calc ys.length * re.bytes ≤ 1048576 * 134217728 := Nat.mul_le_mul hlen hb
    _ ≤ 140737488355328 := by decide
/-- An owned slice with elements is not nil. -/
theorem eql_own_nil (hT : TabOk P T) {t t' e r len s : Nat} {cap : Option Nat} {x y : Operand} {l c : Nat} (ht : tdesc T t = some (.slice e)) (hx : evalA env x = some (.own r 0 len s cap)) (hy : evalA env y = some (.d (.sc (.slice none l c)))) (hp : 0 < len) :
    StepIs P (.binOp .eql t x y t') env h n (some (.bool false)) [] := .of_comes fun C G st σ w ac o ho hA hdst hst hn => by
  obtain ⟨ud, hud, hdd⟩ := tdesc_und hT ht
  cases hdd
  obtain ⟨hx1, _⟩ := ev_sound hst (hA.ev hx)
  obtain ⟨hy1, _⟩ := RelV.sc.1 (ev_sound hst (hA.ev hy)).1
  rcases RelV.own.1 hx1 with ⟨_, _, h0, _⟩ | ⟨b, c, ad, _, hv, _⟩
  · omega
  · refine .quiet (u := .bool false) hst hdst ⟨rfl, rfl⟩ ?_ (RelV.sc.2 ⟨rfl, rfl⟩) trivial
    have hg : ∀ l1 c1 l2 c2, (eqGuard .eql t x y (.slice (some ad) l1 c1) (.slice none l2 c2)).run P w = .ok () w := fun _ _ _ _ => rfl
    simp only [execOp, ho, hv, hy1, Sem.run_bind, hg, Result.andThen_ok, run_eql_nil hud, Sem.run_pure]
/-- Owned bytes as a string. -/
theorem conv_own (hT : TabOk P T) {t t' e r L : Nat} {cap : Option Nat} {te : TypeId} {ex : Bool} {x : Operand} {xs : List Int} (ht : tdesc T t = some (.slice e)) (he : tdesc T e = some (.int .u8)) (ht' : tdesc T t' = some .string) (hx : evalA env x = some (.own r 0 L 1 cap)) (hrow : lookH h r = some (.ds te 1 ex encU8 xs)) (hL : L = xs.length) (hp : 0 < xs.length) :
    StepIs P (.convert t t' x) env h n (some (.d (.sc (.string (strOf xs))))) [] := .of_comes fun C G st σ w a o ho hA hd hst hn => by
  obtain ⟨u1, hu1, hd1⟩ := tdesc_und hT ht
  obtain ⟨u2, hu2, hd2⟩ := tdesc_und hT he
  obtain ⟨u3, hu3, hd3⟩ := tdesc_und hT ht'
  cases hd1; cases hd2; cases hd3
  obtain ⟨ad, c, f, hv, hf, hfc⟩ := src_own hx hrow hL hp C G st σ w a hA hst
  refine .quiet (u := .string (strOf xs)) hst hd ⟨rfl, rfl⟩ ?_ (RelV.sc.2 ⟨rfl, rfl⟩) trivial
  have hb : (loadCells ad xs.length).run P w = .ok (xs.map (Value.int .u8)).toArray w := by
    have h2 := run_loadCells_list (P := P) w ad (xs.map (Value.int .u8)) (fun j v hv => ?_)
    · simpa using h2
    · rw [List.getElem?_map, Option.map_eq_some_iff] at hv
      obtain ⟨y, hy, rfl⟩ := hv
      obtain ⟨hj, hy⟩ := List.getElem?_eq_some_iff.1 hy
      have h3 := (hf j hj).1.1
      rw [hy] at h3
      refine hfc j _ ?_
      have := cat_get (f := f) (s := 1) xs.length (fun i hi => (hf i hi).2) j 0 hj (by omega)
      rw [Nat.mul_one, Nat.add_zero] at this
      rw [this, h3]
      rfl
  simp only [execOp, ho, hv, Sem.run_bind, run_convert_bytes_string w t t' e _ _ _ hu1 hu2 hu3, run_bytesToString w ad _ _ xs hb, Sem.run_pure, Result.andThen_ok]
  rfl
end
end Go.Eng
