/- The engine: maps, rows of any number, strings, builders, frozen memory. -/
import Derived.Test.YtjpjchohpjbknaaEngD
import Derived.Lib.AppendZeros
import Derived.Lib.Bytealg
import Derived.Lib.Builder
import Derived.Lib.UnsafeStr

set_option linter.unusedVariables false
set_option linter.unusedSimpArgs false

/- Keys of maps: that they may stand as keys, how they are found, that they stay. -/
namespace Go.Eng
open Go.RowKit

section
variable {P : Program} {T : Tab}

/-- A value of this data may be a key. -/
def KeyOk (P : Program) (m t : Nat) (x : D) : Prop :=
  ∀ (σ : Place) (w : World) (X : Nat → Prop) (u : Value) (em : Bool) (dd : Nat), RelV σ w X (.d x) u → (Instr.checkKey em (dd + m) t u).run P w = .ok () w

theorem KeyOk.up {m m' t : Nat} {x : D} (h : KeyOk P m t x) (hm : m ≤ m') : KeyOk P m' t x := by
  intro σ w X u em dd hu
  have := h σ w X u em (dd + (m' - m)) hu
  rwa [show dd + (m' - m) + m = dd + m' by omega] at this

theorem key_int {t : Nat} {k k' : IntKind} {a : Int} (ht : P.underlying t = some (.int k')) : KeyOk P 1 t (.sc (.int k a)) := by
  intro σ w X u em dd hu
  obtain ⟨rfl, _⟩ := RelV.sc.1 hu
  rw [Instr.checkKey]
  simp only [Sem.run_bind, run_underlying ht, Result.andThen_ok, Sem.run_pure]

theorem key_bool {t : Nat} {a : Bool} (ht : P.underlying t = some .bool) : KeyOk P 1 t (.sc (.bool a)) := by
  intro σ w X u em dd hu
  obtain ⟨rfl, _⟩ := RelV.sc.1 hu
  rw [Instr.checkKey]
  simp only [Sem.run_bind, run_underlying ht, Result.andThen_ok, Sem.run_pure]

theorem key_string {t : Nat} {a : ByteArray} (ht : P.underlying t = some .string) : KeyOk P 1 t (.sc (.string a)) := by
  intro σ w X u em dd hu
  obtain ⟨rfl, _⟩ := RelV.sc.1 hu
  rw [Instr.checkKey]
  simp only [Sem.run_bind, run_underlying ht, Result.andThen_ok, Sem.run_pure]

def KeyF (P : Program) (m : Nat) (gs : List Field) (off : Nat) (x : D) : Prop :=
  ∀ (σ : Place) (w : World) (X : Nat → Prop) (A c : List Value) (em : Bool) (dd : Nat), A.length = off → Enc w X x c →
    ∀ f ∈ gs, f.name ≠ "_" ∧ ∃ a, (part f.type (A ++ c).toArray f.offset).run P w = .ok a w ∧ (Instr.checkKey em (dd + m) f.type a).run P w = .ok () w

theorem keyf_nil {m off : Nat} : KeyF P m [] off .nil := by
  intro σ w X A c em dd _ _ f hf
  cases hf

theorem keyf_cons (hT : TabOk P T) {m off off' : Nat} {g : Field} {gs : List Field} {a r : D} (ho : g.offset = off) (hn : (g.name == "_") = false) (h1 : sizeOk T g.type (.d a) = true)
    (he : KeyOk P m g.type a) (hoff : off + a.size = off') (hr : KeyF P m gs off' r) : KeyF P m (g :: gs) off (.cons a r) := by
  have hn : g.name ≠ "_" := fun e => by rw [e] at hn; simp at hn
  rintro σ w X A _ em dd hA ⟨c1, c2, rfl, e1, e2⟩ f hf
  obtain ⟨u, hu, hur⟩ := run_part (P := P) (σ := σ) (w := w) (v := .d a) hT h1 (cs := A ++ (c1 ++ c2)) (A := A) (m := c1) (C := c2) (off := g.offset) ⟨by simp, by rw [hA, ho]⟩ (X := X) e1
  rcases List.mem_cons.1 hf with rfl | hf
  · exact ⟨hn, u, hu, he σ w X u em dd hur⟩
  · have := hr σ w X (A ++ c1) c2 em dd (by simp [hA, Enc.len _ _ e1, hoff]) e2 f hf
    simpa using this

theorem key_struct {m t : Nat} {gs : Array Field} {x : D} (ht : P.underlying t = some (.struct gs)) (hx : x.isAgg = true) (hf : KeyF P m gs.toList 0 x) : KeyOk P (m + 1) t x := by
  intro σ w X u em dd hu
  obtain ⟨c, rfl, hc⟩ := hu.agg (show (AV.d x).isAgg = true from hx)
  rw [show dd + (m + 1) = (dd + m) + 1 from rfl, Instr.checkKey]
  simp only [Sem.run_bind, run_underlying ht, Result.andThen_ok]
  rw [← Array.forIn_toList]
  have each := hf σ w X [] c em dd rfl hc
  simp only [List.nil_append] at each
  generalize gs.toList = L at each
  induction L with
  | nil => simp
  | cons f L ih =>
    obtain ⟨hn, a, p1, p2⟩ := each f (by simp)
    simp only [List.forIn_cons, Sem.run_bind, hn, ne_eq, not_false_eq_true, if_true, Result.andThen_ok, p1, p2, Sem.run_pure]
    exact ih (fun y hy => each y (by simp [hy]))

theorem key_vec (hT : TabOk P T) {m t e n s : Nat} {α : Type} {enc : α → D} {re : TyR} {xs : List α} (ht : P.underlying t = some (.array n e)) (hre : lk T e = some re) (hs : ∀ x, sizeOk T e (.d (enc x)) = true) (hrs : re.size = s) (he : ∀ x, KeyOk P m e (enc x)) :
    KeyOk P (m + 1) t (.vec n s enc xs) := by
  intro σ w X u em dd hu
  obtain ⟨c, rfl, hx, f, hf, rfl⟩ := hu.agg rfl
  obtain ⟨i0, z0, hi0, hs0, _⟩ := (hT e re hre).info
  have hce : P.cellsOf e = s := by simp [Program.cellsOf, hi0, hs0, hrs]
  rw [show dd + (m + 1) = (dd + m) + 1 from rfl, Instr.checkKey]
  simp only [Sem.run_bind, run_underlying ht, Result.andThen_ok]
  simp only [Std.Legacy.Range.forIn_eq_forIn_range', Std.Legacy.Range.size, Nat.sub_zero, Nat.add_one_sub_one, Nat.div_one]
  have each : ∀ j ∈ List.range' 0 n, ∃ a, (part e (cat f n).toArray (j * s)).run P w = .ok a w ∧ (Instr.checkKey em (dd + m) e a).run P w = .ok () w := by
    intro j hj
    have hj' : j < n := by simpa [List.mem_range'] using hj
    obtain ⟨A, C, hA, hAl⟩ := cat_split n (f := f) (s := s) (fun i hi => (hf i (by omega)).2) j hj'
    obtain ⟨u, hu, hur⟩ := run_part (P := P) (σ := σ) (w := w) (v := .d (enc xs[j])) hT (hs _) (cs := cat f n) (A := A) (m := f j) (C := C) (off := j * s) ⟨hA, hAl⟩ (X := X) (hf j (by omega)).1
    exact ⟨u, hu, he _ σ w X u em dd hur⟩
  generalize List.range' 0 n = is at each
  induction is with
  | nil => simp
  | cons j is ih =>
    obtain ⟨a, p1, p2⟩ := each j (by simp)
    simp only [List.forIn_cons, Sem.run_bind, run_sizeOf w hi0, hce, Result.andThen_ok, p1, p2, Sem.run_pure]
    exact ih (fun y hy => each y (by simp [hy]))

/-- Data whose cells are told by it alone, and that is itself bit by bit. -/
def D.keyd : D → Prop
  | .sc v => ∀ n, Instr.sameBits n v v = true
  | .nil => True
  | .cons a r => a.keyd ∧ r.keyd
  | .vec _ _ enc _ => ∀ x, (enc x).keyd
  | _ => False

theorem Enc.same {w w' : World} {X X' : Nat → Prop} : ∀ (d : D) (cs cs' : List Value), d.keyd → Enc w X d cs → Enc w' X' d cs' → cs = cs' := by
  intro d
  induction d with
  | sc v => intro cs cs' _ h h'; rw [h.1, h'.1]
  | nil => intro cs cs' _ h h'; rw [show cs = [] from h, show cs' = [] from h']
  | cons a r iha ihr =>
    rintro cs cs' ⟨k1, k2⟩ ⟨c1, c2, rfl, h1, h2⟩ ⟨d1, d2, rfl, g1, g2⟩
    rw [iha _ _ k1 h1 g1, ihr _ _ k2 h2 g2]
  | vec n s enc xs ih =>
    rintro cs cs' k ⟨hn, f, hf, rfl⟩ ⟨_, g, hg, rfl⟩
    exact cat_congr n fun i hi => ih _ _ _ (k _) (hf i (by omega)).1 (hg i (by omega)).1
  | arr => intro cs cs' k; exact k.elim
  | pt => intro cs cs' k; exact k.elim
  | arx => intro cs cs' k; exact k.elim

theorem Enc.bits {w : World} {X : Nat → Prop} : ∀ (d : D) (cs : List Value), d.keyd → Enc w X d cs → ∀ u ∈ cs, ∀ n, Instr.sameBits n u u = true := by
  intro d
  induction d with
  | sc v => intro cs k h u hu n; rw [h.1] at hu; simp at hu; subst hu; exact k n
  | nil => intro cs _ h u hu n; rw [show cs = [] from h] at hu; cases hu
  | cons a r iha ihr =>
    rintro cs ⟨k1, k2⟩ ⟨c1, c2, rfl, h1, h2⟩ u hu n
    rcases List.mem_append.1 hu with hu | hu
    · exact iha _ k1 h1 u hu n
    · exact ihr _ k2 h2 u hu n
  | vec m s enc xs ih =>
    rintro cs k ⟨hn, f, hf, rfl⟩ u hu n
    obtain ⟨i, hi, hu⟩ := cat_mem _ hu
    exact ih _ _ (k _) (hf i (by omega)).1 u hu n
  | arr => intro cs k; exact k.elim
  | pt => intro cs k; exact k.elim
  | arx => intro cs k; exact k.elim

theorem zip_self {l : List Value} : ∀ (p : Value × Value), p ∈ l.zip l → p.1 = p.2 ∧ p.1 ∈ l := by
  induction l with
  | nil => intro p hp; simp at hp
  | cons a l ih =>
    intro p hp
    simp only [List.zip_cons_cons, List.mem_cons] at hp
    rcases hp with rfl | hp
    · exact ⟨rfl, by simp⟩
    · obtain ⟨h1, h2⟩ := ih p hp
      exact ⟨h1, by simp [h2]⟩

/-- A key that is put for an equal one is the same. -/
theorem key_stays {σ σ' : Place} {w w' w1 : World} {X X' : Nat → Prop} {x : D} {u v : Value} (hk : x.keyd) (hu : RelV σ w X (.d x) u) (hv : RelV σ' w' X' (.d x) v) : (Instr.keyThatStays u v).run P w1 = .ok v w1 ∧ u = v := by
  have e : u = v := by
    unfold RelV at hu hv
    split at hu <;> rename_i hag
    · obtain ⟨c, rfl, hc⟩ := hu
      rw [if_pos hag] at hv
      obtain ⟨c', rfl, hc'⟩ := hv
      rw [Enc.same x c c' hk hc hc']
    · rw [if_neg hag] at hv
      have := Enc.same x _ _ hk hu hv
      simpa using this
  refine ⟨?_, e⟩
  have hb : Instr.sameBits 10000 u v = true := by
    subst e
    unfold RelV at hu
    split at hu <;> rename_i hag
    · obtain ⟨c, rfl, hc⟩ := hu
      have hall := Enc.bits x c hk hc
      unfold Instr.sameBits
      simp only [beq_self_eq_true, Bool.true_and, List.all_eq_true]
      intro p hp
      obtain ⟨h1, h2⟩ := zip_self p hp
      have := hall _ h2 9999
      rw [← h1]
      exact this
    · exact Enc.bits x _ hk hu u (by simp) _
  simp [Instr.keyThatStays, hb]

/-- Entries of a map as a chain. -/
def mapC {κ : Type} (enc : κ → D) : List (κ × AV) → AV
  | [] => .anil
  | (k, v) :: l => .acons (.d (enc k)) (.acons v (mapC enc l))

def EntRel {κ : Type} (σ : Place) (w : World) (X : Nat → Prop) (enc : κ → D) : List (κ × AV) → List MapEntry → Prop
  | [], es => es = []
  | (k, v) :: l, es => ∃ e es', es = e :: es' ∧ RelV σ w X (.d (enc k)) e.key ∧ RelV σ w X v e.val ∧ EntRel σ w X enc l es'

theorem mapC_rel {κ : Type} {σ : Place} {w : World} {X : Nat → Prop} {enc : κ → D} : ∀ (l : List (κ × AV)) (es : List MapEntry), Rel σ w X (mapC enc l) true (entVals es) ↔ EntRel σ w X enc l es
  | [], es => by
    cases es with
    | nil => simp [mapC, Rel, entVals, EntRel]
    | cons e es => simp [mapC, Rel, entVals, EntRel]
  | (k, v) :: l, es => by
    cases es with
    | nil => simp [mapC, Rel, entVals, EntRel]
    | cons e es =>
      constructor
      · rintro ⟨a, us, h1, h2, b, vs, h3, h4, h5⟩
        simp only [entVals, List.cons.injEq] at h1
        obtain ⟨rfl, rfl⟩ := h1
        simp only [List.cons.injEq] at h3
        obtain ⟨rfl, rfl⟩ := h3
        exact ⟨e, es, rfl, h2, h4, (mapC_rel l es).1 h5⟩
      · rintro ⟨e', es', h1, h2, h3, h4⟩
        simp only [List.cons.injEq] at h1
        obtain ⟨rfl, rfl⟩ := h1
        exact ⟨e.key, _, rfl, h2, e.val, _, rfl, h3, (mapC_rel l es).2 h4⟩

/-- Where a key stands. -/
def findC {κ : Type} [DecidableEq κ] (k : κ) : List (κ × AV) → Nat → Option (Nat × AV)
  | [], _ => none
  | (k', v) :: l, i => if k = k' then some (i, v) else findC k l (i + 1)

theorem find_asking {κ : Type} [DecidableEq κ] {σ : Place} {w : World} {X : Nat → Prop} {enc : κ → D} {kt m : Nat} (hm : m ≤ 10000) (he : ∀ a b, EqOk P m kt (enc a) (enc b) (decide (a = b))) {k : κ} {u : Value} (hu : RelV σ w X (.d (enc k)) u) :
    ∀ (l : List (κ × AV)) (es : List MapEntry) (i : Nat), EntRel σ w X enc l es →
      match findC k l i with
      | none => (Instr.findAsking kt u es i).run P w = .ok none w
      | some (j, v) => ∃ e, (Instr.findAsking kt u es i).run P w = .ok (some (j, e.val)) w ∧ i ≤ j ∧ es[j - i]? = some e ∧ RelV σ w X (.d (enc k)) e.key ∧ RelV σ w X v e.val ∧ ∃ q, l[j - i]? = some q ∧ q = (k, v)
  | [], es, i, h => by
    rw [show es = [] from h]
    simp [findC, Instr.findAsking]
  | (k', v) :: l, es, i, h => by
    obtain ⟨e, es', rfl, h1, h2, h3⟩ := h
    have heq := he k k' σ w X u e.key (10000 - m) hu h1
    rw [show 10000 - m + m = 10000 by omega] at heq
    by_cases hk : k = k'
    · subst hk
      simp only [findC, if_true]
      refine ⟨e, ?_, Nat.le_refl _, by simp, h1, h2, (k, v), by simp, rfl⟩
      simp only [decide_true] at heq
      simp [Instr.findAsking, Op.equal, Op.maxDepth, heq]
    · simp only [findC, if_neg hk]
      rw [decide_eq_false hk] at heq
      have ih := find_asking hm he hu l es' (i + 1) h3
      have hstep : (Instr.findAsking kt u (e :: es') i).run P w = (Instr.findAsking kt u es' (i + 1)).run P w := by
        simp [Instr.findAsking, Op.equal, Op.maxDepth, heq]
      rw [hstep]
      split at ih
      · exact ih
      · rename_i j v' _
        obtain ⟨e', a1, a2, a3, a4, a5, q, a6, a7⟩ := ih
        have hj : j - i = (j - (i + 1)) + 1 := by omega
        exact ⟨e', a1, by omega, by rw [hj]; simpa using a3, a4, a5, q, by rw [hj]; simpa using a6, a7⟩
end
end Go.Eng

/- Maps: made, looked up, written. -/
namespace Go.Eng
open Go.RowKit

section
variable {C : Ctx} {w w' : World} {G : Nat → Prop} {st : St} {σ : Place} {a : Act}

theorem run_setObj (P : Program) (w : World) (b : Nat) (o : Obj) {es : Array MapEntry} {ck : Nat} (hb : w.heap[b]? = some (.map es ck)) : (setObj b o).run P w = .ok () { w with heap := w.heap.setIfInBounds b o } := by
  simp [setObj, Sem.run, hb]

/-- A row's object is put anew. -/
theorem StRel.writeObj (h : StRel C G st σ w a) {r b c : Nat} {old row : Row} {o o' : Obj} (hr : st.row r = some old) (hs : σ r = some (b, c))
    (hh : w.heap[b]? = some o) (hnb : isBook o = false) (hw : row.within G)
    (hrow : ∀ (w' : World), (∀ (x : AV) (m : Bool) (l : List Value), x.within G → Rel σ w (st.X C.X0 σ) x m l → Rel σ w' (st.X C.X0 σ) x m l) →
      w'.heap[b]? = some o' → RowRel σ w' (st.X C.X0 σ) r row) :
    StRel C G (st.upd [(r, some row)]) σ { w with heap := w.heap.setIfInBounds b o' } a := by
  have hX : (st.upd [(r, some row)]).X C.X0 σ = st.X C.X0 σ := by
    funext x
    apply propext
    constructor
    · rintro (hx0 | ⟨r', row', c', h1, h2⟩)
      · exact .inl hx0
      rw [St.row_one] at h1
      by_cases e : r = r'
      · subst e; exact .inr ⟨r, old, c', hr, h2⟩
      · rw [if_neg e] at h1; exact .inr ⟨r', row', c', h1, h2⟩
    · rintro (hx0 | ⟨r', row', c', h1, h2⟩)
      · exact .inl hx0
      by_cases e : r = r'
      · subst e; exact .inr ⟨r, row, c', by rw [St.row_one]; simp, h2⟩
      · exact .inr ⟨r', row', c', by rw [St.row_one, if_neg e]; exact h1, h2⟩
  have hlt : b < w.heap.size := (Array.getElem?_eq_some_iff.1 hh).1
  have hother : ∀ k, k ≠ b → ({ w with heap := w.heap.setIfInBounds b o' } : World).heap[k]? = w.heap[k]? := by
    intro k hk
    simp [Ne.symm hk]
  have hnew : ({ w with heap := w.heap.setIfInBounds b o' } : World).heap[b]? = some o' := by simp [hlt]
  have hk : ∀ (a : Addr) (u : Value), w.cell? a = some u → ¬ st.X C.X0 σ a.block → ({ w with heap := w.heap.setIfInBounds b o' } : World).cell? a = some u ∧ ¬ (st.upd [(r, some row)]).X C.X0 σ a.block := by
    intro a u h1 h2
    have hne : a.block ≠ b := fun e => h2 (.inr ⟨r, old, c, hr, by rw [e]; exact hs⟩)
    refine ⟨by rw [World.cell?_of_block (hother _ hne)]; exact h1, by rw [hX]; exact h2⟩
  refine h.core (fun _ h => h) (fun _ _ => rfl) hk rfl rfl rfl ?_ ?_ ?_ (by simpa using h.size) ?_
  · intro r' row' hr'
    rw [St.row_one] at hr'
    split at hr'
    · rename_i e
      subst e
      simp only [Option.some.injEq] at hr'
      subst hr'
      rw [hX] at hk ⊢
      exact .inr ⟨(h.rowsG _ _ hr).1, hw, hrow _ (fun x m l hx => Rel.mono (fun _ _ => rfl) hk x m l hx) hnew⟩
    · rename_i e
      refine .inl ⟨hr', fun b' c' hs' => hother _ (fun e' => e ?_)⟩
      subst e'
      exact h.inj _ _ _ _ _ _ _ hr hr' hs hs'
  · intro r1 r2 row1 row2 b' c1 c2 h1 h2 h3 h4
    rw [St.row_one] at h1 h2
    by_cases e1 : r = r1 <;> by_cases e2 : r = r2
    · rw [← e1, ← e2]
    · subst e1; rw [if_neg e2] at h2; exact h.inj _ _ _ _ _ _ _ hr h2 h3 h4
    · subst e2; rw [if_neg e1] at h1; exact h.inj _ _ _ _ _ _ _ h1 hr h3 h4
    · rw [if_neg e1] at h1; rw [if_neg e2] at h2; exact h.inj _ _ _ _ _ _ _ h1 h2 h3 h4
  · intro r1 row1 b' c1 h1 h2
    rw [St.row_one] at h1
    by_cases e1 : r = r1
    · subst e1; exact h.high _ _ _ _ hr h2
    · rw [if_neg e1] at h1; exact h.high _ _ _ _ h1 h2
  · have hB := h.high _ _ _ _ hr hs
    exact ⟨rfl, rfl, rfl, by simp, fun k hk hm => hother k (by rintro rfl; rcases hB with hB | hB; exact absurd hk (by omega); exact hm hB), fun k o2 ho hb => (hother k (by rintro rfl; rw [hh] at ho; cases ho; rw [hnb] at hb; cases hb)).trans ho⟩
end

theorem RelV.mapr {σ : Place} {w : World} {r : Nat} {u : Value} {X : Nat → Prop} : RelV σ w X (.mapr r) u ↔ ∃ b c, σ r = some (b, c) ∧ u = .map (some b) := by
  unfold RelV
  simp only [AV.isAgg, Rel]
  simp

section
variable {P : Program} {T : Tab} {env : Env} {h : Upds} {n : Nat}

/-- How a map's type is told. -/
def MapTy (P : Program) (t kt et : TypeId) : Prop := P.underlying t = some (.map kt et)

theorem make_map {t : TypeId} : StepIs P (.makeMap t none) env h n (some (.mapr n)) [(n, some (.mo .anil))] := .of_comes fun C G st σ w a o ho hA hd hst hn => by
  have hnn : ¬ G n := hn n (Nat.le_refl _) (by omega)
  have hnew := StRel.freshBy hst hnn (w' := w.alloc (.map #[] 0)) (by
      refine ⟨rfl, rfl, rfl, by simp, fun k hk _ => ?_⟩
      exact heap_alloc_old w _ hk) (Nat.le_refl _) (b := w.heap.size) (c := 1) (.mo .anil) trivial (fun σ' X' _ _ hs => ⟨w.heap.size, #[], by simp, hs, heap_alloc_new w _, rfl⟩)
  refine ⟨some (.mapr n), [(n, some (.mo .anil))], .value (.map (some w.heap.size)), .map (some w.heap.size), w.alloc (.map #[] 0), fun q => if q = n then some (w.heap.size, 1) else σ q, fun q => G q ∨ q = n, ⟨rfl, rfl⟩, ?_, .inl rfl, ?_, fun r hr => .inl hr, fun r hr => hr.imp id (fun e => by omega)⟩
  · simp [execOp, ho, Instr.makeMap]
  · rw [St.put_upd]
    exact hnew.set hd (RelV.mapr.2 ⟨w.heap.size, 1, by simp, rfl⟩) (.inr rfl)

/-- How keys of a type are told apart. -/
structure KeyTy (P : Program) (kt : TypeId) {κ : Type} [DecidableEq κ] (enc : κ → D) (m : Nat) : Prop where
  le : m ≤ 10000
  ok : ∀ k, KeyOk P m kt (enc k)
  eq : ∀ a b, EqOk P m kt (enc a) (enc b) (decide (a = b))
  find : ∀ (σ : Place) (w w1 : World) (X : Nat → Prop) (k : κ) (u : Value) (l : List (κ × AV)) (es : List MapEntry), RelV σ w X (.d (enc k)) u → EntRel σ w X enc l es →
    (Instr.findKey kt u es).run P w1 = (Instr.findAsking kt u es).run P w1
  keyd : ∀ k, (enc k).keyd

theorem KeyTy.check {kt : TypeId} {κ : Type} [DecidableEq κ] {enc : κ → D} {m : Nat} (K : KeyTy P kt enc m) {σ : Place} {w : World} {X : Nat → Prop} {k : κ} {u : Value} (hu : RelV σ w X (.d (enc k)) u) (em : Bool) :
    (Instr.checkKey em 10000 kt u).run P w = .ok () w := by
  have := (K.ok k) σ w X u em (10000 - m) hu
  rwa [show 10000 - m + m = 10000 by have := K.le; omega] at this

/-- What is found of a key. -/
theorem KeyTy.found {kt : TypeId} {κ : Type} [DecidableEq κ] {enc : κ → D} {m : Nat} (K : KeyTy P kt enc m) {σ : Place} {w : World} {X : Nat → Prop} {k : κ} {u : Value} {l : List (κ × AV)} {es : List MapEntry} (hu : RelV σ w X (.d (enc k)) u)
    (hl : EntRel σ w X enc l es) : match findC k l 0 with
      | none => (Instr.findKey kt u es).run P w = .ok none w
      | some (j, v) => ∃ e, (Instr.findKey kt u es).run P w = .ok (some (j, e.val)) w ∧ es[j]? = some e ∧ RelV σ w X (.d (enc k)) e.key ∧ RelV σ w X v e.val ∧ l[j]? = some (k, v) := by
  rw [K.find σ w w X k u l es hu hl]
  have := find_asking K.le K.eq hu l es 0 hl
  revert this
  cases findC k l 0 with
  | none => exact fun h => h
  | some q =>
    obtain ⟨j, v⟩ := q
    rintro ⟨e, h1, _, h2, h3, h4, q, h5, rfl⟩
    exact ⟨e, h1, by simpa using h2, h3, h4, by simpa using h5⟩

theorem mapC_within {κ : Type} {enc : κ → D} {G : Nat → Prop} : ∀ (l : List (κ × AV)), (mapC enc l).within G ↔ ∀ p ∈ l, p.2.within G
  | [] => by simp [mapC, AV.within]
  | (k, v) :: l => by simp [mapC, AV.within, mapC_within l]

/-- m[k], which is there. -/
theorem lookup_some {t kt et : TypeId} {κ : Type} [DecidableEq κ] {enc : κ → D} {m r j : Nat} {x y : Operand} {k : κ} {l : List (κ × AV)} {v : AV} (K : KeyTy P kt enc m) (ht : P.underlying t = some (.map kt et))
    (hx : evalA env x = some (.mapr r)) (hy : evalA env y = some (.d (enc k))) (hr : lookH h r = some (.mo (mapC enc l))) (hf : findC k l 0 = some (j, v)) :
    StepIs P (.lookup t x y false) env h n (some v) [] := .of_comes fun C G st σ w a o ho hA hd hst hn => by
  have h1 := (ev_sound hst (hA.ev hx)).1
  have h2 := (ev_sound hst (hA.ev hy)).1
  have hrow := hA.row _ _ hr
  obtain ⟨b, c, hs, hux⟩ := RelV.mapr.1 h1
  obtain ⟨b', es, hb1, hb2, hb3, hb4⟩ := hst.rows r _ hrow
  rw [hs] at hb2
  cases hb2
  have hl := (mapC_rel l _).1 hb4
  have hfd := K.found h2 hl
  rw [hf] at hfd
  obtain ⟨e, e1, e2, e3, e4, e5⟩ := hfd
  refine .quiet (u := e.val) hst hd ⟨rfl, rfl⟩ ?_ e4 ?_
  · have hget : (getObj b).run P w = .ok (.map es es.size) w := by simp [getObj, Sem.run, hb3]
    simp only [execOp, ho, Instr.lookup, Sem.run_bind, run_underlying ht, Result.andThen_ok, hux, hget, Sem.run_pure, K.check h2, e1]
    rfl
  · exact (mapC_within l).1 (hst.rowsG r _ hrow).2 (k, v) (List.mem_of_getElem? e5)

/-- The zero value of a type. -/
def ZeroIs (P : Program) (et : TypeId) (d : D) : Prop := ∃ i z, P.info? et = some i ∧ i.zero = some z ∧ ∀ (σ : Place) (w : World) (X : Nat → Prop), RelV σ w X (.d d) z

theorem ZeroIs.run {et : TypeId} {d : D} (hz : ZeroIs P et d) : ∃ z, (∀ w : World, (zeroValue et).run P w = .ok z w) ∧ ∀ (σ : Place) (w : World) (X : Nat → Prop), RelV σ w X (.d d) z := by
  obtain ⟨i, z, h1, h2, h3⟩ := hz
  exact ⟨z, fun w => by simp [zeroValue, typeInfo, h1, h2], h3⟩

theorem zero_of {et : TypeId} {d : D} (h1 : (P.info? et).map (fun i => i.zero) = some (some (zval d))) (h2 : d.okC = true) : ZeroIs P et d := by
  cases hi : P.info? et with
  | none => simp [hi] at h1
  | some i =>
    simp only [hi, Option.map_some, Option.some.injEq] at h1
    refine ⟨i, _, hi, h1, fun σ w X => ?_⟩
    have hc := Enc.closed w X d h2
    unfold RelV zval
    by_cases hag : d.isAgg = true
    · rw [if_pos (show (AV.d d).isAgg = true from hag), if_pos hag]
      exact ⟨d.flatC, rfl, hc⟩
    · rw [if_neg (show ¬ (AV.d d).isAgg = true from hag), if_neg hag]
      have hl := Enc.len _ _ hc
      have h1 : d.size = 1 := by cases d <;> first | rfl | simp [D.isAgg] at hag
      rw [h1] at hl
      match hf : d.flatC, hl with
      | [x], _ => rw [hf] at hc; exact hc

/-- m[k], which is not there. -/
theorem lookup_none {t kt et : TypeId} {κ : Type} [DecidableEq κ] {enc : κ → D} {m r : Nat} {x y : Operand} {k : κ} {l : List (κ × AV)} {d : D} (K : KeyTy P kt enc m) (ht : P.underlying t = some (.map kt et)) (hz : ZeroIs P et d)
    (hx : evalA env x = some (.mapr r)) (hy : evalA env y = some (.d (enc k))) (hr : lookH h r = some (.mo (mapC enc l))) (hf : findC k l 0 = none) :
    StepIs P (.lookup t x y false) env h n (some (.d d)) [] := .of_comes fun C G st σ w a o ho hA hd hst hn => by
  have h1 := (ev_sound hst (hA.ev hx)).1
  have h2 := (ev_sound hst (hA.ev hy)).1
  have hrow := hA.row _ _ hr
  obtain ⟨b, c, hs, hux⟩ := RelV.mapr.1 h1
  obtain ⟨b', es, hb1, hb2, hb3, hb4⟩ := hst.rows r _ hrow
  rw [hs] at hb2
  cases hb2
  have hl := (mapC_rel l _).1 hb4
  have hfd := K.found h2 hl
  rw [hf] at hfd
  obtain ⟨z, hz, hzr⟩ := hz.run
  refine .quiet (u := z) hst hd ⟨rfl, rfl⟩ ?_ (hzr _ _ _) trivial
  have hget : (getObj b).run P w = .ok (.map es es.size) w := by simp [getObj, Sem.run, hb3]
  simp only [execOp, ho, Instr.lookup, Sem.run_bind, run_underlying ht, Result.andThen_ok, hux, hget, Sem.run_pure, K.check h2, hfd, hz]
  rfl

theorem EntRel.len {κ : Type} {enc : κ → D} {σ : Place} {w : World} {X : Nat → Prop} : ∀ (l : List (κ × AV)) (es : List MapEntry), EntRel σ w X enc l es → es.length = l.length
  | [], es, h => by have e : es = [] := h; subst e; rfl
  | (k, v) :: l, es, h => by
    obtain ⟨e, es', rfl, _, _, h3⟩ := h
    simp [EntRel.len l es' h3]

theorem EntRel.snoc {κ : Type} {enc : κ → D} {σ : Place} {w : World} {X : Nat → Prop} {k : κ} {v : AV} {e : MapEntry} (hk : RelV σ w X (.d (enc k)) e.key) (hv : RelV σ w X v e.val) : ∀ (l : List (κ × AV)) (es : List MapEntry), EntRel σ w X enc l es → EntRel σ w X enc (l ++ [(k, v)]) (es ++ [e])
  | [], es, h => by
    rw [show es = [] from h]
    exact ⟨e, [], rfl, hk, hv, rfl⟩
  | (k', v') :: l, es, h => by
    obtain ⟨e', es', rfl, h1, h2, h3⟩ := h
    exact ⟨e', es' ++ [e], rfl, h1, h2, EntRel.snoc hk hv l es' h3⟩

/-- Another value at a place. -/
def putC {κ : Type} : List (κ × AV) → Nat → AV → List (κ × AV)
  | [], _, _ => []
  | (k, _) :: l, 0, v => (k, v) :: l
  | p :: l, j + 1, v => p :: putC l j v

theorem EntRel.put {κ : Type} {enc : κ → D} {σ : Place} {w : World} {X : Nat → Prop} {v : AV} {u : Value} (hv : RelV σ w X v u) : ∀ (l : List (κ × AV)) (es : List MapEntry) (j : Nat), EntRel σ w X enc l es → EntRel σ w X enc (putC l j v) (es.modify j fun e => { e with val := u })
  | [], es, j, h => by
    rw [show es = [] from h]
    cases j <;> exact rfl
  | (k', v') :: l, es, 0, h => by
    obtain ⟨e', es', rfl, h1, h2, h3⟩ := h
    exact ⟨{ e' with val := u }, es', rfl, h1, hv, h3⟩
  | (k', v') :: l, es, j + 1, h => by
    obtain ⟨e', es', rfl, h1, h2, h3⟩ := h
    exact ⟨e', es'.modify j _, rfl, h1, h2, EntRel.put hv l es' j h3⟩

theorem EntRel.mono {κ : Type} {enc : κ → D} {σ : Place} {w w' : World} {X X' G : Nat → Prop} (ht : ∀ (x : AV) (m : Bool) (l : List Value), x.within G → Rel σ w X x m l → Rel σ w' X' x m l) {l : List (κ × AV)} {es : List MapEntry} (hg : (mapC enc l).within G) (h : EntRel σ w X enc l es) : EntRel σ w' X' enc l es :=
  (mapC_rel l es).1 (ht _ _ _ hg ((mapC_rel l es).2 h))

end
end Go.Eng

/- Maps: entries that are written. -/
namespace Go.Eng
open Go.RowKit
section
variable {P : Program} {T : Tab} {env : Env} {h : Upds} {n : Nat}
theorem RelV.carry {σ : Place} {w w' : World} {X X' G : Nat → Prop} (ht : ∀ (x : AV) (m : Bool) (l : List Value), x.within G → Rel σ w X x m l → Rel σ w' X' x m l) {x : AV} {u : Value} (hg : x.within G) (h : RelV σ w X x u) : RelV σ w' X' x u := by
  unfold RelV at h ⊢
  by_cases hag : x.isAgg = true
  · rw [if_pos hag] at h ⊢
    obtain ⟨c, h5, h6⟩ := h
    exact ⟨c, h5, ht _ _ _ hg h6⟩
  · rw [if_neg hag] at h ⊢
    exact ht _ _ _ hg h

/-- The entry of a key that is there. -/
theorem entry_some {t kt et : TypeId} {κ : Type} [DecidableEq κ] {enc : κ → D} {m r j : Nat} {x y : Operand} {k : κ} {l : List (κ × AV)} {v : AV} (K : KeyTy P kt enc m) (ht : P.underlying t = some (.map kt et))
    (hx : evalA env x = some (.mapr r)) (hy : evalA env y = some (.d (enc k))) (hr : lookH h r = some (.mo (mapC enc l))) (hf : findC k l 0 = some (j, v)) :
    StepIs P (.mapEntry t x y) env h n (some (.tup (.acons v (.acons (.int .i64 j) .anil)))) [] := .of_comes fun C G st σ w a o ho hA hd hst hn => by
  have h1 := (ev_sound hst (hA.ev hx)).1
  have h2 := (ev_sound hst (hA.ev hy)).1
  have hrow := hA.row _ _ hr
  obtain ⟨b, c, hs, hux⟩ := RelV.mapr.1 h1
  obtain ⟨b', es, hb1, hb2, hb3, hb4⟩ := hst.rows r _ hrow
  rw [hs] at hb2
  cases hb2
  have hl := (mapC_rel l _).1 hb4
  have hfd := K.found h2 hl
  rw [hf] at hfd
  obtain ⟨e, e1, e2, e3, e4, e5⟩ := hfd
  obtain ⟨s1, s2⟩ := key_stays (P := P) (w1 := w) (K.keyd k) e3 h2
  have hej : es[j]? = some e := by simpa using e2
  have hsame : (es.modify j fun e => { e with key := a.eval y }) = es := by
    apply Array.ext'
    rw [Array.toList_modify]
    apply List.ext_getElem?
    intro i
    rw [List.getElem?_modify]
    by_cases hij : j = i
    · subst hij
      rw [e2]
      show some (if j = j then _ else _) = _
      rw [if_pos rfl, ← s2]
    · cases es.toList[i]? with
      | none => rfl
      | some q =>
        show some (if j = i then _ else _) = _
        rw [if_neg hij]
  have hw : ({ w with heap := w.heap.setIfInBounds b (.map es es.size) } : World) = w := by
    have : w.heap.setIfInBounds b (.map es es.size) = w.heap := by
      apply Array.ext_getElem?
      intro i
      rw [Array.getElem?_setIfInBounds]
      split
      · rename_i hi
        subst hi
        split
        · exact hb3.symm
        · rename_i hlt
          exact absurd (Array.getElem?_eq_some_iff.1 hb3).1 hlt
      · rfl
    rw [this]
  refine .quiet (u := .tuple #[e.val, goInt j]) hst hd ⟨rfl, rfl⟩ ?_ ?_ ?_
  · have hget : (getObj b).run P w = .ok (.map es es.size) w := by simp [getObj, Sem.run, hb3]
    have hset : (setObj b (.map es es.size)).run P w = .ok () w := by rw [run_setObj P w b _ hb3, hw]
    simp only [execOp, ho, Instr.mapEntry, Sem.run_bind, run_underlying ht, Result.andThen_ok, hux, hget, Sem.run_pure, K.check h2, e1, hej, Option.map_some, Option.getD_some, s1, hsame, hset, hb1 j e hej]
  · unfold RelV
    simp only [AV.isAgg]
    exact ⟨[e.val, goInt j], rfl, e.val, _, rfl, e4, goInt j, [], rfl, RelV.sc.2 ⟨rfl, rfl⟩, rfl⟩
  · exact ⟨(mapC_within l).1 (hst.rowsG r _ hrow).2 (k, v) (List.mem_of_getElem? e5), trivial, trivial⟩

end
end Go.Eng

/- Maps: new entries. -/
namespace Go.Eng
open Go.RowKit
section
variable {P : Program} {T : Tab} {env : Env} {h : Upds} {n : Nat}
/-- The entry of a new key. -/
theorem entry_none {t kt et : TypeId} {κ : Type} [DecidableEq κ] {enc : κ → D} {m r : Nat} {x y : Operand} {k : κ} {l : List (κ × AV)} {d : D} (K : KeyTy P kt enc m) (ht : P.underlying t = some (.map kt et)) (hz : ZeroIs P et d)
    (hx : evalA env x = some (.mapr r)) (hy : evalA env y = some (.d (enc k))) (hr : lookH h r = some (.mo (mapC enc l))) (hf : findC k l 0 = none) :
    StepIs P (.mapEntry t x y) env h n (some (.tup (.acons (.d d) (.acons (.int .i64 l.length) .anil)))) [(r, some (.mo (mapC enc (l ++ [(k, .d d)]))))] := .of_comes fun C G st σ w a o ho hA hd hst hn => by
  have h1 := (ev_sound hst (hA.ev hx)).1
  have h2 := (ev_sound hst (hA.ev hy)).1
  have hrow := hA.row _ _ hr
  obtain ⟨b, c, hs, hux⟩ := RelV.mapr.1 h1
  obtain ⟨b', es, hb1, hb2, hb3, hb4⟩ := hst.rows r _ hrow
  rw [hs] at hb2
  cases hb2
  have hl := (mapC_rel l _).1 hb4
  have hlen : es.size = l.length := by simpa using EntRel.len l _ hl
  have hfd := K.found h2 hl
  rw [hf] at hfd
  obtain ⟨z, hz, hzr⟩ := hz.run
  have hin : (mapC enc l).within G := (hst.rowsG r _ hrow).2
  have hst' := hst.writeObj (o' := .map (es.push { key := a.eval y, val := z, born := es.size }) (es.push { key := a.eval y, val := z, born := es.size }).size) (row := .mo (mapC enc (l ++ [(k, .d d)]))) hrow hs hb3 rfl
    ((mapC_within _).2 fun p hp => by
      rcases List.mem_append.1 hp with hp | hp
      · exact (mapC_within l).1 hin p hp
      · simp at hp; subst hp; trivial)
    (fun w' ht' hh' => ⟨b, _, fun i e he => by
      rw [Array.getElem?_push] at he
      split at he
      · rename_i hi; cases he; exact hi.symm
      · exact hb1 i e he, hs, hh', (mapC_rel _ _).2 (by
        rw [Array.toList_push]
        exact EntRel.snoc (RelV.carry (G := G) ht' trivial h2) (hzr _ _ _) l _ (EntRel.mono ht' hin hl))⟩)
  refine ⟨_, _, .value (.tuple #[z, goInt es.size]), .tuple #[z, goInt es.size], { w with heap := w.heap.setIfInBounds b (.map (es.push { key := a.eval y, val := z, born := es.size }) (es.push { key := a.eval y, val := z, born := es.size }).size) }, σ, G, ⟨rfl, rfl⟩, ?_, .inl rfl, ?_, fun _ h => h, fun _ h => .inl h⟩
  · have hget : (getObj b).run P w = .ok (.map es es.size) w := by simp [getObj, Sem.run, hb3]
    have hset := run_setObj P w b (.map (es.push { key := a.eval y, val := z, born := es.size }) (es.size + 1)) hb3
    simp only [execOp, ho, Instr.mapEntry, Sem.run_bind, run_underlying ht, Result.andThen_ok, hux, hget, Sem.run_pure, K.check h2, hfd, hz, hset]
    rw [Array.size_push]
  · rw [St.put_upd]
    refine hst'.set hd ?_ ⟨trivial, trivial, trivial⟩
    unfold RelV
    simp only [AV.isAgg]
    exact ⟨[z, goInt es.size], rfl, z, _, rfl, hzr _ _ _, goInt es.size, [], rfl, by rw [hlen]; exact RelV.sc.2 ⟨rfl, rfl⟩, rfl⟩

end
end Go.Eng

/- Maps: values put. -/
namespace Go.Eng
open Go.RowKit
section
variable {P : Program} {T : Tab} {env : Env} {h : Upds} {n : Nat}
theorem find_born {es : Array MapEntry} (hb : ∀ (i : Nat) (e : MapEntry), es[i]? = some e → e.born = i) {j : Nat} (hj : j < es.size) : es.findIdx? (fun e => (e.born : Int) == (j : Int)) = some j := by
  rw [Array.findIdx?_eq_some_iff_getElem]
  refine ⟨hj, ?_, fun i hi => ?_⟩
  · have := hb j es[j] (by simp)
    simp [this]
  · have := hb i es[i] (by simp)
    simp [this]; omega

/-- A value is put at an entry. -/
theorem entry_store {t : TypeId} {κ : Type} {enc : κ → D} {r j : Nat} {x y z : Operand} {l : List (κ × AV)} {v : AV} (hj : j < l.length)
    (hx : evalA env x = some (.mapr r)) (hy : evalA env y = some (.int .i64 j)) (hz : evalA env z = some v) (hr : lookH h r = some (.mo (mapC enc l))) :
    StepIs P (.entryStore t x y z) env h n none [(r, some (.mo (mapC enc (putC l j v))))] := .of_comes fun C G st σ w a o ho hA hd hst hn => by
  have h1 := (ev_sound hst (hA.ev hx)).1
  have h2 := (ev_sound hst (hA.ev hy)).1
  obtain ⟨h3, h4⟩ := ev_sound hst (hA.ev hz)
  have hrow := hA.row _ _ hr
  obtain ⟨b, c, hs, hux⟩ := RelV.mapr.1 h1
  obtain ⟨b', es, hb1, hb2, hb3, hb4⟩ := hst.rows r _ hrow
  rw [hs] at hb2
  cases hb2
  have hl := (mapC_rel l _).1 hb4
  have hlen : es.size = l.length := by simpa using EntRel.len l _ hl
  have hin : (mapC enc l).within G := (hst.rowsG r _ hrow).2
  have huy := (RelV.sc.1 h2).1
  have hmem : ∀ (l : List (κ × AV)) (j : Nat) (p : κ × AV), p ∈ putC l j v → p.2 = v ∨ ∃ q ∈ l, q.2 = p.2 := by
    intro l
    induction l with
    | nil => intro j p hp; simp [putC] at hp
    | cons q l ih =>
      intro j p hp
      cases j with
      | zero =>
        simp only [putC, List.mem_cons] at hp
        rcases hp with hp | hp
        · exact .inl (by rw [hp])
        · exact .inr ⟨p, by simp [hp], rfl⟩
      | succ j =>
        simp only [putC, List.mem_cons] at hp
        rcases hp with hp | hp
        · exact .inr ⟨q, by simp, by rw [hp]⟩
        · rcases ih j p hp with h | ⟨q', h5, h6⟩
          · exact .inl h
          · exact .inr ⟨q', by simp [h5], h6⟩
  have hst' := hst.writeObj (o' := .map (es.modify j fun e => { e with val := a.eval z }) (es.modify j fun e => { e with val := a.eval z }).size) (row := .mo (mapC enc (putC l j v))) hrow hs hb3 rfl
    ((mapC_within _).2 fun p hp => by
      rcases hmem l j p hp with h | ⟨q, h5, h6⟩
      · rw [h]; exact h4
      · rw [← h6]; exact (mapC_within l).1 hin q h5)
    (fun w' ht' hh' => ⟨b, _, fun i e he => by
      rw [Array.getElem?_modify] at he
      split at he
      · cases hi : es[i]? with
        | none => rw [hi] at he; cases he
        | some e0 => rw [hi] at he; cases he; exact hb1 i e0 hi
      · exact hb1 i e he, hs, hh', (mapC_rel _ _).2 (by
        rw [Array.toList_modify]
        refine EntRel.put ?_ l _ j (EntRel.mono ht' hin hl)
        exact RelV.carry (G := G) ht' h4 h3)⟩)
  refine ⟨none, _, .skip, undef, { w with heap := w.heap.setIfInBounds b (.map (es.modify j fun e => { e with val := a.eval z }) (es.modify j fun e => { e with val := a.eval z }).size) }, σ, G, ⟨rfl, rfl⟩, ?_, .inr ⟨rfl, rfl⟩, ?_, fun _ h => h, fun _ h => .inl h⟩
  · have hget : (getObj b).run P w = .ok (.map es es.size) w := by simp [getObj, Sem.run, hb3]
    have hset := run_setObj P w b (.map (es.modify j fun e => { e with val := a.eval z }) es.size) hb3
    have hfi := find_born hb1 (j := j) (by omega)
    simp only [execOp, ho, Instr.entryStore, hux, huy, Sem.run_bind, hget, Result.andThen_ok, asInt, asIntOf, Sem.run_pure, hfi, hset, Array.size_modify]
  · rw [St.put_upd]
    exact hst'.set hd (v := none) (undef_rel _ _ _) trivial

/-- Keys that are structs or arrays. -/
theorem keyTy_wide {kt : TypeId} {κ : Type} [DecidableEq κ] {enc : κ → D} {m : Nat} (hm : m ≤ 10000) (hw : (match P.underlying kt with | some (.array _ _) | some (.struct _) => true | _ => false) = true)
    (hok : ∀ k, KeyOk P m kt (enc k)) (heq : ∀ a b, EqOk P m kt (enc a) (enc b) (decide (a = b))) (hk : ∀ k, (enc k).keyd) : KeyTy P kt enc m :=
  ⟨hm, hok, heq, fun _ _ w1 _ _ u _ es _ _ => run_findKey_eq w1 hw u es, hk⟩

/-- len of a map. -/
theorem len_map {t kt et : TypeId} {r : Nat} {x : Operand} {κ : Type} {enc : κ → D} {l : List (κ × AV)} (ht : P.underlying t = some (.map kt et)) (hx : evalA env x = some (.mapr r)) (hr : lookH h r = some (.mo (mapC enc l))) :
    StepIs P (.call { callee := .builtin .len, args := #[x], argTypes := #[t] }) env h n (some (.int .i64 l.length)) [] := .of_comes fun C G st σ w a o ho hA hd hst hn => by
  have h1 := (ev_sound hst (hA.ev hx)).1
  have hrow := hA.row _ _ hr
  obtain ⟨b, c, hs, hux⟩ := RelV.mapr.1 h1
  obtain ⟨b', es, hb1, hb2, hb3, hb4⟩ := hst.rows r _ hrow
  rw [hs] at hb2
  cases hb2
  have hl := (mapC_rel l _).1 hb4
  have hlen : es.size = l.length := by simpa using EntRel.len l _ hl
  refine .quiet (u := .int .i64 l.length) hst hd ⟨rfl, rfl⟩ ?_ (RelV.sc.2 ⟨rfl, rfl⟩) trivial
  have hget : (getObj b).run P w = .ok (.map es es.size) w := by simp [getObj, Sem.run, hb3]
  have hb : (Builtin.len_ #[t] o.type #[a.eval x]).run P w = .ok (goInt l.length) w := by
    simp [Builtin.len_, run_underlying ht, hget, hux, hlen]
  simp [execOp, ho, resolve, invoke, builtin, hb, goInt]
end
end Go.Eng

/- append(nil, make([]T, m)...): new memory of which nothing is told. -/
namespace Go.Eng
open Go.RowKit
section
variable {P : Program} {T : Tab} {env : Env} {h : Upds} {n : Nat}
theorem append_zeros (hT : TabOk P T) {t tn e : Nat} {re : TyR} {s : Nat} {kn k : IntKind} {α : Type} (enc : α → D) {x y : Operand} {m : Nat} (ht : tdesc T t = some (.slice e)) (htn : P.underlying tn = some (.int kn)) (he : lk T e = some re) (hs : Nat.beq re.size s = true) (hs0 : Nat.blt 0 s = true)
    (hx : evalA env x = some (.d (.sc (.slice none 0 0)))) (hy : evalA env y = some (.int k m)) (hm : 0 < m) (hlen : m ≤ 1048576) (hbytes : Nat.ble re.bytes 134217728 = true) :
    StepIs P (.call { callee := .builtin .append, args := #[x, y], argTypes := #[t, tn] }) env h n (some (.own n 0 m s none)) [(n, some (.ds e s false enc []))] := .of_comes fun C G st σ w a o ho hA hdst hst hn => by
  have hs0 := Nat.le_of_ble_eq_true hs0
  have hs := Nat.eq_of_beq_eq_true hs
  have hb := Nat.le_of_ble_eq_true hbytes
  obtain ⟨ud, hud, hdd⟩ := tdesc_und hT ht
  cases hdd
  obtain ⟨i, zv, hi, hi1, hi2, hi3, hi4⟩ := (hT e re he).info
  obtain ⟨hx1, _⟩ := RelV.sc.1 (ev_sound hst (hA.ev hx)).1
  obtain ⟨hy1, _⟩ := RelV.sc.1 (ev_sound hst (hA.ev hy)).1
  have hzl : zv.cells.size = s := by
    have h1 := Enc.len _ _ (Enc.closed w (fun _ => False) _ (hT e re he).zero)
    rw [hi4, (hT e re he).zsize, hs] at h1
    simpa using h1
  have hnn : ¬ G n := hn n (Nat.le_refl _) (by omega)
  have hbb : m * i.bytes ≤ 281474976710656 := by
    rw [hi2]
    exact Nat.le_trans (Nat.mul_le_mul hlen hb) (by decide)
  have hrun := Lib.run_append_nil_zeros (P := P) w t tn o.type e i zv k kn hud htn hi hi3 m hm (by omega) (by omega) hbb
  have hge := grownCap_ge w m 0 e
  have hmax := grownCap_le_maxLen w m 0 e (show m ≤ maxLen by simp only [maxLen]; omega)
  have hnew := StRel.freshBy hst hnn (w' := w.drew.alloc (.cells (Builtin.zeroCells zv.cells m ++ Builtin.zeroCells zv.cells (grownCap w m 0 e - m)) e)) (grown_fresh w _ _) (Nat.le_refl _) (b := w.heap.size) (c := grownCap w m 0 e) (.ds e s false enc []) trivial
    (fun σ' X' _ _ hσn => .inr ⟨w.heap.size, grownCap w m 0 e, _, hσn, (fun e => by cases e), heap_alloc_new w.drew _, by
      simp only [Array.size_append, size_zeroCells, hzl, ← Nat.add_mul]
      congr 1; omega, Nat.zero_le _, hmax, fun _ => [], fun i hi => by simp at hi, by simp [cat]⟩)
  refine ⟨_, _, .value (.slice (some ⟨w.heap.size, 0, none⟩) m (grownCap w m 0 e)), .slice (some ⟨w.heap.size, 0, none⟩) m (grownCap w m 0 e), _, _, fun q => G q ∨ q = n, ⟨rfl, rfl⟩, ?_, .inl rfl, by rw [St.put_upd]; exact hnew.set hdst (RelV.own.2 (.inr ⟨w.heap.size, grownCap w m 0 e, ⟨w.heap.size, 0, none⟩, by simp, by simp, by simpa using hge, by simp, by simpa using hge, fun _ => by simp⟩)) (.inr rfl), fun r hr => Or.inl hr, fun r hr => Or.imp id (fun h => ⟨by omega, by omega⟩) hr⟩
  simp [execOp, ho, resolve, invoke, builtin, hx1, hy1, hrun]

/-- s[:0] of the nil slice. -/
theorem slice_n0 (hT : TabOk P T) {t e : Nat} {re : TyR} {x j : Operand} {k' : IntKind} (ht : tdesc T t = some (.slice e)) (he : lk T e = some re)
    (hx : evalA env x = some (.d (.sc (.slice none 0 0)))) (hj : evalA env j = some (.int k' 0)) : StepIs P (.slice t x none (some j) none) env h n (some (.d (.sc (.slice none 0 0)))) [] := .of_comes fun C G st σ w a o ho hA hdst hst hn => by
  obtain ⟨ud, hud, hdd⟩ := tdesc_und hT ht
  cases hdd
  obtain ⟨hv, _⟩ := RelV.sc.1 (ev_sound hst (hA.ev hx)).1
  obtain ⟨hj1, _⟩ := RelV.sc.1 (ev_sound hst (hA.ev hj)).1
  have hsz := (hT e re he).run_size (P := P)
  refine .quiet (u := .slice none 0 0) hst hdst ⟨rfl, rfl⟩ ?_ (RelV.sc.2 ⟨rfl, rfl⟩) trivial
  simp [execOp, ho, Instr.sliceAt, Instr.slice, hv, hj1, run_underlying hud, Instr.sliceBounds, Instr.sliceBound, asIntOf, hsz, Sem.run_bind, Sem.run_pure, Result.andThen_ok]
end
end Go.Eng

/- Nothing appended to an owned slice. -/
set_option linter.unusedSimpArgs false
namespace Go.Eng
open Go.RowKit
section
variable {P : Program} {T : Tab} {env : Env} {h : Upds} {n : Nat}
theorem append_own_e (hT : TabOk P T) {t e r len : Nat} {re : TyR} {x y : Operand} {α : Type} {s s' : Nat} {cap : Option Nat} {enc : α → D} (ht : tdesc T t = some (.slice e)) (he : lk T e = some re)
    (hx : evalA env x = some (.own r 0 len s cap)) (hy : evalA env y = some (.d (.arr s' enc ([] : List α)))) :
    StepIs P (.call { callee := .builtin .append, args := #[x, y], argTypes := #[t, t] }) env h n (some (.own r 0 len s cap)) [] := .of_comes fun C G st σ w ac o ho hA hd hst hn => by
  obtain ⟨ud, hud, hdd⟩ := tdesc_und hT ht
  cases hdd
  obtain ⟨hx1, hx2⟩ := ev_sound hst (hA.ev hx)
  obtain ⟨hy1, _⟩ := ev_sound hst (hA.ev hy)
  have hsz := (hT e re he).run_size (P := P)
  have h0 : ∀ a : Addr, (loadCells a 0).run P w = .ok #[] w := fun a => by simpa using run_loadCells_list (P := P) w a [] (by simp)
  refine .quiet (u := ac.eval x) hst hd ⟨rfl, rfl⟩ ?_ hx1 hx2
  rcases RelV.own.1 hx1 with ⟨_, _, _, _, hv⟩ | ⟨b, c, ad, _, hv, _, _, hle, _⟩
  · rcases RelV.arr.1 hy1 with ⟨_, hu⟩ | ⟨a, c, hu, _⟩
    · simp [execOp, ho, resolve, invoke, builtin, Builtin.append_, hv, hu, run_underlying hud, hsz, Builtin.lenOf, Builtin.firstCells, storeCells, Sem.run_bind, Sem.run_pure, Result.andThen_ok, nil_]
    · simp [execOp, ho, resolve, invoke, builtin, Builtin.append_, hv, hu, run_underlying hud, hsz, Builtin.lenOf, Builtin.firstCells, h0, storeCells, Sem.run_bind, Sem.run_pure, Result.andThen_ok, nil_]
  · have hle' : ¬ (cap.getD (c - 0) < len) := by omega
    simp only [Nat.sub_zero] at hv hle hle'
    rcases RelV.arr.1 hy1 with ⟨_, hu⟩ | ⟨a, c', hu, _⟩
    · simp [execOp, ho, resolve, invoke, builtin, Builtin.append_, hv, hu, run_underlying hud, hsz, Builtin.lenOf, Builtin.firstCells, storeCells, Sem.run_bind, Sem.run_pure, Result.andThen_ok, hle, hle']
    · simp [execOp, ho, resolve, invoke, builtin, Builtin.append_, hv, hu, run_underlying hud, hsz, Builtin.lenOf, Builtin.firstCells, h0, storeCells, Sem.run_bind, Sem.run_pure, Result.andThen_ok, hle, hle']
end
end Go.Eng

/- Rows of a list of any length in the state: the names 1000, 1001, .. -/
namespace Go.Eng
open Go.RowKit

def numRows : Nat → List Row → Upds
  | _, [] => []
  | b, row :: l => (b, some row) :: numRows (b + 1) l

theorem lk_num : ∀ (l : List Row) (b r : Nat), lk (numRows b l) r = if b ≤ r then (l[r - b]?).map some else none
  | [], b, r => by simp [numRows, lk]
  | row :: l, b, r => by
    simp only [numRows, lk_cons, lk_num l]
    by_cases h : b = r
    · subst h; simp
    · rw [if_neg h]
      by_cases h2 : b ≤ r
      · rw [if_pos h2, if_pos (by omega), show r - b = (r - (b + 1)) + 1 by omega, List.getElem?_cons_succ]
      · rw [if_neg h2, if_neg (by omega)]

theorem keys_num : ∀ (l : List Row) (b r : Nat), r ∈ keysOf (numRows b l) → b ≤ r ∧ r < b + l.length
  | [], b, r, h => by simp [numRows, keysOf] at h
  | row :: l, b, r, h => by
    simp only [numRows, keysOf, List.mem_cons] at h
    rcases h with rfl | h
    · simp
    · have := keys_num l (b + 1) r h
      simp only [List.length_cons]; omega

theorem keys_app : ∀ (a b : Upds) (r : Nat), r ∈ keysOf (a ++ b) → r ∈ keysOf a ∨ r ∈ keysOf b
  | [], b, r, h => .inr h
  | (j, x) :: a, b, r, h => by
    simp only [List.cons_append, keysOf, List.mem_cons] at h ⊢
    rcases h with h | h
    · exact .inl (.inl h)
    · exact (keys_app a b r h).imp .inr id

theorem lk_app : ∀ (a b : Upds) (r : Nat), lk (a ++ b) r = match lk a r with | some x => some x | none => lk b r
  | [], b, r => rfl
  | (j, x) :: a, b, r => by
    simp only [List.cons_append, lk_cons]
    split
    · rfl
    · exact lk_app a b r

/-- A name that is none of the list's. -/
def farN (a : Nat) : Bool := bif Nat.blt a 1000 then true else Nat.ble 100000 a

theorem farN_out {a : Nat} (h : farN a = true) : a < 1000 ∨ 100000 ≤ a := by
  simp only [farN] at h
  cases h1 : Nat.blt a 1000 with
  | true => exact .inl (Nat.le_of_ble_eq_true h1)
  | false => rw [h1] at h; exact .inr (Nat.le_of_ble_eq_true h)

theorem far {a r : Nat} {y : Option Row} {l : Upds} {x : Option Row} (ha : farN a = true) (hr : 1000 ≤ r ∧ r < 100000) (h : lookH l r = x) : lookH ((a, y) :: l) r = x := by
  have := farN_out ha
  rw [← h]
  simp only [lookH, lk_cons]
  rw [if_neg (by omega)]

theorem look_num {l : List Row} {i : Nat} {row : Row} (h : l[i]? = some row) : lookH (numRows 1000 l) (1000 + i) = some row := by
  simp only [lookH, lk_num]
  rw [if_pos (by omega), show 1000 + i - 1000 = i by omega, h]
  rfl

theorem rho_app : ∀ (a b : Names) (r : Nat), (∃ k, rho (a ++ b) r = k ∧ (∀ b', rho (a ++ b') r = k) ∧ ∃ p ∈ a, p.1 = r) ∨ (rho (a ++ b) r = rho b r ∧ rho a r = some r)
  | [], b, r => .inr ⟨rfl, rfl⟩
  | (j, k) :: a, b, r => by
    by_cases h : j = r
    · subst h
      exact .inl ⟨k, by simp [rho, Nat.beq_refl], fun b' => by simp [rho, Nat.beq_refl], (j, k), by simp, rfl⟩
    · have hb : Nat.beq j r = false := by
        cases hc : Nat.beq j r with
        | true => exact absurd (Nat.eq_of_beq_eq_true hc) h
        | false => rfl
      rcases rho_app a b r with ⟨k', h1, h2, p, h3, h4⟩ | ⟨h1, h2⟩
      · exact .inl ⟨k', by simp [rho, hb, h1], fun b' => by simp [rho, hb, h2 b'], p, by simp [h3], h4⟩
      · exact .inr ⟨by simp [rho, hb, h1], by simp [rho, hb, h2]⟩

theorem injOn_in {ρ : Nat → Option Nat} : ∀ (l : List Nat), (∀ i j k, i ∈ l → j ∈ l → ρ i = some k → ρ j = some k → i = j) → injOn ρ l = true
  | [], _ => rfl
  | r :: l, h => by
    simp only [injOn]
    rw [injOn_in l fun i j k hi hj => h i j k (by simp [hi]) (by simp [hj]), cond_true]
    cases hr : ρ r with
    | none => rfl
    | some k =>
      simp only [Bool.not_eq_true', List.any_eq_false]
      intro j hj
      cases hb : Nat.beq j r with
      | true => simp
      | false =>
        simp only [cond_false]
        cases hx : ρ j with
        | none => simp
        | some x =>
          simp only
          intro e
          have := Nat.eq_of_beq_eq_true e
          subst this
          have := h j r x (by simp [hj]) (by simp) hx hr
          subst this
          rw [Nat.beq_refl] at hb
          cases hb

theorem namesFrom_app {bs : Nat} : ∀ (a b : Names), namesFrom bs a = true → namesFrom bs b = true → namesFrom bs (a ++ b) = true
  | [], _, _, h => h
  | (j, k) :: a, b, h1, h2 => by
    simp only [List.cons_append, namesFrom] at h1 ⊢
    cases hj : Nat.ble bs j <;> simp only [hj, cond_true, cond_false] at h1 ⊢
    · cases h1
    · exact namesFrom_app a b h1 h2

/-- The concrete rows and their images keep out of the list. -/
def concOk (l0 : Names) (N : Nat) : Upds → Bool
  | [] => true
  | (r, _) :: l => bif farN r then (match rho l0 r with
    | some k => bif farN k then (bif Nat.beq k N then false else concOk l0 N l) else false
    | none => concOk l0 N l) else false

theorem concOk_out {l0 : Names} {N : Nat} : ∀ (l : Upds), concOk l0 N l = true → ∀ r, r ∈ keysOf l → farN r = true ∧ ∀ k, rho l0 r = some k → farN k = true ∧ k ≠ N
  | [], _, r, h => by simp [keysOf] at h
  | (a, x) :: l, h, r, hr => by
    simp only [concOk] at h
    cases hf : farN a <;> simp only [hf, cond_true, cond_false] at h
    · cases h
    cases hk : rho l0 a with
    | none =>
      rw [hk] at h
      simp only [keysOf, List.mem_cons] at hr
      rcases hr with rfl | hr
      · exact ⟨hf, fun k e => by rw [hk] at e; cases e⟩
      · exact concOk_out l h r hr
    | some k =>
      rw [hk] at h
      simp only at h
      cases hfk : farN k <;> simp only [hfk, cond_true, cond_false] at h
      · cases h
      cases hb : Nat.beq k N <;> simp only [hb, cond_true, cond_false] at h
      · simp only [keysOf, List.mem_cons] at hr
        rcases hr with rfl | hr
        · refine ⟨hf, fun k' e => ?_⟩
          rw [hk] at e
          cases e
          exact ⟨hfk, Nat.ne_of_beq_eq_false hb⟩
        · exact concOk_out l h r hr
      · cases h

/-- Where the list's rows lie now: the row j is N. -/
def nameAt (j N i : Nat) : Nat := if i = j then N else 1000 + i

theorem rho_tail {l0 : Names} {j N i : Nat} (hd : ∀ p ∈ l0, p.1 < 1000 ∨ 100000 ≤ p.1) (hi : i < 99000) : rho (l0 ++ [(1000 + j, some N)]) (1000 + i) = some (nameAt j N i) := by
  rcases rho_app l0 [(1000 + j, some N)] (1000 + i) with ⟨k, _, _, p, h3, h4⟩ | ⟨h1, _⟩
  · have := hd p h3; omega
  · rw [h1]
    simp only [rho, nameAt]
    by_cases e : i = j
    · subst e; simp [Nat.beq_refl]
    · rw [if_neg e]
      have : Nat.beq (1000 + j) (1000 + i) = false := by
        cases hc : Nat.beq (1000 + j) (1000 + i) with
        | true => have := Nat.eq_of_beq_eq_true hc; omega
        | false => rfl
      rw [this]; rfl

def domFar : Names → Bool
  | [] => true
  | (r, _) :: l => bif farN r then domFar l else false
theorem domFar_out : ∀ (l : Names), domFar l = true → ∀ p ∈ l, p.1 < 1000 ∨ 100000 ≤ p.1
  | [], _, p, h => by simp at h
  | (r, k) :: l, h, p, hp => by
    simp only [domFar] at h
    cases hf : farN r <;> simp only [hf, cond_true, cond_false] at h
    · cases h
    simp only [List.mem_cons] at hp
    rcases hp with rfl | hp
    · exact farN_out hf
    · exact domFar_out l h p hp

theorem rho_conc {l0 : Names} {j N r : Nat} (hr : farN r = true) : rho (l0 ++ [(1000 + j, some N)]) r = rho l0 r ∨ 99000 ≤ j := by
  rcases rho_app l0 [(1000 + j, some N)] r with ⟨k, h1, h2, _⟩ | ⟨h1, h2⟩
  · have := h2 []
    rw [List.append_nil] at this
    exact .inl (h1.trans this.symm)
  · rcases farN_out hr with h | h
    · left; rw [h1, h2]
      have : Nat.beq (1000 + j) r = false := by
        cases hc : Nat.beq (1000 + j) r with
        | true => have := Nat.eq_of_beq_eq_true hc; omega
        | false => rfl
      simp [rho, this]
    · by_cases hj : 99000 ≤ j
      · exact .inr hj
      · left; rw [h1, h2]
        have : Nat.beq (1000 + j) r = false := by
          cases hc : Nat.beq (1000 + j) r with
          | true => have := Nat.eq_of_beq_eq_true hc; omega
          | false => rfl
        simp [rho, this]

/-- Saying less, the rows of a list being behind the written ones. -/
theorem Le.tail {l0 : Names} {st : St} {env' : Env} {h' : Upds} {R' : List Row} {n' sz' bs' j N : Nat} (hsz : sz' = st.sz) (hbs : bs' = st.bs) (hnx : Nat.ble bs' n' = true) (hn' : Nat.ble 100000 n' = true)
    (hb : Nat.ble bs' 1000 = true) (hnm : namesFrom bs' l0 = true) (hdom : domFar l0 = true) (hN : Nat.ble 100000 N = true) (hinj : injOn (rho l0) (keysOf h') = true) (hconc : concOk l0 N h' = true) (hj : j < 99000) (hR : R'.length ≤ 99000)
    (henv : LeEnv (rho (l0 ++ [(1000 + j, some N)])) st.env n' env') (hrows : LeRows (rho (l0 ++ [(1000 + j, some N)])) st n' h')
    (htail : ∀ i row, R'[i]? = some row → row.lt n' = true ∧ ∃ x, st.row (nameAt j N i) = some x ∧ RowLe x (row.ren (rho (l0 ++ [(1000 + j, some N)])))) :
    Le (l0 ++ [(1000 + j, some N)]) st ⟨env', h' ++ numRows 1000 R', n', sz', bs'⟩ := by
  have hd := domFar_out l0 hdom
  have hN' := Nat.le_of_ble_eq_true hN
  have hn2 := Nat.le_of_ble_eq_true hn'
  have hb2 := Nat.le_of_ble_eq_true hb
  refine ⟨?_, hsz, hbs, hnx, ?_, ?_, ?_⟩
  · refine injOn_in _ fun a b k ha hb h1 h2 => ?_
    have tl : ∀ a, a ∈ keysOf (numRows 1000 R') → ∃ i, a = 1000 + i ∧ i < 99000 ∧ rho (l0 ++ [(1000 + j, some N)]) a = some (nameAt j N i) := by
      intro a ha
      have := keys_num _ _ _ ha
      refine ⟨a - 1000, by omega, by omega, ?_⟩
      have := rho_tail (l0 := l0) (j := j) (N := N) (i := a - 1000) hd (by omega)
      rwa [show 1000 + (a - 1000) = a by omega] at this
    have cn : ∀ a k, a ∈ keysOf h' → rho (l0 ++ [(1000 + j, some N)]) a = some k → rho l0 a = some k ∧ farN k = true ∧ k ≠ N := by
      intro a k ha hk
      obtain ⟨h3, h4⟩ := concOk_out h' hconc a ha
      rcases rho_conc (l0 := l0) (j := j) (N := N) h3 with h | h
      · rw [h] at hk
        exact ⟨hk, h4 k hk⟩
      · omega
    have mix : ∀ i k, i < 99000 → farN k = true → k ≠ N → nameAt j N i ≠ k := by
      intro i k hi hf hk
      have := farN_out hf
      unfold nameAt
      split
      · exact fun e => hk e.symm
      · omega
    rcases keys_app _ _ _ ha with ha | ha <;> rcases keys_app _ _ _ hb with hb | hb
    · exact injOn_out _ hinj a b k ha hb (cn a k ha h1).1 (cn b k hb h2).1
    · obtain ⟨i, _, hi, e⟩ := tl b hb
      rw [h2] at e
      cases e
      have := cn a _ ha h1
      exact absurd rfl (mix i _ hi this.2.1 this.2.2)
    · obtain ⟨i, _, hi, e⟩ := tl a ha
      rw [h1] at e
      cases e
      have := cn b _ hb h2
      exact absurd rfl (mix i _ hi this.2.1 this.2.2)
    · obtain ⟨i, rfl, hi, e⟩ := tl a ha
      obtain ⟨i', rfl, hi', e'⟩ := tl b hb
      rw [h1] at e
      rw [h2] at e'
      cases e
      simp only [Option.some.injEq] at e'
      unfold nameAt at e'
      split at e' <;> split at e' <;> omega
  · refine namesFrom_app _ _ hnm ?_
    simp only [namesFrom]
    have : Nat.ble bs' (1000 + j) = true := Nat.ble_eq_true_of_le (by omega)
    rw [this]; rfl
  · exact fun i v hi => LeEnv.out _ henv i v hi
  · intro r row hr
    rw [lk_app] at hr
    cases hc : lk h' r with
    | some x =>
      rw [hc] at hr
      exact LeRows.out _ hrows r row (by rw [hc]; exact hr)
    | none =>
      rw [hc] at hr
      simp only [lk_num] at hr
      split at hr
      · rename_i hle
        cases hg : R'[r - 1000]? with
        | none => rw [hg] at hr; cases hr
        | some row' =>
          rw [hg] at hr
          simp only [Option.map_some, Option.bind_some, id] at hr
          cases hr
          obtain ⟨h1, x, h2, h3⟩ := htail _ _ hg
          have hlt := (List.getElem?_eq_some_iff.1 hg).1
          refine ⟨show r < n' by omega, h1, ?_⟩
          have := rho_tail (l0 := l0) (j := j) (N := N) (i := r - 1000) hd (by omega)
          rw [show 1000 + (r - 1000) = r by omega] at this
          rw [this]
          exact ⟨x, h2, h3⟩
      · cases hr

section
variable {P : Program} {T : Tab} {sz : Nat} {env : Env} {h : Upds} {n : Nat}

/-- append(nil, x). -/
theorem append_nil_one (hT : TabOk P T) {t e r2 : Nat} {re : TyR} {s : Nat} {ex2 : Bool} {cap2 : Option Nat} {α : Type} {enc : α → D} {x y : Operand} {d : D} (el : α) (ht : tdesc T t = some (.slice e)) (he : lk T e = some re) (hs : Nat.beq re.size s = true)
    (hx : evalA env x = some (.d (.sc (.slice none 0 0)))) (hy : evalA env y = some (.own r2 0 1 s cap2)) (hrow2 : lookH h r2 = some (.lits e s 1 ex2 (.acons (.d d) .anil))) (hd : d = enc el) (hbytes : Nat.ble re.bytes 134217728 = true) :
    StepIs P (.call { callee := .builtin .append, args := #[x, y], argTypes := #[t, t] }) env h n (some (.own n 0 1 s none)) [(n, some (.ds e s false enc [el]))] := by
  have hb := Nat.le_of_ble_eq_true hbytes
  refine append_empty (ys := [el]) hT ht he (Nat.eq_of_beq_eq_true hs) hx (.inr rfl) (by simp) (by simp [maxLen]) (by simp; omega) ?_
  intro C G st σ w a hA hst
  obtain ⟨hy1, _⟩ := ev_sound hst (hA.ev hy)
  have hr2 := hst.rows r2 _ (hA.row _ _ hrow2)
  rcases RelV.own.1 hy1 with ⟨_, _, h0, _⟩ | ⟨b, c, ad, hb, hv, hle, _, _, had⟩
  · omega
  · have : ad = ⟨b, 0, none⟩ := by have := had (by omega); simpa using this
    subst this
    rcases hr2 with ⟨_, ⟨hn, _⟩ | ⟨b', c', cur, cs, hb', _, hh, hcs, _, _, hcl, hrel, htk⟩⟩
    · rw [hb] at hn; cases hn
    · rw [hb] at hb'
      cases hb'
      obtain ⟨c1, c2, rfl, h1, h2⟩ := hrel
      obtain rfl : c2 = [] := h2
      rw [List.append_nil] at hcl htk
      have h1 : Enc w (st.X C.X0 σ) d c1 := h1
      refine ⟨⟨b, 0, none⟩, _, fun _ => c1, hv, fun i hi => ?_, fun j u hj => ?_⟩
      · have : i = 0 := by simp at hi; exact hi
        subst this
        exact ⟨by simpa [← hd] using h1, by simpa using hcl⟩
      · simp only [List.length_cons, List.length_nil, cat, List.nil_append] at hj
        have hjl := (List.getElem?_eq_some_iff.1 hj).1
        rw [add_mk, cell_of_row w b _ cur e (0, 0) hh, Nat.zero_add, ← Array.getElem?_toList]
        rw [← htk, List.getElem?_take, if_pos (by omega)] at hj
        exact hj

/-- A loop that is left in its first round. -/
theorem wc_once {Q : Exit → St → Prop} {c : Code} (h1 : WC P sz c (LoopQ Q (fun _ : Unit => ⟨env, h, n, sz, 64⟩) (fun _ => False) (fun _ => 0) ()) env h n) : WC P sz (.loop c) Q env h n := by
  intro C σ w x hst
  refine wpIn_loop_rounds 1 ?_
  rw [roundsIn_succ]
  refine wpIn_mono (h1 C σ w x hst) ?_
  rintro e a' w' ⟨st', σ', h1, h2⟩
  cases e with
  | normal => obtain ⟨a', l', hf, _⟩ := h1; exact hf.elim
  | _ => exact ⟨st', σ', h1, h2⟩

end

section
variable {κ α : Type}
/-- A map's entries whose values are slices, each in a row of its own. -/
def ownV (s : Nat) (τ : Nat → Nat) : Nat → List (κ × List α) → List (κ × AV)
  | _, [] => []
  | i, (k, xs) :: l => (k, .own (τ i) 0 xs.length s none) :: ownV s τ (i + 1) l

/-- Their rows. -/
def ownR (t s : Nat) (enc : α → D) : List (κ × List α) → List Row
  | [] => []
  | (_, xs) :: l => .ds t s false enc xs :: ownR t s enc l

theorem ownR_get {t s : Nat} {enc : α → D} : ∀ (l : List (κ × List α)) (i : Nat), (ownR t s enc l)[i]? = (l[i]?).map fun p => .ds t s false enc p.2
  | [], i => by simp [ownR]
  | (k, xs) :: l, 0 => by simp [ownR]
  | (k, xs) :: l, i + 1 => by simp [ownR, ownR_get l i]

theorem ownR_len {t s : Nat} {enc : α → D} : ∀ (l : List (κ × List α)), (ownR t s enc l).length = l.length
  | [] => rfl
  | (k, xs) :: l => by simp [ownR, ownR_len l]

theorem ownV_get {s : Nat} {τ : Nat → Nat} : ∀ (l : List (κ × List α)) (b i : Nat), (ownV s τ b l)[i]? = (l[i]?).map fun p => (p.1, .own (τ (b + i)) 0 p.2.length s none)
  | [], b, i => by simp [ownV]
  | (k, xs) :: l, b, 0 => by simp [ownV]
  | (k, xs) :: l, b, i + 1 => by simp [ownV, ownV_get l (b + 1) i, show b + 1 + i = b + (i + 1) by omega]

theorem ownV_len {s : Nat} {τ : Nat → Nat} : ∀ (l : List (κ × List α)) (b : Nat), (ownV s τ b l).length = l.length
  | [], b => rfl
  | (k, xs) :: l, b => by simp [ownV, ownV_len l]

theorem putC_get : ∀ (l : List (κ × AV)) (j i : Nat) (v : AV), (putC l j v)[i]? = if i = j then (l[i]?).map (fun p => (p.1, v)) else l[i]?
  | [], j, i, v => by simp [putC]
  | (k, u) :: l, 0, 0, v => by simp [putC]
  | (k, u) :: l, 0, i + 1, v => by simp [putC]
  | (k, u) :: l, j + 1, 0, v => by simp [putC]
  | (k, u) :: l, j + 1, i + 1, v => by simp [putC, putC_get l j i v]

theorem putC_len : ∀ (l : List (κ × AV)) (j : Nat) (v : AV), (putC l j v).length = l.length
  | [], _, _ => rfl
  | (k, u) :: l, 0, v => rfl
  | (k, u) :: l, j + 1, v => by simp [putC, putC_len l j v]

theorem findC_shift [DecidableEq κ] {k : κ} : ∀ (l : List (κ × AV)) (i d : Nat), findC k l (i + d) = (findC k l i).map fun p => (p.1 + d, p.2)
  | [], i, d => rfl
  | (k', v) :: l, i, d => by
    simp only [findC]
    split
    · rfl
    · rw [show i + d + 1 = i + 1 + d by omega, findC_shift l]

theorem findC_at [DecidableEq κ] {k : κ} {v : AV} : ∀ (l : List (κ × AV)) (j : Nat), l[j]? = some (k, v) → (∀ i, i < j → ∀ p, l[i]? = some p → p.1 ≠ k) → findC k l 0 = some (j, v)
  | [], j, h, _ => by simp at h
  | (k', u) :: l, 0, h, _ => by
    simp only [List.getElem?_cons_zero, Option.some.injEq, Prod.mk.injEq] at h
    obtain ⟨rfl, rfl⟩ := h
    simp [findC]
  | (k', u) :: l, j + 1, h, hn => by
    have h0 := hn 0 (by omega) _ rfl
    simp only [findC]
    rw [if_neg (fun e => h0 e.symm), show (0 + 1 : Nat) = 0 + 1 from rfl, findC_shift, findC_at l j (by simpa using h) (fun i hi p hp => hn (i + 1) (by omega) p (by simpa using hp))]
    rfl

theorem findC_no [DecidableEq κ] {k : κ} : ∀ (l : List (κ × AV)) (b : Nat), (∀ p ∈ l, p.1 ≠ k) → findC k l b = none
  | [], _, _ => rfl
  | (k', u) :: l, b, h => by
    simp only [findC]
    rw [if_neg (fun e => h _ (List.mem_cons_self ..) e.symm)]
    exact findC_no l (b + 1) fun p hp => h p (List.mem_cons_of_mem _ hp)

theorem mapC_ren {enc : κ → D} {ρ : Nat → Option Nat} : ∀ (l : List (κ × AV)), (mapC enc l).ren ρ = mapC enc (l.map fun p => (p.1, p.2.ren ρ))
  | [] => rfl
  | (k, v) :: l => by simp [mapC, AV.ren, mapC_ren l]

theorem mapC_lt {enc : κ → D} {n : Nat} : ∀ (l : List (κ × AV)), (∀ p ∈ l, p.2.lt n = true) → (mapC enc l).lt n = true
  | [], _ => rfl
  | (k, v) :: l, h => by
    simp only [mapC, AV.lt]
    rw [h (k, v) (List.mem_cons_self ..), mapC_lt l fun p hp => h p (List.mem_cons_of_mem _ hp)]
    rfl

/-- The map's row under the new names. -/
theorem own_map_le {enc : κ → D} {s j N : Nat} {l0 : Names} {S : List (κ × List α)} {V : List (κ × AV)} (hdom : domFar l0 = true) (hS : S.length ≤ 99000) (hV : V.length = S.length)
    (hv : ∀ (i : Nat) (p : κ × List α), S[i]? = some p → V[i]? = some (p.1, AV.own (nameAt j N i) 0 p.2.length s none)) :
    RowLe (.mo (mapC enc V)) ((Row.mo (mapC enc (ownV s (fun i => 1000 + i) 0 S))).ren (rho (l0 ++ [(1000 + j, some N)]))) := by
  refine RowLe.of_eq ?_
  simp only [Row.ren, mapC_ren]
  congr 2
  apply List.ext_getElem?
  intro i
  rw [List.getElem?_map, ownV_get]
  cases hc : S[i]? with
  | none =>
    have : S.length ≤ i := List.getElem?_eq_none_iff.1 hc
    rw [List.getElem?_eq_none (by omega)]
    rfl
  | some p =>
    rw [hv i p hc]
    have hi := (List.getElem?_eq_some_iff.1 hc).1
    simp only [Option.map_some, AV.ren, Nat.zero_add]
    rw [rho_tail (domFar_out l0 hdom) (by omega)]

theorem own_map_lt {enc : κ → D} {s : Nat} {S : List (κ × List α)} {n : Nat} (hn : Nat.ble 100000 n = true) (hS : S.length ≤ 99000) : (Row.mo (mapC enc (ownV s (fun i => 1000 + i) 0 S))).lt n = true := by
  have := Nat.le_of_ble_eq_true hn
  refine mapC_lt _ fun p hp => ?_
  obtain ⟨i, hi⟩ := List.mem_iff_getElem?.1 hp
  rw [ownV_get] at hi
  cases hc : S[i]? with
  | none => rw [hc] at hi; cases hi
  | some q =>
    rw [hc] at hi
    have hlt := (List.getElem?_eq_some_iff.1 hc).1
    simp only [Option.map_some, Option.some.injEq] at hi
    subst hi
    exact Nat.ble_eq_true_of_le (by omega)
theorem LeRows.app {ρ : Nat → Option Nat} {st : St} {n : Nat} : ∀ {a b : Upds}, LeRows ρ st n a → LeRows ρ st n b → LeRows ρ st n (a ++ b)
  | [], _, _, h => h
  | (_, _) :: _, _, h1, h2 => ⟨h1.1, LeRows.app h1.2 h2⟩

/-- A slice of the list keeps its name, if no row is changed. -/
theorem own_stay {l0 : Names} {j N off len s : Nat} {cap : Option Nat} (hdom : domFar l0 = true) (hj : j < 98000) : AVLe (.own (1000 + j) off len s cap) ((AV.own (1000 + j) off len s cap).ren (rho (l0 ++ [(1000 + 98000, some N)]))) := by
  refine AVLe.of_eq ?_
  simp only [AV.ren]
  rw [rho_tail (domFar_out l0 hdom) (by omega)]
  simp only [nameAt]
  rw [if_neg (by omega)]

theorem nameAt_stay {i N : Nat} (hi : i < 98000) : nameAt 98000 N i = 1000 + i := if_neg (by omega)

/-- A row of the list keeps its name. -/
theorem skip_row {a r : Nat} {y : Option Row} {l : Upds} {x : Option (Option Row)} (h : a ≠ r) (hl : lk l r = x) : lk ((a, y) :: l) r = x := by rw [lk_cons, if_neg h]; exact hl
theorem look_skip {a r : Nat} {y : Option Row} {l : Upds} {x : Option Row} (h : a ≠ r) (hl : lookH l r = x) : lookH ((a, y) :: l) r = x := by simp only [lookH] at hl ⊢; rw [lk_cons, if_neg h]; exact hl

theorem nameAt_eq {j N : Nat} : nameAt j N j = N := if_pos rfl
theorem nameAt_ne {j N i : Nat} (h : i ≠ j) : nameAt j N i = 1000 + i := if_neg h

/-- One more in the slice of an entry. -/
theorem own_put {κ α : Type} {s j N : Nat} {S : List (κ × List α)} {k : κ} {xs : List α} {y : α} (hj : S[j]? = some (k, xs)) :
    ∀ (i : Nat) (p : κ × List α), (S.set j (k, xs ++ [y]))[i]? = some p → (putC (ownV s (fun i => 1000 + i) 0 S) j (.own N 0 (xs.length + 1) s none))[i]? = some (p.1, AV.own (nameAt j N i) 0 p.2.length s none) := by
  intro i p hp
  rw [putC_get, ownV_get]
  by_cases h : i = j
  · subst h
    have hlt := (List.getElem?_eq_some_iff.1 hj).1
    rw [List.getElem?_set, if_pos rfl, if_pos hlt] at hp
    cases hp
    rw [if_pos rfl, hj, nameAt_eq]
    simp
  · rw [List.getElem?_set, if_neg (Ne.symm h)] at hp
    rw [if_neg h, hp, nameAt_ne h]
    simp

/-- A new entry. -/
theorem own_new {κ α : Type} {s N : Nat} {S : List (κ × List α)} {k : κ} {y : α} {v : AV} :
    ∀ (i : Nat) (p : κ × List α), (S ++ [(k, [y])])[i]? = some p → (putC (ownV s (fun i => 1000 + i) 0 S ++ [(k, v)]) (ownV s (fun i => 1000 + i) 0 S).length (.own N 0 1 s none))[i]? = some (p.1, AV.own (nameAt S.length N i) 0 p.2.length s none) := by
  intro i p hp
  rw [putC_get, ownV_len]
  by_cases h : i = S.length
  · subst h
    simp at hp
    subst hp
    rw [if_pos rfl, nameAt_eq, List.getElem?_append_right (by rw [ownV_len]; omega), ownV_len]
    simp
  · have hlt : i < S.length := by
      have := (List.getElem?_eq_some_iff.1 hp).1
      simp at this
      omega
    rw [List.getElem?_append_left hlt] at hp
    rw [if_neg h, nameAt_ne h, List.getElem?_append_left (by rw [ownV_len]; exact hlt), ownV_get, hp]
    simp

theorem ds_ren {ρ : Nat → Option Nat} {t s : Nat} {ex : Bool} {α : Type} {enc : α → D} {xs : List α} : RowLe (.ds t s ex enc xs) ((Row.ds t s ex enc xs).ren ρ) := RowLe.refl _
end
end Go.Eng

/- Strings as lists of bytes: searched, cut, joined, compared; bits of small numbers. -/
set_option linter.unusedSimpArgs false
set_option linter.unusedVariables false
namespace Go.Eng
open Go.RowKit

/-- The string of bytes. -/
def mkS (l : List UInt8) : ByteArray := ⟨l.toArray⟩
/-- .. as data. -/
def strD (l : List UInt8) : D := .sc (.string (mkS l))
/-- The bytes as numbers. -/
def byI (l : List UInt8) : List Int := l.map fun b => (b.toNat : Int)

theorem mkS_inj {a b : List UInt8} : mkS a = mkS b ↔ a = b := by
  constructor
  · intro h
    have := congrArg (fun x : ByteArray => x.data.toList) h
    simpa [mkS] using this
  · rintro rfl; rfl
theorem mkS_size (l : List UInt8) : (mkS l).size = l.length := by simp [mkS, ByteArray.size]
theorem mkS_data (l : List UInt8) : (mkS l).data.toList = l := by simp [mkS]
theorem mkS_dec (a b : List UInt8) : decide (mkS a = mkS b) = decide (a = b) := by
  simp only [mkS_inj]
theorem mkS_get {l : List UInt8} {i : Nat} {b : UInt8} (h : l[i]? = some b) : (mkS l)[i]? = some b := by
  have hi := (List.getElem?_eq_some_iff.1 h).1
  have hi' : i < (mkS l).size := by rw [mkS_size]; exact hi
  rw [getElem?_pos (mkS l) i hi']
  congr 1
  have : (mkS l)[i] = l[i]'hi := by
    simp only [mkS, ByteArray.getElem_eq_getElem_data, List.getElem_toArray]
  rw [this]
  exact (List.getElem?_eq_some_iff.1 h).2
theorem mkS_extract (l : List UInt8) (i j : Nat) : (mkS l).extract i j = mkS ((l.drop i).take (j - i)) := by
  apply ba_ext.1
  simp only [mkS, ByteArray.data_extract, Array.toList_extract, List.extract, List.drop_take]
theorem mkS_of (s : ByteArray) : mkS s.data.toList = s := by
  apply ba_ext.1; simp [mkS]

section
variable {P : Program} {T : Tab} {sz : Nat} {env : Env} {h : Upds} {n : Nat}

/-- A function without a body: what the table says. -/
theorem run_native {ρ : Operand → Value} {o : Oper} {c : Call} {g : FuncId} {fn : Func} {e : Array Value → Sem Value} (ho : o.op = .call c) (hc : c.callee = .value (.func g)) (hg : ρ (.func g) = .func (.func g) #[] #[]) (hP : P.funcs[g]? = some fn) (hname : (fn.name == "runtime.NumGoroutine") = false)
    (hb : fn.body.isNone = true) (hnx : Extern.findNext fn = none) (he : Extern.find fn = some e) {v : Value} {w : World} (hr : (e (c.args.map ρ)).run P w = .ok v w) : (execOp ρ o).run P w = .ok (.value v) w := by
  have hrun := run_callFunc_extern hP hname hb hnx he (c.args.map ρ) w
  rw [hr] at hrun
  simp only [execOp, ho, resolve, hc, hg, Deferred.ofValue, Sem.run_bind, Sem.run_pure, Result.andThen_ok, invoke]
  simpa using hrun

/-- internal/bytealg.IndexByteString. -/
theorem native_ix {g : FuncId} {fn : Func} {x y : Operand} {at_ : Array TypeId} {l : List UInt8} {c : Int} {v : Int} (hP : P.funcs[g]? = some fn) (hname : (fn.name == "runtime.NumGoroutine") = false)
    (hb : fn.body.isNone = true) (hnx : Extern.findNext fn = none) (he : Extern.find fn = some Extern.BytealgIndexByte.indexByte) (hx : evalA env x = some (.d (strD l))) (hy : evalA env y = some (.int .u8 c)) (hv : Lib.indexByte l c.toNat.toUInt8 = v) :
    StepIs P (.call { callee := .value (.func g), args := #[x, y], argTypes := at_ }) env h n (some (.int .i64 v)) [] := .of_comes fun C G st σ w a o ho hA hdst hst hn => by
  obtain ⟨hx1, _⟩ := RelV.sc.1 (ev_sound hst (hA.ev hx)).1
  obtain ⟨hy1, _⟩ := RelV.sc.1 (ev_sound hst (hA.ev hy)).1
  subst hv
  refine .quiet (u := .int .i64 (Lib.indexByte l c.toNat.toUInt8)) hst hdst ⟨rfl, rfl⟩ ?_ (RelV.sc.2 ⟨rfl, rfl⟩) trivial
  refine run_native ho rfl rfl hP hname hb hnx he ?_
  have := Lib.run_indexByteString (P := P) (mkS l) c w
  rw [mkS_data] at this
  simpa [hx1, hy1] using this

/-- internal/abi.NoEscape, at a pointer. -/
theorem native_same {g : FuncId} {fn : Func} {x : Operand} {at_ : Array TypeId} {r : Nat} {p : List Step} (hP : P.funcs[g]? = some fn) (hname : (fn.name == "runtime.NumGoroutine") = false)
    (hb : fn.body.isNone = true) (hnx : Extern.findNext fn = none) (he : Extern.find fn = some Extern.AbiNoEscape.same) (hx : evalA env x = some (.ptr r p)) :
    StepIs P (.call { callee := .value (.func g), args := #[x], argTypes := at_ }) env h n (some (.ptr r p)) [] := .of_comes fun C G st σ w a o ho hA hdst hst hn => by
  obtain ⟨hx1, hx2⟩ := ev_sound hst (hA.ev hx)
  refine .quiet (u := a.eval x) hst hdst ⟨rfl, rfl⟩ ?_ hx1 hx2
  refine run_native ho rfl rfl hP hname hb hnx he ?_
  have he' : Array.map a.eval #[x] = #[a.eval x] := by simp
  show (Extern.AbiNoEscape.same (Array.map a.eval #[x])).run P w = .ok (a.eval x) w
  rw [he']
  rfl

theorem str_to (hT : TabOk P T) {t : Nat} {x j : Operand} {l m : List UInt8} {k : IntKind} {hi : Nat} (ht : tdesc T t = some .string) (hx : evalA env x = some (.d (strD l))) (hj : evalA env j = some (.int k hi)) (hh : hi ≤ l.length) (hm : l.take hi = m) :
    StepIs P (.slice t x none (some j) none) env h n (some (.d (strD m))) [] := .of_comes fun C G st σ w a o ho hA hdst hst hn => by
  obtain ⟨ud, hud, hdd⟩ := tdesc_und hT ht
  cases hdd
  obtain ⟨hx1, _⟩ := RelV.sc.1 (ev_sound hst (hA.ev hx)).1
  obtain ⟨hj1, _⟩ := RelV.sc.1 (ev_sound hst (hA.ev hj)).1
  subst hm
  refine .quiet (u := .string (mkS (l.take hi))) hst hdst ⟨rfl, rfl⟩ ?_ (RelV.sc.2 ⟨rfl, rfl⟩) trivial
  have he := mkS_extract l 0 hi
  rw [List.drop_zero, Nat.sub_zero] at he
  simp [execOp, ho, Instr.sliceAt, Instr.slice, hx1, hj1, run_underlying hud, Instr.sliceBounds, Instr.sliceBound, asIntOf, Sem.run_bind, Sem.run_pure, Result.andThen_ok, mkS_size, hh, he]

theorem str_from (hT : TabOk P T) {t : Nat} {x j : Operand} {l m : List UInt8} {k : IntKind} {lo : Nat} (ht : tdesc T t = some .string) (hx : evalA env x = some (.d (strD l))) (hj : evalA env j = some (.int k lo)) (hh : lo ≤ l.length) (hm : l.drop lo = m) :
    StepIs P (.slice t x (some j) none none) env h n (some (.d (strD m))) [] := .of_comes fun C G st σ w a o ho hA hdst hst hn => by
  obtain ⟨ud, hud, hdd⟩ := tdesc_und hT ht
  cases hdd
  obtain ⟨hx1, _⟩ := RelV.sc.1 (ev_sound hst (hA.ev hx)).1
  obtain ⟨hj1, _⟩ := RelV.sc.1 (ev_sound hst (hA.ev hj)).1
  subst hm
  refine .quiet (u := .string (mkS (l.drop lo))) hst hdst ⟨rfl, rfl⟩ ?_ (RelV.sc.2 ⟨rfl, rfl⟩) trivial
  have he := mkS_extract l lo l.length
  rw [List.take_of_length_le (by simp)] at he
  simp [execOp, ho, Instr.sliceAt, Instr.slice, hx1, hj1, run_underlying hud, Instr.sliceBounds, Instr.sliceBound, asIntOf, Sem.run_bind, Sem.run_pure, Result.andThen_ok, mkS_size, hh, he]

theorem str_mid (hT : TabOk P T) {t : Nat} {x i j : Operand} {l m : List UInt8} {k k' : IntKind} {lo hi : Nat} (ht : tdesc T t = some .string) (hx : evalA env x = some (.d (strD l))) (hi_ : evalA env i = some (.int k lo)) (hj : evalA env j = some (.int k' hi)) (hh : hi ≤ l.length) (hl : lo ≤ hi) (hm : (l.drop lo).take (hi - lo) = m) :
    StepIs P (.slice t x (some i) (some j) none) env h n (some (.d (strD m))) [] := .of_comes fun C G st σ w a o ho hA hdst hst hn => by
  obtain ⟨ud, hud, hdd⟩ := tdesc_und hT ht
  cases hdd
  obtain ⟨hx1, _⟩ := RelV.sc.1 (ev_sound hst (hA.ev hx)).1
  obtain ⟨hj1, _⟩ := RelV.sc.1 (ev_sound hst (hA.ev hj)).1
  obtain ⟨hi1, _⟩ := RelV.sc.1 (ev_sound hst (hA.ev hi_)).1
  subst hm
  refine .quiet (u := .string (mkS ((l.drop lo).take (hi - lo)))) hst hdst ⟨rfl, rfl⟩ ?_ (RelV.sc.2 ⟨rfl, rfl⟩) trivial
  have he := mkS_extract l lo hi
  simp [execOp, ho, Instr.sliceAt, Instr.slice, hx1, hj1, hi1, run_underlying hud, Instr.sliceBounds, Instr.sliceBound, asIntOf, Sem.run_bind, Sem.run_pure, Result.andThen_ok, mkS_size, hh, hl, he]

theorem len_s (hT : TabOk P T) {t : Nat} {x : Operand} {l : List UInt8} (ht : tdesc T t = some .string) (hx : evalA env x = some (.d (strD l))) :
    StepIs P (.call { callee := .builtin .len, args := #[x], argTypes := #[t] }) env h n (some (.int .i64 l.length)) [] := .len rfl hx fun C st σ w a ty hr => by
  obtain ⟨u, hu, hdu⟩ := tdesc_und hT ht
  cases hdu
  obtain ⟨hv, _⟩ := RelV.sc.1 hr
  simp [Builtin.len_, hv, run_underlying hu, mkS_size]

theorem index_s (hT : TabOk P T) {t : Nat} {x i : Operand} {l : List UInt8} {k : IntKind} {m : Nat} {b : UInt8} (ht : tdesc T t = some .string) (hx : evalA env x = some (.d (strD l))) (hi : evalA env i = some (.int k m)) (hb : l[m]? = some b) :
    StepIs P (.index t x i) env h n (some (.int .u8 b.toNat)) [] :=
  index_str hT ht hx hi (by omega) (mkS_get hb) rfl

theorem run_string2 {op : BinOp} {t : Nat} {a b : ByteArray} {w : World} {v : Value} (hv : (Op.stringOp op a b).run P w = .ok v w) (h1 : op ≠ .shl) (h2 : op ≠ .shr) : (binOp op t (.string a) (.string b)).run P w = .ok v w := by
  rw [← hv]
  cases op <;> first | rfl | exact absurd rfl h1 | exact absurd rfl h2

theorem add_str {t t' : Nat} {x y : Operand} {a b m : List UInt8} (hx : evalA env x = some (.d (strD a))) (hy : evalA env y = some (.d (strD b))) (hl : a.length + b.length ≤ 9223372036854775807) (hm : a ++ b = m) :
    StepIs P (.binOp .add t x y t') env h n (some (.d (strD m))) [] := .of_comes fun C G st σ w ac o ho hA hdst hst hn => by
  obtain ⟨hv, _⟩ := RelV.sc.1 (ev_sound hst (hA.ev hx)).1
  obtain ⟨hy1, _⟩ := RelV.sc.1 (ev_sound hst (hA.ev hy)).1
  subst hm
  refine .quiet (u := .string (mkS (a ++ b))) hst hdst ⟨rfl, rfl⟩ ?_ (RelV.sc.2 ⟨rfl, rfl⟩) trivial
  have he : mkS a ++ mkS b = mkS (a ++ b) := ba_ext.1 (by simp [mkS])
  have h1 : (Op.stringOp .add (mkS a) (mkS b)).run P w = .ok (.string (mkS (a ++ b))) w := by
    simp only [Op.stringOp, mkS_size]
    have hmx : IntKind.i64.max = 9223372036854775807 := by decide
    rw [if_neg (by rw [hmx]; omega), he]
    rfl
  have h3 := run_string2 (P := P) (t := t) h1 (by simp) (by simp)
  simp only [execOp, ho, hv, hy1, Sem.run_bind, eqG_s, Result.andThen_ok, h3, Sem.run_pure]

theorem eql_s (hT : TabOk P T) {t t' : Nat} {x y : Operand} {a b : List UInt8} (ht : tdesc T t = some .string) (hx : evalA env x = some (.d (strD a))) (hy : evalA env y = some (.d (strD b))) :
    StepIs P (.binOp .eql t x y t') env h n (some (.bool (decide (a = b)))) [] := by
  have := eql_str (P := P) (h := h) (n := n) (t' := t') hT ht hx hy
  rwa [mkS_dec] at this
theorem neq_s (hT : TabOk P T) {t t' : Nat} {x y : Operand} {a b : List UInt8} (ht : tdesc T t = some .string) (hx : evalA env x = some (.d (strD a))) (hy : evalA env y = some (.d (strD b))) :
    StepIs P (.binOp .neq t x y t') env h n (some (.bool (!decide (a = b)))) [] := by
  have := neq_str (P := P) (h := h) (n := n) (t' := t') hT ht hx hy
  rwa [mkS_dec] at this
theorem gtr_s {t t' : Nat} {x y : Operand} {a b : List UInt8} (hx : evalA env x = some (.d (strD a))) (hy : evalA env y = some (.d (strD b))) :
    StepIs P (.binOp .gtr t x y t') env h n (some (.bool (!(Op.bytesLess a b || a == b)))) [] := .of_comes fun C G st σ w ac o ho hA hdst hst hn => by
  obtain ⟨hv, _⟩ := RelV.sc.1 (ev_sound hst (hA.ev hx)).1
  obtain ⟨hy1, _⟩ := RelV.sc.1 (ev_sound hst (hA.ev hy)).1
  refine .quiet (u := .bool (!(Op.bytesLess a b || a == b))) hst hdst ⟨rfl, rfl⟩ ?_ (RelV.sc.2 ⟨rfl, rfl⟩) trivial
  have h1 : (Op.stringOp .gtr (mkS a) (mkS b)).run P w = .ok (.bool (!(Op.bytesLess a b || a == b))) w := by
    simp only [Op.stringOp, ByteArray.toList_eq, mkS_data]
    rfl
  have h3 := run_string2 (P := P) (t := t) h1 (by simp) (by simp)
  simp only [execOp, ho, hv, hy1, Sem.run_bind, eqG_s, Result.andThen_ok, h3, Sem.run_pure]

theorem eqG_i {op : BinOp} {t : Nat} {x y : Operand} {w : World} (k k' : IntKind) (p q : Int) : (eqGuard op t x y (.int k p) (.int k' q)).run P w = .ok () w := by cases op <;> rfl

theorem shl_nat {t t' : Nat} {x y : Operand} {k k' : IntKind} {a s : Nat} {m : Int} (hx : evalA env x = some (.int k a)) (hy : evalA env y = some (.int k' s)) (hs : s ≤ k.bits) (hm : k.wrap ((a * 2 ^ s : Nat) : Int) = m) :
    StepIs P (.binOp .shl t x y t') env h n (some (.int k m)) [] := .of_comes fun C G st σ w ac o ho hA hdst hst hn => by
  obtain ⟨hv, _⟩ := RelV.sc.1 (ev_sound hst (hA.ev hx)).1
  obtain ⟨hy1, _⟩ := RelV.sc.1 (ev_sound hst (hA.ev hy)).1
  refine .quiet (u := .int k m) hst hdst ⟨rfl, rfl⟩ ?_ (RelV.sc.2 ⟨rfl, rfl⟩) trivial
  have h1 : (a : Int) * 2 ^ (min (s : Int).toNat k.bits) = ((a * 2 ^ s : Nat) : Int) := by
    rw [show (s : Int).toNat = s from rfl, Nat.min_eq_left hs]
    norm_cast
  have h2 : (binOp .shl t (.int k a) (.int k' s)).run P w = .ok (.int k m) w := by
    show (Op.shift .shl k a k' s).run P w = _
    simp only [Op.shift, h1, hm, if_neg (show ¬ (s : Int) < 0 by omega)]
    rfl
  simp only [execOp, ho, hv, hy1, Sem.run_bind, eqG_i, Result.andThen_ok, h2, Sem.run_pure]

theorem wrap_nat {k : IntKind} (hk : k.signed = false) {m : Nat} (hm : m < 2 ^ k.bits) : k.wrap (m : Int) = m := by
  simp only [IntKind.wrap, hk, Bool.false_eq_true, if_false, false_and]
  have : (m : Int) % ((2 ^ k.bits : Nat) : Int) = m := Int.emod_eq_of_lt (by omega) (by exact_mod_cast hm)
  first | exact_mod_cast this | (push_cast at this; simpa using this)

theorem or_nat {t t' : Nat} {x y : Operand} {k : IntKind} {a b m : Nat} (hk : k.signed = false) (hx : evalA env x = some (.int k a)) (hy : evalA env y = some (.int k b)) (ha : a < 2 ^ k.bits) (hb : b < 2 ^ k.bits) (hm : a ||| b = m) :
    StepIs P (.binOp .or t x y t') env h n (some (.int k m)) [] := .of_comes fun C G st σ w ac o ho hA hdst hst hn => by
  obtain ⟨hv, _⟩ := RelV.sc.1 (ev_sound hst (hA.ev hx)).1
  obtain ⟨hy1, _⟩ := RelV.sc.1 (ev_sound hst (hA.ev hy)).1
  refine .quiet (u := .int k m) hst hdst ⟨rfl, rfl⟩ ?_ (RelV.sc.2 ⟨rfl, rfl⟩) trivial
  have h2 : (binOp .or t (.int k a) (.int k b)).run P w = .ok (.int k m) w := by
    have e : (binOp .or t (.int k a) (.int k b)) = Op.intBits .or k a b := by simp [binOp]
    rw [e]
    simp only [Op.intBits]
    have h3 : (BitVec.ofInt k.bits (a : Int) ||| BitVec.ofInt k.bits (b : Int)).toNat = m := by
      simp only [BitVec.ofInt_natCast, BitVec.toNat_or, BitVec.toNat_ofNat, Nat.mod_eq_of_lt ha, Nat.mod_eq_of_lt hb, hm]
    rw [h3, wrap_nat hk (by rw [← hm]; exact Nat.or_lt_two_pow ha hb)]
    rfl
  simp only [execOp, ho, hv, hy1, Sem.run_bind, eqG_i, Result.andThen_ok, h2, Sem.run_pure]

theorem and_nat {t t' : Nat} {x y : Operand} {k : IntKind} {a b m : Nat} (hk : k.signed = false) (hx : evalA env x = some (.int k a)) (hy : evalA env y = some (.int k b)) (ha : a < 2 ^ k.bits) (hb : b < 2 ^ k.bits) (hm : a &&& b = m) :
    StepIs P (.binOp .and t x y t') env h n (some (.int k m)) [] := .of_comes fun C G st σ w ac o ho hA hdst hst hn => by
  obtain ⟨hv, _⟩ := RelV.sc.1 (ev_sound hst (hA.ev hx)).1
  obtain ⟨hy1, _⟩ := RelV.sc.1 (ev_sound hst (hA.ev hy)).1
  refine .quiet (u := .int k m) hst hdst ⟨rfl, rfl⟩ ?_ (RelV.sc.2 ⟨rfl, rfl⟩) trivial
  have h2 : (binOp .and t (.int k a) (.int k b)).run P w = .ok (.int k m) w := by
    have e : (binOp .and t (.int k a) (.int k b)) = Op.intBits .and k a b := by simp [binOp]
    rw [e]
    simp only [Op.intBits]
    have h3 : (BitVec.ofInt k.bits (a : Int) &&& BitVec.ofInt k.bits (b : Int)).toNat = m := by
      simp only [BitVec.ofInt_natCast, BitVec.toNat_and, BitVec.toNat_ofNat, Nat.mod_eq_of_lt ha, Nat.mod_eq_of_lt hb, hm]
    rw [h3, wrap_nat hk (by rw [← hm]; exact Nat.and_lt_two_pow _ hb)]
    rfl
  simp only [execOp, ho, hv, hy1, Sem.run_bind, eqG_i, Result.andThen_ok, h2, Sem.run_pure]
end
end Go.Eng

/- What strings.Builder does with pointers; frozen memory, sliced. -/
set_option linter.unusedSimpArgs false
set_option linter.unusedVariables false
namespace Go.Eng
open Go.RowKit

section
variable {C : Ctx} {w w' : World} {G : Nat → Prop} {st : St} {σ : Place} {a : Act}
/-- A row is given up, and its cells frozen. -/
theorem StRel.lose (h : StRel C G st σ w a) {r b c m : Nat} {row : Row} {cur : Array Value} {t : TypeId} {fr : Nat × Nat} (hr : st.row r = some row) (hs : σ r = some (b, c)) (hh : w.heap[b]? = some (.cells cur t fr)) :
    StRel C G (st.upd [(r, none)]) σ (w.freeze ⟨b, 0, none⟩ m) a := by
  have hrow : ∀ q, (st.upd [(r, none)]).row q = if r = q then none else st.row q := fun q => by
    simp only [St.upd, St.row, List.cons_append, List.nil_append, lk_cons]
    split <;> rfl
  have hX : ∀ q, (st.upd [(r, none)]).X C.X0 σ q → st.X C.X0 σ q := by
    rintro q (hx0 | ⟨r1, row1, c1, h1, h2⟩)
    · exact .inl hx0
    · rw [hrow] at h1
      split at h1
      · cases h1
      · exact .inr ⟨r1, row1, c1, h1, h2⟩
  have hB := h.high _ _ _ _ hr hs
  by_cases hm : m = 0
  · subst hm
    have he : w.freeze ⟨b, 0, none⟩ 0 = w := by simp [World.freeze]
    rw [he]
    refine h.core (fun _ h => h) (fun _ _ => rfl) (fun a u h1 h2 => ⟨h1, fun hx => h2 (hX _ hx)⟩) rfl rfl rfl (fun q row' hq => ?_) (fun r1 r2 row1 row2 b' c1 c2 h1 h2 h3 h4 => ?_) (fun r1 row1 b' c1 h1 h2 => ?_) h.size ⟨rfl, rfl, rfl, Nat.le_refl _, fun _ _ _ => rfl, fun _ _ ho _ => ho ▸ rfl⟩
    · rw [hrow] at hq
      split at hq
      · cases hq
      · exact .inl ⟨hq, fun _ _ _ => rfl⟩
    · rw [hrow] at h1 h2
      split at h1
      · cases h1
      split at h2
      · cases h2
      exact h.inj _ _ _ _ _ _ _ h1 h2 h3 h4
    · rw [hrow] at h1
      split at h1
      · cases h1
      exact h.high _ _ _ _ h1 h2
  · have hother : ∀ k, k ≠ b → (w.freeze ⟨b, 0, none⟩ m).heap[k]? = w.heap[k]? := by
      intro k hk
      simp only [World.freeze, if_neg hm, Array.getElem?_modify]
      rw [if_neg (Ne.symm hk)]
    have hsz : (w.freeze ⟨b, 0, none⟩ m).heap.size = w.heap.size := by simp [World.freeze, if_neg hm]
    refine h.core (fun _ h => h) (fun _ _ => rfl) (fun a u h1 h2 => ?_) rfl rfl rfl (fun q row' hq => ?_) (fun r1 r2 row1 row2 b' c1 c2 h1 h2 h3 h4 => ?_) (fun r1 row1 b' c1 h1 h2 => ?_) (by rw [hsz]; exact h.size) ?_
    · have hne : a.block ≠ b := fun e => h2 (.inr ⟨r, row, c, hr, by rw [e]; exact hs⟩)
      exact ⟨by rw [World.cell?_of_block (hother _ hne)]; exact h1, fun hx => h2 (hX _ hx)⟩
    · rw [hrow] at hq
      split at hq
      · cases hq
      · rename_i e
        exact .inl ⟨hq, fun b' c' hs' => hother _ (fun e' => e (by subst e'; exact (h.inj _ _ _ _ _ _ _ hq hr hs' hs).symm))⟩
    · rw [hrow] at h1 h2
      split at h1
      · cases h1
      split at h2
      · cases h2
      exact h.inj _ _ _ _ _ _ _ h1 h2 h3 h4
    · rw [hrow] at h1
      split at h1
      · cases h1
      exact h.high _ _ _ _ h1 h2
    · refine ⟨by simp [World.freeze, if_neg hm], by simp [World.freeze, if_neg hm], by simp [World.freeze, if_neg hm], by rw [hsz]; exact Nat.le_refl _, fun k hk hmk => hother k (by rintro rfl; rcases hB with hB | hB; exact absurd hk (by omega); exact hmk hB), fun k o2 ho hb => (hother k (by rintro rfl; rw [hh] at ho; cases ho; simp [isBook] at hb)).trans ho⟩
end

section
variable {P : Program} {T : Tab} {sz : Nat} {env : Env} {h : Upds} {n : Nat}

theorem box_shape {C : Ctx} {G : Nat → Prop} {st : St} {σ : Place} {w : World} {a : Act} (hst : StRel C G st σ w a) {r t : Nat} {v : AV} (hr : st.row r = some (.box t v)) (hf : v.flat = true) : ∃ b, σ r = some (b, 1) ∧ w.shape? b = some (t, v.size) := by
  obtain ⟨_, b, cur, h1, h2, h3⟩ := hst.rows r _ hr
  refine ⟨b, h1, ?_⟩
  have := Rel.len _ _ hf h3
  simp only [Array.length_toList] at this
  simp [World.shape?, h2, this]

/-- A pointer to a variable becomes a pointer without a type. -/
theorem conv_ptr_to (hT : TabOk P T) {src dst t t' r : Nat} {re : TyR} {v : AV} {x : Operand} (hs : P.underlying src = some (.pointer t)) (hd : P.underlying dst = some .unsafePointer) (ht : lk T t = some re) (hj : Nat.blt 0 re.size = true) (hx : evalA env x = some (.ptr r [])) (hrow : lookH h r = some (.box t' v)) (hf : v.flat = true) (hv : Nat.blt 0 v.size = true) :
    StepIs P (.convert src dst x) env h n (some (.ptr r [])) [] := .of_comes fun C G st σ w a o ho hA hdst hst hn => by
  obtain ⟨hx1, hx2⟩ := ev_sound hst (hA.ev hx)
  obtain ⟨b, hσ, hsh⟩ := box_shape hst (hA.row _ _ hrow) hf
  obtain ⟨b', c, hσ', hv'⟩ := RelV.ptr.1 hx1
  rw [hσ] at hσ'
  cases hσ'
  refine .quiet (u := .pointer (some ⟨b, 0, none⟩)) hst hdst ⟨rfl, rfl⟩ ?_ (RelV.ptr.2 ⟨b, 1, hσ, rfl⟩) hx2
  obtain ⟨j, z, hj1, hj2, _⟩ := (hT t re ht).info
  have hj := Nat.le_of_ble_eq_true hj
  have hrun := Lib.run_to_unsafe (P := P) w ⟨b, 0, none⟩ hs hd hj1 (by omega) hsh (Nat.le_of_ble_eq_true hv)
  simp only [execOp, ho, hv', pathOff, Sem.run_bind, hrun, Result.andThen_ok, Sem.run_pure]
/-- .. and back. -/
theorem conv_ptr_from (hT : TabOk P T) {src dst u t' r : Nat} {re : TyR} {v : AV} {x : Operand} (hs : P.underlying src = some .unsafePointer) (hd : P.underlying dst = some (.pointer u)) (hu : lk T u = some re) (hx : evalA env x = some (.ptr r [])) (hrow : lookH h r = some (.box t' v)) (hf : v.flat = true) (hl : liesAt P P.depth t' (v.size / P.cellsOf t') 0 u 1 = true) :
    StepIs P (.convert src dst x) env h n (some (.ptr r [])) [] := .of_comes fun C G st σ w a o ho hA hdst hst hn => by
  obtain ⟨hx1, hx2⟩ := ev_sound hst (hA.ev hx)
  obtain ⟨b, hσ, hsh⟩ := box_shape hst (hA.row _ _ hrow) hf
  obtain ⟨b', c, hσ', hv'⟩ := RelV.ptr.1 hx1
  rw [hσ] at hσ'
  cases hσ'
  refine .quiet (u := .pointer (some ⟨b, 0, none⟩)) hst hdst ⟨rfl, rfl⟩ ?_ (RelV.ptr.2 ⟨b, 1, hσ, rfl⟩) hx2
  obtain ⟨j, z, hj1, hj2, _⟩ := (hT u re hu).info
  have hrun := Lib.run_from_unsafe (P := P) w ⟨b, 0, none⟩ hs hd hj1 hsh hl
  simp only [execOp, ho, hv', pathOff, Sem.run_bind, hrun, Result.andThen_ok, Sem.run_pure]

theorem neq_self (hT : TabOk P T) {t t' e : Nat} {x y : Operand} {re : TyR} {r : Nat} (hud : P.underlying t = some (.pointer e)) (hj : lk T e = some re) (hx : evalA env x = some (.ptr r [])) (hy : evalA env y = some (.ptr r [])) :
    StepIs P (.binOp .neq t x y t') env h n (some (.bool false)) [] := .of_comes fun C G st σ w a o ho hA hdst hst hn => by
  obtain ⟨b, c, hσ, hv⟩ := RelV.ptr.1 (ev_sound hst (hA.ev hx)).1
  obtain ⟨b', c', hσ', hv'⟩ := RelV.ptr.1 (ev_sound hst (hA.ev hy)).1
  rw [hσ] at hσ'
  cases hσ'
  obtain ⟨j, z, hj1, hj2, _⟩ := (hT e re hj).info
  refine .quiet (u := .bool false) hst hdst ⟨rfl, rfl⟩ ?_ (RelV.sc.2 ⟨rfl, rfl⟩) trivial
  simp only [execOp, ho, hv, hv', Sem.run_bind, eqG, Result.andThen_ok, Lib.run_neq_ptr_same w _ hud hj1, Sem.run_pure]

theorem eql_ptr {t t' e : Nat} {x y : Operand} {r : Nat} {p : List Step} (hud : P.underlying t = some (.pointer e)) (hx : evalA env x = some (.ptr r p)) (hy : evalA env y = some (.d (.sc nilp))) :
    StepIs P (.binOp .eql t x y t') env h n (some (.bool false)) [] := .of_comes fun C G st σ w a o ho hA hdst hst hn => by
  obtain ⟨b, c, hσ, hv⟩ := RelV.ptr.1 (ev_sound hst (hA.ev hx)).1
  obtain ⟨hy1, _⟩ := RelV.sc.1 (ev_sound hst (hA.ev hy)).1
  refine .quiet (u := .bool false) hst hdst ⟨rfl, rfl⟩ ?_ (RelV.sc.2 ⟨rfl, rfl⟩) trivial
  simp only [execOp, ho, hv, hy1, Sem.run_bind, eqG, Result.andThen_ok, run_eql_ptr hud, Sem.run_pure, Option.isNone]

theorem slice_data {x : Operand} {at_ : Array TypeId} {r len : Nat} (hx : evalA env x = some (.own r 0 len 1 none)) (hl : 0 < len) :
    StepIs P (.call { callee := .builtin .unsafeSliceData, args := #[x], argTypes := at_ }) env h n (some (.ptr r [])) [] := .of_comes fun C G st σ w a o ho hA hdst hst hn => by
  obtain ⟨hx1, hx2⟩ := ev_sound hst (hA.ev hx)
  rcases RelV.own.1 hx1 with ⟨_, _, h0, _⟩ | ⟨b, c, ad, hσ, hv, h1, h2, h3, h4⟩
  · omega
  have := h4 (by omega)
  subst this
  simp only [Option.getD_none, Nat.sub_zero, Nat.zero_mul] at hv
  refine .quiet (u := .pointer (some ⟨b, 0, none⟩)) hst hdst ⟨rfl, rfl⟩ ?_ (RelV.ptr.2 ⟨b, c, hσ, rfl⟩) hx2
  have hrun := Lib.run_unsafeSliceData_row (P := P) w at_ o.type ⟨b, 0, none⟩ len c (by omega)
  simp [execOp, ho, resolve, invoke, builtin, hv, hrun]

theorem slice_data_nil {x : Operand} {at_ : Array TypeId} (hx : evalA env x = some (.d (.sc nil_))) :
    StepIs P (.call { callee := .builtin .unsafeSliceData, args := #[x], argTypes := at_ }) env h n (some (.d (.sc nilp))) [] := .of_comes fun C G st σ w a o ho hA hdst hst hn => by
  obtain ⟨hv, _⟩ := RelV.sc.1 (ev_sound hst (hA.ev hx)).1
  refine .quiet (u := nilp) hst hdst ⟨rfl, rfl⟩ ?_ (RelV.sc.2 ⟨rfl, rfl⟩) trivial
  have hrun : (Builtin.unsafeSliceData_ at_ o.type #[nil_]).run P w = .ok nilp w := Lib.run_unsafeSliceData_nil (P := P) w at_ o.type 0 0
  simp [execOp, ho, resolve, invoke, builtin, hv, hrun]

theorem unsafe_str0 {x y : Operand} {tp ti : TypeId} (hx : evalA env x = some (.d (.sc nilp))) (hy : evalA env y = some (.int .i64 0)) :
    StepIs P (.call { callee := .builtin .unsafeString, args := #[x, y], argTypes := #[tp, ti] }) env h n (some (.d (strD []))) [] := .of_comes fun C G st σ w a o ho hA hdst hst hn => by
  obtain ⟨hv, _⟩ := RelV.sc.1 (ev_sound hst (hA.ev hx)).1
  obtain ⟨hv2, _⟩ := RelV.sc.1 (ev_sound hst (hA.ev hy)).1
  refine .quiet (u := .string (mkS [])) hst hdst ⟨rfl, rfl⟩ ?_ (RelV.sc.2 ⟨rfl, rfl⟩) trivial
  have hrun := Lib.run_unsafeString_none (P := P) w tp ti o.type none
  simp [execOp, ho, resolve, invoke, builtin, hv, hv2, hrun]
  rfl

/-- A string over an owned row of bytes: the row is given up. -/
theorem unsafe_str {x y : Operand} {tp ti e r : Nat} {ex : Bool} {l : List UInt8} {m : Nat} (hp : P.underlying tp = some (.pointer e)) (hc : P.cellsOf e = 1) (hx : evalA env x = some (.ptr r [])) (hrow : lookH h r = some (.ds e 1 ex encU8 (byI l))) (hy : evalA env y = some (.int .i64 m)) (hm : l.length = m) (h0 : l ≠ []) (h63 : l.length ≤ 9223372036854775807) :
    StepIs P (.call { callee := .builtin .unsafeString, args := #[x, y], argTypes := #[tp, ti] }) env h n (some (.d (strD l))) [(r, none)] := .of_comes fun C G st σ w a o ho hA hdst hst hn => by
  subst hm
  obtain ⟨b, c, hσ, hv⟩ := RelV.ptr.1 (ev_sound hst (hA.ev hx)).1
  obtain ⟨hv2, _⟩ := RelV.sc.1 (ev_sound hst (hA.ev hy)).1
  have hr := hA.row _ _ hrow
  have hlen : (byI l).length = l.length := by simp [byI]
  rcases hst.rows r _ hr with ⟨h1, _⟩ | ⟨b', c', cur, hσ', hex, hh, hcs, hle, hcm, f, hf, htk⟩
  · rw [h1] at hσ; cases hσ
  rw [hσ] at hσ'
  cases hσ'
  have hsh : w.shape? b = some (e, cur.size) := by simp [World.shape?, hh]
  have hcell : ∀ j x, l[j]? = some x → w.cell? ((⟨b, 0, none⟩ : Addr).add j) = some (.int .u8 x.toNat) := by
    intro j x hj
    have hjl := (List.getElem?_eq_some_iff.1 hj).1
    have hj1 : j < (byI l).length := by rw [hlen]; exact hjl
    rw [add_mk, cell_of_row w b _ cur e (0, 0) hh, Nat.zero_add, ← Array.getElem?_toList]
    have h5 := cat_get (byI l).length (fun i hi => (hf i hi).2) j 0 hj1 (by omega)
    rw [← htk, List.getElem?_take, if_pos (by omega)] at h5
    simp only [Nat.mul_one, Nat.add_zero] at h5
    rw [h5]
    have h6 := (hf j hj1).1
    have h7 : (byI l)[j] = (x.toNat : Int) := by
      have := List.getElem?_eq_getElem hj1
      simp only [byI, List.getElem?_map, hj, Option.map_some, Option.some.injEq] at this
      exact this.symm
    rw [h7] at h6
    have h8 : f j = [.int .u8 x.toNat] := h6.1
    rw [h8]
    rfl
  have hrun := Lib.run_unsafeString_row (P := P) w tp ti o.type e hp hc b cur.size hsh l h0 (by rw [hcs, Nat.mul_one, ← hlen]; exact hle) h63 hcell
  refine ⟨_, _, .value (.string (mkS l)), _, _, σ, G, ⟨rfl, rfl⟩, ?_, .inl rfl, by rw [St.put_upd]; exact (hst.lose (m := l.length) hr hσ hh).set hdst (u := .string (mkS l)) (RelV.sc.2 ⟨rfl, rfl⟩) trivial, fun _ h => h, fun _ h => .inl h⟩
  simp only [pathOff] at hv
  simp [execOp, ho, resolve, invoke, builtin, hv, hv2, hrun, mkS]

/-! ### Frozen memory, sliced -/

/-- 's[lo:hi]' as a value. -/
def cutV (v : Value) (lo hi s : Nat) : Value := match v with
  | .slice a _ c => .slice (if c = lo then a else a.map (·.add (lo * s))) (hi - lo) (c - lo)
  | v => v

theorem arr_cut {σ : Place} {w : World} {X : Nat → Prop} {α : Type} {s : Nat} {enc : α → D} {xs : List α} {v : Value} {lo hi : Nat} (hv : RelV σ w X (.d (.arr s enc xs)) v) (h1 : lo ≤ hi) (h2 : hi ≤ xs.length) :
    (∃ a c, v = .slice a xs.length c ∧ xs.length ≤ c) ∧ RelV σ w X (.d (.arr s enc ((xs.drop lo).take (hi - lo)))) (cutV v lo hi s) := by
  rcases RelV.arr.1 hv with ⟨rfl, rfl⟩ | ⟨a, c, rfl, h3, h4, f, hf⟩
  · refine ⟨⟨none, 0, rfl, Nat.le_refl _⟩, ?_⟩
    simp only [List.length_nil] at h2
    obtain rfl : hi = 0 := by omega
    obtain rfl : lo = 0 := by omega
    exact RelV.arr.2 (.inl ⟨rfl, by simp [cutV]⟩)
  · refine ⟨⟨some a, c, rfl, h3⟩, RelV.arr.2 (.inr ⟨if c = lo then a else a.add (lo * s), c - lo, ?_, ?_, by omega, fun i => f (lo + i), fun i hi' => ?_⟩)⟩
    · simp only [cutV, List.length_take, List.length_drop, Nat.min_eq_left (show hi - lo ≤ xs.length - lo by omega)]
      split <;> rfl
    · simp only [List.length_take, List.length_drop]; omega
    · simp only [List.length_take, List.length_drop] at hi'
      have hli : lo + i < xs.length := by omega
      obtain ⟨g1, g2, g3⟩ := hf (lo + i) hli
      refine ⟨by simpa [List.getElem_take, List.getElem_drop] using g1, g2, fun j u hj => ?_⟩
      rw [if_neg (by omega), add_of_add, Addr.add_block, ← Nat.add_assoc, ← Nat.add_mul]
      exact g3 j u hj

theorem arr_to (hT : TabOk P T) {t e m s : Nat} {re : TyR} {x j : Operand} {k : IntKind} {α : Type} {enc : α → D} {xs ys : List α} (ht : tdesc T t = some (.slice e)) (he : lk T e = some re) (hs : Nat.beq re.size s = true) (hx : evalA env x = some (.d (.arr s enc xs))) (hj : evalA env j = some (.int k m)) (hm : m ≤ xs.length) (hy : xs.take m = ys) :
    StepIs P (.slice t x none (some j) none) env h n (some (.d (.arr s enc ys))) [] := .of_comes fun C G st σ w a o ho hA hdst hst hn => by
  obtain ⟨ud, hud, hdd⟩ := tdesc_und hT ht
  cases hdd
  have hs := Nat.eq_of_beq_eq_true hs
  obtain ⟨hj1, _⟩ := RelV.sc.1 (ev_sound hst (hA.ev hj)).1
  have hsz := (hT e re he).run_size (P := P)
  obtain ⟨⟨ad, c, hv, hc⟩, hr⟩ := arr_cut (lo := 0) (hi := m) (ev_sound hst (hA.ev hx)).1 (Nat.zero_le _) hm
  rw [List.drop_zero, Nat.sub_zero, hy] at hr
  refine .quiet hst hdst ⟨rfl, rfl⟩ ?_ hr trivial
  have hle : m ≤ c := by omega
  cases ad <;> simp [execOp, ho, Instr.sliceAt, Instr.slice, hv, hj1, run_underlying hud, Instr.sliceBounds, Instr.sliceBound, asIntOf, hsz, hs, Sem.run_bind, Sem.run_pure, Result.andThen_ok, hle, cutV, Addr.add_zero']

theorem arr_from (hT : TabOk P T) {t e m s : Nat} {re : TyR} {x j : Operand} {k : IntKind} {α : Type} {enc : α → D} {xs ys : List α} (ht : tdesc T t = some (.slice e)) (he : lk T e = some re) (hs : Nat.beq re.size s = true) (hx : evalA env x = some (.d (.arr s enc xs))) (hj : evalA env j = some (.int k m)) (hm : m ≤ xs.length) (hy : xs.drop m = ys) :
    StepIs P (.slice t x (some j) none none) env h n (some (.d (.arr s enc ys))) [] := .of_comes fun C G st σ w a o ho hA hdst hst hn => by
  obtain ⟨ud, hud, hdd⟩ := tdesc_und hT ht
  cases hdd
  have hs := Nat.eq_of_beq_eq_true hs
  obtain ⟨hj1, _⟩ := RelV.sc.1 (ev_sound hst (hA.ev hj)).1
  have hsz := (hT e re he).run_size (P := P)
  obtain ⟨⟨ad, c, hv, hc⟩, hr⟩ := arr_cut (lo := m) (hi := xs.length) (ev_sound hst (hA.ev hx)).1 hm (Nat.le_refl _)
  rw [List.take_of_length_le (by simp), hy] at hr
  refine .quiet hst hdst ⟨rfl, rfl⟩ ?_ hr trivial
  cases ad <;> simp [execOp, ho, Instr.sliceAt, Instr.slice, hv, hj1, run_underlying hud, Instr.sliceBounds, Instr.sliceBound, asIntOf, hsz, hs, Sem.run_bind, Sem.run_pure, Result.andThen_ok, hm, cutV]

theorem arr_mid (hT : TabOk P T) {t e lo hi s : Nat} {re : TyR} {x i j : Operand} {k k' : IntKind} {α : Type} {enc : α → D} {xs ys : List α} (ht : tdesc T t = some (.slice e)) (he : lk T e = some re) (hs : Nat.beq re.size s = true) (hx : evalA env x = some (.d (.arr s enc xs))) (hi_ : evalA env i = some (.int k lo)) (hj : evalA env j = some (.int k' hi)) (h1 : lo ≤ hi) (hm : hi ≤ xs.length) (hy : (xs.drop lo).take (hi - lo) = ys) :
    StepIs P (.slice t x (some i) (some j) none) env h n (some (.d (.arr s enc ys))) [] := .of_comes fun C G st σ w a o ho hA hdst hst hn => by
  obtain ⟨ud, hud, hdd⟩ := tdesc_und hT ht
  cases hdd
  have hs := Nat.eq_of_beq_eq_true hs
  obtain ⟨hj1, _⟩ := RelV.sc.1 (ev_sound hst (hA.ev hj)).1
  obtain ⟨hi1, _⟩ := RelV.sc.1 (ev_sound hst (hA.ev hi_)).1
  have hsz := (hT e re he).run_size (P := P)
  obtain ⟨⟨ad, c, hv, hc⟩, hr⟩ := arr_cut (lo := lo) (hi := hi) (ev_sound hst (hA.ev hx)).1 h1 hm
  rw [hy] at hr
  refine .quiet hst hdst ⟨rfl, rfl⟩ ?_ hr trivial
  have hle : hi ≤ c := by omega
  cases ad <;> simp [execOp, ho, Instr.sliceAt, Instr.slice, hv, hj1, hi1, run_underlying hud, Instr.sliceBounds, Instr.sliceBound, asIntOf, hsz, hs, Sem.run_bind, Sem.run_pure, Result.andThen_ok, hle, h1, cutV]

/-- An array behind a pointer, as a slice. -/
theorem slice_iptr (hT : TabOk P T) {t e L s : Nat} {re : TyR} {x : Operand} {α : Type} {enc : α → D} {xs : List α} (ht : tdesc T t = some (.array L e)) (he : lk T e = some re) (hx : evalA env x = some (.iptr (.vec L s enc xs))) (hL : Nat.ble L 1048576 = true) (hs0 : Nat.blt 0 s = true) :
    StepIs P (.slice t x none none none) env h n (some (.d (.arr s enc xs))) [] := .of_comes fun C G st σ w a o ho hA hdst hst hn => by
  obtain ⟨ud, hud, hdd⟩ := tdesc_und hT ht
  cases hdd
  have hL := Nat.le_of_ble_eq_true hL
  have hs0 := Nat.le_of_ble_eq_true hs0
  have hsz := (hT e re he).run_size (P := P)
  obtain ⟨ad, cs, hv, ⟨hl, f, hf, hcs⟩, hc⟩ := RelV.iptr.1 (ev_sound hst (hA.ev hx)).1
  have hmax : (1048576 : Nat) ≤ maxLen := by decide
  refine .quiet (u := .slice (some ad) L L) hst hdst ⟨rfl, rfl⟩ ?_ (RelV.arr.2 (.inr ⟨ad, L, by rw [hl], by omega, by omega, f, fun i hi => ⟨(hf i hi).1, (hf i hi).2, fun j u hj => ?_⟩⟩)) trivial
  · simp [execOp, ho, Instr.sliceAt, hv, Instr.sureAddr, run_underlying hud, Instr.sliceBounds, Instr.sliceBound, asIntOf, hsz, Sem.run_bind, Sem.run_pure, Result.andThen_ok, Addr.add_zero']
  · have hjs : j < s := by rw [← (hf i hi).2]; exact (List.getElem?_eq_some_iff.1 hj).1
    have := cat_get xs.length (fun i hi => (hf i hi).2) i j hi hjs
    rw [hj] at this
    refine hc _ _ ?_
    rw [hcs, ← hl]
    exact this

/-- A slice as a pointer to an array. -/
theorem arr_ptr (hT : TabOk P T) {t e L s : Nat} {x : Operand} {α : Type} {enc : α → D} {xs : List α} (ht : tdesc T t = some (.array L e)) (hx : evalA env x = some (.d (.arr s enc xs))) (hL : xs.length = L) (h0 : Nat.blt 0 L = true) (hs0 : Nat.blt 0 s = true) :
    StepIs P (.sliceToArrayPointer t x) env h n (some (.iptr (.vec L s enc xs))) [] := .of_comes fun C G st σ w a o ho hA hdst hst hn => by
  obtain ⟨ud, hud, hdd⟩ := tdesc_und hT ht
  cases hdd
  have h0 := Nat.le_of_ble_eq_true h0
  have hs0 := Nat.le_of_ble_eq_true hs0
  rcases RelV.arr.1 (ev_sound hst (hA.ev hx)).1 with ⟨rfl, _⟩ | ⟨ad, c, hv, h3, h4, f, hf⟩
  · simp at hL; omega
  · refine .quiet (u := .pointer (some ad)) hst hdst ⟨rfl, rfl⟩ ?_ (RelV.iptr.2 ⟨ad, cat f xs.length, rfl, ⟨hL, f, fun i hi => ⟨(hf i hi).1, (hf i hi).2.1⟩, by rw [hL]⟩, fun j u hj => ?_⟩) trivial
    · simp [execOp, ho, Instr.arrayAt, hv, run_underlying hud, hL, Sem.run_bind, Sem.run_pure, Result.andThen_ok]
    · have hjl := (List.getElem?_eq_some_iff.1 hj).1
      rw [cat_len _ fun i hi => (hf i hi).2.1] at hjl
      have hi : j / s < xs.length := Nat.div_lt_of_lt_mul (by rw [Nat.mul_comm]; exact hjl)
      have hm : j % s < s := Nat.mod_lt _ hs0
      have hj2 : j / s * s + j % s = j := by rw [Nat.mul_comm]; exact Nat.div_add_mod j s
      have := cat_get xs.length (fun i hi => (hf i hi).2.1) (j / s) (j % s) hi hm
      rw [hj2, hj] at this
      have := (hf _ hi).2.2 (j % s) u this.symm
      rwa [hj2] at this
end

/-- Data one after another. -/
def dsAV : List D → AV
  | [] => .anil
  | d :: l => .acons (.d d) (dsAV l)

theorem dsAV_rel {σ : Place} {w : World} {X : Nat → Prop} {α : Type} {enc : α → D} : ∀ (xs : List α) (cs : List Value), Rel σ w X (dsAV (xs.map enc)) false cs → ∃ f : Nat → List Value, (∀ i (h : i < xs.length), Enc w X (enc xs[i]) (f i)) ∧ cs = cat f xs.length
  | [], cs, h => ⟨fun _ => [], fun i hi => absurd hi (Nat.not_lt_zero _), h⟩
  | x :: xs, cs, h => by
    obtain ⟨c1, c2, rfl, h1, h2⟩ := h
    obtain ⟨f, hf, rfl⟩ := dsAV_rel xs c2 h2
    refine ⟨fun i => if i = 0 then c1 else f (i - 1), fun i hi => ?_, ?_⟩
    · cases i with
      | zero => exact h1
      | succ i => simpa using hf i (by simpa using hi)
    · rw [List.length_cons, Nat.add_comm xs.length 1, cat_add 1]
      simp only [cat, List.nil_append, if_true]
      congr 1
      exact cat_congr _ fun i hi => by simp [Nat.add_comm 1 i]

section
variable {r : Nat} {row : Row}
/-- Elements that are written out, frozen. -/
theorem Frz.litsN {t s m : Nat} {ex : Bool} {α : Type} {enc : α → D} (xs : List α) {cap : Option Nat} (hm : xs.length = m) (hs : ∀ x ∈ xs, (enc x).size = s) : Frz r (.lits t s m ex (dsAV (xs.map enc))) (.own r 0 m s cap) (.d (.arr s enc xs)) := by
  subst hm
  refine ⟨rfl, fun _ => rfl, fun _ _ => trivial, fun σ w X X' hx hn hr cs h => ?_⟩
  rcases h with ⟨h0, _, hl, _, rfl⟩ | ⟨b, c, ad, hb, rfl, hle1, hle2, hle3, had⟩
  · exact .inl ⟨List.eq_nil_of_length_eq_zero hl, rfl⟩
  · rcases hr with ⟨_, ⟨h0, h1⟩ | ⟨b', c', cur, cs', hb', _, hh, hsz, hlen, hmax, hcl, hrel, htake⟩⟩
    · rw [hb] at h0; cases h0
    · rw [hb] at hb'
      cases hb'
      obtain ⟨f, hf, rfl⟩ := dsAV_rel xs _ hrel
      have hfl : ∀ i, i < xs.length → (f i).length = s := fun i hi => by rw [← hs _ (List.getElem_mem hi)]; exact Enc.len _ _ (hf i hi)
      refine .inr ⟨ad, cap.getD (c - 0), rfl, hle3, by omega, f, fun i hi => ?_⟩
      have hoff : ad = ⟨b, 0 * s, none⟩ := had (by omega)
      subst hoff
      refine ⟨Enc.sub hx _ _ (hf i hi), hfl i hi, fun j u hj => ⟨?_, hn b c hb⟩⟩
      rw [add_mk, cell_of_row w b _ cur t (0, 0) hh]
      have hjs : j < s := by rw [← hfl i hi]; exact (List.getElem?_eq_some_iff.1 hj).1
      have hcg := cat_get (f := f) (s := s) xs.length hfl i j hi hjs
      have hlt2 : i * s + j < xs.length * s := by
        have : (i + 1) * s ≤ xs.length * s := Nat.mul_le_mul_right s hi
        rw [Nat.add_mul] at this; omega
      rw [← htake, hj, List.getElem?_take, if_pos hlt2] at hcg
      rw [← Array.getElem?_toList, Nat.zero_mul, Nat.zero_add]
      exact hcg
end

section
variable {P : Program} {f : FuncId} {avs : List AV} {h0 : List (Nat × Row)} {res res' : AV} {rows rows' : List (Nat × Row)}
/-- What a function returns, given up. -/
theorem FnIs.freeze_out (r : Nat) (row : Row) (hrow : lookH (someRows rows) r = some row) (hE : Frz r row res res') (hH : FrzRows r row (someRows rows) (someRows rows')) (h : FnIs P f avs h0 res rows) : FnIs P f avs h0 res' rows' := by
  refine ⟨h.1, fun C σ w vs hbs hB hw0 hσ0 hro hst => (h.2 C σ w vs hbs hB hw0 hσ0 hro hst).mono fun e w' hr => ?_⟩
  obtain ⟨v, σ', he, hs⟩ := hr
  refine ⟨v, σ', he, hs.freeze (st' := resSt res' rows') r row (by rw [← lookH_row]; exact hrow) (fun i v' hv => ?_) (fun q x' hq => ?_) rfl rfl⟩
  · simp only [resSt, lk_cons] at hv ⊢
    split at hv
    · rename_i e
      cases hv
      exact ⟨res, by rw [if_pos e], hE⟩
    · simp [lk] at hv
  · rw [← lookH_row] at hq
    obtain ⟨h1, x, h2, h3⟩ := FrzRows.out _ hH q x' hq
    exact ⟨h1, x, by rw [← lookH_row]; exact h2, h3⟩
end
end Go.Eng

/- Variables whose fields are told one by one. -/
namespace Go.Eng
open Go.RowKit
theorem RowLe.split1 {t : TypeId} {a r : D} : RowLe (.box t (.d (.cons a r))) (.box t (.acons (.d a) (.d r))) := by
  rintro σ w X q ⟨_, b, cs, h1, h2, c1, c2, h3, h4, h5⟩
  exact ⟨rfl, b, cs, h1, h2, c1, c2, h3, h4, h5⟩
theorem RowLe.split2 {t : TypeId} {a b r : D} : RowLe (.box t (.d (.cons a (.cons b r)))) (.box t (.acons (.d a) (.acons (.d b) (.d r)))) := by
  rintro σ w X q ⟨_, k, cs, h1, h2, c1, c2, h3, h4, c3, c4, h5, h6, h7⟩
  exact ⟨rfl, k, cs, h1, h2, c1, c2, h3, h4, c3, c4, h5, h6, h7⟩
end Go.Eng

/- Elements that are written out, appended. -/
namespace Go.Eng
open Go.RowKit
section
variable {P : Program} {T : Tab} {env : Env} {h : Upds} {n : Nat}
theorem src_lits {r s m : Nat} {cap : Option Nat} {te : TypeId} {ex : Bool} {α : Type} {enc : α → D} (ys : List α) {y : Operand} (hy : evalA env y = some (.own r 0 m s cap)) (hrow : lookH h r = some (.lits te s m ex (dsAV (ys.map enc)))) (hm : ys.length = m) (hs : ∀ x ∈ ys, (enc x).size = s) (hp : 0 < m) :
    ∀ (C : Ctx) (G : Nat → Prop) (st : St) (σ : Place) (w : World) (a : Act), Agree env h st → StRel C G st σ w a → SrcIs s enc ys w (st.X C.X0 σ) (a.eval y) := by
  intro C G st σ w a hA hst
  subst hm
  obtain ⟨hy1, _⟩ := ev_sound hst (hA.ev hy)
  rcases RelV.own.1 hy1 with ⟨_, _, h0, _⟩ | ⟨b, c, ad, hb, hv, hle, hle2, _, had⟩
  · omega
  · rcases hst.rows r _ (hA.row _ _ hrow) with ⟨_, ⟨h0, h1⟩ | ⟨b', c', cur, cs', hb', _, hh, hsz, hlen, hmax, hcl, hrel, htake⟩⟩
    · omega
    · rw [hb] at hb'
      cases hb'
      have : ad = ⟨b, 0, none⟩ := by have := had (by omega); simpa using this
      subst this
      obtain ⟨f, hf, rfl⟩ := dsAV_rel ys _ hrel
      refine ⟨⟨b, 0, none⟩, _, f, hv, fun i hi => ⟨hf i hi, ?_⟩, fun j u hj => ?_⟩
      · rw [← hs _ (List.getElem_mem hi)]; exact Enc.len _ _ (hf i hi)
      · have hjl := (List.getElem?_eq_some_iff.1 hj).1
        rw [add_mk, cell_of_row w b _ cur te (0, 0) hh, Nat.zero_add, ← Array.getElem?_toList]
        rw [hcl] at hjl
        rw [← htake, List.getElem?_take, if_pos hjl] at hj
        exact hj
/-- append(l, x, y, ..). -/
theorem append_lits (hT : TabOk P T) {t e r r2 m : Nat} {re : TyR} {s : Nat} {ex ex2 : Bool} {cap2 : Option Nat} {α : Type} {enc : α → D} {xs : List α} {x y : Operand} (ys : List α) (ht : tdesc T t = some (.slice e)) (he : lk T e = some re) (hs : Nat.beq re.size s = true) (hs0 : Nat.blt 0 s = true)
    (hx : evalA env x = some (.own r 0 xs.length s none)) (hrow : lookH h r = some (.ds e s ex enc xs)) (hy : evalA env y = some (.own r2 0 m s cap2)) (hrow2 : lookH h r2 = some (.lits e s m ex2 (dsAV (ys.map enc)))) (hm : ys.length = m) (hsz : ∀ x ∈ ys, (enc x).size = s) (hp : 0 < m)
    (hlen : xs.length + ys.length ≤ 1048576) (hbytes : Nat.ble re.bytes 134217728 = true) :
    StepIs P (.call { callee := .builtin .append, args := #[x, y], argTypes := #[t, t] }) env h n (some (.own n 0 (xs.length + ys.length) s none)) [(n, some (.ds e s false enc (xs ++ ys))), (r, none)] := by
  have hs0 := Nat.le_of_ble_eq_true hs0
  have hb := Nat.le_of_ble_eq_true hbytes
  refine append_core hT (ty := 0) (ex := ex) ht he (Nat.eq_of_beq_eq_true hs) hs0 hx hrow hy (by omega) (by simp only [maxLen]; omega) ?_ (src_lits ys hy hrow2 hm hsz hp)
  calc (xs.length + ys.length) * re.bytes ≤ 1048576 * 134217728 := Nat.mul_le_mul hlen hb
    _ ≤ 140737488355328 := by decide
end
end Go.Eng
