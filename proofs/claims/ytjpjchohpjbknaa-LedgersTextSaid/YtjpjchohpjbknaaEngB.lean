/- The engine: functions, regions, calls, slices, ranges over functions. -/
import Derived.Test.YtjpjchohpjbknaaEngA
import Derived.Orders
import Derived.Laws.StructEq
import Derived.ChangeKeysEq
import Derived.WalkKit
import Derived.ProofKit
import Derived.OpenShut
import Derived.ShutString
import Derived.ChangeOld
import Derived.Below
import Derived.Deep.Slices
import Derived.Laws.MakeOwn
import Derived.Laws.CopyRow

set_option linter.unusedVariables false
set_option linter.unusedSimpArgs false

/- From a walk of the body to a function's contract; the steps of a walk. -/
namespace Go.Eng
open Go.RowKit

/-- The results of a function, out of a state. -/
def retVals (T : Tab) (st : St) : List ResultVar → (AV → Prop) → Prop
  | [], K => K .anil
  | .tmp t :: l, K => match lk st.env t with
    | some v => retVals T st l fun q => K (.acons v q)
    | none => False
  | .cell t ty :: l, K => match lk st.env t with
    | some (.ptr r p) => (match st.row r with
      | some row => ∃ v, RSub row p v ∧ Chk (sizeOk T ty v) (retVals T st l fun q => K (.acons v q))
      | none => False)
    | _ => False

/-- One result stands alone; none or several are a tuple. -/
def retOne : AV → AV
  | .acons v .anil => v
  | q => .tup q

/-- The function is done, and hands back `res` with `rows`; l: the names of its rows. -/
def Ret (T : Tab) (fn : Func) (res : AV) (rows : List (Nat × Row)) (e : Exit) (st : St) : Prop :=
  (match e with | .normal => True | .ret => True | _ => False) ∧ retVals T st fn.results.toList fun q => ∃ l, Le l { st with env := [(0, retOne q)], sz := 1 } (resSt res rows)

section
variable {P : Program} {T : Tab} {C : Ctx} {w : World} {G : Nat → Prop} {st st' : St} {σ : Place} {a : Act}

def resVal (tmps : Array Value) : ResultVar → Sem Value
  | .tmp t => pure (tmps.getD t undef)
  | .cell a t => do loadVar t (← asAddr (tmps.getD a undef))

theorem results_eq (fn : Func) (tmps : Array Value) : results fn tmps = (do
    let vs ← fn.results.mapM (resVal tmps)
    pure (if h : vs.size = 1 then vs[0] else .tuple vs)) := by
  unfold results
  congr 1

theorem retVals_sound (hT : TabOk P T) (h : StRel C G st σ w a) : ∀ (l : List ResultVar) (K : AV → Prop), retVals T st l K → ∃ q vs, K q ∧
    (l.mapM (resVal a.tmps)).run P w = .ok vs w ∧ Rel σ w (st.X C.X0 σ) q true vs ∧ q.within G ∧ q.chain = true
  | [], K, hk => ⟨.anil, [], hk, by simp, rfl, trivial, rfl⟩
  | .tmp t :: l, K, hk => by
    simp only [retVals] at hk
    split at hk <;> try exact hk.elim
    rename_i v hv
    obtain ⟨q, vs, h1, h2, h3, h4, h5⟩ := retVals_sound hT h l _ hk
    obtain ⟨u, hu, hr⟩ := h.env t v hv
    refine ⟨_, u :: vs, h1, ?_, ⟨u, vs, rfl, hr, h3⟩, ⟨h.envG t v hv, h4⟩, h5⟩
    have : a.tmps.getD t undef = u := by simp [Array.getD_eq_getD_getElem?, hu]
    simp only [List.mapM_cons, resVal, Sem.run_bind, Sem.run_pure, Result.andThen_ok, this, h2]
  | .cell t ty :: l, K, hk => by
    simp only [retVals] at hk
    split at hk <;> try exact hk.elim
    rename_i r p hv
    split at hk <;> try exact hk.elim
    rename_i row hrow
    obtain ⟨v, hs, hk⟩ := hk
    obtain ⟨hsz, hk⟩ := hk.out
    obtain ⟨q, vs, h1, h2, h3, h4, h5⟩ := retVals_sound hT h l _ hk
    obtain ⟨u, hu, hr⟩ := h.env t _ hv
    obtain ⟨b, c, hb, rfl⟩ := RelV.ptr.1 hr
    obtain ⟨tr, htr, hsz1, hf, hag⟩ := sizeOk.out hsz
    obtain ⟨b', c', cur, t', m, A, C, hb', hh, hat, hm, _⟩ := RSub.cells hs (h.rows r row hrow)
    rw [hb] at hb'
    cases hb'
    have hl : m.length = tr.size := by rw [Rel.len _ _ hf hm, hsz1]
    obtain ⟨x, hrun, hrel⟩ := run_loadVar (hT ty tr htr) (Stand.at hh hat) hl hm hf hag
    refine ⟨_, x :: vs, h1, ?_, ⟨x, vs, rfl, hrel, h3⟩, ⟨RSub.within (h.rowsG r row hrow).2 hs, h4⟩, h5⟩
    have : a.tmps.getD t undef = .pointer (some ⟨b, pathOff p, none⟩) := by simp [Array.getD_eq_getD_getElem?, hu]
    have hA : (asAddr (a.tmps.getD t undef)).run P w = .ok ⟨b, pathOff p, none⟩ w := by rw [this]; rfl
    simp only [List.mapM_cons, resVal, Sem.run_bind, Sem.run_pure, Result.andThen_ok, hA, hrun, h2]

theorem retOne_rel {X : Nat → Prop} {q : AV} {vs : List Value} (hc : q.chain = true) (h : Rel σ w X q true vs) : RelV σ w X (retOne q) (if h : vs.toArray.size = 1 then vs.toArray[0] else .tuple vs.toArray) := by
  cases q with
  | anil =>
    obtain rfl : vs = [] := h
    unfold RelV
    simp only [retOne, AV.isAgg]
    exact ⟨[], rfl, rfl⟩
  | acons v r =>
    obtain ⟨u, us, rfl, h1, h2⟩ := h
    cases r with
    | anil =>
      obtain rfl : us = [] := h2
      unfold RelV
      simpa [retOne] using h1
    | acons v' r' =>
      have h0 := h2
      obtain ⟨u', us', rfl, _, _⟩ := h0
      unfold RelV
      simp only [retOne, AV.isAgg]
      exact ⟨u :: u' :: us', by simp, ⟨u, u' :: us', rfl, h1, h2⟩⟩
    | _ => simp [AV.chain] at hc
  | _ => simp [AV.chain] at hc

/-- A record of a loop is turned: nothing that is known of rows and values turns. -/
theorem StRel.putBook {C : Ctx} {G : Nat → Prop} {st : St} {σ : Place} {w : World} {a : Act} (h : StRel C G st σ w a) {D : Nat} {o o' : Obj} (hD : w.heap[D]? = some o) (ho : isBook o = true) (hw : C.w0.heap.size ≤ D) (hB : C.B ≤ D) (hro : ∀ l, C.ro = some l → l ≠ D)
    {ds : List Deferred} (hd : DefOk C (w.putObj D o') ds) : StRel C G st σ (w.putObj D o') ⟨a.tmps, ds⟩ := by
  have hlt : D < w.heap.size := (Array.getElem?_eq_some_iff.1 hD).1
  have hoth : ∀ k, k ≠ D → (w.putObj D o').heap[k]? = w.heap[k]? := fun k hk => World.putObj_heap_other hk
  have hne : ∀ {r row b c}, st.row r = some row → σ r = some (b, c) → b ≠ D := by
    rintro r row b c h1 h2 rfl
    obtain ⟨o2, hc, hnb⟩ := h.cells h1 h2
    rw [hD] at hc; cases hc; rw [ho] at hnb; cases hnb
  have hk : ∀ (ad : Addr) (u : Value), w.cell? ad = some u → ¬ st.X C.X0 σ ad.block → (w.putObj D o').cell? ad = some u ∧ ¬ st.X C.X0 σ ad.block := by
    intro ad u h1 h2
    refine ⟨?_, h2⟩
    have hb : ad.block ≠ D := by
      rintro rfl
      have : (w.cell? ad) = none := by
        simp only [World.cell?, hD]
        cases o <;> first | rfl | cases ho
      rw [this] at h1; cases h1
    rw [World.cell?_of_block (hoth _ hb)]; exact h1
  exact {
    env := fun i v hi => by
      obtain ⟨u, h1, h2⟩ := h.env i v hi
      exact ⟨u, h1, RelV.mono (G := fun _ => True) (fun _ _ => rfl) hk (AV.within_all v) h2⟩
    envG := h.envG
    rows := fun r row hr => RowRel.mono (G := fun _ => True) (fun _ _ => rfl) hk trivial (Row.within_all row) (fun b c hs => hoth b (hne hr hs)) (h.rows r row hr)
    rowsG := h.rowsG
    inj := h.inj
    high := h.high
    size := by have := h.size; simpa [World.putObj] using this
    below := ⟨h.below.os, h.below.tape, h.below.output, (by have := h.below.size; simpa [World.putObj] using this), fun k hk hm => (hoth k (by omega)).trans (h.below.block k hk hm),
      fun k x hx hb => (hoth k (by have := (Array.getElem?_eq_some_iff.1 hx).1; omega)).trans (h.below.book k x hx hb)⟩
    defers := hd
    sz := h.sz
    x0 := h.x0
    agree := h.agree
    baseG := h.baseG
    bs := h.bs
    rok := fun l hl => let ⟨r, hr⟩ := h.rok l hl; ⟨r, (hoth l (hro l hl)).trans hr⟩ }

/-- The marks at a function's end. -/
theorem leaves_marks {C : Ctx} {G : Nat → Prop} {st : St} {σ : Place} {fn : Func} {tmps : Array Value} {R : Ending → World → Prop} (hro : C.ro = none) :
    ∀ (ds : List Deferred) (w : World), StRel C G st σ w ⟨tmps, ds⟩ → (∀ w', StRel C G st σ w' ⟨tmps, []⟩ → LeavesIn Fence.wide 0 P fn tmps R [] .returning w') → LeavesInM Fence.wide 0 P fn tmps R ds .returning w
  | [], w, h, hR => hR w h
  | d :: ds, w, h, hR => by
    obtain ⟨⟨D, rfl, h2, h3, h4, h5⟩, h6⟩ := h.defers
    have hd : ∀ l : List Deferred, ({ target := .collected D, args := #[] } : Deferred) ∉ l → DefOk C w l → DefOk C (w.putObj D (.deferred none)) l := by
      intro l
      induction l with
      | nil => intro _ _; trivial
      | cons x l ih =>
        rintro hn ⟨⟨D', rfl, g2, g3, g4, g5⟩, g6⟩
        refine ⟨⟨D', rfl, g2, g3, (World.putObj_heap_other (fun e => hn (by subst e; simp))).trans g4, g5⟩, ih (fun hm => hn (by simp [hm])) g6⟩
    refine ⟨by simp, .inl ⟨D, _, rfl, run_takeDeferred h4, leaves_marks hro ds _ (h.putBook h4 rfl h2 h3 (fun l hl => by rw [hro] at hl; cases hl) (hd ds h5 h6)) hR⟩⟩

theorem fnIs_of (hT : TabOk P T) {f : FuncId} {fn : Func} {c : Code} {avs : List AV} {h0 rows : List (Nat × Row)} {res : AV} (hf : P.funcs[f]? = some fn) (hname : (fn.name == "runtime.NumGoroutine") = false) (hb : fn.body = some c)
    (hn : Nat.ble avs.length fn.ntmps = true) (h : WC P fn.ntmps c (Ret T fn res rows) (avEnv 0 avs) (someRows h0) 64) : FnIs P f avs h0 res rows := by
  have hn := Nat.le_of_ble_eq_true hn
  refine ⟨⟨fn, hf, hname, by simp [hb]⟩, fun C σ w vs hbs hB hw hσ hro hst => ?_⟩
  have hl : vs.length = avs.length := by simpa [inSt] using hst.sz
  have hst0 : StRel C (fun r => r < 64) ⟨avEnv 0 avs, someRows h0, 64, fn.ntmps, 64⟩ σ w { tmps := vs.toArray ++ Array.replicate (fn.ntmps - vs.toArray.size) undef, defers := [] } :=
    { hst with
      env := fun i v hi => by
        obtain ⟨u, hu, hv⟩ := hst.env i v hi
        refine ⟨u, ?_, hv⟩
        have := (Array.getElem?_eq_some_iff.1 hu).1
        rw [Array.getElem?_append_left this]
        exact hu
      defers := trivial
      sz := by simp; omega }
  have hwp := h C σ w _ hst0
  rw [show fen C.ro = Fence.wide by rw [hro]; rfl] at hwp
  refine callsIn_wide.1 (callsIn_of_wp_marks (n := 0) hf hb trivial (wpIn_mono hwp ?_))
  rintro e a' w₁ ⟨st', σ', ⟨he, hr⟩, h1⟩
  have hleave : LeavesInM Fence.wide 0 P fn a'.tmps (fun e w' => ∃ v σ', e = .returned v ∧ StRel C (fun r => r < 72) (resSt res rows) σ' w' ⟨#[v], []⟩) a'.defers .returning w₁ := by
    refine leaves_marks hro _ w₁ h1 fun w' h2 => ?_
    obtain ⟨q, vs', ⟨l, hle⟩, hrun, hrel, hqw, hc⟩ := retVals_sound hT h2 _ _ hr
    have hres : (results fn a'.tmps).run P w' = .ok (if h : vs'.toArray.size = 1 then vs'.toArray[0] else .tuple vs'.toArray) w' := by
      rw [results_eq, Array.mapM_eq_mapM_toList]
      simp only [Sem.run_bind, Sem.run_map, hrun, Result.andThen_ok, Sem.run_pure]
    have hone : StRel C (fun r => r < st'.next) { st' with env := [(0, retOne q)], sz := 1 } σ' w' ⟨#[if h : vs'.toArray.size = 1 then vs'.toArray[0] else .tuple vs'.toArray], []⟩ :=
      { h2 with
        env := fun i v hi => by
          simp only [lk_cons] at hi
          split at hi
          · rename_i e
            subst e
            simp only [Option.some.injEq] at hi
            subst hi
            exact ⟨_, rfl, retOne_rel hc hrel⟩
          · simp [lk] at hi
        envG := fun i v hi => by
          simp only [lk_cons] at hi
          split at hi
          · simp only [Option.some.injEq] at hi
            subst hi
            cases q with
            | acons v r => cases r <;> first | exact hqw.1 | exact hqw
            | _ => exact hqw
          · simp [lk] at hi
        sz := rfl
        defers := trivial }
    exact ⟨_, hres, _, _, rfl, hone.le hle⟩
  cases e with
  | normal => exact hleave
  | ret => exact hleave
  | _ => exact he.elim

end

section
variable {P : Program} {T : Tab} {sz : Nat} {env : Env} {h : Upds} {n : Nat} {all l : List Oper} {K : Env → Upds → Nat → Prop}

/-- A guard that lets its operation run. -/
theorem reg_on {d : Option Tmp} {op : Op} {ty : TypeId} {pos : String} {af : Array Edge} {j g : Nat} {want b : Bool} (hj : ((all[j]?).bind (·.dst)) = some g) (hb : lk env g = some (.bool b)) (he : b = want)
    (h1 : RegS P all sz (⟨d, op, ty, pos, af, none⟩ :: l) n env h K) : RegS P all sz (⟨d, op, ty, pos, af, some (j, want)⟩ :: l) n env h K := by
  intro C σ w a hst Q hQ
  have := h1 C σ w a hst Q hQ
  unfold wpListIn at this ⊢
  rw [if_pos (show Region.wanted ⟨d, op, ty, pos, af, none⟩ _ = true from rfl)] at this
  rw [if_pos (by rw [wanted_bool (o := ⟨d, op, ty, pos, af, some (j, want)⟩) rfl hj hb C σ w a _ h n hst, he]; exact beq_self_eq_true _)]
  exact this

/-- A choice by a bool that is not known. -/
theorem reg_pick (hT : TabOk P T) {d : Tmp} {c x y : Operand} {ty : TypeId} {pos : String} {af : Array Edge} {b : Bool} (hc : evalA env c = some (.bool b)) (hd : Nat.blt d sz = true)
    (h1 : b = true → ∃ v, evalA env x = some v ∧ RegS P all sz l (n + 8) ((d, v) :: env) h K) (h2 : b = false → ∃ v, evalA env y = some v ∧ RegS P all sz l (n + 8) ((d, v) :: env) h K) :
    RegS P all sz (⟨some d, .pick c x y, ty, pos, af, none⟩ :: l) n env h K := by
  cases b with
  | true =>
    obtain ⟨v, hv, hk⟩ := h1 rfl
    refine reg_quiet hd (.of_opD hT fun K' hK => ?_) hk
    simp only [opD, hc]
    exact Br.t (by simp only [cond_true, hv]; exact hK)
  | false =>
    obtain ⟨v, hv, hk⟩ := h2 rfl
    refine reg_quiet hd (.of_opD hT fun K' hK => ?_) hk
    simp only [opD, hc]
    exact Br.f (by simp only [cond_false, hv]; exact hK)

theorem reg_new {d : Tmp} {op : Op} {ty : TypeId} {pos : String} {af : Array Edge} {v : AV} {x : Nat × Option Row} (hs : StepIs P op env h n (some v) [x]) (hd : Nat.blt d sz = true)
    (hk : RegS P all sz l (n + 8) ((d, v) :: env) (x :: h) K) : RegS P all sz (⟨some d, op, ty, pos, af, none⟩ :: l) n env h K := reg_do (dst := some d) hd hs rfl rfl hk

theorem reg_new2 {d : Tmp} {op : Op} {ty : TypeId} {pos : String} {af : Array Edge} {v : AV} {x y : Nat × Option Row} (hs : StepIs P op env h n (some v) [x, y]) (hd : Nat.blt d sz = true)
    (hk : RegS P all sz l (n + 8) ((d, v) :: env) (x :: y :: h) K) : RegS P all sz (⟨some d, op, ty, pos, af, none⟩ :: l) n env h K := reg_do (dst := some d) hd hs rfl rfl hk

theorem reg_store {op : Op} {ty : TypeId} {pos : String} {af : Array Edge} {x : Nat × Option Row} (hs : StepIs P op env h n none [x])
    (hk : RegS P all sz l (n + 8) env (x :: h) K) : RegS P all sz (⟨none, op, ty, pos, af, none⟩ :: l) n env h K := reg_do (dst := none) rfl hs rfl rfl hk

theorem step_C (hT : TabOk P T) {op : Op} {v : Option AV} {u : Upds} (hop : ∀ K : Option AV → Upds → Prop, K v u → opD T op (evalA env) (lookH h) n K) : StepIs P op env h n v u := .of_opD hT hop

theorem pick_T (hT : TabOk P T) {c x y : Operand} {b : Bool} {v : AV} (hc : evalA env c = some (.bool b)) (hb : b = true) (hv : evalA env x = some v) : StepIs P (.pick c x y) env h n (some v) [] := .of_opD hT fun K hK => by
  subst hb
  simp only [opD, hc]
  exact Br.t (by simp only [cond_true, hv]; exact hK)
theorem pick_F (hT : TabOk P T) {c x y : Operand} {b : Bool} {v : AV} (hc : evalA env c = some (.bool b)) (hb : b = false) (hv : evalA env y = some v) : StepIs P (.pick c x y) env h n (some v) [] := .of_opD hT fun K hK => by
  subst hb
  simp only [opD, hc]
  exact Br.f (by simp only [cond_false, hv]; exact hK)

theorem load_box (hT : TabOk P T) {t : TypeId} {x : Operand} {r : Nat} {p : List Step} {ty : TypeId} {a v : AV} (hx : evalA env x = some (.ptr r p)) (hr : lookH h r = some (.box ty a)) (hv : ASub a p v) (hs : sizeOk T t v = true) : StepIs P (.load t x) env h n (some v) [] := .of_opD hT fun K hK => by
  simp only [opD, hx, hr]
  exact ⟨v, hv, by rw [hs]; exact hK⟩
theorem load_i (hT : TabOk P T) {t : TypeId} {x : Operand} {y : D} (hx : evalA env x = some (.iptr y)) (hs : sizeOk T t (.d y) = true) : StepIs P (.load t x) env h n (some (.d y)) [] := .of_opD hT fun K hK => by
  simp only [opD, hx]
  rw [hs]; exact hK
theorem load_row (hT : TabOk P T) {t : TypeId} {x : Operand} {r : Nat} {p : List Step} {row : Row} {v : AV} (hx : evalA env x = some (.ptr r p)) (hr : lookH h r = some row) (hv : RSub row p v) (hs : sizeOk T t v = true) : StepIs P (.load t x) env h n (some v) [] := .of_opD hT fun K hK => by
  simp only [opD, hx, hr]
  exact ⟨v, hv, by rw [hs]; exact hK⟩
theorem store_row (hT : TabOk P T) {t : TypeId} {x y : Operand} {r : Nat} {p : List Step} {row row' : Row} {v : AV} (hx : evalA env x = some (.ptr r p)) (hy : evalA env y = some v) (hr : lookH h r = some row) (hv : RUpd row p v row') (hs : sizeOk T t v = true) :
    StepIs P (.store t x y) env h n none [(r, some row')] := .of_opD hT fun K hK => by
  simp only [opD, hx, hy, hr]
  exact ⟨row', hv, by rw [hs]; exact hK⟩

theorem add_int (hT : TabOk P T) {x y : Operand} {t t' : TypeId} {k : IntKind} {a b m : Int} (hx : evalA env x = some (.int k a)) (hy : evalA env y = some (.int k b)) (hm : k.wrap (a + b) = m) : StepIs P (.binOp .add t x y t') env h n (some (.int k m)) [] := .of_opD hT fun K hK => by
  simp only [opD, hx, hy, Nat.beq_refl]
  exact ⟨m, hm, hK⟩
theorem sub_int (hT : TabOk P T) {x y : Operand} {t t' : TypeId} {k : IntKind} {a b m : Int} (hx : evalA env x = some (.int k a)) (hy : evalA env y = some (.int k b)) (hm : k.wrap (a - b) = m) : StepIs P (.binOp .sub t x y t') env h n (some (.int k m)) [] := .of_opD hT fun K hK => by
  simp only [opD, hx, hy, Nat.beq_refl]
  exact ⟨m, hm, hK⟩
theorem mul_int (hT : TabOk P T) {x y : Operand} {t t' : TypeId} {k : IntKind} {a b m : Int} (hx : evalA env x = some (.int k a)) (hy : evalA env y = some (.int k b)) (hm : k.wrap (a * b) = m) : StepIs P (.binOp .mul t x y t') env h n (some (.int k m)) [] := .of_opD hT fun K hK => by
  simp only [opD, hx, hy, Nat.beq_refl]
  exact ⟨m, hm, hK⟩
theorem rem_int (hT : TabOk P T) {x y : Operand} {t t' : TypeId} {k : IntKind} {a b : Int} (hx : evalA env x = some (.int k a)) (hy : evalA env y = some (.int k b)) (hb : b ≠ 0) : StepIs P (.binOp .rem t x y t') env h n (some (.int k (a.tmod b))) [] := .of_opD hT fun K hK => by
  simp only [opD, hx, hy, Nat.beq_refl]
  exact ⟨hb, hK⟩
theorem quo_int (hT : TabOk P T) {x y : Operand} {t t' : TypeId} {k : IntKind} {a b m : Int} (hx : evalA env x = some (.int k a)) (hy : evalA env y = some (.int k b)) (hb : b ≠ 0) (hm : k.wrap (a.tdiv b) = m) : StepIs P (.binOp .quo t x y t') env h n (some (.int k m)) [] := .of_opD hT fun K hK => by
  simp only [opD, hx, hy, Nat.beq_refl]
  exact ⟨hb, m, hm, hK⟩
theorem conv_int (hT : TabOk P T) {x : Operand} {t t' : TypeId} {k k' : IntKind} {a m : Int} {d : TyD} (hx : evalA env x = some (.int k' a)) (hk : tkind T t' = some k) (ht : tdesc T t = some d) (hm : k.wrap a = m) : StepIs P (.convert t t' x) env h n (some (.int k m)) [] := .of_opD hT fun K hK => by
  simp only [opD, hx, hk, ht]
  exact ⟨m, hm, hK⟩

theorem index_arr (hT : TabOk P T) {t e : TypeId} {x i : Operand} {re : TyR} {α : Type} {s : Nat} {enc : α → D} {xs : List α} {k : IntKind} {m : Int} {el : α} (ht : tdesc T t = some (.slice e)) (he : lk T e = some re) (hs : Nat.beq re.size s = true)
    (hx : evalA env x = some (.d (.arr s enc xs))) (hi : evalA env i = some (.int k m)) (h0 : 0 ≤ m) (hel : xs[m.toNat]? = some el) : StepIs P (.indexAddr t x i) env h n (some (.iptr (enc el))) [] := .of_opD hT fun K hK => by
  simp only [opD, ht, hx, hi, he]
  rw [hs]
  exact ⟨h0, el, hel, hK⟩
theorem index_own (hT : TabOk P T) {t e : TypeId} {x i : Operand} {re : TyR} {r len s : Nat} {cap : Option Nat} {k : IntKind} {m : Int} (ht : tdesc T t = some (.slice e)) (he : lk T e = some re) (hs : Nat.beq re.size s = true)
    (hx : evalA env x = some (.own r 0 len s cap)) (hi : evalA env i = some (.int k m)) (h0 : 0 ≤ m) (h1 : m < len) : StepIs P (.indexAddr t x i) env h n (some (.ptr r [.idx m.toNat s])) [] := .of_opD hT fun K hK => by
  simp only [opD, ht, hx, hi, he]
  rw [hs]
  exact ⟨h0, h1, hK⟩

theorem StepIs.len {args : Array Operand} {ts : Array TypeId} {x : Operand} {v : AV} {m : Nat} (hargs : args = #[x]) (hx : evalA env x = some v)
    (hlen : ∀ (C : Ctx) (st : St) (σ : Place) (w : World) (a : Act) (ty : TypeId), RelV σ w (st.X C.X0 σ) v (a.eval x) → (Builtin.len_ ts ty #[a.eval x]).run P w = .ok (goInt m) w) :
    StepIs P (.call { callee := .builtin .len, args := args, argTypes := ts }) env h n (some (.int .i64 m)) [] :=
  .of_comes fun C G st σ w a o ho hA hd hst hn => by
    subst hargs
    refine .quiet (u := .int .i64 m) hst hd ⟨rfl, rfl⟩ ?_ (RelV.sc.2 ⟨rfl, rfl⟩) trivial
    have := hlen C st σ w a o.type (ev_sound hst (hA.ev hx)).1
    simp [execOp, ho, resolve, invoke, builtin, this, goInt]

theorem len_arr (hT : TabOk P T) {x : Operand} {t e : TypeId} {α : Type} {s : Nat} {enc : α → D} {xs : List α} (hx : evalA env x = some (.d (.arr s enc xs))) (ht : tdesc T t = some (.slice e)) :
    StepIs P (.call { callee := .builtin .len, args := #[x], argTypes := #[t] }) env h n (some (.int .i64 xs.length)) [] := .len rfl hx fun C st σ w a ty hr => by
  obtain ⟨u, hu, hdu⟩ := tdesc_und hT ht
  cases hdu
  rcases RelV.arr.1 hr with ⟨rfl, hv⟩ | ⟨ad, c, hv, _⟩ <;> simp [Builtin.len_, hv, run_underlying hu]

theorem len_own (hT : TabOk P T) {x : Operand} {t e : TypeId} {r off len s : Nat} {cap : Option Nat} (hx : evalA env x = some (.own r off len s cap)) (ht : tdesc T t = some (.slice e)) :
    StepIs P (.call { callee := .builtin .len, args := #[x], argTypes := #[t] }) env h n (some (.int .i64 len)) [] := .len rfl hx fun C st σ w a ty hr => by
  obtain ⟨u, hu, hdu⟩ := tdesc_und hT ht
  cases hdu
  rcases RelV.own.1 hr with ⟨_, _, rfl, _, hv⟩ | ⟨b, c, ad, _, hv, _⟩ <;> simp [Builtin.len_, hv, run_underlying hu]

theorem len_nil (hT : TabOk P T) {x : Operand} {t e : TypeId} (hx : evalA env x = some (.d (.sc (.slice none 0 0)))) (ht : tdesc T t = some (.slice e)) :
    StepIs P (.call { callee := .builtin .len, args := #[x], argTypes := #[t] }) env h n (some (.int .i64 (0 : Nat))) [] := .len rfl hx fun C st σ w a ty hr => by
  obtain ⟨u, hu, hdu⟩ := tdesc_und hT ht
  cases hdu
  obtain ⟨hv, _⟩ := RelV.sc.1 hr
  simp [Builtin.len_, hv, run_underlying hu]

theorem len_empty (hT : TabOk P T) {x : Operand} {t e : TypeId} (hx : evalA env x = some .empty) (ht : tdesc T t = some (.slice e)) :
    StepIs P (.call { callee := .builtin .len, args := #[x], argTypes := #[t] }) env h n (some (.int .i64 (0 : Nat))) [] := .len rfl hx fun C st σ w a ty hv => by
  obtain ⟨u, hu, hdu⟩ := tdesc_und hT ht
  cases hdu
  unfold RelV at hv
  simp only [AV.isAgg] at hv
  obtain ⟨ad, hv⟩ := hv
  have hv : a.eval x = .slice ad 0 0 := by simpa using hv
  simp [Builtin.len_, hv, run_underlying hu]

theorem len_string (hT : TabOk P T) {x : Operand} {t : TypeId} {s : ByteArray} (hx : evalA env x = some (.d (.sc (.string s)))) (ht : tdesc T t = some .string) :
    StepIs P (.call { callee := .builtin .len, args := #[x], argTypes := #[t] }) env h n (some (.int .i64 s.size)) [] := .len rfl hx fun C st σ w a ty hr => by
  obtain ⟨u, hu, hdu⟩ := tdesc_und hT ht
  cases hdu
  obtain ⟨hv, _⟩ := RelV.sc.1 hr
  simp [Builtin.len_, hv, run_underlying hu]

/-- Sums that fit. -/
theorem wrap_i64 {m : Int} (h0 : -9223372036854775808 ≤ m) (h1 : m ≤ 9223372036854775807) : IntKind.i64.wrap m = m := IntWalk.i64_in m ⟨h0, h1⟩

end
end Go.Eng

/- Regions that draw their order: every order that the edges allow does what the text's order does. -/
namespace Go.Eng
open Go.RowKit

/-- One operation, whatever else is known, its guard with it. -/
def OpIs (P : Program) (all : List Oper) (o : Oper) (env : Env) (h : Upds) (n : Nat) (v : Option AV) (u : Upds) : Prop :=
  ∀ (C : Ctx) (G : Nat → Prop) (st : St) (σ : Place) (w : World) (a : Act), Agree env h st → (∀ d, o.dst = some d → d < st.sz) → StRel C G st σ w a →
    (∀ r, n ≤ r → r < n + 8 → ¬ G r) → st.bs = 64 → ∀ (next : Act → World → Prop) (Q : Exit → Act → World → Prop),
      (∀ x w' σ' G', StRel C G' (st.put o.dst v u) σ' w' (a.put o.dst x) → (∀ r, G r → G' r) → (∀ r, G' r → G r ∨ n ≤ r ∧ r < n + 8) → next (a.put o.dst x) w') →
      if Region.wanted o (yielded all.toArray a.tmps) then o.wpIn (fen C.ro) 0 P a w next Q else next (a.put o.dst undef) w

section
variable {P : Program} {all : List Oper} {env : Env} {h : Upds} {n : Nat} {v : Option AV} {u : Upds}

theorem OpIs.plain {d : Option Tmp} {op : Op} {ty : TypeId} {pos : String} {af : Array Edge} (hs : StepIs P op env h n v u) : OpIs P all ⟨d, op, ty, pos, af, none⟩ env h n v u := by
  intro C G st σ w a hA hd hst hn hbs next Q hnext
  rw [if_pos (show Region.wanted ⟨d, op, ty, pos, af, none⟩ _ = true from rfl)]
  exact hs C G st σ w a _ rfl hA hd hst hn hbs next Q hnext

theorem wanted_bool' {o : Oper} {j g : Nat} {want b : Bool} (hg : o.guard = some (j, want)) (hj : ((all[j]?).bind (·.dst)) = some g) (hb : lk env g = some (.bool b)) {C : Ctx} {σ : Place} {w : World} {a : Act} {G : Nat → Prop} {st : St} (hA : Agree env h st) (hst : StRel C G st σ w a) :
    Region.wanted o (yielded all.toArray a.tmps) = (b == want) := by
  obtain ⟨u, hu, hv⟩ := hst.env g _ (hA.env g _ hb)
  obtain ⟨rfl, _⟩ := RelV.sc.1 hv
  simp only [Region.wanted, hg, yielded, List.getElem?_toArray, hj, Option.bind_some, hu]
  cases b <;> cases want <;> rfl

theorem OpIs.on {d : Option Tmp} {op : Op} {ty : TypeId} {pos : String} {af : Array Edge} {j g : Nat} {want b : Bool} (hj : ((all[j]?).bind (·.dst)) = some g) (hb : lk env g = some (.bool b)) (he : b = want) (hs : StepIs P op env h n v u) : OpIs P all ⟨d, op, ty, pos, af, some (j, want)⟩ env h n v u := by
  intro C G st σ w a hA hd hst hn hbs next Q hnext
  rw [if_pos (by rw [wanted_bool' (o := ⟨d, op, ty, pos, af, some (j, want)⟩) rfl hj hb hA hst, he]; exact beq_self_eq_true _)]
  exact hs C G st σ w a _ rfl hA hd hst hn hbs next Q hnext

theorem OpIs.off {d : Option Tmp} {op : Op} {ty : TypeId} {pos : String} {af : Array Edge} {j g : Nat} {want b : Bool} (hj : ((all[j]?).bind (·.dst)) = some g) (hb : lk env g = some (.bool b)) (he : b = !want) : OpIs P all ⟨d, op, ty, pos, af, some (j, want)⟩ env h n none [] := by
  intro C G st σ w a hA hd hst hn hbs next Q hnext
  rw [if_neg (by rw [wanted_bool' (o := ⟨d, op, ty, pos, af, some (j, want)⟩) rfl hj hb hA hst, he]; cases want <;> exact fun e => by cases e)]
  exact hnext undef w σ G (hst.set (v := none) (u := undef) (dst := d) hd (undef_rel _ _ _) trivial) (fun _ h => h) (fun _ h => .inl h)

theorem OpIs.offU {d : Option Tmp} {op : Op} {ty : TypeId} {pos : String} {af : Array Edge} {j g : Nat} {want : Bool} (hj : ((all[j]?).bind (·.dst)) = some g) (hb : lk env g = some .undef) : OpIs P all ⟨d, op, ty, pos, af, some (j, want)⟩ env h n none [] := by
  intro C G st σ w a hA hd hst hn hbs next Q hnext
  obtain ⟨u, hu, hv⟩ := hst.env g _ (hA.env g _ hb)
  have hu' : u = .tuple #[] := by
    unfold RelV at hv
    simp only [AV.isAgg] at hv
    obtain ⟨vs, he, hr⟩ := hv
    have : vs = [] := hr
    subst this
    simpa using he
  subst hu'
  rw [if_neg (by simp [Region.wanted, yielded, hj, hu])]
  exact hnext undef w σ G (hst.set (v := none) (u := undef) (dst := d) hd (undef_rel _ _ _) trivial) (fun _ h => h) (fun _ h => .inl h)
end

/-- What one operation needs and does. -/
structure DFact : Type 1 where
  op : Oper
  looks : List Nat
  rows : List Nat
  v : Option AV
  u : Upds

def DFact.envU (f : DFact) : Env := match f.op.dst with
  | none => []
  | some d => [(d, f.v.getD .undef)]

/-- The entries of some names. -/
def only {β : Type 1} (ks : List Nat) : List (Nat × β) → List (Nat × β)
  | [] => []
  | (i, x) :: l => bif ks.any (Nat.beq i) then (i, x) :: only ks l else only ks l

theorem lk_only {β : Type 1} {ks : List Nat} : ∀ (l : List (Nat × β)) (t : Nat) (x : β), lk (only ks l) t = some x → t ∈ ks ∧ lk l t = some x
  | [], t, x, h => by simp [only, lk] at h
  | (i, y) :: l, t, x, h => by
    simp only [only] at h
    cases hi : ks.any (Nat.beq i) <;> rw [hi] at h <;> simp only [cond_true, cond_false] at h
    · obtain ⟨h1, h2⟩ := lk_only l t x h
      refine ⟨h1, ?_⟩
      rw [lk_cons, if_neg ?_]
      · exact h2
      · rintro rfl
        have := List.any_eq_false.1 hi i h1
        simp at this
    · rw [lk_cons] at h ⊢
      split at h
      · rename_i e
        subst e
        obtain ⟨z, h1, h2⟩ := List.any_eq_true.1 hi
        have := Nat.eq_of_beq_eq_true h2
        subst this
        exact ⟨h1, by simpa using h⟩
      · rename_i e
        obtain ⟨h1, h2⟩ := lk_only l t x h
        exact ⟨h1, by rw [if_neg e]; exact h2⟩

def tmpsOf : List Operand → List Nat
  | [] => []
  | .tmp t :: l => t :: tmpsOf l
  | _ :: l => tmpsOf l

def looksOf (all : List Oper) (o : Oper) : List Nat := match o.guard with
  | none => tmpsOf o.op.operands.toList
  | some (j, _) => match (all[j]?).bind (·.dst) with
    | some g => g :: tmpsOf o.op.operands.toList
    | none => tmpsOf o.op.operands.toList

def AV.refs : AV → List Nat
  | .acons a r => a.refs ++ r.refs
  | .own r .. => [r]
  | .ptr r _ => [r]
  | .asl r _ _ _ => [r]
  | .mapr r => [r]
  | .fn _ p q => p.refs ++ q.refs
  | .tup q => q.refs
  | _ => []

def Row.refs : Row → List Nat
  | .box _ a => a.refs
  | .ds .. => []
  | .lits _ _ _ _ a => a.refs
  | .mo a => a.refs

def refsIn (h : Upds) : List Nat → List Nat
  | [] => []
  | r :: l => match lookH h r with
    | some row => row.refs ++ refsIn h l
    | none => refsIn h l

def closeRefs (h : Upds) : Nat → List Nat → List Nat
  | 0, l => l
  | k + 1, l => l ++ closeRefs h k (refsIn h l)

def refsEnv (env : Env) : List Operand → List Nat
  | [] => []
  | x :: l => match evalA env x with
    | some v => v.refs ++ refsEnv env l
    | none => refsEnv env l

def rowsOf (env : Env) (h : Upds) (o : Oper) : List Nat := closeRefs h 3 (refsEnv env o.op.operands.toList)

def bindsB (e : Edge) : Bool := Region.binds .any e

/-- Who must come before, of what is known of those that stand earlier. -/
def predOf (ps : List (List Nat)) : List Edge → List Nat
  | [] => []
  | e :: es => bif bindsB e then e.on :: (ps[e.on]?.getD [] ++ predOf ps es) else predOf ps es

def edgesBack (k : Nat) : List Edge → Bool
  | [] => true
  | e :: es => bif bindsB e then (bif Nat.blt e.on k then edgesBack k es else false) else edgesBack k es

def memB (x : Nat) (l : List Nat) : Bool := l.any (Nat.beq x)
def disjB (l m : List Nat) : Bool := l.all fun x => !memB x m

def DFact.dsts (f : DFact) : List Nat := match f.op.dst with
  | none => []
  | some d => [d]

def apartB (f g : DFact) : Bool :=
  bif disjB f.dsts g.looks then (bif disjB g.dsts f.looks then (bif disjB f.dsts g.dsts then
    (bif disjB (keysOf f.u) g.rows then (bif disjB (keysOf g.u) f.rows then disjB (keysOf f.u) (keysOf g.u) else false) else false) else false) else false) else false

def pairsB (p : List Nat) (g : DFact) : Nat → List DFact → Bool
  | _, [] => true
  | i, f :: fs => bif memB i p then pairsB p g (i + 1) fs else (bif apartB f g then pairsB p g (i + 1) fs else false)

/-- Of any two operations the edges fix the order, or it makes no difference. -/
def drawB : List (List Nat) → List DFact → List DFact → Bool
  | _, _, [] => true
  | ps, seen, g :: gs => bif edgesBack ps.length g.op.after.toList then
      (bif pairsB (predOf ps g.op.after.toList) g 0 seen then drawB (ps ++ [predOf ps g.op.after.toList]) (seen ++ [g]) gs else false) else false

def FactsOk (P : Program) (all : List Oper) (sz : Nat) : List DFact → Nat → Env → Upds → (Env → Upds → Nat → Prop) → Prop
  | [], n, env, h, K => K env h n
  | f :: fs, n, env, h, K => (dstOk f.op.dst sz = true ∧ OpIs P all f.op (only f.looks env) (only f.rows h) n f.v f.u) ∧ FactsOk P all sz fs (n + 8) (f.envU ++ env) (f.u ++ h) K

/-- The rest of a region that draws its order; acc: what stands before it, the last first. -/
def RegD (P : Program) (all : List Oper) (sz : Nat) (l : List Oper) (n : Nat) (env : Env) (h : Upds) (acc : List DFact) (K : Env → Upds → Nat → Prop) : Prop :=
  ∃ fs : List DFact, fs.map (·.op) = l ∧ drawB [] [] (acc.reverse ++ fs) = true ∧ FactsOk P all sz fs n env h K

section
variable {P : Program} {all l : List Oper} {sz n : Nat} {env : Env} {h : Upds} {acc : List DFact} {K : Env → Upds → Nat → Prop} {Q : Exit → St → Prop}

theorem dreg_nil (hd : drawB [] [] acc.reverse = true) (hk : Q .normal ⟨env, h, n, sz, 64⟩) : RegD P all sz [] n env h acc (RegK Q sz) := ⟨[], rfl, by simpa using hd, hk⟩

theorem dreg_op {o : Oper} (f : DFact) (hop : f.op = o) (hd : dstOk o.dst sz = true) (ho : OpIs P all o (only f.looks env) (only f.rows h) n f.v f.u) (h1 : RegD P all sz l (n + 8) (f.envU ++ env) (f.u ++ h) (f :: acc) K) : RegD P all sz (o :: l) n env h acc K := by
  subst hop
  obtain ⟨fs, rfl, h2, h3⟩ := h1
  exact ⟨f :: fs, rfl, by simpa using h2, ⟨hd, ho⟩, h3⟩

theorem dreg_do {d : Option Tmp} {op : Op} {ty : TypeId} {pos : String} {af : Array Edge} {gd : Option (Nat × Bool)} {v : Option AV} {u : Upds} {env' : Env} {h' : Upds} (looks rows : List Nat) (hd : dstOk d sz = true) (ho : OpIs P all ⟨d, op, ty, pos, af, gd⟩ (only looks env) (only rows h) n v u)
    (he : putE d v env = env') (hh : u ++ h = h') (h1 : RegD P all sz l (n + 8) env' h' (⟨⟨d, op, ty, pos, af, gd⟩, looks, rows, v, u⟩ :: acc) K) : RegD P all sz (⟨d, op, ty, pos, af, gd⟩ :: l) n env h acc K := by
  refine dreg_op ⟨⟨d, op, ty, pos, af, gd⟩, looks, rows, v, u⟩ rfl hd ho ?_
  have : DFact.envU ⟨⟨d, op, ty, pos, af, gd⟩, looks, rows, v, u⟩ ++ env = env' := by rw [← he]; cases d <;> rfl
  rw [this, hh]
  exact h1

theorem dreg_split {o : Oper} {j g : Nat} {want b : Bool} (_hg : o.guard = some (j, want)) (_hj : ((all[j]?).bind (·.dst)) = some g) (_hb : lk env g = some (.bool b))
    (h1 : b = want → RegD P all sz (o :: l) n env h acc K) (h2 : b = !want → RegD P all sz (o :: l) n env h acc K) : RegD P all sz (o :: l) n env h acc K := by
  cases b <;> cases want <;> first | exact h1 rfl | exact h2 rfl
end

def accS {β : Type 1} (S : Nat → Bool) : Nat → List (List (Nat × β)) → List (Nat × β) → List (Nat × β)
  | _, [], e => e
  | k, u :: us, e => accS S (k + 1) us (bif S k then u ++ e else e)

section
variable {β : Type 1} {S S' : Nat → Bool}

theorem acc_congr {t : Nat} : ∀ (us : List (List (Nat × β))) (k : Nat) (e e' : List (Nat × β)), lk e t = lk e' t → (∀ j u, us[j]? = some u → lk u t ≠ none → S (k + j) = S' (k + j)) → lk (accS S k us e) t = lk (accS S' k us e') t
  | [], k, e, e', h, _ => h
  | u :: us, k, e, e', h, hS => by
    simp only [accS]
    refine acc_congr us (k + 1) _ _ ?_ fun j x hj hx => by have := hS (j + 1) x (by simpa using hj) hx; rw [Nat.add_right_comm]; simpa [Nat.add_assoc] using this
    cases hu : lk u t with
    | none =>
      cases S k <;> cases S' k <;> simp only [cond_true, cond_false, lk_append, hu] <;> exact h
    | some x =>
      have := hS 0 u rfl (by rw [hu]; exact fun e => by cases e)
      simp only [Nat.add_zero] at this
      rw [this]
      cases S' k <;> simp only [cond_true, cond_false, lk_append, hu]
      exact h

theorem acc_none {t : Nat} : ∀ (us : List (List (Nat × β))) (k : Nat) (e : List (Nat × β)), (∀ j u, us[j]? = some u → S (k + j) = true → lk u t = none) → lk (accS S k us e) t = lk e t
  | [], k, e, _ => rfl
  | u :: us, k, e, hS => by
    simp only [accS]
    rw [acc_none us (k + 1) _ fun j x hj hx => hS (j + 1) x (by simpa using hj) (by rw [← hx]; congr 1; omega)]
    cases hk : S k
    · rfl
    · simp only [cond_true, lk_append, hS 0 u rfl (by simpa using hk)]

theorem acc_last {t : Nat} {x : β} {u : List (Nat × β)} : ∀ (us : List (List (Nat × β))) (i k : Nat) (e : List (Nat × β)), us[i]? = some u → lk u t = some x → S (k + i) = true →
    (∀ j u', us[j]? = some u' → i < j → S (k + j) = true → lk u' t = none) → lk (accS S k us e) t = some x
  | [], i, k, e, h, _, _, _ => by simp at h
  | y :: us, 0, k, e, h, hx, hi, hS => by
    simp only [List.getElem?_cons_zero, Option.some.injEq] at h
    subst h
    simp only [accS]
    rw [acc_none us (k + 1) _ fun j z hj hz => hS (j + 1) z (by simpa using hj) (by omega) (by rw [← hz]; congr 1; omega)]
    simp only [Nat.add_zero] at hi
    simp only [hi, cond_true, lk_append, hx]
  | y :: us, i + 1, k, e, h, hx, hi, hS => by
    simp only [accS]
    exact acc_last us i (k + 1) _ (by simpa using h) hx (by rw [← hi]; congr 1; omega) fun j z hj hij hz => hS (j + 1) z (by simpa using hj) (by omega) (by rw [← hz]; congr 1; omega)

theorem acc_add {t : Nat} {u : List (Nat × β)} {us : List (List (Nat × β))} {i : Nat} {e : List (Nat × β)} (hu : us[i]? = some u) (hS : ∀ j, j ≠ i → S' j = S j) (hi' : S' i = true)
    (hap : ∀ j u', us[j]? = some u' → i < j → S j = true → lk u t ≠ none → lk u' t = none) : lk (accS S' 0 us e) t = lk (u ++ accS S 0 us e) t := by
  rw [lk_append]
  cases hx : lk u t with
  | none =>
    refine acc_congr us 0 e e rfl fun j x hj hne => ?_
    simp only [Nat.zero_add]
    refine hS j ?_
    rintro rfl
    rw [hu] at hj
    cases hj
    exact hne hx
  | some x =>
    refine acc_last us i 0 e hu hx (by simpa using hi') fun j z hj hij hz => ?_
    rw [Nat.zero_add, hS j (by omega)] at hz
    exact hap j z hj hij hz (by rw [hx]; exact fun e => by cases e)
end

theorem mem_memB {x : Nat} {l : List Nat} : memB x l = true ↔ x ∈ l := by
  unfold memB
  rw [List.any_eq_true]
  constructor
  · rintro ⟨y, h1, h2⟩; rw [Nat.eq_of_beq_eq_true h2]; exact h1
  · exact fun h => ⟨x, h, Nat.beq_refl x⟩

theorem disjB_out {l m : List Nat} (h : disjB l m = true) : ∀ x, x ∈ l → x ∉ m := by
  intro x hx hm
  have := List.all_eq_true.1 h x hx
  rw [mem_memB.2 hm] at this
  cases this

theorem apartB_out {f g : DFact} (h : apartB f g = true) : disjB f.dsts g.looks = true ∧ disjB g.dsts f.looks = true ∧ disjB f.dsts g.dsts = true ∧
    disjB (keysOf f.u) g.rows = true ∧ disjB (keysOf g.u) f.rows = true ∧ disjB (keysOf f.u) (keysOf g.u) = true := by
  unfold apartB at h
  cases h1 : disjB f.dsts g.looks <;> simp only [h1, cond_true, cond_false, Bool.false_eq_true] at h
  cases h2 : disjB g.dsts f.looks <;> simp only [h2, cond_true, cond_false, Bool.false_eq_true] at h
  cases h3 : disjB f.dsts g.dsts <;> simp only [h3, cond_true, cond_false, Bool.false_eq_true] at h
  cases h4 : disjB (keysOf f.u) g.rows <;> simp only [h4, cond_true, cond_false, Bool.false_eq_true] at h
  cases h5 : disjB (keysOf g.u) f.rows <;> simp only [h5, cond_true, cond_false, Bool.false_eq_true] at h
  exact ⟨rfl, rfl, rfl, rfl, rfl, h⟩

theorem pairsB_out {p : List Nat} {g : DFact} : ∀ (fs : List DFact) (k : Nat), pairsB p g k fs = true → ∀ i f, fs[i]? = some f → k + i ∈ p ∨ apartB f g = true
  | [], k, _, i, f, h => by simp at h
  | x :: fs, k, hp, i, f, h => by
    simp only [pairsB] at hp
    cases h1 : memB k p <;> rw [h1] at hp <;> simp only [cond_true, cond_false] at hp
    · cases h2 : apartB x g <;> rw [h2] at hp <;> simp only [cond_true, cond_false, Bool.false_eq_true] at hp
      cases i with
      | zero => simp at h; subst h; exact .inr h2
      | succ i =>
        have := pairsB_out fs (k + 1) hp i f (by simpa using h)
        rwa [show k + 1 + i = k + (i + 1) by omega] at this
    · cases i with
      | zero => exact .inl (by simpa using mem_memB.1 h1)
      | succ i =>
        have := pairsB_out fs (k + 1) hp i f (by simpa using h)
        rwa [show k + 1 + i = k + (i + 1) by omega] at this

theorem edgesBack_out {k : Nat} : ∀ (es : List Edge), edgesBack k es = true → ∀ e ∈ es, bindsB e = true → e.on < k
  | [], _, e, h, _ => by simp at h
  | x :: es, hb, e, h, he => by
    simp only [edgesBack] at hb
    rcases List.mem_cons.1 h with rfl | h
    · rw [he] at hb
      simp only [cond_true] at hb
      cases h1 : Nat.blt e.on k
      · rw [h1] at hb; cases hb
      · exact Nat.le_of_ble_eq_true h1
    · cases h1 : bindsB x <;> rw [h1] at hb <;> simp only [cond_true, cond_false] at hb
      · exact edgesBack_out es hb e h he
      · cases h2 : Nat.blt x.on k <;> rw [h2] at hb <;> simp only [cond_true, cond_false, Bool.false_eq_true] at hb
        exact edgesBack_out es hb e h he

theorem predOf_out {ps : List (List Nat)} : ∀ (es : List Edge) (i : Nat), i ∈ predOf ps es → ∃ e ∈ es, bindsB e = true ∧ (i = e.on ∨ ∃ p, ps[e.on]? = some p ∧ i ∈ p)
  | [], i, h => by simp [predOf] at h
  | x :: es, i, h => by
    simp only [predOf] at h
    cases h1 : bindsB x <;> rw [h1] at h <;> simp only [cond_true, cond_false] at h
    · obtain ⟨e, h2, h3⟩ := predOf_out es i h
      exact ⟨e, List.mem_cons_of_mem _ h2, h3⟩
    · rcases List.mem_cons.1 h with rfl | h
      · exact ⟨x, List.mem_cons_self, h1, .inl rfl⟩
      · rcases List.mem_append.1 h with h | h
        · refine ⟨x, List.mem_cons_self, h1, .inr ?_⟩
          cases hp : ps[x.on]? with
          | none => rw [hp] at h; simp at h
          | some p => rw [hp] at h; exact ⟨p, rfl, by simpa using h⟩
        · obtain ⟨e, h2, h3⟩ := predOf_out es i h
          exact ⟨e, List.mem_cons_of_mem _ h2, h3⟩

/-- What the check gives: for each operation the names that must come before it. -/
structure DrawOk (fs : List DFact) (pr : Nat → List Nat) : Prop where
  back : ∀ j g, fs[j]? = some g → ∀ e ∈ g.op.after.toList, bindsB e = true → e.on < j
  pred : ∀ j g, fs[j]? = some g → ∀ i, i ∈ pr j → ∃ e ∈ g.op.after.toList, bindsB e = true ∧ (i = e.on ∨ i ∈ pr e.on)
  pair : ∀ i j f g, fs[i]? = some f → fs[j]? = some g → i < j → i ∈ pr j ∨ apartB f g = true

theorem drawB_out : ∀ (gs : List DFact) (ps : List (List Nat)) (seen : List DFact), ps.length = seen.length → drawB ps seen gs = true → DrawOk seen (fun j => ps[j]?.getD []) → ∃ pr, DrawOk (seen ++ gs) pr
  | [], ps, seen, hl, _, h => ⟨_, by simpa using h⟩
  | g :: gs, ps, seen, hl, hd, h => by
    simp only [drawB] at hd
    cases h1 : edgesBack ps.length g.op.after.toList <;> rw [h1] at hd <;> simp only [cond_true, cond_false, Bool.false_eq_true] at hd
    cases h2 : pairsB (predOf ps g.op.after.toList) g 0 seen <;> rw [h2] at hd <;> simp only [cond_true, cond_false, Bool.false_eq_true] at hd
    have hnew : DrawOk (seen ++ [g]) (fun j => (ps ++ [predOf ps g.op.after.toList])[j]?.getD []) := by
      have hold : ∀ j, j < seen.length → (ps ++ [predOf ps g.op.after.toList])[j]?.getD [] = ps[j]?.getD [] := fun j hj => by
        rw [List.getElem?_append_left (by omega)]
      have hlast : (ps ++ [predOf ps g.op.after.toList])[seen.length]?.getD [] = predOf ps g.op.after.toList := by
        rw [List.getElem?_append_right (by omega), hl, Nat.sub_self]; rfl
      have hcases : ∀ j x, (seen ++ [g])[j]? = some x → (j < seen.length ∧ seen[j]? = some x) ∨ (j = seen.length ∧ x = g) := fun j x hj => by
        rcases Nat.lt_or_ge j seen.length with hlt | hge
        · rw [List.getElem?_append_left hlt] at hj; exact .inl ⟨hlt, hj⟩
        · rw [List.getElem?_append_right hge] at hj
          have hlt := (List.getElem?_eq_some_iff.1 hj).1
          simp at hlt
          have : j - seen.length = 0 := by omega
          rw [this] at hj
          simp at hj
          exact .inr ⟨by omega, hj.symm⟩
      refine ⟨fun j x hj e he hb => ?_, fun j x hj i hi => ?_, fun i j f x hf hj hij => ?_⟩
      · rcases hcases j x hj with ⟨_, hj⟩ | ⟨rfl, rfl⟩
        · exact h.back j x hj e he hb
        · rw [← hl]; exact edgesBack_out _ h1 e he hb
      · rcases hcases j x hj with ⟨hlt, hj⟩ | ⟨rfl, rfl⟩
        · simp only [hold j hlt] at hi
          obtain ⟨e, h3, h4, h5⟩ := h.pred j x hj i hi
          refine ⟨e, h3, h4, h5.imp id fun h5 => ?_⟩
          simp only [hold e.on (by have := h.back j x hj e h3 h4; omega)]
          exact h5
        · simp only [hlast] at hi
          obtain ⟨e, h3, h4, h5⟩ := predOf_out _ i hi
          refine ⟨e, h3, h4, h5.imp id fun ⟨p, hp, hip⟩ => ?_⟩
          have hlt := (List.getElem?_eq_some_iff.1 hp).1
          simp only [hold e.on (by omega), hp]
          exact hip
      · rcases hcases j x hj with ⟨hlt, hj⟩ | ⟨rfl, rfl⟩
        · rcases hcases i f hf with ⟨_, hf⟩ | ⟨hi, _⟩
          · simp only [hold j hlt]; exact h.pair i j f x hf hj hij
          · omega
        · rcases hcases i f hf with ⟨_, hf⟩ | ⟨hi, _⟩
          · simp only [hlast]
            simpa using pairsB_out seen 0 h2 i f hf
          · omega
    obtain ⟨pr, hpr⟩ := drawB_out gs _ (seen ++ [g]) (by simp [hl]) hd hnew
    exact ⟨pr, by simpa using hpr⟩

theorem filter_lt {p q : Nat → Bool} (hpq : ∀ x, q x = true → p x = true) : ∀ (l : List Nat) (i : Nat), i ∈ l → p i = true → q i = false → (l.filter q).length < (l.filter p).length
  | [], i, h, _, _ => by simp at h
  | x :: l, i, h, h1, h2 => by
    have hle : ∀ l : List Nat, (l.filter q).length ≤ (l.filter p).length := by
      intro l
      induction l with
      | nil => simp
      | cons y l ih =>
        cases hq : q y
        · rw [List.filter_cons_of_neg (by simp [hq])]
          cases hp : p y
          · rw [List.filter_cons_of_neg (by simp [hp])]; exact ih
          · rw [List.filter_cons_of_pos (by simp [hp])]; simp; omega
        · rw [List.filter_cons_of_pos (by simp [hq]), List.filter_cons_of_pos (by simp [hpq y hq])]; simpa using ih
    rcases List.mem_cons.1 h with rfl | h
    · rw [List.filter_cons_of_neg (by simp [h2]), List.filter_cons_of_pos (by simp [h1])]
      have := hle l
      simp; omega
    · have ih := filter_lt hpq l i h h1 h2
      cases hq : q x
      · rw [List.filter_cons_of_neg (by simp [hq])]
        cases hp : p x
        · rw [List.filter_cons_of_neg (by simp [hp])]; exact ih
        · rw [List.filter_cons_of_pos (by simp [hp])]; simp; omega
      · rw [List.filter_cons_of_pos (by simp [hq]), List.filter_cons_of_pos (by simp [hpq x hq])]; simpa using ih

theorem StRel.congr {C : Ctx} {G : Nat → Prop} {st st' : St} {σ : Place} {w : World} {a : Act} (h : StRel C G st σ w a) (he : ∀ t, lk st'.env t = lk st.env t) (hh : ∀ t, lk st'.heap t = lk st.heap t) (hs : st'.sz = st.sz) (hb : st'.bs = st.bs) : StRel C G st' σ w a := by
  have hr : ∀ r, st'.row r = st.row r := fun r => by simp only [St.row, hh]
  have hX : st'.X C.X0 σ = st.X C.X0 σ := by funext b; simp only [St.X, hr]
  exact {
    env := fun i v hi => by rw [hX]; exact h.env i v (by rw [← he]; exact hi)
    envG := fun i v hi => h.envG i v (by rw [← he]; exact hi)
    rows := fun r row hi => by rw [hX]; exact h.rows r row (by rw [← hr]; exact hi)
    rowsG := fun r row hi => h.rowsG r row (by rw [← hr]; exact hi)
    inj := fun r r' row row' b c c' h1 h2 => h.inj r r' row row' b c c' (by rw [← hr]; exact h1) (by rw [← hr]; exact h2)
    high := fun r row b c h1 => h.high r row b c (by rw [← hr]; exact h1)
    size := h.size
    below := h.below
    defers := h.defers
    sz := by rw [hs]; exact h.sz
    x0 := h.x0
    agree := h.agree
    baseG := h.baseG
    bs := hb.trans h.bs
    rok := h.rok }

theorem accS_off {β : Type 1} {S : Nat → Bool} : ∀ (us : List (List (Nat × β))) (k : Nat) (e : List (Nat × β)), (∀ j, k ≤ j → S j = false) → accS S k us e = e
  | [], _, _, _ => rfl
  | u :: us, k, e, h => by
    simp only [accS, h k (Nat.le_refl _), cond_false]
    exact accS_off us (k + 1) e fun j hj => h j (by omega)

section
variable {P : Program} {all : List Oper} {sz : Nat} {K : Env → Upds → Nat → Prop}

theorem FactsOk.at : ∀ (fs : List DFact) (k n : Nat) (env : Env) (h : Upds), FactsOk P all sz fs n env h K → ∀ i f, fs[i]? = some f → dstOk f.op.dst sz = true ∧
    OpIs P all f.op (only f.looks (accS (fun j => Nat.blt j (k + i)) k (fs.map (·.envU)) env)) (only f.rows (accS (fun j => Nat.blt j (k + i)) k (fs.map (·.u)) h)) (n + 8 * i) f.v f.u
  | [], k, n, env, h, _, i, f, hi => by simp at hi
  | x :: fs, k, n, env, h, hf, 0, f, hi => by
    simp only [List.getElem?_cons_zero, Option.some.injEq] at hi
    subst hi
    have hoff : ∀ j, k ≤ j → Nat.blt j (k + 0) = false := fun j hj => by
      cases hb : Nat.blt j (k + 0)
      · rfl
      · have := Nat.le_of_ble_eq_true hb; omega
    rw [accS_off _ k env hoff, accS_off _ k h hoff]
    exact hf.1
  | x :: fs, k, n, env, h, hf, i + 1, f, hi => by
    have := FactsOk.at fs (k + 1) (n + 8) _ _ hf.2 i f (by simpa using hi)
    have hk : Nat.blt k (k + (i + 1)) = true := Nat.ble_eq_true_of_le (by omega)
    simp only [List.map_cons, accS, hk, cond_true]
    rw [show k + (i + 1) = k + 1 + i by omega, show n + 8 * (i + 1) = n + 8 + 8 * i by omega]
    exact this

theorem FactsOk.end : ∀ (fs : List DFact) (k n : Nat) (env : Env) (h : Upds), FactsOk P all sz fs n env h K →
    K (accS (fun _ => true) k (fs.map (·.envU)) env) (accS (fun _ => true) k (fs.map (·.u)) h) (n + 8 * fs.length)
  | [], k, n, env, h, hf => hf
  | x :: fs, k, n, env, h, hf => by
    have := FactsOk.end fs (k + 1) (n + 8) _ _ hf.2
    simp only [List.map_cons, accS, cond_true, List.length_cons]
    rw [show n + 8 * (fs.length + 1) = n + 8 + 8 * fs.length by omega]
    exact this

theorem lk_envU {f : DFact} {t : Nat} (h : lk f.envU t ≠ none) : t ∈ f.dsts := by
  unfold DFact.envU at h
  unfold DFact.dsts
  cases hd : f.op.dst with
  | none => rw [hd] at h; exact absurd rfl h
  | some d =>
    rw [hd] at h
    simp only [lk_cons] at h
    by_cases he : d = t
    · simp [he]
    · rw [if_neg he] at h; exact absurd rfl h

theorem blt_no {i j : Nat} (h : i < j) : Nat.blt j i = false := by
  cases hb : Nat.blt j i
  · rfl
  · have := Nat.le_of_ble_eq_true hb; omega

theorem lk_keys' {β : Type 1} {l : List (Nat × β)} {r : Nat} (h : lk l r ≠ none) : r ∈ keysOf l := by
  cases hx : lk l r with
  | none => exact absurd hx h
  | some v => exact lk_keys l r v hx

/-- A region that draws its order. -/
theorem wc_draw (hm : P.follows .mixedOrders = true) {id n : Nat} {ops : Array Oper} {Q : Exit → St → Prop} {env : Env} {h : Upds} (hd : RegD P ops.toList sz ops.toList n env h [] (RegK Q sz)) : WC P sz (.region id ops true) Q env h n := by
  intro C σ w a hst
  obtain ⟨fs, hfs, hdr, hok⟩ := hd
  obtain ⟨pr, hD⟩ := drawB_out fs [] [] rfl (by simpa using hdr) ⟨fun j g hj => by simp at hj, fun j g hj => by simp at hj, fun i j f g hi => by simp at hi⟩
  simp only [List.nil_append] at hD
  have hop : ∀ (i : Nat) (o : Oper), ops[i]? = some o → ∃ f : DFact, fs[i]? = some f ∧ f.op = o := fun i o hi => by
    have h1 : (fs.map (·.op))[i]? = some o := by rw [hfs]; simpa using hi
    simpa using h1
  have hlen : fs.length = ops.size := by have := congrArg List.length hfs; simpa using this
  have hop' : ∀ (i : Nat) (f : DFact), fs[i]? = some f → ops[i]? = some f.op := fun i f hi => by
    have h1 : (fs.map (·.op))[i]? = some f.op := by simp [hi]
    rw [hfs] at h1; simpa using h1
  refine wpIn_region_any hm ?_
  let S (listed : Array Bool) : Nat → Bool := fun i => listed.getD i false
  let stOf (listed : Array Bool) : St := ⟨accS (S listed) 0 (fs.map (·.envU)) env, accS (S listed) 0 (fs.map (·.u)) h, 0, sz, 64⟩
  have key : ∀ (fuel : Nat) (listed : Array Bool) (a : Act) (w : World) (σ : Place) (G : Nat → Prop), listed.size = ops.size → (∀ j g, fs[j]? = some g → S listed j = true → ∀ e ∈ g.op.after.toList, bindsB e = true → S listed e.on = true) →
      StRel C G (stOf listed) σ w a → (∀ r, G r → r < n ∨ ∃ i, S listed i = true ∧ n + 8 * i ≤ r ∧ r < n + 8 * i + 8) → ((List.range ops.size).filter fun i => !S listed i).length ≤ fuel →
      wpAnyIn (fen C.ro) 0 P .any ops (Lift C Q) fuel listed a w := by
    have hdone : ∀ (listed : Array Bool) (a : Act) (w : World) (σ : Place) (G : Nat → Prop), listed.size = ops.size → StRel C G (stOf listed) σ w a → (∀ r, G r → r < n ∨ ∃ i, S listed i = true ∧ n + 8 * i ≤ r ∧ r < n + 8 * i + 8) →
        (∀ i, i < ops.size → S listed i = true) → Lift C Q .normal a w := by
      intro listed a w σ G hsz hst hG hall
      refine ⟨_, σ, FactsOk.end fs 0 n env h hok, ?_⟩
      have hcong : ∀ {β : Type 1} (g : DFact → List (Nat × β)) (e : List (Nat × β)) (t : Nat), lk (accS (fun _ => true) 0 (fs.map g) e) t = lk (accS (S listed) 0 (fs.map g) e) t := fun g e t =>
        acc_congr _ 0 _ _ rfl fun j u hj _ => by
          have hlt := (List.getElem?_eq_some_iff.1 hj).1
          simp at hlt
          rw [Nat.zero_add, hall j (by omega)]
      have h2 := (hst.grow (G' := fun r => r < n + 8 * fs.length) fun r hr => by
        rcases hG r hr with h1 | ⟨i, h1, h2, h3⟩
        · omega
        · have : i < listed.size := by
            rcases Nat.lt_or_ge i listed.size with h4 | h4
            · exact h4
            · simp [S, h4] at h1
          omega)
      exact h2.congr (fun t => hcong _ env t) (fun t => hcong _ h t) rfl rfl
    have hready : ∀ (listed : Array Bool), listed.size = ops.size → Region.ready .any ops listed = [] → ∀ i, i < ops.size → S listed i = true := by
      intro listed hsz hr i
      induction i using Nat.strongRecOn with
      | _ i ih =>
        intro hi
        cases hS : S listed i
        · exfalso
          have : i ∈ Region.ready .any ops listed := by
            refine mem_ready.2 ⟨?_, ops[i], by simp [hi], fun e he hb => ?_⟩
            · simp only [S, Array.getD_eq_getD_getElem?] at hS ⊢
              have : i < listed.size := by omega
              simp [this] at hS ⊢
              exact hS
            · obtain ⟨f, hf, hfo⟩ := hop i ops[i] (by simp [hi])
              have hlt := hD.back i f hf e (by rw [hfo]; simpa using he) hb
              exact ih e.on hlt (by omega)
          rw [hr] at this
          simp at this
        · rfl
    intro fuel
    induction fuel with
    | zero =>
      intro listed a w σ G hsz hcl hst hG hcnt
      have hall : ∀ i, i < ops.size → S listed i = true := fun i hi => by
        have h0 : ((List.range ops.size).filter fun i => !S listed i) = [] := List.eq_nil_of_length_eq_zero (by omega)
        have := List.filter_eq_nil_iff.1 h0 i (List.mem_range.2 hi)
        simpa using this
      refine ⟨?_, hdone listed a w σ G hsz hst hG hall⟩
      refine List.eq_nil_iff_forall_not_mem.2 fun i hi => ?_
      obtain ⟨h0, o, ho, _⟩ := mem_ready.1 hi
      have hlt : i < ops.size := (Array.getElem?_eq_some_iff.1 ho).1
      have := hall i hlt
      have hlt' : i < listed.size := by omega
      simp only [S, Array.getD_eq_getD_getElem?] at this h0
      simp [hlt'] at this h0
      rw [this] at h0; cases h0
    | succ fuel ih =>
      intro listed a w σ G hsz hcl hst hG hcnt
      refine ⟨fun hr => hdone listed a w σ G hsz hst hG (hready listed hsz hr), fun i hi => ?_⟩
      obtain ⟨h0, o, ho, hpre⟩ := mem_ready.1 hi
      have hlt : i < ops.size := (Array.getElem?_eq_some_iff.1 ho).1
      have hSi : S listed i = false := by
        have hlt' : i < listed.size := by omega
        simp only [S, Array.getD_eq_getD_getElem?] at h0 ⊢
        simp [hlt'] at h0 ⊢
        exact h0
      obtain ⟨f, hf, hfo⟩ := hop i o ho
      subst hfo
      obtain ⟨hdst, hOp⟩ := FactsOk.at fs 0 n env h hok i f hf
      -- who must come before stands listed
      have hclos : ∀ j g, fs[j]? = some g → S listed j = true → ∀ k, k ∈ pr j → S listed k = true := by
        intro j
        induction j using Nat.strongRecOn with
        | _ j ihj =>
          intro g hg hSj k hk
          obtain ⟨e, he, hb, hor⟩ := hD.pred j g hg k hk
          have h1 := hcl j g hg hSj e he hb
          rcases hor with rfl | hk'
          · exact h1
          · have hlt := hD.back j g hg e he hb
            have hjl := (List.getElem?_eq_some_iff.1 hg).1
            exact ihj e.on hlt _ (List.getElem?_eq_getElem (by omega)) h1 k hk'
      have hpri : ∀ k, k ∈ pr i → S listed k = true := fun k hk => by
        obtain ⟨e, he, hb, hor⟩ := hD.pred i f hf k hk
        have h1 : S listed e.on = true := hpre e (by simpa using he) hb
        rcases hor with rfl | hk'
        · exact h1
        · have hlt := hD.back i f hf e he hb
          exact hclos e.on _ (List.getElem?_eq_getElem (by omega)) h1 k hk'
      have hap : ∀ j g, fs[j]? = some g → S listed j ≠ Nat.blt j i → (j < i ∧ apartB g f = true) ∨ (i < j ∧ S listed j = true ∧ apartB f g = true) := by
        intro j g hg hne
        rcases Nat.lt_trichotomy j i with hji | rfl | hij
        · refine .inl ⟨hji, ?_⟩
          rcases hD.pair j i g f hg hf hji with h1 | h1
          · exfalso
            have := hpri j h1
            rw [this, show Nat.blt j i = true from Nat.ble_eq_true_of_le hji] at hne
            exact hne rfl
          · exact h1
        · exfalso
          apply hne
          rw [hSi]
          cases hb : Nat.blt j j
          · rfl
          · have := Nat.le_of_ble_eq_true hb; omega
        · refine .inr ⟨hij, ?_⟩
          have hSj : S listed j = true := by
            cases hs : S listed j
            · exfalso
              apply hne
              rw [hs]
              cases hb : Nat.blt j i
              · rfl
              · have := Nat.le_of_ble_eq_true hb; omega
            · rfl
          refine ⟨hSj, ?_⟩
          rcases hD.pair i j f g hf hg hij with h1 | h1
          · have := hclos j g hg hSj i h1
            rw [hSi] at this; cases this
          · exact h1
      have hget : ∀ {β : Type 1} (q : DFact → List (Nat × β)) j u, (fs.map q)[j]? = some u → ∃ g, fs[j]? = some g ∧ q g = u := fun q j u hj => by
        rw [List.getElem?_map] at hj
        cases hg : fs[j]? with
        | none => rw [hg] at hj; cases hj
        | some g => rw [hg] at hj; exact ⟨g, by first | exact hg | rfl, by simpa using hj⟩
      have henv : ∀ t, t ∈ f.looks → lk (accS (fun j => Nat.blt j (0 + i)) 0 (fs.map (·.envU)) env) t = lk (accS (S listed) 0 (fs.map (·.envU)) env) t := fun t ht =>
        acc_congr _ 0 _ _ rfl fun j u hj hne => by
          obtain ⟨g, hg, rfl⟩ := hget _ j u hj
          simp only [Nat.zero_add]
          by_cases hs : S listed j = Nat.blt j i
          · exact hs.symm
          · exfalso
            have hmem := lk_envU hne
            rcases hap j g hg hs with ⟨_, h1⟩ | ⟨_, _, h1⟩
            · exact disjB_out (apartB_out h1).1 t hmem ht
            · exact disjB_out (apartB_out h1).2.1 t hmem ht
      have hrow : ∀ t, t ∈ f.rows → lk (accS (fun j => Nat.blt j (0 + i)) 0 (fs.map (·.u)) h) t = lk (accS (S listed) 0 (fs.map (·.u)) h) t := fun t ht =>
        acc_congr _ 0 _ _ rfl fun j u hj hne => by
          obtain ⟨g, hg, rfl⟩ := hget _ j u hj
          simp only [Nat.zero_add]
          by_cases hs : S listed j = Nat.blt j i
          · exact hs.symm
          · exfalso
            have hmem := lk_keys' hne
            rcases hap j g hg hs with ⟨_, h1⟩ | ⟨_, _, h1⟩
            · exact disjB_out (apartB_out h1).2.2.2.1 t hmem ht
            · exact disjB_out (apartB_out h1).2.2.2.2.1 t hmem ht
      have hagree : Agree (only f.looks (accS (fun j => Nat.blt j (0 + i)) 0 (fs.map (·.envU)) env)) (only f.rows (accS (fun j => Nat.blt j (0 + i)) 0 (fs.map (·.u)) h)) (stOf listed) := by
        refine ⟨fun t v ht => ?_, fun r row hr => ?_⟩
        · obtain ⟨h1, h2⟩ := lk_only _ t v ht
          rw [henv t h1] at h2
          exact h2
        · simp only [lookH] at hr
          split at hr <;> try (cases hr; done)
          rename_i row' hl
          simp only [Option.some.injEq] at hr
          subst hr
          obtain ⟨h1, h2⟩ := lk_only _ r _ hl
          rw [hrow r h1] at h2
          simp only [St.row, stOf, h2]
          rfl
      have hfresh : ∀ r, n + 8 * i ≤ r → r < n + 8 * i + 8 → ¬ G r := fun r h1 h2 h3 => by
        rcases hG r h3 with h4 | ⟨k, h4, h5, h6⟩
        · omega
        · have : k = i := by omega
          subst this
          rw [hSi] at h4; cases h4
      -- the operation, and then the rest
      have hS' : ∀ j, j ≠ i → S (listed.setIfInBounds i true) j = S listed j := fun j hj => getD_set_ne false (Ne.symm hj)
      have hSi' : S (listed.setIfInBounds i true) i = true := by
        have hlt' : i < listed.size := by omega
        simp only [S, Array.getD_eq_getD_getElem?]
        simp [hlt']
      have hmono : ∀ j, S listed j = true → S (listed.setIfInBounds i true) j = true := fun j hj => getD_set_true hj
      have hrest := hOp C G (stOf listed) σ w a hagree (dstOk_out hdst) hst hfresh rfl (wpAnyIn (fen C.ro) 0 P .any ops (Lift C Q) fuel (listed.setIfInBounds i true)) (Lift C Q) (by
        intro x w' σ' G' hst' _ hG'
        refine ih (listed.setIfInBounds i true) (a.put f.op.dst x) w' σ' G' (by simpa using hsz) ?_ ?_ ?_ ?_
        · intro j g hg hSj e he hb
          by_cases hji : j = i
          · subst hji
            rw [hf] at hg
            cases hg
            exact hmono _ (hpre e (by simpa using he) hb)
          · rw [hS' j hji] at hSj
            exact hmono _ (hcl j g hg hSj e he hb)
        · refine hst'.congr (fun t => ?_) (fun t => ?_) ?_ ?_
          · have hput : lk ((stOf listed).put f.op.dst f.v f.u).env t = lk (f.envU ++ (stOf listed).env) t := by
              unfold DFact.envU
              cases f.op.dst <;> cases f.v <;> rfl
            rw [hput]
            refine acc_add (u := f.envU) (i := i) (by simp [hf]) hS' hSi' fun j u hj hij hSj hne => ?_
            obtain ⟨g, hg, rfl⟩ := hget _ j u hj
            cases hn : lk g.envU t with
            | none => rfl
            | some z =>
              exfalso
              rcases hap j g hg (by rw [hSj, blt_no hij]; exact fun e => by cases e) with ⟨h1, _⟩ | ⟨_, _, h1⟩
              · omega
              · exact disjB_out (apartB_out h1).2.2.1 t (lk_envU hne) (lk_envU (by rw [hn]; exact fun e => by cases e))
          · have hput : ((stOf listed).put f.op.dst f.v f.u).heap = f.u ++ (stOf listed).heap := by
              cases f.op.dst <;> cases f.v <;> rfl
            rw [hput]
            refine acc_add (u := f.u) (i := i) (by simp [hf]) hS' hSi' fun j u hj hij hSj hne => ?_
            obtain ⟨g, hg, rfl⟩ := hget _ j u hj
            cases hn : lk g.u t with
            | none => rfl
            | some z =>
              exfalso
              rcases hap j g hg (by rw [hSj, blt_no hij]; exact fun e => by cases e) with ⟨h1, _⟩ | ⟨_, _, h1⟩
              · omega
              · exact disjB_out (apartB_out h1).2.2.2.2.2 t (lk_keys' hne) (lk_keys' (by rw [hn]; exact fun e => by cases e))
          · cases f.op.dst <;> cases f.v <;> rfl
          · cases f.op.dst <;> cases f.v <;> rfl
        · intro r hr
          rcases hG' r hr with h1 | h1
          · rcases hG r h1 with h2 | ⟨k, h2, h3⟩
            · exact .inl h2
            · exact .inr ⟨k, hmono k h2, h3⟩
          · exact .inr ⟨i, hSi', h1.1, h1.2⟩
        · have := filter_lt (p := fun i => !S listed i) (q := fun j => !S (listed.setIfInBounds i true) j) (fun x hx => by
            simp only [Bool.not_eq_true'] at hx ⊢
            cases hs : S listed x
            · rfl
            · rw [hmono x hs] at hx; cases hx) (List.range ops.size) i (List.mem_range.2 hlt) (by simp [hSi]) (by simp [hSi'])
          omega)
      unfold wpOpIn
      rw [ho]
      have hall : ops.toList.toArray = ops := by simp
      rw [hall] at hrest
      by_cases hw : Region.wanted f.op (yielded ops a.tmps) = true
      · simp only [hw, if_true] at hrest ⊢
        exact hrest
      · simp only [hw] at hrest ⊢
        exact ⟨fun _ _ => trivial, hrest⟩
  have hrep : ∀ i, S (Array.replicate ops.size false) i = false := fun i => by
    simp only [S, Array.getD_eq_getD_getElem?]
    rcases Nat.lt_or_ge i ops.size with h1 | h1
    · simp [h1]
    · simp [h1]
  refine key ops.size _ a _ σ (fun r => r < n) (by simp) ?_ ?_ ?_ ?_
  · intro j g _ hSj
    rw [hrep] at hSj; cases hSj
  · have h0 : ∀ {β : Type 1} (us : List (List (Nat × β))) (e : List (Nat × β)), accS (S (Array.replicate ops.size false)) 0 us e = e := fun us e => accS_off us 0 e fun j _ => hrep j
    have h1 := hst.drew
    exact h1.congr (fun t => by simp only [stOf, h0]) (fun t => by simp only [stOf, h0]) rfl rfl
  · intro r hr; exact .inl hr
  · have := List.length_filter_le (fun i => !S (Array.replicate ops.size false) i) (List.range ops.size)
    simpa using this

end
end Go.Eng

/- The table of types, checked. -/
namespace Go.Eng

def zval (d : D) : Value := if d.isAgg then .agg d.flatC.toArray else d.flatC.headD .nilIface

theorem zval_cells (d : D) (h : d.okC = true) : d.flatC = (zval d).cells.toList := by
  unfold zval
  split
  · simp [Value.cells]
  · rename_i hag
    cases d with
    | sc v =>
      simp only [D.okC] at h
      cases v <;> first | rfl | simp [Value.oneCell'] at h
    | arr s enc xs => rfl
    | pt x => rfl
    | arx s enc xs => rfl
    | _ => exact absurd rfl hag

def fieldsOk (P : Program) : List (Nat × Nat) → List Field → Bool
  | [], gs => gs.all fun g => (P.info? g.type).isSome
  | (o, t) :: l, g :: gs => Nat.beq g.offset o && Nat.beq g.type t && !Nat.beq (P.cellsOf t) 0 && (P.info? g.type).isSome && fieldsOk P l gs
  | _, _ => false

def descB (P : Program) : TyD → TypeDesc → Bool
  | .int k, .int k' => Nat.beq (kNo k) (kNo k')
  | .bool, .bool => true
  | .string, .string => true
  | .struct fs, .struct gs => fieldsOk P fs gs.toList
  | .array n e, .array n' e' => Nat.beq n n' && Nat.beq e e'
  | .slice e, .slice e' => Nat.beq e e'
  | .cell, .struct _ => false
  | .cell, .array .. => false
  | .cell, _ => true
  | _, _ => false

theorem fieldsOk_out {P : Program} : ∀ (l : List (Nat × Nat)) (gs : List Field), fieldsOk P l gs = true → ∀ (k o t : Nat), l[k]? = some (o, t) → ∃ g, gs[k]? = some g ∧ g.offset = o ∧ g.type = t ∧ P.cellsOf t ≠ 0
  | [], _, _, k, o, t, h => by simp at h
  | (o', t') :: l, [], h, k, o, t, hk => by simp [fieldsOk] at h
  | (o', t') :: l, g :: gs, h, k, o, t, hk => by
    simp only [fieldsOk, Bool.and_eq_true, Bool.not_eq_true'] at h
    obtain ⟨⟨⟨⟨h1, h2⟩, h3⟩, _⟩, h4⟩ := h
    cases k with
    | zero =>
      simp only [List.getElem?_cons_zero, Option.some.injEq, Prod.mk.injEq] at hk
      obtain ⟨rfl, rfl⟩ := hk
      exact ⟨g, rfl, Nat.eq_of_beq_eq_true h1, Nat.eq_of_beq_eq_true h2, Nat.ne_of_beq_eq_false h3⟩
    | succ k => exact fieldsOk_out l gs h4 k o t (by simpa using hk)

theorem fieldsOk_info {P : Program} : ∀ (l : List (Nat × Nat)) (gs : List Field), fieldsOk P l gs = true → ∀ g ∈ gs, ∃ i, P.info? g.type = some i
  | [], gs, h, g, hg => by
    simp only [fieldsOk, List.all_eq_true] at h
    exact Option.isSome_iff_exists.1 (h g hg)
  | (o', t') :: l, [], h, g, hg => by simp at hg
  | (o', t') :: l, x :: gs, h, g, hg => by
    simp only [fieldsOk, Bool.and_eq_true, Bool.not_eq_true'] at h
    rcases List.mem_cons.1 hg with rfl | hg
    · exact Option.isSome_iff_exists.1 h.1.2
    · exact fieldsOk_info l gs h.2 g hg

theorem descB_flds {P : Program} {d : TyD} {u : TypeDesc} (h : descB P d u = true) : ∀ gs, u = .struct gs → ∀ g ∈ gs.toList, ∃ i, P.info? g.type = some i := by
  rintro gs rfl
  cases d <;> simp only [descB, Bool.false_eq_true] at h
  exact fieldsOk_info _ _ h

theorem descB_out {P : Program} {d : TyD} {u : TypeDesc} (h : descB P d u = true) : descOk P d u := by
  cases d <;> cases u <;> simp only [descB, Bool.false_eq_true] at h <;> first
    | rfl
    | (have := kNo_eq h; subst this; rfl)
    | (simp only [Bool.and_eq_true] at h; obtain ⟨h1, h2⟩ := h; have h1 := Nat.eq_of_beq_eq_true h1; have h2 := Nat.eq_of_beq_eq_true h2; subst h1; subst h2; rfl)
    | (have h := Nat.eq_of_beq_eq_true h; subst h; rfl)
    | (refine ⟨_, rfl, fun k o t hk => ?_⟩; obtain ⟨g, h1, h2⟩ := fieldsOk_out _ _ h k o t hk; exact ⟨g, by simpa using h1, h2⟩)

theorem TyOk.mk' {P : Program} {t : Nat} {r : TyR} {u : TypeDesc} (h1 : (P.info? t).map (fun i => (i.size, i.bytes, i.zero)) = some (r.size, r.bytes, some (zval r.zero))) (h2 : (r.zero.okC && Nat.beq r.zero.size r.size) = true)
    (h3 : P.underlying t = some u) (h4 : descB P r.desc u = true) (h5 : r.desc.isAgg = r.zero.isAgg) : TyOk P t r := by
  simp only [Bool.and_eq_true] at h2
  obtain ⟨h2, h6⟩ := h2
  refine ⟨?_, h2, Nat.eq_of_beq_eq_true h6, ⟨u, h3, descB_out h4⟩, h5, fun gs hg => descB_flds h4 gs (Option.some.inj (h3.symm.trans hg))⟩
  cases hi : P.info? t with
  | none => simp [hi] at h1
  | some i =>
    simp only [hi, Option.map_some, Option.some.injEq, Prod.mk.injEq] at h1
    exact ⟨i, zval r.zero, rfl, h1.1, h1.2.1, h1.2.2, zval_cells _ h2⟩

theorem TabOk.nil {P : Program} : TabOk P [] := fun t r h => by simp [lk] at h
theorem TabOk.cons {P : Program} {t : Nat} {r : TyR} {T : Tab} (h : TyOk P t r) (hs : TabOk P T) : TabOk P ((t, r) :: T) := by
  intro t' r' h'
  simp only [lk_cons] at h'
  split at h'
  · rename_i e
    subst e
    simp only [Option.some.injEq] at h'
    exact h' ▸ h
  · exact hs t' r' h'

def encU8 (x : Int) : D := .sc (.int .u8 x)
end Go.Eng

/- Structs and arrays that are built; equality of data. -/
namespace Go.Eng
open Go.RowKit

theorem fold_set (C : List Value) (off : Nat) : ∀ (l : List Value) (k : Nat) (A m : List Value), A.length = off + k → m.length = l.length →
    (l.zipIdx k).foldl (fun cs (x : Value × Nat) => cs.setIfInBounds (off + x.2) x.1) (A ++ m ++ C).toArray = (A ++ l ++ C).toArray
  | [], k, A, m, _, hm => by
    have : m = [] := List.eq_nil_of_length_eq_zero (by simpa using hm)
    subst this; rfl
  | v :: l, k, A, [], _, hm => by simp at hm
  | v :: l, k, A, u :: m, hA, hm => by
    simp only [List.zipIdx_cons, List.foldl_cons]
    have h1 : (A ++ u :: m ++ C).toArray.setIfInBounds (off + k) v = ((A ++ [v]) ++ m ++ C).toArray := by
      apply Array.ext'
      rw [Array.toList_setIfInBounds]
      simp only [List.append_assoc, List.cons_append]
      rw [← hA, List.set_append_right _ _ (Nat.le_refl _), Nat.sub_self]
      simp
    rw [h1, fold_set C off l (k + 1) (A ++ [v]) m (by simp [hA]; omega) (by simpa using hm)]
    simp

/-- The parts of a struct that are given, put into the zero value. -/
def buildF (T : Tab) (offs : List (Nat × Nat)) (ev : Operand → Option AV) : List (Nat × Operand) → AV → Option AV
  | [], z => some z
  | (i, x) :: l, z => match ev x, offs[i]? with
    | some v, some (o, t) => match z.chainAt i o with
      | some u => bif sizeOk T t v then (bif Nat.beq u.size v.size then (bif u.isAgg == v.isAgg then buildF T offs ev l (AV.chainSet v i z) else none) else none) else none
      | none => none
    | _, _ => none

theorem AUpd.one {z u v : AV} {i o : Nat} (h : z.chainAt i o = some u) (hs : u.size = v.size) (ha : u.isAgg = v.isAgg) : AUpd z [.fld i o] v (AV.chainSet v i z) := by
  cases z with
  | d x =>
    have h' := h
    simp only [AV.chainAt, Option.map_eq_some_iff] at h'
    obtain ⟨y, hy, rfl⟩ := h'
    cases v with
    | d q =>
      refine ⟨x.chainSet i q, ?_, D.chainSet_d i x q o y hy⟩
      cases x <;> first
        | (cases i <;> simp [D.chainAt] at hy; done)
        | (simp only [Upd, Step.ix, Step.off]
           rw [hy]
           exact ⟨q, ⟨hs, ha, rfl⟩, rfl⟩)
    | _ =>
      simp only [AUpd, Step.ix, Step.off]
      rw [h]
      exact ⟨_, ⟨hs, ha, rfl⟩, rfl⟩
  | acons p q =>
    cases v <;>
    · simp only [AUpd, Step.ix, Step.off]
      rw [h]
      exact ⟨_, ⟨hs, ha, rfl⟩, rfl⟩
  | _ => simp [AV.chainAt] at h

section
variable {P : Program} {T : Tab} {sz : Nat} {env : Env} {h : Upds} {n : Nat}

theorem buildF_sound (hT : TabOk P T) {C : Ctx} {G : Nat → Prop} {st : St} {σ : Place} {w : World} {a : Act} (hst : StRel C G st σ w a) (hA : Agree env h st) {offs : List (Nat × Nat)} {pl : Nat → Option (Nat × Nat)} (hpl : ∀ (k o t : Nat) (r : TyR), offs[k]? = some (o, t) → lk T t = some r → pl k = some (o, r.size)) :
    ∀ (l : List (Nat × Operand)) (z q : AV) (cs : List Value), buildF T offs (evalA env) l z = some q → z.flat = true → z.within G → Rel σ w (st.X C.X0 σ) z false cs →
      ∃ cs', Instr.fill pl cs.toArray (l.map fun x => (x.1, a.eval x.2)) = some cs'.toArray ∧ Rel σ w (st.X C.X0 σ) q false cs' ∧ q.flat = true ∧ q.within G
  | [], z, q, cs, hq, hf, hg, hr => by
    simp only [buildF, Option.some.injEq] at hq
    subst hq
    exact ⟨cs, rfl, hr, hf, hg⟩
  | (i, x) :: l, z, q, cs, hq, hf, hg, hr => by
    simp only [buildF] at hq
    split at hq <;> try (cases hq; done)
    rename_i v o t' hv ho
    split at hq <;> try (cases hq; done)
    rename_i u hu
    cases h1 : sizeOk T t' v <;> rw [h1] at hq <;> simp only [cond_true, cond_false] at hq
    · cases hq
    cases h2 : Nat.beq u.size v.size <;> rw [h2] at hq <;> simp only [cond_true, cond_false] at hq
    · cases hq
    cases h3 : (u.isAgg == v.isAgg) <;> rw [h3] at hq <;> simp only [cond_true, cond_false] at hq
    · cases hq
    have h2 := Nat.eq_of_beq_eq_true h2
    have h3 : u.isAgg = v.isAgg := by simpa using h3
    obtain ⟨r, hr1, hr2, hvf, _⟩ := sizeOk.out h1
    obtain ⟨hv1, hv2⟩ := ev_sound hst (hA.ev hv)
    have hvc := RelV.cells hvf hv1
    have hup := AUpd.one hu h2 h3
    obtain ⟨A, m, C', ⟨rfl, hAl⟩, hml, hnew⟩ := AUpd.cells _ _ _ _ _ _ hf hvf hup hr hvc
    have hp := hpl i o t' r ho hr1
    have hl := Rel.len _ _ hvf hvc
    obtain ⟨cs', hfill, h5⟩ := buildF_sound hT hst hA hpl l _ q _ hq (AUpd.flat _ _ _ _ hf hvf hup) (AV.within.set _ _ _ hv2 hg) hnew
    refine ⟨cs', ?_, h5⟩
    simp only [List.map_cons, Instr.fill, hp]
    have hsz : (a.eval x).cells.size = r.size := by rw [hr2, ← hl]; simp
    simp only [pathOff, Step.off, Nat.add_zero] at hAl
    rw [if_neg (by
      simp only [hsz, ne_eq, not_true, decide_false, Bool.false_or, decide_eq_true_eq]
      have : m.length = r.size := by rw [hml, hl, hr2]
      simp; omega)]
    rw [← hfill]
    congr 1
    rw [← Array.foldl_toList]
    have := fold_set C' o (a.eval x).cells.toList 0 A m (by simpa using hAl) hml
    simpa using this

theorem run_places (hT : TabOk P T) {gs : List Field} (hi : ∀ g ∈ gs, ∃ i, P.info? g.type = some i) (w : World) :
    (gs.mapM fun f => do pure (f.offset, ← sizeOf f.type) : Sem (List (Nat × Nat))).run P w = .ok (gs.map fun f => (f.offset, P.cellsOf f.type)) w := by
  induction gs with
  | nil => simp
  | cons g gs ih =>
    obtain ⟨i, hgi⟩ := hi g (by simp)
    have ih := ih (fun x hx => hi x (by simp [hx]))
    have hs : (sizeOf g.type).run P w = .ok (P.cellsOf g.type) w := by simp [sizeOf, typeInfo, hgi, Program.cellsOf]
    rw [List.mapM_cons]
    simp only [Sem.run_bind, hs, Result.andThen_ok, Sem.run_pure, List.map_cons]
    rw [ih]
    rfl

/-- A struct built of some parts. -/
theorem build_struct (hT : TabOk P T) {t : TypeId} {r : TyR} {offs : List (Nat × Nat)} {parts : Array (Nat × Operand)} {q : AV} (ht : lk T t = some r) (hd : r.desc = .struct offs) (hq : buildF T offs (evalA env) parts.toList (.d r.zero) = some q) (hag : q.isAgg = true) :
    StepIs P (.build t parts) env h n (some q) [] := .of_comes fun C G st σ w a o ho hA hdst hst hn => by
  obtain ⟨u, hu, hdu⟩ := (hT t r ht).und
  rw [hd] at hdu
  obtain ⟨gs, rfl, hgs⟩ := hdu
  obtain ⟨z, hz, hzc⟩ := (hT t r ht).run_zero w
  have hinfo := (hT t r ht).flds gs hu
  have henc : Rel σ w (st.X C.X0 σ) (.d r.zero) false z.cells.toList := by rw [← hzc]; exact Enc.closed _ _ _ (hT t r ht).zero
  obtain ⟨cs', hfill, h1, h2, h3⟩ := buildF_sound hT hst hA (pl := fun k => (gs.map fun f => (f.offset, P.cellsOf f.type))[k]?) (fun k o t' r' ho hr' => by
    obtain ⟨g, hg, rfl, rfl, _⟩ := hgs k o t' ho
    obtain ⟨i, zz, hi, hs, _⟩ := (hT g.type r' hr').info
    simp [hg, Program.cellsOf, hi, hs]) parts.toList (.d r.zero) q z.cells.toList hq rfl trivial henc
  refine .quiet (u := .agg cs'.toArray) hst hdst ⟨rfl, rfl⟩ ?_ (by unfold RelV; rw [if_pos hag]; exact ⟨cs', rfl, h1⟩) h3
  have hp := run_places (P := P) hT hinfo w
  have hp2 : (gs.mapM fun f => do pure (f.offset, ← sizeOf f.type) : Sem (Array (Nat × Nat))).run P w = .ok (gs.map fun f => (f.offset, P.cellsOf f.type)) w := by
    rw [Array.mapM_eq_mapM_toList]
    simp only [Sem.run_map, hp, Result.andThen_ok]
    congr 1
    apply Array.ext'
    simp
  have hcs : z.cells.toList.toArray = z.cells := by simp
  have hpt : (parts.map fun x => (x.1, a.eval x.2)).toList = parts.toList.map fun x => (x.1, a.eval x.2) := by simp
  rw [hcs, ← hpt] at hfill
  have hb : (Instr.build t (parts.map fun x => (x.1, a.eval x.2))).run P w = .ok (.agg cs'.toArray) w := by
    simp only [Instr.build, Sem.run_bind, hz, Result.andThen_ok, run_underlying hu, hp2, hfill, Sem.run_pure]
  simp only [execOp, ho, Sem.run_bind]
  rw [show (parts.map fun (x : Nat × Operand) => match x with | (i, x) => (i, a.eval x)) = parts.map fun x => (x.1, a.eval x.2) from rfl, hb]
  rfl

/-- The zero value of an array. -/
theorem build_array (hT : TabOk P T) {t e len : Nat} {r re : TyR} (ht : lk T t = some r) (hd : r.desc = .array len e) (he : lk T e = some re) : StepIs P (.build t #[]) env h n (some (.d r.zero)) [] := .of_comes fun C G st σ w a o ho hA hdst hst hn => by
  obtain ⟨u, hu, hdu⟩ := (hT t r ht).und
  rw [hd] at hdu
  cases hdu
  obtain ⟨z, hz, hzc⟩ := (hT t r ht).run_zero w
  have hag : r.zero.isAgg = true := by rw [← (hT t r ht).agg, hd]; rfl
  refine .quiet (u := .agg z.cells) hst hdst ⟨rfl, rfl⟩ ?_ (by unfold RelV; rw [if_pos (show (AV.d r.zero).isAgg = true from hag)]; exact ⟨z.cells.toList, by simp, by rw [← hzc]; exact Enc.closed _ _ _ (hT t r ht).zero⟩) trivial
  have hb : (Instr.build t #[]).run P w = .ok (.agg z.cells) w := by
    simp only [Instr.build, Sem.run_bind, hz, Result.andThen_ok, run_underlying hu, (hT e re he).run_size, Instr.fill, Sem.run_pure]
  simp only [execOp, ho, Sem.run_bind]
  rw [show ((#[] : Array (Nat × Operand)).map fun (x : Nat × Operand) => (x.1, a.eval x.2)) = #[] from by simp, hb]
  rfl

/-- Whether two data are one, told by the machine. -/
def EqOk (P : Program) (m t : Nat) (x y : D) (b : Bool) : Prop :=
  ∀ (σ : Place) (w : World) (X : Nat → Prop) (u v : Value) (dd : Nat), RelV σ w X (.d x) u → RelV σ w X (.d y) v → (Op.equalIn (dd + m) t u v).run P w = .ok b w

def EqF (P : Program) (m : Nat) (gs : List Field) (off : Nat) (x y : D) (b : Bool) : Prop :=
  ∀ (σ : Place) (w : World) (X : Nat → Prop) (A A' c c' : List Value) (dd : Nat), A.length = off → A'.length = off → Enc w X x c → Enc w X y c' → (Op.eqFields (dd + m) (A ++ c).toArray (A' ++ c').toArray gs).run P w = .ok b w

theorem EqOk.cast {m t : Nat} {x y : D} {b b' : Bool} (h : EqOk P m t x y b) (hb : b = b') : EqOk P m t x y b' := hb ▸ h

theorem eq_int {t : Nat} {k k' : IntKind} {a b : Int} (ht : P.underlying t = some (.int k')) : EqOk P 1 t (.sc (.int k a)) (.sc (.int k b)) (decide (a = b)) := by
  intro σ w X u v dd hu hv
  rw [(RelV.sc.1 hu).1, (RelV.sc.1 hv).1, run_equalIn_int w dd t k k' a b ht, Bool.beq_eq_decide_eq]

theorem eq_bool {t : Nat} {a b : Bool} (ht : P.underlying t = some .bool) : EqOk P 1 t (.sc (.bool a)) (.sc (.bool b)) (decide (a = b)) := by
  intro σ w X u v dd hu hv
  rw [(RelV.sc.1 hu).1, (RelV.sc.1 hv).1, run_equalIn_bool' w dd t a b ht, Bool.beq_eq_decide_eq]

theorem EqOk.up {m m' t : Nat} {x y : D} {b : Bool} (h : EqOk P m t x y b) (hm : m ≤ m') : EqOk P m' t x y b := by
  intro σ w X u v dd hu hv
  have := h σ w X u v (dd + (m' - m)) hu hv
  rwa [show dd + (m' - m) + m = dd + m' by omega] at this

theorem eqf_nil {m off : Nat} : EqF P m [] off .nil .nil true := by
  intro σ w X A A' c c' dd _ _ _ _
  simp [Op.eqFields]

theorem eqf_cons (hT : TabOk P T) {m off off' : Nat} {g : Field} {gs : List Field} {a a' r r' : D} {b b' : Bool} (ho : g.offset = off) (hn : (g.name == "_") = false) (h1 : sizeOk T g.type (.d a) = true) (h2 : sizeOk T g.type (.d a') = true)
    (he : EqOk P m g.type a a' b) (hoff : off + a.size = off') (hr : EqF P m gs off' r r' b') : EqF P m (g :: gs) off (.cons a r) (.cons a' r') (b && b') := by
  have hn : g.name ≠ "_" := fun e => by rw [e] at hn; simp at hn
  rintro σ w X A A' _ _ dd hA hA' ⟨c1, c2, rfl, e1, e2⟩ ⟨d1, d2, rfl, f1, f2⟩
  obtain ⟨u, hu, hur⟩ := run_part (P := P) (σ := σ) (w := w) (v := .d a) hT h1 (cs := A ++ (c1 ++ c2)) (A := A) (m := c1) (C := c2) (off := g.offset) ⟨by simp, by rw [hA, ho]⟩ (X := X) e1
  obtain ⟨v, hv, hvr⟩ := run_part (P := P) (σ := σ) (w := w) (v := .d a') hT h2 (cs := A' ++ (d1 ++ d2)) (A := A') (m := d1) (C := d2) (off := g.offset) ⟨by simp, by rw [hA', ho]⟩ (X := X) f1
  have hsz : a.size = a'.size := by
    obtain ⟨q, q1, q2, _⟩ := sizeOk.out h1
    obtain ⟨q', q3, q4, _⟩ := sizeOk.out h2
    rw [q1] at q3
    cases q3
    simpa [AV.size] using q2.symm.trans q4
  simp only [Op.eqFields, hn, ne_eq, not_false_eq_true, if_true, Sem.run_bind, hu, hv, he σ w X u v dd hur hvr, Result.andThen_ok]
  cases b with
  | false => simp
  | true =>
    simp only [Bool.not_true, Bool.false_eq_true, if_false, Bool.true_and]
    have := hr σ w X (A ++ c1) (A' ++ d1) c2 d2 dd (by simp [hA, Enc.len _ _ e1, hoff]) (by simp [hA', Enc.len _ _ f1, ← hsz, hoff]) e2 f2
    simpa using this

/-- An array, element by element. -/
theorem eq_vec (hT : TabOk P T) {m t e n s : Nat} {α : Type} [DecidableEq α] {enc : α → D} {re : TyR} {xs ys : List α} (ht : P.underlying t = some (.array n e)) (hre : lk T e = some re) (hs : ∀ x, sizeOk T e (.d (enc x)) = true) (hrs : re.size = s) (he : ∀ x y, EqOk P m e (enc x) (enc y) (decide (x = y))) :
    EqOk P (m + 1) t (.vec n s enc xs) (.vec n s enc ys) (decide (xs = ys)) := by
  intro σ w X u v dd hu hv
  obtain ⟨c, rfl, hx, f, hf, rfl⟩ := hu.agg rfl
  obtain ⟨c', rfl, hy, f', hf', rfl⟩ := hv.agg rfl
  obtain ⟨i0, z0, hi0, hs0, _⟩ := (hT e re hre).info
  have hce : P.cellsOf e = s := by simp [Program.cellsOf, hi0, hs0, hrs]
  rw [show dd + (m + 1) = (dd + m) + 1 from rfl, run_equalIn_array w (dd + m) _ _ ht hi0, hce]
  have key : ∀ (k j : Nat), j + k = n → (Op.eqItems (dd + m) e s (cat f n).toArray (cat f' n).toArray (List.range' j k)).run P w = .ok (decide (xs.drop j = ys.drop j)) w := by
    intro k
    induction k with
    | zero =>
      intro j hj
      have h1 : xs.drop j = [] := List.drop_eq_nil_of_le (by omega)
      have h2 : ys.drop j = [] := List.drop_eq_nil_of_le (by omega)
      simp [Op.eqItems, h1, h2]
    | succ k ih =>
      intro j hj
      have hjx : j < xs.length := by omega
      have hjy : j < ys.length := by omega
      obtain ⟨A, C, hA, hAl⟩ := cat_split n (f := f) (s := s) (fun i hi => (hf i (by omega)).2) j (by omega)
      obtain ⟨A', C', hA', hAl'⟩ := cat_split n (f := f') (s := s) (fun i hi => (hf' i (by omega)).2) j (by omega)
      obtain ⟨u, hu, hur⟩ := run_part (P := P) (σ := σ) (w := w) (v := .d (enc xs[j])) hT (hs _) (cs := cat f n) (A := A) (m := f j) (C := C) (off := j * s) ⟨hA, hAl⟩ (X := X) (hf j hjx).1
      obtain ⟨v, hv, hvr⟩ := run_part (P := P) (σ := σ) (w := w) (v := .d (enc ys[j])) hT (hs _) (cs := cat f' n) (A := A') (m := f' j) (C := C') (off := j * s) ⟨hA', hAl'⟩ (X := X) (hf' j hjy).1
      simp only [List.range'_succ, Op.eqItems, Sem.run_bind, hu, hv, he _ _ σ w X u v dd hur hvr, Result.andThen_ok]
      rw [List.drop_eq_getElem_cons hjx, List.drop_eq_getElem_cons hjy]
      by_cases hxy : xs[j] = ys[j]
      · simp only [hxy, decide_true, Bool.not_true, Bool.false_eq_true, if_false, ih (j + 1) (by omega), List.cons.injEq, true_and]
      · rw [decide_eq_false hxy, decide_eq_false (fun e => hxy (List.cons.inj e).1)]
        simp
  have := key n 0 (by omega)
  rw [List.range_eq_range']
  simpa using this

theorem eq_struct {m t : Nat} {gs : Array Field} {x y : D} {b : Bool} (ht : P.underlying t = some (.struct gs)) (hp : P.stoodInHeld t = false) (hx : x.isAgg = true) (hy : y.isAgg = true) (hf : EqF P m gs.toList 0 x y b) : EqOk P (m + 1) t x y b := by
  intro σ w X u v dd hu hv
  obtain ⟨c, rfl, hc⟩ := hu.agg (show (AV.d x).isAgg = true from hx)
  obtain ⟨c', rfl, hc'⟩ := hv.agg (show (AV.d y).isAgg = true from hy)
  have hfo : P.fieldsOf t = gs := by simp [Program.fieldsOf, ht]
  rw [show dd + (m + 1) = (dd + m) + 1 from rfl, run_equalIn_struct w (dd + m) t c.toArray c'.toArray (by rw [hfo]; exact ht) hp, hfo]
  exact hf σ w X [] [] c c' dd rfl rfl hc hc'

/-- '==' and '!=' on data. -/
theorem eql_data {t t' : TypeId} {x y : Operand} {a b : D} {m : Nat} {c : Bool} (hx : evalA env x = some (.d a)) (hy : evalA env y = some (.d b)) (hag : a.isAgg = true) (hbg : b.isAgg = true) (hg : P.eqGuardType P.depth t = false) (hm : m ≤ 10000) (he : EqOk P m t a b c) :
    StepIs P (.binOp .eql t x y t') env h n (some (.bool c)) [] := .of_comes fun C G st σ w A o ho hA hdst hst hn => by
  have h1 := (ev_sound hst (hA.ev hx)).1
  have h2 := (ev_sound hst (hA.ev hy)).1
  have h3 := he σ w _ _ _ (10000 - m) h1 h2
  rw [show 10000 - m + m = 10000 by omega] at h3
  obtain ⟨p, hp, _⟩ := h1.agg (show (AV.d a).isAgg = true from hag)
  obtain ⟨q, hq, _⟩ := h2.agg (show (AV.d b).isAgg = true from hbg)
  rw [hp, hq] at h3
  refine .quiet (u := .bool c) hst hdst ⟨rfl, rfl⟩ ?_ (RelV.sc.2 ⟨rfl, rfl⟩) trivial
  simp only [execOp, ho, hp, hq, Sem.run_bind, run_eqGuard_agg w .eql t x y p.toArray q.toArray hg, Result.andThen_ok, run_eql_struct, h3, Sem.run_pure]

theorem neq_data {t t' : TypeId} {x y : Operand} {a b : D} {m : Nat} {c : Bool} (hx : evalA env x = some (.d a)) (hy : evalA env y = some (.d b)) (hag : a.isAgg = true) (hbg : b.isAgg = true) (hg : P.eqGuardType P.depth t = false) (hm : m ≤ 10000) (he : EqOk P m t a b c) :
    StepIs P (.binOp .neq t x y t') env h n (some (.bool (!c))) [] := .of_comes fun C G st σ w A o ho hA hdst hst hn => by
  have h1 := (ev_sound hst (hA.ev hx)).1
  have h2 := (ev_sound hst (hA.ev hy)).1
  have h3 := he σ w _ _ _ (10000 - m) h1 h2
  rw [show 10000 - m + m = 10000 by omega] at h3
  obtain ⟨p, hp, _⟩ := h1.agg (show (AV.d a).isAgg = true from hag)
  obtain ⟨q, hq, _⟩ := h2.agg (show (AV.d b).isAgg = true from hbg)
  rw [hp, hq] at h3
  refine .quiet (u := .bool (!c)) hst hdst ⟨rfl, rfl⟩ ?_ (RelV.sc.2 ⟨rfl, rfl⟩) trivial
  simp only [execOp, ho, hp, hq, Sem.run_bind, run_eqGuard_agg w .neq t x y p.toArray q.toArray hg, Result.andThen_ok, run_neq_struct, h3, Sem.run_pure]

end
end Go.Eng

/- What a law is handed, read as data. -/
namespace Go.Eng
open Go.RowKit Go.ChangeShapes Go.WideShapes Go.ChangeAt

/-- Whatever reads as a datum of the type is one of these data. -/
def Opens (P : Program) (t s : Nat) {α : Type} (enc : α → D) (wf : α → Prop) : Prop :=
  ∀ (H : Type) (en : TypeId × Value → H) (w : World) (spare : Nat → Bool) (held : Bool) (fuel : Nat) (cs : List Value) (x : DataW H × List MemPlace), DataW.trod en P w 0 spare held fuel t cs = some x →
    ∃ a : α, Enc w (fun _ => False) (enc a) cs ∧ cs.length = s ∧ wf a

def OpensF (P : Program) (gs : List Field) (off : Nat) {α : Type} (enc : α → D) (wf : α → Prop) : Prop :=
  ∀ (H : Type) (en : TypeId × Value → H) (w : World) (spare : Nat → Bool) (held : Bool) (fuel : Nat) (cs : List Value),
    (∀ f ∈ gs, ∃ x, DataW.trod en P w 0 spare held fuel f.type ((cs.drop f.offset).take (P.cellsOf f.type)) = some x) →
    ∃ (a : α) (c r : List Value), cs.drop off = c ++ r ∧ Enc w (fun _ => False) (enc a) c ∧ wf a

section
variable {P : Program} {t s : Nat} {α β : Type} {enc : α → D} {wf : α → Prop}

theorem Opens.map {enc' : β → D} {wf' : β → Prop} (h : Opens P t s enc wf) (g : α → β) (h1 : ∀ a, wf a → enc' (g a) = enc a) (h2 : ∀ a, wf a → wf' (g a)) : Opens P t s enc' wf' := by
  intro H en w spare held fuel cs x hx
  obtain ⟨a, ha, hl, hw⟩ := h H en w spare held fuel cs x hx
  exact ⟨g a, by rw [h1 a hw]; exact ha, hl, h2 a hw⟩

theorem opens_int {k : IntKind} (ht : P.underlying t = some (.int k)) : Opens P t 1 (fun n : Int => .sc (.int k n)) (fun n => (Lit.int k n).wf = true) := by
  intro H en w spare held fuel cs x hx
  obtain ⟨n, rfl, _, hw⟩ := DataW.trod_int ht hx
  exact ⟨n, ⟨rfl, rfl⟩, rfl, hw⟩

theorem opens_bool (ht : P.underlying t = some .bool) : Opens P t 1 (fun b : Bool => .sc (.bool b)) (fun _ => True) := by
  intro H en w spare held fuel cs x hx
  obtain ⟨n, rfl, _⟩ := DataW.trod_bool ht hx
  exact ⟨n, ⟨rfl, rfl⟩, rfl, trivial⟩

theorem opens_string (ht : P.underlying t = some .string) : Opens P t 1 (fun b : ByteArray => .sc (.string b)) (fun b => b.size ≤ maxLen) := by
  intro H en w spare held fuel cs x hx
  obtain ⟨n, rfl, _, hw⟩ := DataW.trod_string ht hx
  exact ⟨n, ⟨rfl, rfl⟩, rfl, hw⟩

theorem cells_at {w : World} {b : Nat} {a : Addr} {n : Nat} {cs : List Value} (h : w.cells? b a n = some cs) : cs.length = n ∧ ∀ j u, cs[j]? = some u → w.cell? (a.add j) = some u := by
  obtain ⟨_, hl, hat⟩ := World.cells?_some h
  refine ⟨hl, fun j u hj => ?_⟩
  have hlt := (List.getElem?_eq_some_iff.1 hj).1
  have := hat j (by omega)
  rw [← this] at hj
  exact hj

theorem choose_list {p : Nat → α → Prop} : ∀ n, (∀ i, i < n → ∃ x, p i x) → ∃ l : List α, l.length = n ∧ ∀ i (h : i < l.length), p i l[i]
  | 0, _ => ⟨[], rfl, fun i h => by simp at h⟩
  | n + 1, h => by
    obtain ⟨l, hl, hp⟩ := choose_list n (fun i hi => h i (by omega))
    obtain ⟨x, hx⟩ := h n (by omega)
    refine ⟨l ++ [x], by simp [hl], fun i hi => ?_⟩
    rcases Nat.lt_or_ge i l.length with h1 | h1
    · rw [List.getElem_append_left h1]; exact hp i h1
    · rw [List.getElem_append_right h1]
      have : i = n := by simp at hi; omega
      subst this
      simpa using hx

theorem opens_slice {e : Nat} (ht : P.underlying t = some (.slice e)) (hs : P.cellsOf e = s) (h : Opens P e s enc wf) : Opens P t 1 (fun l : List α => .arr s enc l) (fun l => l.length ≤ maxLen ∧ ∀ a ∈ l, wf a) := by
  intro H en w spare held fuel cs x hx
  rcases Go.Deep.open_slice ht hx with ⟨rfl, _⟩ | ⟨a, len, cap, m, n, Dd, Pl, rfl, _, hl, hm, hmm, _, hi⟩
  · exact ⟨[], .inl ⟨rfl, rfl⟩, rfl, by simp [maxLen], by simp⟩
  · have hlm : len ≤ m := by rw [hmm]; split <;> omega
    have key : ∀ i, i < len → ∃ q : α × List Value, Enc w (fun _ => False) (enc q.1) q.2 ∧ q.2.length = s ∧ wf q.1 ∧ ∀ j u, q.2[j]? = some u → w.cell? (a.add (i * s + j)) = some u := fun i hil => by
      obtain ⟨cs', h1, h2⟩ := hi i (by omega)
      obtain ⟨q, hq, hql, hqw⟩ := h H en w spare held n cs' _ h2
      refine ⟨⟨q, cs'⟩, hq, hql, hqw, fun j u hj => ?_⟩
      have := (cells_at h1).2 j u hj
      rwa [Go.Deep.add_add, hs] at this
    obtain ⟨l, hll, hlp⟩ := choose_list len key
    refine ⟨l.map (·.1), .inr ⟨a, cap, by simp [hll], by simpa [hll] using hl, hm, fun i => (l[i]?.map (·.2)).getD [], fun i hi => ?_⟩, rfl, by simp [hll]; omega, fun q hq => ?_⟩
    · have hi' : i < l.length := by simpa using hi
      obtain ⟨h1, h2, h3, h4⟩ := hlp i hi'
      simp only [List.getElem?_eq_getElem hi', Option.map_some, Option.getD_some, List.getElem_map]
      exact ⟨h1, h2, fun j u hj => ⟨h4 j u hj, fun hf => hf.elim⟩⟩
    · obtain ⟨y, hy, rfl⟩ := List.mem_map.1 hq
      obtain ⟨i, hi, rfl⟩ := List.getElem_of_mem hy
      exact (hlp i hi).2.2.1

theorem opens_array {n e : Nat} (ht : P.underlying t = some (.array n e)) (hs : P.cellsOf e = s) (hts : P.cellsOf t = n * s) (h : Opens P e s enc wf) : Opens P t (n * s) (fun l : List α => .vec n s enc l) (fun l => l.length = n ∧ ∀ a ∈ l, wf a) := by
  intro H en w spare held fuel cs x hx
  obtain ⟨xs, m, _, _, hcl, hxl, hi⟩ := DataW.trod_array ht hx
  have key : ∀ i, i < n → ∃ q : α, Enc w (fun _ => False) (enc q) ((cs.drop (i * s)).take s) ∧ ((cs.drop (i * s)).take s).length = s ∧ wf q := fun i hin => by
    have h1 := hi i hin
    rw [hs, List.getElem?_eq_getElem (by omega)] at h1
    exact h H en w spare held m _ _ h1
  obtain ⟨l, hll, hlp⟩ := choose_list n key
  refine ⟨l, ⟨hll, fun i => (cs.drop (i * s)).take s, fun i hi => ⟨(hlp i hi).1, (hlp i hi).2.1⟩, ?_⟩, by rw [hcl, hts], hll, fun q hq => ?_⟩
  · have hcat : ∀ k, k ≤ n → cat (fun i => (cs.drop (i * s)).take s) k = cs.take (k * s) := by
      intro k
      induction k with
      | zero => intro _; simp [cat]
      | succ k ih =>
        intro hk
        simp only [cat]
        rw [ih (by omega), Nat.add_mul, Nat.one_mul, List.take_add]
    rw [hcat n (Nat.le_refl _), ← hts, ← hcl, List.take_length]
  · obtain ⟨i, hi, rfl⟩ := List.getElem_of_mem hq
    exact (hlp i hi).2.2

theorem opensF_nil {off : Nat} : OpensF P [] off (fun _ : Unit => .nil) (fun _ => True) := by
  intro H en w spare held fuel cs _
  exact ⟨(), [], cs.drop off, rfl, rfl, trivial⟩

theorem opensF_cons {off : Nat} {g : Field} {gs : List Field} {enc' : β → D} {wf' : β → Prop} (ho : g.offset = off) (hs : P.cellsOf g.type = s) (h : Opens P g.type s enc wf) (hr : OpensF P gs (off + s) enc' wf') :
    OpensF P (g :: gs) off (fun q : α × β => .cons (enc q.1) (enc' q.2)) (fun q => wf q.1 ∧ wf' q.2) := by
  intro H en w spare held fuel cs hall
  obtain ⟨x, hx⟩ := hall g (by simp)
  obtain ⟨a, ha, hl, hw⟩ := h H en w spare held fuel _ _ hx
  obtain ⟨b, c, r, hc, hb, hwb⟩ := hr H en w spare held fuel cs (fun f hf => hall f (by simp [hf]))
  rw [hs, ho] at ha hl
  refine ⟨(a, b), (cs.drop off).take s ++ c, r, ?_, ⟨_, _, rfl, ha, hb⟩, hw, hwb⟩
  rw [List.append_assoc, ← hc, ← List.drop_drop, List.take_append_drop]

theorem opens_struct {gs : Array Field} (ht : P.underlying t = some (.struct gs)) (hs : P.cellsOf t = s) (hsz : ∀ a, (enc a).size = s) (h : OpensF P gs.toList 0 enc wf) : Opens P t s enc wf := by
  intro H en w spare held fuel cs x hx
  obtain ⟨xs, n, _, _, hcl, hxl, hf⟩ := DataW.trod_struct ht hx
  obtain ⟨a, c, r, hc, ha, hw⟩ := h H en w spare held n cs (fun f hfm => by
    obtain ⟨i, hi, rfl⟩ := List.getElem_of_mem hfm
    have hi' : i < gs.size := by simpa using hi
    have := hf i gs[i] (by simp [hi'])
    rw [List.getElem?_eq_getElem (by omega)] at this
    exact ⟨_, by simpa using this⟩)
  simp only [List.drop_zero] at hc
  have hl := Enc.len _ _ ha
  have : r = [] := List.eq_nil_of_length_eq_zero (by
    have : cs.length = c.length + r.length := by rw [hc]; simp
    rw [hsz] at hl
    omega)
  subst this
  rw [List.append_nil] at hc
  subst hc
  exact ⟨a, ha, by rw [hcl, hs], hw⟩

/-- A value of one cell, or of several, stands for the datum. -/
theorem Enc.relV {w : World} {X : Nat → Prop} {σ : Place} {d : D} {v : Value} (h : Enc w X d v.cells.toList) (hv : (∃ cs, v = .agg cs) ↔ d.isAgg = true) : RelV σ w X (.d d) v := by
  unfold RelV
  by_cases hd : d.isAgg = true
  · rw [if_pos (show (AV.d d).isAgg = true from hd)]
    obtain ⟨cs, rfl⟩ := hv.2 hd
    exact ⟨cs.toList, by simp, h⟩
  · rw [if_neg (show ¬ (AV.d d).isAgg = true from hd)]
    have : v.cells = #[v] := by
      cases v <;> first | rfl | exact absurd (hv.1 ⟨_, rfl⟩) hd
    rw [this] at h
    exact h

/-- How the call of a law begins. -/
def lawCtx (W : World) : Ctx := ⟨W.heap.size, W, fun _ => False, fun _ => False, 64, fun _ => none, none⟩

def AllRel (W : World) : List AV → List Value → Prop
  | [], vs => vs = []
  | d :: ds, vs => ∃ v us, vs = v :: us ∧ (RelV (fun _ => none) W (fun _ => False) d v ∧ d.within fun _ => False) ∧ AllRel W ds us

theorem AllRel.len {W : World} : ∀ (ds : List AV) (vs : List Value), AllRel W ds vs → vs.length = ds.length
  | [], vs, h => by obtain rfl : vs = [] := h; rfl
  | d :: ds, vs, h => by obtain ⟨v, us, rfl, _, h2⟩ := h; simp [AllRel.len ds us h2]

theorem AllRel.at {W : World} : ∀ (ds : List AV) (vs : List Value) (k : Nat), AllRel W ds vs → ∀ i v, lk (avEnv k ds) i = some v → ∃ j u, i = k + j ∧ vs[j]? = some u ∧ RelV (fun _ => none) W (fun _ => False) v u ∧ v.within fun _ => False
  | [], vs, k, _, i, v, h => by simp [avEnv, lk] at h
  | d :: ds, vs, k, ha, i, v, h => by
    obtain ⟨u, us, rfl, h1, h2⟩ := ha
    simp only [avEnv, lk_cons] at h
    split at h
    · rename_i e
      subst e
      simp only [Option.some.injEq] at h
      subst h
      exact ⟨0, u, rfl, rfl, h1⟩
    · obtain ⟨j, u', rfl, h3, h4⟩ := AllRel.at ds us (k + 1) h2 i v h
      exact ⟨j + 1, u', by omega, by simpa using h3, h4⟩

/-- A law whose walk is done: it returns true, and nothing old has turned. -/
theorem law_calls {f : FuncId} {avs : List AV} {rows : List (Nat × Row)} {W : World} {args : Array Value} {v0 : Value} (h : FnIs P f avs [] (.d (.sc v0)) rows) (ha : AllRel W avs args.toList) : Calls P f args W fun e W' => e = .returned v0 ∧ Below W.heap.size W W' := by
  have hst : StRel (lawCtx W) (fun r => r < 64) (inSt avs []) (fun _ => none) W ⟨args, []⟩ :=
    { env := fun i v hi => by
        obtain ⟨j, u, rfl, h1, h2, _⟩ := AllRel.at avs args.toList 0 ha i v hi
        refine ⟨u, by simpa using h1, RelV.mono (G := fun _ => False) (fun _ h => h.elim) (fun _ _ h3 h4 => ⟨h3, fun hx => ?_⟩) (by assumption) h2⟩
        rcases hx with hx | ⟨r, row, c, h5, _⟩
        · exact hx
        · simp [inSt, someRows, St.row, lk] at h5
      envG := fun i v hi => by
        obtain ⟨j, u, rfl, h1, h2, h3⟩ := AllRel.at avs args.toList 0 ha i v hi
        exact AV.within.mono (fun _ h => h.elim) v h3
      rows := fun r row hr => by simp [inSt, someRows, St.row, lk] at hr
      rowsG := fun r row hr => by simp [inSt, someRows, St.row, lk] at hr
      inj := fun r r' row row' b c c' hr => by simp [inSt, someRows, St.row, lk] at hr
      high := fun r row b c hr => by simp [inSt, someRows, St.row, lk] at hr
      size := Nat.le_refl _
      below := BelowM.refl _ _ _
      defers := trivial
      sz := by have := AllRel.len avs args.toList ha; simpa [inSt] using this
      x0 := fun b hb => hb.elim
      agree := fun _ _ => rfl
      baseG := fun r hr => hr
      bs := rfl
      rok := fun _ h => (by cases h) }
  have hc := h.2 (lawCtx W) (fun _ => none) W args.toList rfl rfl rfl rfl rfl (by simpa using hst)
  simp only [Array.toArray_toList] at hc
  refine hc.mono ?_
  rintro e W' ⟨v, σ', rfl, h2⟩
  obtain ⟨u, hu, hr⟩ := h2.env 0 _ rfl
  obtain ⟨rfl, _⟩ := RelV.sc.1 hr
  simp only [List.getElem?_toArray, List.getElem?_cons_zero, Option.some.injEq] at hu
  subst hu
  have hb := h2.below
  exact ⟨rfl, ⟨hb.os, hb.tape, hb.output, hb.size, fun k hk => hb.block k hk (fun hf => hf)⟩⟩

end
end Go.Eng

/- A region that parts and meets again. -/
namespace Go.Eng
open Go.RowKit

theorem AV.ren_id : ∀ (v : AV), v.ren (rho []) = v := by
  intro v
  induction v with
  | acons a r iha ihr => simp only [AV.ren, iha, ihr]
  | fn f p q ihp ihq => simp only [AV.ren, ihp, ihq]
  | tup q ih => simp only [AV.ren, ih]
  | _ => rfl

theorem Row.ren_id : ∀ (row : Row), row.ren (rho []) = row := by
  intro row
  cases row with
  | box t a => simp only [Row.ren, AV.ren_id]
  | ds => rfl
  | lits t s k ex a => simp only [Row.ren, AV.ren_id]
  | mo a => simp only [Row.ren, AV.ren_id]

def envLt (n : Nat) : Env → Bool
  | [] => true
  | (_, v) :: l => bif v.lt n then envLt n l else false

def rowsLt (n : Nat) : Upds → Bool
  | [] => true
  | (r, some row) :: l => bif Nat.blt r n then (bif row.lt n then rowsLt n l else false) else false
  | (_, none) :: l => rowsLt n l

theorem injOn_id : ∀ (l : List Nat), injOn (rho []) l = true
  | [] => rfl
  | r :: l => by
    simp only [injOn, injOn_id l, cond_true]
    simp only [rho, Bool.not_eq_true', List.any_eq_false]
    intro j _
    cases h : Nat.beq j r <;> simp [h]

theorem envLt_out {n : Nat} : ∀ (l : Env), envLt n l = true → ∀ i v, lk l i = some v → v.lt n = true
  | [], _, i, v, h => by simp [lk] at h
  | (j, u) :: l, h, i, v, hi => by
    simp only [envLt] at h
    cases h1 : u.lt n <;> rw [h1] at h <;> simp only [cond_true, cond_false, Bool.false_eq_true] at h
    rw [lk_cons] at hi
    split at hi
    · simp only [Option.some.injEq] at hi; rw [← hi]; exact h1
    · exact envLt_out l h i v hi

theorem rowsLt_out {n : Nat} : ∀ (l : Upds), rowsLt n l = true → ∀ r row, lk l r = some (some row) → r < n ∧ row.lt n = true
  | [], _, i, v, h => by simp [lk] at h
  | (j, none) :: l, h, r, row, hi => by
    rw [lk_cons] at hi
    split at hi
    · cases hi
    · exact rowsLt_out l h r row hi
  | (j, some u) :: l, h, r, row, hi => by
    simp only [rowsLt] at h
    cases h0 : Nat.blt j n <;> rw [h0] at h <;> simp only [cond_true, cond_false, Bool.false_eq_true] at h
    cases h1 : u.lt n <;> rw [h1] at h <;> simp only [cond_true, cond_false, Bool.false_eq_true] at h
    rw [lk_cons] at hi
    split at hi
    · rename_i e
      simp only [Option.some.injEq] at hi
      subst e
      exact ⟨Nat.le_of_ble_eq_true h0, hi ▸ h1⟩
    · exact rowsLt_out l h r row hi

/-- The end of one of the ways: the temporary d is v, and what was known before is known. -/
def CutK (d : Nat) (v : AV) (env0 : Env) (h0 : Upds) (N sz : Nat) (env : Env) (h : Upds) (n : Nat) : Prop :=
  n = N ∧ Le [] ⟨env, h, n, sz, 64⟩ ⟨(d, v) :: env0, h0, N, sz, 64⟩

section
variable {P : Program} {sz n : Nat} {Q : Exit → St → Prop} {env : Env} {h : Upds}

theorem reg_cut {all : List Oper} {d N : Nat} {v x : AV} {env0 : Env} {h0 : Upds} (k : Nat) (hn : n = N) (hk : env.drop k = env0) (hf : disjB (keysOf (env.take k)) (keysOf (env.drop k)) = true) (hh : h = h0)
    (hlt : envLt N env0 = true) (hrl : rowsLt N h0 = true) (hN : Nat.ble 64 N = true) (hvl : v.lt N = true) (hx : lk env d = some x) (hv : AVLe x v) : RegS P all sz [] n env h (CutK d v env0 h0 N sz) := by
  subst hn
  subst hk
  subst hh
  refine reg_end ⟨rfl, ⟨injOn_id _, rfl, rfl, hN, rfl, fun i u hi => ?_, fun r row hr => ?_⟩⟩
  · rw [lk_cons] at hi
    split at hi
    · rename_i e
      subst e
      simp only [Option.some.injEq] at hi
      subst hi
      exact ⟨⟨x, hx, by rw [AV.ren_id]; exact hv⟩, hvl⟩
    · have hkey := lk_keys _ i u hi
      refine ⟨⟨u, ?_, AVLe.of_eq (AV.ren_id u).symm⟩, envLt_out _ hlt i u hi⟩
      show lk env i = some u
      have : env = env.take k ++ env.drop k := (List.take_append_drop k env).symm
      rw [this, lk_append]
      cases hx : lk (env.take k) i with
      | none => exact hi
      | some y => exact absurd hkey (disjB_out hf i (lk_keys _ i y hx))
  · have hr' : lk h r = some (some row) := by
      cases hl : lk h r with
      | none => simp [hl] at hr
      | some y => cases y <;> simp [hl] at hr ⊢; exact hr
    obtain ⟨h1, h2⟩ := rowsLt_out _ hrl r row hr'
    exact ⟨h1, h2, row, by simp [St.row, hr'], RowLe.of_eq (Row.ren_id row).symm⟩

/-- A region whose ways meet again: of its temporaries, d alone is used behind it. -/
theorem wc_seq_cut {id : Nat} {ops : Array Oper} {rest : Code} (d : Nat) (v : AV) (N : Nat) (hN : n + 8 * ops.size = N) (h1 : RegS P ops.toList sz ops.toList n env h (CutK d v env h N sz)) (h2 : WC P sz rest Q ((d, v) :: env) h N) :
    WC P sz (.seq (.region id ops false) rest) Q env h n := by
  refine wc_seq ?_
  intro C σ w a hst
  refine wpIn_region_list ?_
  have := h1 C σ w a hst (Lift C (SeqQ P rest Q)) fun env' h' n' σ w a hk hst' => ?_
  · simpa using this
  · obtain ⟨rfl, hle⟩ := hk
    exact ⟨⟨(d, v) :: env, h, n', sz, 64⟩, _, h2, hst'.le hle⟩
end
end Go.Eng

/- append onto a slice that the function owns. -/
namespace Go.Eng
open Go.RowKit
section
variable {C : Ctx} {w w' : World} {G : Nat → Prop} {st : St} {σ : Place} {a : Act}

theorem St.row_two (st : St) (n r : Nat) (row : Option Row) (q : Nat) : (st.upd [(n, row), (r, none)]).row q = if n = q then row else if r = q then none else st.row q := by
  simp only [St.upd, St.row, List.cons_append, List.nil_append, lk_cons]
  split
  · simp
  · split
    · simp
    · rfl

/-- A row is given up for a new one, in its block or in a new block. -/
theorem StRel.swap (h : StRel C G st σ w a) {n r : Nat} (hn : ¬ G n) {old : Row} (hr : st.row r = some old) (hg : w.grownBy w' ((σ r).map (·.1))) {b c : Nat} (hb : (∃ c0, σ r = some (b, c0)) ∨ w.heap.size ≤ b) (row : Row) (hw : row.within G)
    (hrow : ∀ (σ' : Place) (X' : Nat → Prop), (∀ (x : AV) (m : Bool) (l : List Value), x.within G → Rel σ w (st.X C.X0 σ) x m l → Rel σ' w' X' x m l) → (∀ (x : D) (l : List Value), Enc w (st.X C.X0 σ) x l → Enc w' X' x l) →
      σ' n = some (b, c) → RowRel σ' w' X' n row) :
    StRel C (fun q => G q ∨ q = n) (st.upd [(n, some row), (r, none)]) (fun q => if q = n then some (b, c) else σ q) w' a := by
  have hGr := (h.rowsG r _ hr).1
  have hnr : n ≠ r := fun e => hn (e ▸ hGr)
  have hne : ∀ q, G q → q ≠ n := fun q hq e => hn (e ▸ hq)
  have hold : ∀ q row', st.row q = some row' → ∀ b c', σ q = some (b, c') → b < w.heap.size := fun q row' hq b c' hs => h.lt hq hs
  have hsame : ∀ q row', st.row q = some row' → q ≠ r → ∀ b1 c1, σ q = some (b1, c1) → w'.heap[b1]? = w.heap[b1]? := by
    intro q row' hq hqr b1 c1 hs
    refine hg.block b1 (hold _ _ hq _ _ hs) fun e => ?_
    cases hsr : σ r with
    | none => rw [hsr] at e; cases e
    | some p =>
      rw [hsr] at e
      simp only [Option.map_some, Option.some.injEq] at e
      obtain ⟨b2, c2⟩ := p
      simp only at e
      subst e
      exact hqr (h.inj _ _ _ _ _ _ _ hq hr hs hsr)
  have hX : ∀ q, (st.upd [(n, some row), (r, none)]).X C.X0 (fun q => if q = n then some (b, c) else σ q) q → st.X C.X0 σ q ∨ w.heap.size ≤ q := by
    rintro q (hx0 | ⟨r1, row1, c1, h1, h2⟩)
    · exact .inl (.inl hx0)
    rw [St.row_two] at h1
    by_cases e : r1 = n
    · subst e
      simp only [if_true, Option.some.injEq, Prod.mk.injEq] at h2
      rw [← h2.1]
      rcases hb with ⟨c0, hb⟩ | hb
      · exact .inl (.inr ⟨r, old, c0, hr, hb⟩)
      · exact .inr hb
    · rw [if_neg (Ne.symm e)] at h1
      simp only [if_neg e] at h2
      split at h1
      · cases h1
      · exact .inl (.inr ⟨r1, row1, c1, h1, h2⟩)
  have hσ : ∀ q, G q → ((fun q => if q = n then some (b, c) else σ q) : Place) q = σ q := fun q hq => by simp [hne q hq]
  have hk : ∀ (a : Addr) (u : Value), w.cell? a = some u → ¬ st.X C.X0 σ a.block → w'.cell? a = some u ∧ ¬ (st.upd [(n, some row), (r, none)]).X C.X0 (fun q => if q = n then some (b, c) else σ q) a.block := by
    intro a u h1 h2
    have hlt := World.block_lt_of_cell? w a h1
    refine ⟨?_, fun hx => ?_⟩
    · rw [World.cell?_of_block (hg.block _ hlt fun e => ?_)]
      · exact h1
      cases hsr : σ r with
      | none => rw [hsr] at e; cases e
      | some p =>
        rw [hsr] at e
        simp only [Option.map_some, Option.some.injEq] at e
        exact h2 (.inr ⟨r, old, p.2, hr, by rw [hsr, e]⟩)
    · rcases hX _ hx with hx | hx
      · exact h2 hx
      · omega
  refine h.core (fun r hr => .inl hr) hσ hk rfl rfl rfl ?_ ?_ ?_ (Nat.le_trans h.size hg.size) ?_
  · intro q row' hq
    rw [St.row_two] at hq
    split at hq
    · rename_i e
      subst e
      simp only [Option.some.injEq] at hq
      subst hq
      refine .inr ⟨.inr rfl, ?_, hrow _ _ (fun x m l hx => Rel.mono hσ hk x m l hx) (fun x l => Enc.mono hk x l) (by simp)⟩
      cases row with
      | box t x => exact AV.within.mono (fun r hr => .inl hr) x hw
      | ds => trivial
      | lits t s k ex x => exact AV.within.mono (fun r hr => .inl hr) x hw
      | mo x => exact AV.within.mono (fun r hr => .inl hr) x hw
    · split at hq
      · cases hq
      · rename_i e1 e2
        exact .inl ⟨hq, fun b1 c1 hs => hsame _ _ hq (Ne.symm e2) _ _ hs⟩
  · intro r1 r2 row1 row2 b1 c1 c2 h1 h2 h3 h4
    rw [St.row_two] at h1 h2
    have key : ∀ q row1 c1, q ≠ n → (if n = q then some row else if r = q then none else st.row q) = some row1 → σ q = some (b, c1) → False := by
      intro q row1 c1 hq h1 h3
      rw [if_neg (Ne.symm hq)] at h1
      split at h1
      · cases h1
      · rename_i e
        rcases hb with ⟨c0, hb⟩ | hb
        · exact e (h.inj _ _ _ _ _ _ _ hr h1 hb h3)
        · have := hold _ _ h1 _ _ h3; omega
    by_cases e1 : r1 = n <;> by_cases e2 : r2 = n
    · rw [e1, e2]
    · simp only [e1, if_true, Option.some.injEq, Prod.mk.injEq] at h3
      simp only [if_neg e2] at h4
      rw [← h3.1] at h4
      exact (key _ _ _ e2 h2 h4).elim
    · simp only [e2, if_true, Option.some.injEq, Prod.mk.injEq] at h4
      simp only [if_neg e1] at h3
      rw [← h4.1] at h3
      exact (key _ _ _ e1 h1 h3).elim
    · rw [if_neg (Ne.symm e1)] at h1
      rw [if_neg (Ne.symm e2)] at h2
      simp only [if_neg e1] at h3
      simp only [if_neg e2] at h4
      split at h1 <;> try (cases h1; done)
      split at h2 <;> try (cases h2; done)
      exact h.inj _ _ _ _ _ _ _ h1 h2 h3 h4
  · intro r1 row1 b1 c1 h1 h2
    rw [St.row_two] at h1
    by_cases e : r1 = n
    · simp only [e, if_true, Option.some.injEq, Prod.mk.injEq] at h2
      rw [← h2.1]
      rcases hb with ⟨c0, hb⟩ | hb
      · exact h.high _ _ _ _ hr hb
      · have := h.size
        exact .inl (by omega)
    · rw [if_neg (Ne.symm e)] at h1
      simp only [if_neg e] at h2
      split at h1
      · cases h1
      · exact h.high _ _ _ _ h1 h2
  · refine ⟨hg.os, hg.tape, hg.output, hg.size, fun k hk' hm => ?_, fun k o ho hbk => ?_⟩
    rotate_left
    · refine (hg.block k (Array.getElem?_eq_some_iff.1 ho).1 fun e => ?_).trans ho
      cases hsr : σ r with
      | none => rw [hsr] at e; cases e
      | some p =>
        obtain ⟨b2, c2⟩ := p
        rw [hsr] at e
        simp only [Option.map_some, Option.some.injEq] at e
        subst e
        obtain ⟨o', hc, hnb⟩ := h.cells hr hsr
        rw [ho] at hc
        cases hc
        rw [hbk] at hnb
        cases hnb
    have hsz := h.size
    refine hg.block k (by omega) fun e => ?_
    cases hsr : σ r with
    | none => rw [hsr] at e; cases e
    | some p =>
      rw [hsr] at e
      simp only [Option.map_some, Option.some.injEq] at e
      rcases h.high r old p.1 p.2 hr hsr with h1 | h1
      · omega
      · exact hm (e ▸ h1)

end

theorem grown_fresh (w : World) (o : Obj) (row : Option Nat) : w.grownBy (w.drew.alloc o) row := ⟨rfl, rfl, rfl, by simp, fun k hk _ => heap_alloc_old w.drew _ hk⟩

section
variable {P : Program} {T : Tab} {sz : Nat} {env : Env} {h : Upds} {n : Nat}

/-- A slice whose elements stand in memory, ready to be taken over. -/
def SrcIs {α : Type} (s : Nat) (enc : α → D) (ys : List α) (w : World) (X : Nat → Prop) (u : Value) : Prop :=
  ∃ (ad : Addr) (c : Nat) (f : Nat → List Value), u = .slice (some ad) ys.length c ∧ (∀ i (h : i < ys.length), Enc w X (enc ys[i]) (f i) ∧ (f i).length = s) ∧ ∀ j v, (cat f ys.length)[j]? = some v → w.cell? (ad.add j) = some v

theorem join_cells {α : Type} {s : Nat} {enc : α → D} {w : World} {X : Nat → Prop} {xs ys : List α} {f g : Nat → List Value} (hf : ∀ i (h : i < xs.length), Enc w X (enc xs[i]) (f i) ∧ (f i).length = s) (hg : ∀ i (h : i < ys.length), Enc w X (enc ys[i]) (g i) ∧ (g i).length = s) :
    ∃ F : Nat → List Value, (∀ i (h : i < (xs ++ ys).length), Enc w X (enc (xs ++ ys)[i]) (F i) ∧ (F i).length = s) ∧ cat F (xs ++ ys).length = cat f xs.length ++ cat g ys.length := by
  refine ⟨fun i => if i < xs.length then f i else g (i - xs.length), fun i hi => ?_, ?_⟩
  · by_cases hlt : i < xs.length
    · simp only [if_pos hlt, List.getElem_append_left hlt]; exact hf i hlt
    · simp only [if_neg hlt]
      rw [List.getElem_append_right (by omega)]
      exact hg _ (by simp at hi; omega)
  · rw [List.length_append, cat_add]
    congr 1
    · exact cat_congr _ fun i hi => by simp [hi]
    · exact cat_congr _ fun i hi => by simp [show ¬ (xs.length + i < xs.length) by omega]

theorem append_core (hT : TabOk P T) {t ty e r : Nat} {re : TyR} {s : Nat} {ex : Bool} {α : Type} {enc : α → D} {xs ys : List α} {x y : Operand} {v : AV} (ht : tdesc T t = some (.slice e)) (he : lk T e = some re) (hs : re.size = s) (hs0 : 0 < s)
    (hx : evalA env x = some (.own r 0 xs.length s none)) (hrow : lookH h r = some (.ds e s ex enc xs)) (hy : evalA env y = some v) (hys : 0 < ys.length) (hlen : xs.length + ys.length ≤ maxLen) (hbytes : (xs.length + ys.length) * re.bytes ≤ 140737488355328)
    (hsrc : ∀ (C : Ctx) (G : Nat → Prop) (st : St) (σ : Place) (w : World) (a : Act), Agree env h st → StRel C G st σ w a → SrcIs s enc ys w (st.X C.X0 σ) (a.eval y)) :
    StepIs P (.call { callee := .builtin .append, args := #[x, y], argTypes := #[t, t] }) env h n (some (.own n 0 (xs.length + ys.length) s none)) [(n, some (.ds e s false enc (xs ++ ys))), (r, none)] := .of_comes fun C G st σ w a o ho hA hd hst hn => by
  obtain ⟨hx1, hx2⟩ := ev_sound hst (hA.ev hx)
  obtain ⟨ad, c1, g, hu, hg, hgc⟩ := hsrc C G st σ w a hA hst
  have hr := hA.row _ _ hrow
  obtain ⟨i, z, hi, hi1, hi2, hi3, hi4⟩ := (hT e re he).info
  obtain ⟨ud, hud, hdd⟩ := tdesc_und hT ht
  cases hdd
  have hz : z.cells.size = s := by
    have h1 := Enc.len _ _ (Enc.closed w (fun _ => False) _ (hT e re he).zero)
    rw [hi4] at h1
    simpa [(hT e re he).zsize, hs] using h1
  have hnn : ¬ G n := hn n (Nat.le_refl _) (by omega)
  have hgl : (cat g ys.length).length = ys.length * s := cat_len _ fun i hi => (hg i hi).2
  have fin : ∀ (b c : Nat) (cur : Array Value) (w' : World), (∃ c0, σ r = some (b, c0)) ∨ w.heap.size ≤ b → w.grownBy w' ((σ r).map (·.1)) → w'.heap[b]? = some (.cells cur e (0, 0)) → cur.size = c * s → xs.length + ys.length ≤ c → c ≤ maxLen →
      (∃ f : Nat → List Value, (∀ i (h : i < xs.length), Enc w (st.X C.X0 σ) (enc xs[i]) (f i) ∧ (f i).length = s) ∧ cur.toList.take ((xs.length + ys.length) * s) = cat f xs.length ++ cat g ys.length) →
      (Builtin.append_ #[t, t] o.type #[a.eval x, a.eval y]).run P w = .ok (.slice (some ⟨b, 0, none⟩) (xs.length + ys.length) c) w' →
      Comes1 P C G st n o a w (fun v' u' => v' = some (.own n 0 (xs.length + ys.length) s none) ∧ u' = [(n, some (.ds e s false enc (xs ++ ys))), (r, none)]) := by
    rintro b c cur w' hb hgr hh hcs hle hcm ⟨f, hf, htk⟩ hrun
    obtain ⟨F, hF, hFc⟩ := join_cells hf hg
    have hsw := hst.swap hnn hr hgr (c := c) hb (.ds e s false enc (xs ++ ys)) trivial (fun σ' X' hk1 hk2 hσn => by
      refine .inr ⟨b, c, cur, hσn, (fun e => nomatch e), hh, hcs, by simpa using hle, hcm, F, fun i hi => ⟨hk2 _ _ (hF i hi).1, (hF i hi).2⟩, ?_⟩
      rw [List.length_append, htk, ← hFc, List.length_append])
    have hval : RelV (fun q => if q = n then some (b, c) else σ q) w' ((st.upd [(n, some (.ds e s false enc (xs ++ ys))), (r, none)]).X C.X0 (fun q => if q = n then some (b, c) else σ q)) (.own n 0 (xs.length + ys.length) s none) (.slice (some ⟨b, 0, none⟩) (xs.length + ys.length) c) :=
      RelV.own.2 (.inr ⟨b, c, ⟨b, 0, none⟩, by simp, by simp, by simpa using hle, by simp, by simpa using hle, fun _ => by simp⟩)
    refine ⟨_, _, .value (.slice (some ⟨b, 0, none⟩) (xs.length + ys.length) c), _, w', _, fun q => G q ∨ q = n, ⟨rfl, rfl⟩, ?_, .inl rfl, by rw [St.put_upd]; exact hsw.set hd hval (.inr rfl), fun r hr => Or.inl hr, fun r hr => Or.imp id (fun h => ⟨by omega, by omega⟩) hr⟩
    simp [execOp, ho, resolve, invoke, builtin, hrun]
  have h63 : ¬ (9223372036854775807 < xs.length + ys.length) := by simp only [maxLen] at hlen; omega
  rcases hst.rows r _ hr with ⟨hσ, hxs⟩ | ⟨b, c, cur, hσ, _, hh, hcs, hle, hcm, f, hf, htk⟩
  · rcases RelV.own.1 hx1 with ⟨_, _, _, _, hv⟩ | ⟨b, c, _, hσ', _⟩
    · subst hxs
      have hrun := run_append_nil (P := P) w t o.type e i z hud hi hi3 ad ys.length c1 (cat g ys.length) (by rw [hgl, hi1, hs]) hgc hys (by omega) (by rw [hi2]; simp at hbytes; omega)
      refine fin w.heap.size (grownCap w ys.length 0 e) ((cat g ys.length).toArray ++ Builtin.zeroCells z.cells (grownCap w ys.length 0 e - ys.length)) _ (.inr (Nat.le_refl _)) (grown_fresh w _ _) (heap_alloc_new w.drew _) ?_ ?_ (grownCap_le_maxLen w ys.length 0 e (by simpa using hlen)) ⟨g, fun i hi => by simp at hi, ?_⟩ (by rw [hv, hu, hrun]; simp)
      · have hge := grownCap_ge w ys.length 0 e
        simp only [Array.size_append, List.size_toArray, size_zeroCells, hz, hgl, ← Nat.add_mul]
        congr 1; omega
      · simpa using grownCap_ge w ys.length 0 e
      · simp only [Array.toList_append, List.length_nil, Nat.zero_add, cat, List.nil_append]
        rw [← hgl]
        exact List.take_left
    · rw [hσ] at hσ'; cases hσ'
  · rcases RelV.own.1 hx1 with ⟨hσ', _⟩ | ⟨b', c', a', hσ', hv, _, _, hlec, had⟩
    · rw [hσ] at hσ'; cases hσ'
    · rw [hσ] at hσ'
      cases hσ'
      simp only [Option.getD_none, Nat.sub_zero] at hv hlec
      have hfl : (cat f xs.length).length = xs.length * s := cat_len _ fun i hi => (hf i hi).2
      by_cases hroom : xs.length + ys.length ≤ c
      · have : a' = ⟨b, 0, none⟩ := by have := had (by omega); simpa using this
        subst this
        have hrun := run_append_room (P := P) w t o.type e i hud hi b xs.length c cur hh ad ys.length c1 (cat g ys.length) (by rw [hgl, hi1, hs]) hgc (fun u hu => by
          obtain ⟨k, hk, hu⟩ := cat_mem _ hu
          exact Enc.one _ _ (hg k hk).1 u hu) hroom (by rw [hgl, hi1, hs, hcs, ← Nat.add_mul]; exact Nat.mul_le_mul_right _ hroom)
        refine fin b c _ _ (.inl ⟨c, hσ⟩) ?_ (setRow_heap w b cur _ e _ hh) ?_ hroom hcm ⟨f, hf, ?_⟩ (by rw [hv, hu, hrun])
        · exact ⟨rfl, rfl, rfl, by simp, fun k _ hk => setRow_other w b k _ (fun e => hk (by rw [hσ]; simp [e]))⟩
        · have hm := Nat.mul_le_mul_right s hroom
          rw [Nat.add_mul] at hm
          simp only [List.size_toArray, List.length_append, List.length_take, List.length_drop, Array.length_toList, hi1, hs, hgl, hcs]
          omega
        · rw [hi1, hs, htk, List.append_assoc, ← List.append_assoc]
          have : (xs.length + ys.length) * s = (cat f xs.length ++ cat g ys.length).length := by rw [List.length_append, hfl, hgl, Nat.add_mul]
          rw [this]
          exact List.take_left
      · have hrun := run_append_grow (P := P) w t o.type e i z hud hi hi3 a' xs.length c (cat f xs.length) (by rw [hfl, hi1, hs]) (fun j u hj => by
          have hjl : j < xs.length * s := by rw [← hfl]; exact (List.getElem?_eq_some_iff.1 hj).1
          have hc0 : 0 < c := by
            rcases Nat.eq_zero_or_pos c with rfl | h1
            · have : xs.length = 0 := by omega
              rw [this] at hjl; omega
            · exact h1
          have : a' = ⟨b, 0, none⟩ := by have := had hc0; simpa using this
          subst this
          rw [add_mk, cell_of_row w b _ cur e (0, 0) hh]
          rw [← htk, List.getElem?_take, if_pos hjl] at hj
          rw [Nat.zero_add, ← Array.getElem?_toList]
          exact hj) ad ys.length c1 (cat g ys.length) (by rw [hgl, hi1, hs]) hgc (by omega) (by omega) (growslice_fits (by omega) (by rw [hi2]; exact hbytes))
        refine fin w.heap.size _ _ _ (.inr (Nat.le_refl _)) (grown_fresh w _ _) (heap_alloc_new w.drew _) ?_ (grownCap_ge w _ c e) (grownCap_le_maxLen w _ c e hlen) ⟨f, hf, ?_⟩ (by rw [hv, hu, hrun])
        · have hge := grownCap_ge w (xs.length + ys.length) c e
          simp only [Array.size_append, List.size_toArray, size_zeroCells, hz, hgl, hfl, ← Nat.add_mul]
          congr 1; omega
        · simp only [Array.toList_append]
          have : (xs.length + ys.length) * s = (cat f xs.length ++ cat g ys.length).length := by rw [List.length_append, hfl, hgl, Nat.add_mul]
          rw [this]
          exact List.take_left

end
end Go.Eng

/- Slices that are built of their elements; what append takes over. -/
namespace Go.Eng
open Go.RowKit

/-- n zero values. -/
def zerosAV (z : D) : Nat → AV
  | 0 => .anil
  | n + 1 => .acons (.d z) (zerosAV z n)

def offsOf (s e : Nat) : Nat → Nat → List (Nat × Nat)
  | _, 0 => []
  | i, n + 1 => (i * s, e) :: offsOf s e (i + 1) n

theorem offsOf_at {s e : Nat} : ∀ (n i k o t : Nat), (offsOf s e i n)[k]? = some (o, t) → o = (i + k) * s ∧ t = e ∧ k < n
  | 0, i, k, o, t, h => by simp [offsOf] at h
  | n + 1, i, 0, o, t, h => by
    simp only [offsOf, List.getElem?_cons_zero, Option.some.injEq, Prod.mk.injEq] at h
    exact ⟨by rw [← h.1]; rfl, h.2.symm, by omega⟩
  | n + 1, i, k + 1, o, t, h => by
    obtain ⟨h1, h2, h3⟩ := offsOf_at n (i + 1) k o t (by simpa [offsOf] using h)
    exact ⟨by rw [h1]; congr 1; omega, h2, by omega⟩

theorem zeros_rel {σ : Place} {w : World} {X : Nat → Prop} {z : D} {L : List Value} (h : Enc w X z L) : ∀ n, Rel σ w X (zerosAV z n) false (List.replicate n L).flatten
  | 0 => rfl
  | n + 1 => ⟨L, (List.replicate n L).flatten, by simp [List.replicate_succ], h, zeros_rel h n⟩

theorem zeros_flat {z : D} : ∀ n, (zerosAV z n).flat = true
  | 0 => rfl
  | n + 1 => by simp only [zerosAV, AV.flat, cond_true]; exact zeros_flat n

theorem zeros_within {z : D} {G : Nat → Prop} : ∀ n, (zerosAV z n).within G
  | 0 => trivial
  | n + 1 => ⟨trivial, zeros_within n⟩

theorem made_cells (L : List Value) (hL : 0 < L.length) (n : Nat) : ((Array.range (n * L.length)).map (fun i => L.toArray[i % L.toArray.size]!)).toList = (List.replicate n L).flatten := by
  induction n with
  | zero => simp
  | succ n ih =>
    have h1 : (List.replicate (n + 1) L).flatten = (List.replicate n L).flatten ++ L := by
      rw [List.replicate_succ']; simp
    rw [h1, ← ih]
    simp only [Array.toList_map, Array.toList_range]
    rw [Nat.add_mul, Nat.one_mul, List.range_add, List.map_append]
    congr 1
    apply List.ext_getElem
    · simp
    · intro i h2 h3
      have hi : i < L.length := by simpa using h2
      simp only [List.getElem_map, List.getElem_range, List.size_toArray]
      rw [Nat.mul_comm, Nat.mul_add_mod, Nat.mod_eq_of_lt hi]
      simp [hi]

section
variable {P : Program} {T : Tab} {sz : Nat} {env : Env} {h : Upds} {n : Nat}

theorem build_slice (hT : TabOk P T) {t e len : Nat} {re : TyR} {parts : Array (Nat × Operand)} {s : Nat} {q : AV} (ht : tdesc T t = some (.slice e)) (he : lk T e = some re) (hs : re.size = s) (hs0 : Nat.blt 0 s = true) (hn0 : Nat.ble 1 len = true) (hlen : Nat.ble (len * s) 16777216 = true)
    (hq : buildF T (offsOf s e 0 len) (evalA env) parts.toList (zerosAV re.zero len) = some q) (hqs : Nat.beq q.size (len * s) = true) :
    StepIs P (.buildSlice t len parts) env h n (some (.own n 0 len s none)) [(n, some (.lits e s len true q))] := .of_comes fun C G st σ w a o ho hA hdst hst hn => by
  obtain ⟨ud, hud, hdd⟩ := tdesc_und hT ht
  cases hdd
  have hs0 := Nat.le_of_ble_eq_true hs0
  have hn0 := Nat.le_of_ble_eq_true hn0
  have hlen := Nat.le_of_ble_eq_true hlen
  have hqs := Nat.eq_of_beq_eq_true hqs
  obtain ⟨z, hz, hzc⟩ := (hT e re he).run_zero w
  have hzl : z.cells.toList.length = s := by
    have h1 := Enc.len _ _ (Enc.closed w (fun _ => False) _ (hT e re he).zero)
    rw [hzc, (hT e re he).zsize, hs] at h1
    exact h1
  have henc : Enc w (st.X C.X0 σ) re.zero z.cells.toList := by rw [← hzc]; exact Enc.closed _ _ _ (hT e re he).zero
  obtain ⟨cs', hfill, h1, h2, h3⟩ := buildF_sound hT hst hA (pl := fun i => some (i * s, s)) (fun k o t' r' ho hr' => by
    obtain ⟨h4, h5, _⟩ := offsOf_at len 0 k o t' ho
    subst h5
    rw [he] at hr'
    cases hr'
    rw [h4, hs, Nat.zero_add]) parts.toList (zerosAV re.zero len) q _ hq (zeros_flat len) (zeros_within len) (zeros_rel henc len)
  have hcl : cs'.length = len * s := by rw [Rel.len _ _ h2 h1, hqs]
  have hnn : ¬ G n := hn n (Nat.le_refl _) (by omega)
  obtain ⟨hst', hσn⟩ := hst.new hnn cs'.toArray e len (.lits e s len true q) h3 (fun σ' w' X' hk1 hk2 hσn hh => by
    refine ⟨h2, .inr ⟨w.heap.size, len, cs'.toArray, cs', hσn, fun _ => rfl, hh, by simp [hcl], Nat.le_refl _, ?_, hcl, hk1 _ _ _ h3 h1, by simp [← hcl]⟩⟩
    have : len ≤ len * s := Nat.le_mul_of_pos_right _ hs0
    simp only [maxLen]; omega)
  refine ⟨_, _, .value (.slice (some ⟨w.heap.size, 0, none⟩) len len), _, _, _, fun r => G r ∨ r = n, ⟨rfl, rfl⟩, ?_, .inl rfl, by rw [St.put_upd]; exact hst'.set hdst (u := .slice (some ⟨w.heap.size, 0, none⟩) len len) (RelV.own.2 (.inr ⟨w.heap.size, len, ⟨w.heap.size, 0, none⟩, hσn, by simp, by simp, by simp, by simp, fun _ => by simp⟩)) (.inr rfl),
    fun r hr => Or.inl hr, fun r hr => Or.imp id (fun h => ⟨by omega, by omega⟩) hr⟩
  have hpt : (parts.map fun x => (x.1, a.eval x.2)).toList = parts.toList.map fun x => (x.1, a.eval x.2) := by simp
  have hb : (Instr.buildSlice t len (parts.map fun x => (x.1, a.eval x.2))).run P w = .ok (.slice (some ⟨w.heap.size, 0, none⟩) len len) (w.alloc (.cells cs'.toArray e)) := by
    have hbig : ¬ (len * s > 2 ^ 24) := by omega
    have hne : ¬ (len * s = 0) := by
      have : 0 < len * s := Nat.mul_pos (by omega) hs0
      omega
    have hinit : (Array.range (len * s)).map (fun i => z.cells[i % z.cells.size]!) = (List.replicate len z.cells.toList).flatten.toArray := by
      have := made_cells z.cells.toList (by omega) len
      rw [hzl] at this
      apply Array.ext'
      simpa using this
    simp only [Instr.buildSlice, Sem.run_bind, run_underlying hud, Result.andThen_ok, (hT e re he).run_size, hs, if_neg hbig, if_neg hne, Sem.run_pure, hz, hinit]
    rw [hpt, hfill]
    simp [newRow]
  simp only [execOp, ho, Sem.run_bind]
  rw [show (parts.map fun (x : Nat × Operand) => match x with | (i, x) => (i, a.eval x)) = parts.map fun x => (x.1, a.eval x.2) from rfl, hb]
  rfl

end
end Go.Eng

/- append of one element, of a slice that is only read; make. -/
namespace Go.Eng
open Go.RowKit
section
variable {P : Program} {T : Tab} {sz : Nat} {env : Env} {h : Upds} {n : Nat}

theorem append_one (hT : TabOk P T) {t e r r2 : Nat} {re : TyR} {s : Nat} {ex ex2 : Bool} {cap2 : Option Nat} {α : Type} {enc : α → D} {xs : List α} {x y : Operand} {d : D} (el : α) (ht : tdesc T t = some (.slice e)) (he : lk T e = some re) (hs : Nat.beq re.size s = true) (hs0 : Nat.blt 0 s = true)
    (hx : evalA env x = some (.own r 0 xs.length s none)) (hrow : lookH h r = some (.ds e s ex enc xs)) (hy : evalA env y = some (.own r2 0 1 s cap2)) (hrow2 : lookH h r2 = some (.lits e s 1 ex2 (.acons (.d d) .anil))) (hd : d = enc el)
    (hlen : xs.length + 1 ≤ 1048576) (hbytes : Nat.ble re.bytes 134217728 = true) :
    StepIs P (.call { callee := .builtin .append, args := #[x, y], argTypes := #[t, t] }) env h n (some (.own n 0 (xs.length + 1) s none)) [(n, some (.ds e s false enc (xs ++ [el]))), (r, none)] := by
  have hs0 := Nat.le_of_ble_eq_true hs0
  have hb := Nat.le_of_ble_eq_true hbytes
  refine append_core hT (ty := 0) (ys := [el]) (ex := ex) ht he (Nat.eq_of_beq_eq_true hs) hs0 hx hrow hy (by simp) (by simp only [maxLen, List.length_cons, List.length_nil]; omega) ?_ ?_
  · have : (xs.length + [el].length) * re.bytes ≤ 1048576 * 134217728 := Nat.mul_le_mul (by simpa using hlen) hb
    omega
  · intro C G st σ w a hA hst
    obtain ⟨hy1, _⟩ := ev_sound hst (hA.ev hy)
    have hr2 := hst.rows r2 _ (hA.row _ _ hrow2)
    rcases RelV.own.1 hy1 with ⟨_, _, h0, _⟩ | ⟨b, c, ad, hb, hv, hle, _, _, had⟩
    · omega
    · have : ad = ⟨b, 0, none⟩ := by have := had (by omega); simpa using this
      subst this
      rcases hr2 with ⟨_, ⟨hn, _⟩ | ⟨b', c', cur, cs, hb', _, hh, hcs, _, _, hcl, hrel, htk⟩⟩
      · rw [hb] at hn; cases hn
      · rw [hb] at hb'
        cases hb'
        obtain ⟨c1, c2, rfl, h1, h2⟩ := hrel
        obtain rfl : c2 = [] := h2
        rw [List.append_nil] at hcl htk
        have h1 : Enc w (st.X C.X0 σ) d c1 := h1
        refine ⟨⟨b, 0, none⟩, _, fun _ => c1, hv, fun i hi => ?_, fun j u hj => ?_⟩
        · have : i = 0 := by simp at hi; exact hi
          subst this
          exact ⟨by simpa [← hd] using h1, by simpa using hcl⟩
        · simp only [List.length_cons, List.length_nil, cat, List.nil_append] at hj
          have hjl := (List.getElem?_eq_some_iff.1 hj).1
          rw [add_mk, cell_of_row w b _ cur e (0, 0) hh, Nat.zero_add, ← Array.getElem?_toList]
          rw [← htk, List.getElem?_take, if_pos (by omega)] at hj
          exact hj

theorem append_arr (hT : TabOk P T) {t e r : Nat} {re : TyR} {s : Nat} {ex : Bool} {α : Type} {enc : α → D} {xs ys : List α} {x y : Operand} (ht : tdesc T t = some (.slice e)) (he : lk T e = some re) (hs : Nat.beq re.size s = true) (hs0 : Nat.blt 0 s = true)
    (hx : evalA env x = some (.own r 0 xs.length s none)) (hrow : lookH h r = some (.ds e s ex enc xs)) (hy : evalA env y = some (.d (.arr s enc ys))) (hys : 0 < ys.length)
    (hlen : xs.length + ys.length ≤ 1048576) (hbytes : Nat.ble re.bytes 134217728 = true) :
    StepIs P (.call { callee := .builtin .append, args := #[x, y], argTypes := #[t, t] }) env h n (some (.own n 0 (xs.length + ys.length) s none)) [(n, some (.ds e s false enc (xs ++ ys))), (r, none)] := by
  have hs0 := Nat.le_of_ble_eq_true hs0
  have hb := Nat.le_of_ble_eq_true hbytes
  refine append_core hT (ty := 0) (ex := ex) ht he (Nat.eq_of_beq_eq_true hs) hs0 hx hrow hy hys (by simp only [maxLen]; omega) ?_ ?_
  · have : (xs.length + ys.length) * re.bytes ≤ 1048576 * 134217728 := Nat.mul_le_mul hlen hb
    omega
  · intro C G st σ w a hA hst
    obtain ⟨hy1, _⟩ := ev_sound hst (hA.ev hy)
    rcases RelV.arr.1 hy1 with ⟨rfl, _⟩ | ⟨ad, c, hv, _, _, f, hf⟩
    · simp at hys
    · refine ⟨ad, c, f, hv, fun i hi => ⟨(hf i hi).1, (hf i hi).2.1⟩, fun j u hj => ?_⟩
      have hjl := (List.getElem?_eq_some_iff.1 hj).1
      rw [cat_len _ fun i hi => (hf i hi).2.1] at hjl
      have hi : j / s < ys.length := Nat.div_lt_of_lt_mul (by rw [Nat.mul_comm]; exact hjl)
      have hm : j % s < s := Nat.mod_lt _ hs0
      have hj2 : j / s * s + j % s = j := by rw [Nat.mul_comm]; exact Nat.div_add_mod j s
      have := cat_get ys.length (fun i hi => (hf i hi).2.1) (j / s) (j % s) hi hm
      rw [hj2, hj] at this
      have := ((hf _ hi).2.2 (j % s) u this.symm).1
      rwa [hj2] at this

theorem cat_const (L : List Value) : ∀ N, cat (fun _ => L) N = (List.replicate N L).flatten
  | 0 => rfl
  | N + 1 => by rw [cat, cat_const L N, List.replicate_succ']; simp

/-- make([]T, n): n zero values, and no more room. -/
theorem make_full (hT : TabOk P T) {t e : Nat} {re : TyR} {s : Nat} {α : Type} {enc : α → D} {x y : Operand} {k k' : IntKind} {N : Nat} (z : α) (ht : tdesc T t = some (.slice e)) (he : lk T e = some re) (hs : Nat.beq re.size s = true) (hs0 : Nat.blt 0 s = true) (hz : re.zero = enc z)
    (hx : evalA env x = some (.int k N)) (hy : evalA env y = some (.int k' N)) (hlen : N ≤ 1048576) (hbytes : Nat.ble re.bytes 134217728 = true) :
    StepIs P (.makeSlice t x y) env h n (some (.own n 0 N s none)) [(n, some (.ds e s true enc (List.replicate N z)))] := .of_comes fun C G st σ w a o ho hA hdst hst hn => by
  have hs0 := Nat.le_of_ble_eq_true hs0
  have hs := Nat.eq_of_beq_eq_true hs
  have hb := Nat.le_of_ble_eq_true hbytes
  obtain ⟨ud, hud, hdd⟩ := tdesc_und hT ht
  cases hdd
  obtain ⟨i, zv, hi, hi1, hi2, hi3, hi4⟩ := (hT e re he).info
  obtain ⟨hx1, _⟩ := RelV.sc.1 (ev_sound hst (hA.ev hx)).1
  obtain ⟨hy1, _⟩ := RelV.sc.1 (ev_sound hst (hA.ev hy)).1
  have hzl : zv.cells.toList.length = s := by
    have h1 := Enc.len _ _ (Enc.closed w (fun _ => False) _ (hT e re he).zero)
    rw [hi4, (hT e re he).zsize, hs] at h1
    exact h1
  have henc : Enc w (st.X C.X0 σ) (enc z) zv.cells.toList := by rw [← hz, ← hi4]; exact Enc.closed _ _ _ (hT e re he).zero
  have hnn : ¬ G n := hn n (Nat.le_refl _) (by omega)
  have hmade : (madeCells zv.cells (N * s)).toList = cat (fun _ => zv.cells.toList) N := by
    have := made_cells zv.cells.toList (by omega) N
    rw [hzl] at this
    rw [cat_const, ← this]
    simp [madeCells]
  have hcl : (cat (fun _ => zv.cells.toList) N).length = N * s := cat_len _ fun _ _ => hzl
  have hsz : (madeCells zv.cells (N * s)).size = N * s := by rw [← Array.length_toList, hmade, hcl]
  obtain ⟨hst', hσn⟩ := hst.new hnn (madeCells zv.cells (N * s)) e N (.ds e s true enc (List.replicate N z)) trivial (fun σ' w' X' hk1 hk2 hσn hh => by
    refine .inr ⟨w.heap.size, N, madeCells zv.cells (N * s), hσn, fun _ => by simp, hh, hsz, by simp, by simp only [maxLen]; omega, fun _ => zv.cells.toList, fun i hi => ⟨by simpa using hk2 _ _ henc, hzl⟩, ?_⟩
    rw [hmade, List.length_replicate, ← hcl, List.take_length])
  have hbb : i.bytes * N ≤ 134217728 * 1048576 := Nat.mul_le_mul (by omega) hlen
  have hrun := run_make (P := P) w t e i zv hud hi hi3 k k' N N (by omega) (Int.le_refl _) (by
    have : ((i.bytes * N : Nat) : Int) ≤ 281474976710656 := by omega
    rwa [Int.natCast_mul] at this) (by omega)
  simp only [Int.toNat_natCast, hi1, hs] at hrun
  refine ⟨_, _, .value (.slice (some ⟨w.heap.size, 0, none⟩) N N), _, _, _, fun r => G r ∨ r = n, ⟨rfl, rfl⟩, ?_, .inl rfl, by rw [St.put_upd]; exact hst'.set hdst (u := .slice (some ⟨w.heap.size, 0, none⟩) N N) (RelV.own.2 (.inr ⟨w.heap.size, N, ⟨w.heap.size, 0, none⟩, hσn, by simp, by simp, by simp, by simp, fun _ => by simp⟩)) (.inr rfl),
    fun r hr => Or.inl hr, fun r hr => Or.imp id (fun h => ⟨by omega, by omega⟩) hr⟩
  simp only [execOp, ho, hx1, hy1, Sem.run_bind, hrun, Result.andThen_ok, Sem.run_pure]

end
end Go.Eng

/- copy, cap, max and min. -/
namespace Go.Eng
open Go.RowKit
section
variable {P : Program} {T : Tab} {sz : Nat} {env : Env} {h : Upds} {n : Nat}

/-- copy(x, y): y is only read. -/
theorem copy_arr (hT : TabOk P T) {t t' e r : Nat} {re : TyR} {s : Nat} {ex : Bool} {te : TypeId} {α : Type} {enc : α → D} {xs ys : List α} {x y : Operand} (ht : tdesc T t = some (.slice e)) (he : lk T e = some re) (hs : Nat.beq re.size s = true) (hs0 : Nat.blt 0 s = true)
    (hx : evalA env x = some (.own r 0 xs.length s none)) (hrow : lookH h r = some (.ds te s ex enc xs)) (hy : evalA env y = some (.d (.arr s enc ys))) {zs : List α} (hz : ys.take xs.length ++ xs.drop ys.length = zs) {m : Nat} (hm : min ys.length xs.length = m) :
    StepIs P (.call { callee := .builtin .copy, args := #[x, y], argTypes := #[t, t'] }) env h n (some (.int .i64 m)) [(r, some (.ds te s ex enc zs))] := .of_comes fun C G st σ w a o ho hA hd hst hn => by
  subst hz
  subst hm
  have hs0 := Nat.le_of_ble_eq_true hs0
  have hs := Nat.eq_of_beq_eq_true hs
  obtain ⟨ud, hud, hdd⟩ := tdesc_und hT ht
  cases hdd
  obtain ⟨hx1, hx2⟩ := ev_sound hst (hA.ev hx)
  obtain ⟨hy1, _⟩ := ev_sound hst (hA.ev hy)
  have hr := hA.row _ _ hrow
  have hsame : ys.length = 0 ∨ xs.length = 0 → ys.take xs.length ++ xs.drop ys.length = xs := by
    rintro (h0 | h0)
    · rw [List.eq_nil_of_length_eq_zero h0]; simp
    · rw [List.eq_nil_of_length_eq_zero h0]; simp
  have hquiet : (ys.length = 0 ∨ xs.length = 0) → (Builtin.copy_ #[t, t'] o.type #[a.eval x, a.eval y]).run P w = .ok (goInt (min ys.length xs.length : Nat)) w →
      Comes1 P C G st n o a w (fun v' u' => v' = some (.int .i64 (min ys.length xs.length : Nat)) ∧ u' = [(r, some (.ds te s ex enc (ys.take xs.length ++ xs.drop ys.length)))]) := by
    intro h0 hrun
    rw [hsame h0]
    have hst2 : StRel C G (st.upd [(r, some (.ds te s ex enc xs))]) σ w a := by
      refine hst.congr (fun _ => rfl) (fun q => ?_) rfl rfl
      simp only [St.upd, List.cons_append, List.nil_append, lk_cons]
      split
      · rename_i e0
        subst e0
        have hr' := hr
        simp only [St.row] at hr'
        cases hl : lk st.heap r with
        | none => rw [hl] at hr'; cases hr'
        | some q => rw [hl] at hr'; simp only [Option.bind_some, id] at hr'; rw [hr']
      · rfl
    refine ⟨_, _, .value (goInt (min ys.length xs.length : Nat)), _, w, σ, G, ⟨rfl, rfl⟩, ?_, .inl rfl, by rw [St.put_upd]; exact hst2.set hd (u := goInt (min ys.length xs.length : Nat)) (RelV.sc.2 ⟨rfl, rfl⟩) trivial, fun _ h => h, fun _ h => .inl h⟩
    simp [execOp, ho, resolve, invoke, builtin, hrun]
  obtain ⟨sx, hsx⟩ : ∃ b c, a.eval x = .slice b xs.length c := by
    rcases RelV.own.1 hx1 with ⟨_, _, h0, _, hv⟩ | ⟨b, c, ad, _, hv, _⟩
    · exact ⟨_, _, by rw [hv, h0]⟩
    · exact ⟨_, _, hv⟩
  obtain ⟨cx, hv0⟩ := hsx
  have hzero : min ys.length xs.length = 0 → (Builtin.copy_ #[t, t'] o.type #[a.eval x, a.eval y]).run P w = .ok (goInt (min ys.length xs.length : Nat)) w := by
    intro h0
    have hmin : Nat.min ys.length xs.length = 0 := h0
    rcases RelV.arr.1 hy1 with ⟨rfl, hv⟩ | ⟨ad, c, hv, _⟩
    · cases sx <;> simp [Builtin.copy_, hv0, hv, run_underlying hud, Builtin.lenOf, (hT e re he).run_size, Builtin.firstCells, storeCells, goInt]
    · have hf := run_firstCells_some (P := P) w s 0 ad ys.length c [] (by simp) (by simp)
      cases sx <;> simp [Builtin.copy_, hv0, hv, run_underlying hud, Builtin.lenOf, (hT e re he).run_size, hs, hmin, h0, hf, storeCells, goInt]
  by_cases h0 : min ys.length xs.length = 0
  · exact hquiet (by omega) (hzero h0)
  · rcases RelV.arr.1 hy1 with ⟨rfl, _⟩ | ⟨ad, cy, hvy, _, _, f, hf⟩
    · simp at h0
    rcases hst.rows r _ hr with ⟨_, rfl⟩ | ⟨b, c, cur, hσ, hex, hh, hcs, hle, hcm, g, hg, htk⟩
    · simp at h0
    rcases RelV.own.1 hx1 with ⟨_, _, hl0, _⟩ | ⟨b', c', a', hσ', hv, _, _, hlec, had⟩
    · omega
    rw [hσ] at hσ'
    cases hσ'
    have : a' = ⟨b, 0, none⟩ := by have := had (by omega); simpa using this
    subst this
    have hfl : (cat f (min ys.length xs.length)).length = min ys.length xs.length * s := cat_len _ fun i hi => (hf i (by omega)).2.1
    have hgl : (cat g xs.length).length = xs.length * s := cat_len _ fun i hi => (hg i hi).2
    have hsrc : ∀ j u, (cat f (min ys.length xs.length))[j]? = some u → w.cell? (ad.add j) = some u := fun j u hj => by
      have hjl := (List.getElem?_eq_some_iff.1 hj).1
      rw [hfl] at hjl
      have hi : j / s < min ys.length xs.length := Nat.div_lt_of_lt_mul (by rw [Nat.mul_comm]; exact hjl)
      have hm : j % s < s := Nat.mod_lt _ hs0
      have hj2 : j / s * s + j % s = j := by rw [Nat.mul_comm]; exact Nat.div_add_mod j s
      have := cat_get _ (fun i hi => (hf i (by omega)).2.1) (j / s) (j % s) hi hm
      rw [hj2, hj] at this
      have := ((hf _ (by omega)).2.2 (j % s) u this.symm).1
      rwa [hj2] at this
    have hone : ∀ u ∈ cat f (min ys.length xs.length), u.oneCell' = true := fun u hu => by
      obtain ⟨k, hk, hu⟩ := cat_mem _ hu
      exact Enc.one _ _ (hf k (by omega)).1 u hu
    have hmul : min ys.length xs.length * s ≤ xs.length * s := Nat.mul_le_mul_right _ (Nat.min_le_right _ _)
    have hmulc : xs.length * s ≤ c * s := Nat.mul_le_mul_right _ hle
    have hf1 := run_firstCells_some (P := P) w s (min ys.length xs.length) ad ys.length cy _ hfl hsrc
    have hst1 := run_storeCells_at P b 0 te (cat f (min ys.length xs.length)) 0 cur w hh (by rw [hfl, hcs]; omega) hone
    simp only [Nat.add_zero, Nat.zero_add, List.take_zero, List.nil_append] at hst1
    have hrun : (Builtin.copy_ #[t, t'] o.type #[a.eval x, a.eval y]).run P w = .ok (goInt (min ys.length xs.length : Nat)) (w.setRow b (cat f (min ys.length xs.length) ++ cur.toList.drop (cat f (min ys.length xs.length)).length).toArray) := by
      have hmin : Nat.min ys.length xs.length = min ys.length xs.length := rfl
      simp [Builtin.copy_, hv, hvy, run_underlying hud, Builtin.lenOf, (hT e re he).run_size, hs, hmin, hf1, hst1, goInt]
    have hw := hst.write (new := (cat f (min ys.length xs.length) ++ cur.toList.drop (cat f (min ys.length xs.length)).length).toArray) (row := .ds te s ex enc (ys.take xs.length ++ xs.drop ys.length)) hr hσ hh trivial (fun w' hk1 hk2 hh' => by
      have hll : (ys.take xs.length ++ xs.drop ys.length).length = xs.length := by simp; omega
      refine .inr ⟨b, c, _, hσ, fun e => by rw [hll]; exact hex e, hh', ?_, by rw [hll]; exact hle, hcm, fun i => if i < min ys.length xs.length then f i else g i, fun i hi => ?_, ?_⟩
      · simp only [List.size_toArray, List.length_append, List.length_drop, Array.length_toList, hfl, hcs]; omega
      · rw [hll] at hi
        by_cases hlt : i < min ys.length xs.length
        · simp only [if_pos hlt]
          have : (ys.take xs.length ++ xs.drop ys.length)[i]'(by rw [hll]; exact hi) = ys[i]'(by omega) := by
            rw [List.getElem_append_left (by simp; omega)]; simp
          rw [this]
          exact ⟨hk2 _ _ (hf i (by omega)).1, (hf i (by omega)).2.1⟩
        · simp only [if_neg hlt]
          have : (ys.take xs.length ++ xs.drop ys.length)[i]'(by rw [hll]; exact hi) = xs[i] := by
            rw [List.getElem_append_right (by simp; omega)]
            simp only [List.length_take, List.getElem_drop]
            congr 1; omega
          rw [this]
          exact ⟨hk2 _ _ (hg i hi).1, (hg i hi).2⟩
      · rw [hll]
        have hsplit : xs.length = min ys.length xs.length + (xs.length - min ys.length xs.length) := by omega
        have e1 : cat (fun i => if i < min ys.length xs.length then f i else g i) (min ys.length xs.length) = cat f (min ys.length xs.length) := cat_congr _ fun i hi => by simp only [if_pos hi]
        have e2 : cat (fun i => (fun i => if i < min ys.length xs.length then f i else g i) (min ys.length xs.length + i)) (xs.length - min ys.length xs.length) = cat (fun i => g (min ys.length xs.length + i)) (xs.length - min ys.length xs.length) := cat_congr _ fun i _ => by simp only [if_neg (show ¬ (min ys.length xs.length + i < min ys.length xs.length) by omega)]
        have e3 : cat g xs.length = cat g (min ys.length xs.length) ++ cat (fun i => g (min ys.length xs.length + i)) (xs.length - min ys.length xs.length) := by rw [← cat_add, ← hsplit]
        have e4 : (cat g (min ys.length xs.length)).length = min ys.length xs.length * s := cat_len _ fun i hi => (hg i (by omega)).2
        have e5 : cat (fun i => g (min ys.length xs.length + i)) (xs.length - min ys.length xs.length) = (cur.toList.take (xs.length * s)).drop (min ys.length xs.length * s) := by
          rw [htk, e3, ← e4, List.drop_left]
        rw [show cat (fun i => if i < min ys.length xs.length then f i else g i) xs.length = cat (fun i => if i < min ys.length xs.length then f i else g i) (min ys.length xs.length + (xs.length - min ys.length xs.length)) from by rw [← hsplit]]
        rw [cat_add, e1, e2, e5]
        simp only [hfl]
        rw [List.take_append, hfl, List.take_of_length_le (by rw [hfl]; exact hmul), ← List.drop_take])
    refine ⟨_, _, .value (goInt (min ys.length xs.length : Nat)), _, _, σ, G, ⟨rfl, rfl⟩, ?_, .inl rfl, by rw [St.put_upd]; exact hw.set hd (u := goInt (min ys.length xs.length : Nat)) (RelV.sc.2 ⟨rfl, rfl⟩) trivial, fun _ h => h, fun _ h => .inl h⟩
    simp [execOp, ho, resolve, invoke, builtin, hrun]

/-- cap of a slice without spare room. -/
theorem cap_exact (hT : TabOk P T) {t e r : Nat} {s : Nat} {te : TypeId} {α : Type} {enc : α → D} {xs : List α} {x : Operand} {len : Nat} (ht : tdesc T t = some (.slice e)) (hx : evalA env x = some (.own r 0 len s none)) (hrow : lookH h r = some (.ds te s true enc xs)) :
    StepIs P (.call { callee := .builtin .cap, args := #[x], argTypes := #[t] }) env h n (some (.int .i64 xs.length)) [] := .of_comes fun C G st σ w a o ho hA hd hst hn => by
  obtain ⟨ud, hud, hdd⟩ := tdesc_und hT ht
  cases hdd
  obtain ⟨hx1, _⟩ := ev_sound hst (hA.ev hx)
  have hr := hst.rows r _ (hA.row _ _ hrow)
  have hv : ∃ b l, a.eval x = .slice b l xs.length := by
    rcases RelV.own.1 hx1 with ⟨hσ, _, _, _, hv⟩ | ⟨b, c, ad, hσ, hv, _⟩
    · rcases hr with ⟨_, rfl⟩ | ⟨b, c, cur, hσ', _⟩
      · exact ⟨_, _, hv⟩
      · rw [hσ] at hσ'; cases hσ'
    · rcases hr with ⟨hσ', _⟩ | ⟨b', c', cur, hσ', hex, _⟩
      · rw [hσ] at hσ'; cases hσ'
      · rw [hσ] at hσ'
        cases hσ'
        have hc := hex rfl
        subst hc
        exact ⟨_, _, by rw [hv]; rfl⟩
  obtain ⟨b, l, hv⟩ := hv
  refine .quiet (u := goInt xs.length) hst hd ⟨rfl, rfl⟩ ?_ (RelV.sc.2 ⟨rfl, rfl⟩) trivial
  simp [execOp, ho, resolve, invoke, builtin, Builtin.cap_, hv, run_underlying hud, goInt]

theorem max_int {x y : Operand} {ts : Array TypeId} {k : IntKind} {p q m : Int} (hx : evalA env x = some (.int k p)) (hy : evalA env y = some (.int k q)) (hm : max p q = m) :
    StepIs P (.call { callee := .builtin .max, args := #[x, y], argTypes := ts }) env h n (some (.int k m)) [] := .of_comes fun C G st σ w a o ho hA hd hst hn => by
  subst hm
  obtain ⟨hx1, _⟩ := RelV.sc.1 (ev_sound hst (hA.ev hx)).1
  obtain ⟨hy1, _⟩ := RelV.sc.1 (ev_sound hst (hA.ev hy)).1
  refine .quiet (u := .int k (max p q)) hst hd ⟨rfl, rfl⟩ ?_ (RelV.sc.2 ⟨rfl, rfl⟩) trivial
  simp [execOp, ho, resolve, invoke, builtin, Builtin.max_, Builtin.max2, hx1, hy1]
  rw [Int.max_def]
  split <;> split <;> omega

theorem min_int {x y : Operand} {ts : Array TypeId} {k : IntKind} {p q m : Int} (hx : evalA env x = some (.int k p)) (hy : evalA env y = some (.int k q)) (hm : min p q = m) :
    StepIs P (.call { callee := .builtin .min, args := #[x, y], argTypes := ts }) env h n (some (.int k m)) [] := .of_comes fun C G st σ w a o ho hA hd hst hn => by
  subst hm
  obtain ⟨hx1, _⟩ := RelV.sc.1 (ev_sound hst (hA.ev hx)).1
  obtain ⟨hy1, _⟩ := RelV.sc.1 (ev_sound hst (hA.ev hy)).1
  refine .quiet (u := .int k (min p q)) hst hd ⟨rfl, rfl⟩ ?_ (RelV.sc.2 ⟨rfl, rfl⟩) trivial
  simp [execOp, ho, resolve, invoke, builtin, Builtin.min_, Builtin.min2, hx1, hy1]
  rw [Int.min_def]
  split <;> split <;> omega

end
end Go.Eng

/- Calls, in the forms that a walk meets. -/
namespace Go.Eng
open Go.RowKit
section
variable {P : Program} {T : Tab} {sz : Nat} {env : Env} {h : Upds} {n : Nat}

/-- A function that is handed no rows and hands back none. -/
theorem call_r {f : Operand} {args : Array Operand} {ts : Array TypeId} {g : FuncId} {as avs : List AV} {res : AV} (hfn : FnIs P g avs [] res []) (hf : evalA env f = some (.fn (.func g) .anil .anil)) (hl : evL (evalA env) args.toList = some as)
    (ha : ArgsA (lookH h) (rho []) as avs) (hm : noBorrow as avs = true ∨ PlainRes res []) (hr : ∀ ρ, res.ren ρ = res) :
    StepIs P (.call { callee := .value f, args := args, argTypes := ts }) env h n (some res) [] := by
  have := StepIs.call (n := n) (ts := ts) (h0 := []) (rows := []) (res := res) [] hfn hf hl rfl rfl (by simpa [chainL] using ha) trivial rfl rfl (by simpa [chainL] using hm)
  rw [hr] at this
  exact this

theorem PlainRes.sc (v : Value) : PlainRes (.d (.sc v)) [] := fun _ _ _ _ => ⟨fun _ h => h, fun r row h => by simp [lk] at h⟩

/-- A function that hands back new rows. -/
theorem call_new {f : Operand} {args : Array Operand} {ts : Array TypeId} {g : FuncId} {as avs : List AV} {res v : AV} {rows : List (Nat × Row)} {u : Upds} (hfn : FnIs P g avs [] res rows) (hf : evalA env f = some (.fn (.func g) .anil .anil)) (hl : evL (evalA env) args.toList = some as)
    (ha : ArgsA (lookH h) (rho []) as avs) (hm : noBorrow as avs = true ∨ PlainRes res rows) (hv : res.ren (outRho [] n) = v) (hu : callUpd [] n [] rows = u) :
    StepIs P (.call { callee := .value f, args := args, argTypes := ts }) env h n (some v) u := by
  have := StepIs.call (n := n) (ts := ts) (h0 := []) (rows := rows) (res := res) [] hfn hf hl rfl rfl (by simpa [chainL] using ha) trivial rfl rfl (by simpa [chainL] using hm)
  rw [hv, hu] at this
  exact this

/-- One argument as data. -/
theorem arg_d {look : Nat → Option Row} {ρ : Nat → Option Nat} {x y : D} {as avs : List AV} (hx : y.isAgg = x.isAgg) (_ : True) (hle : DLe x y) (h : ArgsA look ρ as avs) : ArgsA look ρ (.d x :: as) (.d y :: avs) :=
  ⟨.d y, avs, rfl, ⟨rfl, rfl⟩, ⟨hx, hle⟩, h⟩
theorem arg_e {look : Nat → Option Row} {ρ : Nat → Option Nat} {x : D} {as avs : List AV} (h : ArgsA look ρ as avs) : ArgsA look ρ (.d x :: as) (.d x :: avs) := arg_d rfl trivial (.refl x) h
theorem arg_nil {look : Nat → Option Row} {ρ : Nat → Option Nat} : ArgsA look ρ [] [] := rfl
/-- The nil slice for a slice of nothing. -/
theorem arg_nilslice {look : Nat → Option Row} {ρ : Nat → Option Nat} {α : Type} {s : Nat} {enc : α → D} {as avs : List AV} (h : ArgsA look ρ as avs) : ArgsA look ρ (.d (.sc (.slice none 0 0)) :: as) (.d (.arr s enc ([] : List α)) :: avs) :=
  arg_d rfl trivial (DLe.nil_arr s enc) h
/-- A slice that the caller owns, lent. -/
theorem arg_own {look : Nat → Option Row} {ρ : Nat → Option Nat} {α : Type} {s r : Nat} {te : TypeId} {ex : Bool} {cap : Option Nat} {enc : α → D} {xs : List α} {as avs : List AV} (hr : look r = some (.ds te s ex enc xs)) (h : ArgsA look ρ as avs) :
    ArgsA look ρ (.own r 0 xs.length s cap :: as) (.d (.arr s enc xs) :: avs) :=
  ⟨_, avs, rfl, ⟨rfl, rfl⟩, ⟨rfl, by simp only [ArgD, hr]; exact ⟨trivial, by simp, xs, by simp, .refl _⟩⟩, h⟩
/-- A function value without captured variables. -/
theorem arg_fn {look : Nat → Option Row} {ρ : Nat → Option Nat} {k : Fn} {as avs : List AV} (h : ArgsA look ρ as avs) : ArgsA look ρ (.fn k .anil .anil :: as) (.fn k .anil .anil :: avs) :=
  ⟨_, avs, rfl, ⟨rfl, rfl⟩, AVLe.refl _, h⟩


variable {all l : List Oper} {acc : List DFact} {K : Env → Upds → Nat → Prop}

theorem dreg_step {d : Option Tmp} {op : Op} {ty : TypeId} {pos : String} {af : Array Edge} {v : Option AV} {u : Upds} {env' : Env} {h' : Upds} (hd : dstOk d sz = true)
    (hs : StepIs P op (only (looksOf all ⟨d, op, ty, pos, af, none⟩) env) (only (rowsOf env h ⟨d, op, ty, pos, af, none⟩) h) n v u) (he : putE d v env = env') (hh : u ++ h = h')
    (h1 : RegD P all sz l (n + 8) env' h' (⟨⟨d, op, ty, pos, af, none⟩, looksOf all ⟨d, op, ty, pos, af, none⟩, rowsOf env h ⟨d, op, ty, pos, af, none⟩, v, u⟩ :: acc) K) : RegD P all sz (⟨d, op, ty, pos, af, none⟩ :: l) n env h acc K :=
  dreg_do _ _ hd (.plain hs) he hh h1

theorem dreg_on {d : Option Tmp} {op : Op} {ty : TypeId} {pos : String} {af : Array Edge} {j g : Nat} {want b : Bool} {v : Option AV} {u : Upds} {env' : Env} {h' : Upds} (hj : ((all[j]?).bind (·.dst)) = some g) (hb : lk (only (looksOf all ⟨d, op, ty, pos, af, some (j, want)⟩) env) g = some (.bool b)) (hw : b = want) (hd : dstOk d sz = true)
    (hs : StepIs P op (only (looksOf all ⟨d, op, ty, pos, af, some (j, want)⟩) env) (only (rowsOf env h ⟨d, op, ty, pos, af, some (j, want)⟩) h) n v u) (he : putE d v env = env') (hh : u ++ h = h')
    (h1 : RegD P all sz l (n + 8) env' h' (⟨⟨d, op, ty, pos, af, some (j, want)⟩, looksOf all ⟨d, op, ty, pos, af, some (j, want)⟩, rowsOf env h ⟨d, op, ty, pos, af, some (j, want)⟩, v, u⟩ :: acc) K) : RegD P all sz (⟨d, op, ty, pos, af, some (j, want)⟩ :: l) n env h acc K :=
  dreg_do _ _ hd (.on hj hb hw hs) he hh h1

theorem dreg_off {d : Option Tmp} {op : Op} {ty : TypeId} {pos : String} {af : Array Edge} {j g : Nat} {want b : Bool} {env' : Env} (hj : ((all[j]?).bind (·.dst)) = some g) (hb : lk (only (looksOf all ⟨d, op, ty, pos, af, some (j, want)⟩) env) g = some (.bool b)) (hw : b = !want) (hd : dstOk d sz = true)
    (he : putE d none env = env') (h1 : RegD P all sz l (n + 8) env' h (⟨⟨d, op, ty, pos, af, some (j, want)⟩, looksOf all ⟨d, op, ty, pos, af, some (j, want)⟩, [], none, []⟩ :: acc) K) : RegD P all sz (⟨d, op, ty, pos, af, some (j, want)⟩ :: l) n env h acc K :=
  dreg_do _ _ hd (.off hj hb hw) he rfl h1

theorem dreg_offU {d : Option Tmp} {op : Op} {ty : TypeId} {pos : String} {af : Array Edge} {j g : Nat} {want : Bool} {env' : Env} (hj : ((all[j]?).bind (·.dst)) = some g) (hb : lk (only (looksOf all ⟨d, op, ty, pos, af, some (j, want)⟩) env) g = some .undef) (hd : dstOk d sz = true)
    (he : putE d none env = env') (h1 : RegD P all sz l (n + 8) env' h (⟨⟨d, op, ty, pos, af, some (j, want)⟩, looksOf all ⟨d, op, ty, pos, af, some (j, want)⟩, [], none, []⟩ :: acc) K) : RegD P all sz (⟨d, op, ty, pos, af, some (j, want)⟩ :: l) n env h acc K :=
  dreg_do _ _ hd (.offU hj hb) he rfl h1

/-- The way parts by a bool. -/
theorem dreg_case {b : Bool} (h1 : b = true → RegD P all sz l n env h acc K) (h2 : b = false → RegD P all sz l n env h acc K) : RegD P all sz l n env h acc K := by
  cases b
  · exact h2 rfl
  · exact h1 rfl
theorem dreg_pick {d : Option Tmp} {c x y : Operand} {ty : TypeId} {pos : String} {af : Array Edge} {b : Bool} (_hc : evalA env c = some (.bool b)) (h1 : b = true → RegD P all sz (⟨d, .pick c x y, ty, pos, af, none⟩ :: l) n env h acc K) (h2 : b = false → RegD P all sz (⟨d, .pick c x y, ty, pos, af, none⟩ :: l) n env h acc K) :
    RegD P all sz (⟨d, .pick c x y, ty, pos, af, none⟩ :: l) n env h acc K := dreg_case h1 h2

end
end Go.Eng

/- Strings, indexed. -/
namespace Go.Eng
open Go.RowKit
section
variable {P : Program} {T : Tab} {sz : Nat} {env : Env} {h : Upds} {n : Nat}

theorem index_str (hT : TabOk P T) {t : TypeId} {x i : Operand} {s : ByteArray} {k : IntKind} {m : Int} {b : UInt8} {v : Int} (ht : tdesc T t = some .string) (hx : evalA env x = some (.d (.sc (.string s)))) (hi : evalA env i = some (.int k m)) (h0 : 0 ≤ m) (hb : s[m.toNat]? = some b) (hv : (b.toNat : Int) = v) :
    StepIs P (.index t x i) env h n (some (.int .u8 v)) [] := .of_opD hT fun K hK => by
  subst hv
  simp only [opD, ht, hx, hi]
  exact ⟨h0, b, hb, hK⟩

end
end Go.Eng

/- Ranges over functions. -/
namespace Go.Eng
open Go.RowKit

/-- What an iterator does, whatever its rounds do: it reads R, and hands out one value after another as Next says; Done: it has come to its end. -/
def IterOk (P : Program) (gf : FuncId) (us : List Value) (R : World → Prop) {α : Type} (enc : α → Value) (Next : List α → α → Prop) (Done : List α → Prop) : Prop :=
  ∀ (l : Nat) (J Jx : List α → World → Prop) (N : Nat) (w : World), (∀ pre W, J pre W → R W ∧ pre.length ≤ N) →
    (∀ pre x W, J pre W → Next pre x → YieldAt Fence.wide 0 P l #[enc x] W fun e W' => (e = .returned (.bool true) ∧ J (pre ++ [x]) W') ∨ (e = .returned (.bool false) ∧ Jx (pre ++ [x]) W')) →
    J [] w → Calls P gf (#[.func (.yield l) #[] #[]] ++ us.toArray) w fun e W' => (∃ v, e = .returned v) ∧ ((∃ pre, Done pre ∧ J pre W') ∨ ∃ pre, Jx pre W')

/-- What the captured values and the rows behind them say. -/
def Reads (caps : AV) (rd : List (Nat × Row)) (us : List Value) (W : World) : Prop := ∃ σ X, Rel σ W X caps true us ∧ ∀ r row, lk rd r = some row → RowRel σ W X r row

def IterIs (P : Program) (gf : FuncId) (caps : AV) (rd : List (Nat × Row)) {α : Type} (enc : α → Value) (Next : List α → α → Prop) (Done : List α → Prop) : Prop :=
  (∃ fn, P.funcs[gf]? = some fn ∧ (fn.name == "runtime.NumGoroutine") = false ∧ fn.body.isNone = false) ∧ ∀ us, IterOk P gf us (Reads caps rd us) enc Next Done

/-- What a round owes. -/
def RoundQ (Q : Exit → St → Prop) (l : Names) (n sz : Nat) (h0 : List (Nat × Row)) (env : Env) (h h' : Upds) (Inv' : Prop) (e : Exit) (st : St) : Prop := match e with
  | .normal => ∃ rows l1 l2, Le l1 st ⟨[], someRows rows, 72, sz, 64⟩ ∧ Inv' ∧ Le l2 ⟨env, callUpd l n h0 rows ++ h, n + 8, sz, 64⟩ ⟨env, h', n, sz, 64⟩
  | .exit i => ∃ rows l1, Le l1 st ⟨[], someRows rows, 72, sz, 64⟩ ∧ Q (.exit i) ⟨env, callUpd l n h0 rows ++ h, n + 8, sz, 64⟩
  | .ret => ∃ rows l1, Le l1 st ⟨[], someRows rows, 72, sz, 64⟩ ∧ Q .ret ⟨env, callUpd l n h0 rows ++ h, n + 8, sz, 64⟩
  | _ => False

section
variable {P : Program} {C : Ctx} {G : Nat → Prop} {st : St} {σ : Place} {w : World} {a : Act}

theorem StRel.allocBook (h : StRel C G st σ w a) (o : Obj) : StRel C G st σ (w.alloc o) a := by
  have hold : ∀ k, k < w.heap.size → (w.alloc o).heap[k]? = w.heap[k]? := fun k hk => Below.heap_alloc _ _ _ hk
  exact h.core (fun _ h => h) (fun _ _ => rfl) (fun ad u h1 h2 => ⟨by rw [World.cell?_alloc_lt _ _ _ (World.block_lt_of_cell? w ad h1)]; exact h1, h2⟩) rfl rfl rfl
    (fun r row h1 => .inl ⟨h1, fun b c hs => hold b (h.lt h1 hs)⟩) h.inj h.high (by simp; have := h.size; omega)
    (Below.toM ((Below.refl C.B w).alloc h.size _) fun k x hx _ => (hold k (Array.getElem?_eq_some_iff.1 hx).1).trans hx)

/-- The same state, its temporaries elsewhere. -/
theorem StRel.spread (h : StRel C G st σ w a) {env' : Env} {sz' : Nat} {a' : Act} (he : ∀ i v, lk env' i = some v → (∃ u, a'.tmps[i]? = some u ∧ RelV σ w (st.X C.X0 σ) v u) ∧ v.within G) (hs : a'.tmps.size = sz') (hd : DefOk C w a'.defers) :
    StRel C G { st with env := env', sz := sz' } σ w a' :=
  { h with
    env := fun i v hi => (he i v hi).1
    envG := fun i v hi => (he i v hi).2
    sz := hs
    defers := hd }

theorem StRel.inRo (h : StRel C G st σ w a) (ro : Option Nat) (hr : ∀ l, ro = some l → ∃ r, w.heap[l]? = some (.loop r)) (hd : DefOk { C with ro := ro } w a.defers) : StRel { C with ro := ro } G st σ w a :=
  { env := h.env, envG := h.envG, rows := h.rows, rowsG := h.rowsG, inj := h.inj, high := h.high, size := h.size, below := h.below, defers := hd, sz := h.sz, x0 := h.x0, agree := h.agree, baseG := h.baseG, bs := h.bs, rok := hr }

/-- The loop's record is laid. -/
theorem StRel.enterLoop (h : StRel C G st σ w a) (fn : FuncId) (ps : Array Tmp) (assign body : Code) :
    ∃ (l : Nat) (mark : List Deferred) (dd : Nat) (W1 : World), (Instr.enterLoop fn a.tmps ps assign body C.ro).run P w = .ok (l, mark) W1 ∧
      W1.heap[l]? = some (.loop { state := .ready, pending := none, fn, tmps := a.tmps, params := ps, assign, body, defers := dd }) ∧ StRel C G st σ W1 a ∧ C.w0.heap.size ≤ l ∧ C.B ≤ l ∧ (∀ l0, C.ro = some l0 → l0 ≠ l) ∧
      (∀ W' : World, (∀ k : Nat, k ≠ l → W1.heap[k]? = some (.deferred (some [])) → W'.heap[k]? = some (.deferred (some []))) → DefOk C W' (mark ++ a.defers)) := by
  have hw0 := h.below.size
  have hsz := h.size
  have hdef : ∀ (W' : World), (∀ k : Nat, w.heap[k]? = some (.deferred (some [])) → W'.heap[k]? = some (.deferred (some []))) → DefOk C W' a.defers := fun W' hk => h.defers.go hk
  cases hro : C.ro with
  | none =>
    refine ⟨_, _, w.heap.size, _, run_enterLoop_outer _ _ _ _ _, ?_, (h.allocBook _).allocBook _, by omega, by omega, fun _ h => (by cases h), fun W' hk => ?_⟩
    · have := World.alloc_heap_new (w.alloc (.deferred (some []))) (.loop { state := .ready, pending := none, fn, tmps := a.tmps, params := ps, assign, body, defers := w.heap.size })
      rwa [World.size_alloc] at this
    · have hnew : ((w.alloc (.deferred (some []))).alloc (.loop { state := .ready, pending := none, fn, tmps := a.tmps, params := ps, assign, body, defers := w.heap.size })).heap[w.heap.size]? = some (.deferred (some [])) :=
        (Below.heap_alloc _ _ _ (by simp)).trans (World.alloc_heap_new w _)
      refine ⟨⟨w.heap.size, rfl, by omega, by omega, hk _ (by omega) hnew, fun hm => ?_⟩, hdef W' fun k h1 => ?_⟩
      · have : ∀ ds, DefOk C w ds → ({ target := .collected w.heap.size, args := #[] } : Deferred) ∉ ds := by
          intro ds
          induction ds with
          | nil => intro _ hm; cases hm
          | cons d ds ih =>
            rintro ⟨⟨D, rfl, _, _, h3, _⟩, h4⟩ hm
            rcases List.mem_cons.1 hm with hm | hm
            · have : w.heap.size = D := by simpa using hm
              subst this
              simp at h3
            · exact ih h4 hm
        exact this _ h.defers hm
      · have hlt := (Array.getElem?_eq_some_iff.1 h1).1
        exact hk k (by omega) ((Below.heap_alloc _ _ _ (by simp; omega)).trans ((Below.heap_alloc _ _ _ hlt).trans h1))
  | some l0 =>
    obtain ⟨r0, hr0⟩ := h.rok l0 hro
    refine ⟨_, _, r0.defers, _, run_enterLoop_inner hr0 _ _ _ _ _, World.alloc_heap_new _ _, h.allocBook _, by omega, by omega, fun l1 h1 => ?_, fun W' hk => ?_⟩
    · cases h1
      have := (Array.getElem?_eq_some_iff.1 hr0).1
      omega
    · refine hdef W' fun k h1 => ?_
      have hlt := (Array.getElem?_eq_some_iff.1 h1).1
      exact hk k (by omega) ((Below.heap_alloc _ _ _ hlt).trans h1)

end

theorem wpIn_assign1 {F : Fence} {n : Nat} {P : Program} {id : Nat} {d t : Tmp} {ty : TypeId} {pos : String} {af : Array Edge} {Q : Exit → Act → World → Prop} {a : Act} {w : World} (h : Q .normal (a.put (some d) (a.eval (.tmp t))) w) :
    (Code.region id #[⟨some d, .assign (.tmp t), ty, pos, af, none⟩] false).wpIn F n P Q a w := by
  refine wpIn_region_list ?_
  unfold wpListIn
  rw [if_pos (show Region.wanted ⟨some d, .assign (.tmp t), ty, pos, af, none⟩ _ = true from rfl)]
  have hr : (execOp a.eval ⟨some d, .assign (.tmp t), ty, pos, af, none⟩).run P w = .ok (.value (a.eval (.tmp t))) w := by simp [execOp]
  refine ⟨fun f hf => by simp [Oper.about] at hf, ?_⟩
  rw [Oper.semAt_eq _ _ _ (fun c hc => by cases hc), hr]
  exact h

section
variable {P : Program} {T : Tab} {sz n : Nat} {Q : Exit → St → Prop} {env : Env} {h : Upds}

set_option maxHeartbeats 2000000 in
theorem wc_range {α : Type} {enc : α → Value} (henc : ∀ x, (enc x).oneCell' = true) {Next : List α → α → Prop} {Done : List α → Prop} {g : Operand} {gf : FuncId} {caps : AV} {rd : List (Nat × Row)} {id : Nat} {d t : Tmp} {ty : TypeId} {pos : String} {af : Array Edge} {body : Code}
    (l : Names) (ks : List Nat) (avs : List AV) (h0 : List α → List (Nat × Row)) (hI : List α → Upds) (Inv : List α → Prop) (N : Nat) (hit : IterIs P gf caps rd enc Next Done) (hg : evalA env g = some (.fn (.func gf) .anil caps)) (hc : caps.chain = true)
    (i0 : Inv []) (hh : hI [] = h) (hrd : ∀ pre, Inv pre → ∀ r row, lk rd r = some row → lookH (hI pre) r = some row) (hN : ∀ pre, Inv pre → pre.length ≤ N)
    (as : List AV) (hl : evL (evalA env) (ks.map .tmp) = some as) (ha : ∀ pre, Inv pre → ArgsA (lookH (hI pre)) (rho l) as avs) (hr : ∀ pre, Inv pre → RowsIn (lookH (hI pre)) l (h0 pre))
    (hi : ∀ pre, Inv pre → injOn (rho l) (keysOf (h0 pre)) = true) (hk : ∀ pre, Inv pre → keysIn l (h0 pre) = true) (hm : noBorrow as avs = true) (hdt : Nat.blt d sz = true ∧ Nat.blt t sz = true) (hks : ks.all (fun k => bif Nat.beq k d then false else bif Nat.beq k t then false else Nat.blt k sz) = true)
    (hbody : ∀ pre x, Inv pre → Next pre x → WC P sz body (RoundQ Q l n sz (h0 pre) env (hI pre) (hI (pre ++ [x])) (Inv (pre ++ [x]))) ((d, .d (.sc (enc x))) :: (ks.zip avs)) (someRows (h0 pre)) 64)
    (hdone : ∀ pre, Inv pre → Done pre → Q .normal ⟨env, hI pre, n, sz, 64⟩) :
    WC P sz (.rangeFunc g #[t] (.region id #[⟨some d, .assign (.tmp t), ty, pos, af, none⟩] false) body) Q env h n := by
  subst hh
  intro C σ w a hst
  refine wpIn_rangeFunc ?_
  intro fn hfn
  obtain ⟨us, hu⟩ : ∃ us : List Value, a.eval g = .func (.func gf) #[] us.toArray := by
    obtain ⟨h1, _⟩ := ev_sound hst hg
    unfold RelV at h1
    simp only [AV.isAgg] at h1
    obtain ⟨vs, us, he, h3, h4⟩ := h1
    obtain rfl : vs = [] := h3
    exact ⟨us, by simpa using he⟩
  have hcapsU : ∀ {W : World} {σ' : Place} {pre : List α}, StRel C (fun r => r < n) ⟨env, hI pre, n, sz, 64⟩ σ' W a → Rel σ' W ((⟨env, hI pre, n, sz, 64⟩ : St).X C.X0 σ') caps true us := by
    intro W σ' pre hst'
    obtain ⟨h1, _⟩ := ev_sound hst' hg
    unfold RelV at h1
    simp only [AV.isAgg] at h1
    obtain ⟨vs, us', he, h3, h4⟩ := h1
    rw [hu] at he
    have : us' = us := by
      have : us.toArray = us'.toArray := by simpa using (by simpa using he : _ ∧ _).2
      simpa using congrArg Array.toList this.symm
    rw [← this]; exact h4
  obtain ⟨lp, mark, dd, W1, hent, hl1, hst1, hlw, hlB, hlro, hmark⟩ := hst.enterLoop (P := P) fn #[t] (.region id #[⟨some d, .assign (.tmp t), ty, pos, af, none⟩] false) body
  obtain ⟨rec, hrec⟩ : ∃ rec : LoopState → Option Code → Loop, rec = fun st pe => { state := st, pending := pe, fn, tmps := a.tmps, params := #[t], assign := .region id #[⟨some d, .assign (.tmp t), ty, pos, af, none⟩] false, body, defers := dd } := ⟨_, rfl⟩
  have hl1 : W1.heap[lp]? = some (.loop (rec .ready none)) := by rw [hrec]; exact hl1
  have hasz : a.tmps.size = sz := hst.sz
  let BK : World → Prop := fun W => ∀ k : Nat, k ≠ lp → W1.heap[k]? = some (.deferred (some [])) → W.heap[k]? = some (.deferred (some []))
  let J : List α → World → Prop := fun pre W => Inv pre ∧ W.heap[lp]? = some (.loop (rec .ready none)) ∧ BK W ∧ ∃ σ', StRel C (fun r => r < n) ⟨env, hI pre, n, sz, 64⟩ σ' W a
  let Jx : List α → World → Prop := fun _ W => ∃ (c : Code) (e : Exit) (st' : St), (c = .ret ∧ e = .ret ∨ ∃ i, c = .exit i ∧ e = .exit i) ∧ Q e st' ∧ W.heap[lp]? = some (.loop (rec .done (some c))) ∧ BK W ∧ ∃ σ', StRel C (fun r => r < st'.next) st' σ' W a
  -- the record is turned
  have hput : ∀ {G : Nat → Prop} {st' : St} {σ' : Place} {W : World} {r : Loop} (o' : Loop), StRel C G st' σ' W a → W.heap[lp]? = some (.loop r) → StRel C G st' σ' (W.putObj lp (.loop o')) a ∧ (W.putObj lp (.loop o')).heap[lp]? = some (.loop o') ∧ (BK W → BK (W.putObj lp (.loop o'))) := by
    intro G st' σ' W r o' h1 h2
    refine ⟨h1.putBook h2 rfl hlw hlB hlro (h1.defers.go fun k hk => ?_), World.putObj_heap_same (Array.getElem?_eq_some_iff.1 h2).1, fun hb k hne hk => ?_⟩
    · have hne : k ≠ lp := by rintro rfl; rw [h2] at hk; cases hk
      exact (World.putObj_heap_other hne).trans hk
    · exact (World.putObj_heap_other hne).trans (hb k hne hk)
  refine ⟨lp, mark, W1, { target := .fn (.func gf) us.toArray, args := #[.func (.yield lp) #[] #[]] }, W1, gf, #[.func (.yield lp) #[] #[]] ++ us.toArray, W1, hent, ?_, ?_, ?_, ?_, ?_⟩
  · simp only [resolve, hu]
    simp [Deferred.ofValue, Sem.run_bind, Sem.run_pure, Result.andThen_ok, Act.eval]
  · exact fun _ _ => trivial
  · simp [invoke, run_callFunc hit.1]
  · exact fun h => by cases h
  refine callsIn_fen ?_
  refine (hit.2 us lp J Jx N W1 ?_ ?_ ⟨i0, hl1, fun _ _ h => h, σ, hst1⟩).mono ?_
  · rintro pre W ⟨h1, _, _, σ', h2⟩
    refine ⟨⟨σ', _, hcapsU h2, fun r row hrow => h2.rows r row ?_⟩, hN pre h1⟩
    rw [← lookH_row]; exact hrd pre h1 r row hrow
  · -- a round
    rintro pre x W ⟨hinv, hlW, hbk, σ', hst'⟩ hnx
    have hy := run_yield (P := P) (args := #[enc x]) hlW (by rw [hrec]; rfl)
    refine ⟨_, _, _, _, hy, roundIn_of_wpIn trivial ?_⟩
    obtain ⟨a1, ha1⟩ : ∃ a1 : Act, a1 = (({ tmps := a.tmps.setIfInBounds t (enc x), defers := [] } : Act).put (some d) (({ tmps := a.tmps.setIfInBounds t (enc x), defers := [] } : Act).eval (.tmp t))) := ⟨_, rfl⟩
    have hblt : t < a.tmps.size := by rw [hasz]; exact Nat.le_of_ble_eq_true hdt.2
    have hbld : d < a.tmps.size := by rw [hasz]; exact Nat.le_of_ble_eq_true hdt.1
    have hevt : ({ tmps := a.tmps.setIfInBounds t (enc x), defers := [] } : Act).eval (.tmp t) = enc x := by
      simp [Act.eval, Array.getD_eq_getD_getElem?, Array.getElem?_setIfInBounds_self_of_lt hblt]
    have ha1t : a1.tmps = (a.tmps.setIfInBounds t (enc x)).setIfInBounds d (enc x) := by rw [ha1, hevt]; rfl
    have ha1d : a1.defers = [] := by rw [ha1]; rfl
    have hassign : ∀ (K : Act → World → Prop), K a1 W → (rec .ready none).assign.wpIn (fen (some lp)) 0 P (Exit.then K (fun _ _ _ => False)) { tmps := ((rec .ready none).params.zip #[enc x]).foldl (fun tmps (t, a) => tmps.setIfInBounds t a) (rec .ready none).tmps, defers := [] } W := by
      intro K hK
      rw [hrec]
      refine wpIn_assign1 ?_
      simp only [Exit.then]
      have e1 : ((#[t] : Array Tmp).zip #[enc x]).foldl (fun tmps (t, a) => tmps.setIfInBounds t a) a.tmps = a.tmps.setIfInBounds t (enc x) := by simp
      rw [e1, ← ha1]; exact hK
    refine hassign _ ⟨_, run_beginRound hlW (by rw [hrec]), ?_⟩
    obtain ⟨hst2, hl2, hbk2⟩ := hput { rec .ready none with state := .busy } hst' hlW
    generalize W.putObj lp (.loop { rec .ready none with state := .busy }) = W2 at hst2 hl2 hbk2 ⊢
    replace hbk2 := hbk2 hbk
    -- in
    have hrows := RowsIn.agree (fun r row hr => by rw [← lookH_row]; exact hr) _ (hr pre hinv) (look' := (⟨env, hI pre, n, sz, 64⟩ : St).row)
    have hargs := ArgsA.agree (fun r row hr => by rw [← lookH_row]; exact hr) _ _ (ha pre hinv) (look' := (⟨env, hI pre, n, sz, 64⟩ : St).row)
    obtain ⟨e1, e2, e3⟩ := evL_some hst2 _ as hl
    have hXlt : ∀ b, (⟨env, hI pre, n, sz, 64⟩ : St).X C.X0 σ' b → b < W2.heap.size := by
      rintro b (hx | ⟨r, row, c, h3, h4⟩)
      · have := (hst2.x0 b hx).1; have := hst2.size; omega
      · exact hst2.lt h3 h4
    have hin := hst2.enter (us := (ks.map Operand.tmp).map a.eval) (fun b => (⟨env, hI pre, n, sz, 64⟩ : St).X C.X0 σ' b ∧ ¬ handed (σ'.via (rho l)) (h0 pre) b) (by simpa using e1) e3 e2 hargs hrows (hi pre hinv) (fun b hb => ⟨hXlt b hb.1, hb.2⟩) (fun b hb => hb.1) (.inl hm)
    have hin2 := hin.spread (env' := (d, .d (.sc (enc x))) :: ks.zip avs) (sz' := sz) (a' := a1) (fun i v hv => ?_) (by rw [ha1t]; simpa using hasz) (by rw [ha1d]; trivial)
    rotate_left
    · rw [lk_cons] at hv
      split at hv
      · rename_i e
        subst e
        simp only [Option.some.injEq] at hv
        subst hv
        exact ⟨⟨enc x, by rw [ha1t]; exact Array.getElem?_setIfInBounds_self_of_lt (by simpa using hbld), RelV.sc.2 ⟨rfl, henc x⟩⟩, trivial⟩
      · -- one of the temporaries handed in
        have key : ∀ (ks : List Nat) (avs : List AV) (j : Nat), lk (ks.zip avs) i = some v → ∃ m : Nat, ks[m]? = some i ∧ avs[m]? = some v := by
          intro ks
          induction ks with
          | nil => intro avs j hz; simp [lk] at hz
          | cons k ks ih =>
            intro avs j hz
            cases avs with
            | nil => simp [lk] at hz
            | cons y ys =>
              simp only [List.zip_cons_cons, lk_cons] at hz
              split at hz
              · rename_i e; subst e; simp only [Option.some.injEq] at hz; subst hz; exact ⟨0, rfl, rfl⟩
              · obtain ⟨m, h1, h2⟩ := ih ys 0 hz; exact ⟨m + 1, by simpa using h1, by simpa using h2⟩
        obtain ⟨m, hm1, hm2⟩ := key ks avs 0 hv
        have hav : ∀ (avs : List AV) (k m : Nat), avs[m]? = some v → lk (avEnv k avs) (k + m) = some v := by
          intro avs
          induction avs with
          | nil => intro k m h; simp at h
          | cons y ys ih =>
            intro k m h
            cases m with
            | zero => simp only [List.getElem?_cons_zero, Option.some.injEq] at h; subst h; simp [avEnv, lk_cons]
            | succ m =>
              simp only [avEnv, lk_cons]
              rw [if_neg (by omega), show k + (m + 1) = k + 1 + m by omega]
              exact ih (k + 1) m (by simpa using h)
        have hlk : lk (inSt avs (h0 pre)).env m = some v := by have := hav avs 0 m hm2; simpa [inSt] using this
        obtain ⟨u, hu1, hu2⟩ := hin.env m v hlk
        refine ⟨⟨u, ?_, hu2⟩, hin.envG m v hlk⟩
        have hmem : i ∈ ks := List.mem_of_getElem? hm1
        have hki := List.all_eq_true.1 hks i hmem
        have hid : ¬ i = d := by rintro rfl; simp [show Nat.beq i i = true from Nat.beq_refl i] at hki
        have hit' : ¬ i = t := by rintro rfl; cases hb : Nat.beq i d <;> simp [hb, show Nat.beq i i = true from Nat.beq_refl i] at hki
        have hisz : i < a.tmps.size := by
          rw [hasz]
          have e1 : Nat.beq i d = false := by cases hb : Nat.beq i d; rfl; exact absurd (Nat.eq_of_beq_eq_true hb) hid
          have e2 : Nat.beq i t = false := by cases hb : Nat.beq i t; rfl; exact absurd (Nat.eq_of_beq_eq_true hb) hit'
          simp only [e1, e2, cond_false] at hki
          exact Nat.le_of_ble_eq_true hki
        have hu3 : a.eval (.tmp i) = u := by
          simp only [List.map_map, List.getElem?_toArray, List.getElem?_map, hm1, Option.map_some, Option.some.injEq, Function.comp] at hu1
          exact hu1
        rw [ha1t, Array.getElem?_setIfInBounds_ne (Ne.symm hid), Array.getElem?_setIfInBounds_ne (Ne.symm hit')]
        rw [← hu3]
        simp [Act.eval, Array.getD_eq_getD_getElem?, hisz]
    have hin3 := hin2.inRo (some lp) (fun l1 h1 => by cases h1; exact ⟨_, hl2⟩) (by rw [ha1d]; trivial)
    rw [show (rec .ready none).body = body by rw [hrec]]
    refine wpIn_mono (hbody pre x hinv hnx _ _ _ _ hin3) ?_
    -- out
    have out : ∀ (st'' : St) (σ'' : Place) (a'' : Act) (W3 : World) (rows : List (Nat × Row)) (l1 : Names), Le l1 st'' ⟨[], someRows rows, 72, sz, 64⟩ →
        StRel { B := W2.heap.size, w0 := W2, X0 := fun b => (⟨env, hI pre, n, sz, 64⟩ : St).X C.X0 σ' b ∧ ¬ handed (σ'.via (rho l)) (h0 pre) b, M := handed (σ'.via (rho l)) (h0 pre), bs := 64, σ0 := σ'.via (rho l), ro := some lp } (fun r => r < st''.next) st'' σ'' W3 a'' →
        ∃ σ3, StRel C (fun r => r < n + 8) ⟨env, callUpd l n (h0 pre) rows ++ hI pre, n + 8, sz, 64⟩ σ3 W3 a ∧ W3.heap[lp]? = some (.loop { rec .ready none with state := .busy }) ∧ BK W3 := by
      intro st'' σ'' a'' W3 rows l1 hle hs
      have h1 := hs.le hle
      have h2 := h1.spread (env' := [(0, .d (.sc (.bool true)))]) (sz' := 1) (a' := ⟨#[.bool true], []⟩) (fun i v hv => by
        simp only [lk_cons] at hv
        split at hv
        · rename_i e
          subst e
          simp only [Option.some.injEq] at hv
          subst hv
          exact ⟨⟨_, rfl, RelV.sc.2 ⟨rfl, rfl⟩⟩, trivial⟩
        · simp [lk] at hv) rfl trivial
      have h3 := h2.inRo none (fun _ h => by cases h) trivial
      obtain ⟨σ3, h4, _, _⟩ := hst2.leave (n := n) (v := .bool true) (res := .d (.sc (.bool true))) (rows := rows) (X1 := fun b => (⟨env, hI pre, n, sz, 64⟩ : St).X C.X0 σ' b ∧ ¬ handed (σ'.via (rho l)) (h0 pre) b) (fun r h1 h2 h3 => Nat.not_lt.2 h1 h3) rfl hrows (hk pre hinv) (.inl fun b h1 h2 => ⟨h1, h2⟩) h3
      refine ⟨σ3, ?_, hs.below.book _ _ hl2 rfl, fun k hne hk1 => hs.below.book _ _ (hbk2 k hne hk1) rfl⟩
      have h5 := h4.grow (G' := fun r => r < n + 8) (fun r hr => by rcases hr with hr | hr <;> (try simp only at hr) <;> omega)
      exact { h5 with }
    rintro e a'' W3 ⟨st'', σ'', hq, hs⟩
    cases e with
    | normal =>
      obtain ⟨rows, l1, l2, hle1, hinv', hle2⟩ := hq
      obtain ⟨σ3, h1, h2, h3⟩ := out st'' σ'' a'' W3 rows l1 hle1 hs
      have h4 := h1.le hle2
      have hend := run_endRound (P := P) none h2
      obtain ⟨h5, h6, h7⟩ := hput { { rec .ready none with state := .busy } with state := if (none : Option Code).isNone then .ready else .done, pending := none } h4 h2
      exact ⟨_, _, hend, .inl ⟨rfl, hinv', by rw [h6, hrec]; rfl, h7 h3, _, h5⟩⟩
    | ret =>
      obtain ⟨rows, l1, hle1, hQ⟩ := hq
      obtain ⟨σ3, h1, h2, h3⟩ := out st'' σ'' a'' W3 rows l1 hle1 hs
      have hend := run_endRound (P := P) (some .ret) h2
      obtain ⟨h5, h6, h7⟩ := hput { { rec .ready none with state := .busy } with state := if (some Code.ret : Option Code).isNone then .ready else .done, pending := some .ret } h1 h2
      exact ⟨_, _, hend, .inr ⟨rfl, .ret, .ret, _, .inl ⟨rfl, rfl⟩, hQ, by rw [h6, hrec]; rfl, h7 h3, _, h5⟩⟩
    | exit i =>
      obtain ⟨rows, l1, hle1, hQ⟩ := hq
      obtain ⟨σ3, h1, h2, h3⟩ := out st'' σ'' a'' W3 rows l1 hle1 hs
      have hend := run_endRound (P := P) (some (.exit i)) h2
      obtain ⟨h5, h6, h7⟩ := hput { { rec .ready none with state := .busy } with state := if (some (Code.exit i) : Option Code).isNone then .ready else .done, pending := some (.exit i) } h1 h2
      exact ⟨_, _, hend, .inr ⟨rfl, .exit i, .exit i, _, .inr ⟨i, rfl, rfl⟩, hQ, by rw [h6, hrec]; rfl, h7 h3, _, h5⟩⟩
    | goto t => exact hq.elim
    | panic ch => exact hq.elim
    | outgrown => exact hq.elim
  · -- behind the loop
    have fin : ∀ {G : Nat → Prop} {st' : St} {σ' : Place} {W : World} (o' : Loop) {r : Loop}, StRel C G st' σ' W a → W.heap[lp]? = some (.loop r) → BK W → StRel C G st' σ' (W.putObj lp (.loop o')) { a with defers := mark ++ a.defers } := by
      intro G st' σ' W o' r h1 h2 h3
      exact h1.putBook h2 rfl hlw hlB hlro (hmark _ fun k hne hk => (World.putObj_heap_other hne).trans (h3 k hne hk))
    rintro e W' ⟨⟨v, rfl⟩, ⟨pre, hd, hinv, hlW, hbk, σ', hst'⟩ | ⟨pre, c, e, st', hce, hQ, hlW, hbk, σ', hst'⟩⟩
    · exact ⟨none, _, by have := run_endLoop (P := P) hlW (by rw [hrec]; simp); rw [this]; rw [hrec], ⟨_, σ', hdone pre hinv hd, fin _ hst' hlW hbk⟩⟩
    · refine ⟨some c, _, by have := run_endLoop (P := P) hlW (by rw [hrec]; simp); rw [this]; rw [hrec], ?_⟩
      rcases hce with ⟨rfl, rfl⟩ | ⟨i, rfl, rfl⟩
      · exact wpIn_ret ⟨_, σ', hQ, fin _ hst' hlW hbk⟩
      · exact wpIn_exit ⟨_, σ', hQ, fin _ hst' hlW hbk⟩

end

section
variable {Q : Exit → St → Prop} {l : Names} {n sz : Nat} {h0 : List (Nat × Row)} {env : Env} {h h' : Upds} {Inv' : Prop} {st : St}
theorem rnd_n (rows : List (Nat × Row)) (l1 l2 : Names) (h1 : Le l1 st ⟨[], someRows rows, 72, sz, 64⟩) (h2 : Inv') (h3 : Le l2 ⟨env, callUpd l n h0 rows ++ h, n + 8, sz, 64⟩ ⟨env, h', n, sz, 64⟩) : RoundQ Q l n sz h0 env h h' Inv' .normal st := ⟨rows, l1, l2, h1, h2, h3⟩
theorem rnd_x {i : Nat} (rows : List (Nat × Row)) (l1 : Names) (h1 : Le l1 st ⟨[], someRows rows, 72, sz, 64⟩) (h2 : Q (.exit i) ⟨env, callUpd l n h0 rows ++ h, n + 8, sz, 64⟩) : RoundQ Q l n sz h0 env h h' Inv' (.exit i) st := ⟨rows, l1, h1, h2⟩
theorem rnd_r (rows : List (Nat × Row)) (l1 : Names) (h1 : Le l1 st ⟨[], someRows rows, 72, sz, 64⟩) (h2 : Q .ret ⟨env, callUpd l n h0 rows ++ h, n + 8, sz, 64⟩) : RoundQ Q l n sz h0 env h h' Inv' .ret st := ⟨rows, l1, h1, h2⟩
end
end Go.Eng

/- More arguments; results that do not hang on who owns what. -/
namespace Go.Eng
open Go.RowKit

theorem arg_ptr {look : Nat → Option Row} {ρ : Nat → Option Nat} {r k : Nat} {p : List Step} {as avs : List AV} (hr : ρ r = some k) (h64 : Nat.blt r 64 = true) (h : ArgsA look ρ as avs) : ArgsA look ρ (.ptr k p :: as) (.ptr r p :: avs) :=
  ⟨_, avs, rfl, ⟨rfl, h64⟩, AVLe.of_eq (by simp only [AV.ren, hr]), h⟩
/-- A function value with one captured variable. -/
theorem arg_fn1 {look : Nat → Option Row} {ρ : Nat → Option Nat} {f : Fn} {r k : Nat} {p : List Step} {as avs : List AV} (hr : ρ r = some k) (h64 : Nat.blt r 64 = true) (h : ArgsA look ρ as avs) :
    ArgsA look ρ (.fn f .anil (.acons (.ptr k p) .anil) :: as) (.fn f .anil (.acons (.ptr r p) .anil) :: avs) :=
  ⟨_, avs, rfl, ⟨rfl, by simp [AV.lt, h64]⟩, AVLe.of_eq (by simp only [AV.ren, hr]), h⟩
/-- An owned slice handed over. -/
theorem arg_give {look : Nat → Option Row} {ρ : Nat → Option Nat} {r k off len s : Nat} {cap : Option Nat} {as avs : List AV} (hr : ρ r = some k) (h64 : Nat.blt r 64 = true) (h : ArgsA look ρ as avs) :
    ArgsA look ρ (.own k off len s cap :: as) (.own r off len s cap :: avs) :=
  ⟨_, avs, rfl, ⟨rfl, h64⟩, AVLe.of_eq (by simp only [AV.ren, hr]), h⟩

def D.plain : D → Prop
  | .sc _ => True
  | .nil => True
  | .cons a r => a.plain ∧ r.plain
  | .vec _ _ enc _ => ∀ x, (enc x).plain
  | .arr .. => False
  | .pt _ => False
  | .arx .. => False

def AV.plain : AV → Prop
  | .d x => x.plain
  | .anil => True
  | .acons a r => a.plain ∧ r.plain
  | .own .. => True
  | .ptr .. => True
  | .asl .. => True
  | .mapr .. => True
  | .tup q => q.plain
  | _ => False

def Row.plain : Row → Prop
  | .box _ a => a.plain
  | .ds _ _ _ enc _ => ∀ x, (enc x).plain
  | .lits _ _ _ _ a => a.plain
  | .mo a => a.plain

section
variable {w : World} {σ : Place} {X X' : Nat → Prop}

theorem Enc.plain : ∀ (d : D) (cs : List Value), d.plain → Enc w X d cs → Enc w X' d cs := by
  intro d
  induction d with
  | sc v => intro cs _ h; exact h
  | nil => intro cs _ h; exact h
  | cons a r iha ihr =>
    rintro cs ⟨p1, p2⟩ ⟨c1, c2, rfl, h1, h2⟩
    exact ⟨c1, c2, rfl, iha _ p1 h1, ihr _ p2 h2⟩
  | vec n s enc xs ih =>
    rintro cs p ⟨hn, f, hf, rfl⟩
    exact ⟨hn, f, fun i hi => ⟨ih _ _ (p _) (hf i hi).1, (hf i hi).2⟩, rfl⟩
  | arr s enc xs ih => intro cs p; exact p.elim
  | pt x ih => intro cs p; exact p.elim
  | arx s enc xs ih => intro cs p; exact p.elim

theorem Rel.plain : ∀ (a : AV) (m : Bool) (cs : List Value), a.plain → Rel σ w X a m cs → Rel σ w X' a m cs := by
  intro a
  induction a with
  | d x => intro m cs p h; exact Enc.plain x cs p h
  | anil => intro m cs _ h; exact h
  | acons a r iha ihr =>
    rintro m cs ⟨p1, p2⟩ h
    cases m with
    | false =>
      obtain ⟨c1, c2, rfl, h1, h2⟩ := h
      exact ⟨c1, c2, rfl, iha _ _ p1 h1, ihr _ _ p2 h2⟩
    | true =>
      obtain ⟨v, us, rfl, h1, h2⟩ := h
      refine ⟨v, us, rfl, ?_, ihr _ _ p2 h2⟩
      split at h1 <;> rename_i hag
      · obtain ⟨c, rfl, hc⟩ := h1
        rw [if_pos hag]
        exact ⟨c, rfl, iha _ _ p1 hc⟩
      · rw [if_neg hag]
        exact iha _ _ p1 h1
  | own r off len s cap => intro m cs _ h; exact h
  | ptr r p => intro m cs _ h; exact h
  | asl r p l k => intro m cs _ h; exact h
  | mapr r => intro m cs _ h; exact h
  | tup q ih =>
    rintro m cs p ⟨vs, rfl, h1⟩
    exact ⟨vs, rfl, ih _ _ p h1⟩
  | _ => intro m cs p; exact p.elim

theorem PlainRes.of {res : AV} {rows : List (Nat × Row)} (h1 : res.plain) (h2 : ∀ r row, lk rows r = some row → row.plain) : PlainRes res rows := by
  intro σ w X X'
  refine ⟨fun v hv => ?_, fun r row hr hrow => ?_⟩
  · unfold RelV at hv ⊢
    split at hv <;> rename_i hag
    · obtain ⟨c, rfl, hc⟩ := hv
      rw [if_pos hag]
      exact ⟨c, rfl, Rel.plain _ _ _ h1 hc⟩
    · rw [if_neg hag]
      exact Rel.plain _ _ _ h1 hv
  · have hp := h2 r row hr
    cases row with
    | box t a =>
      obtain ⟨hf, b, cs, h3, h4, h5⟩ := hrow
      exact ⟨hf, b, cs, h3, h4, Rel.plain _ _ _ hp h5⟩
    | ds t s ex enc xs =>
      rcases hrow with h | ⟨b, c, cur, h3, h0, h4, h5, h6, h7, f, hf, h8⟩
      · exact .inl h
      · exact .inr ⟨b, c, cur, h3, h0, h4, h5, h6, h7, f, fun i hi => ⟨Enc.plain _ _ (hp _) (hf i hi).1, (hf i hi).2⟩, h8⟩
    | lits t s n ex a =>
      rcases hrow with ⟨hf, h | ⟨b, c, cur, cs, h3, h0, h4, h5, h6, h7, h8, h9, h10⟩⟩
      · exact ⟨hf, .inl h⟩
      · exact ⟨hf, .inr ⟨b, c, cur, cs, h3, h0, h4, h5, h6, h7, h8, Rel.plain _ _ _ hp h9, h10⟩⟩
    | mo a =>
      obtain ⟨b, es, h0, h3, h4, h5⟩ := hrow
      exact ⟨b, es, h0, h3, h4, Rel.plain _ _ _ hp h5⟩

theorem plain_rows_nil : ∀ r row, lk ([] : List (Nat × Row)) r = some row → row.plain := fun _ _ h => by cases h
theorem plain_rows_cons {r0 : Nat} {row0 : Row} {l : List (Nat × Row)} (h : row0.plain) (hl : ∀ r row, lk l r = some row → row.plain) : ∀ r row, lk ((r0, row0) :: l) r = some row → row.plain := fun r row hr => by
  rw [lk_cons] at hr
  split at hr
  · cases hr; exact h
  · exact hl r row hr
end

section
variable {P : Program} {T : Tab} {env : Env} {h : Upds} {n : Nat}
/-- A call that is handed rows and hands them back, each under its name. -/
theorem call_h {f : Operand} {args : Array Operand} {ts : Array TypeId} {g : FuncId} {caps : AV} {as avs : List AV} {h0 rows : List (Nat × Row)} {res v : AV} {u : Upds} (l : Names)
    (hfn : FnIs P g avs h0 res rows) (hf : evalA env f = some (.fn (.func g) .anil caps)) (hl : evL (evalA env) args.toList = some as) (hc2 : caps.chain = true)
    (ha : ArgsA (lookH h) (rho l) (as ++ chainL caps) avs) (hr : RowsIn (lookH h) l h0) (hi : injOn (rho l) (keysOf h0) = true) (hk : keysIn l h0 = true)
    (hm : noBorrow (as ++ chainL caps) avs = true ∨ h0 = [] ∧ PlainRes res rows) (hv : res.ren (outRho l n) = v) (hu : callUpd l n h0 rows = u) :
    StepIs P (.call { callee := .value f, args := args, argTypes := ts }) env h n (some v) u := by
  have := StepIs.call (n := n) (ts := ts) (h0 := h0) (rows := rows) (res := res) l hfn hf hl rfl hc2 ha hr hi hk hm
  rw [hv, hu] at this
  exact this
end
end Go.Eng

/- Arrays that are built of their elements. -/
namespace Go.Eng
open Go.RowKit

/-- n times one datum, as a chain. -/
def manyD (z : D) : Nat → D
  | 0 => .nil
  | n + 1 => .cons z (manyD z n)

section
variable {P : Program} {T : Tab} {sz : Nat} {env : Env} {h : Upds} {n : Nat}

theorem build_arr_of (hT : TabOk P T) {t e len : Nat} {r re : TyR} {parts : Array (Nat × Operand)} {dq : D} (ht : lk T t = some r) (hd : r.desc = .array len e) (he : lk T e = some re) (hok : (manyD re.zero len).okC = true) (hzf : (manyD re.zero len).flatC = r.zero.flatC)
    (hq : buildF T (offsOf re.size e 0 len) (evalA env) parts.toList (.d (manyD re.zero len)) = some (.d dq)) (hag : dq.isAgg = true) : StepIs P (.build t parts) env h n (some (.d dq)) [] := .of_comes fun C G st σ w a o ho hA hdst hst hn => by
  obtain ⟨u, hu, hdu⟩ := (hT t r ht).und
  rw [hd] at hdu
  cases hdu
  obtain ⟨z, hz, hzc⟩ := (hT t r ht).run_zero w
  have henc : Rel σ w (st.X C.X0 σ) (.d (manyD re.zero len)) false z.cells.toList := by rw [← hzc, ← hzf]; exact Enc.closed _ _ _ hok
  obtain ⟨cs', hfill, h1, h2, h3⟩ := buildF_sound hT hst hA (pl := fun i => some (i * re.size, re.size)) (fun k o t' r' ho hr' => by
    obtain ⟨h4, h5, _⟩ := offsOf_at len 0 k o t' ho
    subst h5
    rw [he] at hr'
    cases hr'
    rw [h4, Nat.zero_add]) parts.toList (.d (manyD re.zero len)) (.d dq) z.cells.toList hq rfl trivial henc
  refine .quiet (u := .agg cs'.toArray) hst hdst ⟨rfl, rfl⟩ ?_ (by unfold RelV; rw [if_pos (show (AV.d dq).isAgg = true from hag)]; exact ⟨cs', rfl, h1⟩) h3
  have hcs : z.cells.toList.toArray = z.cells := by simp
  have hpt : (parts.map fun x => (x.1, a.eval x.2)).toList = parts.toList.map fun x => (x.1, a.eval x.2) := by simp
  rw [hcs, ← hpt] at hfill
  have hb : (Instr.build t (parts.map fun x => (x.1, a.eval x.2))).run P w = .ok (.agg cs'.toArray) w := by
    simp only [Instr.build, Sem.run_bind, hz, Result.andThen_ok, run_underlying hu, (hT e re he).run_size, hfill, Sem.run_pure]
  simp only [execOp, ho, Sem.run_bind]
  rw [show (parts.map fun (x : Nat × Operand) => match x with | (i, x) => (i, a.eval x)) = parts.map fun x => (x.1, a.eval x.2) from rfl, hb]
  rfl

/-- An element of an array. -/
theorem index_vec (hT : TabOk P T) {t l e : Nat} {re : TyR} {x i : Operand} {d z : D} {k : IntKind} {m : Int} (ht : tdesc T t = some (.array l e)) (he : lk T e = some re) (hx : evalA env x = some (.d d)) (hi : evalA env i = some (.int k m)) (hag : d.isAgg = true) (h0 : 0 ≤ m) (h1 : m < l)
    (hz : Sub d [.idx m.toNat re.size] z) (hs : sizeOk T e (.d z) = true) : StepIs P (.index t x i) env h n (some (.d z)) [] := .of_opD hT fun K hK => by
  simp only [opD, ht, hx, hi, he, hag]
  exact ⟨h0, h1, z, hz, by rw [hs]; exact hK⟩
end
end Go.Eng

/- More arguments. -/
namespace Go.Eng
open Go.RowKit
/-- A slice that the caller owns, lent; its length is told apart. -/
theorem arg_ownL {look : Nat → Option Row} {ρ : Nat → Option Nat} {α : Type} {s r len : Nat} {te : TypeId} {ex : Bool} {cap : Option Nat} {enc : α → D} {xs : List α} {as avs : List AV} (hr : look r = some (.ds te s ex enc xs)) (hl : len = xs.length) (h : ArgsA look ρ as avs) :
    ArgsA look ρ (.own r 0 len s cap :: as) (.d (.arr s enc xs) :: avs) := by subst hl; exact arg_own hr h
/-- A struct with one slice that the caller owns. -/
theorem arg_st {look : Nat → Option Row} {ρ : Nat → Option Nat} {α : Type} {s r : Nat} {te : TypeId} {ex : Bool} {cap : Option Nat} {enc : α → D} {xs : List α} {as avs : List AV} (hr : look r = some (.ds te s ex enc xs)) (h : ArgsA look ρ as avs) :
    ArgsA look ρ (.acons (.own r 0 xs.length s cap) (.d .nil) :: as) (.d (.cons (.arr s enc xs) .nil) :: avs) :=
  ⟨_, avs, rfl, ⟨rfl, rfl⟩, ⟨rfl, _, _, rfl, by simp only [ArgD, hr]; exact ⟨trivial, by simp, xs, by simp, .refl _⟩, DLe.refl _⟩, h⟩

/-- Elements that are written out, as a list. -/
def chainD {α : Type} (enc : α → D) : List α → AV
  | [] => .anil
  | x :: xs => .acons (.d (enc x)) (chainD enc xs)

theorem chainD_rel {α : Type} {σ : Place} {w : World} {X : Nat → Prop} {enc : α → D} {s : Nat} (hs : ∀ x, (enc x).size = s) : ∀ (xs : List α) (cs : List Value), Rel σ w X (chainD enc xs) false cs →
    ∃ f : Nat → List Value, (∀ i (h : i < xs.length), Enc w X (enc xs[i]) (f i) ∧ (f i).length = s) ∧ cs = cat f xs.length := by
  intro xs
  induction xs with
  | nil => rintro cs rfl; exact ⟨fun _ => [], fun i hi => absurd hi (Nat.not_lt_zero _), rfl⟩
  | cons x xs ih =>
    rintro cs ⟨c1, c2, rfl, h1, h2⟩
    obtain ⟨f, hf, rfl⟩ := ih c2 h2
    refine ⟨fun i => match i with | 0 => c1 | j + 1 => f j, fun i hi => ?_, ?_⟩
    · cases i with
      | zero => exact ⟨h1, by rw [Enc.len _ _ h1, hs]⟩
      | succ j => exact hf j (by simpa using hi)
    · rw [List.length_cons, Nat.add_comm, cat_add]
      have : (fun i => (match 1 + i with | 0 => c1 | j + 1 => f j : List Value)) = f := by funext i; rw [Nat.add_comm]
      simp only [this, cat, List.nil_append]

theorem RowLe.lits_ds {α : Type} {t s n : Nat} {ex : Bool} {enc : α → D} {xs : List α} (hs : ∀ x, (enc x).size = s) (hn : n = xs.length) : RowLe (.lits t s n ex (chainD enc xs)) (.ds t s ex enc xs) := by
  subst hn
  rintro σ w X r ⟨_, ⟨h1, h2⟩ | ⟨b, c, cur, cs, h1, h0, h2, h3, h4, h5, h6, h7, h8⟩⟩
  · exact .inl ⟨h1, List.eq_nil_of_length_eq_zero h2⟩
  · obtain ⟨f, hf, rfl⟩ := chainD_rel hs xs cs h7
    exact .inr ⟨b, c, cur, h1, h0, h2, h3, h4, h5, f, hf, h8⟩
end Go.Eng
