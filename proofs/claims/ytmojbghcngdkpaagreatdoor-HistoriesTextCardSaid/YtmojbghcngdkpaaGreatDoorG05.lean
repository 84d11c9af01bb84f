/- Texts of the proof: HDat, Eng86, Eng85, H1, H2, H3, H4, H5, HR, H6, H7, H8, H9, H10, H11, H14, H15, H16, HT, H12, HV, Eng88, Eng87, Eng89. -/
import Derived.Test.YtmojbghcngdkpaaGreatDoorG03
import Derived.Test.YtmojbghcngdkpaaGreatDoorG02
import Derived.Test.YtmojbghcngdkpaaGreatDoorG04
import Derived.Maps.RangeRun

set_option linter.unusedVariables false
set_option linter.unusedSimpArgs false
set_option linter.unusedSectionVars false

namespace Go.Proofs.YtmojbghcngdkpaaGreatDoor
open Go.Eng Go.Plain
abbrev encBk (l : List UInt8) : D := .vec 32 1 encU8 (byI l)
structure HEv where
  kind : Int
  client : Int
  op : POp
  value : List UInt8
  err : Int
  deriving DecidableEq
structure HEv.Ok (x : HEv) : Prop where
  kind : 0 ≤ x.kind ∧ x.kind ≤ 255
  client : -9223372036854775808 ≤ x.client ∧ x.client ≤ 9223372036854775807
  op : x.op.Ok
  value : x.value.length = 32
  err : -9223372036854775808 ≤ x.err ∧ x.err ≤ 9223372036854775807
def encEv (x : HEv) : D := .cons (u8s x.kind) (.cons (i6 x.client) (.cons (encPOp x.op) (.cons (encBk x.value) (.cons (i6 x.err) .nil))))
abbrev encH (l : List HEv) : D := .arr 38 encEv l
abbrev encHL (l : List (List HEv)) : D := .arr 1 encH l
def zBk : List UInt8 := [0, 0, 0, 0, 0, 0, 0, 0, 0, 0, 0, 0, 0, 0, 0, 0, 0, 0, 0, 0, 0, 0, 0, 0, 0, 0, 0, 0, 0, 0, 0, 0]
def zOp : POp := ⟨0, 0, []⟩
structure HOp where
  client : Int
  number : Int
  era : Int
  op : POp
  invoked : Int
  returned : Int
  value : List UInt8
  err : Int
  deriving DecidableEq
def encOpn (x : HOp) : D := .cons (i6 x.client) (.cons (i6 x.number) (.cons (i6 x.era) (.cons (encPOp x.op) (.cons (i6 x.invoked) (.cons (i6 x.returned) (.cons (encBk x.value) (.cons (i6 x.err) .nil)))))))
abbrev encOps (l : List HOp) : D := .arr 41 encOpn l
theorem byI_inj {a b : List UInt8} : byI a = byI b ↔ a = b := by
  constructor
  · intro h
    induction a generalizing b with
    | nil => cases b with
      | nil => rfl
      | cons y b => simp [byI] at h
    | cons x a ih => cases b with
      | nil => simp [byI] at h
      | cons y b =>
        simp only [byI, List.map_cons, List.cons.injEq] at h
        rw [ih h.2, UInt8.toNat_inj.1 (Int.ofNat.inj h.1)]
  · rintro rfl; rfl
theorem block_eq (a b : List UInt8) : EqOk Tryz.prog 2 52 (encBk a) (encBk b) (decide (a = b)) :=
  (eq_vec tab_ok (P := Tryz.prog) Tryz.underlying52 rfl (fun _ => rfl) rfl (fun _ _ => eq_int (P := Tryz.prog) Tryz.underlying5)).cast (decide_eq_decide.2 byI_inj)
end Go.Proofs.YtmojbghcngdkpaaGreatDoor

namespace Go.Eng
open Go.RowKit
section
variable {P : Program} {T : Tab} {env : Env} {h : Upds} {n : Nat}
theorem clear_asl (hT : TabOk P T) {t e r L cap : Nat} {re : TyR} {s : Nat} {α : Type} {enc : α → D} (z : α) {x : Operand} {p : List Step} {row row' : Row} (ht : tdesc T t = some (.slice e)) (he : lk T e = some re) (hs : Nat.beq re.size s = true) (hs0 : Nat.blt 0 s = true) (hz : re.zero = enc z)
    (hx : evalA env x = some (.asl r p L cap)) (hrow : lookH h r = some row) (hL : Nat.blt 0 L = true) (hu : RUpd row p (.d (.vec L s enc (List.replicate L z))) row') :
    StepIs P (.call { callee := .builtin .clear, args := #[x], argTypes := #[t] }) env h n none [(r, some row')] := .of_comes fun C G st σ w a o ho hA hd hst hn => by
  have hs0 := Nat.le_of_ble_eq_true hs0
  have hL := Nat.le_of_ble_eq_true hL
  have hs := Nat.eq_of_beq_eq_true hs
  obtain ⟨ud, hud, hdd⟩ := tdesc_und hT ht
  cases hdd
  obtain ⟨hx1, hx2⟩ := ev_sound hst (hA.ev hx)
  have hrow := hA.row _ _ hrow
  obtain ⟨b, c, hb, hux⟩ := RelV.asl.1 hx1
  obtain ⟨zv, hzr, hzv⟩ := (hT e re he).run_zero w
  have hzl : zv.cells.toList.length = s := by
    have h1 := Enc.len _ _ (Enc.closed w (fun _ => False) _ (hT e re he).zero)
    rw [hzv, (hT e re he).zsize, hs] at h1
    exact h1
  have henc : Enc w (st.X C.X0 σ) (enc z) zv.cells.toList := by rw [← hz, ← hzv]; exact Enc.closed _ _ _ (hT e re he).zero
  have hm' : Rel σ w (st.X C.X0 σ) (.d (.vec L s enc (List.replicate L z))) false (cat (fun _ => zv.cells.toList) L) :=
    ⟨by simp, fun _ => zv.cells.toList, fun i hi => ⟨by simpa using henc, hzl⟩, rfl⟩
  obtain ⟨b', c', cur, t2, A, m, C', hb', hh, ⟨hcur, hA2⟩, hml, hnew⟩ := RUpd.cells hu (hst.rows r row hrow) rfl hm' (hst.rowsG r row hrow).2 trivial
  rw [hb] at hb'
  cases hb'
  have hw := hst.write (new := (A ++ cat (fun _ => zv.cells.toList) L ++ C').toArray) hrow hb hh (RUpd.within (hst.rowsG r row hrow).2 (show (AV.d (.vec L s enc (List.replicate L z))).within G from trivial) hu) (fun w' ht hd' hh' => hnew w' ht hd' hh')
  have hfl : (cat (fun _ => zv.cells.toList) L).length = L * s := cat_len _ fun _ _ => hzl
  have hone : ∀ u ∈ cat (fun _ => zv.cells.toList) L, u.oneCell' = true := fun u hu => by
    obtain ⟨k, hk, hu⟩ := cat_mem _ hu
    exact Enc.one _ _ henc u hu
  have hmade : (Builtin.zeroCells zv.cells L).toList = cat (fun _ => zv.cells.toList) L := by
    have := made_cells zv.cells.toList (by omega) L
    rw [cat_const, ← this]
    simp [Builtin.zeroCells]
  have hst1 : (storeCells ⟨b, pathOff p, none⟩ (cat (fun _ => zv.cells.toList) L) 0).run P w = .ok () (w.setRow b (A ++ cat (fun _ => zv.cells.toList) L ++ C').toArray) := by
    have hcl : cur.size = A.length + m.length + C'.length := by
      have := congrArg List.length hcur
      simp at this; omega
    rw [run_storeCells_at P b (pathOff p) t2 _ 0 cur w hh (by omega) hone]
    congr 3
    rw [hcur]
    have e1 : List.take (pathOff p + 0) (A ++ m ++ C') = A := by rw [← hA2]; simp
    have e2 : List.drop (pathOff p + 0 + (cat (fun _ => zv.cells.toList) L).length) (A ++ m ++ C') = C' := by
      rw [← hml, ← hA2, Nat.add_zero, ← List.length_append, List.drop_left]
    rw [e1, e2]
  have hrun : (Builtin.clear_ #[t] o.type #[a.eval x]).run P w = .ok (.tuple #[]) (w.setRow b (A ++ cat (fun _ => zv.cells.toList) L ++ C').toArray) := by
    obtain ⟨k, rfl⟩ : ∃ k, L = k + 1 := ⟨L - 1, by omega⟩
    simp [Builtin.clear_, hux, run_underlying hud, hzr, hmade, hst1]
  refine ⟨none, _, .value (.tuple #[]), undef, w.setRow b (A ++ cat (fun _ => zv.cells.toList) L ++ C').toArray, σ, G, ⟨rfl, rfl⟩, ?_, .inl rfl, ?_, fun _ h => h, fun _ h => .inl h⟩
  · simp [execOp, ho, resolve, invoke, builtin, hrun]
  · rw [St.put_upd]
    exact hw.set hd (v := none) (undef_rel _ _ _) trivial
theorem call_b {f : Operand} {args : Array Operand} {ts : Array TypeId} {g : FuncId} {first caps : AV} {bs9 avs : List AV} {h0 rows : List (Nat × Row)} {res v : AV} {u : Upds} (l : Names)
    (hfn : FnIs P g avs h0 res rows) (hf : evalA env f = some (.fn (.func g) first caps)) (hl : evL (evalA env) args.toList = some bs9) (hc1 : first.chain = true) (hc2 : caps.chain = true)
    (ha : ArgsA (lookH h) (rho l) (chainL first ++ (bs9 ++ chainL caps)) avs) (hr : RowsIn (lookH h) l h0) (hi : injOn (rho l) (keysOf h0) = true) (hk : keysIn l h0 = true)
    (hm : noBorrow (chainL first ++ (bs9 ++ chainL caps)) avs = true ∨ h0 = [] ∧ PlainRes res rows) (hv : res.ren (outRho l n) = v) (hu : callUpd l n h0 rows = u) :
    StepIs P (.call { callee := .value f, args := args, argTypes := ts }) env h n (some v) u := by
  have := StepIs.call (n := n) (ts := ts) (h0 := h0) (rows := rows) (res := res) l hfn hf hl hc1 hc2 ha hr hi hk hm
  rw [hv, hu] at this
  exact this
theorem arg_fnb {look : Nat → Option Row} {ρ : Nat → Option Nat} {f : Fn} {r k : Nat} {p : List Step} {bs9 avs : List AV} (hr : ρ r = some k) (h64 : Nat.blt r 64 = true) (h : ArgsA look ρ bs9 avs) :
    ArgsA look ρ (.fn f (.acons (.ptr k p) .anil) .anil :: bs9) (.fn f (.acons (.ptr r p) .anil) .anil :: avs) :=
  ⟨_, avs, rfl, ⟨rfl, by simp [AV.lt, h64]⟩, AVLe.of_eq (by simp only [AV.ren, hr]), h⟩
end
theorem RowLe.ds_map {t : TypeId} {s : Nat} {ex : Bool} {α β : Type} {enc : α → D} {enc' : β → D} (g : α → β) {xs : List α} {ys : List β} (hy : ys = xs.map g) (hg : ∀ x ∈ xs, DLe (enc x) (enc' (g x))) : RowLe (.ds t s ex enc xs) (.ds t s ex enc' ys) := by
  subst hy
  intro σ w X r h
  rcases h with ⟨h1, rfl⟩ | ⟨b, c, cur, h1, h0, h2, h3, h4, h5, f, hf, h6⟩
  · exact .inl ⟨h1, rfl⟩
  · refine .inr ⟨b, c, cur, h1, by rw [List.length_map]; exact h0, h2, h3, by rw [List.length_map]; exact h4, h5, f, fun i hi => ?_, by rw [List.length_map]; exact h6⟩
    rw [List.length_map] at hi
    refine ⟨?_, (hf i hi).2⟩
    rw [List.getElem_map]
    exact hg _ (List.getElem_mem _) _ _ _ (hf i hi).1
end Go.Eng

namespace Go.Eng
open Go.RowKit
theorem Frz.ownxe {r te s : Nat} {α : Type} {enc : α → D} {xs : List α} {len : Nat} (hl : len = xs.length) : Frz r (.ds te s true enc xs) (.own r 0 len s none) (.d (.arx s enc xs)) := by
  subst hl
  refine ⟨rfl, fun _ => rfl, fun _ _ => trivial, fun σ w X X' hx hn hr cs h => ?_⟩
  rcases h with ⟨h0, _, hl, _, rfl⟩ | ⟨b, c, ad, hb, rfl, hle1, hle2, hle3, had⟩
  · exact .inl ⟨List.eq_nil_of_length_eq_zero hl, none, rfl⟩
  · rcases hr with ⟨h0, rfl⟩ | ⟨b', c', cur, hb', hex, hh, hsz, hlen, hmax, f, hf, htake⟩
    · rw [hb] at h0; cases h0
    · rw [hb] at hb'
      cases hb'
      have hc : c = xs.length := hex rfl
      subst hc
      refine .inr ⟨ad, by simp, hmax, f, fun i hi => ?_⟩
      obtain ⟨h1, h2⟩ := hf i hi
      have hoff : ad = ⟨b, 0 * s, none⟩ := had (by omega)
      subst hoff
      refine ⟨Enc.sub hx _ _ h1, h2, fun j u hj => ⟨?_, hn b _ hb⟩⟩
      rw [add_mk, cell_of_row w b _ cur te (0, 0) hh]
      have hjs : j < s := by rw [← h2]; exact (List.getElem?_eq_some_iff.1 hj).1
      have hcg := cat_get (f := f) (s := s) xs.length (fun i hi => (hf i hi).2) i j hi hjs
      rw [← htake, hj, List.getElem?_take] at hcg
      have hlt2 : i * s + j < xs.length * s := by
        have : (i + 1) * s ≤ xs.length * s := Nat.mul_le_mul_right s hi
        rw [Nat.add_mul] at this; omega
      rw [if_pos hlt2] at hcg
      rw [← Array.getElem?_toList, Nat.zero_mul, Nat.zero_add]
      exact hcg
section
variable {P : Program} {T : Tab} {env : Env} {h : Upds} {n : Nat}
end
end Go.Eng

namespace Go.Proofs.YtmojbghcngdkpaaGreatDoor
open Go.Eng Go.Plain
set_option maxHeartbeats 4000000
set_option maxRecDepth 20000
attribute [local irreducible] WC RegS RegD SeqQ BlkQ ScoQ RegK CutK Sat SatN FnIs LoopQ StepIs OpIs
theorem exb_own (l : List Int) (hp : 0 < l.length) (hlen : l.length ≤ 1048576) : FnIs Tryz.prog 106 [.d (.arr 1 encU8 l)] [] (.own 64 0 l.length 1 none) [(64, .ds 5 1 true encU8 l)] := by
  have hd : decide ((l.length : Int) = 0) = false := decide_eq_false (by omega)
  have hcp : l.take (List.replicate l.length (0 : Int)).length ++ (List.replicate l.length (0 : Int)).drop l.length = l := by simp
  have hmin : min l.length (List.replicate l.length (0 : Int)).length = l.length := by simp
  refine fnIs_of tab_ok Tryz.func106 rfl rfl rfl ?_;refine sR ?_;refine rC ?_;refine nQ ?_;refine sR ?_;refine rC ?_;refine rQ iE ?_;refine rC ?_;refine nS ?_;refine wF ?_
  refine kS ?_;refine sR ?_;refine rC ?_;refine rQ iE ?_;refine reg_new (make_full (enc := encU8) (s := 1) (N := l.length) tab_ok 0 rfl rfl rfl rfl rfl rfl rfl hlen rfl) rfl ?_
  refine rC ?_;refine nR ?_;iterate 2 refine rC ?_
  refine reg_new (copy_arr (r := 64 + 8 + 8 + 8 + 8 + 8 + 8) (xs := List.replicate l.length (0 : Int)) (ys := l) (enc := encU8) (zs := l) (m := l.length) tab_ok rfl rfl rfl rfl (by rw [List.length_replicate]; rfl) rfl rfl hcp hmin) rfl ?_
  refine nR ?_;iterate 2 refine rC ?_
  refine nS ?_;refine wc_ret ?_
  exact ⟨trivial, [(64, some _)], .of rfl rfl rfl rfl rfl ⟨⟨_, rfl, AVLe.of_eq rfl⟩, rfl, trivial⟩ ⟨⟨rfl, rfl, _, rfl, .refl _⟩, trivial⟩⟩
theorem exb_is (l : List UInt8) (hlen : l.length ≤ 1048576) : FnIs Tryz.prog 106 [.d (encB l)] [] (.d (encB l)) [] := by
  cases l with
  | nil =>
    have hd : decide ((0 : Int) = 0) = true := rfl
    refine fnIs_of tab_ok Tryz.func106 rfl rfl rfl ?_;refine sR ?_;refine rC ?_;refine nQ ?_;refine sR ?_;refine rC ?_;refine rQ iE ?_;refine rC ?_;refine nS ?_;refine wV ?_
    refine sR ?_;refine rC ?_;refine nS ?_;refine wc_ret ?_;refine seq_r ?_
    exact ⟨trivial, [], .of rfl rfl rfl rfl rfl ⟨⟨_, rfl, nil_arr _ _⟩, rfl, trivial⟩ trivial⟩
  | cons a l => exact (exb_own (byI (a :: l)) (by simp [byI]) (by rw [byI_len]; exact hlen)).freeze_out 64 _ rfl (Frz.own rfl) trivial
def zPOp : D := .cons (u8s 0) (.cons (i6 0) (.cons (.sc (.slice none 0 0)) .nil))
def encON : Option HOp → D
  | none => .cons (i6 0) (.cons (i6 0) (.cons (i6 0) (.cons zPOp (.cons (i6 0) (.cons (i6 0) (.cons (.vec 32 1 encU8 (List.replicate 32 0)) (.cons (i6 0) .nil)))))))
  | some x => encOpn x
def encEN : Option HEv → D
  | none => .cons (u8s 0) (.cons (i6 0) (.cons zPOp (.cons (.vec 32 1 encU8 (List.replicate 32 0)) (.cons (i6 0) .nil))))
  | some x => encEv x
abbrev encOX (l : List HOp) : D := .arx 41 encOpn l
abbrev encHX (l : List HEv) : D := .arx 38 encEv l
def encXN1 : Option (List HEv) → D
  | none => .sc (.slice none 0 0)
  | some x => encHX x
theorem opn_in (l : List HOp) : ArgsLe [.d (encOps l)] [.d (.arr 41 encON (l.map some))] := ⟨⟨AVLe.d (dle_arr rfl fun _ _ _ _ _ h => h) rfl, fun _ _ => trivial⟩, trivial⟩
theorem ev_in (l : List HEv) : ArgsLe [.d (encH l)] [.d (.arr 38 encEN (l.map some))] := ⟨⟨AVLe.d (dle_arr rfl fun _ _ _ _ _ h => h) rfl, fun _ _ => trivial⟩, trivial⟩
theorem hl_in (l : List (List HEv)) : ArgsLe [.d (.arr 1 encHX l)] [.d (.arr 1 encXN1 (l.map some))] := ⟨⟨AVLe.d (dle_arr rfl fun _ _ _ _ _ h => h) rfl, fun _ _ => trivial⟩, trivial⟩
theorem opn_out (l : List HOp) : RowLe (.ds 54 41 true encON (l.map some)) (.ds 54 41 true encOpn l) :=
  RowLe.ds_map (fun o => match o with | some x => x | none => ⟨0, 0, 0, zOp, 0, 0, [], 0⟩) (by rw [List.map_map]; exact (List.map_id _).symm) fun x hx => by
    obtain ⟨y, _, rfl⟩ := List.mem_map.1 hx
    exact fun _ _ _ h => h
theorem ev_out (l : List HEv) : RowLe (.ds 59 38 true encEN (l.map some)) (.ds 59 38 true encEv l) :=
  RowLe.ds_map (fun o => match o with | some x => x | none => ⟨0, 0, zOp, [], 0⟩) (by rw [List.map_map]; exact (List.map_id _).symm) fun x hx => by
    obtain ⟨y, _, rfl⟩ := List.mem_map.1 hx
    exact fun _ _ _ h => h
theorem hl_out (l : List (List HEv)) : RowLe (.ds 22 1 true encXN1 (l.map some)) (.ds 22 1 true encHX l) :=
  RowLe.ds_map (fun o => match o with | some x => x | none => []) (by rw [List.map_map]; exact (List.map_id _).symm) fun x hx => by
    obtain ⟨y, _, rfl⟩ := List.mem_map.1 hx
    exact fun _ _ _ h => h
theorem exo_own (l : List (Option HOp)) (hp : 0 < l.length) (hlen : l.length ≤ 1048576) : FnIs Tryz.prog 57 [.d (.arr 41 encON l)] [] (.own 64 0 l.length 41 none) [(64, .ds 54 41 true encON l)] := by
  have hd : decide ((l.length : Int) = 0) = false := decide_eq_false (by omega)
  have hcp : l.take (List.replicate l.length (none : Option HOp)).length ++ (List.replicate l.length (none : Option HOp)).drop l.length = l := by simp
  have hmin : min l.length (List.replicate l.length (none : Option HOp)).length = l.length := by simp
  refine fnIs_of tab_ok Tryz.func57 rfl rfl rfl ?_;refine sR ?_;refine rC ?_;refine nQ ?_;refine sR ?_;refine rC ?_;refine rQ iE ?_;refine rC ?_;refine nS ?_;refine wF ?_
  refine kS ?_;refine sR ?_;refine rC ?_;refine rQ iE ?_;refine reg_new (make_full (enc := encON) (s := 41) (N := l.length) tab_ok none rfl rfl rfl rfl rfl rfl rfl hlen rfl) rfl ?_
  refine rC ?_;refine nR ?_;iterate 2 refine rC ?_
  refine reg_new (copy_arr (r := 64 + 8 + 8 + 8 + 8 + 8 + 8) (xs := List.replicate l.length none) (ys := l) (enc := encON) (zs := l) (m := l.length) tab_ok rfl rfl rfl rfl (by rw [List.length_replicate]; rfl) rfl rfl hcp hmin) rfl ?_
  refine nR ?_;iterate 2 refine rC ?_
  refine nS ?_;refine wc_ret ?_
  exact ⟨trivial, [(64, some _)], .of rfl rfl rfl rfl rfl ⟨⟨_, rfl, AVLe.of_eq rfl⟩, rfl, trivial⟩ ⟨⟨rfl, rfl, _, rfl, .refl _⟩, trivial⟩⟩
theorem exo_is (l : List HOp) (hlen : l.length ≤ 1048576) : FnIs Tryz.prog 57 [.d (.arr 41 encOpn l)] [] (.d (.arx 41 encOpn l)) [] := by
  cases l with
  | nil =>
    have hd : decide ((0 : Int) = 0) = true := rfl
    refine fnIs_of tab_ok Tryz.func57 rfl rfl rfl ?_;refine sR ?_;refine rC ?_;refine nQ ?_;refine sR ?_;refine rC ?_;refine rQ iE ?_;refine rC ?_;refine nS ?_;refine wV ?_
    refine sR ?_;refine rC ?_;refine nS ?_;refine wc_ret ?_;refine seq_r ?_
    exact ⟨trivial, [], .of rfl rfl rfl rfl rfl ⟨⟨_, rfl, nil_arx _ _⟩, rfl, trivial⟩ trivial⟩
  | cons a l => exact FnIs.args_le (opn_in (a :: l)) ((exo_own ((a :: l).map some) (by simp) (by rw [List.length_map]; exact hlen)).freeze_out 64 _ rfl (Frz.row_le (opn_out (a :: l)) (Frz.ownxe (by simp))) trivial)
theorem exe_own (l : List (Option HEv)) (hp : 0 < l.length) (hlen : l.length ≤ 1048576) : FnIs Tryz.prog 58 [.d (.arr 38 encEN l)] [] (.own 64 0 l.length 38 none) [(64, .ds 59 38 true encEN l)] := by
  have hd : decide ((l.length : Int) = 0) = false := decide_eq_false (by omega)
  have hcp : l.take (List.replicate l.length (none : Option HEv)).length ++ (List.replicate l.length (none : Option HEv)).drop l.length = l := by simp
  have hmin : min l.length (List.replicate l.length (none : Option HEv)).length = l.length := by simp
  refine fnIs_of tab_ok Tryz.func58 rfl rfl rfl ?_;refine sR ?_;refine rC ?_;refine nQ ?_;refine sR ?_;refine rC ?_;refine rQ iE ?_;refine rC ?_;refine nS ?_;refine wF ?_
  refine kS ?_;refine sR ?_;refine rC ?_;refine rQ iE ?_;refine reg_new (make_full (enc := encEN) (s := 38) (N := l.length) tab_ok none rfl rfl rfl rfl rfl rfl rfl hlen rfl) rfl ?_
  refine rC ?_;refine nR ?_;iterate 2 refine rC ?_
  refine reg_new (copy_arr (r := 64 + 8 + 8 + 8 + 8 + 8 + 8) (xs := List.replicate l.length none) (ys := l) (enc := encEN) (zs := l) (m := l.length) tab_ok rfl rfl rfl rfl (by rw [List.length_replicate]; rfl) rfl rfl hcp hmin) rfl ?_
  refine nR ?_;iterate 2 refine rC ?_
  refine nS ?_;refine wc_ret ?_
  exact ⟨trivial, [(64, some _)], .of rfl rfl rfl rfl rfl ⟨⟨_, rfl, AVLe.of_eq rfl⟩, rfl, trivial⟩ ⟨⟨rfl, rfl, _, rfl, .refl _⟩, trivial⟩⟩
theorem exe_is (l : List HEv) (hlen : l.length ≤ 1048576) : FnIs Tryz.prog 58 [.d (.arr 38 encEv l)] [] (.d (.arx 38 encEv l)) [] := by
  cases l with
  | nil =>
    have hd : decide ((0 : Int) = 0) = true := rfl
    refine fnIs_of tab_ok Tryz.func58 rfl rfl rfl ?_;refine sR ?_;refine rC ?_;refine nQ ?_;refine sR ?_;refine rC ?_;refine rQ iE ?_;refine rC ?_;refine nS ?_;refine wV ?_
    refine sR ?_;refine rC ?_;refine nS ?_;refine wc_ret ?_;refine seq_r ?_
    exact ⟨trivial, [], .of rfl rfl rfl rfl rfl ⟨⟨_, rfl, nil_arx _ _⟩, rfl, trivial⟩ trivial⟩
  | cons a l => exact FnIs.args_le (ev_in (a :: l)) ((exe_own ((a :: l).map some) (by simp) (by rw [List.length_map]; exact hlen)).freeze_out 64 _ rfl (Frz.row_le (ev_out (a :: l)) (Frz.ownxe (by simp))) trivial)
theorem exh_own (l : List (Option (List HEv))) (hp : 0 < l.length) (hlen : l.length ≤ 1048576) : FnIs Tryz.prog 60 [.d (.arr 1 encXN1 l)] [] (.own 64 0 l.length 1 none) [(64, .ds 22 1 true encXN1 l)] := by
  have hd : decide ((l.length : Int) = 0) = false := decide_eq_false (by omega)
  have hcp : l.take (List.replicate l.length (none : Option (List HEv))).length ++ (List.replicate l.length (none : Option (List HEv))).drop l.length = l := by simp
  have hmin : min l.length (List.replicate l.length (none : Option (List HEv))).length = l.length := by simp
  refine fnIs_of tab_ok Tryz.func60 rfl rfl rfl ?_;refine sR ?_;refine rC ?_;refine nQ ?_;refine sR ?_;refine rC ?_;refine rQ iE ?_;refine rC ?_;refine nS ?_;refine wF ?_
  refine kS ?_;refine sR ?_;refine rC ?_;refine rQ iE ?_;refine reg_new (make_full (enc := encXN1) (s := 1) (N := l.length) tab_ok none rfl rfl rfl rfl rfl rfl rfl hlen rfl) rfl ?_
  refine rC ?_;refine nR ?_;iterate 2 refine rC ?_
  refine reg_new (copy_arr (r := 64 + 8 + 8 + 8 + 8 + 8 + 8) (xs := List.replicate l.length none) (ys := l) (enc := encXN1) (zs := l) (m := l.length) tab_ok rfl rfl rfl rfl (by rw [List.length_replicate]; rfl) rfl rfl hcp hmin) rfl ?_
  refine nR ?_;iterate 2 refine rC ?_
  refine nS ?_;refine wc_ret ?_
  exact ⟨trivial, [(64, some _)], .of rfl rfl rfl rfl rfl ⟨⟨_, rfl, AVLe.of_eq rfl⟩, rfl, trivial⟩ ⟨⟨rfl, rfl, _, rfl, .refl _⟩, trivial⟩⟩
theorem exh_is (l : List (List HEv)) (hlen : l.length ≤ 1048576) : FnIs Tryz.prog 60 [.d (.arr 1 encHX l)] [] (.d (.arx 1 encHX l)) [] := by
  cases l with
  | nil =>
    have hd : decide ((0 : Int) = 0) = true := rfl
    refine fnIs_of tab_ok Tryz.func60 rfl rfl rfl ?_;refine sR ?_;refine rC ?_;refine nQ ?_;refine sR ?_;refine rC ?_;refine rQ iE ?_;refine rC ?_;refine nS ?_;refine wV ?_
    refine sR ?_;refine rC ?_;refine nS ?_;refine wc_ret ?_;refine seq_r ?_
    exact ⟨trivial, [], .of rfl rfl rfl rfl rfl ⟨⟨_, rfl, nil_arx _ _⟩, rfl, trivial⟩ trivial⟩
  | cons a l => exact FnIs.args_le (hl_in (a :: l)) ((exh_own ((a :: l).map some) (by simp) (by rw [List.length_map]; exact hlen)).freeze_out 64 _ rfl (Frz.row_le (hl_out (a :: l)) (Frz.ownxe (by simp))) trivial)
end Go.Proofs.YtmojbghcngdkpaaGreatDoor

namespace Go.Proofs.YtmojbghcngdkpaaGreatDoor
open Go.Eng Go.Plain
set_option maxHeartbeats 8000000
set_option maxRecDepth 20000
attribute [local irreducible] WC RegS RegD SeqQ BlkQ ScoQ RegK CutK Sat SatN FnIs LoopQ StepIs OpIs
theorem blank_w (x : POp) (c1 c2 : Bool) (h1 : decide (x.kind = 0) = c1) (h2 : decide (x.index = 0) = c2) : FnIs Tryz.prog 115 [.d (encPOp x)] [] (.bool (c1 && c2 && decide (((byI x.data).length : Int) = 0))) [] := by
  refine fnIs_of tab_ok Tryz.func115 rfl rfl rfl ?_;refine sR ?_;refine rN ?_;refine rC ?_;refine nR ?_;refine rC ?_;refine rQ iB ?_;iterate 2 refine rC ?_
  cases c1 with
  | false =>
    iterate 3 refine rS ?_
    refine rQ iF ?_;refine rC ?_;iterate 4 refine rT ?_
    refine rQ iG ?_;refine rC ?_;refine nS ?_;refine wc_ret ?_
    exact ⟨trivial, [], lf⟩
  | true =>
    refine rO ?_;refine rC ?_;refine rO ?_;refine rQ iB ?_;refine rO ?_;refine rC ?_;refine rQ iT ?_;refine rC ?_
    cases c2 with
    | false =>
      iterate 4 refine rS ?_
      refine rQ iF ?_;refine rC ?_;refine nS ?_;refine wc_ret ?_
      exact ⟨trivial, [], lf⟩
    | true =>
      refine rO ?_;refine rC ?_;refine rO ?_;refine rQ iB ?_;refine rO ?_;refine rQ iE ?_;refine rO ?_;refine rC ?_;refine rQ iT ?_;refine rC ?_;refine nS ?_;refine wc_ret ?_
      exact ⟨trivial, [], lf⟩
theorem zop_dec (x : POp) : (decide (x.kind = 0) && decide (x.index = 0) && decide (((byI x.data).length : Int) = 0)) = decide (x = zOp) := by
  obtain ⟨k, i, d⟩ := x
  rw [byI_len]
  have : decide (((d.length : Nat) : Int) = 0) = decide (d = []) := decide_eq_decide.2 (by rw [← List.length_eq_zero_iff]; omega)
  simp only [this, zOp, POp.mk.injEq]
  by_cases h1 : k = 0 <;> by_cases h2 : i = 0 <;> by_cases h3 : d = [] <;> simp [h1, h2, h3]
theorem blank_is (x : POp) : FnIs Tryz.prog 115 [.d (encPOp x)] [] (.bool (decide (x = zOp))) [] := by
  have := blank_w x _ _ rfl rfl
  rwa [zop_dec] at this
theorem zop_le : DLe (.cons (.sc (.int .u8 0)) (.cons (.sc (.int .i64 0)) (.cons (.sc nil_) .nil))) (encPOp zOp) := by
  rintro w X cs ⟨c1, r1, rfl, h1, c2, r2, rfl, h2, c3, r3, rfl, h3, h4⟩
  exact ⟨c1, _, rfl, h1, c2, _, rfl, h2, c3, r3, rfl, .inl ⟨rfl, h3.1⟩, h4⟩
theorem hequal_w (x y : HEv) (c1 c2 c3 c4 : Bool) (h1 : (!decide (x.kind = y.kind)) = c1) (h2 : (!decide (x.client = y.client)) = c2) (h3 : (!decide (x.value = y.value)) = c3) (h4 : (!decide (x.err = y.err)) = c4) : FnIs Tryz.prog 68 [.d (encEv x), .d (encEv y)] [] (.d (i6 (if c1 || c2 || c3 || c4 then 0 else if x.op = y.op then 1 else 0))) [] := by
  refine fnIs_of tab_ok Tryz.func68 rfl rfl rfl ?_;refine sR ?_;iterate 2 refine rN ?_
  refine rC ?_;refine nQ ?_;refine sR ?_;refine rC ?_;refine rQ iB ?_;refine rC ?_;refine rQ iB ?_;iterate 2 refine rC ?_
  cases c1 with
  | true =>
    iterate 5 refine rS ?_
    refine rQ iT ?_;refine rC ?_;iterate 5 refine rT ?_
    refine rQ iU ?_;refine rC ?_;iterate 5 refine rT ?_
    refine rQ iU ?_;refine nS ?_;refine wV ?_;refine sR ?_;refine rC ?_;refine nS ?_;refine wc_ret ?_;refine seq_r ?_
    exact ⟨trivial, [], lf⟩
  | false =>
    refine rO ?_;refine rC ?_;refine rO ?_;refine rQ iB ?_;refine rO ?_;refine rC ?_;refine rO ?_;refine rQ iB ?_;refine rO ?_;refine rC ?_;refine rQ iF ?_;refine rC ?_
    cases c2 with
    | true =>
      iterate 5 refine rS ?_
      refine rQ iT ?_;refine rC ?_;iterate 5 refine rT ?_
      refine rQ iU ?_;refine nS ?_;refine wV ?_;refine sR ?_;refine rC ?_;refine nS ?_;refine wc_ret ?_;refine seq_r ?_
      exact ⟨trivial, [], lf⟩
    | false =>
      refine rO ?_;refine rC ?_;refine rO ?_;refine rQ iB ?_;refine rO ?_;refine rC ?_;refine rO ?_;refine rQ iB ?_;refine rO ?_;refine rQ (neq_data rfl rfl rfl rfl (by kernel_rfl) (by decide) (block_eq x.value y.value)) ?_
      refine rQ iF ?_;refine rC ?_
      cases c3 with
      | true =>
        iterate 5 refine rS ?_
        refine rQ iT ?_;refine nS ?_;refine wV ?_;refine sR ?_;refine rC ?_;refine nS ?_;refine wc_ret ?_;refine seq_r ?_
        exact ⟨trivial, [], lf⟩
      | false =>
        refine rO ?_;refine rC ?_;refine rO ?_;refine rQ iB ?_;refine rO ?_;refine rC ?_;refine rO ?_;refine rQ iB ?_;refine rO ?_;refine rC ?_;refine rQ iF ?_;refine nS ?_
        cases c4 with
        | true =>
          refine wT ?_;refine sR ?_;refine rC ?_;refine nS ?_;refine wc_ret ?_;refine seq_r ?_
          exact ⟨trivial, [], lf⟩
        | false =>
          refine wF ?_;refine kS ?_;refine sR ?_;refine rC ?_;refine rQ iB ?_;refine rC ?_;refine rQ iB ?_;refine rQ (call_r (requal_is x.op y.op) rfl rfl (arg_e (arg_e arg_nil)) (.inl rfl) (fun _ => rfl)) ?_
          refine rC ?_;refine nS ?_;refine wc_ret ?_
          exact ⟨trivial, [], lf⟩
theorem ev_dec (x y : HEv) : (if (!decide (x.kind = y.kind)) || (!decide (x.client = y.client)) || (!decide (x.value = y.value)) || (!decide (x.err = y.err)) then (0 : Int) else if x.op = y.op then 1 else 0) = if x = y then 1 else 0 := by
  obtain ⟨k, c, o, v, e⟩ := x
  obtain ⟨k', c', o', v', e'⟩ := y
  simp only [HEv.mk.injEq]
  by_cases h1 : k = k' <;> by_cases h2 : c = c' <;> by_cases h3 : v = v' <;> by_cases h4 : e = e' <;> by_cases h5 : o = o' <;> simp [h1, h2, h3, h4, h5]
theorem hequal_is (x y : HEv) : FnIs Tryz.prog 68 [.d (encEv x), .d (encEv y)] [] (.d (i6 (if x = y then 1 else 0))) [] := by
  have := hequal_w x y _ _ _ _ rfl rfl rfl rfl
  rwa [ev_dec] at this
theorem hsame1_w (x y : HEv) (c1 c2 c3 c4 c5 c6 : Bool) (h1 : decide (x.kind = y.kind) = c1) (h2 : decide (x.client = y.client) = c2) (h3 : decide (x.value = y.value) = c3) (h4 : decide (x.err = y.err) = c4) (h5 : decide (x.op.kind = y.op.kind) = c5) (h6 : decide (x.op.index = y.op.index) = c6) :
    FnIs Tryz.prog 76 [.d (encEv x), .d (encEv y)] [] (.bool (c1 && c2 && c3 && c4 && c5 && c6 && decide (x.op.data = y.op.data))) [] := by
  refine fnIs_of tab_ok Tryz.func76 rfl rfl rfl ?_;refine sR ?_;iterate 2 refine rN ?_
  refine rC ?_;refine nQ ?_;refine wc_draw (by kernel_rfl) ?_;refine dC [2] [] ?_;refine dQ [7] [64] iB ?_;refine dC [3] [] ?_;refine dQ [9] [72] iB ?_;iterate 2 refine dreg_w [] [] rfl (step_C tab_ok (fun K hk => hk)) ?_
  refine dreg_s [5, 8] [120] (store_row tab_ok rfl rfl rfl ⟨_, ⟨rfl, rfl, rfl⟩, rfl⟩ rfl) ?_;refine dreg_s [6, 10] [128] (store_row tab_ok rfl rfl rfl ⟨_, ⟨rfl, rfl, rfl⟩, rfl⟩ rfl) ?_
  refine dreg_end (by kernel_rfl) ?_;refine seq_n ?_;refine sR ?_;refine rC ?_;refine rQ iB ?_;refine rC ?_;refine rQ iB ?_;iterate 2 refine rC ?_
  cases c1 with
  | false =>
    iterate 5 refine rS ?_
    refine rQ iF ?_;refine rC ?_;iterate 5 refine rT ?_
    refine rQ iG ?_;refine rC ?_;iterate 5 refine rT ?_
    refine rQ iG ?_;refine rC ?_;iterate 5 refine rT ?_
    refine rQ iG ?_;refine rC ?_;iterate 5 refine rT ?_
    refine rQ iG ?_;refine rC ?_;iterate 5 refine rT ?_
    refine rQ iG ?_;refine rC ?_;refine nS ?_;refine wc_ret ?_
    exact ⟨trivial, [], lf⟩
  | true =>
    refine rO ?_;refine rC ?_;refine rO ?_;refine rQ iB ?_;refine rO ?_;refine rC ?_;refine rO ?_;refine rQ iB ?_;refine rO ?_;refine rC ?_;refine rQ iT ?_;refine rC ?_
    cases c2 with
    | false =>
      iterate 5 refine rS ?_
      refine rQ iF ?_;refine rC ?_;iterate 5 refine rT ?_
      refine rQ iG ?_;refine rC ?_;iterate 5 refine rT ?_
      refine rQ iG ?_;refine rC ?_;iterate 5 refine rT ?_
      refine rQ iG ?_;refine rC ?_;iterate 5 refine rT ?_
      refine rQ iG ?_;refine rC ?_;refine nS ?_;refine wc_ret ?_
      exact ⟨trivial, [], lf⟩
    | true =>
      refine rO ?_;refine rC ?_;refine rO ?_;refine rQ iB ?_;refine rO ?_;refine rC ?_;refine rO ?_;refine rQ iB ?_;refine rO ?_;refine rQ (eql_data rfl rfl rfl rfl (by kernel_rfl) (by decide) (block_eq x.value y.value)) ?_
      refine rQ iT ?_;refine rC ?_
      cases c3 with
      | false =>
        iterate 5 refine rS ?_
        refine rQ iF ?_;refine rC ?_;iterate 5 refine rT ?_
        refine rQ iG ?_;refine rC ?_;iterate 5 refine rT ?_
        refine rQ iG ?_;refine rC ?_;iterate 5 refine rT ?_
        refine rQ iG ?_;refine rC ?_;refine nS ?_;refine wc_ret ?_
        exact ⟨trivial, [], lf⟩
      | true =>
        refine rO ?_;refine rC ?_;refine rO ?_;refine rQ iB ?_;refine rO ?_;refine rC ?_;refine rO ?_;refine rQ iB ?_;refine rO ?_;refine rC ?_;refine rQ iT ?_;refine rC ?_
        cases c4 with
        | false =>
          iterate 5 refine rS ?_
          refine rQ iF ?_;refine rC ?_;iterate 5 refine rT ?_
          refine rQ iG ?_;refine rC ?_;iterate 5 refine rT ?_
          refine rQ iG ?_;refine rC ?_;refine nS ?_;refine wc_ret ?_
          exact ⟨trivial, [], lf⟩
        | true =>
          refine rO ?_;refine rC ?_;refine rO ?_;refine rQ iB ?_;refine rO ?_;refine rC ?_;refine rO ?_;refine rQ iB ?_;refine rO ?_;refine rC ?_;refine rQ iT ?_;refine rC ?_
          cases c5 with
          | false =>
            iterate 5 refine rS ?_
            refine rQ iF ?_;refine rC ?_;iterate 5 refine rT ?_
            refine rQ iG ?_;refine rC ?_;refine nS ?_;refine wc_ret ?_
            exact ⟨trivial, [], lf⟩
          | true =>
            refine rO ?_;refine rC ?_;refine rO ?_;refine rQ iB ?_;refine rO ?_;refine rC ?_;refine rO ?_;refine rQ iB ?_;refine rO ?_;refine rC ?_;refine rQ iT ?_;refine rC ?_
            cases c6 with
            | false =>
              iterate 5 refine rS ?_
              refine rQ iF ?_;refine rC ?_;refine nS ?_;refine wc_ret ?_
              exact ⟨trivial, [], lf⟩
            | true =>
              refine rO ?_;refine rC ?_;refine rO ?_;refine rQ iB ?_;refine rO ?_;refine rC ?_;refine rO ?_;refine rQ iB ?_;refine rO ?_;refine rQ (call_r (beq_is x.op.data y.op.data) rfl rfl (arg_e (arg_e arg_nil)) (.inl rfl) (fun _ => rfl)) ?_
              refine rQ iT ?_;refine rC ?_;refine nS ?_;refine wc_ret ?_
              exact ⟨trivial, [], lf⟩
theorem ev_dec2 (x y : HEv) : (decide (x.kind = y.kind) && decide (x.client = y.client) && decide (x.value = y.value) && decide (x.err = y.err) && decide (x.op.kind = y.op.kind) && decide (x.op.index = y.op.index) && decide (x.op.data = y.op.data)) = decide (x = y) := by
  obtain ⟨k, c, ⟨o, i, d⟩, v, e⟩ := x
  obtain ⟨k', c', ⟨o', i', d'⟩, v', e'⟩ := y
  simp only [HEv.mk.injEq, POp.mk.injEq]
  by_cases h1 : k = k' <;> by_cases h2 : c = c' <;> by_cases h3 : v = v' <;> by_cases h4 : e = e' <;> by_cases h5 : o = o' <;> by_cases h6 : i = i' <;> by_cases h7 : d = d' <;> simp [h1, h2, h3, h4, h5, h6, h7]
theorem hsame1_is (x y : HEv) : FnIs Tryz.prog 76 [.d (encEv x), .d (encEv y)] [] (.bool (decide (x = y))) [] := by
  have := hsame1_w x y _ _ _ _ _ _ rfl rfl rfl rfl rfl rfl
  rwa [ev_dec2] at this
end Go.Proofs.YtmojbghcngdkpaaGreatDoor

namespace Go.Proofs.YtmojbghcngdkpaaGreatDoor
open Go.Eng Go.Plain
set_option maxHeartbeats 8000000
set_option maxRecDepth 20000
attribute [local irreducible] WC RegS RegD SeqQ BlkQ ScoQ RegK CutK Sat SatN FnIs LoopQ StepIs OpIs
theorem eqf_evs (p q : List HEv) (hL : p.length ≤ 1000000000) : FnIs Tryz.prog 75 [.d (encH p), .d (encH q), fnA 76] [] (.bool (decide (p = q))) [] := by
  refine fnIs_of tab_ok Tryz.func75 rfl rfl rfl ?_
  by_cases hlen : p.length = q.length
  · have hd : (!decide ((p.length : Int) = (q.length : Int))) = false := by rw [decide_eq_true (by omega)]; rfl
    refine sR ?_;refine rC ?_;refine nQ ?_;refine sR ?_;refine rC ?_;refine rQ iE ?_;refine rC ?_;refine rQ iE ?_;refine rC ?_;refine nS ?_;refine wF ?_;refine kS ?_
    refine qR ?_;refine rC ?_;refine rQ iE ?_;refine rC ?_;refine nS ?_;refine wc_block ?_
    refine wc_inv (fun i : Nat => ⟨[(17, .int .i64 i), (16, .int .i64 p.length), (15, .d (encH p)), (2, fnA 76), (1, .d (encH q))], [], 72, Tryz.f75.ntmps, 64⟩) (fun i => i ≤ p.length ∧ p.take i = q.take i) (fun i => p.length - i) 0 [] ⟨Nat.zero_le _, by simp⟩
      (.of rfl rfl rfl rfl rfl ⟨⟨_, rfl, .refl _⟩, rfl, ⟨_, rfl, .refl _⟩, rfl, ⟨_, rfl, .refl _⟩, rfl, ⟨_, rfl, .refl _⟩, rfl, ⟨_, rfl, .refl _⟩, rfl, trivial⟩ trivial) ?_
    intro i hi
    obtain ⟨hi, hsame⟩ := hi
    refine wc_of ?_;refine sR ?_;refine rC ?_;refine nQ ?_
    refine wc_cond rfl (fun h3 => ?_) (fun h3 => ?_)
    · have hlt : i < p.length := by have := of_decide_eq_true h3; omega
      obtain ⟨x, hx⟩ : ∃ x, p[i]? = some x := ⟨_, List.getElem?_eq_getElem hlt⟩
      obtain ⟨y, hy⟩ : ∃ y, q[i]? = some y := ⟨_, List.getElem?_eq_getElem (by omega)⟩
      have hx' : p[((i : Int)).toNat]? = some x := by rw [Int.toNat_natCast]; exact hx
      have hy' : q[((i : Int)).toNat]? = some y := by rw [Int.toNat_natCast]; exact hy
      by_cases he : x = y
      · have hn : (!decide (x = y)) = false := by rw [decide_eq_true he]; rfl
        refine kS ?_;refine wc_seq ?_;refine wc_block ?_;refine sR ?_;refine rC ?_;refine rQ iA ?_;refine rQ iL ?_;refine rN ?_;refine rC ?_;refine rW ?_;refine nR ?_;iterate 2 refine rC ?_
        refine rQ iA ?_;refine rQ iL ?_;refine rN ?_;refine rW ?_;refine nR ?_;refine rC ?_;iterate 2 refine rQ iM ?_
        refine rQ (call_r (hsame1_is x y) rfl rfl (arg_e (arg_e arg_nil)) (.inl rfl) (fun _ => rfl)) ?_;refine rC ?_;refine nS ?_;refine wF ?_;refine wc_skip ?_;refine blk_n ?_
        refine seq_n ?_;refine wc_region ?_;refine rQ iD ?_;refine rC ?_;refine reg_nil ?_
        exact loop_n (i + 1) [] ⟨hlt, by rw [List.take_add_one, List.take_add_one, hx, hy, hsame, he]⟩ (by omega) (.of rfl rfl rfl rfl rfl ⟨⟨_, rfl, .refl _⟩, rfl, ⟨_, rfl, .refl _⟩, rfl, ⟨_, rfl, .refl _⟩, rfl, ⟨_, rfl, .refl _⟩, rfl, ⟨_, rfl, .refl _⟩, rfl, trivial⟩ trivial)
      · have hn : (!decide (x = y)) = true := by rw [decide_eq_false he]; rfl
        have hne : decide (p = q) = false := decide_eq_false fun e => he (by rw [e, hy] at hx; cases hx; rfl)
        rw [hne]
        refine kS ?_;refine wc_seq ?_;refine wc_block ?_;refine sR ?_;refine rC ?_;refine rQ iA ?_;refine rQ iL ?_;refine rN ?_;refine rC ?_;refine rW ?_;refine nR ?_;iterate 2 refine rC ?_
        refine rQ iA ?_;refine rQ iL ?_;refine rN ?_;refine rW ?_;refine nR ?_;refine rC ?_;iterate 2 refine rQ iM ?_
        refine rQ (call_r (hsame1_is x y) rfl rfl (arg_e (arg_e arg_nil)) (.inl rfl) (fun _ => rfl)) ?_;refine rC ?_;refine nS ?_;refine wT ?_;refine sR ?_;refine rC ?_
        refine nS ?_;refine wc_ret ?_;refine blk_r ?_;refine seq_r ?_;refine loop_r ?_;refine blk_r ?_;refine seq_r ?_
        exact ⟨trivial, [], lf⟩
    · have he : i = p.length := by have := of_decide_eq_false h3; omega
      subst he
      have hpq : decide (p = q) = true := decide_eq_true (by rw [List.take_length] at hsame; rw [hsame, hlen, List.take_length])
      rw [hpq]
      refine wc_exit ?_;refine seq_x ?_;refine loop_x ?_;refine blk_x ?_;refine seq_n ?_;refine sR ?_;refine rC ?_;refine nS ?_;refine wc_ret ?_
      exact ⟨trivial, [], lf⟩
  · have hd : (!decide ((p.length : Int) = (q.length : Int))) = true := by rw [decide_eq_false (by omega)]; rfl
    have hne : decide (p = q) = false := decide_eq_false fun e => hlen (by rw [e])
    rw [hne]
    refine sR ?_;refine rC ?_;refine nQ ?_;refine sR ?_;refine rC ?_;refine rQ iE ?_;refine rC ?_;refine rQ iE ?_;refine rC ?_;refine nS ?_;refine wT ?_;refine sR ?_
    refine rC ?_;refine nS ?_;refine wc_ret ?_;refine seq_r ?_
    exact ⟨trivial, [], lf⟩
theorem hsame_is (p q : List HEv) (hL : p.length ≤ 1000000000) : FnIs Tryz.prog 32 [.d (encH p), .d (encH q)] [] (.bool (decide (p = q))) [] := by
  refine fnIs_of tab_ok Tryz.func32 rfl rfl rfl ?_;refine sR ?_;refine rC ?_;refine nR ?_;iterate 2 refine rC ?_
  refine rQ (call_r (eqf_evs p q hL) rfl rfl (arg_e (arg_e (arg_fn arg_nil))) (.inl rfl) (fun _ => rfl)) ?_;refine rC ?_;refine nS ?_;refine wc_ret ?_
  exact ⟨trivial, [], lf⟩
theorem hrsame_is (p q : List HEv) (hL : p.length ≤ 1000000000) : FnIs Tryz.prog 28 [.d (encH p), .d (encH q)] [] (.d (i6 (if p = q then 1 else 0))) [] := by
  refine fnIs_of tab_ok Tryz.func28 rfl rfl rfl ?_
  by_cases hlen : p.length = q.length
  · have hd : (!decide ((p.length : Int) = (q.length : Int))) = false := by rw [decide_eq_true (by omega)]; rfl
    refine sR ?_;refine rC ?_;refine nQ ?_;refine sR ?_;refine rC ?_;refine rQ iE ?_;refine rC ?_;refine rQ iE ?_;refine rC ?_;refine nS ?_;refine wF ?_;refine kS ?_
    refine qR ?_;refine rC ?_;refine nS ?_;refine wc_block ?_
    refine wc_inv (fun i : Nat => ⟨[(5, .int .i64 i), (1, .d (encH q)), (0, .d (encH p))], [], 72, Tryz.f28.ntmps, 64⟩) (fun i => i ≤ p.length ∧ p.take i = q.take i) (fun i => p.length - i) 0 [] ⟨Nat.zero_le _, by simp⟩
      (.of rfl rfl rfl rfl rfl ⟨⟨_, rfl, .refl _⟩, rfl, ⟨_, rfl, .refl _⟩, rfl, ⟨_, rfl, .refl _⟩, rfl, trivial⟩ trivial) ?_
    intro i hi
    obtain ⟨hi, hsame⟩ := hi
    refine wc_of ?_;refine qR ?_;iterate 2 refine rC ?_
    refine rQ iE ?_;refine rC ?_;refine nS ?_
    refine wc_cond rfl (fun h3 => ?_) (fun h3 => ?_)
    · have hlt : i < p.length := by have := of_decide_eq_true h3; omega
      obtain ⟨x, hx⟩ : ∃ x, p[i]? = some x := ⟨_, List.getElem?_eq_getElem hlt⟩
      obtain ⟨y, hy⟩ : ∃ y, q[i]? = some y := ⟨_, List.getElem?_eq_getElem (by omega)⟩
      have hx' : p[((i : Int)).toNat]? = some x := by rw [Int.toNat_natCast]; exact hx
      have hy' : q[((i : Int)).toNat]? = some y := by rw [Int.toNat_natCast]; exact hy
      have hreq := hequal_is x y
      by_cases he : x = y
      · rw [if_pos he] at hreq
        refine kS ?_;refine wc_seq ?_;refine wc_block ?_;refine wc_seq ?_;refine wc_draw (by kernel_rfl) ?_;refine dC [0] [] ?_;refine dC [5] [] ?_;refine dQ [17, 18] [] iA ?_
        refine dQ [19] [] iL ?_;refine dC [1] [] ?_;refine dC [5] [] ?_;refine dQ [21, 22] [] iA ?_;refine dQ [23] [] iL ?_;refine dQ [20, 24] [] (call_r hreq rfl rfl (arg_e (arg_e arg_nil)) (.inl rfl) (fun _ => rfl)) ?_
        refine dC [25] [] ?_;refine dreg_end (by kernel_rfl) ?_;refine seq_n ?_;refine wG ?_;refine wc_skip ?_;refine blk_n ?_;refine seq_n ?_;refine wc_region ?_;refine rC ?_
        refine rQ iD ?_;refine rC ?_;refine reg_nil ?_
        exact loop_n (i + 1) [] ⟨hlt, by rw [List.take_add_one, List.take_add_one, hx, hy, hsame, he]⟩ (by omega) (.of rfl rfl rfl rfl rfl ⟨⟨_, rfl, .refl _⟩, rfl, ⟨_, rfl, .refl _⟩, rfl, ⟨_, rfl, .refl _⟩, rfl, trivial⟩ trivial)
      · rw [if_neg he] at hreq
        rw [if_neg (fun e => he (by rw [e, hy] at hx; cases hx; rfl))]
        refine kS ?_;refine wc_seq ?_;refine wc_block ?_;refine wc_seq ?_;refine wc_draw (by kernel_rfl) ?_;refine dC [0] [] ?_;refine dC [5] [] ?_;refine dQ [17, 18] [] iA ?_
        refine dQ [19] [] iL ?_;refine dC [1] [] ?_;refine dC [5] [] ?_;refine dQ [21, 22] [] iA ?_;refine dQ [23] [] iL ?_;refine dQ [20, 24] [] (call_r hreq rfl rfl (arg_e (arg_e arg_nil)) (.inl rfl) (fun _ => rfl)) ?_
        refine dC [25] [] ?_;refine dreg_end (by kernel_rfl) ?_;refine seq_n ?_;refine wV ?_;refine sR ?_;refine rC ?_;refine nS ?_;refine wc_ret ?_;refine blk_r ?_;refine seq_r ?_
        refine loop_r ?_;refine blk_r ?_;refine seq_r ?_
        exact ⟨trivial, [], lf⟩
    · have he : i = p.length := by have := of_decide_eq_false h3; omega
      subst he
      rw [if_pos (by rw [List.take_length] at hsame; rw [hsame, hlen, List.take_length])]
      refine wc_exit ?_;refine seq_x ?_;refine loop_x ?_;refine blk_x ?_;refine seq_n ?_;refine sR ?_;refine rC ?_;refine nS ?_;refine wc_ret ?_
      exact ⟨trivial, [], lf⟩
  · have hd : (!decide ((p.length : Int) = (q.length : Int))) = true := by rw [decide_eq_false (by omega)]; rfl
    rw [if_neg (fun e => hlen (by rw [e]))]
    refine sR ?_;refine rC ?_;refine nQ ?_;refine sR ?_;refine rC ?_;refine rQ iE ?_;refine rC ?_;refine rQ iE ?_;refine rC ?_;refine nS ?_;refine wT ?_;refine sR ?_
    refine rC ?_;refine nS ?_;refine wc_ret ?_;refine seq_r ?_
    exact ⟨trivial, [], lf⟩
end Go.Proofs.YtmojbghcngdkpaaGreatDoor

namespace Go.Proofs.YtmojbghcngdkpaaGreatDoor
open Go.Eng Go.Plain
set_option maxHeartbeats 8000000
set_option maxRecDepth 20000
attribute [local irreducible] WC RegS RegD SeqQ BlkQ ScoQ RegK CutK Sat SatN FnIs LoopQ StepIs OpIs
def befB (a b : HOp) : Bool := if a.era = b.era then decide (0 ≤ a.returned) && decide (a.returned < b.invoked) else decide (a.era < b.era)
theorem before_is (a b : HOp) : FnIs Tryz.prog 54 [.d (encOpn a), .d (encOpn b)] [] (.bool (befB a b)) [] := by
  refine fnIs_of tab_ok Tryz.func54 rfl rfl rfl ?_
  unfold befB
  refine sR ?_;iterate 2 refine rN ?_
  refine rC ?_;refine nQ ?_;refine sR ?_;refine rC ?_;refine rQ iB ?_;refine rC ?_;refine rQ iB ?_;refine rC ?_;refine nS ?_
  by_cases h : a.era = b.era
  · have hd : (!decide (a.era = b.era)) = false := by rw [decide_eq_true h]; rfl
    rw [if_pos h]
    obtain ⟨c, hc⟩ : ∃ c, decide (0 ≤ a.returned) = c := ⟨_, rfl⟩
    rw [hc]
    refine wF ?_;refine kS ?_;refine sR ?_;refine rC ?_;refine rQ iB ?_;iterate 2 refine rC ?_
    cases c with
    | true =>
      refine rO ?_;refine rC ?_;refine rO ?_;refine rQ iB ?_;refine rO ?_;refine rC ?_;refine rO ?_;refine rQ iB ?_;refine rO ?_;refine rC ?_;refine rQ iT ?_;refine rC ?_
      refine nS ?_;refine wc_ret ?_
      exact ⟨trivial, [], lf⟩
    | false =>
      iterate 5 refine rS ?_
      refine rQ iF ?_;refine rC ?_;refine nS ?_;refine wc_ret ?_
      exact ⟨trivial, [], lf⟩
  · have hd : (!decide (a.era = b.era)) = true := by rw [decide_eq_false h]; rfl
    rw [if_neg h]
    refine wT ?_;refine sR ?_;refine rC ?_;refine rQ iB ?_;refine rC ?_;refine rQ iB ?_;iterate 2 refine rC ?_
    refine nS ?_;refine wc_ret ?_;refine seq_r ?_
    exact ⟨trivial, [], lf⟩
theorem sameops_is (p q : List HOp) (hL : p.length ≤ 1000000000) : FnIs Tryz.prog 26 [.d (encOps p), .d (encOps q)] [] (.d (i6 (if p = q then 1 else 0))) [] := by
  refine fnIs_of tab_ok Tryz.func26 rfl rfl rfl ?_;refine sR ?_;refine rC ?_;refine nQ ?_;refine sR ?_;refine rC ?_;refine rQ iE ?_;refine rC ?_;refine rQ iE ?_;refine rC ?_
  refine nS ?_
  by_cases hlen : p.length = q.length
  · have hd : (!decide ((p.length : Int) = (q.length : Int))) = false := by rw [decide_eq_true (by omega)]; rfl
    refine wF ?_;refine kS ?_;refine qR ?_;refine rC ?_;refine nS ?_;refine wc_block ?_
    refine wc_inv (fun i : Nat => ⟨[(5, .int .i64 i), (1, .d (encOps q)), (0, .d (encOps p))], [], 72, Tryz.f26.ntmps, 64⟩) (fun i => i ≤ p.length ∧ p.take i = q.take i) (fun i => p.length - i) 0 [] ⟨Nat.zero_le _, by simp⟩
      (.of rfl rfl rfl rfl rfl ⟨⟨_, rfl, .refl _⟩, rfl, ⟨_, rfl, .refl _⟩, rfl, ⟨_, rfl, .refl _⟩, rfl, trivial⟩ trivial) ?_
    intro i hi
    obtain ⟨hi, hsame⟩ := hi
    refine wc_of ?_;refine qR ?_;iterate 2 refine rC ?_
    refine rQ iE ?_;refine rC ?_;refine nS ?_
    refine wc_cond rfl (fun h3 => ?_) (fun h3 => ?_)
    · have hlt : i < p.length := by have := of_decide_eq_true h3; omega
      obtain ⟨x, hx⟩ : ∃ x, p[i]? = some x := ⟨_, List.getElem?_eq_getElem hlt⟩
      obtain ⟨y, hy⟩ : ∃ y, q[i]? = some y := ⟨_, List.getElem?_eq_getElem (by omega)⟩
      have hx' : p[((i : Int)).toNat]? = some x := by rw [Int.toNat_natCast]; exact hx
      have hy' : q[((i : Int)).toNat]? = some y := by rw [Int.toNat_natCast]; exact hy
      have hreq := requal_is x.op y.op
      obtain ⟨q7, hq7⟩ : ∃ q : Int, (if x.op = y.op then (1 : Int) else 0) = q := ⟨_, rfl⟩
      rw [hq7] at hreq
      have hne : x ≠ y → ¬ p = q := fun h e => h (by rw [e, hy] at hx; cases hx; rfl)
      refine kS ?_;refine wc_seq ?_;refine wc_block ?_;refine wc_seq ?_;refine wc_draw (by kernel_rfl) ?_;refine dC [0] [] ?_;refine dC [5] [] ?_;refine dQ [19, 20] [] iA ?_
      refine dQ [21] [] iL ?_;refine dC [1] [] ?_;refine dC [5] [] ?_;refine dQ [23, 24] [] iA ?_;refine dQ [25] [] iL ?_;iterate 2 refine dreg_w [] [] rfl (step_C tab_ok (fun K hk => hk)) ?_
      refine dreg_s [6, 22] [168] (store_row tab_ok rfl rfl rfl ⟨_, ⟨rfl, rfl, rfl⟩, rfl⟩ rfl) ?_;refine dreg_s [7, 26] [176] (store_row tab_ok rfl rfl rfl ⟨_, ⟨rfl, rfl, rfl⟩, rfl⟩ rfl) ?_
      refine dreg_end (by kernel_rfl) ?_;refine seq_n ?_;refine sR ?_;refine rC ?_;refine rQ iB ?_;refine rC ?_;refine rQ iB ?_;iterate 2 refine rC ?_
      by_cases e0 : x.client = y.client
      · have d0 : (!decide (x.client = y.client)) = false := by rw [decide_eq_true e0]; rfl
        refine rO ?_;refine rC ?_;refine rO ?_;refine rQ iB ?_;refine rO ?_;refine rC ?_;refine rO ?_;refine rQ iB ?_;refine rO ?_;refine rC ?_;refine rQ iF ?_;refine rC ?_
        by_cases e1 : x.number = y.number
        · have d1 : (!decide (x.number = y.number)) = false := by rw [decide_eq_true e1]; rfl
          refine rO ?_;refine rC ?_;refine rO ?_;refine rQ iB ?_;refine rO ?_;refine rC ?_;refine rO ?_;refine rQ iB ?_;refine rO ?_;refine rC ?_;refine rQ iF ?_;refine rC ?_
          by_cases e2 : x.era = y.era
          · have d2 : (!decide (x.era = y.era)) = false := by rw [decide_eq_true e2]; rfl
            refine rO ?_;refine rC ?_;refine rO ?_;refine rQ iB ?_;refine rO ?_;refine rC ?_;refine rO ?_;refine rQ iB ?_;refine rO ?_;refine rC ?_;refine rQ iF ?_;refine rC ?_
            by_cases e3 : x.invoked = y.invoked
            · have d3 : (!decide (x.invoked = y.invoked)) = false := by rw [decide_eq_true e3]; rfl
              refine rO ?_;refine rC ?_;refine rO ?_;refine rQ iB ?_;refine rO ?_;refine rC ?_;refine rO ?_;refine rQ iB ?_;refine rO ?_;refine rC ?_;refine rQ iF ?_;refine rC ?_
              by_cases e4 : x.returned = y.returned
              · have d4 : (!decide (x.returned = y.returned)) = false := by rw [decide_eq_true e4]; rfl
                refine rO ?_;refine rC ?_;refine rO ?_;refine rQ iB ?_;refine rO ?_;refine rC ?_;refine rO ?_;refine rQ iB ?_;refine rO ?_;refine rQ (neq_data rfl rfl rfl rfl (by kernel_rfl) (by decide) (block_eq x.value y.value)) ?_
                refine rQ iF ?_;refine rC ?_
                by_cases e5 : x.value = y.value
                · have d5 : (!decide (x.value = y.value)) = false := by rw [decide_eq_true e5]; rfl
                  refine rO ?_;refine rC ?_;refine rO ?_;refine rQ iB ?_;refine rO ?_;refine rC ?_;refine rO ?_;refine rQ iB ?_;refine rO ?_;refine rC ?_;refine rQ iF ?_;refine rC ?_
                  by_cases e6 : x.err = y.err
                  · have d6 : (!decide (x.err = y.err)) = false := by rw [decide_eq_true e6]; rfl
                    refine rO ?_;refine rC ?_;refine rO ?_;refine rQ iB ?_;refine rO ?_;refine rC ?_;refine rO ?_;refine rQ iB ?_;refine rO ?_;refine rQ (call_r hreq rfl rfl (arg_e (arg_e arg_nil)) (.inl rfl) (fun _ => rfl)) ?_
                    refine rO ?_;refine rC ?_;refine rQ iF ?_;refine nS ?_
                    by_cases e7 : x.op = y.op
                    · rw [if_pos e7] at hq7
                      subst hq7
                      have hxy : x = y := by
                        cases x; cases y
                        simp only [HOp.mk.injEq]
                        exact ⟨e0, e1, e2, e7, e3, e4, e5, e6⟩
                      refine wG ?_;refine wc_skip ?_;refine blk_n ?_;refine seq_n ?_;refine wc_region ?_;refine rC ?_;refine rQ iD ?_;refine rC ?_;refine reg_nil ?_
                      exact loop_n (i + 1) [] ⟨hlt, by rw [List.take_add_one, List.take_add_one, hx, hy, hsame, hxy]⟩ (by omega) (.of rfl rfl rfl rfl rfl ⟨⟨_, rfl, .refl _⟩, rfl, ⟨_, rfl, .refl _⟩, rfl, ⟨_, rfl, .refl _⟩, rfl, trivial⟩ trivial)
                    · rw [if_neg e7] at hq7
                      subst hq7
                      rw [if_neg (hne fun h => e7 (by rw [h]))]
                      refine wV ?_;refine sR ?_;refine rC ?_;refine nS ?_;refine wc_ret ?_;refine blk_r ?_;refine seq_r ?_;refine loop_r ?_;refine blk_r ?_;refine seq_r ?_
                      exact ⟨trivial, [], lf⟩
                  · have d6 : (!decide (x.err = y.err)) = true := by rw [decide_eq_false e6]; rfl
                    rw [if_neg (hne fun h => e6 (by rw [h]))]
                    iterate 6 refine rS ?_
                    refine rQ iT ?_;refine nS ?_;refine wV ?_;refine sR ?_;refine rC ?_;refine nS ?_;refine wc_ret ?_;refine blk_r ?_;refine seq_r ?_;refine loop_r ?_;refine blk_r ?_
                    refine seq_r ?_
                    exact ⟨trivial, [], lf⟩
                · have d5 : (!decide (x.value = y.value)) = true := by rw [decide_eq_false e5]; rfl
                  rw [if_neg (hne fun h => e5 (by rw [h]))]
                  iterate 5 refine rS ?_
                  refine rQ iT ?_;refine rC ?_;iterate 6 refine rT ?_
                  refine rQ iU ?_;refine nS ?_;refine wV ?_;refine sR ?_;refine rC ?_;refine nS ?_;refine wc_ret ?_;refine blk_r ?_;refine seq_r ?_;refine loop_r ?_;refine blk_r ?_
                  refine seq_r ?_
                  exact ⟨trivial, [], lf⟩
              · have d4 : (!decide (x.returned = y.returned)) = true := by rw [decide_eq_false e4]; rfl
                rw [if_neg (hne fun h => e4 (by rw [h]))]
                iterate 5 refine rS ?_
                refine rQ iT ?_;refine rC ?_;iterate 5 refine rT ?_
                refine rQ iU ?_;refine rC ?_;iterate 6 refine rT ?_
                refine rQ iU ?_;refine nS ?_;refine wV ?_;refine sR ?_;refine rC ?_;refine nS ?_;refine wc_ret ?_;refine blk_r ?_;refine seq_r ?_;refine loop_r ?_;refine blk_r ?_
                refine seq_r ?_
                exact ⟨trivial, [], lf⟩
            · have d3 : (!decide (x.invoked = y.invoked)) = true := by rw [decide_eq_false e3]; rfl
              rw [if_neg (hne fun h => e3 (by rw [h]))]
              iterate 5 refine rS ?_
              refine rQ iT ?_;refine rC ?_;iterate 5 refine rT ?_
              refine rQ iU ?_;refine rC ?_;iterate 5 refine rT ?_
              refine rQ iU ?_;refine rC ?_;iterate 6 refine rT ?_
              refine rQ iU ?_;refine nS ?_;refine wV ?_;refine sR ?_;refine rC ?_;refine nS ?_;refine wc_ret ?_;refine blk_r ?_;refine seq_r ?_;refine loop_r ?_;refine blk_r ?_
              refine seq_r ?_
              exact ⟨trivial, [], lf⟩
          · have d2 : (!decide (x.era = y.era)) = true := by rw [decide_eq_false e2]; rfl
            rw [if_neg (hne fun h => e2 (by rw [h]))]
            iterate 5 refine rS ?_
            refine rQ iT ?_;refine rC ?_;iterate 5 refine rT ?_
            refine rQ iU ?_;refine rC ?_;iterate 5 refine rT ?_
            refine rQ iU ?_;refine rC ?_;iterate 5 refine rT ?_
            refine rQ iU ?_;refine rC ?_;iterate 6 refine rT ?_
            refine rQ iU ?_;refine nS ?_;refine wV ?_;refine sR ?_;refine rC ?_;refine nS ?_;refine wc_ret ?_;refine blk_r ?_;refine seq_r ?_;refine loop_r ?_;refine blk_r ?_
            refine seq_r ?_
            exact ⟨trivial, [], lf⟩
        · have d1 : (!decide (x.number = y.number)) = true := by rw [decide_eq_false e1]; rfl
          rw [if_neg (hne fun h => e1 (by rw [h]))]
          iterate 5 refine rS ?_
          refine rQ iT ?_;refine rC ?_;iterate 5 refine rT ?_
          refine rQ iU ?_;refine rC ?_;iterate 5 refine rT ?_
          refine rQ iU ?_;refine rC ?_;iterate 5 refine rT ?_
          refine rQ iU ?_;refine rC ?_;iterate 5 refine rT ?_
          refine rQ iU ?_;refine rC ?_;iterate 6 refine rT ?_
          refine rQ iU ?_;refine nS ?_;refine wV ?_;refine sR ?_;refine rC ?_;refine nS ?_;refine wc_ret ?_;refine blk_r ?_;refine seq_r ?_;refine loop_r ?_;refine blk_r ?_
          refine seq_r ?_
          exact ⟨trivial, [], lf⟩
      · have d0 : (!decide (x.client = y.client)) = true := by rw [decide_eq_false e0]; rfl
        rw [if_neg (hne fun h => e0 (by rw [h]))]
        iterate 5 refine rS ?_
        refine rQ iT ?_;refine rC ?_;iterate 5 refine rT ?_
        refine rQ iU ?_;refine rC ?_;iterate 5 refine rT ?_
        refine rQ iU ?_;refine rC ?_;iterate 5 refine rT ?_
        refine rQ iU ?_;refine rC ?_;iterate 5 refine rT ?_
        refine rQ iU ?_;refine rC ?_;iterate 5 refine rT ?_
        refine rQ iU ?_;refine rC ?_;iterate 6 refine rT ?_
        refine rQ iU ?_;refine nS ?_;refine wV ?_;refine sR ?_;refine rC ?_;refine nS ?_;refine wc_ret ?_;refine blk_r ?_;refine seq_r ?_;refine loop_r ?_;refine blk_r ?_
        refine seq_r ?_
        exact ⟨trivial, [], lf⟩
    · have he : i = p.length := by have := of_decide_eq_false h3; omega
      subst he
      rw [if_pos (by rw [List.take_length] at hsame; rw [hsame, hlen, List.take_length])]
      refine wc_exit ?_;refine seq_x ?_;refine loop_x ?_;refine blk_x ?_;refine seq_n ?_;refine sR ?_;refine rC ?_;refine nS ?_;refine wc_ret ?_
      exact ⟨trivial, [], lf⟩
  · have hd : (!decide ((p.length : Int) = (q.length : Int))) = true := by rw [decide_eq_false (by omega)]; rfl
    rw [if_neg (fun e => hlen (by rw [e]))]
    refine wT ?_;refine sR ?_;refine rC ?_;refine nS ?_;refine wc_ret ?_;refine seq_r ?_
    exact ⟨trivial, [], lf⟩
end Go.Proofs.YtmojbghcngdkpaaGreatDoor

namespace Go.Proofs.YtmojbghcngdkpaaGreatDoor
open Go.Eng Go.Plain
set_option maxHeartbeats 8000000
set_option maxRecDepth 20000
attribute [local irreducible] WC RegS RegD SeqQ BlkQ ScoQ RegK CutK Sat SatN FnIs LoopQ StepIs OpIs
theorem ixe_is (n : Int) (xs : List Int) (hL : xs.length ≤ 1000000000) : FnIs Tryz.prog 139 [.d (.arr 1 i6 xs), .int .i64 n] [] (.int .i64 (idxF (fun y => decide (n = y)) xs)) [] := by
  refine fnIs_of tab_ok Tryz.func139 rfl rfl rfl ?_;refine sR ?_;refine rC ?_;refine nQ ?_;refine sR ?_;refine rC ?_;refine rQ iE ?_;refine rC ?_;refine nS ?_;refine wc_block ?_
  refine wc_inv (fun i : Nat => ⟨[(8, .int .i64 i), (7, .int .i64 xs.length), (1, .int .i64 n), (0, .d (.arr 1 i6 xs))], [], 72, Tryz.f139.ntmps, 64⟩) (fun i => i ≤ xs.length ∧ ∀ j, j < i → ∀ y, xs[j]? = some y → decide (n = y) = false) (fun i => xs.length - i) 0 [] ⟨Nat.zero_le _, fun j hj => absurd hj (Nat.not_lt_zero _)⟩
    (.of rfl rfl rfl rfl rfl ⟨⟨_, rfl, .refl _⟩, rfl, ⟨_, rfl, .refl _⟩, rfl, ⟨_, rfl, .refl _⟩, rfl, ⟨_, rfl, .refl _⟩, rfl, trivial⟩ trivial) ?_
  rintro i ⟨hi, hno⟩
  refine wc_of ?_;refine sR ?_;refine rC ?_;refine nQ ?_
  refine wc_cond rfl (fun h2 => ?_) (fun h2 => ?_)
  · have hlt : i < xs.length := by have := of_decide_eq_true h2; omega
    obtain ⟨x, hx⟩ : ∃ u, xs[i]? = some u := ⟨_, List.getElem?_eq_getElem hlt⟩
    have hx' : xs[((i : Int)).toNat]? = some x := by rw [Int.toNat_natCast]; exact hx
    cases hp : decide (n = x) with
    | true =>
      refine kS ?_;refine wc_seq ?_;refine wc_block ?_;refine sR ?_;iterate 2 refine rC ?_
      refine nR ?_;iterate 3 refine rC ?_
      refine rQ (index_arr tab_ok rfl rfl rfl rfl rfl (by omega) hx') ?_;refine rQ iL ?_;refine rC ?_;refine nS ?_;refine wT ?_;refine sR ?_;iterate 2 refine rC ?_
      refine nS ?_;refine wc_ret ?_;refine blk_r ?_;refine seq_r ?_;refine loop_r ?_;refine blk_r ?_;refine seq_r ?_
      exact ⟨trivial, [], .of rfl rfl rfl rfl rfl ⟨⟨_, rfl, AVLe.of_eq (by rw [idxF_some (p := fun y => decide (n = y)) hx hp hno]; rfl)⟩, rfl, trivial⟩ trivial⟩
    | false =>
      refine kS ?_;refine wc_seq ?_;refine wc_block ?_;refine sR ?_;iterate 2 refine rC ?_
      refine nR ?_;iterate 3 refine rC ?_
      refine rQ (index_arr tab_ok rfl rfl rfl rfl rfl (by omega) hx') ?_;refine rQ iL ?_;refine rC ?_;refine nS ?_;refine wF ?_;refine wc_skip ?_;refine blk_n ?_;refine seq_n ?_
      refine wc_region ?_;refine rQ iD ?_;refine rC ?_;refine reg_nil ?_;refine loop_n (i + 1) [] ⟨hlt, fun j hj y hy => ?_⟩ (by omega) ?_
      · by_cases e : j = i
        · subst e
          rw [hx] at hy
          cases hy
          exact hp
        · exact hno j (by omega) y hy
      · exact .of rfl rfl rfl rfl rfl ⟨⟨_, rfl, .refl _⟩, rfl, ⟨_, rfl, .refl _⟩, rfl, ⟨_, rfl, .refl _⟩, rfl, ⟨_, rfl, .refl _⟩, rfl, trivial⟩ trivial
  · have he : i = xs.length := by have := of_decide_eq_false h2; omega
    refine wc_exit ?_;refine seq_x ?_;refine loop_x ?_;refine blk_x ?_;refine seq_n ?_;refine sR ?_;refine rC ?_;refine nS ?_;refine wc_ret ?_
    exact ⟨trivial, [], .of rfl rfl rfl rfl rfl ⟨⟨_, rfl, AVLe.of_eq (by
      rw [idxF_none (p := fun y => decide (n = y)) fun j y hy => hno j (by have := (List.getElem?_eq_some_iff.1 hy).1; omega) y hy]
      rfl)⟩, rfl, trivial⟩ trivial⟩
theorem cte_is (n : Int) (xs : List Int) (hL : xs.length ≤ 1000000000) : FnIs Tryz.prog 116 [.d (.arr 1 i6 xs), .int .i64 n] [] (.bool (xs.any fun y => decide (n = y))) [] := by
  refine fnIs_of tab_ok Tryz.func116 rfl rfl rfl ?_;refine sR ?_;refine rC ?_;refine nR ?_;iterate 2 refine rC ?_
  refine rQ (call_r (ixe_is n xs hL) rfl rfl (arg_e (arg_e arg_nil)) (.inl rfl) (fun _ => rfl)) ?_;iterate 2 refine rC ?_
  refine nS ?_;refine wc_ret ?_
  exact ⟨trivial, [], .of rfl rfl rfl rfl rfl ⟨⟨_, rfl, AVLe.of_eq (by rw [← idxF_any]; rfl)⟩, rfl, trivial⟩ trivial⟩
theorem own_is (x : HEv) (hlen : x.op.data.length ≤ 1048576) : FnIs Tryz.prog 59 [.d (encEv x)] [] (.d (encEv x)) [] := by
  refine fnIs_of tab_ok Tryz.func59 rfl rfl rfl ?_;refine sR ?_;iterate 2 refine rN ?_
  refine nR ?_;iterate 2 refine rC ?_
  refine rQ iB ?_;refine rQ (call_r (exb_is x.op.data hlen) rfl rfl (arg_e arg_nil) (.inl rfl) (fun _ => rfl)) ?_;iterate 2 refine rC ?_
  refine reg_store (store_row tab_ok rfl rfl rfl ⟨_, ⟨_, ⟨_, ⟨_, ⟨rfl, rfl, rfl⟩, rfl⟩, rfl⟩, rfl⟩, rfl⟩ rfl) ?_;refine nR ?_;refine rQ iM ?_;refine rW ?_;refine nS ?_
  refine wc_ret ?_
  exact ⟨trivial, _, rfl, [], lf⟩
end Go.Proofs.YtmojbghcngdkpaaGreatDoor

namespace Go.Proofs.YtmojbghcngdkpaaGreatDoor
open Go.Eng Go.Plain
structure RdS where
  busy : List Int
  number : List Int
  era : Int
  read : Int
  all : List HOp
def zero8 : List Int := [0, 0, 0, 0, 0, 0, 0, 0]
def rd0 : RdS := ⟨zero8, zero8, 0, 0, []⟩
def kn4 (e : Int) : Bool := decide (e = 0) || decide (e = 1) || decide (e = 8) || decide (e = 9)
def inv1 (s : RdS) (x : HEv) : Bool := decide (0 ≤ x.client) && decide (x.client < 8) && decide (s.busy[x.client.toNat]? = some 0) && decide (x.op.data.length ≤ 64) && decide (x.value = zBk) && decide (x.err = 0)
def opOf (s : RdS) (x : HEv) : Option HOp := match s.busy[x.client.toNat]? with
  | some b => s.all[(b - 1).toNat]?
  | none => none
def ret1 (s : RdS) (x : HEv) : Bool := decide (0 ≤ x.client) && decide (x.client < 8) && !decide (s.busy[x.client.toNat]? = some 0) && decide (x.op = zOp) && kn4 x.err && (decide (x.value = zBk) || (match opOf s x with | some o => decide (o.op.kind = 1) && decide (x.err = 0) | none => false))
def crash1 (x : HEv) : Bool := decide (x.client = 0) && decide (x.op = zOp) && decide (x.value = zBk) && decide (x.err = 0)
def takeS (s : RdS) (x : HEv) : RdS × Bool :=
  let c := x.client.toNat
  if x.kind = 1 then
    if inv1 s x then (⟨s.busy.set c (s.all.length + 1), s.number.set c ((s.number[c]?.getD 0) + 1), s.era, s.read + 1, s.all ++ [⟨x.client, s.number[c]?.getD 0, s.era, x.op, s.read, -1, zBk, 0⟩]⟩, true)
    else ({ s with read := s.read + 1 }, false)
  else if x.kind = 2 then
    if ret1 s x then (⟨s.busy.set c 0, s.number, s.era, s.read + 1, match opOf s x with | some o => s.all.set ((s.busy[c]?.getD 0) - 1).toNat { o with returned := s.read, value := x.value, err := x.err } | none => s.all⟩, true)
    else ({ s with read := s.read + 1 }, false)
  else if x.kind = 3 then (⟨zero8, s.number, s.era + 1, s.read + 1, s.all⟩, crash1 x)
  else ({ s with read := s.read + 1 }, false)
structure RdS.Ok (s : RdS) (n : Nat) : Prop where
  blen : s.busy.length = 8
  nlen : s.number.length = 8
  busy : ∀ b ∈ s.busy, 0 ≤ b ∧ b ≤ s.all.length
  number : ∀ b ∈ s.number, 0 ≤ b ∧ b ≤ n
  era : 0 ≤ s.era ∧ s.era ≤ n
  read : s.read = n
  all : s.all.length ≤ n
theorem rd0_ok : rd0.Ok 0 := ⟨rfl, rfl, by decide, by decide, by decide, rfl, by decide⟩
theorem RdS.Ok.next {s : RdS} {n : Nat} (h : s.Ok n) (x : HEv) : (takeS s x).1.Ok (n + 1) := by
  have mset : ∀ {l : List Int} {c : Nat} {v b : Int}, b ∈ l.set c v → b = v ∨ b ∈ l := fun hb => by
    rcases List.mem_or_eq_of_mem_set hb with h | h
    · exact .inr h
    · exact .inl h
  have hnum : ∀ c : Nat, 0 ≤ s.number[c]?.getD 0 ∧ s.number[c]?.getD 0 ≤ n := fun c => by
    cases hc : s.number[c]? with
    | none => simp
    | some b => exact h.number b (List.mem_of_getElem? hc)
  have hbase : ({ s with read := s.read + 1 } : RdS).Ok (n + 1) := ⟨h.blen, h.nlen, h.busy, fun b hb => by have := h.number b hb; omega, by have := h.era; constructor <;> simp only <;> omega, by have := h.read; simp only; omega, by have := h.all; simp only; omega⟩
  have h1 := h.era
  have h2 := h.read
  have h3 := h.all
  unfold takeS
  simp only
  by_cases k1 : x.kind = 1
  · rw [if_pos k1]
    cases hi : inv1 s x with
    | false => simpa using hbase
    | true =>
      simp only [if_pos]
      refine ⟨by simp [h.blen], by simp [h.nlen], fun b hb => ?_, fun b hb => ?_, by constructor <;> simp only <;> omega, by simp only; omega, by simp; omega⟩
      · rcases mset hb with rfl | hb
        · constructor
          · omega
          · simp
        · have := h.busy b hb
          simp; omega
      · rcases mset hb with rfl | hb
        · have := hnum x.client.toNat
          omega
        · have := h.number b hb; omega
  · rw [if_neg k1]
    by_cases k2 : x.kind = 2
    · rw [if_pos k2]
      cases hi : ret1 s x with
      | false => simpa using hbase
      | true =>
        simp only [if_pos]
        have hl : (match opOf s x with | some o => s.all.set ((s.busy[x.client.toNat]?.getD 0) - 1).toNat { o with returned := s.read, value := x.value, err := x.err } | none => s.all).length = s.all.length := by
          cases opOf s x <;> simp
        refine ⟨by simp [h.blen], h.nlen, fun b hb => ?_, fun b hb => by have := h.number b hb; omega, by constructor <;> simp only <;> omega, by simp only; omega, by simp only [hl]; omega⟩
        simp only [hl]
        rcases mset hb with rfl | hb
        · omega
        · exact h.busy b hb
    · rw [if_neg k2]
      by_cases k3 : x.kind = 3
      · rw [if_pos k3]
        refine ⟨rfl, h.nlen, fun b hb => ?_, fun b hb => by have := h.number b hb; omega, by constructor <;> simp only <;> omega, by simp only; omega, by simp only; omega⟩
        have : b = 0 := by simpa [zero8] using hb
        simp only
        omega
      · rw [if_neg k3]; exact hbase
end Go.Proofs.YtmojbghcngdkpaaGreatDoor

namespace Go.Proofs.YtmojbghcngdkpaaGreatDoor
open Go.Eng Go.Plain
set_option maxHeartbeats 8000000
set_option maxRecDepth 20000
attribute [local irreducible] WC RegS RegD SeqQ BlkQ ScoQ RegK CutK Sat SatN FnIs LoopQ StepIs OpIs
abbrev rdRow (s : RdS) (r : Nat) : Row := .box 114 (.acons (.d (.vec 8 1 i6 s.busy)) (.acons (.d (.vec 8 1 i6 s.number)) (.acons (.d (i6 s.era)) (.acons (.d (i6 s.read)) (.acons (.own r 0 s.all.length 41 none) .anil)))))
abbrev opRow (l : List HOp) : Row := .ds 54 41 false encOpn l
abbrev TakeIs (s : RdS) (x : HEv) (s' : RdS) (b : Bool) : Prop := FnIs Tryz.prog 71 [.ptr 0 [], .d (encEv x)] [(0, rdRow s 1), (1, opRow s.all)] (.bool b) [(0, rdRow s' 64), (64, opRow s'.all)]
theorem take_other (s : RdS) (x : HEv) (n : Nat) (hs : s.Ok n) (hn : n ≤ 1000000) (k1 : x.kind ≠ 1) (k2 : x.kind ≠ 2) (k3 : x.kind ≠ 3) (c0 : Bool) (h0 : decide (0 ≤ x.client) = c0) : TakeIs s x { s with read := s.read + 1 } false := by
  have hr := hs.read
  have d1 : decide (x.kind = 1) = false := decide_eq_false k1
  have d2 : decide (x.kind = 2) = false := decide_eq_false k2
  have d3 : decide (x.kind = 3) = false := decide_eq_false k3
  have hw : IntKind.i64.wrap (s.read + 1) = s.read + 1 := wrap_i64 (by omega) (by omega)
  refine fnIs_of tab_ok Tryz.func71 rfl rfl rfl ?_;refine sR ?_;refine rN ?_;refine rC ?_;refine nR ?_;iterate 3 refine rC ?_
  refine rQ iM ?_;refine rC ?_;refine nR ?_;iterate 3 refine rC ?_
  refine rQ iM ?_;refine rQ iD ?_;iterate 2 refine rC ?_
  refine reg_store (store_row tab_ok rfl rfl rfl ⟨_, ⟨_, ⟨rfl, rfl, rfl⟩, rfl⟩, rfl⟩ rfl) ?_;refine nR ?_;refine rC ?_;refine rQ iB ?_;iterate 2 refine rC ?_
  cases c0 with
  | false =>
    iterate 3 refine rS ?_
    refine rQ iF ?_;refine rC ?_;refine nR ?_;refine rC ?_;refine rQ iB ?_;refine rQ (build_array tab_ok rfl rfl rfl) ?_;refine rQ (eql_data rfl rfl rfl rfl (by kernel_rfl) (by decide) (block_eq x.value zBk)) ?_
    refine rC ?_;refine nQ ?_;refine wc_block ?_;refine sR ?_;refine rC ?_;refine rQ iB ?_;iterate 2 refine rC ?_
    refine nS ?_;refine wF ?_;refine sR ?_;refine rC ?_;refine rQ iB ?_;iterate 2 refine rC ?_
    refine nS ?_;refine wF ?_;refine sR ?_;refine rC ?_;refine rQ iB ?_;iterate 2 refine rC ?_
    refine nS ?_;refine wF ?_;refine sR ?_;refine rC ?_;refine nS ?_;refine wc_ret ?_;refine blk_r ?_;refine seq_r ?_
    exact ⟨trivial, [(64, some 1)], .of rfl rfl rfl rfl rfl ⟨⟨_, rfl, AVLe.of_eq rfl⟩, rfl, trivial⟩ ⟨⟨rfl, rfl, _, rfl, .refl _⟩, ⟨rfl, rfl, _, rfl, .refl _⟩, trivial⟩⟩
  | true =>
    refine rO ?_;refine rC ?_;refine rO ?_;refine rQ iB ?_;refine rO ?_;refine rC ?_;refine rQ iT ?_;refine rC ?_;refine nR ?_;refine rC ?_;refine rQ iB ?_;refine rQ (build_array tab_ok rfl rfl rfl) ?_
    refine rQ (eql_data rfl rfl rfl rfl (by kernel_rfl) (by decide) (block_eq x.value zBk)) ?_;refine rC ?_;refine nQ ?_;refine wc_block ?_;refine sR ?_;refine rC ?_
    refine rQ iB ?_;iterate 2 refine rC ?_
    refine nS ?_;refine wF ?_;refine sR ?_;refine rC ?_;refine rQ iB ?_;iterate 2 refine rC ?_
    refine nS ?_;refine wF ?_;refine sR ?_;refine rC ?_;refine rQ iB ?_;iterate 2 refine rC ?_
    refine nS ?_;refine wF ?_;refine sR ?_;refine rC ?_;refine nS ?_;refine wc_ret ?_;refine blk_r ?_;refine seq_r ?_
    exact ⟨trivial, [(64, some 1)], .of rfl rfl rfl rfl rfl ⟨⟨_, rfl, AVLe.of_eq rfl⟩, rfl, trivial⟩ ⟨⟨rfl, rfl, _, rfl, .refl _⟩, ⟨rfl, rfl, _, rfl, .refl _⟩, trivial⟩⟩
theorem take_crash (s : RdS) (x : HEv) (n : Nat) (hs : s.Ok n) (hn : n ≤ 1000000) (k3 : x.kind = 3) (c0 c1 c2 c3 : Bool) (h0 : decide (0 ≤ x.client) = c0) (h1 : decide (x.client = 0) = c1) (h2 : decide (x.op = zOp) = c2) (h3 : decide (x.value = zBk) = c3) : TakeIs s x ⟨zero8, s.number, s.era + 1, s.read + 1, s.all⟩ (c1 && c2 && c3 && decide (x.err = 0)) := by
  have hr := hs.read
  have he := hs.era
  have d1 : decide (x.kind = 1) = false := decide_eq_false (by omega)
  have d2 : decide (x.kind = 2) = false := decide_eq_false (by omega)
  have d3 : decide (x.kind = 3) = true := decide_eq_true k3
  have hw : IntKind.i64.wrap (s.read + 1) = s.read + 1 := wrap_i64 (by omega) (by omega)
  have hw2 : IntKind.i64.wrap (s.era + 1) = s.era + 1 := wrap_i64 (by omega) (by omega)
  refine fnIs_of tab_ok Tryz.func71 rfl rfl rfl ?_;refine sR ?_;refine rN ?_;refine rC ?_;refine nR ?_;iterate 3 refine rC ?_
  refine rQ iM ?_;refine rC ?_;refine nR ?_;iterate 3 refine rC ?_
  refine rQ iM ?_;refine rQ iD ?_;iterate 2 refine rC ?_
  refine reg_store (store_row tab_ok rfl rfl rfl ⟨_, ⟨_, ⟨rfl, rfl, rfl⟩, rfl⟩, rfl⟩ rfl) ?_;refine nR ?_;refine rC ?_;refine rQ iB ?_;iterate 2 refine rC ?_
  cases c0 with
  | false =>
    have e1 : c1 = false := by rw [← h1]; exact decide_eq_false (by have := of_decide_eq_false h0; omega)
    subst e1
    iterate 3 refine rS ?_
    refine rQ iF ?_;refine rC ?_;refine nR ?_;refine rC ?_;refine rQ iB ?_;refine rQ (build_array tab_ok rfl rfl rfl) ?_;refine rQ (eql_data rfl rfl rfl rfl (by kernel_rfl) (by decide) (block_eq x.value zBk)) ?_
    refine rC ?_;refine nQ ?_;refine wc_block ?_;refine sR ?_;refine rC ?_;refine rQ iB ?_;iterate 2 refine rC ?_
    refine nS ?_;refine wF ?_;refine sR ?_;refine rC ?_;refine rQ iB ?_;iterate 2 refine rC ?_
    refine nS ?_;refine wF ?_;refine sR ?_;refine rC ?_;refine rQ iB ?_;iterate 2 refine rC ?_
    refine nS ?_;refine wT ?_;refine sR ?_;iterate 3 refine rC ?_
    refine rQ (slice_ptr tab_ok rfl rfl rfl) ?_;refine reg_do rfl (clear_asl (enc := i6) (s := 1) (L := 8) tab_ok (0 : Int) rfl rfl rfl rfl rfl rfl rfl rfl ⟨_, ⟨_, ⟨rfl, rfl, rfl⟩, rfl⟩, rfl⟩) rfl rfl ?_
    refine nR ?_;iterate 3 refine rC ?_
    refine rQ iM ?_;refine rQ iD ?_;iterate 2 refine rC ?_
    refine reg_store (store_row tab_ok rfl rfl rfl ⟨_, ⟨_, ⟨rfl, rfl, rfl⟩, rfl⟩, rfl⟩ rfl) ?_;refine nR ?_;refine rC ?_;refine rQ iB ?_;iterate 2 refine rC ?_
    iterate 3 refine rS ?_
    refine rQ iF ?_;refine rC ?_;refine rT ?_;refine rQ iG ?_;refine rC ?_;iterate 3 refine rT ?_
    refine rQ iG ?_;refine rC ?_;refine nS ?_;refine wc_ret ?_;refine blk_r ?_;refine seq_r ?_
    exact ⟨trivial, [(64, some 1)], .of rfl rfl rfl rfl rfl ⟨⟨_, rfl, AVLe.of_eq rfl⟩, rfl, trivial⟩ ⟨⟨rfl, rfl, _, rfl, .refl _⟩, ⟨rfl, rfl, _, rfl, .refl _⟩, trivial⟩⟩
  | true =>
    refine rO ?_;refine rC ?_;refine rO ?_;refine rQ iB ?_;refine rO ?_;refine rC ?_;refine rQ iT ?_;refine rC ?_;refine nR ?_;refine rC ?_;refine rQ iB ?_;refine rQ (build_array tab_ok rfl rfl rfl) ?_
    refine rQ (eql_data rfl rfl rfl rfl (by kernel_rfl) (by decide) (block_eq x.value zBk)) ?_;refine rC ?_;refine nQ ?_;refine wc_block ?_;refine sR ?_;refine rC ?_
    refine rQ iB ?_;iterate 2 refine rC ?_
    refine nS ?_;refine wF ?_;refine sR ?_;refine rC ?_;refine rQ iB ?_;iterate 2 refine rC ?_
    refine nS ?_;refine wF ?_;refine sR ?_;refine rC ?_;refine rQ iB ?_;iterate 2 refine rC ?_
    refine nS ?_;refine wT ?_;refine sR ?_;iterate 3 refine rC ?_
    refine rQ (slice_ptr tab_ok rfl rfl rfl) ?_;refine reg_do rfl (clear_asl (enc := i6) (s := 1) (L := 8) tab_ok (0 : Int) rfl rfl rfl rfl rfl rfl rfl rfl ⟨_, ⟨_, ⟨rfl, rfl, rfl⟩, rfl⟩, rfl⟩) rfl rfl ?_
    refine nR ?_;iterate 3 refine rC ?_
    refine rQ iM ?_;refine rQ iD ?_;iterate 2 refine rC ?_
    refine reg_store (store_row tab_ok rfl rfl rfl ⟨_, ⟨_, ⟨rfl, rfl, rfl⟩, rfl⟩, rfl⟩ rfl) ?_;refine nR ?_;refine rC ?_;refine rQ iB ?_;iterate 2 refine rC ?_
    cases c1 with
    | false =>
      iterate 3 refine rS ?_
      refine rQ iF ?_;refine rC ?_;refine rT ?_;refine rQ iG ?_;refine rC ?_;iterate 3 refine rT ?_
      refine rQ iG ?_;refine rC ?_;refine nS ?_;refine wc_ret ?_;refine blk_r ?_;refine seq_r ?_
      exact ⟨trivial, [(64, some 1)], .of rfl rfl rfl rfl rfl ⟨⟨_, rfl, AVLe.of_eq rfl⟩, rfl, trivial⟩ ⟨⟨rfl, rfl, _, rfl, .refl _⟩, ⟨rfl, rfl, _, rfl, .refl _⟩, trivial⟩⟩
    | true =>
      refine rO ?_;refine rC ?_;refine rO ?_;refine rQ iB ?_;refine rO ?_;refine rQ (call_r (blank_is x.op) rfl rfl (arg_e arg_nil) (.inl rfl) (fun _ => rfl)) ?_;refine rQ iT ?_
      refine rC ?_
      cases c2 with
      | false =>
        refine rS ?_;refine rQ iF ?_;refine rC ?_;iterate 3 refine rT ?_
        refine rQ iG ?_;refine rC ?_;refine nS ?_;refine wc_ret ?_;refine blk_r ?_;refine seq_r ?_
        exact ⟨trivial, [(64, some 1)], .of rfl rfl rfl rfl rfl ⟨⟨_, rfl, AVLe.of_eq rfl⟩, rfl, trivial⟩ ⟨⟨rfl, rfl, _, rfl, .refl _⟩, ⟨rfl, rfl, _, rfl, .refl _⟩, trivial⟩⟩
      | true =>
        refine rO ?_;refine rC ?_;refine rQ iT ?_;refine rC ?_
        cases c3 with
        | false =>
          iterate 3 refine rS ?_
          refine rQ iF ?_;refine rC ?_;refine nS ?_;refine wc_ret ?_;refine blk_r ?_;refine seq_r ?_
          exact ⟨trivial, [(64, some 1)], .of rfl rfl rfl rfl rfl ⟨⟨_, rfl, AVLe.of_eq rfl⟩, rfl, trivial⟩ ⟨⟨rfl, rfl, _, rfl, .refl _⟩, ⟨rfl, rfl, _, rfl, .refl _⟩, trivial⟩⟩
        | true =>
          refine rO ?_;refine rC ?_;refine rO ?_;refine rQ iB ?_;refine rO ?_;refine rC ?_;refine rQ iT ?_;refine rC ?_;refine nS ?_;refine wc_ret ?_;refine blk_r ?_;refine seq_r ?_
          exact ⟨trivial, [(64, some 1)], .of rfl rfl rfl rfl rfl ⟨⟨_, rfl, AVLe.of_eq rfl⟩, rfl, trivial⟩ ⟨⟨rfl, rfl, _, rfl, .refl _⟩, ⟨rfl, rfl, _, rfl, .refl _⟩, trivial⟩⟩
end Go.Proofs.YtmojbghcngdkpaaGreatDoor

namespace Go.Proofs.YtmojbghcngdkpaaGreatDoor
open Go.Eng Go.Plain
set_option maxHeartbeats 8000000
set_option maxRecDepth 20000
attribute [local irreducible] WC RegS RegD SeqQ BlkQ ScoQ RegK CutK Sat SatN FnIs LoopQ StepIs OpIs
theorem take_inv (s : RdS) (x : HEv) (n : Nat) (hs : s.Ok n) (hn : n ≤ 1000000) (k1 : x.kind = 1) (m : Int) (hc0 : 0 ≤ x.client) (hc8 : x.client < 8) (hbg : s.busy[x.client.toNat]? = some 0) (hng : s.number[x.client.toNat]? = some m) (hd64 : x.op.data.length ≤ 64) (hval : x.value = zBk) (herr : x.err = 0) :
    TakeIs s x ⟨s.busy.set x.client.toNat ((s.all.length + 1 : Nat) : Int), s.number.set x.client.toNat (m + 1), s.era, s.read + 1, s.all ++ [⟨x.client, m, s.era, x.op, s.read, -1, zBk, 0⟩]⟩ true := by
  have hr := hs.read
  have ha := hs.all
  have hm := hs.number m (List.mem_of_getElem? hng)
  have d1 : decide (x.kind = 1) = true := decide_eq_true k1
  have c0 : decide (0 ≤ x.client) = true := decide_eq_true hc0
  have c8 : decide (x.client < 8) = true := decide_eq_true hc8
  have n8 : (!decide (x.client < 8)) = false := by rw [c8]; rfl
  have b0 : decide ((0 : Int) < 0) = false := rfl
  have l64 : decide ((64 : Int) < ((byI x.op.data).length : Int)) = false := decide_eq_false (by rw [byI_len]; omega)
  have v0 : (!decide (x.value = zBk)) = false := by rw [decide_eq_true hval]; rfl
  have e0 : (!decide (x.err = 0)) = false := by rw [decide_eq_true herr]; rfl
  have hw : IntKind.i64.wrap (s.read + 1) = s.read + 1 := wrap_i64 (by omega) (by omega)
  have hwm : IntKind.i64.wrap (m + 1) = m + 1 := wrap_i64 (by omega) (by omega)
  have hlen : x.op.data.length ≤ 1048576 := by omega
  have hal : s.all.length + 1 ≤ 1048576 := by omega
  simp only [TakeIs, rdRow, List.length_append, List.length_cons, List.length_nil, Nat.zero_add]
  refine fnIs_of tab_ok Tryz.func71 rfl rfl rfl ?_;refine sR ?_;refine rN ?_;refine rC ?_;refine nR ?_;iterate 3 refine rC ?_
  refine rQ iM ?_;refine rC ?_;refine nR ?_;iterate 3 refine rC ?_
  refine rQ iM ?_;refine rQ iD ?_;iterate 2 refine rC ?_
  refine reg_store (store_row tab_ok rfl rfl rfl ⟨_, ⟨_, ⟨rfl, rfl, rfl⟩, rfl⟩, rfl⟩ rfl) ?_;refine nR ?_;refine rC ?_;refine rQ iB ?_;iterate 2 refine rC ?_
  refine rO ?_;refine rC ?_;refine rO ?_;refine rQ iB ?_;refine rO ?_;refine rC ?_;refine rQ iT ?_;refine rC ?_;refine nR ?_;refine rC ?_;refine rQ iB ?_;refine rQ (build_array tab_ok rfl rfl rfl) ?_
  refine rQ (eql_data rfl rfl rfl rfl (by kernel_rfl) (by decide) (block_eq x.value zBk)) ?_;refine rC ?_;refine nQ ?_;refine wc_block ?_;refine sR ?_;refine rC ?_
  refine rQ iB ?_;iterate 2 refine rC ?_
  refine nS ?_;refine wT ?_;iterate 2 refine wc_seq ?_
  refine wc_draw (by kernel_rfl) ?_;refine dC [6] [] ?_;refine dC [37] [] ?_;refine dC [38] [] ?_;refine dreg_onq [39, 0] [] rfl rfl (by assumption) rfl (step_C tab_ok (fun K hk => hk)) ?_
  refine dreg_onq [39, 3] [] rfl rfl (by assumption) rfl (step_C tab_ok (fun K hk => hk)) ?_;refine dreg_onq [39, 41] [64] rfl rfl (by assumption) rfl (load_box tab_ok rfl rfl ⟨_, rfl, rfl⟩ rfl) ?_
  refine dreg_onq [39, 40] [] rfl rfl (by assumption) rfl (step_C tab_ok (fun K hk => hk)) ?_;refine dreg_onq [39, 43] [] rfl rfl (by assumption) rfl (step_C tab_ok (fun K hk => hk)) ?_
  refine dreg_onq [39, 44, 42] [] rfl rfl (by assumption) rfl (step_C tab_ok (fun K hk => ⟨by omega, by omega, hk⟩)) ?_;refine dreg_onq [39, 45] [0] rfl rfl (by assumption) rfl (load_box tab_ok rfl rfl ⟨_, ⟨rfl, _, hbg, rfl⟩, rfl⟩ rfl) ?_
  refine dreg_onq [39, 46] [] rfl rfl (by assumption) rfl (step_C tab_ok (fun K hk => hk)) ?_;refine dQ [39, 47] [] iF ?_;refine dC [48] [] ?_;refine dreg_onq [49, 3] [] rfl rfl rfl rfl (step_C tab_ok (fun K hk => hk)) ?_
  refine dreg_onq [49, 50] [] rfl rfl rfl rfl (step_C tab_ok (fun K hk => hk)) ?_;refine dreg_onq [49, 51] [64] rfl rfl rfl rfl (load_box tab_ok rfl rfl ⟨_, rfl, rfl⟩ rfl) ?_
  refine dreg_onq [49, 52] [] rfl rfl rfl rfl (len_arr tab_ok rfl rfl) ?_;refine dreg_onq [49, 53] [] rfl rfl rfl rfl (step_C tab_ok (fun K hk => hk)) ?_;refine dQ [49, 54] [] iG ?_
  refine dC [55] [] ?_;refine dreg_onq [56, 7] [] rfl rfl (by assumption) rfl (step_C tab_ok (fun K hk => hk)) ?_;refine dreg_onq [56, 57] [] rfl rfl (by assumption) rfl (step_C tab_ok (fun K hk => hk)) ?_
  refine dQ [56, 58] [] iF ?_;refine dC [59] [] ?_;refine dreg_onq [60, 3] [] rfl rfl (by assumption) rfl (step_C tab_ok (fun K hk => hk)) ?_;refine dreg_onq [60, 61] [64] rfl rfl (by assumption) rfl (load_box tab_ok rfl rfl ⟨_, rfl, rfl⟩ rfl) ?_
  refine dreg_onq [60, 62] [] rfl rfl (by assumption) rfl (step_C tab_ok (fun K hk => hk)) ?_;refine dQ [60, 63] [] iF ?_;refine dreg_end (by kernel_rfl) ?_;refine seq_n ?_
  refine wF ?_;refine kS ?_;refine sR ?_;iterate 2 refine rC ?_
  refine rQ iB ?_;refine rQ (call_r (exb_is x.op.data hlen) rfl rfl (arg_e arg_nil) (.inl rfl) (fun _ => rfl)) ?_;iterate 2 refine rC ?_
  refine reg_store (store_row tab_ok rfl rfl rfl ⟨_, ⟨_, ⟨_, ⟨_, ⟨rfl, rfl, rfl⟩, rfl⟩, rfl⟩, rfl⟩, rfl⟩ rfl) ?_;refine nQ ?_;refine wc_draw (by kernel_rfl) ?_;iterate 2 refine dC [0] [] ?_
  refine dC [72] [] ?_;refine dC [73] [] ?_;refine dQ [74] [0] iM ?_;refine dC [3] [] ?_;refine dQ [76] [64] iB ?_;refine dC [0] [] ?_;refine dC [3] [] ?_;refine dQ [79] [64] iB ?_
  refine dC [78] [] ?_;refine dC [81] [] ?_;refine dQ [82, 80] [] (step_C tab_ok (fun K hk => ⟨by omega, by omega, hk⟩)) ?_;refine dQ [83] [0] (load_box tab_ok rfl rfl ⟨_, ⟨rfl, _, hng, rfl⟩, rfl⟩ rfl) ?_
  refine dC [0] [] ?_;refine dC [85] [] ?_;refine dC [86] [] ?_;refine dQ [87] [0] iM ?_;refine dC [3] [] ?_;refine dQ [89] [64] iB ?_;refine dC [5] [] ?_;refine dQ [77, 84, 88, 90, 91] [] iS ?_
  refine dreg_w [92] [] rfl (build_slice (s := 41) tab_ok rfl rfl rfl rfl rfl rfl rfl rfl) ?_;refine dreg_w2 [75, 93] [1, 784] rfl (append_one (enc := encOpn) (s := 41) (xs := s.all) tab_ok ⟨x.client, m, s.era, x.op, s.read, -1, zBk, 0⟩ rfl rfl rfl rfl rfl rfl rfl rfl rfl hal rfl) ?_
  refine dC [71] [] ?_;refine dC [95] [] ?_;refine dreg_s [96, 94] [0] (store_row tab_ok rfl rfl rfl ⟨_, ⟨_, ⟨rfl, rfl, rfl⟩, rfl⟩, rfl⟩ rfl) ?_;refine dreg_end (by kernel_rfl) ?_
  refine seq_n ?_;refine wc_seq ?_;refine wc_draw (by kernel_rfl) ?_;refine dC [0] [] ?_;refine dC [3] [] ?_;refine dQ [98] [64] iB ?_;refine dC [97] [] ?_;refine dC [100] [] ?_
  refine dQ [101, 99] [] (step_C tab_ok (fun K hk => ⟨by omega, by omega, hk⟩)) ?_;refine dQ [102] [0] (load_box tab_ok rfl rfl ⟨_, ⟨rfl, _, hng, rfl⟩, rfl⟩ rfl) ?_
  refine dQ [103] [] iD ?_;refine dC [97] [] ?_;refine dC [105] [] ?_;refine dQ [106, 99] [] (step_C tab_ok (fun K hk => ⟨by omega, by omega, hk⟩)) ?_;refine dreg_s [107, 104] [0] (store_row tab_ok rfl rfl rfl ⟨_, ⟨_, ⟨_, ⟨rfl, _, m + 1, hng, ⟨rfl, rfl, rfl⟩, rfl⟩, rfl⟩, rfl⟩, rfl⟩ rfl) ?_
  refine dreg_end (by kernel_rfl) ?_;refine seq_n ?_;refine wc_draw (by kernel_rfl) ?_;refine dC [0] [] ?_;refine dC [3] [] ?_;refine dQ [109] [64] iB ?_;refine dC [0] [] ?_
  refine dC [111] [] ?_;refine dC [112] [] ?_;refine dQ [113] [0] iM ?_;refine dQ [114] [792] (len_own tab_ok rfl rfl) ?_;refine dC [108] [] ?_;refine dC [116] [] ?_
  refine dQ [117, 110] [] (step_C tab_ok (fun K hk => ⟨by omega, by omega, hk⟩)) ?_;refine dreg_s [118, 115] [0] (store_row tab_ok rfl rfl rfl ⟨_, ⟨_, ⟨_, ⟨rfl, _, ((s.all.length + 1 : Nat) : Int), hbg, ⟨rfl, rfl, rfl⟩, rfl⟩, rfl⟩, rfl⟩, rfl⟩ rfl) ?_
  refine dreg_end (by kernel_rfl) ?_;refine blk_n ?_;refine seq_n ?_;refine sR ?_;refine rC ?_;refine nS ?_;refine wc_ret ?_
  exact ⟨trivial, [(64, some _)], .of rfl rfl rfl rfl rfl ⟨⟨_, rfl, AVLe.of_eq rfl⟩, rfl, trivial⟩ ⟨⟨rfl, rfl, _, rfl, .refl _⟩, ⟨rfl, rfl, _, rfl, .refl _⟩, trivial⟩⟩
theorem take_inv_no (s : RdS) (x : HEv) (n : Nat) (hs : s.Ok n) (hn : n ≤ 1000000) (k1 : x.kind = 1) (hno : inv1 s x = false) : TakeIs s x { s with read := s.read + 1 } false := by
  have hr := hs.read
  have d1 : decide (x.kind = 1) = true := decide_eq_true k1
  have hw : IntKind.i64.wrap (s.read + 1) = s.read + 1 := wrap_i64 (by omega) (by omega)
  refine fnIs_of tab_ok Tryz.func71 rfl rfl rfl ?_;refine sR ?_;refine rN ?_;refine rC ?_;refine nR ?_;iterate 3 refine rC ?_
  refine rQ iM ?_;refine rC ?_;refine nR ?_;iterate 3 refine rC ?_
  refine rQ iM ?_;refine rQ iD ?_;iterate 2 refine rC ?_
  refine reg_store (store_row tab_ok rfl rfl rfl ⟨_, ⟨_, ⟨rfl, rfl, rfl⟩, rfl⟩, rfl⟩ rfl) ?_;refine nR ?_;refine rC ?_;refine rQ iB ?_;iterate 2 refine rC ?_
  by_cases hc0 : 0 ≤ x.client
  · have c0 : decide (0 ≤ x.client) = true := decide_eq_true hc0
    refine rO ?_;refine rC ?_;refine rO ?_;refine rQ iB ?_;refine rO ?_;refine rC ?_;refine rQ iT ?_;refine rC ?_;refine nR ?_;refine rC ?_;refine rQ iB ?_;refine rQ (build_array tab_ok rfl rfl rfl) ?_
    refine rQ (eql_data rfl rfl rfl rfl (by kernel_rfl) (by decide) (block_eq x.value zBk)) ?_;refine rC ?_;refine nQ ?_;refine wc_block ?_;refine sR ?_;refine rC ?_
    refine rQ iB ?_;iterate 2 refine rC ?_
    refine nS ?_;refine wT ?_;iterate 2 refine wc_seq ?_
    refine wc_draw (by kernel_rfl) ?_;refine dC [6] [] ?_;refine dC [37] [] ?_;refine dC [38] [] ?_
    by_cases hc8 : x.client < 8
    · have c8 : decide (x.client < 8) = true := decide_eq_true hc8
      have n8 : (!decide (x.client < 8)) = false := by rw [c8]; rfl
      obtain ⟨b, hbg⟩ : ∃ b, s.busy[x.client.toNat]? = some b := ⟨_, List.getElem?_eq_getElem (by rw [hs.blen]; omega)⟩
      have hb := hs.busy b (List.mem_of_getElem? hbg)
      refine dreg_onq [39, 0] [] rfl rfl (by assumption) rfl (step_C tab_ok (fun K hk => hk)) ?_;refine dreg_onq [39, 3] [] rfl rfl (by assumption) rfl (step_C tab_ok (fun K hk => hk)) ?_
      refine dreg_onq [39, 41] [64] rfl rfl (by assumption) rfl (load_box tab_ok rfl rfl ⟨_, rfl, rfl⟩ rfl) ?_;refine dreg_onq [39, 40] [] rfl rfl (by assumption) rfl (step_C tab_ok (fun K hk => hk)) ?_
      refine dreg_onq [39, 43] [] rfl rfl (by assumption) rfl (step_C tab_ok (fun K hk => hk)) ?_;refine dreg_onq [39, 44, 42] [] rfl rfl (by assumption) rfl (step_C tab_ok (fun K hk => ⟨by omega, by omega, hk⟩)) ?_
      refine dreg_onq [39, 45] [0] rfl rfl (by assumption) rfl (load_box tab_ok rfl rfl ⟨_, ⟨rfl, _, hbg, rfl⟩, rfl⟩ rfl) ?_;refine dreg_onq [39, 46] [] rfl rfl (by assumption) rfl (step_C tab_ok (fun K hk => hk)) ?_
      refine dQ [39, 47] [] iF ?_;refine dC [48] [] ?_
      by_cases hb0 : b = 0
      · have b0 : decide (0 < b) = false := decide_eq_false (by omega)
        refine dreg_onq [49, 3] [] rfl rfl (by assumption) rfl (step_C tab_ok (fun K hk => hk)) ?_;refine dreg_onq [49, 50] [] rfl rfl (by assumption) rfl (step_C tab_ok (fun K hk => hk)) ?_
        refine dreg_onq [49, 51] [64] rfl rfl (by assumption) rfl (load_box tab_ok rfl rfl ⟨_, rfl, rfl⟩ rfl) ?_;refine dreg_onq [49, 52] [] rfl rfl (by assumption) rfl (len_arr tab_ok rfl rfl) ?_
        refine dreg_onq [49, 53] [] rfl rfl (by assumption) rfl (step_C tab_ok (fun K hk => hk)) ?_;refine dQ [49, 54] [] iF ?_;refine dC [55] [] ?_
        by_cases hd : x.op.data.length ≤ 64
        · have l64 : decide ((64 : Int) < ((byI x.op.data).length : Int)) = false := decide_eq_false (by rw [byI_len]; omega)
          refine dreg_onq [56, 7] [] rfl rfl (by assumption) rfl (step_C tab_ok (fun K hk => hk)) ?_;refine dreg_onq [56, 57] [] rfl rfl (by assumption) rfl (step_C tab_ok (fun K hk => hk)) ?_
          refine dQ [56, 58] [] iF ?_;refine dC [59] [] ?_
          by_cases hv : x.value = zBk
          · have v0 : (!decide (x.value = zBk)) = false := by rw [decide_eq_true hv]; rfl
            have e0 : (!decide (x.err = 0)) = true := by
              skip
              cases h : decide (x.err = 0) with
              | false => rfl
              | true =>
                rw [inv1, c0, c8, hbg, hb0, decide_eq_true hd, decide_eq_true hv, h] at hno
                cases hno
            refine dreg_onq [60, 3] [] rfl rfl (by assumption) rfl (step_C tab_ok (fun K hk => hk)) ?_;refine dreg_onq [60, 61] [64] rfl rfl (by assumption) rfl (load_box tab_ok rfl rfl ⟨_, rfl, rfl⟩ rfl) ?_
            refine dreg_onq [60, 62] [] rfl rfl (by assumption) rfl (step_C tab_ok (fun K hk => hk)) ?_;refine dQ [60, 63] [] iF ?_;refine dreg_end (by kernel_rfl) ?_;refine seq_n ?_
            refine wT ?_;refine sR ?_;refine rC ?_;refine nS ?_;refine wc_ret ?_;refine seq_r ?_;refine blk_r ?_;refine seq_r ?_
            exact ⟨trivial, [(64, some 1)], .of rfl rfl rfl rfl rfl ⟨⟨_, rfl, AVLe.of_eq rfl⟩, rfl, trivial⟩ ⟨⟨rfl, rfl, _, rfl, .refl _⟩, ⟨rfl, rfl, _, rfl, .refl _⟩, trivial⟩⟩
          · have v0 : (!decide (x.value = zBk)) = true := by rw [decide_eq_false hv]; rfl
            refine dreg_offq [60, 3] rfl rfl (by assumption) rfl ?_;refine dreg_offq [60, 61] rfl rfl (by assumption) rfl ?_;refine dreg_offq [60, 62] rfl rfl (by assumption) rfl ?_
            refine dQ [60, 63] [] iT ?_;refine dreg_end (by kernel_rfl) ?_;refine seq_n ?_;refine wV ?_;refine sR ?_;refine rC ?_;refine nS ?_;refine wc_ret ?_;refine seq_r ?_
            refine blk_r ?_;refine seq_r ?_
            exact ⟨trivial, [(64, some 1)], .of rfl rfl rfl rfl rfl ⟨⟨_, rfl, AVLe.of_eq rfl⟩, rfl, trivial⟩ ⟨⟨rfl, rfl, _, rfl, .refl _⟩, ⟨rfl, rfl, _, rfl, .refl _⟩, trivial⟩⟩
        · have l64 : decide ((64 : Int) < ((byI x.op.data).length : Int)) = true := decide_eq_true (by rw [byI_len]; omega)
          refine dreg_offq [56, 7] rfl rfl (by assumption) rfl ?_;refine dreg_offq [56, 57] rfl rfl (by assumption) rfl ?_;refine dQ [56, 58] [] iT ?_;refine dC [59] [] ?_
          refine dreg_offq [60, 3] rfl rfl rfl rfl ?_;refine dreg_offq [60, 61] rfl rfl rfl rfl ?_;refine dreg_offq [60, 62] rfl rfl rfl rfl ?_;refine dQ [60, 63] [] iU ?_
          refine dreg_end (by kernel_rfl) ?_;refine seq_n ?_;refine wV ?_;refine sR ?_;refine rC ?_;refine nS ?_;refine wc_ret ?_;refine seq_r ?_;refine blk_r ?_;refine seq_r ?_
          exact ⟨trivial, [(64, some 1)], .of rfl rfl rfl rfl rfl ⟨⟨_, rfl, AVLe.of_eq rfl⟩, rfl, trivial⟩ ⟨⟨rfl, rfl, _, rfl, .refl _⟩, ⟨rfl, rfl, _, rfl, .refl _⟩, trivial⟩⟩
      · have b0 : decide (0 < b) = true := decide_eq_true (by omega)
        refine dreg_offq [49, 3] rfl rfl (by assumption) rfl ?_;refine dreg_offq [49, 50] rfl rfl (by assumption) rfl ?_;refine dreg_offq [49, 51] rfl rfl (by assumption) rfl ?_
        refine dreg_offq [49, 52] rfl rfl (by assumption) rfl ?_;refine dreg_offq [49, 53] rfl rfl (by assumption) rfl ?_;refine dQ [49, 54] [] iT ?_;refine dC [55] [] ?_
        refine dreg_offq [56, 7] rfl rfl rfl rfl ?_;refine dreg_offq [56, 57] rfl rfl rfl rfl ?_;refine dQ [56, 58] [] iU ?_;refine dC [59] [] ?_;refine dreg_offq [60, 3] rfl rfl rfl rfl ?_
        refine dreg_offq [60, 61] rfl rfl rfl rfl ?_;refine dreg_offq [60, 62] rfl rfl rfl rfl ?_;refine dQ [60, 63] [] iU ?_;refine dreg_end (by kernel_rfl) ?_;refine seq_n ?_
        refine wV ?_;refine sR ?_;refine rC ?_;refine nS ?_;refine wc_ret ?_;refine seq_r ?_;refine blk_r ?_;refine seq_r ?_
        exact ⟨trivial, [(64, some 1)], .of rfl rfl rfl rfl rfl ⟨⟨_, rfl, AVLe.of_eq rfl⟩, rfl, trivial⟩ ⟨⟨rfl, rfl, _, rfl, .refl _⟩, ⟨rfl, rfl, _, rfl, .refl _⟩, trivial⟩⟩
    · have c8 : decide (x.client < 8) = false := decide_eq_false hc8
      have n8 : (!decide (x.client < 8)) = true := by rw [c8]; rfl
      refine dreg_offq [39, 0] rfl rfl (by assumption) rfl ?_;refine dreg_offq [39, 3] rfl rfl (by assumption) rfl ?_;refine dreg_offq [39, 41] rfl rfl (by assumption) rfl ?_
      refine dreg_offq [39, 40] rfl rfl (by assumption) rfl ?_;refine dreg_offq [39, 43] rfl rfl (by assumption) rfl ?_;refine dreg_offq [39, 44, 42] rfl rfl (by assumption) rfl ?_
      refine dreg_offq [39, 45] rfl rfl (by assumption) rfl ?_;refine dreg_offq [39, 46] rfl rfl (by assumption) rfl ?_;refine dQ [39, 47] [] iT ?_;refine dC [48] [] ?_
      refine dreg_offq [49, 3] rfl rfl rfl rfl ?_;refine dreg_offq [49, 50] rfl rfl rfl rfl ?_;refine dreg_offq [49, 51] rfl rfl rfl rfl ?_;refine dreg_offq [49, 52] rfl rfl rfl rfl ?_
      refine dreg_offq [49, 53] rfl rfl rfl rfl ?_;refine dQ [49, 54] [] iU ?_;refine dC [55] [] ?_;refine dreg_offq [56, 7] rfl rfl rfl rfl ?_;refine dreg_offq [56, 57] rfl rfl rfl rfl ?_
      refine dQ [56, 58] [] iU ?_;refine dC [59] [] ?_;refine dreg_offq [60, 3] rfl rfl rfl rfl ?_;refine dreg_offq [60, 61] rfl rfl rfl rfl ?_;refine dreg_offq [60, 62] rfl rfl rfl rfl ?_
      refine dQ [60, 63] [] iU ?_;refine dreg_end (by kernel_rfl) ?_;refine seq_n ?_;refine wV ?_;refine sR ?_;refine rC ?_;refine nS ?_;refine wc_ret ?_;refine seq_r ?_
      refine blk_r ?_;refine seq_r ?_
      exact ⟨trivial, [(64, some 1)], .of rfl rfl rfl rfl rfl ⟨⟨_, rfl, AVLe.of_eq rfl⟩, rfl, trivial⟩ ⟨⟨rfl, rfl, _, rfl, .refl _⟩, ⟨rfl, rfl, _, rfl, .refl _⟩, trivial⟩⟩
  · have c0 : decide (0 ≤ x.client) = false := decide_eq_false hc0
    iterate 3 refine rS ?_
    refine rQ iF ?_;refine rC ?_;refine nR ?_;refine rC ?_;refine rQ iB ?_;refine rQ (build_array tab_ok rfl rfl rfl) ?_;refine rQ (eql_data rfl rfl rfl rfl (by kernel_rfl) (by decide) (block_eq x.value zBk)) ?_
    refine rC ?_;refine nQ ?_;refine wc_block ?_;refine sR ?_;refine rC ?_;refine rQ iB ?_;iterate 2 refine rC ?_
    refine nS ?_;refine wT ?_;iterate 2 refine wc_seq ?_
    refine wc_draw (by kernel_rfl) ?_;refine dC [6] [] ?_;refine dC [37] [] ?_;refine dC [38] [] ?_;refine dreg_offq [39, 0] rfl rfl rfl rfl ?_;refine dreg_offq [39, 3] rfl rfl rfl rfl ?_
    refine dreg_offq [39, 41] rfl rfl rfl rfl ?_;refine dreg_offq [39, 40] rfl rfl rfl rfl ?_;refine dreg_offq [39, 43] rfl rfl rfl rfl ?_;refine dreg_offq [39, 44, 42] rfl rfl rfl rfl ?_
    refine dreg_offq [39, 45] rfl rfl rfl rfl ?_;refine dreg_offq [39, 46] rfl rfl rfl rfl ?_;refine dQ [39, 47] [] iU ?_;refine dC [48] [] ?_;refine dreg_offq [49, 3] rfl rfl rfl rfl ?_
    refine dreg_offq [49, 50] rfl rfl rfl rfl ?_;refine dreg_offq [49, 51] rfl rfl rfl rfl ?_;refine dreg_offq [49, 52] rfl rfl rfl rfl ?_;refine dreg_offq [49, 53] rfl rfl rfl rfl ?_
    refine dQ [49, 54] [] iU ?_;refine dC [55] [] ?_;refine dreg_offq [56, 7] rfl rfl rfl rfl ?_;refine dreg_offq [56, 57] rfl rfl rfl rfl ?_;refine dQ [56, 58] [] iU ?_
    refine dC [59] [] ?_;refine dreg_offq [60, 3] rfl rfl rfl rfl ?_;refine dreg_offq [60, 61] rfl rfl rfl rfl ?_;refine dreg_offq [60, 62] rfl rfl rfl rfl ?_;refine dQ [60, 63] [] iU ?_
    refine dreg_end (by kernel_rfl) ?_;refine seq_n ?_;refine wV ?_;refine sR ?_;refine rC ?_;refine nS ?_;refine wc_ret ?_;refine seq_r ?_;refine blk_r ?_;refine seq_r ?_
    exact ⟨trivial, [(64, some 1)], .of rfl rfl rfl rfl rfl ⟨⟨_, rfl, AVLe.of_eq rfl⟩, rfl, trivial⟩ ⟨⟨rfl, rfl, _, rfl, .refl _⟩, ⟨rfl, rfl, _, rfl, .refl _⟩, trivial⟩⟩
end Go.Proofs.YtmojbghcngdkpaaGreatDoor

namespace Go.Proofs.YtmojbghcngdkpaaGreatDoor
open Go.Eng Go.Plain
set_option maxHeartbeats 8000000
set_option maxRecDepth 20000
attribute [local irreducible] WC RegS RegD SeqQ BlkQ ScoQ RegK CutK Sat SatN FnIs LoopQ StepIs OpIs
theorem kn4_any (e : Int) : ([0, 1, 8, 9] : List Int).any (fun y => decide (e = y)) = kn4 e := by simp [kn4, Bool.or_assoc]
theorem take_ret_w (s : RdS) (x : HEv) (n : Nat) (hs : s.Ok n) (hn : n ≤ 1000000) (k2 : x.kind = 2) (b : Int) (o : HOp) (hc0 : 0 ≤ x.client) (hc8 : x.client < 8) (hbg : s.busy[x.client.toNat]? = some b) (hb0 : b ≠ 0) (hog : s.all[(b - 1).toNat]? = some o) (hz : x.op = zOp) (c1 c2 c3 : Bool) (h1 : (!([0, 1, 8, 9] : List Int).any (fun y => decide (x.err = y))) = c1) (h2 : (!decide (x.value = zBk)) = c2) (h3 : (!decide (o.op.kind = 1)) = c3) (h4 : (c1 || c2 && (c3 || !decide (x.err = 0))) = false) :
    TakeIs s x ⟨s.busy.set x.client.toNat 0, s.number, s.era, s.read + 1, s.all.set (b - 1).toNat { o with returned := s.read, value := x.value, err := x.err }⟩ true := by
  have hr := hs.read
  have ha := hs.all
  have hb := hs.busy b (List.mem_of_getElem? hbg)
  have d1 : decide (x.kind = 1) = false := decide_eq_false (by omega)
  have d2 : decide (x.kind = 2) = true := decide_eq_true k2
  have c0 : decide (0 ≤ x.client) = true := decide_eq_true hc0
  have c8 : decide (x.client < 8) = true := decide_eq_true hc8
  have n8 : (!decide (x.client < 8)) = false := by rw [c8]; rfl
  have b0 : decide (b = 0) = false := decide_eq_false hb0
  have z0 : (!decide (x.op = zOp)) = false := by rw [decide_eq_true hz]; rfl
  have hw : IntKind.i64.wrap (s.read + 1) = s.read + 1 := wrap_i64 (by omega) (by omega)
  have hwb : IntKind.i64.wrap (b - 1) = b - 1 := wrap_i64 (by omega) (by omega)
  have hlt : b - 1 < (s.all.length : Int) := by omega
  have hge : 0 ≤ b - 1 := by omega
  have hjl := (List.getElem?_eq_some_iff.1 hog).1
  have hog1 : (s.all.set (b - 1).toNat { o with returned := s.read })[(b - 1).toNat]? = some { o with returned := s.read } := List.getElem?_set_self hjl
  have hog2 : (s.all.set (b - 1).toNat { o with returned := s.read, value := x.value })[(b - 1).toNat]? = some { o with returned := s.read, value := x.value } := List.getElem?_set_self hjl
  simp only [TakeIs, rdRow, List.length_set]
  refine fnIs_of tab_ok Tryz.func71 rfl rfl rfl ?_;refine sR ?_;refine rN ?_;refine rC ?_;refine nR ?_;iterate 3 refine rC ?_
  refine rQ iM ?_;refine rC ?_;refine nR ?_;iterate 3 refine rC ?_
  refine rQ iM ?_;refine rQ iD ?_;iterate 2 refine rC ?_
  refine reg_store (store_row tab_ok rfl rfl rfl ⟨_, ⟨_, ⟨rfl, rfl, rfl⟩, rfl⟩, rfl⟩ rfl) ?_;refine nR ?_;refine rC ?_;refine rQ iB ?_;iterate 2 refine rC ?_
  refine rO ?_;refine rC ?_;refine rO ?_;refine rQ iB ?_;refine rO ?_;refine rC ?_;refine rQ iT ?_;refine rC ?_;refine nR ?_;refine rC ?_;refine rQ iB ?_;refine rQ (build_array tab_ok rfl rfl rfl) ?_
  refine rQ (eql_data rfl rfl rfl rfl (by kernel_rfl) (by decide) (block_eq x.value zBk)) ?_;refine rC ?_;refine nQ ?_;refine wc_block ?_;refine sR ?_;refine rC ?_
  refine rQ iB ?_;iterate 2 refine rC ?_
  refine nS ?_;refine wF ?_;refine sR ?_;refine rC ?_;refine rQ iB ?_;iterate 2 refine rC ?_
  refine nS ?_;refine wT ?_;iterate 2 refine wc_seq ?_
  refine wc_draw (by kernel_rfl) ?_;refine dC [6] [] ?_;refine dC [123] [] ?_;refine dC [124] [] ?_;refine dreg_onq [125, 0] [] rfl rfl (by assumption) rfl (step_C tab_ok (fun K hk => hk)) ?_
  refine dreg_onq [125, 3] [] rfl rfl (by assumption) rfl (step_C tab_ok (fun K hk => hk)) ?_;refine dreg_onq [125, 127] [64] rfl rfl (by assumption) rfl (load_box tab_ok rfl rfl ⟨_, rfl, rfl⟩ rfl) ?_
  refine dreg_onq [125, 126] [] rfl rfl (by assumption) rfl (step_C tab_ok (fun K hk => hk)) ?_;refine dreg_onq [125, 129] [] rfl rfl (by assumption) rfl (step_C tab_ok (fun K hk => hk)) ?_
  refine dreg_onq [125, 130, 128] [] rfl rfl (by assumption) rfl (step_C tab_ok (fun K hk => ⟨by omega, by omega, hk⟩)) ?_;refine dreg_onq [125, 131] [0] rfl rfl (by assumption) rfl (load_box tab_ok rfl rfl ⟨_, ⟨rfl, _, hbg, rfl⟩, rfl⟩ rfl) ?_
  refine dreg_onq [125, 132] [] rfl rfl (by assumption) rfl (step_C tab_ok (fun K hk => hk)) ?_;refine dQ [125, 133] [] iF ?_;refine dC [134] [] ?_;refine dreg_onq [135, 3] [] rfl rfl (by assumption) rfl (step_C tab_ok (fun K hk => hk)) ?_
  refine dreg_onq [135, 136] [64] rfl rfl (by assumption) rfl (load_box tab_ok rfl rfl ⟨_, rfl, rfl⟩ rfl) ?_;refine dreg_onq [135, 137] [] rfl rfl (by assumption) rfl (call_r (blank_is x.op) rfl rfl (arg_e arg_nil) (.inl rfl) (fun _ => rfl)) ?_
  refine dreg_onq [135, 138] [] rfl rfl (by assumption) rfl (step_C tab_ok (fun K hk => hk)) ?_;refine dQ [135, 139] [] iF ?_;refine dreg_end (by kernel_rfl) ?_;refine seq_n ?_
  refine wF ?_;refine kS ?_;refine wc_seq ?_;refine wc_draw (by kernel_rfl) ?_;refine dC [0] [] ?_;refine dC [141] [] ?_;refine dC [142] [] ?_;refine dQ [143] [0] iM ?_
  refine dC [0] [] ?_;refine dC [3] [] ?_;refine dQ [146] [64] iB ?_;refine dC [145] [] ?_;refine dC [148] [] ?_;refine dQ [149, 147] [] (step_C tab_ok (fun K hk => ⟨by omega, by omega, hk⟩)) ?_
  refine dQ [150] [0] (load_box tab_ok rfl rfl ⟨_, ⟨rfl, _, hbg, rfl⟩, rfl⟩ rfl) ?_;refine dQ [151] [] (sub_int tab_ok rfl rfl hwb) ?_;refine dQ [144, 152] [] (index_own tab_ok rfl rfl rfl rfl rfl (by omega) (by omega)) ?_
  refine dC [153] [] ?_;refine dreg_end (by kernel_rfl) ?_;refine seq_n ?_;refine sR ?_;refine rQ (StepIs.frozen (build_slice (s := 1) tab_ok rfl rfl rfl rfl rfl rfl rfl rfl) (Frz.litsN (enc := i6) [0, 1, 8, 9] rfl (fun _ _ => rfl))) ?_
  refine rC ?_;refine rQ iB ?_;refine rQ (call_r (cte_is x.err [0, 1, 8, 9] (by decide)) rfl rfl (arg_e (arg_e arg_nil)) (.inl rfl) (fun _ => rfl)) ?_;refine rC ?_
  refine nQ ?_;refine sR ?_;iterate 3 refine rC ?_
  cases c1 with
  | true => cases h4
  | false =>
    refine rO ?_;refine rC ?_;refine rO ?_;refine rC ?_;refine rO ?_;refine rC ?_
    cases c2 with
    | false =>
      iterate 7 refine rS ?_
      iterate 3 refine rU ?_
      refine rS ?_;refine rO ?_;iterate 2 refine rQ iF ?_
      refine nS ?_;refine wG ?_;refine kS ?_;refine wc_seq ?_;refine wc_draw (by kernel_rfl) ?_;iterate 3 refine dC [8] [] ?_
      refine dC [5] [] ?_;refine dC [3] [] ?_;refine dQ [181] [64] iB ?_;refine dC [3] [] ?_;refine dQ [183] [64] iB ?_;refine dC [177] [] ?_;refine dC [185] [] ?_;refine dreg_s [186, 180] [1] (store_row (row' := opRow (s.all.set (b - 1).toNat { o with returned := s.read })) tab_ok rfl rfl rfl ⟨rfl, o, { o with returned := s.read }, hog, ⟨_, ⟨rfl, rfl, rfl⟩, rfl⟩, rfl⟩ rfl) ?_
      refine dC [178] [] ?_;refine dC [187] [] ?_;refine dreg_s [188, 182] [1] (store_row (row' := opRow (s.all.set (b - 1).toNat { o with returned := s.read, value := x.value })) tab_ok rfl rfl rfl ⟨rfl, _, { o with returned := s.read, value := x.value }, hog1, ⟨_, ⟨rfl, rfl, rfl⟩, rfl⟩, (by rw [List.set_set])⟩ rfl) ?_
      refine dC [179] [] ?_;refine dC [189] [] ?_;refine dreg_s [190, 184] [1] (store_row (row' := opRow (s.all.set (b - 1).toNat { o with returned := s.read, value := x.value, err := x.err })) tab_ok rfl rfl rfl ⟨rfl, _, { o with returned := s.read, value := x.value, err := x.err }, hog2, ⟨_, ⟨rfl, rfl, rfl⟩, rfl⟩, (by rw [List.set_set])⟩ rfl) ?_
      refine dreg_end (by kernel_rfl) ?_;refine seq_n ?_;refine wc_draw (by kernel_rfl) ?_;refine dC [0] [] ?_;refine dC [3] [] ?_;refine dQ [192] [64] iB ?_;refine dC [191] [] ?_
      refine dC [194] [] ?_;refine dQ [195, 193] [] (step_C tab_ok (fun K hk => ⟨by omega, by omega, hk⟩)) ?_;refine dreg_s [196] [0] (store_row tab_ok rfl rfl rfl ⟨_, ⟨_, ⟨_, ⟨rfl, _, 0, hbg, ⟨rfl, rfl, rfl⟩, rfl⟩, rfl⟩, rfl⟩, rfl⟩ rfl) ?_
      refine dreg_end (by kernel_rfl) ?_;refine blk_n ?_;refine seq_n ?_;refine sR ?_;refine rC ?_;refine nS ?_;refine wc_ret ?_
      exact ⟨trivial, [(64, some 1)], .of rfl rfl rfl rfl rfl ⟨⟨_, rfl, AVLe.of_eq rfl⟩, rfl, trivial⟩ ⟨⟨rfl, rfl, _, rfl, .refl _⟩, ⟨rfl, rfl, _, rfl, .refl _⟩, trivial⟩⟩
    | true =>
      refine rO ?_;refine rC ?_;refine rO ?_;refine rC ?_;refine rO ?_;refine rC ?_;refine rO ?_;refine rC ?_;refine rO ?_;refine rQ (load_row tab_ok rfl rfl ⟨rfl, o, hog, _, rfl, rfl⟩ rfl) ?_
      refine rO ?_;refine rC ?_;refine rO ?_;refine rC ?_
      cases c3 with
      | true => cases h4
      | false =>
        have e0 : (!decide (x.err = 0)) = false := h4
        refine rO ?_;refine rC ?_;refine rO ?_;refine rQ iB ?_;refine rO ?_;refine rC ?_;refine rO ?_;refine rQ iF ?_;refine rO ?_;refine rQ iT ?_;refine rQ iF ?_;refine nS ?_
        refine wF ?_;refine kS ?_;refine wc_seq ?_;refine wc_draw (by kernel_rfl) ?_;iterate 3 refine dC [8] [] ?_
        refine dC [5] [] ?_;refine dC [3] [] ?_;refine dQ [181] [64] iB ?_;refine dC [3] [] ?_;refine dQ [183] [64] iB ?_;refine dC [177] [] ?_;refine dC [185] [] ?_;refine dreg_s [186, 180] [1] (store_row (row' := opRow (s.all.set (b - 1).toNat { o with returned := s.read })) tab_ok rfl rfl rfl ⟨rfl, o, { o with returned := s.read }, hog, ⟨_, ⟨rfl, rfl, rfl⟩, rfl⟩, rfl⟩ rfl) ?_
        refine dC [178] [] ?_;refine dC [187] [] ?_;refine dreg_s [188, 182] [1] (store_row (row' := opRow (s.all.set (b - 1).toNat { o with returned := s.read, value := x.value })) tab_ok rfl rfl rfl ⟨rfl, _, { o with returned := s.read, value := x.value }, hog1, ⟨_, ⟨rfl, rfl, rfl⟩, rfl⟩, (by rw [List.set_set])⟩ rfl) ?_
        refine dC [179] [] ?_;refine dC [189] [] ?_;refine dreg_s [190, 184] [1] (store_row (row' := opRow (s.all.set (b - 1).toNat { o with returned := s.read, value := x.value, err := x.err })) tab_ok rfl rfl rfl ⟨rfl, _, { o with returned := s.read, value := x.value, err := x.err }, hog2, ⟨_, ⟨rfl, rfl, rfl⟩, rfl⟩, (by rw [List.set_set])⟩ rfl) ?_
        refine dreg_end (by kernel_rfl) ?_;refine seq_n ?_;refine wc_draw (by kernel_rfl) ?_;refine dC [0] [] ?_;refine dC [3] [] ?_;refine dQ [192] [64] iB ?_;refine dC [191] [] ?_
        refine dC [194] [] ?_;refine dQ [195, 193] [] (step_C tab_ok (fun K hk => ⟨by omega, by omega, hk⟩)) ?_;refine dreg_s [196] [0] (store_row tab_ok rfl rfl rfl ⟨_, ⟨_, ⟨_, ⟨rfl, _, 0, hbg, ⟨rfl, rfl, rfl⟩, rfl⟩, rfl⟩, rfl⟩, rfl⟩ rfl) ?_
        refine dreg_end (by kernel_rfl) ?_;refine blk_n ?_;refine seq_n ?_;refine sR ?_;refine rC ?_;refine nS ?_;refine wc_ret ?_
        exact ⟨trivial, [(64, some 1)], .of rfl rfl rfl rfl rfl ⟨⟨_, rfl, AVLe.of_eq rfl⟩, rfl, trivial⟩ ⟨⟨rfl, rfl, _, rfl, .refl _⟩, ⟨rfl, rfl, _, rfl, .refl _⟩, trivial⟩⟩
theorem take_ret_no (s : RdS) (x : HEv) (n : Nat) (hs : s.Ok n) (hn : n ≤ 1000000) (k2 : x.kind = 2) (hno : ret1 s x = false) : TakeIs s x { s with read := s.read + 1 } false := by
  have hr := hs.read
  have ha := hs.all
  have d1 : decide (x.kind = 1) = false := decide_eq_false (by omega)
  have d2 : decide (x.kind = 2) = true := decide_eq_true k2
  have hw : IntKind.i64.wrap (s.read + 1) = s.read + 1 := wrap_i64 (by omega) (by omega)
  refine fnIs_of tab_ok Tryz.func71 rfl rfl rfl ?_;refine sR ?_;refine rN ?_;refine rC ?_;refine nR ?_;iterate 3 refine rC ?_
  refine rQ iM ?_;refine rC ?_;refine nR ?_;iterate 3 refine rC ?_
  refine rQ iM ?_;refine rQ iD ?_;iterate 2 refine rC ?_
  refine reg_store (store_row tab_ok rfl rfl rfl ⟨_, ⟨_, ⟨rfl, rfl, rfl⟩, rfl⟩, rfl⟩ rfl) ?_;refine nR ?_;refine rC ?_;refine rQ iB ?_;iterate 2 refine rC ?_
  by_cases hc0 : 0 ≤ x.client
  · have c0 : decide (0 ≤ x.client) = true := decide_eq_true hc0
    refine rO ?_;refine rC ?_;refine rO ?_;refine rQ iB ?_;refine rO ?_;refine rC ?_;refine rQ iT ?_;refine rC ?_;refine nR ?_;refine rC ?_;refine rQ iB ?_;refine rQ (build_array tab_ok rfl rfl rfl) ?_
    refine rQ (eql_data rfl rfl rfl rfl (by kernel_rfl) (by decide) (block_eq x.value zBk)) ?_;refine rC ?_;refine nQ ?_;refine wc_block ?_;refine sR ?_;refine rC ?_
    refine rQ iB ?_;iterate 2 refine rC ?_
    refine nS ?_;refine wF ?_;refine sR ?_;refine rC ?_;refine rQ iB ?_;iterate 2 refine rC ?_
    refine nS ?_;refine wT ?_;iterate 2 refine wc_seq ?_
    refine wc_draw (by kernel_rfl) ?_;refine dC [6] [] ?_;refine dC [123] [] ?_;refine dC [124] [] ?_
    by_cases hc8 : x.client < 8
    · have c8 : decide (x.client < 8) = true := decide_eq_true hc8
      have n8 : (!decide (x.client < 8)) = false := by rw [c8]; rfl
      obtain ⟨b, hbg⟩ : ∃ b, s.busy[x.client.toNat]? = some b := ⟨_, List.getElem?_eq_getElem (by rw [hs.blen]; omega)⟩
      have hb := hs.busy b (List.mem_of_getElem? hbg)
      refine dreg_onq [125, 0] [] rfl rfl (by assumption) rfl (step_C tab_ok (fun K hk => hk)) ?_;refine dreg_onq [125, 3] [] rfl rfl (by assumption) rfl (step_C tab_ok (fun K hk => hk)) ?_
      refine dreg_onq [125, 127] [64] rfl rfl (by assumption) rfl (load_box tab_ok rfl rfl ⟨_, rfl, rfl⟩ rfl) ?_;refine dreg_onq [125, 126] [] rfl rfl (by assumption) rfl (step_C tab_ok (fun K hk => hk)) ?_
      refine dreg_onq [125, 129] [] rfl rfl (by assumption) rfl (step_C tab_ok (fun K hk => hk)) ?_;refine dreg_onq [125, 130, 128] [] rfl rfl (by assumption) rfl (step_C tab_ok (fun K hk => ⟨by omega, by omega, hk⟩)) ?_
      refine dreg_onq [125, 131] [0] rfl rfl (by assumption) rfl (load_box tab_ok rfl rfl ⟨_, ⟨rfl, _, hbg, rfl⟩, rfl⟩ rfl) ?_;refine dreg_onq [125, 132] [] rfl rfl (by assumption) rfl (step_C tab_ok (fun K hk => hk)) ?_
      refine dQ [125, 133] [] iF ?_;refine dC [134] [] ?_
      by_cases hb0 : b = 0
      · have b0 : decide (b = 0) = true := decide_eq_true hb0
        refine dreg_offq [135, 3] rfl rfl (by assumption) rfl ?_;refine dreg_offq [135, 136] rfl rfl (by assumption) rfl ?_;refine dreg_offq [135, 137] rfl rfl (by assumption) rfl ?_
        refine dreg_offq [135, 138] rfl rfl (by assumption) rfl ?_;refine dQ [135, 139] [] iT ?_;refine dreg_end (by kernel_rfl) ?_;refine seq_n ?_;refine wV ?_;refine sR ?_
        refine rC ?_;refine nS ?_;refine wc_ret ?_;refine seq_r ?_;refine blk_r ?_;refine seq_r ?_
        exact ⟨trivial, [(64, some 1)], .of rfl rfl rfl rfl rfl ⟨⟨_, rfl, AVLe.of_eq rfl⟩, rfl, trivial⟩ ⟨⟨rfl, rfl, _, rfl, .refl _⟩, ⟨rfl, rfl, _, rfl, .refl _⟩, trivial⟩⟩
      · have b0 : decide (b = 0) = false := decide_eq_false hb0
        refine dreg_onq [135, 3] [] rfl rfl (by assumption) rfl (step_C tab_ok (fun K hk => hk)) ?_;refine dreg_onq [135, 136] [64] rfl rfl (by assumption) rfl (load_box tab_ok rfl rfl ⟨_, rfl, rfl⟩ rfl) ?_
        refine dreg_onq [135, 137] [] rfl rfl (by assumption) rfl (call_r (blank_is x.op) rfl rfl (arg_e arg_nil) (.inl rfl) (fun _ => rfl)) ?_;refine dreg_onq [135, 138] [] rfl rfl (by assumption) rfl (step_C tab_ok (fun K hk => hk)) ?_
        refine dQ [135, 139] [] iF ?_;refine dreg_end (by kernel_rfl) ?_;refine seq_n ?_
        by_cases hz : x.op = zOp
        · have z0 : (!decide (x.op = zOp)) = false := by rw [decide_eq_true hz]; rfl
          have hwb : IntKind.i64.wrap (b - 1) = b - 1 := wrap_i64 (by omega) (by omega)
          have hlt : b - 1 < (s.all.length : Int) := by omega
          have hge : 0 ≤ b - 1 := by omega
          obtain ⟨o, hog⟩ : ∃ o, s.all[(b - 1).toNat]? = some o := ⟨_, List.getElem?_eq_getElem (by omega)⟩
          obtain ⟨c1, h1⟩ : ∃ c, (!([0, 1, 8, 9] : List Int).any (fun y => decide (x.err = y))) = c := ⟨_, rfl⟩
          obtain ⟨c2, h2⟩ : ∃ c, (!decide (x.value = zBk)) = c := ⟨_, rfl⟩
          obtain ⟨c3, h3⟩ : ∃ c, (!decide (o.op.kind = 1)) = c := ⟨_, rfl⟩
          obtain ⟨c4, h4⟩ : ∃ c, (!decide (x.err = 0)) = c := ⟨_, rfl⟩
          have hc : (c1 || c2 && (c3 || c4)) = true := by
            have hkn : kn4 x.err = !c1 := by rw [← h1, ← kn4_any, Bool.not_not]
            have hv2 : decide (x.value = zBk) = !c2 := by rw [← h2, Bool.not_not]
            have hk3 : decide (o.op.kind = 1) = !c3 := by rw [← h3, Bool.not_not]
            have he4 : decide (x.err = 0) = !c4 := by rw [← h4, Bool.not_not]
            have hb' : decide (some b = some (0 : Int)) = false := decide_eq_false (by simpa using hb0)
            have ho : opOf s x = some o := by rw [opOf, hbg]; exact hog
            rw [ret1, c0, c8, hbg, hb', decide_eq_true hz, hkn, hv2, ho] at hno
            simp only [hk3, he4] at hno
            revert hno
            cases c1 <;> cases c2 <;> cases c3 <;> cases c4 <;> decide
          refine wF ?_;refine kS ?_;refine wc_seq ?_;refine wc_draw (by kernel_rfl) ?_;refine dC [0] [] ?_;refine dC [141] [] ?_;refine dC [142] [] ?_;refine dQ [143] [0] iM ?_
          refine dC [0] [] ?_;refine dC [3] [] ?_;refine dQ [146] [64] iB ?_;refine dC [145] [] ?_;refine dC [148] [] ?_;refine dQ [149, 147] [] (step_C tab_ok (fun K hk => ⟨by omega, by omega, hk⟩)) ?_
          refine dQ [150] [0] (load_box tab_ok rfl rfl ⟨_, ⟨rfl, _, hbg, rfl⟩, rfl⟩ rfl) ?_;refine dQ [151] [] (sub_int tab_ok rfl rfl hwb) ?_;refine dQ [144, 152] [] (index_own tab_ok rfl rfl rfl rfl rfl (by omega) (by omega)) ?_
          refine dC [153] [] ?_;refine dreg_end (by kernel_rfl) ?_;refine seq_n ?_;refine sR ?_;refine rQ (StepIs.frozen (build_slice (s := 1) tab_ok rfl rfl rfl rfl rfl rfl rfl rfl) (Frz.litsN (enc := i6) [0, 1, 8, 9] rfl (fun _ _ => rfl))) ?_
          refine rC ?_;refine rQ iB ?_;refine rQ (call_r (cte_is x.err [0, 1, 8, 9] (by decide)) rfl rfl (arg_e (arg_e arg_nil)) (.inl rfl) (fun _ => rfl)) ?_;refine rC ?_
          refine nQ ?_;refine sR ?_;iterate 3 refine rC ?_
          cases c1 with
          | true =>
            iterate 3 refine rS ?_
            iterate 11 refine rU ?_
            refine rS ?_;refine rQ iT ?_;refine nS ?_;refine wV ?_;refine sR ?_;refine rC ?_;refine nS ?_;refine wc_ret ?_;refine seq_r ?_;refine blk_r ?_;refine seq_r ?_
            exact ⟨trivial, [(64, some 1)], .of rfl rfl rfl rfl rfl ⟨⟨_, rfl, AVLe.of_eq rfl⟩, rfl, trivial⟩ ⟨⟨rfl, rfl, _, rfl, .refl _⟩, ⟨rfl, rfl, _, rfl, .refl _⟩, trivial⟩⟩
          | false =>
            refine rO ?_;refine rC ?_;refine rO ?_;refine rC ?_;refine rO ?_;refine rC ?_
            cases c2 with
            | false => cases hc
            | true =>
              refine rO ?_;refine rC ?_;refine rO ?_;refine rC ?_;refine rO ?_;refine rC ?_;refine rO ?_;refine rC ?_;refine rO ?_;refine rQ (load_row tab_ok rfl rfl ⟨rfl, o, hog, _, rfl, rfl⟩ rfl) ?_
              refine rO ?_;refine rC ?_;refine rO ?_;refine rC ?_
              cases c3 with
              | true =>
                iterate 3 refine rS ?_
                refine rO ?_;refine rQ iT ?_;refine rO ?_;refine rQ iT ?_;refine rQ iF ?_;refine nS ?_;refine wV ?_;refine sR ?_;refine rC ?_;refine nS ?_;refine wc_ret ?_;refine seq_r ?_
                refine blk_r ?_;refine seq_r ?_
                exact ⟨trivial, [(64, some 1)], .of rfl rfl rfl rfl rfl ⟨⟨_, rfl, AVLe.of_eq rfl⟩, rfl, trivial⟩ ⟨⟨rfl, rfl, _, rfl, .refl _⟩, ⟨rfl, rfl, _, rfl, .refl _⟩, trivial⟩⟩
              | false =>
                refine rO ?_;refine rC ?_;refine rO ?_;refine rQ iB ?_;refine rO ?_;refine rC ?_;refine rO ?_;refine rQ iF ?_;refine rO ?_;refine rQ iT ?_;refine rQ iF ?_;refine nS ?_
                cases c4 with
                | false => cases hc
                | true =>
                  refine wT ?_;refine sR ?_;refine rC ?_;refine nS ?_;refine wc_ret ?_;refine seq_r ?_;refine blk_r ?_;refine seq_r ?_
                  exact ⟨trivial, [(64, some 1)], .of rfl rfl rfl rfl rfl ⟨⟨_, rfl, AVLe.of_eq rfl⟩, rfl, trivial⟩ ⟨⟨rfl, rfl, _, rfl, .refl _⟩, ⟨rfl, rfl, _, rfl, .refl _⟩, trivial⟩⟩
        · have z0 : (!decide (x.op = zOp)) = true := by rw [decide_eq_false hz]; rfl
          refine wT ?_;refine sR ?_;refine rC ?_;refine nS ?_;refine wc_ret ?_;refine seq_r ?_;refine blk_r ?_;refine seq_r ?_
          exact ⟨trivial, [(64, some 1)], .of rfl rfl rfl rfl rfl ⟨⟨_, rfl, AVLe.of_eq rfl⟩, rfl, trivial⟩ ⟨⟨rfl, rfl, _, rfl, .refl _⟩, ⟨rfl, rfl, _, rfl, .refl _⟩, trivial⟩⟩
    · have c8 : decide (x.client < 8) = false := decide_eq_false hc8
      have n8 : (!decide (x.client < 8)) = true := by rw [c8]; rfl
      refine dreg_offq [125, 0] rfl rfl (by assumption) rfl ?_;refine dreg_offq [125, 3] rfl rfl (by assumption) rfl ?_;refine dreg_offq [125, 127] rfl rfl (by assumption) rfl ?_
      refine dreg_offq [125, 126] rfl rfl (by assumption) rfl ?_;refine dreg_offq [125, 129] rfl rfl (by assumption) rfl ?_;refine dreg_offq [125, 130, 128] rfl rfl (by assumption) rfl ?_
      refine dreg_offq [125, 131] rfl rfl (by assumption) rfl ?_;refine dreg_offq [125, 132] rfl rfl (by assumption) rfl ?_;refine dQ [125, 133] [] iT ?_;refine dC [134] [] ?_
      refine dreg_offq [135, 3] rfl rfl rfl rfl ?_;refine dreg_offq [135, 136] rfl rfl rfl rfl ?_;refine dreg_offq [135, 137] rfl rfl rfl rfl ?_;refine dreg_offq [135, 138] rfl rfl rfl rfl ?_
      refine dQ [135, 139] [] iU ?_;refine dreg_end (by kernel_rfl) ?_;refine seq_n ?_;refine wV ?_;refine sR ?_;refine rC ?_;refine nS ?_;refine wc_ret ?_;refine seq_r ?_
      refine blk_r ?_;refine seq_r ?_
      exact ⟨trivial, [(64, some 1)], .of rfl rfl rfl rfl rfl ⟨⟨_, rfl, AVLe.of_eq rfl⟩, rfl, trivial⟩ ⟨⟨rfl, rfl, _, rfl, .refl _⟩, ⟨rfl, rfl, _, rfl, .refl _⟩, trivial⟩⟩
  · have c0 : decide (0 ≤ x.client) = false := decide_eq_false hc0
    iterate 3 refine rS ?_
    refine rQ iF ?_;refine rC ?_;refine nR ?_;refine rC ?_;refine rQ iB ?_;refine rQ (build_array tab_ok rfl rfl rfl) ?_;refine rQ (eql_data rfl rfl rfl rfl (by kernel_rfl) (by decide) (block_eq x.value zBk)) ?_
    refine rC ?_;refine nQ ?_;refine wc_block ?_;refine sR ?_;refine rC ?_;refine rQ iB ?_;iterate 2 refine rC ?_
    refine nS ?_;refine wF ?_;refine sR ?_;refine rC ?_;refine rQ iB ?_;iterate 2 refine rC ?_
    refine nS ?_;refine wT ?_;iterate 2 refine wc_seq ?_
    refine wc_draw (by kernel_rfl) ?_;refine dC [6] [] ?_;refine dC [123] [] ?_;refine dC [124] [] ?_;refine dreg_offq [125, 0] rfl rfl rfl rfl ?_;refine dreg_offq [125, 3] rfl rfl rfl rfl ?_
    refine dreg_offq [125, 127] rfl rfl rfl rfl ?_;refine dreg_offq [125, 126] rfl rfl rfl rfl ?_;refine dreg_offq [125, 129] rfl rfl rfl rfl ?_;refine dreg_offq [125, 130, 128] rfl rfl rfl rfl ?_
    refine dreg_offq [125, 131] rfl rfl rfl rfl ?_;refine dreg_offq [125, 132] rfl rfl rfl rfl ?_;refine dQ [125, 133] [] iU ?_;refine dC [134] [] ?_;refine dreg_offq [135, 3] rfl rfl rfl rfl ?_
    refine dreg_offq [135, 136] rfl rfl rfl rfl ?_;refine dreg_offq [135, 137] rfl rfl rfl rfl ?_;refine dreg_offq [135, 138] rfl rfl rfl rfl ?_;refine dQ [135, 139] [] iU ?_
    refine dreg_end (by kernel_rfl) ?_;refine seq_n ?_;refine wV ?_;refine sR ?_;refine rC ?_;refine nS ?_;refine wc_ret ?_;refine seq_r ?_;refine blk_r ?_;refine seq_r ?_
    exact ⟨trivial, [(64, some 1)], .of rfl rfl rfl rfl rfl ⟨⟨_, rfl, AVLe.of_eq rfl⟩, rfl, trivial⟩ ⟨⟨rfl, rfl, _, rfl, .refl _⟩, ⟨rfl, rfl, _, rfl, .refl _⟩, trivial⟩⟩
theorem take_is (s : RdS) (x : HEv) (n : Nat) (hs : s.Ok n) (hn : n ≤ 1000000) : TakeIs s x (takeS s x).1 (takeS s x).2 := by
  by_cases k1 : x.kind = 1
  · cases hi : inv1 s x with
    | false =>
      have h := take_inv_no s x n hs hn k1 hi
      have e : takeS s x = ({ s with read := s.read + 1 }, false) := by simp [takeS, k1, hi]
      rw [e]; exact h
    | true =>
      have hi' := hi
      simp only [inv1, Bool.and_eq_true, decide_eq_true_eq] at hi'
      obtain ⟨⟨⟨⟨⟨h1, h2⟩, h3⟩, h4⟩, h5⟩, h6⟩ := hi'
      obtain ⟨m, hm⟩ : ∃ m, s.number[x.client.toNat]? = some m := ⟨_, List.getElem?_eq_getElem (by rw [hs.nlen]; omega)⟩
      have h := take_inv s x n hs hn k1 m h1 h2 h3 hm h4 h5 h6
      have e : takeS s x = (⟨s.busy.set x.client.toNat ((s.all.length + 1 : Nat) : Int), s.number.set x.client.toNat (m + 1), s.era, s.read + 1, s.all ++ [⟨x.client, m, s.era, x.op, s.read, -1, zBk, 0⟩]⟩, true) := by
        simp [takeS, k1, hi, hm]
      rw [e]; exact h
  · by_cases k2 : x.kind = 2
    · cases hi : ret1 s x with
      | false =>
        have h := take_ret_no s x n hs hn k2 hi
        have e : takeS s x = ({ s with read := s.read + 1 }, false) := by simp [takeS, k2, hi]
        rw [e]; exact h
      | true =>
        have hi' := hi
        simp only [ret1, Bool.and_eq_true, decide_eq_true_eq] at hi'
        obtain ⟨⟨⟨⟨⟨h1, h2⟩, h3⟩, h4⟩, h5⟩, h6⟩ := hi'
        obtain ⟨b, hbg⟩ : ∃ b, s.busy[x.client.toNat]? = some b := ⟨_, List.getElem?_eq_getElem (by rw [hs.blen]; omega)⟩
        have hb := hs.busy b (List.mem_of_getElem? hbg)
        have hb0 : b ≠ 0 := by rw [hbg] at h3; simpa using h3
        obtain ⟨o, hog⟩ : ∃ o, s.all[(b - 1).toNat]? = some o := ⟨_, List.getElem?_eq_getElem (by omega)⟩
        have ho : opOf s x = some o := by rw [opOf, hbg]; exact hog
        rw [ho] at h6
        have h := take_ret_w s x n hs hn k2 b o h1 h2 hbg hb0 hog h4 _ _ _ rfl rfl rfl (by
          rw [kn4_any, h5]
          simp only at h6
          revert h6
          cases decide (x.value = zBk) <;> cases decide (o.op.kind = 1) <;> cases decide (x.err = 0) <;> decide)
        have e : takeS s x = (⟨s.busy.set x.client.toNat 0, s.number, s.era, s.read + 1, s.all.set (b - 1).toNat { o with returned := s.read, value := x.value, err := x.err }⟩, true) := by
          simp [takeS, k2, hi, ho, hbg]
        rw [e]; exact h
    · by_cases k3 : x.kind = 3
      · have h := take_crash s x n hs hn k3 _ _ _ _ rfl rfl rfl rfl
        have e : takeS s x = (⟨zero8, s.number, s.era + 1, s.read + 1, s.all⟩, crash1 x) := by simp [takeS, k3]
        rw [e]; exact h
      · have h := take_other s x n hs hn k1 k2 k3 _ rfl
        have e : takeS s x = ({ s with read := s.read + 1 }, false) := by simp [takeS, k1, k2, k3]
        rw [e]; exact h
end Go.Proofs.YtmojbghcngdkpaaGreatDoor

namespace Go.Proofs.YtmojbghcngdkpaaGreatDoor
open Go.Eng Go.Plain
set_option maxHeartbeats 8000000
set_option maxRecDepth 20000
attribute [local irreducible] WC RegS RegD SeqQ BlkQ ScoQ RegK CutK Sat SatN FnIs LoopQ StepIs OpIs
abbrev fnT (r : Nat) : AV := .fn (.func 71) (.acons (.ptr r []) .anil) .anil
abbrev fnF (r : Nat) : AV := .fn (.func 133) .anil (.acons (.ptr r []) .anil)
def goS : RdS → List HEv → Nat → RdS × Int
  | s, [], _ => (s, -1)
  | s, x :: l, i => if (takeS s x).2 then goS (takeS s x).1 l (i + 1) else ((takeS s x).1, (i : Int))
theorem first1_is (s : RdS) (x : HEv) (n : Nat) (hs : s.Ok n) (hn : n ≤ 1000000) : FnIs Tryz.prog 133 [.d (encEv x), .ptr 0 []] [(0, .box 136 (fnT 1)), (1, rdRow s 2), (2, opRow s.all)] (.bool (!(takeS s x).2)) [(0, .box 136 (fnT 1)), (1, rdRow (takeS s x).1 64), (64, opRow (takeS s x).1.all)] := by
  refine fnIs_of tab_ok Tryz.func133 rfl rfl rfl ?_;refine sR ?_;refine rN ?_;refine rC ?_;refine nR ?_;iterate 2 refine rQ iM ?_
  refine reg_do rfl (call_b [(0, some 1), (1, some 2)] (take_is s x n hs hn) rfl rfl rfl rfl (arg_ptr rfl rfl (arg_e arg_nil)) ⟨⟨rfl, rfl, _, _, rfl, rfl, .refl _⟩, ⟨rfl, rfl, _, _, rfl, rfl, .refl _⟩, trivial⟩ rfl rfl (.inl rfl) rfl rfl) rfl rfl ?_
  iterate 2 refine rC ?_
  refine nS ?_;refine wc_ret ?_
  exact ⟨trivial, [(64, some _)], .of rfl rfl rfl rfl rfl ⟨⟨_, rfl, AVLe.of_eq rfl⟩, rfl, trivial⟩ ⟨⟨rfl, rfl, _, rfl, .refl _⟩, ⟨rfl, rfl, _, rfl, .refl _⟩, ⟨rfl, rfl, _, rfl, .refl _⟩, trivial⟩⟩
theorem goS_step {s : RdS} {h : List HEv} {i : Nat} {x : HEv} (hx : h[i]? = some x) : goS s (h.drop i) i = if (takeS s x).2 then goS (takeS s x).1 (h.drop (i + 1)) (i + 1) else ((takeS s x).1, (i : Int)) := by
  have hlt := (List.getElem?_eq_some_iff.1 hx).1
  rw [List.drop_eq_getElem_cons hlt, (List.getElem?_eq_some_iff.1 hx).2]
  rfl
theorem ixh_is (h : List HEv) (hL : h.length ≤ 1000000) (s0 : RdS) (hs0 : s0.Ok 0) : FnIs Tryz.prog 132 [.d (encH h), fnF 0] [(0, .box 136 (fnT 1)), (1, rdRow s0 2), (2, opRow s0.all)] (.int .i64 (goS s0 h 0).2) [(0, .box 136 (fnT 1)), (1, rdRow (goS s0 h 0).1 64), (64, opRow (goS s0 h 0).1.all)] := by
  refine fnIs_of tab_ok Tryz.func132 rfl rfl rfl ?_;refine sR ?_;refine rC ?_;refine nQ ?_;refine sR ?_;refine rC ?_;refine rQ iE ?_;refine rC ?_;refine nS ?_;refine wc_block ?_
  refine wc_inv (fun q : RdS × Nat => ⟨[(8, .int .i64 q.2), (7, .int .i64 h.length), (1, fnF 0), (0, .d (encH h))], [(0, some (.box 136 (fnT 1))), (1, some (rdRow q.1 65)), (65, some (opRow q.1.all))], 72, Tryz.f132.ntmps, 64⟩) (fun q => q.2 ≤ h.length ∧ q.1.Ok q.2 ∧ goS q.1 (h.drop q.2) q.2 = goS s0 h 0) (fun q => h.length - q.2) (s0, 0) [(65, some 2)] ⟨Nat.zero_le _, hs0, rfl⟩
    (.of rfl rfl rfl rfl rfl ⟨⟨_, rfl, .refl _⟩, rfl, ⟨_, rfl, .refl _⟩, rfl, ⟨_, rfl, .refl _⟩, rfl, ⟨_, rfl, .refl _⟩, rfl, trivial⟩ ⟨⟨rfl, rfl, _, rfl, .refl _⟩, ⟨rfl, rfl, _, rfl, .refl _⟩, ⟨rfl, rfl, _, rfl, .refl _⟩, trivial⟩) ?_
  rintro ⟨s, i⟩ ⟨hi, hs, hgo⟩
  refine wc_of ?_;refine sR ?_;refine rC ?_;refine nQ ?_
  refine wc_cond rfl (fun h2 => ?_) (fun h2 => ?_)
  · have hlt : i < h.length := by have := of_decide_eq_true h2; omega
    obtain ⟨x, hx⟩ : ∃ u, h[i]? = some u := ⟨_, List.getElem?_eq_getElem hlt⟩
    have hx' : h[((i : Int)).toNat]? = some x := by rw [Int.toNat_natCast]; exact hx
    have hfst := first1_is s x i hs (by omega)
    have hst := goS_step (s := s) hx
    rw [hgo] at hst
    cases hb : (takeS s x).2 with
    | false =>
      rw [hb] at hst hfst
      rw [hst]
      refine kS ?_;refine wc_seq ?_;refine wc_block ?_;refine sR ?_;iterate 2 refine rC ?_
      refine nR ?_;iterate 3 refine rC ?_
      refine rQ (index_arr tab_ok rfl rfl rfl rfl rfl (by omega) hx') ?_;refine rQ iL ?_;refine reg_do rfl (call_h [(0, some 0), (1, some 1), (2, some 65)] hfst rfl rfl rfl (arg_e (arg_ptr rfl rfl arg_nil)) ⟨⟨rfl, rfl, _, _, rfl, rfl, .refl _⟩, ⟨rfl, rfl, _, _, rfl, rfl, .refl _⟩, ⟨rfl, rfl, _, _, rfl, rfl, .refl _⟩, trivial⟩ rfl rfl (.inl rfl) rfl rfl) rfl rfl ?_
      refine nS ?_;refine wV ?_;refine sR ?_;iterate 2 refine rC ?_
      refine nS ?_;refine wc_ret ?_;refine blk_r ?_;refine seq_r ?_;refine loop_r ?_;refine blk_r ?_;refine seq_r ?_
      exact ⟨trivial, [(64, some _)], .of rfl rfl rfl rfl rfl ⟨⟨_, rfl, AVLe.of_eq rfl⟩, rfl, trivial⟩ ⟨⟨rfl, rfl, _, rfl, .refl _⟩, ⟨rfl, rfl, _, rfl, .refl _⟩, ⟨rfl, rfl, _, rfl, .refl _⟩, trivial⟩⟩
    | true =>
      rw [hb] at hst hfst
      refine kS ?_;refine wc_seq ?_;refine wc_block ?_;refine sR ?_;iterate 2 refine rC ?_
      refine nR ?_;iterate 3 refine rC ?_
      refine rQ (index_arr tab_ok rfl rfl rfl rfl rfl (by omega) hx') ?_;refine rQ iL ?_;refine reg_do rfl (call_h [(0, some 0), (1, some 1), (2, some 65)] hfst rfl rfl rfl (arg_e (arg_ptr rfl rfl arg_nil)) ⟨⟨rfl, rfl, _, _, rfl, rfl, .refl _⟩, ⟨rfl, rfl, _, _, rfl, rfl, .refl _⟩, ⟨rfl, rfl, _, _, rfl, rfl, .refl _⟩, trivial⟩ rfl rfl (.inl rfl) rfl rfl) rfl rfl ?_
      refine nS ?_;refine wG ?_;refine wc_skip ?_;refine blk_n ?_;refine seq_n ?_;refine wc_region ?_;refine rQ iD ?_;refine rC ?_;refine reg_nil ?_
      exact loop_n ((takeS s x).1, i + 1) [(65, some _)] ⟨hlt, hs.next x, hst.symm⟩ (by show h.length - (i + 1) < h.length - i; omega) (.of rfl rfl rfl rfl rfl ⟨⟨_, rfl, .refl _⟩, rfl, ⟨_, rfl, .refl _⟩, rfl, ⟨_, rfl, .refl _⟩, rfl, ⟨_, rfl, .refl _⟩, rfl, trivial⟩ ⟨⟨rfl, rfl, _, rfl, .refl _⟩, ⟨rfl, rfl, _, rfl, .refl _⟩, ⟨rfl, rfl, _, rfl, .refl _⟩, trivial⟩)
  · have he : i = h.length := by have := of_decide_eq_false h2; omega
    subst he
    rw [List.drop_length] at hgo
    rw [← hgo]
    refine wc_exit ?_;refine seq_x ?_;refine loop_x ?_;refine blk_x ?_;refine seq_n ?_;refine sR ?_;refine rC ?_;refine nS ?_;refine wc_ret ?_
    exact ⟨trivial, [(64, some _)], .of rfl rfl rfl rfl rfl ⟨⟨_, rfl, AVLe.of_eq rfl⟩, rfl, trivial⟩ ⟨⟨rfl, rfl, _, rfl, .refl _⟩, ⟨rfl, rfl, _, rfl, .refl _⟩, ⟨rfl, rfl, _, rfl, .refl _⟩, trivial⟩⟩
theorem first_is (h : List HEv) (hL : h.length ≤ 1000000) (s0 : RdS) (hs0 : s0.Ok 0) : FnIs Tryz.prog 105 [.d (encH h), fnT 0] [(0, rdRow s0 1), (1, opRow s0.all)] (.int .i64 (goS s0 h 0).2) [(0, rdRow (goS s0 h 0).1 64), (64, opRow (goS s0 h 0).1.all)] := by
  refine fnIs_of tab_ok Tryz.func105 rfl rfl rfl ?_;refine sR ?_;refine rN ?_;refine rC ?_;refine nR ?_;iterate 2 refine rC ?_
  refine reg_do rfl (call_h [(0, some 64), (1, some 0), (2, some 1)] (ixh_is h hL s0 hs0) rfl rfl rfl (arg_e (arg_fn1 rfl rfl arg_nil)) ⟨⟨rfl, rfl, _, _, rfl, rfl, .refl _⟩, ⟨rfl, rfl, _, _, rfl, rfl, .refl _⟩, ⟨rfl, rfl, _, _, rfl, rfl, .refl _⟩, trivial⟩ rfl rfl (.inl rfl) rfl rfl) rfl rfl ?_
  refine rC ?_;refine nS ?_;refine wc_ret ?_
  exact ⟨trivial, [(64, some _)], .of rfl rfl rfl rfl rfl ⟨⟨_, rfl, AVLe.of_eq rfl⟩, rfl, trivial⟩ ⟨⟨rfl, rfl, _, rfl, .refl _⟩, ⟨rfl, rfl, _, rfl, .refl _⟩, trivial⟩⟩
end Go.Proofs.YtmojbghcngdkpaaGreatDoor

namespace Go.Proofs.YtmojbghcngdkpaaGreatDoor
open Go.Eng Go.Plain
set_option maxHeartbeats 8000000
set_option maxRecDepth 20000
attribute [local irreducible] WC RegS RegD SeqQ BlkQ ScoQ RegK CutK Sat SatN FnIs LoopQ StepIs OpIs
abbrev ch8 : D := .cons (.sc (.int .i64 0)) (.cons (.sc (.int .i64 0)) (.cons (.sc (.int .i64 0)) (.cons (.sc (.int .i64 0)) (.cons (.sc (.int .i64 0)) (.cons (.sc (.int .i64 0)) (.cons (.sc (.int .i64 0)) (.cons (.sc (.int .i64 0)) .nil)))))))
theorem ch8_le : DLe ch8 (.vec 8 1 i6 zero8) := by
  rintro w X cs ⟨a1, r1, rfl, ⟨rfl, o1⟩, a2, r2, rfl, ⟨rfl, _⟩, a3, r3, rfl, ⟨rfl, _⟩, a4, r4, rfl, ⟨rfl, _⟩, a5, r5, rfl, ⟨rfl, _⟩, a6, r6, rfl, ⟨rfl, _⟩, a7, r7, rfl, ⟨rfl, _⟩, a8, r8, rfl, ⟨rfl, _⟩, rfl⟩
  refine ⟨rfl, fun _ => [.int .i64 0], fun i hi => ⟨?_, rfl⟩, rfl⟩
  have hz : ∀ b ∈ zero8, b = 0 := by decide
  rw [hz _ (List.getElem_mem hi)]
  exact ⟨rfl, o1⟩
theorem rd0_le : RowLe (.box 114 (.d (.cons ch8 (.cons ch8 (.cons (.sc (.int .i64 0)) (.cons (.sc (.int .i64 0)) (.cons (.sc (.slice none 0 0)) .nil)))))))
    (.box 114 (.acons (.d (.vec 8 1 i6 zero8)) (.acons (.d (.vec 8 1 i6 zero8)) (.acons (.d (i6 0)) (.acons (.d (i6 0)) (.acons (.d (.sc nil_)) .anil)))))) := by
  rintro σ w X r ⟨hf, b, cs, h1, h2, a1, r1, h3, h4, a2, r2, rfl, h5, a3, r3, rfl, h6, a4, r4, rfl, h7, a5, r5, rfl, h8, rfl⟩
  exact ⟨rfl, b, cs, h1, h2, a1, _, h3, ch8_le _ _ _ h4, a2, _, rfl, ch8_le _ _ _ h5, a3, _, rfl, h6, a4, _, rfl, h7, a5, _, rfl, h8, rfl⟩
def rdH (h : List HEv) : RdS := if 8192 < h.length then rd0 else (goS rd0 h 0).1
def chkH (h : List HEv) : Int × Int := if 8192 < h.length then (0, 3) else if 0 ≤ (goS rd0 h 0).2 then ((goS rd0 h 0).2, 18) else (0, 0)
theorem read_is (h : List HEv) (hh : h.length ≤ 9223372036854775807) : FnIs Tryz.prog 56 [.d (encH h)] [] (.tup (.acons (.ptr 64 []) (.acons (.int .i64 (chkH h).1) (.acons (.int .i64 (chkH h).2) .anil)))) [(64, rdRow (rdH h) 65), (65, opRow (rdH h).all)] := by
  unfold rdH chkH
  obtain ⟨Z, hZ⟩ : ∃ Z, decide ((8192 : Int) < (h.length : Int)) = Z := ⟨_, rfl⟩
  refine fnIs_of tab_ok Tryz.func56 rfl rfl rfl ?_;refine sR ?_;iterate 3 refine rC ?_
  refine nR ?_;refine rQ iS ?_;refine rN ?_;refine rC ?_;refine nS ?_;refine wc_le (env' := [(2, .ptr 64 []), (0, .d (encH h))]) (h' := [(64, some (rdRow rd0 65)), (65, some (opRow []))]) 72 [(64, some 96), (65, none)] (.of rfl rfl rfl rfl rfl ⟨⟨_, rfl, .refl _⟩, rfl, ⟨_, rfl, .refl _⟩, rfl, trivial⟩ ⟨⟨rfl, rfl, _, rfl, rd0_le⟩, ⟨rfl, rfl, rfl⟩, trivial⟩) ?_
  cases Z with
  | true =>
    have h8 : 8192 < h.length := by have := of_decide_eq_true hZ; omega
    rw [if_pos h8, if_pos h8]
    refine qR ?_;refine rC ?_;refine rQ iE ?_;refine rC ?_;refine nS ?_;refine wT ?_;refine sR ?_;iterate 4 refine rC ?_
    refine nS ?_;refine wc_ret ?_;refine seq_r ?_
    exact ⟨trivial, [(64, some _), (65, some _)], .of rfl rfl rfl rfl rfl ⟨⟨_, rfl, AVLe.of_eq rfl⟩, rfl, trivial⟩ ⟨⟨rfl, rfl, _, rfl, .refl _⟩, ⟨rfl, rfl, _, rfl, .refl _⟩, trivial⟩⟩
  | false =>
    have h8 : ¬ 8192 < h.length := by have := of_decide_eq_false hZ; omega
    have hL : h.length ≤ 1000000 := by omega
    rw [if_neg h8, if_neg h8]
    by_cases h0 : 0 ≤ (goS rd0 h 0).2
    · have d0 : decide (0 ≤ (goS rd0 h 0).2) = true := decide_eq_true h0
      rw [if_pos h0]
      refine qR ?_;refine rC ?_;refine rQ iE ?_;refine rC ?_;refine nS ?_;refine wF ?_;refine kS ?_;refine qR ?_;iterate 3 refine rC ?_
      refine reg_do rfl (call_h [(0, some 64), (1, some 65)] (first_is h hL rd0 rd0_ok) rfl rfl rfl (arg_e (arg_fnb rfl rfl arg_nil)) ⟨⟨rfl, rfl, _, _, rfl, rfl, .refl _⟩, ⟨rfl, rfl, _, _, rfl, rfl, .refl _⟩, trivial⟩ rfl rfl (.inl rfl) rfl rfl) rfl rfl ?_
      refine rC ?_;refine nR ?_;iterate 2 refine rC ?_
      refine nS ?_;refine wT ?_;refine sR ?_;iterate 5 refine rC ?_
      refine nS ?_;refine wc_ret ?_;refine seq_r ?_
      exact ⟨trivial, [(64, some _), (65, some _)], .of rfl rfl rfl rfl rfl ⟨⟨_, rfl, AVLe.of_eq rfl⟩, rfl, trivial⟩ ⟨⟨rfl, rfl, _, rfl, .refl _⟩, ⟨rfl, rfl, _, rfl, .refl _⟩, trivial⟩⟩
    · have d0 : decide (0 ≤ (goS rd0 h 0).2) = false := decide_eq_false h0
      rw [if_neg h0]
      refine qR ?_;refine rC ?_;refine rQ iE ?_;refine rC ?_;refine nS ?_;refine wF ?_;refine kS ?_;refine qR ?_;iterate 3 refine rC ?_
      refine reg_do rfl (call_h [(0, some 64), (1, some 65)] (first_is h hL rd0 rd0_ok) rfl rfl rfl (arg_e (arg_fnb rfl rfl arg_nil)) ⟨⟨rfl, rfl, _, _, rfl, rfl, .refl _⟩, ⟨rfl, rfl, _, _, rfl, rfl, .refl _⟩, trivial⟩ rfl rfl (.inl rfl) rfl rfl) rfl rfl ?_
      refine rC ?_;refine nR ?_;iterate 2 refine rC ?_
      refine nS ?_;refine wF ?_;refine kS ?_;refine sR ?_;iterate 4 refine rC ?_
      refine nS ?_;refine wc_ret ?_
      exact ⟨trivial, [(64, some _), (65, some _)], .of rfl rfl rfl rfl rfl ⟨⟨_, rfl, AVLe.of_eq rfl⟩, rfl, trivial⟩ ⟨⟨rfl, rfl, _, rfl, .refl _⟩, ⟨rfl, rfl, _, rfl, .refl _⟩, trivial⟩⟩
end Go.Proofs.YtmojbghcngdkpaaGreatDoor

namespace Go.Proofs.YtmojbghcngdkpaaGreatDoor
open Go.Eng Go.Plain
set_option maxHeartbeats 8000000
set_option maxRecDepth 20000
attribute [local irreducible] WC RegS RegD SeqQ BlkQ ScoQ RegK CutK Sat SatN FnIs LoopQ StepIs OpIs
theorem hcheck_is (h : List HEv) (hh : h.length ≤ 9223372036854775807) : FnIs Tryz.prog 20 [.d (encH h)] [] (.tup (.acons (.int .i64 (chkH h).1) (.acons (.int .i64 (chkH h).2) .anil))) [] := by
  refine fnIs_of tab_ok Tryz.func20 rfl rfl rfl ?_;refine sR ?_;iterate 2 refine rC ?_
  refine nR ?_;refine rC ?_;refine reg_new2 (call_h [] (read_is h hh) rfl rfl rfl (arg_e arg_nil) trivial rfl rfl (.inl rfl) rfl rfl) rfl ?_;iterate 6 refine rC ?_
  refine nR ?_;iterate 4 refine rC ?_
  refine nS ?_;refine wc_ret ?_
  exact ⟨trivial, [], lf⟩
def opsH (h : List HEv) : List HOp := if (chkH h).2 = 0 then (rdH h).all else []
theorem hops_is (h : List HEv) (hh : h.length ≤ 9223372036854775807) (hal : (rdH h).all.length ≤ 1048576) : FnIs Tryz.prog 21 [.d (encH h)] [] (.tup (.acons (.d (encOX (opsH h))) (.acons (.int .i64 (chkH h).2) .anil))) [] := by
  unfold opsH
  refine fnIs_of tab_ok Tryz.func21 rfl rfl rfl ?_;refine sR ?_;iterate 2 refine rC ?_
  refine nR ?_;refine rC ?_;refine reg_new2 (call_h [] (read_is h hh) rfl rfl rfl (arg_e arg_nil) trivial rfl rfl (.inl rfl) rfl rfl) rfl ?_;iterate 7 refine rC ?_
  refine nQ ?_;refine sR ?_;iterate 2 refine rC ?_
  refine nS ?_
  by_cases h0 : (chkH h).2 = 0
  · have d0 : (!decide ((chkH h).2 = 0)) = false := by rw [decide_eq_true h0]; rfl
    rw [if_pos h0, h0]
    refine wG ?_;refine kS ?_;refine sR ?_;iterate 3 refine rC ?_
    refine rQ iM ?_;refine reg_freeze (env' := [(19, _)]) (h' := []) 89 _ rfl ⟨⟨_, rfl, Frz.own rfl⟩, trivial⟩ trivial ?_;refine rQ (call_r (exo_is (rdH h).all hal) rfl rfl (arg_e arg_nil) (.inl rfl) (fun _ => rfl)) ?_
    iterate 2 refine rC ?_
    refine nS ?_;refine wc_ret ?_
    exact ⟨trivial, [], lf⟩
  · have d0 : (!decide ((chkH h).2 = 0)) = true := by rw [decide_eq_false h0]; rfl
    rw [if_neg h0]
    refine wT ?_;refine sR ?_;iterate 3 refine rC ?_
    refine nS ?_;refine wc_ret ?_;refine seq_r ?_
    exact ⟨trivial, [], .of rfl rfl rfl rfl rfl ⟨⟨_, rfl, AVLe.tup1 (nil_arx _ _) rfl⟩, rfl, trivial⟩ trivial⟩
def erasG : List HEv → List (List HEv) → List HEv → List (List HEv)
  | [], out, era => out ++ [era]
  | x :: l, out, era => if x.kind = 3 then erasG l (out ++ [era]) [] else erasG l out (era ++ [x])
theorem erasG_step {h : List HEv} {i : Nat} {x : HEv} (hx : h[i]? = some x) (out : List (List HEv)) (era : List HEv) : erasG (h.drop i) out era = if x.kind = 3 then erasG (h.drop (i + 1)) (out ++ [era]) [] else erasG (h.drop (i + 1)) out (era ++ [x]) := by
  have hlt := (List.getElem?_eq_some_iff.1 hx).1
  rw [List.drop_eq_getElem_cons hlt, (List.getElem?_eq_some_iff.1 hx).2]
  rfl
theorem heras_is (h : List HEv) (hh : h.length ≤ 1000000) (hd : ∀ x ∈ h, x.op.data.length ≤ 1048576) : FnIs Tryz.prog 22 [.d (encH h)] [] (.tup (.acons (.d (.arx 1 encHX (if (chkH h).2 = 0 then erasG h [] [] else []))) (.acons (.int .i64 (chkH h).2) .anil))) [] := by
  have hh : h.length ≤ 9223372036854775807 := by omega
  refine fnIs_of tab_ok Tryz.func22 rfl rfl rfl ?_;refine sR ?_;iterate 2 refine rC ?_
  refine nQ ?_;refine sR ?_;refine rC ?_;refine rQ (call_r (hcheck_is h hh) rfl rfl (arg_e arg_nil) (.inl rfl) (fun _ => rfl)) ?_;iterate 5 refine rC ?_
  refine nR ?_;iterate 2 refine rC ?_
  refine nS ?_
  by_cases h0 : (chkH h).2 = 0
  · have d0 : (!decide ((chkH h).2 = 0)) = false := by rw [decide_eq_true h0]; rfl
    rw [if_pos h0, h0]
    refine wG ?_;refine kS ?_;refine sR ?_;refine rC ?_;refine nR ?_;refine rC ?_;refine nQ ?_;refine sR ?_;refine rC ?_;refine rQ iE ?_;refine rC ?_;refine nS ?_;refine wc_block ?_
    refine wc_inv (fun q : Nat × List (List HEv) × List HEv => ⟨[(20, .int .i64 q.1), (19, .int .i64 h.length), (18, .d (encH h)), (7, .own 66 0 q.2.2.length 38 none), (6, .own 65 0 q.2.1.length 1 none)], [(65, some (.ds 22 1 false encHX q.2.1)), (66, some (.ds 59 38 false encEv q.2.2))], 72, Tryz.f22.ntmps, 64⟩) (fun q => q.1 ≤ h.length ∧ q.2.1.length ≤ q.1 ∧ q.2.2.length ≤ q.1 ∧ erasG (h.drop q.1) q.2.1 q.2.2 = erasG h [] []) (fun q => h.length - q.1) (0, [], []) [(65, none), (66, none)] ⟨Nat.zero_le _, Nat.le_refl _, Nat.le_refl _, rfl⟩
      (.of rfl rfl rfl rfl rfl ⟨⟨_, rfl, .refl _⟩, rfl, ⟨_, rfl, .refl _⟩, rfl, ⟨_, rfl, .refl _⟩, rfl, ⟨_, rfl, .refl _⟩, rfl, ⟨_, rfl, .refl _⟩, rfl, trivial⟩ ⟨⟨rfl, rfl, rfl⟩, ⟨rfl, rfl, rfl⟩, trivial⟩) ?_
    rintro ⟨i, out, era⟩ ⟨hi, ho, he, hgo⟩
    simp only at hi ho he hgo
    have hera : era.length ≤ 1048576 := by omega
    have hera1 : era.length + 1 ≤ 1048576 := by omega
    have hout : out.length + 1 ≤ 1048576 := by omega
    have hout2 : (out ++ [era]).length ≤ 1048576 := by simp; omega
    refine wc_of ?_;refine sR ?_;refine rC ?_;refine nQ ?_
    refine wc_cond rfl (fun h2 => ?_) (fun h2 => ?_)
    · have hlt : i < h.length := by have := of_decide_eq_true h2; omega
      obtain ⟨x, hx⟩ : ∃ u, h[i]? = some u := ⟨_, List.getElem?_eq_getElem hlt⟩
      have hx' : h[((i : Int)).toNat]? = some x := by rw [Int.toNat_natCast]; exact hx
      have hdx := hd x (List.mem_of_getElem? hx)
      have hst := erasG_step hx out era
      rw [hgo] at hst
      refine kS ?_;refine wc_seq ?_;refine wc_block ?_;refine sR ?_;refine rQ (index_arr tab_ok rfl rfl rfl rfl rfl (by omega) hx') ?_;refine rQ iL ?_;refine rN ?_;refine rW ?_
      refine nQ ?_;refine sR ?_;refine rC ?_;refine rQ iB ?_;refine rC ?_;refine nS ?_
      by_cases k3 : x.kind = 3
      · have d3 : decide (x.kind = 3) = true := decide_eq_true k3
        rw [if_pos k3] at hst
        refine wT ?_;refine sR ?_;iterate 2 refine rC ?_
        refine reg_freeze (env' := [(28, _), (27, _), (20, _), (19, _), (18, _), (6, _)]) (h' := [(65, some _)]) 66 _ rfl ⟨⟨_, rfl, Frz.own rfl⟩, ⟨_, rfl, .refl _⟩, ⟨_, rfl, .refl _⟩, ⟨_, rfl, .refl _⟩, ⟨_, rfl, .refl _⟩, ⟨_, rfl, .refl _⟩, trivial⟩ ⟨⟨rfl, _, rfl, .refl _⟩, trivial⟩ ?_
        refine rQ (call_r (exe_is era hera) rfl rfl (arg_e arg_nil) (.inl rfl) (fun _ => rfl)) ?_;refine reg_new (build_slice (s := 1) tab_ok rfl rfl rfl rfl rfl rfl rfl rfl) rfl ?_
        refine reg_new2 (append_one (enc := encHX) (s := 1) (xs := out) tab_ok era rfl rfl rfl rfl rfl rfl rfl rfl rfl hout rfl) rfl ?_;refine rC ?_;refine nR ?_;refine rC ?_
        refine nS ?_;refine wc_exit ?_;refine seq_x ?_;refine blk_x ?_;refine seq_n ?_;refine wc_region ?_;refine rQ iD ?_;refine rC ?_;refine reg_nil ?_
        have hl1 : out.length + 1 = (out ++ [era]).length := by simp
        exact loop_n (i + 1, out ++ [era], []) [(65, some _), (66, none)] ⟨hlt, by simp; omega, Nat.zero_le _, hst.symm⟩ (by show h.length - (i + 1) < h.length - i; omega) (.of rfl rfl rfl rfl rfl ⟨⟨_, rfl, .refl _⟩, rfl, ⟨_, rfl, .refl _⟩, rfl, ⟨_, rfl, .refl _⟩, rfl, ⟨_, rfl, .refl _⟩, rfl, ⟨_, rfl, AVLe.of_eq (congrArg (fun n => AV.own _ 0 n 1 none) hl1)⟩, rfl, trivial⟩ ⟨⟨rfl, rfl, _, rfl, .refl _⟩, ⟨rfl, rfl, rfl⟩, trivial⟩)
      · have d3 : decide (x.kind = 3) = false := decide_eq_false k3
        rw [if_neg k3] at hst
        refine wF ?_;refine kS ?_;refine wc_region ?_;refine rC ?_;refine rQ iM ?_;refine rQ (call_r (own_is x hdx) rfl rfl (arg_e arg_nil) (.inl rfl) (fun _ => rfl)) ?_
        refine reg_new (build_slice (s := 38) tab_ok rfl rfl rfl rfl rfl rfl rfl rfl) rfl ?_;refine reg_new2 (append_one (enc := encEv) (s := 38) (xs := era) tab_ok x rfl rfl rfl rfl rfl rfl rfl rfl rfl hera1 rfl) rfl ?_
        refine rC ?_;refine reg_nil ?_;refine blk_n ?_;refine seq_n ?_;refine wc_region ?_;refine rQ iD ?_;refine rC ?_;refine reg_nil ?_
        have hl2 : era.length + 1 = (era ++ [x]).length := by simp
        exact loop_n (i + 1, out, era ++ [x]) [(65, some 65), (66, some _)] ⟨hlt, by simp only; omega, by simp; omega, hst.symm⟩ (by show h.length - (i + 1) < h.length - i; omega) (.of rfl rfl rfl rfl rfl ⟨⟨_, rfl, .refl _⟩, rfl, ⟨_, rfl, .refl _⟩, rfl, ⟨_, rfl, .refl _⟩, rfl, ⟨_, rfl, AVLe.of_eq (congrArg (fun n => AV.own _ 0 n 38 none) hl2)⟩, rfl, ⟨_, rfl, .refl _⟩, rfl, trivial⟩ ⟨⟨rfl, rfl, _, rfl, .refl _⟩, ⟨rfl, rfl, _, rfl, .refl _⟩, trivial⟩)
    · have hi2 : i = h.length := by have := of_decide_eq_false h2; omega
      subst hi2
      rw [List.drop_length] at hgo
      rw [← hgo]
      refine wc_exit ?_;refine seq_x ?_;refine loop_x ?_;refine blk_x ?_;refine seq_n ?_;refine sR ?_;iterate 2 refine rC ?_
      refine reg_freeze (env' := [(39, _), (38, _)]) (h' := [(65, some _)]) 66 _ rfl ⟨⟨_, rfl, Frz.own rfl⟩, ⟨_, rfl, .refl _⟩, trivial⟩ ⟨⟨rfl, _, rfl, .refl _⟩, trivial⟩ ?_
      refine rQ (call_r (exe_is era hera) rfl rfl (arg_e arg_nil) (.inl rfl) (fun _ => rfl)) ?_;refine reg_new (build_slice (s := 1) tab_ok rfl rfl rfl rfl rfl rfl rfl rfl) rfl ?_
      refine reg_new2 (append_one (enc := encHX) (s := 1) (xs := out) tab_ok era rfl rfl rfl rfl rfl rfl rfl rfl rfl hout rfl) rfl ?_;refine reg_freeze (env' := [(42, _)]) (h' := []) 112 _ rfl ⟨⟨_, rfl, Frz.own (by simp)⟩, trivial⟩ trivial ?_
      refine rQ (call_r (exh_is (out ++ [era]) hout2) rfl rfl (arg_e arg_nil) (.inl rfl) (fun _ => rfl)) ?_;iterate 2 refine rC ?_
      refine nS ?_;refine wc_ret ?_
      exact ⟨trivial, [], lf⟩
  · have d0 : (!decide ((chkH h).2 = 0)) = true := by rw [decide_eq_false h0]; rfl
    rw [if_neg h0]
    refine wT ?_;refine sR ?_;iterate 3 refine rC ?_
    refine nS ?_;refine wc_ret ?_;refine seq_r ?_
    exact ⟨trivial, [], .of rfl rfl rfl rfl rfl ⟨⟨_, rfl, AVLe.tup1 (nil_arx _ _) rfl⟩, rfl, trivial⟩ trivial⟩
def projB (c : Int) (x : HEv) : Bool := decide (x.kind = 3) || decide (x.client = c)
def projE (c : Int) (h : List HEv) : Int := if (chkH h).2 = 0 then (if c < 0 ∨ 8 ≤ c then 1 else 0) else (chkH h).2
theorem hproj_is (h : List HEv) (c : Int) (hh : h.length ≤ 1000000) (hd : ∀ x ∈ h, x.op.data.length ≤ 1048576) : FnIs Tryz.prog 23 [.d (encH h), .int .i64 c] [] (.tup (.acons (.d (encHX (if projE c h = 0 then h.filter (projB c) else []))) (.acons (.int .i64 (projE c h)) .anil))) [] := by
  have hh : h.length ≤ 9223372036854775807 := by omega
  refine fnIs_of tab_ok Tryz.func23 rfl rfl rfl ?_;refine sR ?_;iterate 2 refine rC ?_
  refine nQ ?_;refine sR ?_;refine rC ?_;refine rQ (call_r (hcheck_is h hh) rfl rfl (arg_e arg_nil) (.inl rfl) (fun _ => rfl)) ?_;iterate 5 refine rC ?_
  refine nR ?_;iterate 2 refine rC ?_
  refine nS ?_
  by_cases h0 : (chkH h).2 = 0
  · have d0 : (!decide ((chkH h).2 = 0)) = false := by rw [decide_eq_true h0]; rfl
    refine wF ?_;refine kS ?_;refine qR ?_;iterate 3 refine rC ?_
    by_cases hc0 : c < 0
    · have c0 : decide (c < 0) = true := decide_eq_true hc0
      rw [show projE c h = 1 by rw [projE, if_pos h0, if_pos (.inl hc0)], if_neg (by decide)]
      iterate 2 refine rS ?_
      refine rQ iT ?_;refine nS ?_;refine wV ?_;refine sR ?_;iterate 2 refine rC ?_
      refine nS ?_;refine wc_ret ?_;refine seq_r ?_
      exact ⟨trivial, [], .of rfl rfl rfl rfl rfl ⟨⟨_, rfl, AVLe.tup1 (nil_arx _ _) rfl⟩, rfl, trivial⟩ trivial⟩
    · have c0 : decide (c < 0) = false := decide_eq_false hc0
      refine rO ?_;refine rC ?_;refine rO ?_;refine rC ?_;refine rQ iF ?_;refine nS ?_
      by_cases hc8 : 8 ≤ c
      · have c8 : decide (8 ≤ c) = true := decide_eq_true hc8
        rw [show projE c h = 1 by rw [projE, if_pos h0, if_pos (.inr hc8)], if_neg (by decide)]
        refine wT ?_;refine sR ?_;iterate 2 refine rC ?_
        refine nS ?_;refine wc_ret ?_;refine seq_r ?_
        exact ⟨trivial, [], .of rfl rfl rfl rfl rfl ⟨⟨_, rfl, AVLe.tup1 (nil_arx _ _) rfl⟩, rfl, trivial⟩ trivial⟩
      · have c8 : decide (8 ≤ c) = false := decide_eq_false hc8
        rw [show projE c h = 0 by rw [projE, if_pos h0, if_neg (by omega)], if_pos rfl]
        refine wF ?_;refine kS ?_;refine sR ?_;refine rC ?_;refine nQ ?_;refine sR ?_;refine rC ?_;refine rQ iE ?_;refine rC ?_;refine nS ?_;refine wc_block ?_
        refine wc_inv (fun i : Nat => ⟨[(27, .int .i64 i), (26, .int .i64 h.length), (25, .d (encH h)), (8, .own 65 0 ((h.take i).filter (projB c)).length 38 none), (1, .int .i64 c)], [(65, some (.ds 59 38 false encEv ((h.take i).filter (projB c))))], 72, Tryz.f23.ntmps, 64⟩) (fun i => i ≤ h.length) (fun i => h.length - i) 0 [(65, none)] (Nat.zero_le _)
          (.of rfl rfl rfl rfl rfl ⟨⟨_, rfl, .refl _⟩, rfl, ⟨_, rfl, .refl _⟩, rfl, ⟨_, rfl, .refl _⟩, rfl, ⟨_, rfl, .refl _⟩, rfl, ⟨_, rfl, .refl _⟩, rfl, trivial⟩ ⟨⟨rfl, rfl, rfl⟩, trivial⟩) ?_
        intro i hi
        have hlen : ((h.take i).filter (projB c)).length ≤ i := Nat.le_trans (List.length_filter_le _ _) (by rw [List.length_take]; omega)
        have hera1 : ((h.take i).filter (projB c)).length + 1 ≤ 1048576 := by omega
        refine wc_of ?_;refine sR ?_;refine rC ?_;refine nQ ?_
        refine wc_cond rfl (fun h2 => ?_) (fun h2 => ?_)
        · have hlt : i < h.length := by have := of_decide_eq_true h2; omega
          obtain ⟨x, hx⟩ : ∃ u, h[i]? = some u := ⟨_, List.getElem?_eq_getElem hlt⟩
          have hx' : h[((i : Int)).toNat]? = some x := by rw [Int.toNat_natCast]; exact hx
          have hdx := hd x (List.mem_of_getElem? hx)
          have htk : h.take (i + 1) = h.take i ++ [x] := by rw [List.take_add_one, hx]; rfl
          obtain ⟨c1, h1⟩ : ∃ b, decide (x.kind = 3) = b := ⟨_, rfl⟩
          obtain ⟨c2, h2⟩ : ∃ b, decide (x.client = c) = b := ⟨_, rfl⟩
          refine kS ?_;refine wc_seq ?_;refine wc_block ?_;refine sR ?_;refine rQ (index_arr tab_ok rfl rfl rfl rfl rfl (by omega) hx') ?_;refine rQ iL ?_;refine rN ?_;refine rW ?_
          refine nR ?_;refine rC ?_;refine rQ iB ?_;iterate 2 refine rC ?_
          cases c1 with
          | true =>
            have hf : (h.take (i + 1)).filter (projB c) = (h.take i).filter (projB c) ++ [x] := by rw [htk, List.filter_append]; simp [projB, h1]
            have hl1 : ((h.take i).filter (projB c)).length + 1 = ((h.take (i + 1)).filter (projB c)).length := by rw [hf]; simp
            iterate 4 refine rS ?_
            refine rQ iT ?_;refine nS ?_;refine wV ?_;refine wc_region ?_;refine rC ?_;refine rQ iM ?_;refine rQ (call_r (own_is x hdx) rfl rfl (arg_e arg_nil) (.inl rfl) (fun _ => rfl)) ?_
            refine reg_new (build_slice (s := 38) tab_ok rfl rfl rfl rfl rfl rfl rfl rfl) rfl ?_;refine reg_new2 (append_one (enc := encEv) (s := 38) (xs := (h.take i).filter (projB c)) tab_ok x rfl rfl rfl rfl rfl rfl rfl rfl rfl hera1 rfl) rfl ?_
            refine rC ?_;refine reg_nil ?_;refine blk_n ?_;refine seq_n ?_;refine wc_region ?_;refine rQ iD ?_;refine rC ?_;refine reg_nil ?_
            exact loop_n (i + 1) [(65, some _)] hlt (by omega) (.of rfl rfl rfl rfl rfl ⟨⟨_, rfl, .refl _⟩, rfl, ⟨_, rfl, .refl _⟩, rfl, ⟨_, rfl, .refl _⟩, rfl, ⟨_, rfl, AVLe.of_eq (congrArg (fun n => AV.own _ 0 n 38 none) hl1)⟩, rfl, ⟨_, rfl, .refl _⟩, rfl, trivial⟩ ⟨⟨rfl, rfl, _, rfl, RowLe.of_eq (congrArg (fun l => Row.ds 59 38 false encEv l) hf.symm)⟩, trivial⟩)
          | false =>
            refine rO ?_;refine rC ?_;refine rO ?_;refine rQ iB ?_;refine rO ?_;refine rC ?_;refine rO ?_;refine rC ?_;refine rQ iF ?_;refine nS ?_
            cases c2 with
            | true =>
              have hf : (h.take (i + 1)).filter (projB c) = (h.take i).filter (projB c) ++ [x] := by rw [htk, List.filter_append]; simp [projB, h1, h2]
              have hl1 : ((h.take i).filter (projB c)).length + 1 = ((h.take (i + 1)).filter (projB c)).length := by rw [hf]; simp
              refine wT ?_;refine wc_region ?_;refine rC ?_;refine rQ iM ?_;refine rQ (call_r (own_is x hdx) rfl rfl (arg_e arg_nil) (.inl rfl) (fun _ => rfl)) ?_;refine reg_new (build_slice (s := 38) tab_ok rfl rfl rfl rfl rfl rfl rfl rfl) rfl ?_
              refine reg_new2 (append_one (enc := encEv) (s := 38) (xs := (h.take i).filter (projB c)) tab_ok x rfl rfl rfl rfl rfl rfl rfl rfl rfl hera1 rfl) rfl ?_;refine rC ?_
              refine reg_nil ?_;refine blk_n ?_;refine seq_n ?_;refine wc_region ?_;refine rQ iD ?_;refine rC ?_;refine reg_nil ?_
              exact loop_n (i + 1) [(65, some _)] hlt (by omega) (.of rfl rfl rfl rfl rfl ⟨⟨_, rfl, .refl _⟩, rfl, ⟨_, rfl, .refl _⟩, rfl, ⟨_, rfl, .refl _⟩, rfl, ⟨_, rfl, AVLe.of_eq (congrArg (fun n => AV.own _ 0 n 38 none) hl1)⟩, rfl, ⟨_, rfl, .refl _⟩, rfl, trivial⟩ ⟨⟨rfl, rfl, _, rfl, RowLe.of_eq (congrArg (fun l => Row.ds 59 38 false encEv l) hf.symm)⟩, trivial⟩)
            | false =>
              have hf : (h.take i).filter (projB c) = (h.take (i + 1)).filter (projB c) := by rw [htk, List.filter_append]; simp [projB, h1, h2]
              refine wF ?_;refine wc_skip ?_;refine blk_n ?_;refine seq_n ?_;refine wc_region ?_;refine rQ iD ?_;refine rC ?_;refine reg_nil ?_
              exact loop_n (i + 1) [(65, some 65)] hlt (by omega) (.of rfl rfl rfl rfl rfl ⟨⟨_, rfl, .refl _⟩, rfl, ⟨_, rfl, .refl _⟩, rfl, ⟨_, rfl, .refl _⟩, rfl, ⟨_, rfl, AVLe.of_eq (congrArg (fun l : List HEv => AV.own 65 0 l.length 38 none) hf)⟩, rfl, ⟨_, rfl, .refl _⟩, rfl, trivial⟩ ⟨⟨rfl, rfl, _, rfl, RowLe.of_eq (congrArg (fun l => Row.ds 59 38 false encEv l) hf)⟩, trivial⟩)
        · have hi2 : i = h.length := by have := of_decide_eq_false h2; omega
          subst hi2
          rw [List.take_length]
          have hera : (h.filter (projB c)).length ≤ 1048576 := Nat.le_trans (List.length_filter_le _ _) (by omega)
          refine wc_exit ?_;refine seq_x ?_;refine loop_x ?_;refine blk_x ?_;refine seq_n ?_;refine sR ?_;refine rC ?_;refine reg_freeze (env' := [(46, _)]) (h' := []) 65 _ rfl ⟨⟨_, rfl, Frz.own rfl⟩, trivial⟩ trivial ?_
          refine rQ (call_r (exe_is (h.filter (projB c)) hera) rfl rfl (arg_e arg_nil) (.inl rfl) (fun _ => rfl)) ?_;iterate 2 refine rC ?_
          refine nS ?_;refine wc_ret ?_
          exact ⟨trivial, [], lf⟩
  · have d0 : (!decide ((chkH h).2 = 0)) = true := by rw [decide_eq_false h0]; rfl
    have hE : projE c h = (chkH h).2 := by rw [projE, if_neg h0]
    rw [hE, if_neg h0]
    refine wT ?_;refine sR ?_;iterate 3 refine rC ?_
    refine nS ?_;refine wc_ret ?_;refine seq_r ?_
    exact ⟨trivial, [], .of rfl rfl rfl rfl rfl ⟨⟨_, rfl, AVLe.tup1 (nil_arx _ _) rfl⟩, rfl, trivial⟩ trivial⟩
end Go.Proofs.YtmojbghcngdkpaaGreatDoor

namespace Go.Proofs.YtmojbghcngdkpaaGreatDoor
open Go.Eng Go.Plain
set_option maxHeartbeats 8000000
set_option maxRecDepth 20000
attribute [local irreducible] WC RegS RegD SeqQ BlkQ ScoQ RegK CutK Sat SatN FnIs LoopQ StepIs OpIs
def pstep (c : Int) (i : Nat) (a : Int) (x : HEv) : Int := if x.kind = 3 then -1 else if x.kind = 1 then (if x.client = c then (i : Int) else a) else if x.kind = 2 then (if x.client = c then -1 else a) else a
def pendG (c : Int) : List HEv → Nat → Int → Int
  | [], _, a => a
  | x :: l, i, a => pendG c l (i + 1) (pstep c i a x)
def pend (h : List HEv) (c : Int) : Int := pendG c h 0 (-1)
theorem pendG_snoc (c : Int) (x : HEv) : ∀ (l : List HEv) (i : Nat) (a : Int), pendG c (l ++ [x]) i a = pstep c (i + l.length) (pendG c l i a) x
  | [], i, a => rfl
  | y :: l, i, a => by
    rw [List.cons_append, pendG, pendG, pendG_snoc c x l]
    rw [List.length_cons, show i + 1 + l.length = i + (l.length + 1) by omega]
theorem pend_snoc (l : List HEv) (c : Int) (x : HEv) : pend (l ++ [x]) c = pstep c l.length (pend l c) x := by
  rw [pend, pendG_snoc, Nat.zero_add]; rfl
theorem pend_take {h : List HEv} {c : Int} {i : Nat} {x : HEv} (hx : h[i]? = some x) : pend (h.take (i + 1)) c = pstep c i (pend (h.take i) c) x := by
  have hlt := (List.getElem?_eq_some_iff.1 hx).1
  rw [List.take_add_one, hx, Option.toList_some, pend_snoc, List.length_take, Nat.min_eq_left (by omega)]
theorem pstep_or (c : Int) (i : Nat) (a : Int) (x : HEv) : pstep c i a x = -1 ∨ pstep c i a x = i ∨ pstep c i a x = a := by
  unfold pstep
  by_cases h1 : x.kind = 3
  · simp [h1]
  · by_cases h2 : x.kind = 1
    · by_cases h3 : x.client = c <;> simp [h2, h3]
    · by_cases h4 : x.kind = 2
      · by_cases h3 : x.client = c <;> simp [h4, h3]
      · simp [h1, h2, h4]
theorem pend_lt (c : Int) : ∀ (l : List HEv) (i : Nat) (a : Int), -1 ≤ a ∧ a < i → -1 ≤ pendG c l i a ∧ pendG c l i a < (i + l.length : Nat)
  | [], i, a, h => by simpa [pendG] using h
  | x :: l, i, a, h => by
    have hs := pstep_or c i a x
    have := pend_lt c l (i + 1) (pstep c i a x) (by omega)
    rw [pendG, List.length_cons]
    omega
theorem pend_in (h : List HEv) (c : Int) : -1 ≤ pend h c ∧ pend h c < h.length := by
  have := pend_lt c h 0 (-1) (by decide)
  rw [Nat.zero_add] at this
  exact this
theorem pend_is (h : List HEv) (c : Int) (hL : h.length ≤ 9223372036854775807) : FnIs Tryz.prog 64 [.d (encH h), .int .i64 c] [] (.int .i64 (pend h c)) [] := by
  refine fnIs_of tab_ok Tryz.func64 rfl rfl rfl ?_;refine sR ?_;refine rC ?_;refine nR ?_;refine rC ?_;refine nQ ?_;refine sR ?_;refine rC ?_;refine nS ?_;refine wc_block ?_
  refine wc_inv (fun i : Nat => ⟨[(6, .int .i64 i), (5, .int .i64 (pend (h.take i) c)), (1, .int .i64 c), (0, .d (encH h))], [], 72, Tryz.f64.ntmps, 64⟩) (fun i => i ≤ h.length) (fun i => h.length - i) 0 [] (Nat.zero_le _)
    (.of rfl rfl rfl rfl rfl ⟨⟨_, rfl, .refl _⟩, rfl, ⟨_, rfl, .refl _⟩, rfl, ⟨_, rfl, .refl _⟩, rfl, ⟨_, rfl, .refl _⟩, rfl, trivial⟩ trivial) ?_
  intro i hi
  refine wc_of ?_;refine qR ?_;iterate 2 refine rC ?_
  refine rQ iE ?_;refine rC ?_;refine nS ?_
  refine wc_cond rfl (fun h3 => ?_) (fun h3 => ?_)
  · have hlt : i < h.length := by have := of_decide_eq_true h3; omega
    obtain ⟨x, hx⟩ : ∃ x, h[i]? = some x := ⟨_, List.getElem?_eq_getElem hlt⟩
    have hx' : h[((i : Int)).toNat]? = some x := by rw [Int.toNat_natCast]; exact hx
    have hp := pend_take (c := c) hx
    unfold pstep at hp
    by_cases k3 : x.kind = 3
    · have d3 : decide (x.kind = 3) = true := decide_eq_true k3
      have d1 : decide (x.kind = 1) = false := decide_eq_false (by omega)
      have d2 : decide (x.kind = 2) = false := decide_eq_false (by omega)
      rw [if_pos k3] at hp
      refine kS ?_;refine wc_seq ?_;refine wc_block ?_;refine qR ?_;iterate 2 refine rC ?_
      refine rQ (index_arr tab_ok rfl rfl rfl rfl rfl (by omega) hx') ?_;refine rC ?_;refine rQ iL ?_;refine rC ?_;refine nS ?_;refine wT ?_;refine wc_region ?_;refine rC ?_
      refine nQ ?_;refine sR ?_;iterate 2 refine rC ?_
      refine rQ (index_arr tab_ok rfl rfl rfl rfl rfl (by omega) hx') ?_;refine rC ?_;refine rQ iL ?_;iterate 2 refine rC ?_
      iterate 7 refine rS ?_
      refine rQ iF ?_;refine nS ?_;refine wG ?_;refine kS ?_;refine sR ?_;iterate 2 refine rC ?_
      refine rQ (index_arr tab_ok rfl rfl rfl rfl rfl (by omega) hx') ?_;refine rC ?_;refine rQ iL ?_;iterate 2 refine rC ?_
      iterate 7 refine rS ?_
      refine rQ iF ?_;refine nS ?_;refine wG ?_;refine wc_skip ?_;refine blk_n ?_;refine seq_n ?_;refine wc_region ?_;refine rC ?_;refine rQ iD ?_;refine rC ?_;refine reg_nil ?_
      exact loop_n (i + 1) [] hlt (by omega) (.of rfl rfl rfl rfl rfl ⟨⟨_, rfl, .refl _⟩, rfl, ⟨_, rfl, AVLe.of_eq (congrArg (fun n => AV.int .i64 n) hp.symm)⟩, rfl, ⟨_, rfl, .refl _⟩, rfl, ⟨_, rfl, .refl _⟩, rfl, trivial⟩ trivial)
    · have d3 : decide (x.kind = 3) = false := decide_eq_false k3
      rw [if_neg k3] at hp
      by_cases k1 : x.kind = 1
      · have d1 : decide (x.kind = 1) = true := decide_eq_true k1
        have d2 : decide (x.kind = 2) = false := decide_eq_false (by omega)
        rw [if_pos k1] at hp
        by_cases kc : x.client = c
        · have dc : decide (x.client = c) = true := decide_eq_true kc
          rw [if_pos kc] at hp
          refine kS ?_;refine wc_seq ?_;refine wc_block ?_;refine qR ?_;iterate 2 refine rC ?_
          refine rQ (index_arr tab_ok rfl rfl rfl rfl rfl (by omega) hx') ?_;refine rC ?_;refine rQ iL ?_;refine rC ?_;refine nS ?_;refine wF ?_;refine kS ?_;refine qR ?_
          iterate 2 refine rC ?_
          refine rQ (index_arr tab_ok rfl rfl rfl rfl rfl (by omega) hx') ?_;refine rC ?_;refine rQ iL ?_;iterate 2 refine rC ?_
          refine rO ?_;refine rC ?_;refine rO ?_;refine rC ?_;refine rO ?_;refine rQ (index_arr tab_ok rfl rfl rfl rfl rfl (by omega) hx') ?_;refine rO ?_;refine rC ?_;refine rO ?_
          refine rQ iL ?_;refine rO ?_;refine rC ?_;refine rO ?_;refine rC ?_;refine rQ iT ?_;refine nS ?_;refine wT ?_;refine wc_region ?_;iterate 2 refine rC ?_
          refine nR ?_;iterate 2 refine rC ?_
          refine rQ (index_arr tab_ok rfl rfl rfl rfl rfl (by omega) hx') ?_;refine rC ?_;refine rQ iL ?_;iterate 2 refine rC ?_
          iterate 7 refine rS ?_
          refine rQ iF ?_;refine nS ?_;refine wG ?_;refine wc_skip ?_;refine blk_n ?_;refine seq_n ?_;refine wc_region ?_;refine rC ?_;refine rQ iD ?_;refine rC ?_;refine reg_nil ?_
          exact loop_n (i + 1) [] hlt (by omega) (.of rfl rfl rfl rfl rfl ⟨⟨_, rfl, .refl _⟩, rfl, ⟨_, rfl, AVLe.of_eq (congrArg (fun n => AV.int .i64 n) hp.symm)⟩, rfl, ⟨_, rfl, .refl _⟩, rfl, ⟨_, rfl, .refl _⟩, rfl, trivial⟩ trivial)
        · have dc : decide (x.client = c) = false := decide_eq_false kc
          rw [if_neg kc] at hp
          refine kS ?_;refine wc_seq ?_;refine wc_block ?_;refine qR ?_;iterate 2 refine rC ?_
          refine rQ (index_arr tab_ok rfl rfl rfl rfl rfl (by omega) hx') ?_;refine rC ?_;refine rQ iL ?_;refine rC ?_;refine nS ?_;refine wF ?_;refine kS ?_;refine qR ?_
          iterate 2 refine rC ?_
          refine rQ (index_arr tab_ok rfl rfl rfl rfl rfl (by omega) hx') ?_;refine rC ?_;refine rQ iL ?_;iterate 2 refine rC ?_
          refine rO ?_;refine rC ?_;refine rO ?_;refine rC ?_;refine rO ?_;refine rQ (index_arr tab_ok rfl rfl rfl rfl rfl (by omega) hx') ?_;refine rO ?_;refine rC ?_;refine rO ?_
          refine rQ iL ?_;refine rO ?_;refine rC ?_;refine rO ?_;refine rC ?_;refine rQ iT ?_;refine nS ?_;refine wF ?_;refine kS ?_;refine sR ?_;iterate 2 refine rC ?_
          refine rQ (index_arr tab_ok rfl rfl rfl rfl rfl (by omega) hx') ?_;refine rC ?_;refine rQ iL ?_;iterate 2 refine rC ?_
          iterate 7 refine rS ?_
          refine rQ iF ?_;refine nS ?_;refine wG ?_;refine wc_skip ?_;refine blk_n ?_;refine seq_n ?_;refine wc_region ?_;refine rC ?_;refine rQ iD ?_;refine rC ?_;refine reg_nil ?_
          exact loop_n (i + 1) [] hlt (by omega) (.of rfl rfl rfl rfl rfl ⟨⟨_, rfl, .refl _⟩, rfl, ⟨_, rfl, AVLe.of_eq (congrArg (fun n => AV.int .i64 n) hp.symm)⟩, rfl, ⟨_, rfl, .refl _⟩, rfl, ⟨_, rfl, .refl _⟩, rfl, trivial⟩ trivial)
      · have d1 : decide (x.kind = 1) = false := decide_eq_false k1
        rw [if_neg k1] at hp
        by_cases k2 : x.kind = 2
        · have d2 : decide (x.kind = 2) = true := decide_eq_true k2
          rw [if_pos k2] at hp
          by_cases kc : x.client = c
          · have dc : decide (x.client = c) = true := decide_eq_true kc
            rw [if_pos kc] at hp
            refine kS ?_;refine wc_seq ?_;refine wc_block ?_;refine qR ?_;iterate 2 refine rC ?_
            refine rQ (index_arr tab_ok rfl rfl rfl rfl rfl (by omega) hx') ?_;refine rC ?_;refine rQ iL ?_;refine rC ?_;refine nS ?_;refine wF ?_;refine kS ?_;refine qR ?_
            iterate 2 refine rC ?_
            refine rQ (index_arr tab_ok rfl rfl rfl rfl rfl (by omega) hx') ?_;refine rC ?_;refine rQ iL ?_;iterate 2 refine rC ?_
            iterate 7 refine rS ?_
            refine rQ iF ?_;refine nS ?_;refine wG ?_;refine kS ?_;refine sR ?_;iterate 2 refine rC ?_
            refine rQ (index_arr tab_ok rfl rfl rfl rfl rfl (by omega) hx') ?_;refine rC ?_;refine rQ iL ?_;iterate 2 refine rC ?_
            refine rO ?_;refine rC ?_;refine rO ?_;refine rC ?_;refine rO ?_;refine rQ (index_arr tab_ok rfl rfl rfl rfl rfl (by omega) hx') ?_;refine rO ?_;refine rC ?_;refine rO ?_
            refine rQ iL ?_;refine rO ?_;refine rC ?_;refine rO ?_;refine rC ?_;refine rQ iT ?_;refine nS ?_;refine wT ?_;refine wc_region ?_;refine rC ?_;refine reg_nil ?_
            refine blk_n ?_;refine seq_n ?_;refine wc_region ?_;refine rC ?_;refine rQ iD ?_;refine rC ?_;refine reg_nil ?_
            exact loop_n (i + 1) [] hlt (by omega) (.of rfl rfl rfl rfl rfl ⟨⟨_, rfl, .refl _⟩, rfl, ⟨_, rfl, AVLe.of_eq (congrArg (fun n => AV.int .i64 n) hp.symm)⟩, rfl, ⟨_, rfl, .refl _⟩, rfl, ⟨_, rfl, .refl _⟩, rfl, trivial⟩ trivial)
          · have dc : decide (x.client = c) = false := decide_eq_false kc
            rw [if_neg kc] at hp
            refine kS ?_;refine wc_seq ?_;refine wc_block ?_;refine qR ?_;iterate 2 refine rC ?_
            refine rQ (index_arr tab_ok rfl rfl rfl rfl rfl (by omega) hx') ?_;refine rC ?_;refine rQ iL ?_;refine rC ?_;refine nS ?_;refine wF ?_;refine kS ?_;refine qR ?_
            iterate 2 refine rC ?_
            refine rQ (index_arr tab_ok rfl rfl rfl rfl rfl (by omega) hx') ?_;refine rC ?_;refine rQ iL ?_;iterate 2 refine rC ?_
            iterate 7 refine rS ?_
            refine rQ iF ?_;refine nS ?_;refine wG ?_;refine kS ?_;refine sR ?_;iterate 2 refine rC ?_
            refine rQ (index_arr tab_ok rfl rfl rfl rfl rfl (by omega) hx') ?_;refine rC ?_;refine rQ iL ?_;iterate 2 refine rC ?_
            refine rO ?_;refine rC ?_;refine rO ?_;refine rC ?_;refine rO ?_;refine rQ (index_arr tab_ok rfl rfl rfl rfl rfl (by omega) hx') ?_;refine rO ?_;refine rC ?_;refine rO ?_
            refine rQ iL ?_;refine rO ?_;refine rC ?_;refine rO ?_;refine rC ?_;refine rQ iT ?_;refine nS ?_;refine wF ?_;refine wc_skip ?_;refine blk_n ?_;refine seq_n ?_;refine wc_region ?_
            refine rC ?_;refine rQ iD ?_;refine rC ?_;refine reg_nil ?_
            exact loop_n (i + 1) [] hlt (by omega) (.of rfl rfl rfl rfl rfl ⟨⟨_, rfl, .refl _⟩, rfl, ⟨_, rfl, AVLe.of_eq (congrArg (fun n => AV.int .i64 n) hp.symm)⟩, rfl, ⟨_, rfl, .refl _⟩, rfl, ⟨_, rfl, .refl _⟩, rfl, trivial⟩ trivial)
        · have d2 : decide (x.kind = 2) = false := decide_eq_false k2
          rw [if_neg k2] at hp
          refine kS ?_;refine wc_seq ?_;refine wc_block ?_;refine qR ?_;iterate 2 refine rC ?_
          refine rQ (index_arr tab_ok rfl rfl rfl rfl rfl (by omega) hx') ?_;refine rC ?_;refine rQ iL ?_;refine rC ?_;refine nS ?_;refine wF ?_;refine kS ?_;refine qR ?_
          iterate 2 refine rC ?_
          refine rQ (index_arr tab_ok rfl rfl rfl rfl rfl (by omega) hx') ?_;refine rC ?_;refine rQ iL ?_;iterate 2 refine rC ?_
          iterate 7 refine rS ?_
          refine rQ iF ?_;refine nS ?_;refine wG ?_;refine kS ?_;refine sR ?_;iterate 2 refine rC ?_
          refine rQ (index_arr tab_ok rfl rfl rfl rfl rfl (by omega) hx') ?_;refine rC ?_;refine rQ iL ?_;iterate 2 refine rC ?_
          iterate 7 refine rS ?_
          refine rQ iF ?_;refine nS ?_;refine wG ?_;refine wc_skip ?_;refine blk_n ?_;refine seq_n ?_;refine wc_region ?_;refine rC ?_;refine rQ iD ?_;refine rC ?_;refine reg_nil ?_
          exact loop_n (i + 1) [] hlt (by omega) (.of rfl rfl rfl rfl rfl ⟨⟨_, rfl, .refl _⟩, rfl, ⟨_, rfl, AVLe.of_eq (congrArg (fun n => AV.int .i64 n) hp.symm)⟩, rfl, ⟨_, rfl, .refl _⟩, rfl, ⟨_, rfl, .refl _⟩, rfl, trivial⟩ trivial)
  · have he : i = h.length := by have := of_decide_eq_false h3; omega
    subst he
    rw [List.take_length]
    refine wc_exit ?_;refine seq_x ?_;refine loop_x ?_;refine blk_x ?_;refine seq_n ?_;refine sR ?_;iterate 2 refine rC ?_
    refine nS ?_;refine wc_ret ?_
    exact ⟨trivial, [], lf⟩
end Go.Proofs.YtmojbghcngdkpaaGreatDoor

namespace Go.Proofs.YtmojbghcngdkpaaGreatDoor
open Go.Eng Go.Plain
set_option maxHeartbeats 8000000
set_option maxRecDepth 20000
attribute [local irreducible] WC RegS RegD SeqQ BlkQ ScoQ RegK CutK Sat SatN FnIs LoopQ StepIs OpIs
def fit1 (h : List HEv) (x : HEv) : Bool := decide (0 ≤ x.client) && decide (x.client ≤ 7) && decide (pend h x.client < 0) && decide (x.op.data.length ≤ 64) && decide (x.value = zBk) && decide (x.err = 0)
def fit2 (h : List HEv) (x : HEv) : Bool := decide (0 ≤ x.client) && decide (x.client ≤ 7) && !decide (pend h x.client < 0) && decide (x.op = zOp) && kn4 x.err && ((match h[(pend h x.client).toNat]? with | some y => decide (y.op.kind = 1) && decide (x.err = 0) | none => false) || decide (x.value = zBk))
def fitB (h : List HEv) (x : HEv) : Bool := if x.kind = 1 then fit1 h x else if x.kind = 2 then fit2 h x else if x.kind = 3 then crash1 x else false
abbrev FitIs (h : List HEv) (x : HEv) (b : Bool) : Prop := FnIs Tryz.prog 55 [.d (encH h), .d (encEv x)] [] (.d (i6 (if b then 1 else 0))) []
end Go.Proofs.YtmojbghcngdkpaaGreatDoor

namespace Go.Proofs.YtmojbghcngdkpaaGreatDoor
open Go.Eng Go.Plain
set_option maxHeartbeats 8000000
set_option maxRecDepth 20000
attribute [local irreducible] WC RegS RegD SeqQ BlkQ ScoQ RegK CutK Sat SatN FnIs LoopQ StepIs OpIs
def rchkG (h : List HEv) : Nat → Nat → Int × Int
  | 0, _ => (0, 0)
  | n + 1, i => match h[i]? with
    | none => (0, 0)
    | some x => if fitB (h.take i) x then rchkG h n (i + 1) else ((i : Int), 18)
def rchk (h : List HEv) : Int × Int := if 8192 < h.length then (0, 3) else rchkG h h.length 0
def fewB (h : List HEv) : Bool := decide (h.length ≤ 60) && h.all fun x => decide (x.op.data.length ≤ 70)
end Go.Proofs.YtmojbghcngdkpaaGreatDoor

namespace Go.Proofs.YtmojbghcngdkpaaGreatDoor
open Go.Eng Go.Plain
structure Track (p : List HEv) (s : RdS) : Prop where
  ok : s.Ok p.length
  idle : ∀ c : Nat, c < 8 → pend p c < 0 → s.busy[c]? = some 0
  busy : ∀ c : Nat, c < 8 → 0 ≤ pend p c → ∃ b o y, s.busy[c]? = some b ∧ 0 < b ∧ s.all[(b - 1).toNat]? = some o ∧ p[(pend p c).toNat]? = some y ∧ o.op = y.op
  free : ∀ c d : Nat, c < 8 → d < 8 → c ≠ d → ∀ b, s.busy[c]? = some b → s.busy[d]? = some b → b = 0
theorem track0 : Track [] rd0 := ⟨rd0_ok, fun c hc _ => by
  match c, hc with
  | 0, _ => rfl
  | 1, _ => rfl
  | 2, _ => rfl
  | 3, _ => rfl
  | 4, _ => rfl
  | 5, _ => rfl
  | 6, _ => rfl
  | 7, _ => rfl, fun c _ h => absurd h (by rw [show pend [] ((c : Nat) : Int) = -1 from rfl]; decide), fun c d hc hd _ b hb _ => by
  have := List.mem_of_getElem? hb
  have hz : ∀ b ∈ rd0.busy, b = 0 := by decide
  exact hz b this⟩
theorem Track.fits {p : List HEv} {s : RdS} (T : Track p s) (x : HEv) : (takeS s x).2 = fitB p x := by
  unfold takeS fitB
  simp only
  by_cases k1 : x.kind = 1
  · rw [if_pos k1, if_pos k1]
    have e : inv1 s x = fit1 p x := by
      unfold inv1 fit1
      by_cases c0 : 0 ≤ x.client
      · by_cases c8 : x.client < 8
        · have c7 : x.client ≤ 7 := by omega
          have hc : ((x.client.toNat : Nat) : Int) = x.client := Int.toNat_of_nonneg c0
          have hb : decide (s.busy[x.client.toNat]? = some 0) = decide (pend p x.client < 0) := by
            by_cases hp : pend p x.client < 0
            · rw [T.idle x.client.toNat (by omega) (by rw [hc]; exact hp), decide_eq_true hp]; rfl
            · obtain ⟨b, o, y, h1, h2, _⟩ := T.busy x.client.toNat (by omega) (by rw [hc]; omega)
              rw [h1, decide_eq_false hp]
              exact decide_eq_false fun e => by cases e; omega
          rw [hb, decide_eq_true c8, decide_eq_true c7]
        · rw [decide_eq_false c8, decide_eq_false (by omega : ¬ x.client ≤ 7)]; simp
      · rw [decide_eq_false c0]; simp
    rw [← e]
    cases inv1 s x <;> rfl
  · rw [if_neg k1, if_neg k1]
    by_cases k2 : x.kind = 2
    · rw [if_pos k2, if_pos k2]
      have e : ret1 s x = fit2 p x := by
        unfold ret1 fit2
        by_cases c0 : 0 ≤ x.client
        · by_cases c8 : x.client < 8
          · have c7 : x.client ≤ 7 := by omega
            have hc : ((x.client.toNat : Nat) : Int) = x.client := Int.toNat_of_nonneg c0
            by_cases hp : pend p x.client < 0
            · rw [T.idle x.client.toNat (by omega) (by rw [hc]; exact hp), decide_eq_true hp]
              simp
            · obtain ⟨b, o, y, h1, h2, h3, h4, h5⟩ := T.busy x.client.toNat (by omega) (by rw [hc]; omega)
              rw [hc] at h4
              rw [opOf, h1]
              simp only
              rw [h3, h4, decide_eq_false hp, decide_eq_true c8, decide_eq_true c7, decide_eq_true c0, decide_eq_false (fun e => by cases e; omega : ¬ some b = some 0)]
              simp only [h5]
              cases decide (x.op = zOp) <;> cases kn4 x.err <;> cases decide (x.value = zBk) <;> cases decide (y.op.kind = 1) <;> cases decide (x.err = 0) <;> rfl
          · rw [decide_eq_false c8, decide_eq_false (by omega : ¬ x.client ≤ 7)]; simp
        · rw [decide_eq_false c0]; simp
      rw [← e]
      cases ret1 s x <;> rfl
    · rw [if_neg k2, if_neg k2]
      by_cases k3 : x.kind = 3
      · rw [if_pos k3, if_pos k3]
      · rw [if_neg k3, if_neg k3]
theorem take_kind {s : RdS} {x : HEv} (h : (takeS s x).2 = true) : x.kind = 1 ∧ inv1 s x = true ∨ x.kind = 2 ∧ ret1 s x = true ∨ x.kind = 3 ∧ crash1 x = true := by
  unfold takeS at h
  simp only at h
  by_cases k1 : x.kind = 1
  · rw [if_pos k1] at h
    cases hi : inv1 s x with
    | true => exact .inl ⟨k1, rfl⟩
    | false => rw [hi] at h; cases h
  · rw [if_neg k1] at h
    by_cases k2 : x.kind = 2
    · rw [if_pos k2] at h
      cases hi : ret1 s x with
      | true => exact .inr (.inl ⟨k2, rfl⟩)
      | false => rw [hi] at h; cases h
    · rw [if_neg k2] at h
      by_cases k3 : x.kind = 3
      · rw [if_pos k3] at h; exact .inr (.inr ⟨k3, h⟩)
      · rw [if_neg k3] at h; cases h
theorem inv1_out {s : RdS} {x : HEv} (h : inv1 s x = true) : 0 ≤ x.client ∧ x.client < 8 ∧ s.busy[x.client.toNat]? = some 0 ∧ x.op.data.length ≤ 64 ∧ x.value = zBk ∧ x.err = 0 := by
  simp only [inv1, Bool.and_eq_true, decide_eq_true_eq] at h
  obtain ⟨⟨⟨⟨⟨h1, h2⟩, h3⟩, h4⟩, h5⟩, h6⟩ := h
  exact ⟨h1, h2, h3, h4, h5, h6⟩
theorem ret1_out {s : RdS} {x : HEv} {n : Nat} (hs : s.Ok n) (h : ret1 s x = true) : 0 ≤ x.client ∧ x.client < 8 ∧ x.op = zOp ∧ kn4 x.err = true ∧ ∃ b o, s.busy[x.client.toNat]? = some b ∧ 0 < b ∧ s.all[(b - 1).toNat]? = some o ∧ opOf s x = some o ∧ (x.value = zBk ∨ o.op.kind = 1 ∧ x.err = 0) := by
  simp only [ret1, Bool.and_eq_true, decide_eq_true_eq] at h
  obtain ⟨⟨⟨⟨⟨h1, h2⟩, h3⟩, h4⟩, h5⟩, h6⟩ := h
  obtain ⟨b, hbg⟩ : ∃ b, s.busy[x.client.toNat]? = some b := ⟨_, List.getElem?_eq_getElem (by rw [hs.blen]; omega)⟩
  have hb := hs.busy b (List.mem_of_getElem? hbg)
  have hb0 : b ≠ 0 := by rw [hbg] at h3; simpa using h3
  obtain ⟨o, hog⟩ : ∃ o, s.all[(b - 1).toNat]? = some o := ⟨_, List.getElem?_eq_getElem (by omega)⟩
  have ho : opOf s x = some o := by rw [opOf, hbg]; exact hog
  rw [ho] at h6
  refine ⟨h1, h2, h4, h5, b, o, hbg, by omega, hog, ho, ?_⟩
  simpa [Bool.or_eq_true, Bool.and_eq_true] using h6
theorem take_inv_eq {s : RdS} {x : HEv} (k1 : x.kind = 1) (h : inv1 s x = true) : (takeS s x).1 = ⟨s.busy.set x.client.toNat (s.all.length + 1), s.number.set x.client.toNat ((s.number[x.client.toNat]?.getD 0) + 1), s.era, s.read + 1, s.all ++ [⟨x.client, s.number[x.client.toNat]?.getD 0, s.era, x.op, s.read, -1, zBk, 0⟩]⟩ := by simp [takeS, k1, h]
theorem take_ret_eq {s : RdS} {x : HEv} {b : Int} {o : HOp} (k2 : x.kind = 2) (h : ret1 s x = true) (hb : s.busy[x.client.toNat]? = some b) (ho : opOf s x = some o) : (takeS s x).1 = ⟨s.busy.set x.client.toNat 0, s.number, s.era, s.read + 1, s.all.set (b - 1).toNat { o with returned := s.read, value := x.value, err := x.err }⟩ := by simp [takeS, k2, h, ho, hb]
theorem take_crash_eq {s : RdS} {x : HEv} (k3 : x.kind = 3) : (takeS s x).1 = ⟨zero8, s.number, s.era + 1, s.read + 1, s.all⟩ := by simp [takeS, k3]
theorem get_snoc {α : Type} {p : List α} {x y : α} {k : Nat} (h : p[k]? = some y) : (p ++ [x])[k]? = some y := by
  rw [List.getElem?_append_left (List.getElem?_eq_some_iff.1 h).1]; exact h
theorem Track.next {p : List HEv} {s : RdS} (T : Track p s) {x : HEv} (h : (takeS s x).2 = true) : Track (p ++ [x]) (takeS s x).1 := by
  have hok := T.ok.next x
  have hlen : (p ++ [x]).length = p.length + 1 := by simp
  rcases take_kind h with ⟨k1, hi⟩ | ⟨k2, hi⟩ | ⟨k3, hi⟩
  · obtain ⟨c0, c8, hb, _, _, _⟩ := inv1_out hi
    have e := take_inv_eq k1 hi
    rw [e] at hok ⊢
    have hps : ∀ d : Int, pend (p ++ [x]) d = if x.client = d then (p.length : Int) else pend p d := fun d => by
      rw [pend_snoc, pstep, if_neg (by omega), if_pos k1]
    refine ⟨by rw [hlen]; exact hok, fun d hd hp => ?_, fun d hd hp => ?_, fun c d hc hd hcd b h1 h2 => ?_⟩
    · rw [hps] at hp
      by_cases hcd : x.client = d
      · rw [if_pos hcd] at hp; omega
      · rw [if_neg hcd] at hp
        rw [List.getElem?_set_ne (by omega)]
        exact T.idle d hd hp
    · rw [hps] at hp ⊢
      by_cases hcd : x.client = d
      · rw [if_pos hcd]
        refine ⟨s.all.length + 1, _, x, by rw [show x.client.toNat = d by omega]; exact List.getElem?_set_self (by rw [T.ok.blen]; exact hd), by omega, by
          rw [show ((s.all.length : Int) + 1 - 1).toNat = s.all.length by omega]
          exact List.getElem?_concat_length .., by
          rw [Int.toNat_natCast]
          exact List.getElem?_concat_length .., rfl⟩
      · rw [if_neg hcd] at hp ⊢
        obtain ⟨b, o, y, g1, g2, g3, g4, g5⟩ := T.busy d hd hp
        exact ⟨b, o, y, by rw [List.getElem?_set_ne (by omega)]; exact g1, g2, get_snoc g3, get_snoc g4, g5⟩
    · have hbb : ∀ (k : Nat) (b : Int), s.busy[k]? = some b → b ≤ s.all.length := fun k b hk => (T.ok.busy b (List.mem_of_getElem? hk)).2
      by_cases e1 : x.client.toNat = c
      · subst e1
        rw [List.getElem?_set_self (by rw [T.ok.blen]; exact hc)] at h1
        rw [List.getElem?_set_ne hcd] at h2
        have := hbb _ _ h2
        cases h1
        omega
      · rw [List.getElem?_set_ne e1] at h1
        by_cases e2 : x.client.toNat = d
        · subst e2
          rw [List.getElem?_set_self (by rw [T.ok.blen]; exact hd)] at h2
          have := hbb _ _ h1
          cases h2
          omega
        · rw [List.getElem?_set_ne e2] at h2
          exact T.free c d hc hd hcd b h1 h2
  · obtain ⟨c0, c8, _, _, b, o, hb, hb0, hog, ho, _⟩ := ret1_out T.ok hi
    have e := take_ret_eq k2 hi hb ho
    rw [e] at hok ⊢
    have hps : ∀ d : Int, pend (p ++ [x]) d = if x.client = d then -1 else pend p d := fun d => by
      rw [pend_snoc, pstep, if_neg (by omega), if_neg (by omega), if_pos k2]
    refine ⟨by rw [hlen]; exact hok, fun d hd hp => ?_, fun d hd hp => ?_, fun c d hc hd hcd b' h1 h2 => ?_⟩
    · rw [hps] at hp
      by_cases hcd : x.client = d
      · rw [show x.client.toNat = d by omega]; exact List.getElem?_set_self (by rw [T.ok.blen]; exact hd)
      · rw [if_neg hcd] at hp
        rw [List.getElem?_set_ne (by omega)]
        exact T.idle d hd hp
    · rw [hps] at hp ⊢
      by_cases hcd : x.client = d
      · rw [if_pos hcd] at hp; omega
      · rw [if_neg hcd] at hp ⊢
        obtain ⟨b', o', y, g1, g2, g3, g4, g5⟩ := T.busy d hd hp
        have hne : b' ≠ b := fun e => by
          subst e
          have := T.free x.client.toNat d (by omega) hd (by omega) _ hb g1
          omega
        exact ⟨b', o', y, by rw [List.getElem?_set_ne (by omega)]; exact g1, g2, by rw [List.getElem?_set_ne (by omega)]; exact g3, get_snoc g4, g5⟩
    · by_cases e1 : x.client.toNat = c
      · subst e1
        rw [List.getElem?_set_self (by rw [T.ok.blen]; exact hc)] at h1
        cases h1; rfl
      · rw [List.getElem?_set_ne e1] at h1
        by_cases e2 : x.client.toNat = d
        · subst e2
          rw [List.getElem?_set_self (by rw [T.ok.blen]; exact hd)] at h2
          cases h2; rfl
        · rw [List.getElem?_set_ne e2] at h2
          exact T.free c d hc hd hcd b' h1 h2
  · have e := take_crash_eq (s := s) k3
    rw [e] at hok ⊢
    have hps : ∀ d : Int, pend (p ++ [x]) d = -1 := fun d => by rw [pend_snoc, pstep, if_pos k3]
    have hz : ∀ b ∈ zero8, b = 0 := by decide
    refine ⟨by rw [hlen]; exact hok, fun d hd _ => ?_, fun d hd hp => by rw [hps] at hp; omega, fun c d _ _ _ b h1 _ => hz b (List.mem_of_getElem? h1)⟩
    obtain ⟨b, hb⟩ : ∃ b, zero8[d]? = some b := ⟨_, List.getElem?_eq_getElem hd⟩
    show zero8[d]? = some 0
    rw [hb, hz b (List.mem_of_getElem? hb)]
theorem track_go (h : List HEv) : ∀ (n : Nat) (s : RdS) (i : Nat), h.length - i = n → i ≤ h.length → Track (h.take i) s →
    rchkG h n i = (if 0 ≤ (goS s (h.drop i) i).2 then ((goS s (h.drop i) i).2, 18) else (0, 0)) ∧ ((goS s (h.drop i) i).2 < 0 → Track h (goS s (h.drop i) i).1)
  | 0, s, i, hn, hi, T => by
    have he : i = h.length := by omega
    subst he
    rw [List.drop_length]
    rw [List.take_length] at T
    exact ⟨rfl, fun _ => T⟩
  | n + 1, s, i, hn, hi, T => by
    obtain ⟨x, hx⟩ : ∃ x, h[i]? = some x := ⟨_, List.getElem?_eq_getElem (by omega)⟩
    have htk : h.take (i + 1) = h.take i ++ [x] := by rw [List.take_add_one, hx]; rfl
    rw [goS_step hx, rchkG, hx]
    simp only
    rw [← T.fits x]
    cases hb : (takeS s x).2 with
    | true =>
      simp only [if_pos]
      have T' := T.next hb
      rw [← htk] at T'
      exact track_go h n _ (i + 1) (by omega) (by omega) T'
    | false =>
      simp only [Bool.false_eq_true, if_false]
      rw [if_pos (by omega)]
      exact ⟨rfl, fun hlt => by omega⟩
theorem chk_same (h : List HEv) : chkH h = rchk h := by
  unfold chkH rchk
  by_cases h8 : 8192 < h.length
  · rw [if_pos h8, if_pos h8]
  · rw [if_neg h8, if_neg h8]
    exact (track_go h h.length rd0 0 (by omega) (Nat.zero_le _) track0).1.symm
end Go.Proofs.YtmojbghcngdkpaaGreatDoor

namespace Go.Proofs.YtmojbghcngdkpaaGreatDoor
open Go.Eng Go.Plain
set_option maxHeartbeats 8000000
set_option maxRecDepth 20000
attribute [local irreducible] WC RegS RegD SeqQ BlkQ ScoQ RegK CutK Sat SatN FnIs LoopQ StepIs OpIs
theorem trimp_is {l p : List UInt8} : FnIs Tryz.prog 137 [.d (strD l), .d (strD p)] [] (.d (strD (Lib.trimPrefix l p))) [] :=
  .of_calls1 rfl ⟨_, Tryz.func137, by kernel_rfl, by kernel_rfl⟩ fun σ w X vs ha hg => by
    rw [ha.two]
    refine (Tryz.strings_TrimPrefix (mkS l) (mkS p) w).mono ?_
    rintro e w' ⟨rfl, rfl⟩
    exact ⟨by rw [mkS_data, mkS_data]; rfl, Go.RowKit.Below.refl _ _⟩
theorem trims_is {l p : List UInt8} (hl : l.length ≤ 9223372036854775807) : FnIs Tryz.prog 136 [.d (strD l), .d (strD p)] [] (.d (strD (Lib.trimSuffix l p))) [] :=
  .of_calls1 rfl ⟨_, Tryz.func136, by kernel_rfl, by kernel_rfl⟩ fun σ w X vs ha hg => by
    rw [ha.two]
    refine (Tryz.strings_TrimSuffix (mkS l) (mkS p) w (by rw [mkS_size]; exact hl)).mono ?_
    rintro e w' ⟨rfl, rfl⟩
    exact ⟨by rw [mkS_data, mkS_data]; rfl, Go.RowKit.Below.refl _ _⟩
theorem trim_pre (p s : List UInt8) : Lib.trimPrefix (p ++ s) p = s := by
  rw [Lib.trimPrefix, Lib.hasPrefix, if_pos (by rw [List.isPrefixOf_iff_prefix]; exact List.prefix_append _ _), List.drop_left]
theorem trim_suf (s q : List UInt8) : Lib.trimSuffix (s ++ q) q = s := by
  rw [Lib.trimSuffix, Lib.hasSuffix, if_pos (by rw [List.isSuffixOf_iff_suffix]; exact List.suffix_append _ _)]
  simp
def sOk : List UInt8 := [111, 107]
def sArg : List UInt8 := [97, 114, 103]
def sNonce : List UInt8 := [110, 111, 110, 99, 101]
def sInteg : List UInt8 := [105, 110, 116, 101, 103, 114, 105, 116, 121]
def wordsL : List (Int × AV) := [(0, .d (strD sOk)), (1, .d (strD sArg)), (8, .d (strD sNonce)), (9, .d (strD sInteg))]
theorem key_err : KeyTy Tryz.prog 27 i6 1 := keyTy_int Tryz.underlying27 .i64
theorem words_is : FnIs Tryz.prog 111 [] [] (.mapr 64) [(64, .mo (mapC i6 wordsL))] := by
  refine fnIs_of tab_ok Tryz.func111 rfl rfl rfl ?_;refine sR ?_;refine rC ?_;refine nR ?_;refine reg_new (make_map) rfl ?_;refine reg_do rfl (insert_new (κ := Int) (enc := i6) (l := wordsL.take 0) (k := 0) (v := .d (strD sOk)) key_err Tryz.underlying173 rfl rfl rfl rfl rfl) rfl rfl ?_
  refine reg_do rfl (insert_new (κ := Int) (enc := i6) (l := wordsL.take 1) (k := 1) (v := .d (strD sArg)) key_err Tryz.underlying173 rfl rfl rfl rfl rfl) rfl rfl ?_
  refine reg_do rfl (insert_new (κ := Int) (enc := i6) (l := wordsL.take 2) (k := 8) (v := .d (strD sNonce)) key_err Tryz.underlying173 rfl rfl rfl rfl rfl) rfl rfl ?_
  refine reg_do rfl (insert_new (κ := Int) (enc := i6) (l := wordsL.take 3) (k := 9) (v := .d (strD sInteg)) key_err Tryz.underlying173 rfl rfl rfl rfl rfl) rfl rfl ?_
  iterate 2 refine rC ?_
  refine nS ?_;refine wc_ret ?_
  exact ⟨trivial, [(64, some _)], .of rfl rfl rfl rfl rfl ⟨⟨_, rfl, AVLe.of_eq rfl⟩, rfl, trivial⟩ ⟨⟨rfl, rfl, _, rfl, .refl _⟩, trivial⟩⟩
theorem hhex_is (l : List UInt8) (hl32 : l.length = 32) : FnIs Tryz.prog 110 [.d (encBk l)] [] (.d (strD (hexP l))) [] := by
  have hne : l ≠ [] := fun e => by rw [e] at hl32; cases hl32
  have hL : l.length ≤ 524288 := by omega
  have hbl : (byI l).length = l.length := byI_len l
  refine fnIs_of tab_ok Tryz.func110 rfl rfl rfl ?_;refine sR ?_;refine rN ?_;refine rC ?_;refine nR ?_;refine rN ?_;refine nQ ?_;refine sR ?_;refine rQ iM ?_;refine rC ?_
  refine nS ?_;refine wc_block ?_
  refine wc_inv (fun i : Nat => ⟨[(7, .int .i64 i), (6, .d (encBk l)), (3, .ptr 65 [])], [(65, some (bldRow (Nat.beq i 0) 65 66 (2 * i))), (66, some (rowT ((l.take i).flatMap hexB)))], 72, Tryz.f110.ntmps, 64⟩) (fun i => i ≤ l.length) (fun i => l.length - i) 0 [(65, some _), (66, none)] (Nat.zero_le _)
    (.of rfl rfl rfl rfl rfl ⟨⟨_, rfl, .refl _⟩, rfl, ⟨_, rfl, .refl _⟩, rfl, ⟨_, rfl, .refl _⟩, rfl, trivial⟩ ⟨⟨rfl, rfl, _, rfl, RowLe.split2⟩, ⟨rfl, rfl, rfl⟩, trivial⟩) ?_
  intro i hi
  refine wc_of ?_;refine sR ?_;refine rC ?_;refine nQ ?_
  refine wc_cond rfl (fun h3 => ?_) (fun h3 => ?_)
  · have hlt : i < l.length := by have := of_decide_eq_true h3; omega
    obtain ⟨b, hb⟩ : ∃ b, l[i]? = some b := ⟨_, List.getElem?_eq_getElem hlt⟩
    have hb' : (byI l)[((i : Int)).toNat]? = some (b.toNat : Int) := by rw [Int.toNat_natCast]; exact byI_get hb
    have hb8 : b.toNat < 256 := b.toNat_lt
    have hw16 : IntKind.u8.wrap ((b.toNat / 16 : Nat) : Int) = ((b.toNat / 16 : Nat) : Int) := wrap_u8n (by omega)
    have hd1 := hexD_get (n := b.toNat / 16) (by omega)
    have hd2 := hexD_get (n := b.toNat % 16) (by omega)
    have hpl : ((l.take i).flatMap hexB).length = 2 * i := by rw [hexB_len, List.length_take, Nat.min_eq_left hi]
    have hp1 : 2 * i + 1 ≤ 1048576 := by omega
    have hpl2 : ((l.take i).flatMap hexB ++ [hexC (b.toNat / 16)]).length = 2 * i + 1 := by rw [List.length_append, hpl]; rfl
    have hp2 : 2 * i + 1 + 1 ≤ 1048576 := by omega
    have hgo := hex_take hb
    refine kS ?_;refine wc_seq ?_;refine wc_block ?_;refine sR ?_;refine rQ (index_vec tab_ok rfl rfl rfl rfl rfl (by omega) (by omega) ⟨rfl, _, hb', rfl⟩ rfl) ?_;refine rC ?_
    refine nR ?_;refine rC ?_;refine rQ (quo_nat (a := b.toNat) (b := 16) tab_ok rfl rfl rfl (by decide) hw16) ?_;refine rQ (index_s (l := hexD) (m := b.toNat / 16) tab_ok rfl rfl rfl hd1) ?_
    refine reg_do rfl (call_h [(0, some 65), (1, some 66)] (writebyte_is (Nat.beq i 0) ((l.take i).flatMap hexB) (hexC (b.toNat / 16)) (2 * i) hpl hp1) rfl rfl rfl (arg_ptr rfl rfl (arg_e arg_nil)) ⟨⟨rfl, (by cases Nat.beq i 0 <;> rfl), _, _, rfl, rfl, (by cases Nat.beq i 0 <;> exact .refl _)⟩, ⟨rfl, rfl, _, _, rfl, rfl, .refl _⟩, trivial⟩ rfl rfl (.inl rfl) rfl rfl) rfl rfl ?_
    refine nS ?_;refine wc_region ?_;refine rC ?_;refine rQ (rem_nat (a := b.toNat) (b := 16) tab_ok rfl rfl rfl (by decide)) ?_;refine rQ (index_s (l := hexD) (m := b.toNat % 16) tab_ok rfl rfl rfl hd2) ?_
    refine reg_do rfl (call_h [(0, some 65), (1, some _)] (writebyte_is false ((l.take i).flatMap hexB ++ [hexC (b.toNat / 16)]) (hexC (b.toNat % 16)) (2 * i + 1) hpl2 hp2) rfl rfl rfl (arg_ptr rfl rfl (arg_e arg_nil)) ⟨⟨rfl, rfl, _, _, rfl, rfl, .refl _⟩, ⟨rfl, rfl, _, _, rfl, rfl, .refl _⟩, trivial⟩ rfl rfl (.inl rfl) rfl rfl) rfl rfl ?_
    refine reg_nil ?_;refine blk_n ?_;refine seq_n ?_;refine wc_region ?_;refine rQ iD ?_;refine rC ?_;refine reg_nil ?_
    exact loop_n (i + 1) [(66, some _)] hlt (by omega) (.of rfl rfl rfl rfl rfl ⟨⟨_, rfl, .refl _⟩, rfl, ⟨_, rfl, .refl _⟩, rfl, ⟨_, rfl, .refl _⟩, rfl, trivial⟩ ⟨⟨rfl, rfl, _, rfl, .refl _⟩, ⟨rfl, rfl, _, rfl, RowLe.of_eq (congrArg rowT hgo)⟩, trivial⟩)
  · have he : i = l.length := by have := of_decide_eq_false h3; omega
    subst he
    have hnn : l.flatMap hexB ≠ [] := fun e => by have := hexB_len l; rw [e] at this; simp at this; omega
    have hp4 : 2 * l.length ≤ 1048576 := by omega
    have hbz : Nat.beq l.length 0 = false := by
      cases hz : Nat.beq l.length 0 with
      | false => rfl
      | true => have := Nat.eq_of_beq_eq_true hz; omega
    rw [hbz, List.take_length]
    refine wc_exit ?_;refine seq_x ?_;refine loop_x ?_;refine blk_x ?_;refine seq_n ?_;refine sR ?_;refine reg_new2 (call_h [(0, some 65), (1, some 66)] (bstring_is (l.flatMap hexB) (2 * l.length) (hexB_len l) hnn hp4) rfl rfl rfl (arg_ptr rfl rfl arg_nil) ⟨⟨rfl, rfl, _, _, rfl, rfl, .refl _⟩, ⟨rfl, rfl, _, _, rfl, rfl, .refl _⟩, trivial⟩ rfl rfl (.inl rfl) rfl rfl) rfl ?_
    refine rC ?_;refine nS ?_;refine wc_ret ?_
    rw [show hexP l = l.flatMap hexB from if_neg hne]
    exact ⟨trivial, [], lf⟩
theorem chk_one {o : POp} (hd : o.data.length ≤ 64) : chkP [[o]] = 0 := chkP_ok.2 ⟨by simp, fun p hp => by
  rw [List.mem_singleton.1 hp]
  simp [badP]; try omega⟩
theorem text_one (o : POp) : textP [[o]] = (sClient ++ [10]) ++ (lineP o ++ [10]) := by simp [textP, opsT]
theorem hop_is (o : POp) (hok : o.Ok) (hd : o.data.length ≤ 64) : FnIs Tryz.prog 109 [.d (encPOp o)] [] (.d (strD (lineP o))) [] := by
  have h0 := chk_one hd
  have ht := text_is [[o]] (bd_chk h0) (fun p hp q hq => by rw [List.mem_singleton.1 hp] at hq; rw [List.mem_singleton.1 hq]; exact hok)
  rw [h0, if_pos rfl, text_one] at ht
  have hp := trimp_is (l := (sClient ++ [10]) ++ (lineP o ++ [10])) (p := sClient ++ [10])
  rw [trim_pre] at hp
  have hs := trims_is (l := lineP o ++ [10]) (p := [10]) (by have := line_len hok; simp; omega)
  rw [trim_suf] at hs
  refine fnIs_of tab_ok Tryz.func109 rfl rfl rfl ?_;refine sR ?_;refine rN ?_;refine rC ?_;refine nR ?_;refine rQ iM ?_;refine rQ (StepIs.frozen (build_slice (s := 3) tab_ok rfl rfl rfl rfl rfl rfl rfl rfl) (Frz.lits1 (enc := encPOp) o rfl rfl)) ?_
  refine rQ (StepIs.frozen (build_slice (s := 1) tab_ok rfl rfl rfl rfl rfl rfl rfl rfl) (Frz.lits1 (enc := encP) [o] rfl rfl)) ?_;refine rQ (call_r ht rfl rfl (arg_e arg_nil) (.inl rfl) (fun _ => rfl)) ?_
  iterate 5 refine rC ?_
  refine nR ?_;refine rC ?_;refine rQ (call_r hp rfl rfl (arg_e (arg_e arg_nil)) (.inl rfl) (fun _ => rfl)) ?_;refine rQ (call_r hs rfl rfl (arg_e (arg_e arg_nil)) (.inl rfl) (fun _ => rfl)) ?_
  refine rC ?_;refine nS ?_;refine wc_ret ?_
  exact ⟨trivial, [], lf⟩
def sCrash : List UInt8 := [99, 114, 97, 115, 104]
def sInvoke : List UInt8 := [105, 110, 118, 111, 107, 101]
def sReturn : List UInt8 := [114, 101, 116, 117, 114, 110]
def wordE (e : Int) : List UInt8 := if e = 0 then sOk else if e = 1 then sArg else if e = 8 then sNonce else if e = 9 then sInteg else []
def lineE (x : HEv) : List UInt8 := if x.kind = 3 then sCrash else if x.kind = 1 then (sInvoke ++ [32]) ++ Lib.itoa x.client ++ [32] ++ lineP x.op else if x.value = zBk then (sReturn ++ [32]) ++ Lib.itoa x.client ++ [32] ++ wordE x.err else (sReturn ++ [32]) ++ Lib.itoa x.client ++ [32, 111, 107, 32] ++ hexP x.value
theorem zero_str : ZeroIs Tryz.prog 9 (strD []) := zero_of (by kernel_rfl) rfl
theorem find_word (e : Int) : findC e wordsL 0 = (if e = 0 then some (0, .d (strD sOk)) else if e = 1 then some (1, .d (strD sArg)) else if e = 8 then some (2, .d (strD sNonce)) else if e = 9 then some (3, .d (strD sInteg)) else none) := by
  simp only [wordsL, findC]
theorem hline_is (x : HEv) (hok : x.Ok) (hd : x.op.data.length ≤ 64) : FnIs Tryz.prog 62 [.d (encEv x)] [] (.d (strD (lineE x))) [] := by
  have hil := itoa_len hok.client.1 hok.client.2
  have hll := line_len hok.op
  have hhl := hexP_len x.value
  rw [hok.value] at hhl
  refine fnIs_of tab_ok Tryz.func62 rfl rfl rfl ?_
  unfold lineE
  refine sR ?_;refine rN ?_;refine rC ?_;refine nR ?_;refine rC ?_;refine rQ iB ?_;refine rQ (call_r (itoa_is hok.client.1 hok.client.2) rfl rfl (arg_e arg_nil) (.inl rfl) (fun _ => rfl)) ?_
  refine rC ?_;refine nQ ?_;refine wc_block ?_;refine sR ?_;refine rC ?_;refine rQ iB ?_;iterate 2 refine rC ?_
  refine nS ?_
  by_cases k3 : x.kind = 3
  · have d3 : decide (x.kind = 3) = true := decide_eq_true k3
    rw [if_pos k3]
    refine wT ?_;refine sR ?_;refine rC ?_;refine nS ?_;refine wc_ret ?_;refine blk_r ?_;refine seq_r ?_
    exact ⟨trivial, [], lf⟩
  · have d3 : decide (x.kind = 3) = false := decide_eq_false k3
    rw [if_neg k3]
    refine wF ?_;refine sR ?_;refine rC ?_;refine rQ iB ?_;iterate 2 refine rC ?_
    refine nS ?_
    by_cases k1 : x.kind = 1
    · have d1 : decide (x.kind = 1) = true := decide_eq_true k1
      rw [if_pos k1]
      refine wT ?_;refine sR ?_;refine rC ?_
      refine rQ (add_str (a := sInvoke ++ [32]) (b := Lib.itoa x.client) rfl rfl (by simp [sInvoke]; omega) rfl) ?_
      refine rQ (add_str (a := sInvoke ++ [32] ++ Lib.itoa x.client) (b := [32]) rfl rfl (by simp [sInvoke]; omega) rfl) ?_
      refine rC ?_;refine rQ iB ?_;refine rQ (call_r (hop_is x.op hok.op hd) rfl rfl (arg_e arg_nil) (.inl rfl) (fun _ => rfl)) ?_
      refine rQ (add_str (a := sInvoke ++ [32] ++ Lib.itoa x.client ++ [32]) (b := lineP x.op) rfl rfl (by simp [sInvoke]; omega) rfl) ?_
      refine rC ?_;refine nS ?_;refine wc_ret ?_;refine blk_r ?_;refine seq_r ?_
      exact ⟨trivial, [], lf⟩
    · have d1 : decide (x.kind = 1) = false := decide_eq_false k1
      rw [if_neg k1]
      refine wF ?_;refine sR ?_;refine rC ?_;refine rQ iB ?_;refine rQ (build_array tab_ok rfl rfl rfl) ?_;refine rQ (neq_data rfl rfl rfl rfl (by kernel_rfl) (by decide) (block_eq x.value zBk)) ?_
      refine rC ?_;refine nS ?_
      by_cases hv : x.value = zBk
      · have v0 : (!decide (x.value = zBk)) = false := by rw [decide_eq_true hv]; rfl
        rw [if_pos hv]
        have hf := find_word x.err
        unfold wordE
        refine wF ?_;refine wc_skip ?_;refine blk_n ?_;refine seq_n ?_;refine wc_seq ?_;refine wc_draw (by kernel_rfl) ?_;refine dC [3] [] ?_
        refine dQ [34] [] (add_str (a := sReturn ++ [32]) (b := Lib.itoa x.client) rfl rfl (by simp [sReturn]; omega) rfl) ?_
        refine dQ [35] [] (add_str (a := sReturn ++ [32] ++ Lib.itoa x.client) (b := [32]) rfl rfl (by simp [sReturn]; omega) rfl) ?_
        refine dreg_w [] [] rfl (call_h [] words_is rfl rfl rfl arg_nil trivial rfl rfl (.inl rfl) rfl rfl) ?_;refine dC [1] [] ?_;refine dQ [38] [64] iB ?_
        by_cases h0 : x.err = 0
        · rw [if_pos h0] at hf ⊢
          obtain ⟨W, hW⟩ : ∃ W, W = sOk := ⟨_, rfl⟩
          have hWl : W.length ≤ 20 := by rw [hW]; decide
          rw [← hW] at hf ⊢
          refine dQ [37, 39] [240] (lookup_some (κ := Int) (enc := i6) (l := wordsL) (k := x.err) key_err Tryz.underlying173 rfl rfl rfl hf) ?_
          refine dQ [36, 40] [] (add_str (a := sReturn ++ [32] ++ Lib.itoa x.client ++ [32]) (b := W) rfl rfl (by simp [sReturn]; omega) rfl) ?_
          refine dC [41] [] ?_;refine dreg_end (by kernel_rfl) ?_;refine seq_n ?_;refine wc_ret ?_
          exact ⟨trivial, [], lf⟩
        · rw [if_neg h0] at hf ⊢
          skip
          by_cases h1 : x.err = 1
          · rw [if_pos h1] at hf ⊢
            obtain ⟨W, hW⟩ : ∃ W, W = sArg := ⟨_, rfl⟩
            have hWl : W.length ≤ 20 := by rw [hW]; decide
            rw [← hW] at hf ⊢
            refine dQ [37, 39] [240] (lookup_some (κ := Int) (enc := i6) (l := wordsL) (k := x.err) key_err Tryz.underlying173 rfl rfl rfl hf) ?_
            refine dQ [36, 40] [] (add_str (a := sReturn ++ [32] ++ Lib.itoa x.client ++ [32]) (b := W) rfl rfl (by simp [sReturn]; omega) rfl) ?_
            refine dC [41] [] ?_;refine dreg_end (by kernel_rfl) ?_;refine seq_n ?_;refine wc_ret ?_
            exact ⟨trivial, [], lf⟩
          · rw [if_neg h1] at hf ⊢
            skip
            by_cases h8 : x.err = 8
            · rw [if_pos h8] at hf ⊢
              obtain ⟨W, hW⟩ : ∃ W, W = sNonce := ⟨_, rfl⟩
              have hWl : W.length ≤ 20 := by rw [hW]; decide
              rw [← hW] at hf ⊢
              refine dQ [37, 39] [240] (lookup_some (κ := Int) (enc := i6) (l := wordsL) (k := x.err) key_err Tryz.underlying173 rfl rfl rfl hf) ?_
              refine dQ [36, 40] [] (add_str (a := sReturn ++ [32] ++ Lib.itoa x.client ++ [32]) (b := W) rfl rfl (by simp [sReturn]; omega) rfl) ?_
              refine dC [41] [] ?_;refine dreg_end (by kernel_rfl) ?_;refine seq_n ?_;refine wc_ret ?_
              exact ⟨trivial, [], lf⟩
            · rw [if_neg h8] at hf ⊢
              skip
              by_cases h9 : x.err = 9
              · rw [if_pos h9] at hf ⊢
                obtain ⟨W, hW⟩ : ∃ W, W = sInteg := ⟨_, rfl⟩
                have hWl : W.length ≤ 20 := by rw [hW]; decide
                rw [← hW] at hf ⊢
                refine dQ [37, 39] [240] (lookup_some (κ := Int) (enc := i6) (l := wordsL) (k := x.err) key_err Tryz.underlying173 rfl rfl rfl hf) ?_
                refine dQ [36, 40] [] (add_str (a := sReturn ++ [32] ++ Lib.itoa x.client ++ [32]) (b := W) rfl rfl (by simp [sReturn]; omega) rfl) ?_
                refine dC [41] [] ?_;refine dreg_end (by kernel_rfl) ?_;refine seq_n ?_;refine wc_ret ?_
                exact ⟨trivial, [], lf⟩
              · rw [if_neg h9] at hf ⊢
                refine dQ [37, 39] [240] (lookup_none (κ := Int) (enc := i6) (l := wordsL) (k := x.err) key_err Tryz.underlying173 zero_str rfl rfl rfl hf) ?_
                refine dQ [36, 40] [] (add_str (a := sReturn ++ [32] ++ Lib.itoa x.client ++ [32]) (b := []) rfl rfl (by simp [sReturn]; omega) rfl) ?_
                refine dC [41] [] ?_;refine dreg_end (by kernel_rfl) ?_;refine seq_n ?_;refine wc_ret ?_
                exact ⟨trivial, [], lf⟩
      · have v0 : (!decide (x.value = zBk)) = true := by rw [decide_eq_false hv]; rfl
        rw [if_neg hv]
        refine wT ?_;refine sR ?_;refine rC ?_
        refine rQ (add_str (a := sReturn ++ [32]) (b := Lib.itoa x.client) rfl rfl (by simp [sReturn]; omega) rfl) ?_
        refine rQ (add_str (a := sReturn ++ [32] ++ Lib.itoa x.client) (b := [32, 111, 107, 32]) rfl rfl (by simp [sReturn]; omega) rfl) ?_
        refine rC ?_;refine rQ iB ?_;refine rQ (call_r (hhex_is x.value hok.value) rfl rfl (arg_e arg_nil) (.inl rfl) (fun _ => rfl)) ?_
        refine rQ (add_str (a := sReturn ++ [32] ++ Lib.itoa x.client ++ [32, 111, 107, 32]) (b := hexP x.value) rfl rfl (by simp [sReturn]; omega) rfl) ?_
        refine rC ?_;refine nS ?_;refine wc_ret ?_;refine blk_r ?_;refine seq_r ?_
        exact ⟨trivial, [], lf⟩
end Go.Proofs.YtmojbghcngdkpaaGreatDoor

namespace Go.Proofs.YtmojbghcngdkpaaGreatDoor
open Go.Eng Go.Plain
def WfE (x : HEv) : Prop := -9223372036854775808 ≤ x.client ∧ x.client ≤ 9223372036854775807 ∧
  (x.kind = 3 ∧ x.client = 0 ∧ x.op = zOp ∧ x.value = zBk ∧ x.err = 0 ∨
   x.kind = 1 ∧ x.value = zBk ∧ x.err = 0 ∧ x.op.Ok ∧ x.op.data.length ≤ 64 ∨
   x.kind = 2 ∧ x.op = zOp ∧ kn4 x.err = true ∧ x.value.length = 32 ∧ (x.value ≠ zBk → x.err = 0))
def crashE : HEv := ⟨3, 0, zOp, zBk, 0⟩
theorem crashE_wf : WfE crashE := ⟨by decide, by decide, .inl ⟨rfl, rfl, rfl, rfl, rfl⟩⟩
theorem atoi_range {l : List UInt8} (h : atoiOk l = true) : -9223372036854775808 ≤ atoiV l ∧ atoiV l ≤ 9223372036854775807 := by
  unfold atoiOk at h
  unfold atoiV
  cases e : Lib.atoiAll l with
  | ok n => simp only; exact Lib.atoiAll_bounds e
  | _ => rw [e] at h; cases h
def keyOf (w : List UInt8) : Option Int := if w = sOk then some 0 else if w = sArg then some 1 else if w = sNonce then some 8 else if w = sInteg then some 9 else none
def blockP (s : List UInt8) : Option (List UInt8) := if s.length = 64 then pairsO s else none
def finE (s : List UInt8) (b : Bool) (x : HEv) : Option HEv := if b = true ∧ lineE x = s then some x else none
def evP (s : List UInt8) : Option HEv :=
  if s = sCrash then some crashE
  else if (cutA s 32).1 = sInvoke then
    match parseP (sClient ++ 10 :: ((cutA (cutA s 32).2.1 32).2.1 ++ [10])) [] 1 with
    | ([[o]], _, e) => if e = 0 then finE s (atoiOk (cutA (cutA s 32).2.1 32).1) ⟨1, atoiV (cutA (cutA s 32).2.1 32).1, o, zBk, 0⟩ else none
    | _ => none
  else if (cutA s 32).1 = sReturn then
    match keyOf (cutA (cutA (cutA s 32).2.1 32).2.1 32).1 with
    | none => none
    | some k => if (cutA (cutA (cutA s 32).2.1 32).2.1 32).2.2 = true then
        match blockP (cutA (cutA (cutA s 32).2.1 32).2.1 32).2.1 with
        | none => none
        | some v => finE s (atoiOk (cutA (cutA s 32).2.1 32).1) ⟨2, atoiV (cutA (cutA s 32).2.1 32).1, zOp, v, k⟩
      else finE s (atoiOk (cutA (cutA s 32).2.1 32).1) ⟨2, atoiV (cutA (cutA s 32).2.1 32).1, zOp, zBk, k⟩
  else none
theorem cutA_is {c : UInt8} {p : List UInt8} (q : List UInt8) (h : c ∉ p) : cutA (p ++ c :: q) c = (p, q, true) := by
  unfold cutA; rw [cutL_is q h]
theorem cutA_no {c : UInt8} {p : List UInt8} (h : c ∉ p) : cutA p c = (p, [], false) := by
  unfold cutA
  cases e : cutL p c with
  | none => rfl
  | some pq =>
    obtain ⟨p', q⟩ := pq
    have := (cutL_some e).1
    exact absurd (by rw [this]; simp) h
theorem itoa_no32 (n : Int) : (32 : UInt8) ∉ Lib.itoa n := fun h => (itoa_mem h).2 rfl
theorem keyOf_some {w : List UInt8} {k : Int} (h : keyOf w = some k) : kn4 k = true ∧ w = wordE k := by
  unfold keyOf at h
  by_cases h0 : w = sOk
  · rw [if_pos h0] at h; cases h; exact ⟨rfl, h0⟩
  · rw [if_neg h0] at h
    by_cases h1 : w = sArg
    · rw [if_pos h1] at h; cases h; exact ⟨rfl, h1⟩
    · rw [if_neg h1] at h
      by_cases h2 : w = sNonce
      · rw [if_pos h2] at h; cases h; exact ⟨rfl, h2⟩
      · rw [if_neg h2] at h
        by_cases h3 : w = sInteg
        · rw [if_pos h3] at h; cases h; exact ⟨rfl, h3⟩
        · rw [if_neg h3] at h; cases h
theorem kn4_out {e : Int} (h : kn4 e = true) : e = 0 ∨ e = 1 ∨ e = 8 ∨ e = 9 := by
  simp only [kn4, Bool.or_eq_true, decide_eq_true_eq] at h
  omega
theorem keyOf_word {e : Int} (h : kn4 e = true) : keyOf (wordE e) = some e := by
  rcases kn4_out h with rfl | rfl | rfl | rfl <;> decide
theorem word_no32 {e : Int} (h : kn4 e = true) : (32 : UInt8) ∉ wordE e := by
  rcases kn4_out h with rfl | rfl | rfl | rfl <;> decide
theorem hexP32 {v : List UInt8} (h : v.length = 32) : hexP v = v.flatMap hexB ∧ (hexP v).length = 64 := by
  have hne : v ≠ [] := fun e => by rw [e] at h; cases h
  have e : hexP v = v.flatMap hexB := by rw [hexP, if_neg hne]
  exact ⟨e, by rw [e, hexB_len, h]⟩
theorem block_hex {v : List UInt8} (h : v.length = 32) : blockP (hexP v) = some v := by
  obtain ⟨e, hl⟩ := hexP32 h
  rw [blockP, if_pos hl, e, pairs_hex]
theorem block_len {s v : List UInt8} (h : blockP s = some v) : v.length = 32 := by
  unfold blockP at h
  split at h
  · have := pairs_len s v h; omega
  · cases h
theorem line_inv (x : HEv) (h : x.kind = 1) : lineE x = sInvoke ++ 32 :: (Lib.itoa x.client ++ 32 :: lineP x.op) := by
  rw [lineE, if_neg (by omega), if_pos h]; simp
theorem line_ret0 (x : HEv) (h : x.kind = 2) (hv : x.value = zBk) : lineE x = sReturn ++ 32 :: (Lib.itoa x.client ++ 32 :: wordE x.err) := by
  rw [lineE, if_neg (by omega), if_neg (by omega), if_pos hv]; simp
theorem line_ret1 (x : HEv) (h : x.kind = 2) (hv : x.value ≠ zBk) : lineE x = sReturn ++ 32 :: (Lib.itoa x.client ++ 32 :: (sOk ++ 32 :: hexP x.value)) := by
  rw [lineE, if_neg (by omega), if_neg (by omega), if_neg hv]; simp [sOk]
theorem parse_line1 {o : POp} (ho : o.Ok) (hd : o.data.length ≤ 64) : parseP (sClient ++ 10 :: (lineP o ++ [10])) [] 1 = ([[o]], 0, 0) := by
  have := parse_back (l := [[o]]) (fun p hp q hq => by simp at hp; subst hp; simp at hq; subst hq; exact ho) (chk_one hd)
  rwa [text_one, show sClient ++ [10] ++ (lineP o ++ [10]) = sClient ++ 10 :: (lineP o ++ [10]) by simp] at this
theorem parse_line2 {o : POp} {t : List UInt8} {j : Nat} (h : parseP (sClient ++ 10 :: (t ++ [10])) [] 1 = ([[o]], j, 0)) : o.Ok ∧ o.data.length ≤ 64 ∧ lineP o = t := by
  obtain ⟨_, h2, h3, h4⟩ := parse_out _ _ [] [[o]] 1 j (Nat.le_refl _) (by decide) (fun p hp => by cases hp) h
  have ho : o.Ok := h4 [o] (by simp) o (by simp)
  refine ⟨ho, ?_, ?_⟩
  · have := (chkP_ok.1 h3).2 [o] (by simp)
    simpa [badP] using this
  · rw [text_one] at h2
    simpa [textP] using h2
theorem fin_some {s : List UInt8} {b : Bool} {x y : HEv} (h : finE s b x = some y) : b = true ∧ lineE x = s ∧ x = y := by
  unfold finE at h
  split at h
  · rename_i hc
    cases h
    exact ⟨hc.1, hc.2, rfl⟩
  · cases h
theorem evP_some {s : List UInt8} {x : HEv} (h : evP s = some x) : WfE x ∧ lineE x = s := by
  unfold evP at h
  by_cases hc : s = sCrash
  · rw [if_pos hc] at h; cases h
    exact ⟨crashE_wf, hc.symm⟩
  rw [if_neg hc] at h
  by_cases hi : (cutA s 32).1 = sInvoke
  · rw [if_pos hi] at h
    split at h
    · rename_i o j e hp
      split at h
      · rename_i he
        subst he
        obtain ⟨h1, h2, h3⟩ := parse_line2 hp
        obtain ⟨g1, g2, rfl⟩ := fin_some h
        obtain ⟨r1, r2⟩ := atoi_range g1
        exact ⟨⟨r1, r2, .inr (.inl ⟨rfl, rfl, rfl, h1, h2⟩)⟩, g2⟩
      · cases h
    · cases h
  rw [if_neg hi] at h
  by_cases hr : (cutA s 32).1 = sReturn
  · rw [if_pos hr] at h
    split at h
    · cases h
    · rename_i k hk
      obtain ⟨hk1, hk2⟩ := keyOf_some hk
      split at h
      · rename_i hm
        split at h
        · cases h
        · rename_i v hv
          obtain ⟨g1, g2, rfl⟩ := fin_some h
          obtain ⟨r1, r2⟩ := atoi_range g1
          refine ⟨⟨r1, r2, .inr (.inr ⟨rfl, rfl, hk1, block_len hv, fun hz => ?_⟩)⟩, g2⟩
          rw [line_ret1 _ rfl hz] at g2
          rw [← g2, cutA_is _ (by decide)] at hk2
          simp only at hk2
          rw [cutA_is _ (itoa_no32 _)] at hk2
          simp only at hk2
          rw [cutA_is _ (by decide)] at hk2
          simp only at hk2
          rcases kn4_out hk1 with rfl | rfl | rfl | rfl
          · rfl
          · exact absurd hk2 (by decide)
          · exact absurd hk2 (by decide)
          · exact absurd hk2 (by decide)
      · obtain ⟨g1, g2, rfl⟩ := fin_some h
        obtain ⟨r1, r2⟩ := atoi_range g1
        exact ⟨⟨r1, r2, .inr (.inr ⟨rfl, rfl, hk1, rfl, fun hz => absurd rfl hz⟩)⟩, g2⟩
  · rw [if_neg hr] at h; cases h
theorem atoi_back {n : Int} (h0 : -9223372036854775808 ≤ n) (h1 : n ≤ 9223372036854775807) : atoiOk (Lib.itoa n) = true ∧ atoiV (Lib.itoa n) = n := by
  unfold atoiOk atoiV; rw [atoi_itoa h0 h1]; exact ⟨rfl, rfl⟩
theorem evP_line {x : HEv} (h : WfE x) : evP (lineE x) = some x := by
  obtain ⟨kind, client, op, value, err⟩ := x
  obtain ⟨r1, r2, h⟩ := h
  obtain ⟨a1, a2⟩ := atoi_back r1 r2
  simp only at r1 r2 a1 a2
  rcases h with ⟨rfl, rfl, rfl, rfl, rfl⟩ | ⟨rfl, rfl, rfl, h4, h5⟩ | ⟨rfl, rfl, h3, h4, h5⟩
  · rfl
  · have hl := line_inv ⟨1, client, op, zBk, 0⟩ rfl
    have hf : finE (lineE ⟨1, client, op, zBk, 0⟩) true ⟨1, client, op, zBk, 0⟩ = some ⟨1, client, op, zBk, 0⟩ := if_pos ⟨rfl, rfl⟩
    have c1 : cutA (lineE ⟨1, client, op, zBk, 0⟩) 32 = (sInvoke, Lib.itoa client ++ 32 :: lineP op, true) := by rw [hl]; exact cutA_is _ (by decide)
    have hne : lineE ⟨1, client, op, zBk, 0⟩ ≠ sCrash := fun e => by rw [hl] at e; simp [sInvoke, sCrash] at e
    unfold evP
    rw [if_neg hne, c1]
    simp only
    rw [if_pos trivial, cutA_is _ (itoa_no32 _)]
    simp only
    rw [parse_line1 h4 h5, a1, a2]
    exact hf
  · by_cases hz : value = zBk
    · subst hz
      have hl := line_ret0 ⟨2, client, zOp, zBk, err⟩ rfl rfl
      have hf : finE (lineE ⟨2, client, zOp, zBk, err⟩) true ⟨2, client, zOp, zBk, err⟩ = some ⟨2, client, zOp, zBk, err⟩ := if_pos ⟨rfl, rfl⟩
      have c1 : cutA (lineE ⟨2, client, zOp, zBk, err⟩) 32 = (sReturn, Lib.itoa client ++ 32 :: wordE err, true) := by rw [hl]; exact cutA_is _ (by decide)
      have hne : lineE ⟨2, client, zOp, zBk, err⟩ ≠ sCrash := fun e => by rw [hl] at e; simp [sReturn, sCrash] at e
      unfold evP
      rw [if_neg hne, c1]
      simp only
      rw [if_neg (by decide), if_pos trivial, cutA_is _ (itoa_no32 _)]
      simp only
      rw [cutA_no (word_no32 h3)]
      simp only
      rw [keyOf_word h3, a1, a2]
      exact hf
    · have he : err = 0 := h5 hz
      subst he
      have hl := line_ret1 ⟨2, client, zOp, value, 0⟩ rfl hz
      have hf : finE (lineE ⟨2, client, zOp, value, 0⟩) true ⟨2, client, zOp, value, 0⟩ = some ⟨2, client, zOp, value, 0⟩ := if_pos ⟨rfl, rfl⟩
      have c1 : cutA (lineE ⟨2, client, zOp, value, 0⟩) 32 = (sReturn, Lib.itoa client ++ 32 :: (sOk ++ 32 :: hexP value), true) := by rw [hl]; exact cutA_is _ (by decide)
      have hne : lineE ⟨2, client, zOp, value, 0⟩ ≠ sCrash := fun e => by rw [hl] at e; simp [sReturn, sCrash] at e
      unfold evP
      rw [if_neg hne, c1]
      simp only
      rw [if_neg (by decide), if_pos trivial, cutA_is _ (itoa_no32 _)]
      simp only
      rw [cutA_is _ (by decide)]
      simp only
      rw [show keyOf sOk = some 0 by decide]
      simp only
      rw [if_pos trivial, block_hex h4]
      simp only
      rw [a1, a2]
      exact hf
def rword (e : Int) : List UInt8 := if e = 1 then sArg else if e = 8 then sNonce else if e = 9 then sInteg else sOk
def rlineE (x : HEv) : List UInt8 := if x.kind = 3 then sCrash else if x.kind = 1 then (sInvoke ++ [32]) ++ Lib.itoa x.client ++ [32] ++ lineP x.op else
  (sReturn ++ [32]) ++ Lib.itoa x.client ++ [32] ++ rword x.err ++ (if x.value = zBk then [] else [32] ++ hexP x.value)
theorem rword_kn {e : Int} (h : kn4 e = true) : rword e = wordE e := by
  rcases kn4_out h with rfl | rfl | rfl | rfl <;> decide
theorem rline_wf {x : HEv} (h : WfE x) : rlineE x = lineE x := by
  obtain ⟨_, _, h⟩ := h
  rcases h with ⟨h1, _⟩ | ⟨h1, _⟩ | ⟨h1, _, h3, h4, h5⟩
  · rw [rlineE, lineE, if_pos h1, if_pos h1]
  · rw [rlineE, lineE, if_neg (by omega), if_pos h1, if_neg (by omega), if_pos h1]
  · have k3 : ¬ x.kind = 3 := by omega
    have k1 : ¬ x.kind = 1 := by omega
    simp only [rlineE, lineE, if_neg k3, if_neg k1, rword_kn h3]
    by_cases hz : x.value = zBk
    · simp only [if_pos hz, List.append_nil]
    · simp only [if_neg hz, h5 hz]; simp [wordE, sOk]
def finR24 (s : List UInt8) (x : HEv) : Option HEv := if rlineE x = s then some x else none
def keyR (c : List UInt8) : Int := if c = sArg then 1 else if c = sNonce then 8 else if c = sInteg then 9 else 0
def valR (e : Int) (w : List (List UInt8)) : Option (List UInt8) := match w with
  | [d] => match unhexP d with
    | some v => if v.length = 32 ∧ e = 0 then some v else none
    | none => none
  | _ => some zBk
def evR (s : List UInt8) : Option HEv := match cutL s 32 with
  | none => finR24 s crashE
  | some (a, r1) => match cutL r1 32 with
    | none => finR24 s crashE
    | some (b, rest) =>
      if a = sInvoke then
        match readP rest, intR b with
        | some o, some n => if o.data.length ≤ 64 then finR24 s ⟨1, n, o, zBk, 0⟩ else none
        | _, _ => none
      else if a = sReturn then
        match splitL rest 32 with
        | [] => none
        | c :: w => match valR (keyR c) w, intR b with
          | some v, some n => finR24 s ⟨2, n, zOp, v, keyR c⟩
          | _, _ => none
      else finR24 s crashE
def hparse (s : List UInt8) (rd : RdS) (h : List HEv) (n : Nat) : List HEv × Nat × Int :=
  if s = [] then (h, 0, 0) else
  match _h : cutL s 10 with
  | none => ([], n, 5)
  | some (t, r) => match evP t with
    | none => ([], n, 5)
    | some x => if 8192 < n then ([], n, 3) else if (takeS rd x).2 = true then hparse r (takeS rd x).1 (h ++ [x]) (n + 1) else ([], n, 18)
termination_by s.length
decreasing_by
  have := (cutL_some _h).1
  rw [this]
  simp
  omega
theorem hparse_nil (rd : RdS) (h : List HEv) (n : Nat) : hparse [] rd h n = (h, 0, 0) := by rw [hparse, if_pos rfl]
theorem hparse_none {s : List UInt8} (rd : RdS) (l : List HEv) (n : Nat) (hs : s ≠ []) (h : cutL s 10 = none) : hparse s rd l n = ([], n, 5) := by
  rw [hparse, if_neg hs]
  split
  · rfl
  · rename_i t r h2; rw [h] at h2; cases h2
theorem hparse_some {s t r : List UInt8} (rd : RdS) (l : List HEv) (n : Nat) (hs : s ≠ []) (h : cutL s 10 = some (t, r)) : hparse s rd l n = match evP t with
    | none => ([], n, 5)
    | some x => if 8192 < n then ([], n, 3) else if (takeS rd x).2 = true then hparse r (takeS rd x).1 (l ++ [x]) (n + 1) else ([], n, 18) := by
  rw [hparse, if_neg hs]
  split
  · rename_i h2; rw [h] at h2; cases h2
  · rename_i t' r' h2; rw [h] at h2; cases h2; rfl
def hparseR : List (List UInt8) → Nat → List HEv → List HEv × Nat × Int
  | [], _, h => (h, 0, 0)
  | [w], i, h => if w = [] then (h, 0, 0) else ([], i + 1, 5)
  | w :: w2 :: ws, i, h => match evR w with
    | none => ([], i + 1, 5)
    | some x => if 8192 ≤ i then ([], i + 1, 3) else if fitB h x = true then hparseR (w2 :: ws) (i + 1) (h ++ [x]) else ([], i + 1, 18)
theorem goS_take {rd : RdS} {x : HEv} {l : List HEv} {i : Nat} : goS rd (x :: l) i = if (takeS rd x).2 then goS (takeS rd x).1 l (i + 1) else ((takeS rd x).1, (i : Int)) := by
  have := goS_step (s := rd) (h := List.replicate i x ++ x :: l) (i := i) (x := x) (by simp)
  rw [List.drop_left' (by simp)] at this
  rw [this, show List.replicate i x ++ x :: l = (List.replicate i x ++ [x]) ++ l by simp, List.drop_left' (by simp)]
theorem line_no10 {x : HEv} (h : WfE x) : (10 : UInt8) ∉ lineE x := by
  obtain ⟨_, _, h⟩ := h
  have hi : ∀ n : Int, (10 : UInt8) ∉ Lib.itoa n := fun n hm => (itoa_mem hm).1 rfl
  rcases h with ⟨h1, _⟩ | ⟨h1, _⟩ | ⟨h1, _, h3, h4, h5⟩
  · rw [lineE, if_pos h1]; decide
  · rw [line_inv x h1]
    have := fun hm => (line_mem x.op 10 hm) rfl
    simp only [List.mem_append, List.mem_cons, not_or]
    exact ⟨by decide, by decide, hi _, by decide, this⟩
  · have hw : (10 : UInt8) ∉ wordE x.err := by rcases kn4_out h3 with e | e | e | e <;> (rw [e]; decide)
    by_cases hz : x.value = zBk
    · rw [line_ret0 x h1 hz]
      simp only [List.mem_append, List.mem_cons, not_or]
      exact ⟨by decide, by decide, hi _, by decide, hw⟩
    · rw [line_ret1 x h1 hz]
      simp only [List.mem_append, List.mem_cons, not_or]
      exact ⟨by decide, by decide, hi _, by decide, by decide, by decide, fun hm => (hexP_mem hm).1 rfl⟩
theorem hparse_back : ∀ (q : List HEv) (rd : RdS) (h : List HEv) (n i : Nat), (∀ x ∈ q, WfE x) → n + q.length ≤ 8193 → (goS rd q i).2 < 0 → hparse (q.flatMap fun x => lineE x ++ [10]) rd h n = (h ++ q, 0, 0)
  | [], rd, h, n, i, _, _, _ => by rw [List.flatMap_nil, hparse_nil]; simp
  | x :: q, rd, h, n, i, hw, hn, hg => by
    have hx := hw x (by simp)
    rw [goS_take] at hg
    cases hb : (takeS rd x).2 with
    | false => rw [hb] at hg; simp at hg; omega
    | true =>
      rw [hb, if_pos rfl] at hg
      have hcut : cutL ((x :: q).flatMap fun x => lineE x ++ [10]) 10 = some (lineE x, q.flatMap fun x => lineE x ++ [10]) := by
        rw [List.flatMap_cons, List.append_assoc]
        exact cutL_is _ (line_no10 hx)
      rw [hparse_some _ _ _ (by simp) hcut, evP_line hx]
      simp only
      rw [if_neg (by simp at hn; omega), hb, if_pos rfl, hparse_back q _ _ (n + 1) (i + 1) (fun y hy => hw y (by simp [hy])) (by simp at hn ⊢; omega) hg]
      simp
end Go.Proofs.YtmojbghcngdkpaaGreatDoor

namespace Go.Eng
open Go.RowKit
open Go.ChangeMaps (setBlock)
section
variable {P : Program} {T : Tab} {env : Env} {h : Upds} {n : Nat}
theorem range_map {t kt et : Nat} {x : Operand} {rm : Nat} {κ : Type} {enc : κ → D} {l : List (κ × AV)} (ht : P.underlying t = some (.map kt et)) (hx : evalA env x = some (.mapr rm)) (hr : lookH h rm = some (.mo (mapC enc l))) :
    StepIs P (.range t x) env h n (some (.ptr n [])) [(n, some (.mi (.mapr rm) l.length l.length []))] := .of_comes fun C G st σ w a o ho hA hd hst hn => by
  obtain ⟨b, c, hs, hu⟩ := RelV.mapr.1 (ev_sound hst (hA.ev hx)).1
  have hgm : G rm := (ev_sound hst (hA.ev hx)).2
  have hrow := hA.row _ _ hr
  obtain ⟨b', es, hb1, hb2, hb3, hb4⟩ := hst.rows rm _ hrow
  rw [hs] at hb2
  cases hb2
  have hl : es.size = l.length := by
    have := ((mapC_rel l _).1 hb4).len
    simpa using this
  have hnn : ¬ G n := hn n (Nat.le_refl _) (by omega)
  have hne : rm ≠ n := fun e => hnn (e ▸ hgm)
  have hnew := StRel.freshBy hst hnn (w' := w.alloc (.mapIter (some b) es.size #[] es.size)) (by
      refine ⟨rfl, rfl, rfl, by simp, fun k hk _ => ?_⟩
      exact heap_alloc_old w _ hk) (Nat.le_refl _) (b := w.heap.size) (c := 1) (.mi (.mapr rm) l.length l.length []) hgm (fun σ' X' h1 _ hs' => ⟨w.heap.size, b, hs', by rw [← hl]; exact heap_alloc_new w _, h1 (.mapr rm) false _ hgm ⟨b, 1, hs, rfl⟩⟩)
  refine ⟨some (.ptr n []), [(n, some (.mi (.mapr rm) l.length l.length []))], .value (.pointer (some ⟨w.heap.size, 0, none⟩)), .pointer (some ⟨w.heap.size, 0, none⟩), w.alloc (.mapIter (some b) es.size #[] es.size), fun q => if q = n then some (w.heap.size, 1) else σ q, fun q => G q ∨ q = n, ⟨rfl, rfl⟩, ?_, .inl rfl, ?_, fun r hr => .inl hr, fun r hr => hr.imp id (fun e => by omega)⟩
  · have hget : (getObj b).run P w = .ok (.map es es.size) w := by simp [getObj, Sem.run, hb3]
    simp [execOp, ho, Instr.range, run_underlying ht, hu, newObj, Sem.run, hget]
  · rw [St.put_upd]
    exact hnew.set hd (RelV.ptr.2 ⟨w.heap.size, 1, by simp, by simp [pathOff]⟩) (.inr rfl)
theorem EntRel.at {κ : Type} {enc : κ → D} {σ : Place} {w : World} {X : Nat → Prop} : ∀ (l : List (κ × AV)) (es : List MapEntry), EntRel σ w X enc l es → ∀ (i : Nat) (e : MapEntry), es[i]? = some e →
    ∃ k v, l[i]? = some (k, v) ∧ RelV σ w X (.d (enc k)) e.key ∧ RelV σ w X v e.val
  | [], es, h, i, e, he => by rw [show es = [] from h] at he; simp at he
  | (k, v) :: l, es, h, i, e, he => by
    obtain ⟨e0, es', rfl, h1, h2, h3⟩ := h
    cases i with
    | zero =>
      simp only [List.getElem?_cons_zero, Option.some.injEq] at he
      subst he
      exact ⟨k, v, rfl, h1, h2⟩
    | succ i => exact EntRel.at l es' h3 i e (by simpa using he)
theorem entry_map {x : Operand} {r rm L i : Nat} {seen : List Nat} {κ : Type} {enc : κ → D} {l : List (κ × AV)} {k : κ} {v : AV} (hx : evalA env x = some (.ptr r [])) (hr : lookH h r = some (.mi (.mapr rm) L L (seen ++ [i]))) (hm : lookH h rm = some (.mo (mapC enc l))) (hL : L = l.length) (hi : l[i]? = some (k, v)) :
    StepIs P (.entry x) env h n (some (.tup (.acons (.d (enc k)) (.acons v .anil)))) [] := .of_comes fun C G st σ w a o ho hA hd hst hn => by
  subst hL
  have hrow := hA.row _ _ hr
  have hrowm := hA.row _ _ hm
  obtain ⟨b, m, hb1, hb2, hb3⟩ := hst.rows r _ hrow
  obtain ⟨bm, es, hm0, hm1, hm2, hm3⟩ := hst.rows rm _ hrowm
  obtain ⟨bm', c', e1, e2⟩ := hb3
  rw [hm1] at e1
  cases e1
  simp only [List.cons.injEq, Value.map.injEq, Option.some.injEq, and_true] at e2
  subst e2
  obtain ⟨b', c', hs', hu⟩ := RelV.ptr.1 (ev_sound hst (hA.ev hx)).1
  rw [hb1] at hs'
  cases hs'
  have hent := (mapC_rel l _).1 hm3
  have hlen : es.size = l.length := by simpa using hent.len
  have hlt : i < es.size := by rw [hlen]; exact (List.getElem?_eq_some_iff.1 hi).1
  have hei : es[i]? = some es[i] := Array.getElem?_eq_getElem hlt
  have hbi := hm0 i _ hei
  obtain ⟨k', v', q1, q2, q3⟩ := EntRel.at l _ hent i es[i] (by simp)
  rw [hi] at q1
  cases q1
  have hnd : (es.toList.map (·.born)).Nodup := by
    rw [show es.toList.map (·.born) = List.range es.size by
      apply List.ext_getElem?
      intro j
      rw [List.getElem?_map]
      by_cases hj : j < es.size
      · rw [List.getElem?_eq_getElem (by simpa using hj), List.getElem?_range hj]
        have := hm0 j _ (Array.getElem?_eq_getElem hj)
        simp [this]
      · rw [List.getElem?_eq_none (by simpa using hj), List.getElem?_eq_none (by simpa using hj)]; rfl]
    exact List.nodup_range
  refine .quiet (u := .tuple #[es[i].key, es[i].val]) hst hd ⟨rfl, rfl⟩ ?_ ?_ ?_
  · have hrun := run_entry_at (P := P) w b m l.length seen.toArray es es.size es[i] (by rw [hb2, hbi, hlen, List.push_toArray]) hm2 (by simp) hnd
    simp only [execOp, ho, hu, pathOff, Sem.run_bind, hrun, Result.andThen_ok, Sem.run_pure]
  · unfold RelV
    rw [if_neg (by simp [AV.isAgg])]
    exact ⟨_, rfl, _, _, rfl, q2, _, _, rfl, q3, rfl⟩
  · exact ⟨trivial, (mapC_within l).1 (hst.rowsG rm _ hrowm).2 (k, v) (List.mem_of_getElem? hi), trivial⟩
variable {sz : Nat} {all rest : List Oper} {K : Env → Upds → Nat → Prop}
theorem reg_next_map {d : Tmp} {x : Operand} {ty : TypeId} {pos : String} {af : Array Edge} {r rm L : Nat} {seen : List Nat} {κ : Type} {enc : κ → D} {l : List (κ × AV)} (hd : Nat.blt d sz = true) (hx : evalA env x = some (.ptr r []))
    (hr : lookH h r = some (.mi (.mapr rm) L L seen)) (hm : lookH h rm = some (.mo (mapC enc l))) (hL : L = l.length)
    (hend : (∀ i, i < l.length → i ∈ seen) → RegS P all sz rest (n + 8) ((d, .tup (.acons (.bool false) .anil)) :: env) h K)
    (hgo : ∀ i k v, l[i]? = some (k, v) → i ∉ seen → RegS P all sz rest (n + 8) ((d, .tup (.acons (.bool true) (.acons (.d (enc k)) (.acons v .anil)))) :: env) ((r, some (.mi (.mapr rm) L L (seen ++ [i]))) :: h) K) :
    RegS P all sz (⟨some d, .next x false, ty, pos, af, none⟩ :: rest) n env h K := by
  subst hL
  intro C σ w a hst Q hQ
  have hrow : (⟨env, h, n, sz, 64⟩ : St).row r = some (.mi (.mapr rm) l.length l.length seen) := by rw [← lookH_row]; exact hr
  have hrowm : (⟨env, h, n, sz, 64⟩ : St).row rm = some (.mo (mapC enc l)) := by rw [← lookH_row]; exact hm
  obtain ⟨b, m, hb1, hb2, hb3⟩ := hst.rows r _ hrow
  obtain ⟨bm, es, hm0, hm1, hm2, hm3⟩ := hst.rows rm _ hrowm
  obtain ⟨bm', c', e1, e2⟩ := hb3
  rw [hm1] at e1
  cases e1
  simp only [List.cons.injEq, Value.map.injEq, Option.some.injEq, and_true] at e2
  subst e2
  obtain ⟨b', c', hs', hu⟩ := RelV.ptr.1 (ev_sound hst hx).1
  rw [hb1] at hs'
  cases hs'
  have hlen : es.size = l.length := by simpa using ((mapC_rel l _).1 hm3).len
  have hborn : ∀ e ∈ es.toList, e.born < l.length := by
    intro e he
    obtain ⟨i, hi⟩ := List.getElem?_of_mem he
    have hi' : es[i]? = some e := by simpa using hi
    rw [hm0 i e hi']
    have := (Array.getElem?_eq_some_iff.1 hi').1
    omega
  have hdst : dstOk (some d) sz = true := hd
  unfold wpListIn
  rw [if_pos (show Region.wanted _ _ = true from rfl)]
  refine ⟨fun _ _ => trivial, ?_⟩
  rcases run_next_at (P := P) w ty b m l.length l.length seen.toArray es es.size hb2 hm2 hborn (Nat.le_refl _) with ⟨h0, hrun⟩ | ⟨e, he, w1, hw1, hrun⟩
  · have hex : (execOp a.eval ⟨some d, .next x false, ty, pos, af, none⟩).run P w = .ok (.value (.tuple #[.bool false])) w := by
      simp only [execOp, hu, pathOff, Sem.run_bind, hrun, Result.andThen_ok, Sem.run_pure]
    rw [semAt_fen hex (fun c hc => by cases hc)]
    have hst2 := hst.set (v := some (.tup (.acons (.bool false) .anil))) (u := .tuple #[.bool false]) (dst := some d) (dstOk_out hdst) (by
      unfold RelV
      rw [if_neg (by simp [AV.isAgg])]
      exact ⟨_, rfl, _, _, rfl, RelV.sc.2 ⟨rfl, rfl⟩, rfl⟩) ⟨trivial, trivial⟩
    rw [put_eq] at hst2
    refine hend ?_ C σ w _ ?_ Q hQ
    · intro i hi
      have hlt : i < es.size := by omega
      have h1 : es[i].born = i := hm0 i _ (Array.getElem?_eq_getElem hlt)
      by_cases hc : i ∈ seen
      · exact hc
      · exfalso
        have : es[i] ∈ leftOf es seen.toArray := by
          unfold leftOf
          rw [Array.mem_filter]
          refine ⟨by simp, ?_⟩
          rw [h1]
          simpa using hc
        have := Array.size_pos_of_mem this
        omega
    · have := hst2.grow (G' := fun r => r < n + 8) (fun r hr => Nat.lt_of_lt_of_le hr (Nat.le_add_right n 8))
      exact { this with }
  · have hheap : w1.heap = w.heap := by rcases hw1 with rfl | rfl <;> rfl
    have hst1 : StRel C (fun r => r < n) ⟨env, h, n, sz, 64⟩ σ w1 a := by
      rcases hw1 with rfl | rfl
      · exact hst
      · exact hst.drew
    obtain ⟨bm2, es2, _, k1, k2, k3⟩ := hst1.rows rm _ hrowm
    rw [hm1] at k1
    cases k1
    rw [hheap, hm2] at k2
    cases k2
    have hmem : e ∈ es.toList ∧ e.born ∉ seen := by
      unfold leftOf at he
      rw [Array.mem_toList_iff, Array.mem_filter] at he
      exact ⟨by simpa using he.1, by simpa using he.2⟩
    obtain ⟨i, hi⟩ := List.getElem?_of_mem hmem.1
    have hi' : es[i]? = some e := by simpa using hi
    have hbi := hm0 i e hi'
    obtain ⟨k, v, q1, q2, q3⟩ := EntRel.at l _ ((mapC_rel l _).1 k3) i e hi
    have hex : (execOp a.eval ⟨some d, .next x false, ty, pos, af, none⟩).run P w = .ok (.value (.tuple #[.bool true, e.key, e.val])) (setBlock w1 b (.mapIter (some m) l.length (seen.toArray.push e.born) es.size)) := by
      simp only [execOp, hu, pathOff, Sem.run_bind, hrun, Result.andThen_ok, Sem.run_pure]
    rw [semAt_fen hex (fun c hc => by cases hc)]
    have hgv : v.within (fun r => r < n) := (mapC_within l).1 (hst.rowsG rm _ hrowm).2 (k, v) (List.mem_of_getElem? q1)
    have hgm : rm < n := (hst.rowsG rm _ hrowm).1
    have hst2 := hst1.set (v := some (.tup (.acons (.bool true) (.acons (.d (enc k)) (.acons v .anil))))) (u := .tuple #[.bool true, e.key, e.val]) (dst := some d) (dstOk_out hdst) (by
      unfold RelV
      rw [if_neg (by simp [AV.isAgg])]
      exact ⟨_, rfl, _, _, rfl, RelV.sc.2 ⟨rfl, rfl⟩, _, _, rfl, q2, _, _, rfl, q3, rfl⟩) ⟨trivial, trivial, hgv, trivial⟩
    rw [put_eq] at hst2
    have hrow2 : (⟨putE (some d) (some (.tup (.acons (.bool true) (.acons (.d (enc k)) (.acons v .anil))))) env, [] ++ h, n, sz, 64⟩ : St).row r = some (.mi (.mapr rm) l.length l.length seen) := by rw [← lookH_row]; exact hr
    have hst3 := hst2.writeObj (o' := .mapIter (some m) l.length (seen.toArray.push e.born) es.size) (row := .mi (.mapr rm) l.length l.length (seen ++ [i])) hrow2 hb1 (by rw [hheap]; exact hb2) rfl hgm
      (fun w' ht hh' => ⟨b, m, hb1, by rw [hh', hbi, hlen, List.push_toArray], ht (.mapr rm) false _ hgm ⟨m, 1, hm1, rfl⟩⟩)
    refine hgo i k v q1 (by rw [← hbi]; exact hmem.2) C σ _ _ ?_ Q hQ
    have := hst3.grow (G' := fun r => r < n + 8) (fun r hr => Nat.lt_of_lt_of_le hr (Nat.le_add_right n 8))
    exact { this with }
end
end Go.Eng

namespace Go.Eng
open Go.RowKit
section
variable {P : Program} {T : Tab} {env : Env} {h : Upds} {n : Nat}
theorem slice_pt (hT : TabOk P T) {t e L s : Nat} {re : TyR} {x : Operand} {α : Type} {enc : α → D} {xs : List α} (ht : tdesc T t = some (.array L e)) (he : lk T e = some re) (hx : evalA env x = some (.d (.pt (.vec L s enc xs)))) (hL : Nat.ble L 1048576 = true) (hs0 : Nat.blt 0 s = true) :
    StepIs P (.slice t x none none none) env h n (some (.d (.arr s enc xs))) [] := .of_comes fun C G st σ w a o ho hA hdst hst hn => by
  obtain ⟨ud, hud, hdd⟩ := tdesc_und hT ht
  cases hdd
  have hL := Nat.le_of_ble_eq_true hL
  have hs0 := Nat.le_of_ble_eq_true hs0
  have hsz := (hT e re he).run_size (P := P)
  obtain ⟨ad, cs, hv, ⟨hl, f, hf, hcs⟩, hc⟩ := RelV.iptr.1 (RelV.pt.1 (ev_sound hst (hA.ev hx)).1)
  have hmax : (1048576 : Nat) ≤ maxLen := by decide
  refine .quiet (u := .slice (some ad) L L) hst hdst ⟨rfl, rfl⟩ ?_ (RelV.arr.2 (.inr ⟨ad, L, by rw [hl], by omega, by omega, f, fun i hi => ⟨(hf i hi).1, (hf i hi).2, fun j u hj => ?_⟩⟩)) trivial
  · simp [execOp, ho, Instr.sliceAt, hv, Instr.sureAddr, run_underlying hud, Instr.sliceBounds, Instr.sliceBound, asIntOf, hsz, Sem.run_bind, Sem.run_pure, Result.andThen_ok, Addr.add_zero']
  · have hjs : j < s := by rw [← (hf i hi).2]; exact (List.getElem?_eq_some_iff.1 hj).1
    have := cat_get xs.length (fun i hi => (hf i hi).2) i j hi hjs
    rw [hj] at this
    refine hc _ _ ?_
    rw [hcs, ← hl]
    exact this

end
end Go.Eng

namespace Go.Eng
open Go.RowKit
set_option linter.unusedSimpArgs false
section
variable {P : Program} {T : Tab} {env : Env} {h : Upds} {n : Nat}
theorem run_neq_ni {t : Nat} {w : World} {ms} (hud : P.underlying t = some (.interface ms)) : (binOp .neq t .nilIface .nilIface).run P w = .ok (.bool false) w := by
  have h1 : (Op.equalIn 10000 t .nilIface .nilIface).run P w = .ok true w := by
    rw [show (10000 : Nat) = 9999 + 1 from rfl, Op.equalIn]
    simp only [Sem.run_bind, run_underlying hud, Result.andThen_ok, Sem.run_pure]
  show (do let b ← Op.equalIn 10000 t _ _; pure (Value.bool !b) : Sem Value).run P w = _
  simp only [Sem.run_bind, h1, Result.andThen_ok, Sem.run_pure, Bool.not_true]
theorem run_neq_er {t t1 : Nat} {w : World} {ms} {v : Value} (hud : P.underlying t = some (.interface ms)) : (binOp .neq t (.iface t1 v) .nilIface).run P w = .ok (.bool true) w := by
  have h1 : (Op.equalIn 10000 t (.iface t1 v) .nilIface).run P w = .ok false w := by
    rw [show (10000 : Nat) = 9999 + 1 from rfl, Op.equalIn]
    simp only [Sem.run_bind, run_underlying hud, Result.andThen_ok, Sem.run_pure]
  show (do let b ← Op.equalIn 10000 t _ _; pure (Value.bool !b) : Sem Value).run P w = _
  simp only [Sem.run_bind, h1, Result.andThen_ok, Sem.run_pure, Bool.not_false]
theorem neq_nilI {t t' : Nat} {x : Operand} {ms} (hu : P.underlying t = some (.interface ms)) (hx : evalA env x = some (.d (.sc .nilIface))) :
    StepIs P (.binOp .neq t x (.const .nilIface) t') env h n (some (.bool false)) [] := .of_comes fun C G st σ w ac o ho hA hdst hst hn => by
  obtain ⟨hv, _⟩ := RelV.sc.1 (ev_sound hst (hA.ev hx)).1
  refine .quiet (u := .bool false) hst hdst ⟨rfl, rfl⟩ ?_ (RelV.sc.2 ⟨rfl, rfl⟩) trivial
  have hg : (eqGuard .neq t x (.const .nilIface) .nilIface .nilIface).run P w = .ok () w := by
    simp [eqGuard]
    try (cases x <;> rfl)
  have hc : ac.eval (.const .nilIface) = .nilIface := rfl
  simp only [execOp, ho, hv, hc, Sem.run_bind, hg, Result.andThen_ok, run_neq_ni hu, Sem.run_pure]
theorem neq_er {t t' : Nat} {x : Operand} {ms} (hu : P.underlying t = some (.interface ms)) (hx : evalA env x = some .er) :
    StepIs P (.binOp .neq t x (.const .nilIface) t') env h n (some (.bool true)) [] := .of_comes fun C G st σ w ac o ho hA hdst hst hn => by
  obtain ⟨t1, v, hv⟩ := RelV.er.1 (ev_sound hst (hA.ev hx)).1
  refine .quiet (u := .bool true) hst hdst ⟨rfl, rfl⟩ ?_ (RelV.sc.2 ⟨rfl, rfl⟩) trivial
  have hg : (eqGuard .neq t x (.const .nilIface) (.iface t1 v) .nilIface).run P w = .ok () w := rfl
  have hc : ac.eval (.const .nilIface) = .nilIface := rfl
  simp only [execOp, ho, hv, hc, Sem.run_bind, hg, Result.andThen_ok, run_neq_er hu, Sem.run_pure]
theorem slice_ipt (hT : TabOk P T) {t e L s : Nat} {re : TyR} {x : Operand} {α : Type} {enc : α → D} {xs : List α} (ht : tdesc T t = some (.array L e)) (he : lk T e = some re) (hx : evalA env x = some (.iptr (.vec L s enc xs))) (hL : Nat.ble L 1048576 = true) (hs0 : Nat.blt 0 s = true) :
    StepIs P (.slice t x none none none) env h n (some (.d (.arr s enc xs))) [] := .of_comes fun C G st σ w a o ho hA hdst hst hn => by
  obtain ⟨ud, hud, hdd⟩ := tdesc_und hT ht
  cases hdd
  have hL := Nat.le_of_ble_eq_true hL
  have hs0 := Nat.le_of_ble_eq_true hs0
  have hsz := (hT e re he).run_size (P := P)
  obtain ⟨ad, cs, hv, ⟨hl, f, hf, hcs⟩, hc⟩ := RelV.iptr.1 (ev_sound hst (hA.ev hx)).1
  have hmax : (1048576 : Nat) ≤ maxLen := by decide
  refine .quiet (u := .slice (some ad) L L) hst hdst ⟨rfl, rfl⟩ ?_ (RelV.arr.2 (.inr ⟨ad, L, by rw [hl], by omega, by omega, f, fun i hi => ⟨(hf i hi).1, (hf i hi).2, fun j u hj => ?_⟩⟩)) trivial
  · simp [execOp, ho, Instr.sliceAt, hv, Instr.sureAddr, run_underlying hud, Instr.sliceBounds, Instr.sliceBound, asIntOf, hsz, Sem.run_bind, Sem.run_pure, Result.andThen_ok, Addr.add_zero']
  · have hjs : j < s := by rw [← (hf i hi).2]; exact (List.getElem?_eq_some_iff.1 hj).1
    have := cat_get xs.length (fun i hi => (hf i hi).2) i j hi hjs
    rw [hj] at this
    refine hc _ _ ?_
    rw [hcs, ← hl]
    exact this

end
end Go.Eng
