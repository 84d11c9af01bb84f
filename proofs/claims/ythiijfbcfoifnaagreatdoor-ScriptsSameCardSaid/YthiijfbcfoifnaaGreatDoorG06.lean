/- Texts of the proof: Eng96, Z42, Z13, Eng93, Z14, Z15, Z40, Z43, Z22, Eng85, Z16, Eng94, PZ, Z24, Z25, Z26, Z27, Z28, Z29, Z30, Z17, Z18, Z19, Z31, Z35, Z44, Z33, Z34, Z23, Z41, Eng97, Eng98, Z45, ZO, ZO2. -/
import Derived.Test.YthiijfbcfoifnaaGreatDoorG04
import Derived.Test.YthiijfbcfoifnaaGreatDoorG05
import Derived.Test.YthiijfbcfoifnaaGreatDoorG03
import Derived.Test.YthiijfbcfoifnaaGreatDoorG02

set_option linter.unusedVariables false
set_option linter.unusedSimpArgs false
set_option linter.unusedSectionVars false

namespace Go.Eng
open Go.RowKit
section
variable {P : Program} {T : Tab} {env : Env} {h : Upds} {n : Nat}
theorem append_av (hT : TabOk P T) {t e r r2 m : Nat} {re : TyR} {s : Nat} {ex ex2 : Bool} {cap2 : Option Nat} {a z : AV} (b : AV) {x y : Operand} (ht : tdesc T t = some (.slice e)) (he : lk T e = some re) (hs : Nat.beq re.size s = true) (hs0 : Nat.blt 0 s = true)
  (hx : evalA env x = some (.own r 0 m s none)) (hrow : lookH h r = some (.lits e s m ex a)) (hy : evalA env y = some (.own r2 0 1 s cap2)) (hrow2 : lookH h r2 = some (.lits e s 1 ex2 (.acons z .anil)))
  (hb : ∀ (σ : Place) (w : World) (X : Nat → Prop) (c1 c2 : List Value), Rel σ w X a false c1 → Rel σ w X z false c2 → Rel σ w X b false (c1 ++ c2)) (hbf : b.flat = true) (hbw : ∀ G : Nat → Prop, a.within G → z.within G → b.within G) (ha0 : m = 0 → ∀ (σ : Place) (w : World) (X : Nat → Prop), Rel σ w X a false [])
  (hlen : m + 1 ≤ 1048576) (hbytes : Nat.ble re.bytes 134217728 = true) :
  StepIs P (.call { callee := .builtin .append, args := #[x, y], argTypes := #[t, t] }) env h n (some (.own n 0 (m + 1) s none)) [(n, some (.lits e s (m + 1) false b)), (r, none)] := .of_comes fun C G st σ w a0 o ho hA hd hst hn => by
 have hs := Nat.eq_of_beq_eq_true hs
 have hs0 := Nat.le_of_ble_eq_true hs0
 have hbt := Nat.le_of_ble_eq_true hbytes
 have hbytes : (m + 1) * re.bytes ≤ 140737488355328 := by
  have : (m + 1) * re.bytes ≤ 1048576 * 134217728 := Nat.mul_le_mul hlen hbt
  omega
 obtain ⟨hx1, hx2⟩ := ev_sound hst (hA.ev hx)
 obtain ⟨hy1, _⟩ := ev_sound hst (hA.ev hy)
 have hr := hA.row _ _ hrow
 have hr2 := hA.row _ _ hrow2
 obtain ⟨i, zz, hi, hi1, hi2, hi3, hi4⟩ := (hT e re he).info
 obtain ⟨ud, hud, hdd⟩ := tdesc_und hT ht
 cases hdd
 have hz : zz.cells.size = s := by
  have h1 := Enc.len _ _ (Enc.closed w (fun _ => False) _ (hT e re he).zero)
  rw [hi4] at h1
  simpa [(hT e re he).zsize, hs] using h1
 have hnn : ¬ G n := hn n (Nat.le_refl _) (by omega)
 have hGa : a.within G := (hst.rowsG r _ hr).2
 have hGz : z.within G := (hst.rowsG r2 _ hr2).2.1
 obtain ⟨ad, c1, cz, hu, hzr, hgl, hgc, hz1⟩ : ∃ ad c1 cz, a0.eval y = .slice (some ad) 1 c1 ∧ Rel σ w (st.X C.X0 σ) z false cz ∧ cz.length = s ∧ (∀ j v, cz[j]? = some v → w.cell? (ad.add j) = some v) ∧ ∀ u ∈ cz, u.oneCell' = true := by
  rcases RelV.own.1 hy1 with ⟨_, _, h0, _⟩ | ⟨b2, c, ad, hb2, hv, hle, _, _, had⟩
  ·omega
  have : ad = ⟨b2, 0, none⟩ := by have := had (by omega); simpa using this
  subst this
  rcases hst.rows r2 _ hr2 with ⟨hfl, ⟨hn2, _⟩ | ⟨b', c', cur, cs, hb', _, hh, hcs, _, _, hcl, hrel, htk⟩⟩
  ·rw [hb2] at hn2; cases hn2
  rw [hb2] at hb'
  cases hb'
  obtain ⟨c3, c4, rfl, h3, h4⟩ := hrel
  obtain rfl : c4 = [] := h4
  rw [List.append_nil] at hcl htk
  have hzf : z.flat = true := by simp only [AV.flat] at hfl; cases hq : z.flat <;> simp [hq] at hfl ⊢
  refine ⟨⟨b2, 0, none⟩, _, c3, hv, h3, by simpa using hcl, fun j u hj => ?_, Rel.one z c3 hzf h3⟩
  have hjl := (List.getElem?_eq_some_iff.1 hj).1
  rw [add_mk, cell_of_row w b2 _ cur e (0, 0) hh, Nat.zero_add, ← Array.getElem?_toList]
  rw [← htk, List.getElem?_take, if_pos (by omega)] at hj
  exact hj
 have hgl1 : cz.length = 1 * s := by omega
 have fin : ∀ (bk c : Nat) (cur : Array Value) (w' : World), (∃ c0, σ r = some (bk, c0)) ∨ w.heap.size ≤ bk → w.grownBy w' ((σ r).map (·.1)) → w'.heap[bk]? = some (.cells cur e (0, 0)) → cur.size = c * s → m + 1 ≤ c → c ≤ maxLen →
   (∃ ca, Rel σ w (st.X C.X0 σ) a false ca ∧ ca.length = m * s ∧ cur.toList.take ((m + 1) * s) = ca ++ cz) →
   (Builtin.append_ #[t, t] o.type #[a0.eval x, a0.eval y]).run P w = .ok (.slice (some ⟨bk, 0, none⟩) (m + 1) c) w' →
   Comes1 P C G st n o a0 w (fun v' u' => v' = some (.own n 0 (m + 1) s none) ∧ u' = [(n, some (.lits e s (m + 1) false b)), (r, none)]) := by
  rintro bk c cur w' hbk hgr hh hcs hle hcm ⟨ca, hca, hcal, htk⟩ hrun
  have hsw := hst.swap hnn hr hgr (c := c) hbk (.lits e s (m + 1) false b) (hbw G hGa hGz) (fun σ' X' hk1 hk2 hσn => by
   refine ⟨hbf, .inr ⟨bk, c, cur, ca ++ cz, hσn, (fun e => nomatch e), hh, hcs, hle, hcm, ?_, hb _ _ _ _ _ (hk1 _ _ _ hGa hca) (hk1 _ _ _ hGz hzr), htk⟩⟩
   rw [List.length_append, hcal, hgl, Nat.add_mul]; omega)
  have hval : RelV (fun q => if q = n then some (bk, c) else σ q) w' ((st.upd [(n, some (.lits e s (m + 1) false b)), (r, none)]).X C.X0 (fun q => if q = n then some (bk, c) else σ q)) (.own n 0 (m + 1) s none) (.slice (some ⟨bk, 0, none⟩) (m + 1) c) :=
   RelV.own.2 (.inr ⟨bk, c, ⟨bk, 0, none⟩, by simp, by simp, by simpa using hle, by simp, by simpa using hle, fun _ => by simp⟩)
  refine ⟨_, _, .value (.slice (some ⟨bk, 0, none⟩) (m + 1) c), _, w', _, fun q => G q ∨ q = n, ⟨rfl, rfl⟩, ?_, .inl rfl, by rw [St.put_upd]; exact hsw.set hd hval (.inr rfl), fun r hr => Or.inl hr, fun r hr => Or.imp id (fun h => ⟨by omega, by omega⟩) hr⟩
  simp [execOp, ho, resolve, invoke, builtin, hrun]
 rcases hst.rows r _ hr with ⟨haf, ⟨hσ, hm0⟩ | ⟨bk, c, cur, ca, hσ, _, hh, hcs, hle, hcm, hcal, hca, htk⟩⟩
 ·rcases RelV.own.1 hx1 with ⟨_, _, _, _, hv⟩ | ⟨bk, c, _, hσ', _⟩
  ·subst hm0
   have hrun := run_append_nil (P := P) w t o.type e i zz hud hi hi3 ad 1 c1 cz (by rw [hgl, hi1, hs]; omega) hgc (by decide) (by decide) (by rw [hi2]; simp at hbytes; omega)
   refine fin w.heap.size (grownCap w 1 0 e) (cz.toArray ++ Builtin.zeroCells zz.cells (grownCap w 1 0 e - 1)) _ (.inr (Nat.le_refl _)) (grown_fresh w _ _) (heap_alloc_new w.drew _) ?_ ?_ (grownCap_le_maxLen w 1 0 e (by simp [maxLen])) ⟨[], ?_, by simp, ?_⟩ (by rw [hv, hu, hrun])
   ·have hge := grownCap_ge w 1 0 e
    simp only [Array.size_append, List.size_toArray, size_zeroCells, hz, hgl1, ← Nat.add_mul]
    congr 1; omega
   ·simpa using grownCap_ge w 1 0 e
   ·exact ha0 rfl _ _ _
   ·simp only [Array.toList_append, Nat.zero_add, Nat.one_mul, List.nil_append]
    rw [← hgl]
    exact List.take_left
  ·rw [hσ] at hσ'; cases hσ'
 ·rcases RelV.own.1 hx1 with ⟨hσ', _⟩ | ⟨b', c', a', hσ', hv, _, _, hlec, had⟩
  ·rw [hσ] at hσ'; cases hσ'
  ·rw [hσ] at hσ'
   cases hσ'
   simp only [Option.getD_none, Nat.sub_zero] at hv hlec
   by_cases hroom : m + 1 ≤ c
   ·have : a' = ⟨bk, 0, none⟩ := by have := had (by omega); simpa using this
    subst this
    have hrun := run_append_room (P := P) w t o.type e i hud hi bk m c cur hh ad 1 c1 cz (by rw [hgl1, hi1, hs]) hgc hz1 hroom (by rw [hgl1, hi1, hs, hcs, ← Nat.add_mul]; exact Nat.mul_le_mul_right _ hroom)
    refine fin bk c _ _ (.inl ⟨c, hσ⟩) ?_ (setRow_heap w bk cur _ e _ hh) ?_ hroom hcm ⟨ca, hca, hcal, ?_⟩ (by rw [hv, hu, hrun])
    ·exact ⟨rfl, rfl, rfl, by simp, fun k _ hk => setRow_other w bk k _ (fun e => hk (by rw [hσ]; simp [e]))⟩
    ·have hm := Nat.mul_le_mul_right s hroom
     rw [Nat.add_mul] at hm
     simp only [List.size_toArray, List.length_append, List.length_take, List.length_drop, Array.length_toList, hi1, hs, hgl1, hcs]
     omega
    ·rw [hi1, hs, htk, List.append_assoc, ← List.append_assoc]
     have : (m + 1) * s = (ca ++ cz).length := by rw [List.length_append, hcal, hgl1, Nat.add_mul]
     rw [this]
     exact List.take_left
   ·have hrun := run_append_grow (P := P) w t o.type e i zz hud hi hi3 a' m c ca (by rw [hcal, hi1, hs]) (fun j u hj => by
     have hjl : j < m * s := by rw [← hcal]; exact (List.getElem?_eq_some_iff.1 hj).1
     have hc0 : 0 < c := by
      rcases Nat.eq_zero_or_pos c with rfl | h1
      ·have : m = 0 := by omega
       rw [this] at hjl; omega
      ·exact h1
     have : a' = ⟨bk, 0, none⟩ := by have := had hc0; simpa using this
     subst this
     rw [add_mk, cell_of_row w bk _ cur e (0, 0) hh]
     rw [← htk, List.getElem?_take, if_pos hjl] at hj
     rw [Nat.zero_add, ← Array.getElem?_toList]
     exact hj) ad 1 c1 cz (by rw [hgl1, hi1, hs]) hgc (by omega) (by omega) (growslice_fits (by omega) (by rw [hi2]; exact hbytes))
    refine fin w.heap.size _ _ _ (.inr (Nat.le_refl _)) (grown_fresh w _ _) (heap_alloc_new w.drew _) ?_ (grownCap_ge w _ c e) (grownCap_le_maxLen w _ c e (by simp only [maxLen]; omega)) ⟨ca, hca, hcal, ?_⟩ (by rw [hv, hu, hrun])
    ·have hge := grownCap_ge w (m + 1) c e
     simp only [Array.size_append, List.size_toArray, size_zeroCells, hz, hgl1, hcal, ← Nat.add_mul]
     congr 1; omega
    ·simp only [Array.toList_append]
     have : (m + 1) * s = (ca ++ cz).length := by rw [List.length_append, hcal, hgl1, Nat.add_mul]
     rw [this]
     exact List.take_left
end
theorem dsAV_flat : ∀ (l : List D), (dsAV l).flat = true
 | [] => rfl
 | d :: l => by simp [dsAV, AV.flat, dsAV_flat l]
theorem dsAV_lt {n : Nat} : ∀ (l : List D), (dsAV l).lt n = true
 | [] => rfl
 | d :: l => by simp [dsAV, AV.lt, dsAV_lt l]
theorem dsAV_within {G : Nat → Prop} : ∀ (l : List D), (dsAV l).within G
 | [] => trivial
 | d :: l => ⟨trivial, dsAV_within l⟩
theorem dsAV_ren {ρ : Nat → Option Nat} : ∀ (l : List D), (dsAV l).ren ρ = dsAV l
 | [] => rfl
 | d :: l => by simp only [dsAV, AV.ren, dsAV_ren l]
def chF (A : AV) (l : List D) : AV := .acons A (dsAV l)
theorem chF_flat {A : AV} (hA : A.flat = true) (l : List D) : (chF A l).flat = true := by simp [chF, AV.flat, hA, dsAV_flat]
theorem chF_lt {A : AV} {n : Nat} (hA : A.lt n = true) (l : List D) : (chF A l).lt n = true := by simp [chF, AV.lt, hA, dsAV_lt]
theorem chF_within {A : AV} {G : Nat → Prop} (hA : A.within G) (l : List D) : (chF A l).within G := ⟨hA, dsAV_within l⟩
theorem chF_ren {A : AV} {ρ : Nat → Option Nat} (l : List D) : (chF A l).ren ρ = chF (A.ren ρ) l := by simp only [chF, AV.ren, dsAV_ren]
theorem chF_snoc {A : AV} {d : D} {l : List D} {σ : Place} {w : World} {X : Nat → Prop} {c1 c2 : List Value} (h1 : Rel σ w X (chF A l) false c1) (h2 : Rel σ w X (.d d) false c2) : Rel σ w X (chF A (l ++ [d])) false (c1 ++ c2) := by
 obtain ⟨c3, c4, rfl, h3, h4⟩ := h1
 exact ⟨c3, c4 ++ c2, by simp, h3, (dsAV_app _ _ _).2 ⟨c4, c2, rfl, h4, c2, [], by simp, h2, rfl⟩⟩
theorem rsub_first {t : TypeId} {s : Nat} {ex : Bool} {A : AV} {l : List D} {m i : Nat} (hm : 0 < m) (hi : i = 0) : RSub (.lits t s m ex (chF A l)) [.idx i s] A := by
 subst hi
 refine ⟨rfl, hm, ?_⟩
 rw [Nat.zero_mul]
 rfl
theorem FrzR.first {r t te s s2 m : Nat} {ex ex2 : Bool} {α β : Type} {enc : α → D} {enc2 : β → D} {xs : List α} {y : α} {ys : List β} {len : Nat} {l : List D} (hl : len = ys.length) (hy : enc y = .arr s2 enc2 ys) (hm : m = xs.length + 1) (hs : ∀ x, (enc x).size = s) (hmap : l = xs.map enc) :
  FrzR r (.ds te s2 ex2 enc2 ys) (.lits t s m ex (chF (.own r 0 len s2 none) l)) (.ds t s ex enc (y :: xs)) := by
 subst hm hmap
 refine ⟨fun G h => trivial, fun σ w X X' q hx hn hr hq => ?_⟩
 rcases hq with ⟨_, ⟨_, h1⟩ | ⟨b', c', cur, cs', hb', hex, hh, hsz, hlen, hmax, hcl, hrel, htake⟩⟩
 ·omega
 ·obtain ⟨c2, c1, rfl, h2, h1⟩ := hrel
  have h3 := (Frz.own (te := te) (ex := ex2) (cap := none) hl).2.2.2 σ w X X' hx hn hr c2 h2
  rw [← hy] at h3
  obtain ⟨f, hf, rfl⟩ := dsAV_rel xs _ h1
  have hfl : ∀ i, i < xs.length → (f i).length = s := fun i hi => by rw [← hs xs[i]]; exact Enc.len _ _ (hf i hi)
  have hc2 : c2.length = s := by rw [← hs y]; exact Enc.len _ _ h3
  refine .inr ⟨b', c', cur, hb', hex, hh, hsz, hlen, hmax, fun i => if i = 0 then c2 else f (i - 1), fun i hi => ?_, ?_⟩
  ·cases i with
   | zero => exact ⟨h3, hc2⟩
   | succ i =>
    have hi2 : i < xs.length := by simpa using hi
    simp only [Nat.add_one_ne_zero, if_false, Nat.add_sub_cancel, List.getElem_cons_succ]
    exact ⟨Enc.sub hx _ _ (hf i hi2), hfl i hi2⟩
  ·rw [List.length_cons, htake, Nat.add_comm xs.length 1, cat_add 1]
   congr 1
   exact cat_congr _ fun i _ => by simp [show 1 + i - 1 = i by omega]
section
variable {P : Program} {T : Tab} {env : Env} {h : Upds} {n : Nat}
theorem append_first0 (hT : TabOk P T) {t e r r2 : Nat} {re : TyR} {s : Nat} {ex ex2 : Bool} {cap2 : Option Nat} {A : AV} {x y : Operand} (ht : tdesc T t = some (.slice e)) (he : lk T e = some re) (hs : Nat.beq re.size s = true) (hs0 : Nat.blt 0 s = true)
  (hx : evalA env x = some (.own r 0 0 s none)) (hrow : lookH h r = some (.lits e s 0 ex .anil)) (hy : evalA env y = some (.own r2 0 1 s cap2)) (hrow2 : lookH h r2 = some (.lits e s 1 ex2 (.acons A .anil))) (hA : A.flat = true) (hbytes : Nat.ble re.bytes 134217728 = true) :
  StepIs P (.call { callee := .builtin .append, args := #[x, y], argTypes := #[t, t] }) env h n (some (.own n 0 1 s none)) [(n, some (.lits e s 1 false (chF A []))), (r, none)] :=
 append_av hT (chF A []) ht he hs hs0 hx hrow hy hrow2 (by rintro σ w X _ c2 rfl h; exact ⟨c2, [], by simp, h, rfl⟩) (chF_flat hA _) (fun G _ h => chF_within h _) (fun _ _ _ _ => rfl) (by decide) hbytes
theorem append_firstS (hT : TabOk P T) {t e r r2 m : Nat} {re : TyR} {s : Nat} {ex ex2 : Bool} {cap2 : Option Nat} {A : AV} {l : List D} {d : D} {x y : Operand} (ht : tdesc T t = some (.slice e)) (he : lk T e = some re) (hs : Nat.beq re.size s = true) (hs0 : Nat.blt 0 s = true)
  (hx : evalA env x = some (.own r 0 m s none)) (hrow : lookH h r = some (.lits e s m ex (chF A l))) (hy : evalA env y = some (.own r2 0 1 s cap2)) (hrow2 : lookH h r2 = some (.lits e s 1 ex2 (.acons (.d d) .anil))) (hA : A.flat = true) (hm : Nat.blt 0 m = true) (hlen : m + 1 ≤ 1048576) (hbytes : Nat.ble re.bytes 134217728 = true) :
  StepIs P (.call { callee := .builtin .append, args := #[x, y], argTypes := #[t, t] }) env h n (some (.own n 0 (m + 1) s none)) [(n, some (.lits e s (m + 1) false (chF A (l ++ [d])))), (r, none)] :=
 append_av hT (chF A (l ++ [d])) ht he hs hs0 hx hrow hy hrow2 (fun σ w X c1 c2 h1 h2 => chF_snoc h1 h2) (chF_flat hA _) (fun G h _ => chF_within h.1 _) (fun e => by have := Nat.le_of_ble_eq_true hm; omega) hlen hbytes
end
end Go.Eng
namespace Go.Proofs.YthiijfbcfoifnaaGreatDoor
open Go.Eng Go.Plain
set_option maxHeartbeats 8000000
set_option maxRecDepth 20000
attribute [local irreducible] WC RegS RegD SeqQ BlkQ ScoQ RegK CutK Sat SatN FnIs LoopQ StepIs OpIs
theorem chF_refl {ρ : Nat → Option Nat} {t s m b b' len : Nat} {ex : Bool} {l : List D} (h : ρ b' = some b) : RowLe (.lits t s m ex (chF (.own b 0 len 3 none) l)) (Row.ren ρ (.lits t s m ex (chF (.own b' 0 len 3 none) l))) := by
 refine RowLe.of_eq ?_
 simp only [Row.ren, chF_ren, AV.ren, h]
abbrev rowF (l : List (List POp)) (b : Nat) : Row := match l with
 | [] => .lits 32 1 0 false .anil
 | p :: l => .lits 32 1 (l.length + 1) false (chF (.own b 0 p.length 3 none) (l.map encP))
abbrev rowH (l : List (List POp)) : Row := .ds 36 3 false encPOp (l.head?.getD [])
theorem lt_F {L L' q : List (List POp)} {n : Nat} (h : L = L') (hq : L' = q) (hn : Nat.blt 69 n = true) : (rowF L 69).lt n = true := by
 subst h hq
 cases L with
 | nil => rfl
 | cons p l => exact chF_lt (A := .own 69 0 p.length 3 none) hn _
theorem le_F {L L' : List (List POp)} {p : List POp} {q : List (List POp)} {ρ : Nat → Option Nat} {m b : Nat} {l : List D} (h : L = L') (hq : L' = p :: q) (hm : m = q.length + 1) (hl : l = q.map encP) (hρ : ρ 69 = some b) : RowLe (.lits 32 1 m false (chF (.own b 0 p.length 3 none) l)) (Row.ren ρ (rowF L 69)) := by
 subst h hq hm hl
 exact chF_refl hρ
theorem cof_first (x : CX) (ps : List (List PQ)) (all : List (List POp)) (hall : pOf ps = all) (hb : ∀ p ∈ all, p.length ≤ 1000) (hal : all.length ≤ 1000) (p0 : List POp) (rest : List (List POp)) (hL : progsM x.blocks x.clients all = p0 :: rest) : FnIs Tryz.prog 52 [.d (encCX x (encPP ps))] [] (.tup (.acons (.d (encCfg (cfgOf x))) (.acons (.own 64 0 (rest.length + 1) 1 none) .anil))) [(64, .lits 32 1 (rest.length + 1) false (chF (.own 65 0 p0.length 3 none) (rest.map encP))), (65, .ds 36 3 false encPOp p0)] := by
 obtain ⟨a1, a2, a3, a4, a5, a6, a7, a8, a9, a10⟩ := cx_small x
 have hcf := config_is x encQs ps
 have hpo := pof_is ps
 rw [hall] at hpo
 refine fnIs_of tab_ok Tryz.func52 rfl rfl rfl ?_;refine sR ?_;iterate 2 refine rN ?_
 refine rC ?_;refine nR ?_;refine rQ iM ?_;refine rQ (call_r hcf rfl rfl (arg_e arg_nil) (.inl rfl) (fun _ => rfl)) ?_;refine rN ?_;refine rW ?_;refine nR ?_;refine rC ?_
 refine rQ iB ?_;refine rQ (call_r hpo rfl rfl (arg_e arg_nil) (.inl rfl) (fun _ => rfl)) ?_;refine rC ?_;refine nR ?_;refine rC ?_;refine nQ ?_;refine sR ?_;refine rC ?_
 refine nS ?_;refine wc_block ?_
 refine wc_inv (fun i : Nat => ⟨[(7, .int .i64 i), (6, .own 67 0 (progsM x.blocks i all).length 1 none), (5, .d (encPL all)), (4, .ptr 65 []), (2, .ptr 66 [])], [(65, some (.box 26 (.d (encCfg (cfgOf x))))), (66, some (.box 26 (.d r26.zero))), (67, some (rowF (progsM x.blocks i all) 69)), (69, some (rowH (progsM x.blocks i all)))], 72, Tryz.f52.ntmps, 64⟩) (fun i => i ≤ x.clients) (fun i => x.clients - i) 0 [(65, some _), (66, some _), (67, none), (69, none)] (Nat.zero_le _)
  (.of rfl rfl rfl rfl rfl ⟨⟨_, rfl, .refl _⟩, rfl, ⟨_, rfl, .refl _⟩, rfl, ⟨_, rfl, .refl _⟩, rfl, ⟨_, rfl, .refl _⟩, rfl, ⟨_, rfl, .refl _⟩, rfl, trivial⟩ ⟨⟨rfl, rfl, _, rfl, .refl _⟩, ⟨rfl, rfl, _, rfl, .refl _⟩, ⟨rfl, rfl, rfl, rfl⟩, ⟨rfl, rfl, rfl⟩, trivial⟩) ?_
 intro i hi
 refine wc_of ?_
 by_cases hlt : i < x.clients
 ·have d1 : decide ((i : Int) < (x.clients : Int)) = true := dT (by omega)
  obtain ⟨p, hp⟩ : ∃ p, (all[i]?).getD [] = p := ⟨_, rfl⟩
  have hpl : p.length ≤ 1000 := by
   rw [← hp]
   cases hq : all[i]? with
   | none => simp
   | some q => exact hb q (List.mem_of_getElem? hq)
  have hgo := progsM_go x.blocks i all
  rw [show progM x.blocks all i = p.map (idxM x.blocks) by rw [progM, hp]] at hgo
  have hln := progsM_len x.blocks i all
  obtain ⟨L, hLi⟩ : ∃ L, progsM x.blocks i all = L := ⟨_, rfl⟩
  obtain ⟨L', hLi'⟩ : ∃ L', progsM x.blocks (i + 1) all = L' := ⟨_, rfl⟩
  rw [hLi, hLi'] at hgo
  rw [hLi] at hln ⊢
  cases L with
  | nil =>
   refine qR ?_;iterate 2 refine rC ?_
   refine rQ iB ?_;refine rC ?_;refine nS ?_;refine wT ?_;refine kS ?_;refine wc_seq ?_;refine wc_block ?_;refine sR ?_;refine rC ?_;refine nQ ?_;refine sR ?_;refine rC ?_
   refine nS ?_;refine wc_block ?_
   refine wc_inv (fun k : Nat => ⟨[(9, .int .i64 k), (8, .own 68 0 ((p.take k).map (idxM x.blocks)).length 3 none), (7, .int .i64 i), (6, .own 67 0 0 1 none), (5, .d (encPL all)), (4, .ptr 65 []), (2, .ptr 66 [])], [(65, some (.box 26 (.d (encCfg (cfgOf x))))), (66, some (.box 26 (.d r26.zero))), (67, some (.lits 32 1 0 false .anil)), (68, some (.ds 36 3 false encPOp ((p.take k).map (idxM x.blocks)))), (69, some (.ds 36 3 false encPOp []))], 72, Tryz.f52.ntmps, 64⟩) (fun k => k ≤ p.length) (fun k => p.length - k) 0 [(65, some _), (66, some _), (67, some _), (68, none), (69, some 69)] (Nat.zero_le _)
    (.of rfl rfl rfl rfl rfl ⟨⟨_, rfl, .refl _⟩, rfl, ⟨_, rfl, .refl _⟩, rfl, ⟨_, rfl, .refl _⟩, rfl, ⟨_, rfl, .refl _⟩, rfl, ⟨_, rfl, .refl _⟩, rfl, ⟨_, rfl, .refl _⟩, rfl, ⟨_, rfl, .refl _⟩, rfl, trivial⟩ ⟨⟨rfl, rfl, _, rfl, .refl _⟩, ⟨rfl, rfl, _, rfl, .refl _⟩, ⟨rfl, rfl, _, rfl, .refl _⟩, ⟨rfl, rfl, rfl⟩, ⟨rfl, rfl, _, rfl, .refl _⟩, trivial⟩) ?_
   intro k hk
   refine wc_of ?_
   by_cases hkl : k < p.length
   ·have hia : i < all.length := by
     rcases Nat.lt_or_ge i all.length with h | h
     ·exact h
     ·rw [List.getElem?_eq_none h] at hp; rw [← hp] at hkl; exact absurd hkl (Nat.not_lt_zero _)
    have hp0 : all[i]? = some p := by rw [List.getElem?_eq_getElem hia] at hp ⊢; rw [← hp]; rfl
    have hp2 : all[((i : Int)).toNat]? = some p := by rw [Int.toNat_natCast]; exact hp0
    have d2 : decide ((i : Int) < (all.length : Int)) = true := dT (by omega)
    have d3 : decide ((k : Int) < (p.length : Int)) = true := dT (by omega)
    obtain ⟨o, ho⟩ : ∃ o, p[k]? = some o := ⟨_, List.getElem?_eq_getElem hkl⟩
    have hA : ((p.take k).map (idxM x.blocks)).length + 1 ≤ 1048576 := by rw [List.length_map, List.length_take]; omega
    have htj : (p.take (k + 1)).map (idxM x.blocks) = (p.take k).map (idxM x.blocks) ++ [idxM x.blocks o] := by rw [List.take_add_one, ho]; simp
    have hlj : ((p.take (k + 1)).map (idxM x.blocks)).length = ((p.take k).map (idxM x.blocks)).length + 1 := by rw [htj]; simp
    by_cases hbig : (x.blocks : Int) < o.index
    ·rw [show idxM x.blocks o = ⟨o.kind, ((o.index.toNat % x.blocks : Nat) : Int), o.data⟩ from if_pos hbig] at htj
     obtain ⟨w, hw⟩ : ∃ w : Nat, o.index = w := ⟨o.index.toNat, by omega⟩
     obtain ⟨kd, ix, dt⟩ := o
     simp only at hw hbig htj
     subst hw
     rw [Int.toNat_natCast] at htj
     have ho2 : p[((k : Int)).toNat]? = some ⟨kd, (w : Int), dt⟩ := by rw [Int.toNat_natCast]; exact ho
     have d4 : decide ((x.blocks : Int) < (w : Int)) = true := dT hbig
     refine qR ?_;iterate 2 refine rC ?_
     refine rQ iE ?_;iterate 2 refine rC ?_
     refine rO ?_;refine rC ?_;refine rO ?_;refine rC ?_;refine rO ?_;refine rC ?_;refine rO ?_;refine rQ (index_arr tab_ok rfl rfl rfl rfl rfl (by omega) hp2) ?_;refine rO ?_
     refine rQ iL ?_;refine rO ?_;refine rQ iE ?_;refine rO ?_;refine rC ?_;refine rQ iT ?_;refine nS ?_;refine wT ?_;refine kS ?_;refine wc_seq ?_;refine wc_block ?_
     refine sR ?_;iterate 2 refine rC ?_
     refine rQ (index_arr tab_ok rfl rfl rfl rfl rfl (by omega) hp2) ?_;refine rQ iL ?_;refine rC ?_;refine rQ (index_arr tab_ok rfl rfl rfl rfl rfl (by omega) ho2) ?_
     refine rQ iL ?_;refine rN ?_;refine rW ?_;refine nQ ?_;refine sR ?_;refine rC ?_;refine rQ iB ?_;refine rC ?_;refine rQ iB ?_;refine rC ?_;refine nS ?_;refine wT ?_
     refine wc_region ?_;refine rC ?_;refine rQ iB ?_;refine rC ?_;refine rQ iB ?_;refine rQ (rem_nat (a := w) (b := x.blocks) tab_ok rfl rfl rfl (by omega)) ?_;refine rC ?_
     refine rX ?_;refine nS ?_;refine wc_region ?_;refine rC ?_;refine rQ iM ?_;refine reg_new (build_slice (s := 3) tab_ok rfl rfl rfl rfl rfl rfl rfl rfl) rfl ?_;refine reg_new2 (append_one (xs := (p.take k).map (idxM x.blocks)) (s := 3) (enc := encPOp) tab_ok (⟨kd, ((w % x.blocks : Nat) : Int), dt⟩ : POp) rfl rfl rfl rfl rfl rfl rfl rfl rfl hA rfl) rfl ?_
     refine rC ?_;refine reg_nil ?_;refine blk_n ?_;refine seq_n ?_;refine wc_region ?_;refine rC ?_;refine rQ iD ?_;refine rC ?_;refine reg_nil ?_
     exact loop_n (k + 1) [(65, some _), (66, some _), (67, some _), (68, some _), (69, some 69)] hkl (by omega) (.of rfl rfl rfl rfl rfl ⟨⟨_, rfl, .refl _⟩, rfl, ⟨_, rfl, AVLe.of_eq (by rw [hlj]; rfl)⟩, rfl, ⟨_, rfl, .refl _⟩, rfl, ⟨_, rfl, .refl _⟩, rfl, ⟨_, rfl, .refl _⟩, rfl, ⟨_, rfl, .refl _⟩, rfl, ⟨_, rfl, .refl _⟩, rfl, trivial⟩ ⟨⟨rfl, rfl, _, rfl, .refl _⟩, ⟨rfl, rfl, _, rfl, .refl _⟩, ⟨rfl, rfl, _, rfl, .refl _⟩, ⟨rfl, rfl, _, rfl, RowLe.of_eq (by rw [htj]; rfl)⟩, ⟨rfl, rfl, _, rfl, .refl _⟩, trivial⟩)
    ·rw [show idxM x.blocks o = o from if_neg hbig] at htj
     have ho2 : p[((k : Int)).toNat]? = some o := by rw [Int.toNat_natCast]; exact ho
     have d4 : decide ((x.blocks : Int) < o.index) = false := dF hbig
     refine qR ?_;iterate 2 refine rC ?_
     refine rQ iE ?_;iterate 2 refine rC ?_
     refine rO ?_;refine rC ?_;refine rO ?_;refine rC ?_;refine rO ?_;refine rC ?_;refine rO ?_;refine rQ (index_arr tab_ok rfl rfl rfl rfl rfl (by omega) hp2) ?_;refine rO ?_
     refine rQ iL ?_;refine rO ?_;refine rQ iE ?_;refine rO ?_;refine rC ?_;refine rQ iT ?_;refine nS ?_;refine wT ?_;refine kS ?_;refine wc_seq ?_;refine wc_block ?_
     refine sR ?_;iterate 2 refine rC ?_
     refine rQ (index_arr tab_ok rfl rfl rfl rfl rfl (by omega) hp2) ?_;refine rQ iL ?_;refine rC ?_;refine rQ (index_arr tab_ok rfl rfl rfl rfl rfl (by omega) ho2) ?_
     refine rQ iL ?_;refine rN ?_;refine rW ?_;refine nQ ?_;refine sR ?_;refine rC ?_;refine rQ iB ?_;refine rC ?_;refine rQ iB ?_;refine rC ?_;refine nS ?_;refine wF ?_
     refine kS ?_;refine wc_region ?_;refine rC ?_;refine rQ iM ?_;refine reg_new (build_slice (s := 3) tab_ok rfl rfl rfl rfl rfl rfl rfl rfl) rfl ?_;refine reg_new2 (append_one (xs := (p.take k).map (idxM x.blocks)) (s := 3) (enc := encPOp) tab_ok o rfl rfl rfl rfl rfl rfl rfl rfl rfl hA rfl) rfl ?_
     refine rC ?_;refine reg_nil ?_;refine blk_n ?_;refine seq_n ?_;refine wc_region ?_;refine rC ?_;refine rQ iD ?_;refine rC ?_;refine reg_nil ?_
     exact loop_n (k + 1) [(65, some _), (66, some _), (67, some _), (68, some _), (69, some 69)] hkl (by omega) (.of rfl rfl rfl rfl rfl ⟨⟨_, rfl, .refl _⟩, rfl, ⟨_, rfl, AVLe.of_eq (by rw [hlj]; rfl)⟩, rfl, ⟨_, rfl, .refl _⟩, rfl, ⟨_, rfl, .refl _⟩, rfl, ⟨_, rfl, .refl _⟩, rfl, ⟨_, rfl, .refl _⟩, rfl, ⟨_, rfl, .refl _⟩, rfl, trivial⟩ ⟨⟨rfl, rfl, _, rfl, .refl _⟩, ⟨rfl, rfl, _, rfl, .refl _⟩, ⟨rfl, rfl, _, rfl, .refl _⟩, ⟨rfl, rfl, _, rfl, RowLe.of_eq (by rw [htj]; rfl)⟩, ⟨rfl, rfl, _, rfl, .refl _⟩, trivial⟩)
   ·have he : k = p.length := by omega
    subst he
    rw [List.take_length]
    by_cases hia : i < all.length
    ·have hp0 : all[i]? = some p := by rw [List.getElem?_eq_getElem hia] at hp ⊢; rw [← hp]; rfl
     have hp2 : all[((i : Int)).toNat]? = some p := by rw [Int.toNat_natCast]; exact hp0
     have d2 : decide ((i : Int) < (all.length : Int)) = true := dT (by omega)
     have d3 : decide ((p.length : Int) < (p.length : Int)) = false := dF (by omega)
     refine qR ?_;iterate 2 refine rC ?_
     refine rQ iE ?_;iterate 2 refine rC ?_
     refine rO ?_;refine rC ?_;refine rO ?_;refine rC ?_;refine rO ?_;refine rC ?_;refine rO ?_;refine rQ (index_arr tab_ok rfl rfl rfl rfl rfl (by omega) hp2) ?_;refine rO ?_
     refine rQ iL ?_;refine rO ?_;refine rQ iE ?_;refine rO ?_;refine rC ?_;refine rQ iT ?_;refine nS ?_;refine wF ?_;refine wc_exit ?_;refine seq_x ?_;refine loop_x ?_
     refine blk_x ?_;refine seq_n ?_;refine wc_region ?_;iterate 2 refine rC ?_
     refine reg_new (build_slice (s := 1) tab_ok rfl rfl rfl rfl rfl rfl rfl rfl) rfl ?_;refine reg_new2 (append_first0 (s := 1) tab_ok rfl rfl rfl rfl rfl rfl rfl rfl rfl rfl) rfl ?_
     refine rC ?_;refine reg_nil ?_;refine blk_n ?_;refine seq_n ?_;refine wc_region ?_;refine rC ?_;refine rQ iD ?_;refine rC ?_;refine reg_nil ?_
     exact loop_n (i + 1) [(65, some _), (66, some _), (67, some _), (69, some 68)] hlt (by omega) (.of rfl rfl rfl rfl rfl ⟨⟨_, rfl, .refl _⟩, rfl, ⟨_, rfl, AVLe.of_eq (by rw [hLi', hgo]; simp [AV.ren, rho]; rfl)⟩, rfl, ⟨_, rfl, .refl _⟩, rfl, ⟨_, rfl, .refl _⟩, rfl, ⟨_, rfl, .refl _⟩, rfl, trivial⟩ ⟨⟨rfl, rfl, _, rfl, .refl _⟩, ⟨rfl, rfl, _, rfl, .refl _⟩, ⟨rfl, lt_F hLi' hgo rfl, _, rfl, le_F hLi' hgo rfl rfl rfl⟩, ⟨rfl, rfl, _, rfl, RowLe.of_eq (by rw [hLi', hgo]; rfl)⟩, trivial⟩)
    ·have d2 : decide ((i : Int) < (all.length : Int)) = false := dF (by omega)
     refine qR ?_;iterate 2 refine rC ?_
     refine rQ iE ?_;iterate 2 refine rC ?_
     iterate 7 refine rS ?_
     refine rQ iF ?_;refine nS ?_;refine wG ?_;refine wc_exit ?_;refine seq_x ?_;refine loop_x ?_;refine blk_x ?_;refine seq_n ?_;refine wc_region ?_;iterate 2 refine rC ?_
     refine reg_new (build_slice (s := 1) tab_ok rfl rfl rfl rfl rfl rfl rfl rfl) rfl ?_;refine reg_new2 (append_first0 (s := 1) tab_ok rfl rfl rfl rfl rfl rfl rfl rfl rfl rfl) rfl ?_
     refine rC ?_;refine reg_nil ?_;refine blk_n ?_;refine seq_n ?_;refine wc_region ?_;refine rC ?_;refine rQ iD ?_;refine rC ?_;refine reg_nil ?_
     exact loop_n (i + 1) [(65, some _), (66, some _), (67, some _), (69, some 68)] hlt (by omega) (.of rfl rfl rfl rfl rfl ⟨⟨_, rfl, .refl _⟩, rfl, ⟨_, rfl, AVLe.of_eq (by rw [hLi', hgo]; simp [AV.ren, rho]; rfl)⟩, rfl, ⟨_, rfl, .refl _⟩, rfl, ⟨_, rfl, .refl _⟩, rfl, ⟨_, rfl, .refl _⟩, rfl, trivial⟩ ⟨⟨rfl, rfl, _, rfl, .refl _⟩, ⟨rfl, rfl, _, rfl, .refl _⟩, ⟨rfl, lt_F hLi' hgo rfl, _, rfl, le_F hLi' hgo rfl rfl rfl⟩, ⟨rfl, rfl, _, rfl, RowLe.of_eq (by rw [hLi', hgo]; rfl)⟩, trivial⟩)
  | cons q0 qs =>
   have hA2 : qs.length + 1 + 1 ≤ 1048576 := by rw [List.length_cons] at hln; omega
   refine qR ?_;iterate 2 refine rC ?_
   refine rQ iB ?_;refine rC ?_;refine nS ?_;refine wT ?_;refine kS ?_;refine wc_seq ?_;refine wc_block ?_;refine sR ?_;refine rC ?_;refine nQ ?_;refine sR ?_;refine rC ?_
   refine nS ?_;refine wc_block ?_
   refine wc_inv (fun k : Nat => ⟨[(9, .int .i64 k), (8, .own 68 0 ((p.take k).map (idxM x.blocks)).length 3 none), (7, .int .i64 i), (6, .own 67 0 (qs.length + 1) 1 none), (5, .d (encPL all)), (4, .ptr 65 []), (2, .ptr 66 [])], [(65, some (.box 26 (.d (encCfg (cfgOf x))))), (66, some (.box 26 (.d r26.zero))), (67, some (.lits 32 1 (qs.length + 1) false (chF (.own 69 0 q0.length 3 none) (qs.map encP)))), (68, some (.ds 36 3 false encPOp ((p.take k).map (idxM x.blocks)))), (69, some (.ds 36 3 false encPOp q0))], 72, Tryz.f52.ntmps, 64⟩) (fun k => k ≤ p.length) (fun k => p.length - k) 0 [(65, some _), (66, some _), (67, some _), (68, none), (69, some 69)] (Nat.zero_le _)
    (.of rfl rfl rfl rfl rfl ⟨⟨_, rfl, .refl _⟩, rfl, ⟨_, rfl, .refl _⟩, rfl, ⟨_, rfl, .refl _⟩, rfl, ⟨_, rfl, .refl _⟩, rfl, ⟨_, rfl, .refl _⟩, rfl, ⟨_, rfl, .refl _⟩, rfl, ⟨_, rfl, .refl _⟩, rfl, trivial⟩ ⟨⟨rfl, rfl, _, rfl, .refl _⟩, ⟨rfl, rfl, _, rfl, .refl _⟩, ⟨rfl, chF_lt rfl _, _, rfl, chF_refl rfl⟩, ⟨rfl, rfl, rfl⟩, ⟨rfl, rfl, _, rfl, .refl _⟩, trivial⟩) ?_
   intro k hk
   refine wc_of ?_
   by_cases hkl : k < p.length
   ·have hia : i < all.length := by
     rcases Nat.lt_or_ge i all.length with h | h
     ·exact h
     ·rw [List.getElem?_eq_none h] at hp; rw [← hp] at hkl; exact absurd hkl (Nat.not_lt_zero _)
    have hp0 : all[i]? = some p := by rw [List.getElem?_eq_getElem hia] at hp ⊢; rw [← hp]; rfl
    have hp2 : all[((i : Int)).toNat]? = some p := by rw [Int.toNat_natCast]; exact hp0
    have d2 : decide ((i : Int) < (all.length : Int)) = true := dT (by omega)
    have d3 : decide ((k : Int) < (p.length : Int)) = true := dT (by omega)
    obtain ⟨o, ho⟩ : ∃ o, p[k]? = some o := ⟨_, List.getElem?_eq_getElem hkl⟩
    have hA : ((p.take k).map (idxM x.blocks)).length + 1 ≤ 1048576 := by rw [List.length_map, List.length_take]; omega
    have htj : (p.take (k + 1)).map (idxM x.blocks) = (p.take k).map (idxM x.blocks) ++ [idxM x.blocks o] := by rw [List.take_add_one, ho]; simp
    have hlj : ((p.take (k + 1)).map (idxM x.blocks)).length = ((p.take k).map (idxM x.blocks)).length + 1 := by rw [htj]; simp
    by_cases hbig : (x.blocks : Int) < o.index
    ·rw [show idxM x.blocks o = ⟨o.kind, ((o.index.toNat % x.blocks : Nat) : Int), o.data⟩ from if_pos hbig] at htj
     obtain ⟨w, hw⟩ : ∃ w : Nat, o.index = w := ⟨o.index.toNat, by omega⟩
     obtain ⟨kd, ix, dt⟩ := o
     simp only at hw hbig htj
     subst hw
     rw [Int.toNat_natCast] at htj
     have ho2 : p[((k : Int)).toNat]? = some ⟨kd, (w : Int), dt⟩ := by rw [Int.toNat_natCast]; exact ho
     have d4 : decide ((x.blocks : Int) < (w : Int)) = true := dT hbig
     refine qR ?_;iterate 2 refine rC ?_
     refine rQ iE ?_;iterate 2 refine rC ?_
     refine rO ?_;refine rC ?_;refine rO ?_;refine rC ?_;refine rO ?_;refine rC ?_;refine rO ?_;refine rQ (index_arr tab_ok rfl rfl rfl rfl rfl (by omega) hp2) ?_;refine rO ?_
     refine rQ iL ?_;refine rO ?_;refine rQ iE ?_;refine rO ?_;refine rC ?_;refine rQ iT ?_;refine nS ?_;refine wT ?_;refine kS ?_;refine wc_seq ?_;refine wc_block ?_
     refine sR ?_;iterate 2 refine rC ?_
     refine rQ (index_arr tab_ok rfl rfl rfl rfl rfl (by omega) hp2) ?_;refine rQ iL ?_;refine rC ?_;refine rQ (index_arr tab_ok rfl rfl rfl rfl rfl (by omega) ho2) ?_
     refine rQ iL ?_;refine rN ?_;refine rW ?_;refine nQ ?_;refine sR ?_;refine rC ?_;refine rQ iB ?_;refine rC ?_;refine rQ iB ?_;refine rC ?_;refine nS ?_;refine wT ?_
     refine wc_region ?_;refine rC ?_;refine rQ iB ?_;refine rC ?_;refine rQ iB ?_;refine rQ (rem_nat (a := w) (b := x.blocks) tab_ok rfl rfl rfl (by omega)) ?_;refine rC ?_
     refine rX ?_;refine nS ?_;refine wc_region ?_;refine rC ?_;refine rQ iM ?_;refine reg_new (build_slice (s := 3) tab_ok rfl rfl rfl rfl rfl rfl rfl rfl) rfl ?_;refine reg_new2 (append_one (xs := (p.take k).map (idxM x.blocks)) (s := 3) (enc := encPOp) tab_ok (⟨kd, ((w % x.blocks : Nat) : Int), dt⟩ : POp) rfl rfl rfl rfl rfl rfl rfl rfl rfl hA rfl) rfl ?_
     refine rC ?_;refine reg_nil ?_;refine blk_n ?_;refine seq_n ?_;refine wc_region ?_;refine rC ?_;refine rQ iD ?_;refine rC ?_;refine reg_nil ?_
     exact loop_n (k + 1) [(65, some _), (66, some _), (67, some _), (68, some _), (69, some 69)] hkl (by omega) (.of rfl rfl rfl rfl rfl ⟨⟨_, rfl, .refl _⟩, rfl, ⟨_, rfl, AVLe.of_eq (by rw [hlj]; rfl)⟩, rfl, ⟨_, rfl, .refl _⟩, rfl, ⟨_, rfl, .refl _⟩, rfl, ⟨_, rfl, .refl _⟩, rfl, ⟨_, rfl, .refl _⟩, rfl, ⟨_, rfl, .refl _⟩, rfl, trivial⟩ ⟨⟨rfl, rfl, _, rfl, .refl _⟩, ⟨rfl, rfl, _, rfl, .refl _⟩, ⟨rfl, chF_lt rfl _, _, rfl, chF_refl rfl⟩, ⟨rfl, rfl, _, rfl, RowLe.of_eq (by rw [htj]; rfl)⟩, ⟨rfl, rfl, _, rfl, .refl _⟩, trivial⟩)
    ·rw [show idxM x.blocks o = o from if_neg hbig] at htj
     have ho2 : p[((k : Int)).toNat]? = some o := by rw [Int.toNat_natCast]; exact ho
     have d4 : decide ((x.blocks : Int) < o.index) = false := dF hbig
     refine qR ?_;iterate 2 refine rC ?_
     refine rQ iE ?_;iterate 2 refine rC ?_
     refine rO ?_;refine rC ?_;refine rO ?_;refine rC ?_;refine rO ?_;refine rC ?_;refine rO ?_;refine rQ (index_arr tab_ok rfl rfl rfl rfl rfl (by omega) hp2) ?_;refine rO ?_
     refine rQ iL ?_;refine rO ?_;refine rQ iE ?_;refine rO ?_;refine rC ?_;refine rQ iT ?_;refine nS ?_;refine wT ?_;refine kS ?_;refine wc_seq ?_;refine wc_block ?_
     refine sR ?_;iterate 2 refine rC ?_
     refine rQ (index_arr tab_ok rfl rfl rfl rfl rfl (by omega) hp2) ?_;refine rQ iL ?_;refine rC ?_;refine rQ (index_arr tab_ok rfl rfl rfl rfl rfl (by omega) ho2) ?_
     refine rQ iL ?_;refine rN ?_;refine rW ?_;refine nQ ?_;refine sR ?_;refine rC ?_;refine rQ iB ?_;refine rC ?_;refine rQ iB ?_;refine rC ?_;refine nS ?_;refine wF ?_
     refine kS ?_;refine wc_region ?_;refine rC ?_;refine rQ iM ?_;refine reg_new (build_slice (s := 3) tab_ok rfl rfl rfl rfl rfl rfl rfl rfl) rfl ?_;refine reg_new2 (append_one (xs := (p.take k).map (idxM x.blocks)) (s := 3) (enc := encPOp) tab_ok o rfl rfl rfl rfl rfl rfl rfl rfl rfl hA rfl) rfl ?_
     refine rC ?_;refine reg_nil ?_;refine blk_n ?_;refine seq_n ?_;refine wc_region ?_;refine rC ?_;refine rQ iD ?_;refine rC ?_;refine reg_nil ?_
     exact loop_n (k + 1) [(65, some _), (66, some _), (67, some _), (68, some _), (69, some 69)] hkl (by omega) (.of rfl rfl rfl rfl rfl ⟨⟨_, rfl, .refl _⟩, rfl, ⟨_, rfl, AVLe.of_eq (by rw [hlj]; rfl)⟩, rfl, ⟨_, rfl, .refl _⟩, rfl, ⟨_, rfl, .refl _⟩, rfl, ⟨_, rfl, .refl _⟩, rfl, ⟨_, rfl, .refl _⟩, rfl, ⟨_, rfl, .refl _⟩, rfl, trivial⟩ ⟨⟨rfl, rfl, _, rfl, .refl _⟩, ⟨rfl, rfl, _, rfl, .refl _⟩, ⟨rfl, chF_lt rfl _, _, rfl, chF_refl rfl⟩, ⟨rfl, rfl, _, rfl, RowLe.of_eq (by rw [htj]; rfl)⟩, ⟨rfl, rfl, _, rfl, .refl _⟩, trivial⟩)
   ·have he : k = p.length := by omega
    subst he
    rw [List.take_length]
    refine wc_freeze (env' := [(9, _), (8, _), (7, _), (6, _), (5, _), (4, _), (2, _)]) (h' := [(65, some _), (66, some _), (67, some _), (69, some _)]) 68 _ rfl ⟨⟨_, rfl, .refl _⟩, ⟨_, rfl, Frz.own rfl⟩, ⟨_, rfl, .refl _⟩, ⟨_, rfl, .refl _⟩, ⟨_, rfl, .refl _⟩, ⟨_, rfl, .refl _⟩, ⟨_, rfl, .refl _⟩, trivial⟩ ⟨⟨rfl, _, rfl, .refl _⟩, ⟨rfl, _, rfl, .refl _⟩, ⟨rfl, _, rfl, .refl _⟩, ⟨rfl, _, rfl, .refl _⟩, trivial⟩ ?_
    by_cases hia : i < all.length
    ·have hp0 : all[i]? = some p := by rw [List.getElem?_eq_getElem hia] at hp ⊢; rw [← hp]; rfl
     have hp2 : all[((i : Int)).toNat]? = some p := by rw [Int.toNat_natCast]; exact hp0
     have d2 : decide ((i : Int) < (all.length : Int)) = true := dT (by omega)
     have d3 : decide ((p.length : Int) < (p.length : Int)) = false := dF (by omega)
     refine qR ?_;iterate 2 refine rC ?_
     refine rQ iE ?_;iterate 2 refine rC ?_
     refine rO ?_;refine rC ?_;refine rO ?_;refine rC ?_;refine rO ?_;refine rC ?_;refine rO ?_;refine rQ (index_arr tab_ok rfl rfl rfl rfl rfl (by omega) hp2) ?_;refine rO ?_
     refine rQ iL ?_;refine rO ?_;refine rQ iE ?_;refine rO ?_;refine rC ?_;refine rQ iT ?_;refine nS ?_;refine wF ?_;refine wc_exit ?_;refine seq_x ?_;refine loop_x ?_
     refine blk_x ?_;refine seq_n ?_;refine wc_region ?_;iterate 2 refine rC ?_
     refine reg_new (build_slice (s := 1) tab_ok rfl rfl rfl rfl rfl rfl rfl rfl) rfl ?_;refine reg_new2 (append_firstS (s := 1) tab_ok rfl rfl rfl rfl rfl rfl rfl rfl rfl rfl hA2 rfl) rfl ?_
     refine rC ?_;refine reg_nil ?_;refine blk_n ?_;refine seq_n ?_;refine wc_region ?_;refine rC ?_;refine rQ iD ?_;refine rC ?_;refine reg_nil ?_
     exact loop_n (i + 1) [(65, some _), (66, some _), (67, some _), (69, some 69)] hlt (by omega) (.of rfl rfl rfl rfl rfl ⟨⟨_, rfl, .refl _⟩, rfl, ⟨_, rfl, AVLe.of_eq (by rw [hLi', hgo]; simp [AV.ren, rho]; rfl)⟩, rfl, ⟨_, rfl, .refl _⟩, rfl, ⟨_, rfl, .refl _⟩, rfl, ⟨_, rfl, .refl _⟩, rfl, trivial⟩ ⟨⟨rfl, rfl, _, rfl, .refl _⟩, ⟨rfl, rfl, _, rfl, .refl _⟩, ⟨rfl, lt_F hLi' hgo rfl, _, rfl, le_F hLi' hgo (by simp) (by simp) rfl⟩, ⟨rfl, rfl, _, rfl, RowLe.of_eq (by rw [hLi', hgo]; rfl)⟩, trivial⟩)
    ·have d2 : decide ((i : Int) < (all.length : Int)) = false := dF (by omega)
     refine qR ?_;iterate 2 refine rC ?_
     refine rQ iE ?_;iterate 2 refine rC ?_
     iterate 7 refine rS ?_
     refine rQ iF ?_;refine nS ?_;refine wG ?_;refine wc_exit ?_;refine seq_x ?_;refine loop_x ?_;refine blk_x ?_;refine seq_n ?_;refine wc_region ?_;iterate 2 refine rC ?_
     refine reg_new (build_slice (s := 1) tab_ok rfl rfl rfl rfl rfl rfl rfl rfl) rfl ?_;refine reg_new2 (append_firstS (s := 1) tab_ok rfl rfl rfl rfl rfl rfl rfl rfl rfl rfl hA2 rfl) rfl ?_
     refine rC ?_;refine reg_nil ?_;refine blk_n ?_;refine seq_n ?_;refine wc_region ?_;refine rC ?_;refine rQ iD ?_;refine rC ?_;refine reg_nil ?_
     exact loop_n (i + 1) [(65, some _), (66, some _), (67, some _), (69, some 69)] hlt (by omega) (.of rfl rfl rfl rfl rfl ⟨⟨_, rfl, .refl _⟩, rfl, ⟨_, rfl, AVLe.of_eq (by rw [hLi', hgo]; simp [AV.ren, rho]; rfl)⟩, rfl, ⟨_, rfl, .refl _⟩, rfl, ⟨_, rfl, .refl _⟩, rfl, ⟨_, rfl, .refl _⟩, rfl, trivial⟩ ⟨⟨rfl, rfl, _, rfl, .refl _⟩, ⟨rfl, rfl, _, rfl, .refl _⟩, ⟨rfl, lt_F hLi' hgo rfl, _, rfl, le_F hLi' hgo (by simp) (by simp) rfl⟩, ⟨rfl, rfl, _, rfl, RowLe.of_eq (by rw [hLi', hgo]; rfl)⟩, trivial⟩)
 ·have he : i = x.clients := by omega
  subst he
  have d1 : decide ((x.clients : Int) < (x.clients : Int)) = false := dF (by omega)
  rw [hL]
  refine qR ?_;iterate 2 refine rC ?_
  refine rQ iB ?_;refine rC ?_;refine nS ?_;refine wF ?_;refine wc_exit ?_;refine seq_x ?_;refine loop_x ?_;refine blk_x ?_;refine seq_n ?_;refine sR ?_;refine rQ iM ?_
  refine rC ?_;refine rW ?_;refine rC ?_;refine nS ?_;refine wc_ret ?_
  exact ⟨trivial, _, rfl, [(64, some 67), (65, some 69)], .of rfl rfl rfl rfl rfl ⟨⟨_, rfl, AVLe.of_eq rfl⟩, rfl, trivial⟩ ⟨⟨rfl, chF_lt rfl _, _, rfl, chF_refl rfl⟩, ⟨rfl, rfl, _, rfl, .refl _⟩, trivial⟩⟩
end Go.Proofs.YthiijfbcfoifnaaGreatDoor
namespace Go.Proofs.YthiijfbcfoifnaaGreatDoor
open Go.Eng Go.Plain
theorem findC_none {v : List UInt8} (h1 : v ≠ sPick) (h2 : v ≠ sEdit) (h3 : v ≠ sErase) (h4 : v ≠ sReplay) (h5 : v ≠ sFall) : findC v kindL 0 = none := by
 simp [findC, kindL, h1, h2, h3, h4, h5]
theorem act_is (t : List UInt8) (ht : t.length ≤ 1048576) : ∃ a res, ActIs t a res ∧ readA t = if res = true then some a else none := by
 have key : ∀ (a : SAct) (res : Bool), ActIs t a res → (res = true → readA t = some a) → (∀ d, readA t = some d → res = true) → ∃ a res, ActIs t a res ∧ readA t = if res = true then some a else none := by
  intro a res h1 h2 h3
  refine ⟨a, res, h1, ?_⟩
  cases res with
  | true => rw [if_pos rfl]; exact h2 rfl
  | false =>
   rw [if_neg (by decide)]
   cases hq : readA t with
   | none => rfl
   | some d => have := h3 d hq; cases this
 have q0 := split_len ht
 obtain ⟨v, r, hs⟩ : ∃ v r, splitL t 32 = v :: r := by
  cases h : splitL t 32 with
  | nil => exact absurd h (splitL_ne t 32)
  | cons v r => exact ⟨v, r, rfl⟩
 have hr : ∀ w ∈ r, w.length ≤ 1048576 := fun w hw => q0 w (by rw [hs]; simp [hw])
 have hf : (nx (splitL t 32) false).1 = v := by rw [hs]; rfl
 have hq : (nx (splitL t 32) false).2.1 = r := by rw [hs]; rfl
 have hb : (nx (splitL t 32) false).2.2 = false := by rw [hs]; rfl
 by_cases h1 : v = sPick
 ·subst h1
  obtain ⟨⟨n1, r1, b1⟩, e1⟩ : ∃ x, nmb 31 r false = x := ⟨_, rfl⟩
  have hk := kind1_is r false hr
  rw [e1] at hk
  refine key _ _ (action_some t ht 0 _ (by rw [hf]; rfl) _ (r1, b1) (by rw [hq, hb]; exact hk)) (fun h => ?_) (fun d h => ?_)
  ·obtain ⟨rfl, rfl⟩ := endB_true h
   obtain ⟨w1, rfl, _, g1⟩ := nmb_fwd e1
   simp only [readA, hs, if_pos, g1, Option.map_some]
  ·unfold readA at h
   rw [hs] at h
   split at h <;> rename_i hx <;> try cases hx
   ·simp [sPick, sFall] at h
   ·rename_i w1
    cases g1 : numS 31 w1 with
    | none => rw [if_pos rfl, g1] at h; cases h
    | some n => rw [nmb_some g1] at e1; cases e1; rfl
   ·simp [sPick, sEdit, sReplay] at h
   ·cases h
 by_cases h2 : v = sEdit
 ·subst h2
  obtain ⟨⟨n1, r1, b1⟩, e1⟩ : ∃ x, nmb 31 r false = x := ⟨_, rfl⟩
  obtain ⟨⟨m, r2, b2⟩, e2⟩ : ∃ x, byt r1 b1 = x := ⟨_, rfl⟩
  have hk := kind2_is r false hr
  rw [e1] at hk
  simp only [e2] at hk
  refine key _ _ (action_some t ht 1 _ (by rw [hf]; rfl) _ (r2, b2) (by rw [hq, hb]; exact hk)) (fun h => ?_) (fun d h => ?_)
  ·obtain ⟨rfl, rfl⟩ := endB_true h
   obtain ⟨w2, rfl, rfl, g2⟩ := byt_fwd e2
   obtain ⟨w1, rfl, _, g1⟩ := nmb_fwd e1
   simp only [readA, hs, if_pos, g1, g2]
  ·unfold readA at h
   rw [hs] at h
   split at h <;> rename_i hx <;> try cases hx
   ·simp [sEdit, sFall] at h
   ·simp [sEdit, sPick, sErase] at h
   ·rename_i w1 w2
    rw [if_pos rfl] at h
    split at h
    ·rename_i n d' g1 g2
     rw [nmb_some g1] at e1
     cases e1
     rw [byt_some g2] at e2
     cases e2
     rfl
    ·cases h
   ·cases h
 by_cases h3 : v = sErase
 ·subst h3
  obtain ⟨⟨n1, r1, b1⟩, e1⟩ : ∃ x, nmb 31 r false = x := ⟨_, rfl⟩
  have hk := kind3_is r false hr
  rw [e1] at hk
  refine key _ _ (action_some t ht 2 _ (by rw [hf]; rfl) _ (r1, b1) (by rw [hq, hb]; exact hk)) (fun h => ?_) (fun d h => ?_)
  ·obtain ⟨rfl, rfl⟩ := endB_true h
   obtain ⟨w1, rfl, _, g1⟩ := nmb_fwd e1
   simp only [readA, hs, if_neg h1, if_pos, g1, Option.map_some]
  ·unfold readA at h
   rw [hs] at h
   split at h <;> rename_i hx <;> try cases hx
   ·simp [sErase, sFall] at h
   ·rename_i w1
    cases g1 : numS 31 w1 with
    | none => rw [if_neg h1, if_pos rfl, g1] at h; cases h
    | some n => rw [nmb_some g1] at e1; cases e1; rfl
   ·simp [sErase, sEdit, sReplay] at h
   ·cases h
 by_cases h4 : v = sReplay
 ·subst h4
  obtain ⟨⟨n1, r1, b1⟩, e1⟩ : ∃ x, nmb 31 r false = x := ⟨_, rfl⟩
  obtain ⟨⟨n2, r2, b2⟩, e2⟩ : ∃ x, nmb 31 r1 b1 = x := ⟨_, rfl⟩
  have hk := kind4_is r false hr
  rw [e1] at hk
  simp only [e2] at hk
  refine key _ _ (action_some t ht 3 _ (by rw [hf]; rfl) _ (r2, b2) (by rw [hq, hb]; exact hk)) (fun h => ?_) (fun d h => ?_)
  ·obtain ⟨rfl, rfl⟩ := endB_true h
   obtain ⟨w2, rfl, rfl, g2⟩ := nmb_fwd e2
   obtain ⟨w1, rfl, _, g1⟩ := nmb_fwd e1
   simp only [readA, hs, if_neg h2, if_pos, g1, g2]
  ·unfold readA at h
   rw [hs] at h
   split at h <;> rename_i hx <;> try cases hx
   ·simp [sReplay, sFall] at h
   ·simp [sReplay, sPick, sErase] at h
   ·rename_i w1 w2
    rw [if_neg h2, if_pos rfl] at h
    split at h
    ·rename_i n k g1 g2
     rw [nmb_some g1] at e1
     cases e1
     rw [nmb_some g2] at e2
     cases e2
     rfl
    ·cases h
   ·cases h
 by_cases h5 : v = sFall
 ·subst h5
  have hk := kind5_is r false
  refine key _ _ (action_some t ht 4 _ (by rw [hf]; rfl) _ (r, false) (by rw [hq, hb]; exact hk)) (fun h => ?_) (fun d h => ?_)
  ·obtain ⟨rfl, _⟩ := endB_true h
   simp only [readA, hs, if_pos]
  ·unfold readA at h
   rw [hs] at h
   split at h <;> rename_i hx <;> try cases hx
   ·rfl
   ·simp [sFall, sPick, sErase] at h
   ·simp [sFall, sEdit, sReplay] at h
   ·cases h
 ·refine key _ _ (action_none t ht (by rw [hf]; exact findC_none h1 h2 h3 h4 h5)) (fun h => by cases h) (fun d h => ?_)
  unfold readA at h
  rw [hs] at h
  split at h <;> rename_i hx <;> try cases hx
  ·rw [if_neg h5] at h; cases h
  ·rw [if_neg h1, if_neg h3] at h; cases h
  ·rw [if_neg h2, if_neg h4] at h; cases h
  ·cases h
end Go.Proofs.YthiijfbcfoifnaaGreatDoor
namespace Go.Eng
open Go.RowKit
section
variable {P : Program} {T : Tab} {env : Env} {h : Upds} {n : Nat}
theorem slice_mid (hT : TabOk P T) {t e : Nat} {re : TyR} {x i j : Operand} {α : Type} {s : Nat} {enc : α → D} {xs : List α} {k k' : IntKind} {m q : Nat} (ht : tdesc T t = some (.slice e)) (he : lk T e = some re) (hs : Nat.beq re.size s = true)
  (hx : evalA env x = some (.d (.arr s enc xs))) (hi : evalA env i = some (.int k m)) (hj : evalA env j = some (.int k' q)) (h1 : m ≤ q) (h2 : q ≤ xs.length) : StepIs P (.slice t x (some i) (some j) none) env h n (some (.d (.arr s enc ((xs.drop m).take (q - m))))) [] := .of_comes fun C G st σ w a o ho hA hdst hst hn => by
 obtain ⟨ud, hud, hdd⟩ := tdesc_und hT ht
 cases hdd
 have hs := Nat.eq_of_beq_eq_true hs
 obtain ⟨hx1, _⟩ := ev_sound hst (hA.ev hx)
 obtain ⟨hi1, _⟩ := RelV.sc.1 (ev_sound hst (hA.ev hi)).1
 obtain ⟨hj1, _⟩ := RelV.sc.1 (ev_sound hst (hA.ev hj)).1
 have hsz := (hT e re he).run_size (P := P)
 have hlen : ((xs.drop m).take (q - m)).length = q - m := by rw [List.length_take, List.length_drop]; omega
 rcases RelV.arr.1 hx1 with ⟨rfl, hv⟩ | ⟨ad, c, hv, hc1, hc2, f, hf⟩
 ·have hq0 : q = 0 := by simpa using h2
  subst hq0
  have hm0 : m = 0 := by omega
  subst hm0
  refine .quiet (u := .slice none 0 0) hst hdst ⟨rfl, rfl⟩ ?_ (RelV.arr.2 (.inl ⟨rfl, rfl⟩)) trivial
  simp [execOp, ho, Instr.sliceAt, Instr.slice, hv, hi1, hj1, run_underlying hud, Instr.sliceBounds, Instr.sliceBound, asIntOf, hsz, Sem.run_bind, Sem.run_pure, Result.andThen_ok]
 ·refine .quiet (u := .slice (some (if c = m then ad else ad.add (m * s))) (q - m) (c - m)) hst hdst ⟨rfl, rfl⟩ ?_ (RelV.arr.2 (.inr ⟨_, c - m, by rw [hlen], by rw [hlen]; omega, by omega, fun j => f (j + m), fun j hj => ?_⟩)) trivial
  ·have hcm : ¬ c < m := by omega
   have hcq : ¬ c < q := by omega
   have hqm : ¬ q < m := by omega
   simp [execOp, ho, Instr.sliceAt, Instr.slice, hv, hi1, hj1, run_underlying hud, Instr.sliceBounds, Instr.sliceBound, asIntOf, hsz, hs, Sem.run_bind, Sem.run_pure, Result.andThen_ok, hcq, hcm, hqm]
   repeat (first | rw [if_pos (by omega)] | rw [if_neg (by omega)] | (split <;> first | rfl | omega))
  ·have hj2 : j + m < xs.length := by rw [hlen] at hj; omega
   obtain ⟨g1, g2, g3⟩ := hf (j + m) hj2
   refine ⟨by rw [List.getElem_take, List.getElem_drop]; simpa [Nat.add_comm] using g1, g2, fun q' u hu => ?_⟩
   have := g3 q' u hu
   rw [if_neg (by rw [hlen] at hj; omega), add_add, Addr.add_block]
   rw [show m * s + (j * s + q') = (j + m) * s + q' by rw [Nat.add_mul]; omega]
   exact this
end
end Go.Eng
namespace Go.Proofs.YthiijfbcfoifnaaGreatDoor
open Go.Eng Go.Plain Go.RowKit
set_option maxHeartbeats 4000000
set_option maxRecDepth 20000
attribute [local irreducible] WC RegS RegD SeqQ BlkQ ScoQ RegK CutK Sat SatN FnIs LoopQ StepIs OpIs
theorem suffix_last (l : List UInt8) (c : UInt8) : Lib.hasSuffix l [c] = decide (l.getLast? = some c) := by
 rw [Bool.eq_iff_iff, decide_eq_true_eq, Lib.hasSuffix, List.isSuffixOf_iff_suffix, List.getLast?_eq_some_iff]
 exact ⟨fun ⟨t, h⟩ => ⟨t, h.symm⟩, fun ⟨t, h⟩ => ⟨t, h.symm⟩⟩
theorem suffix_is {l : List UInt8} (c : UInt8) (hl : l.length ≤ 9223372036854775807) : FnIs Tryz.prog 45 [.d (strD l), .d (strD [c])] [] (.bool (decide (l.getLast? = some c))) [] :=
 .of_calls1 rfl ⟨_, Tryz.func45, by kernel_rfl, by kernel_rfl⟩ fun σ w X vs ha hg => by
  rw [ha.two]
  refine (Tryz.strings_HasSuffix (mkS l) (mkS [c]) w (by rw [mkS_size]; exact hl)).mono ?_
  rintro e w' ⟨rfl, rfl⟩
  exact ⟨by rw [mkS_data, mkS_data, suffix_last], Below.refl _ _⟩
theorem index_is (ls : List (List UInt8)) (v : List UInt8) (hL : ls.length ≤ 1000000000) : FnIs Tryz.prog 48 [.d (.arr 1 strD ls), .d (strD v)] [] (.int .i64 (idxF (fun x => x == v) ls)) [] := by
 refine fnIs_of tab_ok Tryz.func48 rfl rfl rfl ?_;refine sR ?_;refine rC ?_;refine nQ ?_;refine sR ?_;refine rC ?_;refine rQ iE ?_;refine rC ?_;refine nS ?_;refine wc_block ?_
 refine wc_inv (fun i : Nat => ⟨[(8, .int .i64 i), (7, .int .i64 ls.length), (1, .d (strD v)), (0, .d (.arr 1 strD ls))], [], 72, Tryz.f48.ntmps, 64⟩) (fun i => i ≤ ls.length ∧ ∀ j, j < i → ∀ y, ls[j]? = some y → (y == v) = false) (fun i => ls.length - i) 0 [] ⟨Nat.zero_le _, fun j hj => absurd hj (Nat.not_lt_zero _)⟩
  (.of rfl rfl rfl rfl rfl ⟨⟨_, rfl, .refl _⟩, rfl, ⟨_, rfl, .refl _⟩, rfl, ⟨_, rfl, .refl _⟩, rfl, ⟨_, rfl, .refl _⟩, rfl, trivial⟩ trivial) ?_
 rintro i ⟨hi, hno⟩
 refine wc_of ?_;refine sR ?_;refine rC ?_;refine nQ ?_
 by_cases hlt : i < ls.length
 ·have d1 : decide ((i : Int) < (ls.length : Int)) = true := dT (by omega)
  obtain ⟨x, hx⟩ : ∃ x, ls[i]? = some x := ⟨_, List.getElem?_eq_getElem hlt⟩
  have hx2 : ls[((i : Int)).toNat]? = some x := by rw [Int.toNat_natCast]; exact hx
  by_cases he : v = x
  ·have d2 : decide (v = x) = true := dT he
   rw [idxF_some hx (p := fun x => x == v) (by simp [he]) hno]
   refine wT ?_;refine kS ?_;refine wc_seq ?_;refine wc_block ?_;refine sR ?_;iterate 2 refine rC ?_
   refine nR ?_;iterate 3 refine rC ?_
   refine rQ (index_arr tab_ok rfl rfl rfl rfl rfl (by omega) hx2) ?_;refine rQ iL ?_;refine rQ (eql_s (a := v) (b := x) tab_ok rfl rfl rfl) ?_;refine nS ?_;refine wT ?_
   refine sR ?_;iterate 2 refine rC ?_
   refine nS ?_;refine wc_ret ?_;refine blk_r ?_;refine seq_r ?_;refine loop_r ?_;refine blk_r ?_;refine seq_r ?_
   exact ⟨trivial, [], lf⟩
  ·have d2 : decide (v = x) = false := dF he
   refine wT ?_;refine kS ?_;refine wc_seq ?_;refine wc_block ?_;refine sR ?_;iterate 2 refine rC ?_
   refine nR ?_;iterate 3 refine rC ?_
   refine rQ (index_arr tab_ok rfl rfl rfl rfl rfl (by omega) hx2) ?_;refine rQ iL ?_;refine rQ (eql_s (a := v) (b := x) tab_ok rfl rfl rfl) ?_;refine nS ?_;refine wF ?_
   refine wc_skip ?_;refine blk_n ?_;refine seq_n ?_;refine wc_region ?_;refine rQ iD ?_;refine rC ?_;refine reg_nil ?_
   exact loop_n (i + 1) [] ⟨hlt, fun j hj y hy => by
    by_cases e : j = i
    ·subst e; rw [hx] at hy; cases hy; simpa using fun h => he h.symm
    ·exact hno j (by omega) y hy⟩ (by omega) (.of rfl rfl rfl rfl rfl ⟨⟨_, rfl, .refl _⟩, rfl, ⟨_, rfl, .refl _⟩, rfl, ⟨_, rfl, .refl _⟩, rfl, ⟨_, rfl, .refl _⟩, rfl, trivial⟩ trivial)
 ·have he : i = ls.length := by omega
  subst he
  have d1 : decide ((ls.length : Int) < (ls.length : Int)) = false := dF (by omega)
  rw [idxF_none (p := fun x => x == v) (fun j y hy => hno j ((List.getElem?_eq_some_iff.1 hy).1) y hy)]
  refine wF ?_;refine wc_exit ?_;refine seq_x ?_;refine loop_x ?_;refine blk_x ?_;refine seq_n ?_;refine sR ?_;refine rC ?_;refine nS ?_;refine wc_ret ?_
  exact ⟨trivial, [], lf⟩
theorem clipA_is (l : List SAct) : FnIs Tryz.prog 50 [.d (encAs l)] [] (.d (encXAs l)) [] := by
 refine fnIs_of tab_ok Tryz.func50 rfl rfl rfl ?_;refine sR ?_;refine rC ?_;refine nR ?_;iterate 2 refine rC ?_
 refine rQ iE ?_;refine rC ?_;refine rQ iE ?_;refine rQ (slice_clip_arr tab_ok rfl rfl rfl rfl rfl) ?_;refine rC ?_;refine nS ?_;refine wc_ret ?_
 exact ⟨trivial, [], lf⟩
end Go.Proofs.YthiijfbcfoifnaaGreatDoor
namespace Go.Proofs.YthiijfbcfoifnaaGreatDoor
open Go.Eng Go.Plain
set_option maxHeartbeats 8000000
set_option maxRecDepth 20000
attribute [local irreducible] WC RegS RegD SeqQ BlkQ ScoQ RegK CutK Sat SatN FnIs LoopQ StepIs OpIs
abbrev encScrX (c : SCfg) (l : List (List POp)) (bs : List SAct) : D := .cons (encCfg c) (.cons (.arx 1 encXP l) (.cons (encXAs bs) .nil))
abbrev parSA (x : SScr) (n : Nat) (e : Int) : AV := .tup (.acons (.d (encScrX x.1 x.2.1 x.2.2)) (.acons (.int .i64 n) (.acons (.d (i6 e)) .anil)))
theorem z30_le : DLe r30.zero (encScrX zCfg [] []) := DLe.cons (DLe.of_eq rfl) (DLe.cons (DLe.nil_arx _ _) (DLe.cons (DLe.nil_arx _ _) (.refl _)))
theorem xl_le (l : List (List POp)) : DLe (.arx 1 encXP l) (encPL l) := fun _ _ cs h => Enc.arx_arr (fun _ c hc => Enc.arx_arr (fun _ _ h => h) c hc) cs h
theorem split3 {t : TypeId} {a b x r : D} : RowLe (.box t (.d (.cons a (.cons b (.cons x r))))) (.box t (.acons (.d a) (.acons (.d b) (.acons (.d x) (.d r))))) := by
 rintro σ w X q ⟨_, b', cs, h1, h2, h3⟩
 exact ⟨rfl, b', cs, h1, h2, h3⟩
theorem sparse_long (t : List UInt8) (h : 1048576 < t.length) : FnIs Tryz.prog 15 [.d (strD t)] [] (parSA zScr 0 3) [] := by
 have hd : decide (1048576 < (t.length : Int)) = true := dT (by omega)
 refine fnIs_of tab_ok Tryz.func15 rfl rfl rfl ?_;refine sR ?_;refine rN ?_;iterate 2 refine rC ?_
 refine nQ ?_;refine sR ?_;refine rC ?_;refine rQ (len_s tab_ok rfl rfl) ?_;refine rC ?_;refine nS ?_;refine wT ?_;refine sR ?_;refine rQ iS ?_;refine rW ?_;iterate 2 refine rC ?_
 refine nS ?_;refine wc_ret ?_;refine seq_r ?_
 exact ⟨trivial, _, rfl, [], .of rfl rfl rfl rfl rfl ⟨⟨_, rfl, AVLe.tup1 (AVLe.d z30_le rfl) rfl⟩, rfl, trivial⟩ trivial⟩
theorem sparse_nosuf (t : List UInt8) (h : t.length ≤ 1048576) (hlast : t.getLast? ≠ some 10) : FnIs Tryz.prog 15 [.d (strD t)] [] (parSA zScr 0 5) [] := by
 have hd : decide (1048576 < (t.length : Int)) = false := dF (by omega)
 have hsuf := suffix_is (l := t) 10 (by omega)
 rw [dF hlast] at hsuf
 refine fnIs_of tab_ok Tryz.func15 rfl rfl rfl ?_;refine sR ?_;refine rN ?_;iterate 2 refine rC ?_
 refine nQ ?_;refine sR ?_;refine rC ?_;refine rQ (len_s tab_ok rfl rfl) ?_;refine rC ?_;refine nS ?_;refine wF ?_;refine kS ?_;refine qR ?_;refine rC ?_;refine rQ (call_r hsuf rfl rfl (arg_e (arg_e arg_nil)) (.inl rfl) (fun _ => rfl)) ?_
 refine rC ?_;refine nS ?_;refine wV ?_;refine sR ?_;refine rQ iS ?_;refine rW ?_;iterate 2 refine rC ?_
 refine nS ?_;refine wc_ret ?_;refine seq_r ?_
 exact ⟨trivial, _, rfl, [], .of rfl rfl rfl rfl rfl ⟨⟨_, rfl, AVLe.tup1 (AVLe.d z30_le rfl) rfl⟩, rfl, trivial⟩ trivial⟩
theorem linesT_app (a b : List (List UInt8)) : linesT (a ++ b) = linesT a ++ linesT b := by simp [linesT]
theorem linesT_take (l : List (List UInt8)) (i : Nat) : (linesT (l.take i)).length ≤ (linesT l).length := by
 have := congrArg List.length (linesT_app (l.take i) (l.drop i))
 rw [List.take_append_drop, List.length_append] at this
 omega
theorem linesT_drop (l : List (List UInt8)) (i : Nat) : (linesT (l.drop i)).length ≤ (linesT l).length := by
 have := congrArg List.length (linesT_app (l.take i) (l.drop i))
 rw [List.take_append_drop, List.length_append] at this
 omega
def preA (bs : List SAct) : List SAct ⊕ Nat → List SAct ⊕ Nat
 | .inl l => .inl (bs ++ l)
 | .inr j => .inr j
theorem preA_nil (x : List SAct ⊕ Nat) : preA [] x = x := by cases x <;> rfl
theorem preA_cons (bs : List SAct) (a : SAct) (x : List SAct ⊕ Nat) : preA bs (match x with
  | .inl l => .inl (a :: l)
  | .inr j => .inr j) = preA (bs ++ [a]) x := by cases x <;> simp [preA]
theorem parse_num : ∀ (k : Nat) (s : List UInt8) (l m : List (List POp)) (n j : Nat) (e : Int), s.length ≤ k → parseP s l n = (m, j, e) → j ≤ n + s.length := by
 intro k
 induction k with
 | zero =>
  intro s l m n j e hs h
  have : s = [] := List.length_eq_zero_iff.1 (by omega)
  subst this
  rw [parseP_nil] at h
  cases h
  omega
 | succ k ih =>
  intro s l m n j e hs h
  by_cases hs0 : s = []
  ·subst hs0
   rw [parseP_nil] at h
   cases h
   omega
  ·cases hcut : cutL s 10 with
   | none => rw [parseP_none l _ hs0 hcut] at h; cases h; omega
   | some pq =>
    obtain ⟨t, r⟩ := pq
    rw [parseP_some l _ hs0 hcut] at h
    have hsr := congrArg List.length (cutL_some hcut).1
    simp only [List.length_append, List.length_cons] at hsr
    split at h
    ·have := ih r _ m _ j e (by omega) h
     omega
    ·cases h; omega
abbrev R0 : D := .cons (.sc nil_) (.cons (.sc nil_) .nil)
abbrev rowA (c : SCfg) (l : List (List POp)) (bs : List SAct) (r : Nat) : Row := .box 30 (.acons (.d (encCfg c)) (.acons (.d (.arx 1 encXP l)) (.acons (.own r 0 bs.length 5 none) (.d .nil))))
theorem sparse_main (t : List UInt8) (h : t.length ≤ 1048576) (hlast : t.getLast? = some 10) : FnIs Tryz.prog 15 [.d (strD t)] [] (parSA (parseLs (splitL t.dropLast 10)).1 (parseLs (splitL t.dropLast 10)).2.1 (parseLs (splitL t.dropLast 10)).2.2) [] := by
 have hd : decide (1048576 < (t.length : Int)) = false := dF (by omega)
 have hsuf := suffix_is (l := t) 10 (by omega)
 rw [dT hlast] at hsuf
 have hpos : 0 < t.length := by
  cases t with
  | nil => cases hlast
  | cons a l => simp
 have hdlen : t.dropLast.length = t.length - 1 := List.length_dropLast
 have hw1 : IntKind.i64.wrap ((t.length : Int) - 1) = ((t.length - 1 : Nat) : Int) := by rw [wrap_i64 (by omega) (by omega)]; omega
 have hdl : t.take (t.length - 1) = t.dropLast := List.dropLast_eq_take.symm
 have hsp := split_is (l := t.dropLast) (c := 10) (by omega)
 have hall := split_all 10 t.dropLast
 rw [← last_drop hlast] at hall
 have hlsn := splitL_len t.dropLast 10
 have hmem : ∀ w ∈ splitL t.dropLast 10, w.length ≤ 1048576 := fun w hw => by have := split_mem_le t.dropLast 10 w hw; omega
 obtain ⟨ls, hls⟩ : ∃ ls, splitL t.dropLast 10 = ls := ⟨_, rfl⟩
 rw [hls] at hsp hall hlsn hmem ⊢
 have hTls : linesT ls = t := hall
 have hlsn : ls.length ≤ 1048576 := by omega
 clear hall hls
 refine fnIs_of tab_ok Tryz.func15 rfl rfl rfl ?_;refine sR ?_;refine rN ?_;iterate 2 refine rC ?_
 refine nQ ?_;refine sR ?_;refine rC ?_;refine rQ (len_s tab_ok rfl rfl) ?_;refine rC ?_;refine nS ?_;refine wF ?_;refine kS ?_;refine qR ?_;refine rC ?_;refine rQ (call_r hsuf rfl rfl (arg_e (arg_e arg_nil)) (.inl rfl) (fun _ => rfl)) ?_
 refine rC ?_;refine nS ?_;refine wG ?_;refine kS ?_;refine sR ?_;iterate 2 refine rC ?_
 refine rQ (len_s tab_ok rfl rfl) ?_;refine rQ (sub_int (m := ((t.length - 1 : Nat) : Int)) tab_ok rfl rfl hw1) ?_;refine rQ (str_to (l := t) (hi := t.length - 1) (m := t.dropLast) tab_ok rfl rfl rfl (by omega) hdl) ?_
 refine rQ (call_r hsp rfl rfl (arg_e (arg_e arg_nil)) (.inl rfl) (fun _ => rfl)) ?_;refine rC ?_;refine nQ ?_;refine sR ?_;refine rC ?_;refine nS ?_;refine wc_block ?_
 refine wc_inv (fun x : Nat × SCfg => ⟨[(31, .int .i64 x.1), (5, .d (.arr 1 strD ls)), (2, .ptr 64 [])], [(64, some (rowC x.2 R0))], 72, Tryz.f15.ntmps, 64⟩) (fun x => x.1 ≤ 5 ∧ x.1 ≤ ls.length ∧ headsS 5 0 ls zCfg = headsS (5 - x.1) x.1 (ls.drop x.1) x.2) (fun x => 5 - x.1) (0, zCfg) [(64, some _)] ⟨Nat.zero_le _, Nat.zero_le _, rfl⟩
  (.of rfl rfl rfl rfl rfl ⟨⟨_, rfl, .refl _⟩, rfl, ⟨_, rfl, .refl _⟩, rfl, ⟨_, rfl, .refl _⟩, rfl, trivial⟩ ⟨⟨rfl, rfl, _, rfl, RowLe.of_eq rfl⟩, trivial⟩) ?_
 rintro ⟨i, c⟩ ⟨hi5, hil, hinv⟩
 simp only at hi5 hil hinv
 refine wc_of ?_
 by_cases hi : i < 5
 ·have d1 : decide ((i : Int) < 5) = true := dT (by omega)
  obtain ⟨f, hf⟩ : ∃ f, 5 - i = f + 1 := ⟨4 - i, by omega⟩
  by_cases hlt : i < ls.length
  ·have d2 : decide ((ls.length : Int) ≤ (i : Int)) = false := dF (by omega)
   obtain ⟨x, hx⟩ : ∃ x, ls[i]? = some x := ⟨_, List.getElem?_eq_getElem hlt⟩
   have hx2 : ls[((i : Int)).toNat]? = some x := by rw [Int.toNat_natCast]; exact hx
   have hdr : ls.drop i = x :: ls.drop (i + 1) := by
    rw [List.drop_eq_getElem_cons hlt]
    rw [List.getElem?_eq_getElem hlt] at hx
    rw [Option.some.inj hx]
   obtain ⟨res, c', hh, hq⟩ := head_is i hi x c R0 (hmem x (List.mem_of_getElem? hx))
   rw [hf, hdr, headsS, hq] at hinv
   unfold HeadIs at hh
   cases res with
   | true =>
    refine sR ?_;refine rC ?_;refine nQ ?_;refine wT ?_;refine kS ?_;refine wc_seq ?_;refine wc_block ?_;refine sR ?_;iterate 2 refine rC ?_
    refine nR ?_;iterate 2 refine rC ?_
    refine rQ iE ?_;iterate 2 refine rC ?_
    refine rO ?_;refine rC ?_;refine rO ?_;refine rC ?_;refine rO ?_;refine rC ?_;refine rO ?_;refine rQ (index_arr tab_ok rfl rfl rfl rfl rfl (by omega) hx2) ?_;refine rO ?_
    refine rQ iL ?_;refine rO ?_;refine rC ?_;refine rO ?_;refine reg_new2 (call_h [(0, some 64)] hh rfl rfl rfl (arg_e (arg_e (arg_ptr rfl rfl arg_nil))) ⟨⟨rfl, rfl, _, _, rfl, rfl, .refl _⟩, trivial⟩ rfl rfl (.inl rfl) rfl rfl) rfl ?_
    refine rO ?_;refine rC ?_;refine rQ iF ?_;refine nS ?_;refine wG ?_;refine wc_skip ?_;refine blk_n ?_;refine seq_n ?_;refine wc_region ?_;refine rQ iD ?_;refine rC ?_
    refine reg_nil ?_
    exact loop_n (i + 1, c') [] ⟨hi, hlt, by rw [hinv, if_pos rfl]; show headsS f (i + 1) _ _ = headsS (5 - (i + 1)) (i + 1) _ _; rw [show 5 - (i + 1) = f by omega]⟩ (by show 5 - (i + 1) < 5 - i; omega) (.of rfl rfl rfl rfl rfl ⟨⟨_, rfl, .refl _⟩, rfl, ⟨_, rfl, .refl _⟩, rfl, ⟨_, rfl, .refl _⟩, rfl, trivial⟩ ⟨⟨rfl, rfl, _, rfl, .refl _⟩, trivial⟩)
   | false =>
    rw [show parseLs ls = (zScr, i + 1, 5) by unfold parseLs; rw [hinv, if_neg (by decide)]]
    refine sR ?_;refine rC ?_;refine nQ ?_;refine wT ?_;refine kS ?_;refine wc_seq ?_;refine wc_block ?_;refine sR ?_;iterate 2 refine rC ?_
    refine nR ?_;iterate 2 refine rC ?_
    refine rQ iE ?_;iterate 2 refine rC ?_
    refine rO ?_;refine rC ?_;refine rO ?_;refine rC ?_;refine rO ?_;refine rC ?_;refine rO ?_;refine rQ (index_arr tab_ok rfl rfl rfl rfl rfl (by omega) hx2) ?_;refine rO ?_
    refine rQ iL ?_;refine rO ?_;refine rC ?_;refine rO ?_;refine reg_new2 (call_h [(0, some 64)] hh rfl rfl rfl (arg_e (arg_e (arg_ptr rfl rfl arg_nil))) ⟨⟨rfl, rfl, _, _, rfl, rfl, .refl _⟩, trivial⟩ rfl rfl (.inl rfl) rfl rfl) rfl ?_
    refine rO ?_;refine rC ?_;refine rQ iF ?_;refine nS ?_;refine wV ?_;refine sR ?_;refine rQ iS ?_;refine rC ?_;refine rQ iD ?_;refine rW ?_;iterate 2 refine rC ?_
    refine nS ?_;refine wc_ret ?_;refine blk_r ?_;refine seq_r ?_;refine loop_r ?_;refine blk_r ?_;refine seq_r ?_
    exact ⟨trivial, _, rfl, [], .of rfl rfl rfl rfl rfl ⟨⟨_, rfl, AVLe.tup1 (AVLe.d z30_le rfl) rfl⟩, rfl, trivial⟩ trivial⟩
  ·have d2 : decide ((ls.length : Int) ≤ (i : Int)) = true := dT (by omega)
   rw [hf, List.drop_eq_nil_of_le (by omega), headsS] at hinv
   rw [show parseLs ls = (zScr, i + 1, 5) by unfold parseLs; rw [hinv]]
   refine sR ?_;refine rC ?_;refine nQ ?_;refine wT ?_;refine kS ?_;refine wc_seq ?_;refine wc_block ?_;refine sR ?_;iterate 2 refine rC ?_
   refine nR ?_;iterate 2 refine rC ?_
   refine rQ iE ?_;iterate 2 refine rC ?_
   iterate 8 refine rS ?_
   refine rQ iT ?_;refine nS ?_;refine wV ?_;refine sR ?_;refine rQ iS ?_;refine rC ?_;refine rQ iD ?_;refine rW ?_;iterate 2 refine rC ?_
   refine nS ?_;refine wc_ret ?_;refine blk_r ?_;refine seq_r ?_;refine loop_r ?_;refine blk_r ?_;refine seq_r ?_
   exact ⟨trivial, _, rfl, [], .of rfl rfl rfl rfl rfl ⟨⟨_, rfl, AVLe.tup1 (AVLe.d z30_le rfl) rfl⟩, rfl, trivial⟩ trivial⟩
 have hi5 : i = 5 := by omega
 subst hi5
 have d1 : decide (((5 : Nat) : Int) < 5) = false := rfl
 have h5 := hil
 have hinv : headsS 5 0 ls zCfg = .inl c := hinv
 have hix := index_is (ls.drop 5) sActions (by rw [List.length_drop]; omega)
 cases hk : (ls.drop 5).findIdx? (fun x => x == sActions) with
 | none =>
  simp only [idxF, hk] at hix
  rw [show parseLs ls = (zScr, ls.length + 1, 5) by unfold parseLs; rw [hinv]; simp only [hk]]
  have d2 : decide ((-1 : Int) < 0) = true := rfl
  refine sR ?_;refine rC ?_;refine nQ ?_;refine wG ?_;refine wc_exit ?_;refine seq_x ?_;refine loop_x ?_;refine blk_x ?_;refine seq_n ?_;refine sR ?_;refine rC ?_
  refine rQ (slice_from (m := 5) tab_ok rfl rfl rfl rfl rfl h5) ?_;refine rQ (call_r hix rfl rfl (arg_e (arg_e arg_nil)) (.inl rfl) (fun _ => rfl)) ?_;refine rC ?_
  refine nQ ?_;refine sR ?_;iterate 2 refine rC ?_
  refine nS ?_;refine wV ?_;refine sR ?_;refine rQ iS ?_;refine rC ?_;refine rQ iE ?_;refine rQ iD ?_;refine rW ?_;iterate 2 refine rC ?_
  refine nS ?_;refine wc_ret ?_;refine seq_r ?_
  exact ⟨trivial, _, rfl, [], .of rfl rfl rfl rfl rfl ⟨⟨_, rfl, AVLe.tup1 (AVLe.d z30_le rfl) rfl⟩, rfl, trivial⟩ trivial⟩
 | some k =>
 simp only [idxF, hk] at hix
 have hkl : k < ls.length - 5 := by
  have := (List.findIdx?_eq_some_iff_getElem.1 hk).1
  rwa [List.length_drop] at this
 have h5k : 5 + k ≤ ls.length := by omega
 have d2 : decide ((k : Int) < 0) = false := dF (by omega)
 refine sR ?_;refine rC ?_;refine nQ ?_;refine wG ?_;refine wc_exit ?_;refine seq_x ?_;refine loop_x ?_;refine blk_x ?_;refine seq_n ?_;refine sR ?_;refine rC ?_
 refine rQ (slice_from (m := 5) tab_ok rfl rfl rfl rfl rfl h5) ?_;refine rQ (call_r hix rfl rfl (arg_e (arg_e arg_nil)) (.inl rfl) (fun _ => rfl)) ?_;refine rC ?_
 refine nQ ?_;refine sR ?_;iterate 2 refine rC ?_
 refine nS ?_;refine wG ?_;refine kS ?_;refine sR ?_;refine rC ?_;refine nQ ?_;refine sR ?_;iterate 2 refine rC ?_
 refine rQ iD ?_;refine rQ (slice_mid (m := 5) (q := 5 + k) tab_ok rfl rfl rfl rfl rfl rfl (by omega) h5k) ?_;refine rQ iE ?_;refine rC ?_;refine nS ?_;refine wc_block ?_
 obtain ⟨mid, hmid⟩ : ∃ m, (ls.drop 5).take (5 + k - 5) = m := ⟨_, rfl⟩
 rw [hmid]
 have hmid2 : mid = (ls.drop 5).take k := by rw [← hmid, show 5 + k - 5 = k by omega]
 have hmlen : (linesT mid).length ≤ t.length := by
  rw [hmid2, ← hTls]
  exact Nat.le_trans (linesT_take _ _) (linesT_drop _ _)
 have hml : mid.length ≤ 1048576 := by rw [hmid2, List.length_take, List.length_drop]; omega
 have hmem2 : ∀ w ∈ mid, w.length ≤ 1048576 := fun w hw => hmem w (by rw [hmid2] at hw; exact List.mem_of_mem_drop (List.mem_of_mem_take hw))
 refine wc_inv (fun j : Nat => ⟨[(66, .int .i64 j), (65, .int .i64 mid.length), (64, .d (.arr 1 strD mid)), (8, .d (strD (linesT (mid.take j)))), (7, .int .i64 k), (5, .d (.arr 1 strD ls)), (2, .ptr 64 [])], [(64, some (rowC c R0))], 72, Tryz.f15.ntmps, 64⟩) (fun j => j ≤ mid.length) (fun j => mid.length - j) 0 [] (Nat.zero_le _)
  (.of rfl rfl rfl rfl rfl ⟨⟨_, rfl, .refl _⟩, rfl, ⟨_, rfl, .refl _⟩, rfl, ⟨_, rfl, .refl _⟩, rfl, ⟨_, rfl, .refl _⟩, rfl, ⟨_, rfl, .refl _⟩, rfl, ⟨_, rfl, .refl _⟩, rfl, ⟨_, rfl, .refl _⟩, rfl, trivial⟩ ⟨⟨rfl, rfl, _, rfl, .refl _⟩, trivial⟩) ?_
 intro j hj
 refine wc_of ?_
 by_cases hjl : j < mid.length
 ·have d3 : decide ((j : Int) < (mid.length : Int)) = true := dT (by omega)
  obtain ⟨x, hx⟩ : ∃ x, mid[j]? = some x := ⟨_, List.getElem?_eq_getElem hjl⟩
  have hx2 : mid[((j : Int)).toNat]? = some x := by rw [Int.toNat_natCast]; exact hx
  have hxl := hmem2 x (List.mem_of_getElem? hx)
  have htk := linesT_take mid j
  have hl72 : x.length + [(10 : UInt8)].length ≤ 9223372036854775807 := by simp; omega
  have hl73 : (linesT (mid.take j)).length + (x ++ [10]).length ≤ 9223372036854775807 := by simp; omega
  have hm73 : linesT (mid.take j) ++ (x ++ [10]) = linesT (mid.take (j + 1)) := by rw [List.take_add_one, hx, Option.toList_some, linesT_app]; simp [linesT]
  refine sR ?_;refine rC ?_;refine nQ ?_;refine wT ?_;refine kS ?_;refine wc_seq ?_;refine wc_block ?_;refine sR ?_;refine rQ (index_arr tab_ok rfl rfl rfl rfl rfl (by omega) hx2) ?_
  refine rQ iL ?_;refine rC ?_;refine nS ?_;refine wc_region ?_;iterate 2 refine rC ?_
  refine rQ (add_str (a := x) (b := [10]) rfl rfl hl72 rfl) ?_;refine rQ (add_str (a := linesT (mid.take j)) (b := x ++ [10]) rfl rfl hl73 hm73) ?_;refine rC ?_;refine reg_nil ?_
  refine blk_n ?_;refine seq_n ?_;refine wc_region ?_;refine rQ iD ?_;refine rC ?_;refine reg_nil ?_
  exact loop_n (j + 1) [] hjl (by omega) (.of rfl rfl rfl rfl rfl ⟨⟨_, rfl, .refl _⟩, rfl, ⟨_, rfl, .refl _⟩, rfl, ⟨_, rfl, .refl _⟩, rfl, ⟨_, rfl, .refl _⟩, rfl, ⟨_, rfl, .refl _⟩, rfl, ⟨_, rfl, .refl _⟩, rfl, ⟨_, rfl, .refl _⟩, rfl, trivial⟩ ⟨⟨rfl, rfl, _, rfl, .refl _⟩, trivial⟩)
 have hje : j = mid.length := by omega
 subst hje
 have d3 : decide ((mid.length : Int) < (mid.length : Int)) = false := dF (by omega)
 rw [List.take_length]
 have hpp := parse_is (linesT mid) (by omega)
 obtain ⟨⟨l, n, e⟩, hpe⟩ : ∃ x, parseP (linesT mid) [] 1 = x := ⟨_, rfl⟩
 rw [hpe] at hpp
 simp only at hpp
 have hfd : (ls.drop 5).findIdx? (· == sActions) = some k := hk
 have hpl : parseLs ls = if e ≠ 0 then (zScr, n + 5, e) else match actsS (ls.drop (6 + k)) (6 + k) with
    | .inr i => (zScr, i + 1, 5)
    | .inl bs => if schk c l bs ≠ 0 then (zScr, 0, schk c l bs) else ((c, l, bs), 0, 0) := by
  unfold parseLs
  rw [hinv]
  simp only [hfd]
  rw [← hmid2, hpe]
  rfl
 by_cases he : e = 0
 ·subst he
  have d4 : (!decide ((0 : Int) = 0)) = false := rfl
  rw [hpl, if_neg (fun h => h rfl)]
  obtain ⟨p1, p2, p3, p4⟩ := parse_out _ _ [] _ 1 _ (Nat.le_refl _) (by decide) (by intro p hp; cases hp) hpe
  refine sR ?_;refine rC ?_;refine nQ ?_;refine wF ?_;refine wc_exit ?_;refine seq_x ?_;refine loop_x ?_;refine blk_x ?_;refine seq_n ?_;refine sR ?_;refine rC ?_
  refine rQ (call_r hpp rfl rfl (arg_e arg_nil) (.inl rfl) (fun _ => rfl)) ?_;iterate 7 refine rC ?_
  refine nQ ?_;refine sR ?_;iterate 2 refine rC ?_
  refine nS ?_;refine wG ?_;refine kS ?_;refine sR ?_;iterate 2 refine rC ?_
  refine rX ?_;refine nQ ?_;refine sR ?_;refine rC ?_;refine rQ iD ?_;refine rC ?_;refine nS ?_;refine wc_block ?_
  refine wc_inv (fun x : Nat × List SAct => ⟨[(13, .int .i64 x.1), (5, .d (.arr 1 strD ls)), (2, .ptr 64 [])], [(64, some (rowA c l x.2 65)), (65, some (.ds 39 5 false encAct x.2))], 72, Tryz.f15.ntmps, 64⟩) (fun x => x.1 ≤ ls.length ∧ x.2.length ≤ x.1 ∧ actsS (ls.drop (6 + k)) (6 + k) = preA x.2 (actsS (ls.drop x.1) x.1)) (fun x => ls.length - x.1) (6 + k, []) [(65, none)] ⟨by show 6 + k ≤ ls.length; omega, Nat.zero_le _, (preA_nil _).symm⟩
   (.of rfl rfl rfl rfl rfl ⟨⟨_, rfl, .refl _⟩, rfl, ⟨_, rfl, .refl _⟩, rfl, ⟨_, rfl, .refl _⟩, rfl, trivial⟩ ⟨⟨rfl, rfl, _, rfl, split3⟩, ⟨rfl, rfl, rfl⟩, trivial⟩) ?_
  rintro ⟨i, bs⟩ ⟨hi, hbi, hac0⟩
  simp only at hi hbi hac0
  refine wc_of ?_
  by_cases hlt : i < ls.length
  ·have d5 : decide ((i : Int) < (ls.length : Int)) = true := dT (by omega)
   obtain ⟨x, hx⟩ : ∃ x, ls[i]? = some x := ⟨_, List.getElem?_eq_getElem hlt⟩
   have hx2 : ls[((i : Int)).toNat]? = some x := by rw [Int.toNat_natCast]; exact hx
   have hdr : ls.drop i = x :: ls.drop (i + 1) := by
    rw [List.drop_eq_getElem_cons hlt]
    rw [List.getElem?_eq_getElem hlt] at hx
    rw [Option.some.inj hx]
   have hlen : bs.length + 1 ≤ 1048576 := by omega
   obtain ⟨a, res, hac, hq⟩ := act_is x (hmem x (List.mem_of_getElem? hx))
   unfold ActIs at hac
   rw [hdr, actsS, hq] at hac0
   cases res with
   | true =>
    rw [if_pos rfl] at hac0
    have hac1 : actsS (ls.drop (6 + k)) (6 + k) = preA (bs ++ [a]) (actsS (ls.drop (i + 1)) (i + 1)) := hac0.trans (preA_cons bs a _)
    refine qR ?_;iterate 2 refine rC ?_
    refine rQ iE ?_;refine rC ?_;refine nS ?_;refine wT ?_;refine kS ?_;refine wc_seq ?_;refine wc_block ?_;refine sR ?_;iterate 2 refine rC ?_
    refine rQ (index_arr tab_ok rfl rfl rfl rfl rfl (by omega) hx2) ?_;refine rQ iL ?_;refine rQ (call_r hac rfl rfl (arg_e arg_nil) (.inl rfl) (fun _ => rfl)) ?_;iterate 3 refine rC ?_
    refine rN ?_;refine rW ?_;refine rC ?_;refine nQ ?_;refine sR ?_;iterate 2 refine rC ?_
    refine nS ?_;refine wG ?_;refine kS ?_;refine wc_region ?_;refine rC ?_;iterate 2 refine rQ iM ?_
    refine reg_new (build_slice (s := 5) tab_ok rfl rfl rfl rfl rfl rfl rfl rfl) rfl ?_;refine reg_new2 (append_one (xs := bs) (s := 5) (enc := encAct) tab_ok a rfl rfl rfl rfl rfl rfl rfl rfl rfl hlen rfl) rfl ?_
    refine rC ?_;refine reg_store (store_row tab_ok rfl rfl rfl ⟨_, ⟨_, ⟨rfl, rfl, rfl⟩, rfl⟩, rfl⟩ rfl) ?_;refine reg_nil ?_;refine blk_n ?_;refine seq_n ?_;refine wc_region ?_
    refine rC ?_;refine rQ iD ?_;refine rC ?_;refine reg_nil ?_
    exact loop_n (i + 1, bs ++ [a]) [(65, some 240)] ⟨hlt, by simp; omega, hac1⟩ (by show ls.length - (i + 1) < ls.length - i; omega) (.of rfl rfl rfl rfl rfl ⟨⟨_, rfl, .refl _⟩, rfl, ⟨_, rfl, .refl _⟩, rfl, ⟨_, rfl, .refl _⟩, rfl, trivial⟩ ⟨⟨rfl, rfl, _, rfl, RowLe.of_eq (by rw [rowA, List.length_append]; rfl)⟩, ⟨rfl, rfl, _, rfl, .refl _⟩, trivial⟩)
   | false =>
    rw [if_neg (by decide)] at hac0
    rw [hac0]
    refine qR ?_;iterate 2 refine rC ?_
    refine rQ iE ?_;refine rC ?_;refine nS ?_;refine wT ?_;refine kS ?_;refine wc_seq ?_;refine wc_block ?_;refine sR ?_;iterate 2 refine rC ?_
    refine rQ (index_arr tab_ok rfl rfl rfl rfl rfl (by omega) hx2) ?_;refine rQ iL ?_;refine rQ (call_r hac rfl rfl (arg_e arg_nil) (.inl rfl) (fun _ => rfl)) ?_;iterate 3 refine rC ?_
    refine rN ?_;refine rW ?_;refine rC ?_;refine nQ ?_;refine sR ?_;iterate 2 refine rC ?_
    refine nS ?_;refine wV ?_;refine sR ?_;refine rQ iS ?_;refine rC ?_;refine rQ iD ?_;refine rW ?_;iterate 2 refine rC ?_
    refine nS ?_;refine wc_ret ?_;refine seq_r ?_;refine blk_r ?_;refine seq_r ?_;refine loop_r ?_;refine blk_r ?_;refine seq_r ?_
    exact ⟨trivial, _, rfl, [], .of rfl rfl rfl rfl rfl ⟨⟨_, rfl, AVLe.tup1 (AVLe.d z30_le rfl) rfl⟩, rfl, trivial⟩ trivial⟩
  ·have d5 : decide ((i : Int) < (ls.length : Int)) = false := dF (by omega)
   rw [show ls.drop i = [] from List.drop_eq_nil_of_le (by omega), actsS] at hac0
   rw [hac0]
   simp only [preA, List.append_nil]
   refine wc_freeze (env' := [(13, _), (5, _), (2, _)]) (h' := [(64, some _)]) 65 _ rfl ⟨⟨_, rfl, .refl _⟩, ⟨_, rfl, .refl _⟩, ⟨_, rfl, .refl _⟩, trivial⟩ ⟨⟨rfl, _, rfl, FrzR.box (Frz.dcons (.refl _) (Frz.dcons (.refl _) (Frz.dcons (Frz.own rfl) (.refl _))))⟩, trivial⟩ ?_
   obtain ⟨_, _, hcw⟩ := heads_inv hinv
   have hck := scheck_is c l bs hcw.ok (bd_chk p3) (by omega)
   have hle : DLe (.cons (encCfg c) (.cons (.arx 1 encXP l) (.cons (encAs bs) .nil))) (encScr c l bs) := DLe.cons (.refl _) (DLe.cons (xl_le l) (.refl _))
   have hcl := clipA_is bs
   obtain ⟨e5, he5⟩ : ∃ x, schk c l bs = x := ⟨_, rfl⟩
   rw [he5] at hck ⊢
   by_cases h5z : e5 = 0
   ·subst h5z
    have d6 : (!decide ((0 : Int) = 0)) = false := rfl
    rw [if_neg (fun h => h rfl)]
    refine qR ?_;iterate 2 refine rC ?_
    refine rQ iE ?_;refine rC ?_;refine nS ?_;refine wF ?_;refine wc_exit ?_;refine seq_x ?_;refine loop_x ?_;refine blk_x ?_;refine seq_n ?_;refine qR ?_;refine rQ iM ?_
    refine rQ (call_r hck rfl rfl (arg_d rfl trivial hle arg_nil) (.inl rfl) (fun _ => rfl)) ?_;refine rC ?_;refine nR ?_;iterate 2 refine rC ?_
    refine nS ?_;refine wG ?_;refine kS ?_;refine sR ?_;refine rC ?_;refine rQ iB ?_;refine rQ (call_r hcl rfl rfl (arg_e arg_nil) (.inl rfl) (fun _ => rfl)) ?_;refine rC ?_
    refine rX ?_;refine nR ?_;refine rQ iM ?_;refine rW ?_;iterate 2 refine rC ?_
    refine nS ?_;refine wc_ret ?_
    exact ⟨trivial, _, rfl, [], lf⟩
   ·have d6 : (!decide (e5 = 0)) = true := by rw [dF h5z]; rfl
    rw [if_pos h5z]
    refine qR ?_;iterate 2 refine rC ?_
    refine rQ iE ?_;refine rC ?_;refine nS ?_;refine wF ?_;refine wc_exit ?_;refine seq_x ?_;refine loop_x ?_;refine blk_x ?_;refine seq_n ?_;refine qR ?_;refine rQ iM ?_
    refine rQ (call_r hck rfl rfl (arg_d rfl trivial hle arg_nil) (.inl rfl) (fun _ => rfl)) ?_;refine rC ?_;refine nR ?_;iterate 2 refine rC ?_
    refine nS ?_;refine wT ?_;refine sR ?_;refine rQ iS ?_;refine rC ?_;refine rW ?_;iterate 2 refine rC ?_
    refine nS ?_;refine wc_ret ?_;refine seq_r ?_
    exact ⟨trivial, _, rfl, [], .of rfl rfl rfl rfl rfl ⟨⟨_, rfl, AVLe.tup1 (AVLe.d z30_le rfl) rfl⟩, rfl, trivial⟩ trivial⟩
 ·have d4 : (!decide (e = 0)) = true := by rw [dF he]; rfl
  rw [hpl, if_pos he]
  have hnn := parse_num _ _ _ _ _ _ _ (Nat.le_refl _) hpe
  refine sR ?_;refine rC ?_;refine nQ ?_;refine wF ?_;refine wc_exit ?_;refine seq_x ?_;refine loop_x ?_;refine blk_x ?_;refine seq_n ?_;refine sR ?_;refine rC ?_
  refine rQ (call_r hpp rfl rfl (arg_e arg_nil) (.inl rfl) (fun _ => rfl)) ?_;iterate 7 refine rC ?_
  refine nQ ?_;refine sR ?_;iterate 2 refine rC ?_
  refine nS ?_;refine wT ?_;refine sR ?_;refine rQ iS ?_;refine rC ?_;refine rQ iD ?_;refine rC ?_;refine rW ?_;iterate 2 refine rC ?_
  refine nS ?_;refine wc_ret ?_;refine seq_r ?_
  exact ⟨trivial, _, rfl, [], .of rfl rfl rfl rfl rfl ⟨⟨_, rfl, AVLe.tup1 (AVLe.d z30_le rfl) rfl⟩, rfl, trivial⟩ trivial⟩
def parseX (t : List UInt8) : SScr × Nat × Int := if 1048576 < t.length then (zScr, 0, 3) else parseS t
theorem sparse_is (t : List UInt8) : FnIs Tryz.prog 15 [.d (strD t)] [] (parSA (parseX t).1 (parseX t).2.1 (parseX t).2.2) [] := by
 by_cases h : 1048576 < t.length
 ·rw [show parseX t = (zScr, 0, 3) from if_pos h]
  exact sparse_long t h
 rw [show parseX t = parseS t from if_neg h]
 by_cases hl : t.getLast? = some 10
 ·rw [parseS, if_pos hl]
  exact sparse_main t (by omega) hl
 ·rw [parseS, if_neg hl]
  exact sparse_nosuf t (by omega) hl
def encXS (x : CX) (ps : List (List PQ)) (l : List XA) : D := .cons (encCX x (encPP ps)) (.cons (.arr 4 encXA l) .nil)
def actsM (x : CX) (l : List XA) : List SAct := (l.take 120).map fun a => aOf a x
theorem tk120 {α : Type} {l : List α} {i : Nat} (h : i ≤ 120) (h2 : i = l.length ∨ i = 120) : l.take i = l.take 120 := by
 rcases h2 with rfl | rfl
 ·rw [List.take_length, List.take_of_length_le h]
 ·rfl
abbrev rowS2 (c : SCfg) (l : List (List POp)) (n r : Nat) : Row := .box 30 (.acons (.d (encCfg c)) (.acons (.d (encPL l)) (.acons (.own r 0 n 5 none) (.d .nil))))
theorem sof_own (x : CX) (ps : List (List PQ)) (l : List XA) (hb : ∀ p ∈ pOf ps, p.length ≤ 1000) (hal : (pOf ps).length ≤ 1000) : FnIs Tryz.prog 21 [.d (encXS x ps l)] [] (.acons (.d (encCfg (cfgOf x))) (.acons (.d (encPL (progsM x.blocks x.clients (pOf ps)))) (.acons (.own 64 0 (actsM x l).length 5 none) (.d .nil)))) [(64, .ds 39 5 false encAct (actsM x l))] := by
 have hco := cof_is x ps _ rfl hb hal
 obtain ⟨L, hL⟩ : ∃ L, progsM x.blocks x.clients (pOf ps) = L := ⟨_, rfl⟩
 rw [hL] at hco ⊢
 refine fnIs_of tab_ok Tryz.func21 rfl rfl rfl ?_;refine sR ?_;iterate 2 refine rN ?_
 refine nR ?_;refine rC ?_;refine rQ iB ?_;refine rQ (call_r hco rfl rfl (arg_e arg_nil) (.inl rfl) (fun _ => rfl)) ?_;iterate 3 refine rC ?_
 refine rN ?_;refine rW ?_;refine rC ?_;refine nR ?_;refine rQ iM ?_;refine rC ?_;refine rQ iS ?_;refine rN ?_;refine rW ?_;refine nQ ?_;refine sR ?_;refine rC ?_
 refine nS ?_;refine wc_block ?_
 refine wc_inv (fun i : Nat => ⟨[(6, .int .i64 i), (5, .ptr 66 []), (3, .ptr 65 []), (2, .ptr 67 []), (1, .ptr 64 [])], [(64, some (.box 64 (.d (encXS x ps l)))), (65, some (.box 26 (.d (encCfg (cfgOf x))))), (66, some (rowS2 (cfgOf x) L ((l.take i).map fun a => aOf a x).length 68)), (67, some (.box 30 (.d r30.zero))), (68, some (.ds 39 5 false encAct ((l.take i).map fun a => aOf a x)))], 72, Tryz.f21.ntmps, 64⟩) (fun i => i ≤ l.length ∧ i ≤ 120) (fun i => l.length - i) 0 [(64, some _), (65, some _), (66, some _), (67, some _), (68, none)] ⟨Nat.zero_le _, by omega⟩
  (.of rfl rfl rfl rfl rfl ⟨⟨_, rfl, .refl _⟩, rfl, ⟨_, rfl, .refl _⟩, rfl, ⟨_, rfl, .refl _⟩, rfl, ⟨_, rfl, .refl _⟩, rfl, ⟨_, rfl, .refl _⟩, rfl, trivial⟩ ⟨⟨rfl, rfl, _, rfl, .refl _⟩, ⟨rfl, rfl, _, rfl, .refl _⟩, ⟨rfl, rfl, _, rfl, split3⟩, ⟨rfl, rfl, _, rfl, .refl _⟩, ⟨rfl, rfl, rfl⟩, trivial⟩) ?_
 rintro i ⟨hi, hi2⟩
 refine wc_of ?_
 by_cases hlt : i < l.length ∧ i < 120
 ·obtain ⟨h1, h2⟩ := hlt
  have d1 : decide ((i : Int) < (l.length : Int)) = true := dT (by omega)
  have d2 : decide ((i : Int) < 120) = true := dT (by omega)
  obtain ⟨a, ha⟩ : ∃ a, l[i]? = some a := ⟨_, List.getElem?_eq_getElem h1⟩
  have ha2 : l[((i : Int)).toNat]? = some a := by rw [Int.toNat_natCast]; exact ha
  have htk : ((l.take (i + 1)).map fun a => aOf a x) = ((l.take i).map fun a => aOf a x) ++ [aOf a x] := by rw [List.take_add_one, ha]; simp
  have hln : ((l.take (i + 1)).map fun a => aOf a x).length = ((l.take i).map fun a => aOf a x).length + 1 := by rw [htk]; simp
  have hA : ((l.take i).map fun a => aOf a x).length + 1 ≤ 1048576 := by rw [List.length_map, List.length_take]; omega
  refine qR ?_;iterate 2 refine rC ?_
  refine rQ iB ?_;refine rQ iE ?_;iterate 2 refine rC ?_
  refine rO ?_;refine rC ?_;refine rO ?_;refine rC ?_;refine rQ iT ?_;refine nS ?_;refine wT ?_;refine kS ?_;refine wc_seq ?_;refine wc_block ?_;refine wc_draw (by kernel_rfl) ?_
  refine dC [5] [] ?_;refine dQ [27] [66] iM ?_;refine dC [1] [] ?_;refine dQ [29] [64] iB ?_;refine dC [6] [] ?_;refine dQ [30, 31] [] (index_arr tab_ok rfl rfl rfl rfl rfl (by omega) ha2) ?_
  refine dQ [32] [] iL ?_;refine dQ [3] [65] iM ?_;refine dQ [33, 34] [] (call_r (aof_is a x) rfl rfl (arg_e (arg_e arg_nil)) (.inl rfl) (fun _ => rfl)) ?_;refine dreg_w [35] [] rfl (build_slice (s := 5) tab_ok rfl rfl rfl rfl rfl rfl rfl rfl) ?_
  refine dreg_w2 [28, 36] [68, 216] rfl (append_one (xs := (l.take i).map fun a => aOf a x) (s := 5) (enc := encAct) tab_ok (aOf a x) rfl rfl rfl rfl rfl rfl rfl rfl rfl hA rfl) ?_
  refine dC [5] [] ?_;refine dreg_s [38, 37] [66] (store_row tab_ok rfl rfl rfl ⟨_, ⟨_, ⟨rfl, rfl, rfl⟩, rfl⟩, rfl⟩ rfl) ?_;refine dreg_end (by kernel_rfl) ?_;refine blk_n ?_
  refine seq_n ?_;refine wc_region ?_;refine rC ?_;refine rQ iD ?_;refine rC ?_;refine reg_nil ?_
  exact loop_n (i + 1) [(64, some _), (65, some _), (66, some _), (67, some _), (68, some _)] ⟨h1, by omega⟩ (by omega) (.of rfl rfl rfl rfl rfl ⟨⟨_, rfl, .refl _⟩, rfl, ⟨_, rfl, .refl _⟩, rfl, ⟨_, rfl, .refl _⟩, rfl, ⟨_, rfl, .refl _⟩, rfl, ⟨_, rfl, .refl _⟩, rfl, trivial⟩ ⟨⟨rfl, rfl, _, rfl, .refl _⟩, ⟨rfl, rfl, _, rfl, .refl _⟩, ⟨rfl, rfl, _, rfl, RowLe.of_eq (by rw [rowS2, hln]; rfl)⟩, ⟨rfl, rfl, _, rfl, .refl _⟩, ⟨rfl, rfl, _, rfl, RowLe.of_eq (by rw [htk]; rfl)⟩, trivial⟩)
 ·have hops : ((l.take i).map fun a => aOf a x) = actsM x l := by rw [actsM, tk120 hi2 (by omega)]
  rw [hops]
  by_cases h5 : i < l.length
  ·have d1 : decide ((i : Int) < (l.length : Int)) = true := dT (by omega)
   have d2 : decide ((i : Int) < 120) = false := dF (by omega)
   refine qR ?_;iterate 2 refine rC ?_
   refine rQ iB ?_;refine rQ iE ?_;iterate 2 refine rC ?_
   refine rO ?_;refine rC ?_;refine rO ?_;refine rC ?_;refine rQ iT ?_;refine nS ?_;refine wF ?_;refine wc_exit ?_;refine seq_x ?_;refine loop_x ?_;refine blk_x ?_
   refine seq_n ?_;refine sR ?_;refine rQ iM ?_;refine rW ?_;refine nS ?_;refine wc_ret ?_
   exact ⟨trivial, _, rfl, [(64, some 68)], .of rfl rfl rfl rfl rfl ⟨⟨_, rfl, AVLe.of_eq rfl⟩, rfl, trivial⟩ ⟨⟨rfl, rfl, _, rfl, .refl _⟩, trivial⟩⟩
  ·have d1 : decide ((i : Int) < (l.length : Int)) = false := dF (by omega)
   refine qR ?_;iterate 2 refine rC ?_
   refine rQ iB ?_;refine rQ iE ?_;iterate 2 refine rC ?_
   iterate 2 refine rS ?_
   refine rQ iF ?_;refine nS ?_;refine wG ?_;refine wc_exit ?_;refine seq_x ?_;refine loop_x ?_;refine blk_x ?_;refine seq_n ?_;refine sR ?_;refine rQ iM ?_;refine rW ?_
   refine nS ?_;refine wc_ret ?_
   exact ⟨trivial, _, rfl, [(64, some 68)], .of rfl rfl rfl rfl rfl ⟨⟨_, rfl, AVLe.of_eq rfl⟩, rfl, trivial⟩ ⟨⟨rfl, rfl, _, rfl, .refl _⟩, trivial⟩⟩
theorem sof_is (x : CX) (ps : List (List PQ)) (l : List XA) (hb : ∀ p ∈ pOf ps, p.length ≤ 1000) (hal : (pOf ps).length ≤ 1000) : FnIs Tryz.prog 21 [.d (encXS x ps l)] [] (.d (encScr (cfgOf x) (progsM x.blocks x.clients (pOf ps)) (actsM x l))) [] :=
 (sof_own x ps l hb hal).freeze_out 64 _ rfl (Frz.dcons (.refl _) (Frz.dcons (.refl _) (Frz.dcons (Frz.own rfl) (.refl _)))) trivial
theorem split3o {t : TypeId} {a x r : D} {A : AV} : RowLe (.box t (.acons (.d a) (.acons A (.d (.cons x r))))) (.box t (.acons (.d a) (.acons A (.acons (.d x) (.d r))))) := by
 rintro σ w X q ⟨hf, k, cs, h1, h2, c1, c2, h3, h4, c3, c4, h5, h6, c5, c6, h7, h8, h9⟩
 exact ⟨by simpa [AV.flat] using hf, k, cs, h1, h2, c1, c2, h3, h4, c3, c4, h5, h6, c5, c6, h7, h8, h9⟩
theorem out_first {n n1 t k m : Nat} {l : List D} {p0 : List POp} (h : n + 1 = n1) : callUpd [] n [] [(64, .lits t 1 m false (chF (.own 65 0 k 3 none) l)), (65, .ds 36 3 false encPOp p0)] = [(n, some (.lits t 1 m false (chF (.own n1 0 k 3 none) l))), (n1, some (.ds 36 3 false encPOp p0))] := by
 subst h
 show [(n + (64 - 64), some (Row.lits t 1 m false ((chF (.own 65 0 k 3 none) l).ren (outRho [] n)))), (n + (65 - 64), some (Row.ds 36 3 false encPOp p0))] = _
 rw [chF_ren]
 rfl
abbrev rowS3 (c : SCfg) (m q n r : Nat) : Row := .box 30 (.acons (.d (encCfg c)) (.acons (.own q 0 m 1 none) (.acons (.own r 0 n 5 none) (.d .nil))))
abbrev rowPF (rest : List (List POp)) (m b : Nat) : Row := .lits 32 1 (rest.length + 1) false (chF (.own b 0 m 3 none) (rest.map encP))
abbrev rowP0 (p0 : List POp) : Row := .ds 36 3 false encPOp p0
abbrev rowAc (l : List SAct) : Row := .ds 39 5 false encAct l
theorem sof_first (x : CX) (ps : List (List PQ)) (l : List XA) (hb : ∀ p ∈ pOf ps, p.length ≤ 1000) (hal : (pOf ps).length ≤ 1000) (p0 : List POp) (rest : List (List POp)) (hL : progsM x.blocks x.clients (pOf ps) = p0 :: rest) : FnIs Tryz.prog 21 [.d (encXS x ps l)] [] (.acons (.d (encCfg (cfgOf x))) (.acons (.own 64 0 (rest.length + 1) 1 none) (.acons (.own 66 0 (actsM x l).length 5 none) (.d .nil)))) [(64, rowPF rest p0.length 65), (65, rowP0 p0), (66, rowAc (actsM x l))] := by
 have hco := cof_first x ps _ rfl hb hal p0 rest hL
 refine fnIs_of tab_ok Tryz.func21 rfl rfl rfl ?_;refine sR ?_;iterate 2 refine rN ?_
 refine nR ?_;refine rC ?_;refine rQ iB ?_;refine reg_new2 (call_new hco rfl rfl (arg_e arg_nil) (.inl rfl) rfl (out_first (n1 := 97) rfl)) rfl ?_;iterate 3 refine rC ?_
 refine rN ?_;refine rW ?_;refine rC ?_;refine nR ?_;refine rQ iM ?_;refine rC ?_;refine rQ iS ?_;refine rN ?_;refine rW ?_;refine nQ ?_;refine sR ?_;refine rC ?_
 refine nS ?_;refine wc_block ?_
 refine wc_inv (fun i : Nat => ⟨[(6, .int .i64 i), (5, .ptr 66 []), (3, .ptr 65 []), (2, .ptr 67 []), (1, .ptr 64 [])], [(64, some (.box 64 (.d (encXS x ps l)))), (65, some (.box 26 (.d (encCfg (cfgOf x))))), (66, some (rowS3 (cfgOf x) (rest.length + 1) 69 ((l.take i).map fun a => aOf a x).length 68)), (67, some (.box 30 (.d r30.zero))), (68, some (rowAc ((l.take i).map fun a => aOf a x))), (69, some (rowPF rest p0.length 70)), (70, some (rowP0 p0))], 72, Tryz.f21.ntmps, 64⟩) (fun i => i ≤ l.length ∧ i ≤ 120) (fun i => l.length - i) 0 [(64, some _), (65, some _), (66, some _), (67, some _), (68, none), (69, some 96), (70, some 97)] ⟨Nat.zero_le _, by omega⟩
  (.of rfl rfl rfl rfl rfl ⟨⟨_, rfl, .refl _⟩, rfl, ⟨_, rfl, .refl _⟩, rfl, ⟨_, rfl, .refl _⟩, rfl, ⟨_, rfl, .refl _⟩, rfl, ⟨_, rfl, .refl _⟩, rfl, trivial⟩ ⟨⟨rfl, rfl, _, rfl, .refl _⟩, ⟨rfl, rfl, _, rfl, .refl _⟩, ⟨rfl, rfl, _, rfl, split3o⟩, ⟨rfl, rfl, _, rfl, .refl _⟩, ⟨rfl, rfl, rfl⟩, ⟨rfl, chF_lt rfl _, _, rfl, chF_refl rfl⟩, ⟨rfl, rfl, _, rfl, .refl _⟩, trivial⟩) ?_
 rintro i ⟨hi, hi2⟩
 refine wc_of ?_
 by_cases hlt : i < l.length ∧ i < 120
 ·obtain ⟨h1, h2⟩ := hlt
  have d1 : decide ((i : Int) < (l.length : Int)) = true := dT (by omega)
  have d2 : decide ((i : Int) < 120) = true := dT (by omega)
  obtain ⟨a, ha⟩ : ∃ a, l[i]? = some a := ⟨_, List.getElem?_eq_getElem h1⟩
  have ha2 : l[((i : Int)).toNat]? = some a := by rw [Int.toNat_natCast]; exact ha
  have htk : ((l.take (i + 1)).map fun a => aOf a x) = ((l.take i).map fun a => aOf a x) ++ [aOf a x] := by rw [List.take_add_one, ha]; simp
  have hln : ((l.take (i + 1)).map fun a => aOf a x).length = ((l.take i).map fun a => aOf a x).length + 1 := by rw [htk]; simp
  have hA : ((l.take i).map fun a => aOf a x).length + 1 ≤ 1048576 := by rw [List.length_map, List.length_take]; omega
  refine qR ?_;iterate 2 refine rC ?_
  refine rQ iB ?_;refine rQ iE ?_;iterate 2 refine rC ?_
  refine rO ?_;refine rC ?_;refine rO ?_;refine rC ?_;refine rQ iT ?_;refine nS ?_;refine wT ?_;refine kS ?_;refine wc_seq ?_;refine wc_block ?_;refine wc_draw (by kernel_rfl) ?_
  refine dC [5] [] ?_;refine dQ [27] [66] iM ?_;refine dC [1] [] ?_;refine dQ [29] [64] iB ?_;refine dC [6] [] ?_;refine dQ [30, 31] [] (index_arr tab_ok rfl rfl rfl rfl rfl (by omega) ha2) ?_
  refine dQ [32] [] iL ?_;refine dQ [3] [65] iM ?_;refine dQ [33, 34] [] (call_r (aof_is a x) rfl rfl (arg_e (arg_e arg_nil)) (.inl rfl) (fun _ => rfl)) ?_;refine dreg_w [35] [] rfl (build_slice (s := 5) tab_ok rfl rfl rfl rfl rfl rfl rfl rfl) ?_
  refine dreg_w2 [28, 36] [68, 216] rfl (append_one (xs := (l.take i).map fun a => aOf a x) (s := 5) (enc := encAct) tab_ok (aOf a x) rfl rfl rfl rfl rfl rfl rfl rfl rfl hA rfl) ?_
  refine dC [5] [] ?_;refine dreg_s [38, 37] [66] (store_row tab_ok rfl rfl rfl ⟨_, ⟨_, ⟨rfl, rfl, rfl⟩, rfl⟩, rfl⟩ rfl) ?_;refine dreg_end (by kernel_rfl) ?_;refine blk_n ?_
  refine seq_n ?_;refine wc_region ?_;refine rC ?_;refine rQ iD ?_;refine rC ?_;refine reg_nil ?_
  exact loop_n (i + 1) [(64, some _), (65, some _), (66, some _), (67, some _), (68, some _), (69, some 69), (70, some 70)] ⟨h1, by omega⟩ (by omega) (.of rfl rfl rfl rfl rfl ⟨⟨_, rfl, .refl _⟩, rfl, ⟨_, rfl, .refl _⟩, rfl, ⟨_, rfl, .refl _⟩, rfl, ⟨_, rfl, .refl _⟩, rfl, ⟨_, rfl, .refl _⟩, rfl, trivial⟩ ⟨⟨rfl, rfl, _, rfl, .refl _⟩, ⟨rfl, rfl, _, rfl, .refl _⟩, ⟨rfl, rfl, _, rfl, RowLe.of_eq (by rw [rowS3, hln]; rfl)⟩, ⟨rfl, rfl, _, rfl, .refl _⟩, ⟨rfl, rfl, _, rfl, RowLe.of_eq (by rw [htk]; rfl)⟩, ⟨rfl, chF_lt rfl _, _, rfl, chF_refl rfl⟩, ⟨rfl, rfl, _, rfl, .refl _⟩, trivial⟩)
 ·have hops : ((l.take i).map fun a => aOf a x) = actsM x l := by rw [actsM, tk120 hi2 (by omega)]
  rw [hops]
  by_cases h5 : i < l.length
  ·have d1 : decide ((i : Int) < (l.length : Int)) = true := dT (by omega)
   have d2 : decide ((i : Int) < 120) = false := dF (by omega)
   refine qR ?_;iterate 2 refine rC ?_
   refine rQ iB ?_;refine rQ iE ?_;iterate 2 refine rC ?_
   refine rO ?_;refine rC ?_;refine rO ?_;refine rC ?_;refine rQ iT ?_;refine nS ?_;refine wF ?_;refine wc_exit ?_;refine seq_x ?_;refine loop_x ?_;refine blk_x ?_
   refine seq_n ?_;refine sR ?_;refine rQ iM ?_;refine rW ?_;refine nS ?_;refine wc_ret ?_
   exact ⟨trivial, _, rfl, [(64, some 69), (65, some 70), (66, some 68)], .of rfl rfl rfl rfl rfl ⟨⟨_, rfl, AVLe.of_eq rfl⟩, rfl, trivial⟩ ⟨⟨rfl, chF_lt rfl _, _, rfl, chF_refl rfl⟩, ⟨rfl, rfl, _, rfl, .refl _⟩, ⟨rfl, rfl, _, rfl, .refl _⟩, trivial⟩⟩
  ·have d1 : decide ((i : Int) < (l.length : Int)) = false := dF (by omega)
   refine qR ?_;iterate 2 refine rC ?_
   refine rQ iB ?_;refine rQ iE ?_;iterate 2 refine rC ?_
   iterate 2 refine rS ?_
   refine rQ iF ?_;refine nS ?_;refine wG ?_;refine wc_exit ?_;refine seq_x ?_;refine loop_x ?_;refine blk_x ?_;refine seq_n ?_;refine sR ?_;refine rQ iM ?_;refine rW ?_
   refine nS ?_;refine wc_ret ?_
   exact ⟨trivial, _, rfl, [(64, some 69), (65, some 70), (66, some 68)], .of rfl rfl rfl rfl rfl ⟨⟨_, rfl, AVLe.of_eq rfl⟩, rfl, trivial⟩ ⟨⟨rfl, chF_lt rfl _, _, rfl, chF_refl rfl⟩, ⟨rfl, rfl, _, rfl, .refl _⟩, ⟨rfl, rfl, _, rfl, .refl _⟩, trivial⟩⟩
end Go.Proofs.YthiijfbcfoifnaaGreatDoor
namespace Go.Proofs.YthiijfbcfoifnaaGreatDoor
open Go.Eng Go.Plain
set_option maxHeartbeats 4000000
set_option maxRecDepth 20000
attribute [local irreducible] WC RegS RegD SeqQ BlkQ ScoQ RegK CutK Sat SatN FnIs LoopQ StepIs OpIs
end Go.Proofs.YthiijfbcfoifnaaGreatDoor
namespace Go.Eng
open Go.RowKit
section
variable {P : Program} {T : Tab} {env : Env} {h : Upds} {n : Nat}
end
end Go.Eng
namespace Go.Proofs.YthiijfbcfoifnaaGreatDoor
open Go.Eng Go.Plain
set_option maxHeartbeats 4000000
set_option maxRecDepth 20000
attribute [local irreducible] WC RegS RegD SeqQ BlkQ ScoQ RegK CutK Sat SatN FnIs LoopQ StepIs OpIs
theorem hexD_cut {d : Nat} (h : d < 16) : (hexD.drop d).take (d + 1 - d) = [hexC d] := by
 have : ∀ d, d < 16 → (hexD.drop d).take (d + 1 - d) = [hexC d] := by decide
 exact this d h
theorem rhex34_is (l : List UInt8) (hL : l.length ≤ 1000000000) : FnIs Tryz.prog 28 [.d (encB l)] [] (.d (strD (hexP l))) [] := by
 have hbl : (byI l).length = l.length := byI_len l
 refine fnIs_of tab_ok Tryz.func28 rfl rfl rfl ?_
 by_cases hn : l = []
 ·have hd : decide (((byI l).length : Int) = 0) = true := by rw [hn]; rfl
  rw [show hexP l = [45] from if_pos hn]
  refine sR ?_;refine rC ?_;refine nQ ?_;refine sR ?_;refine rC ?_;refine rQ iE ?_;refine rC ?_;refine nS ?_;refine wT ?_;refine sR ?_;refine rC ?_;refine nS ?_;refine wc_ret ?_
  refine seq_r ?_
  exact ⟨trivial, [], lf⟩
 have hpos : 0 < l.length := List.length_pos_iff.2 hn
 have hd : decide (((byI l).length : Int) = 0) = false := dF (by omega)
 refine sR ?_;refine rC ?_;refine nQ ?_;refine sR ?_;refine rC ?_;refine rQ iE ?_;refine rC ?_;refine nS ?_;refine wF ?_;refine kS ?_;refine sR ?_;refine rC ?_;refine nQ ?_
 refine sR ?_;refine rC ?_;refine nS ?_;refine wc_block ?_
 refine wc_inv (fun i : Nat => ⟨[(4, .int .i64 i), (3, .d (strD ((l.take i).flatMap hexB))), (0, .d (encB l))], [], 72, Tryz.f28.ntmps, 64⟩) (fun i => i ≤ l.length) (fun i => l.length - i) 0 [] (Nat.zero_le _)
  (.of rfl rfl rfl rfl rfl ⟨⟨_, rfl, .refl _⟩, rfl, ⟨_, rfl, .refl _⟩, rfl, ⟨_, rfl, .refl _⟩, rfl, trivial⟩ trivial) ?_
 intro i hi
 refine wc_of ?_
 by_cases hlt : i < l.length
 ·have d1 : decide ((i : Int) < ((byI l).length : Int)) = true := dT (by omega)
  obtain ⟨b, hb⟩ : ∃ b, l[i]? = some b := ⟨_, List.getElem?_eq_getElem hlt⟩
  have hb' : (byI l)[((i : Int)).toNat]? = some (b.toNat : Int) := by rw [Int.toNat_natCast]; exact byI_get hb
  have hb8 : b.toNat < 256 := b.toNat_lt
  have hw16 : IntKind.u8.wrap ((b.toNat / 16 : Nat) : Int) = ((b.toNat / 16 : Nat) : Int) := wrap_u8n (by omega)
  have hw1 : IntKind.u8.wrap (((b.toNat / 16 : Nat) : Int) + 1) = ((b.toNat / 16 + 1 : Nat) : Int) := wrap_u8n (a := b.toNat / 16 + 1) (by omega)
  have hw2 : IntKind.u8.wrap (((b.toNat % 16 : Nat) : Int) + 1) = ((b.toNat % 16 + 1 : Nat) : Int) := wrap_u8n (a := b.toNat % 16 + 1) (by omega)
  have hle1 : b.toNat / 16 + 1 ≤ hexD.length := by show _ ≤ 16; omega
  have hle2 : b.toNat % 16 + 1 ≤ hexD.length := by show _ ≤ 16; omega
  have hcut1 := hexD_cut (d := b.toNat / 16) (by omega)
  have hcut2 := hexD_cut (d := b.toNat % 16) (by omega)
  have hpl : ((l.take i).flatMap hexB).length = 2 * i := by rw [hexB_len, List.length_take, Nat.min_eq_left hi]
  have hlen1 : ((l.take i).flatMap hexB).length + [hexC (b.toNat / 16)].length ≤ 9223372036854775807 := by rw [hpl]; simp; omega
  have hlen2 : ((l.take i).flatMap hexB ++ [hexC (b.toNat / 16)]).length + [hexC (b.toNat % 16)].length ≤ 9223372036854775807 := by rw [List.length_append, hpl]; simp; omega
  have hgo := hex_take hb
  refine qR ?_;iterate 2 refine rC ?_
  refine rQ iE ?_;refine rC ?_;refine nS ?_;refine wT ?_;refine kS ?_;refine wc_seq ?_;refine wc_block ?_;refine wc_seq ?_;refine wc_draw (by kernel_rfl) ?_;refine dC [0] [] ?_
  refine dC [4] [] ?_;refine dQ [16, 17] [] iA ?_;refine dQ [18] [] iL ?_;refine dQ [19] [] (quo_nat (a := b.toNat) (b := 16) tab_ok rfl rfl rfl (by decide) hw16) ?_
  refine dC [0] [] ?_;refine dC [4] [] ?_;refine dQ [21, 22] [] iA ?_;refine dQ [23] [] iL ?_;refine dQ [24] [] (rem_nat (a := b.toNat) (b := 16) tab_ok rfl rfl rfl (by decide)) ?_
  refine dC [20] [] ?_;refine dC [25] [] ?_;refine dreg_end (by kernel_rfl) ?_;refine seq_n ?_;refine wc_draw (by kernel_rfl) ?_;refine dC [3] [] ?_;iterate 2 refine dC [5] [] ?_
  refine dQ [28] [] (add_int (m := ((b.toNat / 16 + 1 : Nat) : Int)) tab_ok rfl rfl hw1) ?_;refine dQ [27, 29] [] (str_mid (l := hexD) (lo := b.toNat / 16) (hi := b.toNat / 16 + 1) tab_ok rfl rfl rfl rfl hle1 (by omega) hcut1) ?_
  refine dQ [26, 30] [] (add_str (a := (l.take i).flatMap hexB) (b := [hexC (b.toNat / 16)]) rfl rfl hlen1 rfl) ?_;iterate 2 refine dC [6] [] ?_
  refine dQ [33] [] (add_int (m := ((b.toNat % 16 + 1 : Nat) : Int)) tab_ok rfl rfl hw2) ?_;refine dQ [32, 34] [] (str_mid (l := hexD) (lo := b.toNat % 16) (hi := b.toNat % 16 + 1) tab_ok rfl rfl rfl rfl hle2 (by omega) hcut2) ?_
  refine dQ [31, 35] [] (add_str (a := (l.take i).flatMap hexB ++ [hexC (b.toNat / 16)]) (b := [hexC (b.toNat % 16)]) rfl rfl hlen2 rfl) ?_;refine dC [36] [] ?_;refine dreg_end (by kernel_rfl) ?_
  refine blk_n ?_;refine seq_n ?_;refine wc_region ?_;refine rC ?_;refine rQ iD ?_;refine rC ?_;refine reg_nil ?_
  exact loop_n (i + 1) [] hlt (by omega) (.of rfl rfl rfl rfl rfl ⟨⟨_, rfl, .refl _⟩, rfl, ⟨_, rfl, AVLe.of_eq (by rw [hgo]; rfl)⟩, rfl, ⟨_, rfl, .refl _⟩, rfl, trivial⟩ trivial)
 ·have he : i = l.length := by omega
  subst he
  have d1 : decide ((l.length : Int) < ((byI l).length : Int)) = false := dF (by omega)
  rw [List.take_length, show hexP l = l.flatMap hexB from if_neg hn]
  refine qR ?_;iterate 2 refine rC ?_
  refine rQ iE ?_;refine rC ?_;refine nS ?_;refine wF ?_;refine wc_exit ?_;refine seq_x ?_;refine loop_x ?_;refine blk_x ?_;refine seq_n ?_;refine sR ?_;iterate 2 refine rC ?_
  refine nS ?_;refine wc_ret ?_
  exact ⟨trivial, [], lf⟩
def cA (p : SAct → Bool) (l : List SAct) : Nat := l.countP p
theorem cA_go {p : SAct → Bool} {l : List SAct} {i : Nat} {a : SAct} (h : l[i]? = some a) : cA p (l.take (i + 1)) = cA p (l.take i) + if p a = true then 1 else 0 := by
 rw [List.take_add_one, h, Option.toList_some, cA, cA, List.countP_append, List.countP_cons, List.countP_nil, Nat.zero_add]
theorem cA_le (p : SAct → Bool) (l : List SAct) : cA p l ≤ l.length := List.countP_le_length
def isP (a : SAct) : Bool := decide (a.kind = 1)
def isE (a : SAct) : Bool := decide (a.kind = 2) || decide (a.kind = 3) || decide (a.kind = 4)
def isF (a : SAct) : Bool := decide (a.kind = 5)
theorem countA_is (c : SCfg) (l : List (List POp)) (bs : List SAct) (hL : bs.length ≤ 1000000000) : FnIs Tryz.prog 20 [.d (encScr c l bs)] [] (.tup (.acons (.int .i64 (cA isP bs)) (.acons (.int .i64 (cA isE bs)) (.acons (.int .i64 (cA isF bs)) .anil)))) [] := by
 refine fnIs_of tab_ok Tryz.func20 rfl rfl rfl ?_;refine sR ?_;refine rN ?_;iterate 3 refine rC ?_
 refine nQ ?_;refine sR ?_;refine rC ?_;refine rQ iB ?_;refine rQ iE ?_;refine rC ?_;refine nS ?_;refine wc_block ?_
 refine wc_inv (fun i : Nat => ⟨[(10, .int .i64 i), (9, .int .i64 bs.length), (8, .d (encAs bs)), (2, .int .i64 (cA isP (bs.take i))), (3, .int .i64 (cA isE (bs.take i))), (4, .int .i64 (cA isF (bs.take i)))], [], 72, Tryz.f20.ntmps, 64⟩) (fun i => i ≤ bs.length) (fun i => bs.length - i) 0 [] (Nat.zero_le _)
  (.of rfl rfl rfl rfl rfl ⟨⟨_, rfl, .refl _⟩, rfl, ⟨_, rfl, .refl _⟩, rfl, ⟨_, rfl, .refl _⟩, rfl, ⟨_, rfl, .refl _⟩, rfl, ⟨_, rfl, .refl _⟩, rfl, ⟨_, rfl, .refl _⟩, rfl, trivial⟩ trivial) ?_
 intro i hi
 refine wc_of ?_
 by_cases hlt : i < bs.length
 ·have d0 : decide ((i : Int) < (bs.length : Int)) = true := dT (by omega)
  obtain ⟨a, ha⟩ : ∃ a, bs[i]? = some a := ⟨_, List.getElem?_eq_getElem hlt⟩
  have ha2 : bs[((i : Int)).toNat]? = some a := by rw [Int.toNat_natCast]; exact ha
  have g1 := cA_go (p := isP) ha
  have g2 := cA_go (p := isE) ha
  have g3 := cA_go (p := isF) ha
  have b1 := cA_le isP (bs.take i)
  have b2 := cA_le isE (bs.take i)
  have b3 := cA_le isF (bs.take i)
  rw [List.length_take] at b1 b2 b3
  refine sR ?_;refine rC ?_;refine nQ ?_;refine wT ?_;refine kS ?_;refine wc_seq ?_;refine wc_block ?_;refine sR ?_;refine rQ (index_arr tab_ok rfl rfl rfl rfl rfl (by omega) ha2) ?_
  refine rQ iL ?_;refine rN ?_;refine rW ?_;refine nR ?_;refine rC ?_;refine rQ iB ?_;refine nS ?_;refine wc_block ?_;refine sR ?_;iterate 2 refine rC ?_
  refine nS ?_
  by_cases k1 : a.kind = 1
  ·skip
   have d1 : decide (a.kind = 1) = true := dT (by omega)
   rw [if_pos (by simp [isP]; omega)] at g1
   rw [if_neg (by simp [isE]; omega)] at g2
   rw [if_neg (by simp [isF]; omega)] at g3
   refine wT ?_;refine wc_region ?_;refine rC ?_;refine rQ iD ?_;refine rC ?_;refine reg_nil ?_;iterate 2 refine blk_n ?_
   refine seq_n ?_;refine wc_region ?_;refine rQ iD ?_;refine rC ?_;refine reg_nil ?_
   exact loop_n (i + 1) [] hlt (by omega) (.of rfl rfl rfl rfl rfl ⟨⟨_, rfl, .refl _⟩, rfl, ⟨_, rfl, .refl _⟩, rfl, ⟨_, rfl, .refl _⟩, rfl, ⟨_, rfl, AVLe.of_eq (by rw [g1]; rfl)⟩, rfl, ⟨_, rfl, AVLe.of_eq (by rw [g2]; rfl)⟩, rfl, ⟨_, rfl, AVLe.of_eq (by rw [g3]; rfl)⟩, rfl, trivial⟩ trivial)
  by_cases k2 : a.kind = 2
  ·skip
   have d1 : decide (a.kind = 1) = false := dF (by omega)
   have d2 : decide (a.kind = 2) = true := dT (by omega)
   rw [if_neg (by simp [isP]; omega)] at g1
   rw [if_pos (by simp [isE]; omega)] at g2
   rw [if_neg (by simp [isF]; omega)] at g3
   refine wF ?_;refine qR ?_;iterate 2 refine rC ?_
   refine nS ?_;refine wT ?_;refine kS ?_;refine wT ?_;refine wc_region ?_;refine rC ?_;refine rQ iD ?_;refine rC ?_;refine reg_nil ?_;iterate 2 refine blk_n ?_
   refine seq_n ?_;refine wc_region ?_;refine rQ iD ?_;refine rC ?_;refine reg_nil ?_
   exact loop_n (i + 1) [] hlt (by omega) (.of rfl rfl rfl rfl rfl ⟨⟨_, rfl, .refl _⟩, rfl, ⟨_, rfl, .refl _⟩, rfl, ⟨_, rfl, .refl _⟩, rfl, ⟨_, rfl, AVLe.of_eq (by rw [g1]; rfl)⟩, rfl, ⟨_, rfl, AVLe.of_eq (by rw [g2]; rfl)⟩, rfl, ⟨_, rfl, AVLe.of_eq (by rw [g3]; rfl)⟩, rfl, trivial⟩ trivial)
  by_cases k3 : a.kind = 3
  ·skip
   have d1 : decide (a.kind = 1) = false := dF (by omega)
   have d2 : decide (a.kind = 2) = false := dF (by omega)
   have d3 : decide (a.kind = 3) = true := dT (by omega)
   rw [if_neg (by simp [isP]; omega)] at g1
   rw [if_pos (by simp [isE]; omega)] at g2
   rw [if_neg (by simp [isF]; omega)] at g3
   refine wF ?_;refine qR ?_;iterate 2 refine rC ?_
   refine nS ?_;refine wF ?_;refine sR ?_;iterate 2 refine rC ?_
   refine nS ?_;refine wT ?_;refine kS ?_;refine wT ?_;refine wc_region ?_;refine rC ?_;refine rQ iD ?_;refine rC ?_;refine reg_nil ?_;iterate 2 refine blk_n ?_
   refine seq_n ?_;refine wc_region ?_;refine rQ iD ?_;refine rC ?_;refine reg_nil ?_
   exact loop_n (i + 1) [] hlt (by omega) (.of rfl rfl rfl rfl rfl ⟨⟨_, rfl, .refl _⟩, rfl, ⟨_, rfl, .refl _⟩, rfl, ⟨_, rfl, .refl _⟩, rfl, ⟨_, rfl, AVLe.of_eq (by rw [g1]; rfl)⟩, rfl, ⟨_, rfl, AVLe.of_eq (by rw [g2]; rfl)⟩, rfl, ⟨_, rfl, AVLe.of_eq (by rw [g3]; rfl)⟩, rfl, trivial⟩ trivial)
  by_cases k4 : a.kind = 4
  ·skip
   have d1 : decide (a.kind = 1) = false := dF (by omega)
   have d2 : decide (a.kind = 2) = false := dF (by omega)
   have d3 : decide (a.kind = 3) = false := dF (by omega)
   have d4 : decide (a.kind = 4) = true := dT (by omega)
   rw [if_neg (by simp [isP]; omega)] at g1
   rw [if_pos (by simp [isE]; omega)] at g2
   rw [if_neg (by simp [isF]; omega)] at g3
   refine wF ?_;refine qR ?_;iterate 2 refine rC ?_
   refine nS ?_;refine wF ?_;refine sR ?_;iterate 2 refine rC ?_
   refine nS ?_;refine wF ?_;refine wc_region ?_;iterate 2 refine rC ?_
   refine nS ?_;refine wT ?_;refine wc_region ?_;refine rC ?_;refine rQ iD ?_;refine rC ?_;refine reg_nil ?_;iterate 2 refine blk_n ?_
   refine seq_n ?_;refine wc_region ?_;refine rQ iD ?_;refine rC ?_;refine reg_nil ?_
   exact loop_n (i + 1) [] hlt (by omega) (.of rfl rfl rfl rfl rfl ⟨⟨_, rfl, .refl _⟩, rfl, ⟨_, rfl, .refl _⟩, rfl, ⟨_, rfl, .refl _⟩, rfl, ⟨_, rfl, AVLe.of_eq (by rw [g1]; rfl)⟩, rfl, ⟨_, rfl, AVLe.of_eq (by rw [g2]; rfl)⟩, rfl, ⟨_, rfl, AVLe.of_eq (by rw [g3]; rfl)⟩, rfl, trivial⟩ trivial)
  by_cases k5 : a.kind = 5
  ·skip
   have d1 : decide (a.kind = 1) = false := dF (by omega)
   have d2 : decide (a.kind = 2) = false := dF (by omega)
   have d3 : decide (a.kind = 3) = false := dF (by omega)
   have d4 : decide (a.kind = 4) = false := dF (by omega)
   have d5 : decide (a.kind = 5) = true := dT (by omega)
   rw [if_neg (by simp [isP]; omega)] at g1
   rw [if_neg (by simp [isE]; omega)] at g2
   rw [if_pos (by simp [isF]; omega)] at g3
   refine wF ?_;refine qR ?_;iterate 2 refine rC ?_
   refine nS ?_;refine wF ?_;refine sR ?_;iterate 2 refine rC ?_
   refine nS ?_;refine wF ?_;refine wc_region ?_;iterate 2 refine rC ?_
   refine nS ?_;refine wF ?_;refine sR ?_;iterate 2 refine rC ?_
   refine nS ?_;refine wT ?_;refine wc_region ?_;refine rC ?_;refine rQ iD ?_;refine rC ?_;refine reg_nil ?_;iterate 2 refine blk_n ?_
   refine seq_n ?_;refine wc_region ?_;refine rQ iD ?_;refine rC ?_;refine reg_nil ?_
   exact loop_n (i + 1) [] hlt (by omega) (.of rfl rfl rfl rfl rfl ⟨⟨_, rfl, .refl _⟩, rfl, ⟨_, rfl, .refl _⟩, rfl, ⟨_, rfl, .refl _⟩, rfl, ⟨_, rfl, AVLe.of_eq (by rw [g1]; rfl)⟩, rfl, ⟨_, rfl, AVLe.of_eq (by rw [g2]; rfl)⟩, rfl, ⟨_, rfl, AVLe.of_eq (by rw [g3]; rfl)⟩, rfl, trivial⟩ trivial)
  ·skip
   have d1 : decide (a.kind = 1) = false := dF (by omega)
   have d2 : decide (a.kind = 2) = false := dF (by omega)
   have d3 : decide (a.kind = 3) = false := dF (by omega)
   have d4 : decide (a.kind = 4) = false := dF (by omega)
   have d5 : decide (a.kind = 5) = false := dF (by omega)
   rw [if_neg (by simp [isP]; omega)] at g1
   rw [if_neg (by simp [isE]; omega)] at g2
   rw [if_neg (by simp [isF]; omega)] at g3
   refine wF ?_;refine qR ?_;iterate 2 refine rC ?_
   refine nS ?_;refine wF ?_;refine sR ?_;iterate 2 refine rC ?_
   refine nS ?_;refine wF ?_;refine wc_region ?_;iterate 2 refine rC ?_
   refine nS ?_;refine wF ?_;refine sR ?_;iterate 2 refine rC ?_
   refine nS ?_;refine wF ?_;refine wc_skip ?_;iterate 2 refine blk_n ?_
   refine seq_n ?_;refine wc_region ?_;refine rQ iD ?_;refine rC ?_;refine reg_nil ?_
   exact loop_n (i + 1) [] hlt (by omega) (.of rfl rfl rfl rfl rfl ⟨⟨_, rfl, .refl _⟩, rfl, ⟨_, rfl, .refl _⟩, rfl, ⟨_, rfl, .refl _⟩, rfl, ⟨_, rfl, AVLe.of_eq (by rw [g1]; rfl)⟩, rfl, ⟨_, rfl, AVLe.of_eq (by rw [g2]; rfl)⟩, rfl, ⟨_, rfl, AVLe.of_eq (by rw [g3]; rfl)⟩, rfl, trivial⟩ trivial)
 ·have he : i = bs.length := by omega
  subst he
  have d0 : decide ((bs.length : Int) < (bs.length : Int)) = false := dF (by omega)
  rw [List.take_length]
  refine sR ?_;refine rC ?_;refine nQ ?_;refine wF ?_;refine wc_exit ?_;refine seq_x ?_;refine loop_x ?_;refine blk_x ?_;refine seq_n ?_;refine sR ?_;iterate 6 refine rC ?_
  refine nS ?_;refine wc_ret ?_
  exact ⟨trivial, [], lf⟩
def encAN : Option SAct → D
 | none => .cons (u8s 0) (.cons (i6 0) (.cons (i6 0) (.cons (.sc (.slice none 0 0)) (.cons (i6 0) .nil))))
 | some a => encAct a
def pickA (n : Int) : SAct := ⟨1, n, 0, [], 0⟩
def encAV : Bool × SAct → D
 | (true, a) => .cons (u8s a.kind) (.cons (i6 a.thread) (.cons (i6 a.sector) (.cons (.sc nil_) (.cons (i6 a.back) .nil))))
 | (false, a) => encAct a
def AVOk (x : Bool × SAct) : Prop := x.1 = true → x.2.bytes = []
theorem encAV_le {x : Bool × SAct} (h : AVOk x) : DLe (encAV x) (encAct x.2) := by
 obtain ⟨b, ⟨k, t, s, y, r⟩⟩ := x
 cases b with
 | false => exact fun _ _ _ h => h
 | true =>
  have : y = [] := h rfl
  subst this
  exact act_dle k t s r
theorem encAVs_le {l : List (Bool × SAct)} {bs : List SAct} (hb : bs = l.map (·.2)) (h : ∀ x ∈ l, AVOk x) : DLe (.arr 5 encAV l) (encAs bs) := dle_arr hb fun x hx => encAV_le (h x hx)
theorem encAV_size (x : Bool × SAct) : (encAV x).size = 5 := by obtain ⟨b, a⟩ := x; cases b <;> rfl
end Go.Proofs.YthiijfbcfoifnaaGreatDoor
namespace Go.Eng
section
variable {P : Program} {T : Tab} {env : Env} {h : Upds} {n : Nat}
end
end Go.Eng
namespace Go.Plain
open Go.Eng Go.Lib
end Go.Plain
namespace Go.Proofs.YthiijfbcfoifnaaGreatDoor
open Go.Eng Go.Plain
set_option maxHeartbeats 4000000
set_option maxRecDepth 20000
attribute [local irreducible] WC RegS RegD SeqQ BlkQ ScoQ RegK CutK Sat SatN FnIs LoopQ StepIs OpIs
def packV : List UInt8 → List Int
 | [] => []
 | [a] => [((16 * nibV a : Nat) : Int)]
 | a :: b :: l => ((16 * nibV a + nibV b : Nat) : Int) :: packV l
abbrev byR34 (o : Option (List UInt8)) : AV := .tup (.acons (.d (encB (o.getD []))) (.acons (.bool o.isSome) .anil))
def readW (ws : List (List UInt8)) : Option SAct := match ws with
 | [v] => if v = sFall then some ⟨5, 0, 0, [], 0⟩ else none
 | [v, a] => if v = sPick then (numS 31 a).map fun (n : Nat) => ⟨1, n, 0, [], 0⟩
  else if v = sErase then (numS 31 a).map fun (n : Nat) => ⟨3, 0, n, [], 0⟩ else none
 | [v, a, b] => if v = sEdit then (match numS 31 a, unhexP b with
  | some n, some d => some ⟨2, 0, n, d, 0⟩
  | _, _ => none)
  else if v = sReplay then (match numS 31 a, numS 31 b with
  | some n, some k => some ⟨4, 0, n, [], k⟩
  | _, _ => none) else none
 | _ => none
abbrev RdIs (t : List UInt8) (a : SAct) (b : Bool) : Prop := FnIs Tryz.prog 44 [.d (strD t)] [] (.tup (.acons (.d (encAct a)) (.acons (.bool b) .anil))) []
abbrev hdW : List (List UInt8) := [sVolume, sNonces, sFlaw, sMaster, sPrograms]
abbrev hdM : List Int := [5, 3, 2, 2, 1]
abbrev hdB : List Int := [31, 64, 8]
abbrev RhIs (i : Nat) (t : List UInt8) (c : SCfg) (c' : SCfg) (b : Bool) : Prop := FnIs Tryz.prog 42 [.int .i64 i, .d (strD t), .d (encCfg c)] [] (.tup (.acons (.d (encCfg c')) (.acons (.bool b) .anil))) []
def nums (B : Nat) (ws : List (List UInt8)) : List Int := ws.map fun w => (((numS B w).getD 0 : Nat) : Int)
def updH (i : Nat) (c : SCfg) (l : List Int) : SCfg :=
 if i = 0 then { c with blocks := l.getD 0 0, shards := l.getD 1 0, frames := l.getD 2 0, clients := l.getD 3 0 }
 else if i = 1 then { c with limit := l.getD 0 0, reserve := l.getD 1 0 } else { c with flaw := l.getD 0 0 }
end Go.Proofs.YthiijfbcfoifnaaGreatDoor
namespace Go.Proofs.YthiijfbcfoifnaaGreatDoor
open Go.Eng Go.Plain
set_option maxHeartbeats 2000000
end Go.Proofs.YthiijfbcfoifnaaGreatDoor
namespace Go.Proofs.YthiijfbcfoifnaaGreatDoor
open Go.Eng Go.Plain
set_option maxHeartbeats 8000000
set_option maxRecDepth 20000
attribute [local irreducible] WC RegS RegD SeqQ BlkQ ScoQ RegK CutK Sat SatN FnIs LoopQ StepIs OpIs
abbrev parSB (x : SScr) (n : Nat) (e : Int) : AV := .tup (.acons (.d (encScr x.1 x.2.1 x.2.2)) (.acons (.int .i64 n) (.acons (.d (i6 e)) .anil)))
abbrev rowZ : Row := .box 30 (.d r30.zero)
end Go.Proofs.YthiijfbcfoifnaaGreatDoor
namespace Go.Proofs.YthiijfbcfoifnaaGreatDoor
open Go.Eng Go.Plain
set_option maxHeartbeats 4000000
set_option maxRecDepth 20000
attribute [local irreducible] WC RegS RegD SeqQ BlkQ ScoQ RegK CutK Sat SatN FnIs LoopQ StepIs OpIs
theorem eq_of_at {α : Type} {a b : List α} (hl : a.length = b.length) (h : ∀ j, j < a.length → a[j]? = b[j]?) : a = b := by
 refine List.ext_getElem? fun j => ?_
 by_cases hj : j < a.length
 ·exact h j hj
 ·rw [List.getElem?_eq_none (by omega), List.getElem?_eq_none (by omega)]
theorem alike_is (a b : List SAct) (ha : a.length ≤ 1000000000) (hb : b.length ≤ 1000000000) : FnIs Tryz.prog 19 [.d (encAs a), .d (encAs b)] [] (.int .i64 (if a = b then 1 else 0)) [] := by
 refine fnIs_of tab_ok Tryz.func19 rfl rfl rfl ?_;refine sR ?_;refine rC ?_;refine nQ ?_;refine sR ?_;refine rC ?_;refine rQ iE ?_;refine rC ?_;refine rQ iE ?_;refine rC ?_
 refine nS ?_
 by_cases hl : a.length = b.length
 ·have d1 : (!decide ((a.length : Int) = (b.length : Int))) = false := by rw [dT (by omega)]; rfl
  refine wF ?_;refine kS ?_;refine qR ?_;refine rC ?_;refine nS ?_;refine wc_block ?_
  refine wc_inv (fun i : Nat => ⟨[(5, .int .i64 i), (0, .d (encAs a)), (1, .d (encAs b))], [], 64, Tryz.f19.ntmps, 64⟩) (fun i => i ≤ a.length ∧ ∀ j, j < i → a[j]? = b[j]?) (fun i => a.length - i) 0 [] ⟨Nat.zero_le _, fun j hj => absurd hj (Nat.not_lt_zero _)⟩
   (.of rfl rfl rfl rfl rfl ⟨⟨_, rfl, .refl _⟩, rfl, ⟨_, rfl, .refl _⟩, rfl, ⟨_, rfl, .refl _⟩, rfl, trivial⟩ trivial) ?_
  rintro i ⟨hi, hall⟩
  refine wc_of ?_
  by_cases hlt : i < a.length
  ·have d0 : decide ((i : Int) < (a.length : Int)) = true := dT (by omega)
   obtain ⟨x, hx⟩ : ∃ x, a[i]? = some x := ⟨_, List.getElem?_eq_getElem hlt⟩
   obtain ⟨y, hy⟩ : ∃ y, b[i]? = some y := ⟨_, List.getElem?_eq_getElem (by omega)⟩
   have hx2 : a[((i : Int)).toNat]? = some x := by rw [Int.toNat_natCast]; exact hx
   have hy2 : b[((i : Int)).toNat]? = some y := by rw [Int.toNat_natCast]; exact hy
   by_cases hq : x = y
   ·subst hq
    have e1 : (!decide (x.kind = x.kind)) = false := by simp
    have e2 : (!decide (x.thread = x.thread)) = false := by simp
    have e3 : (!decide (x.sector = x.sector)) = false := by simp
    have e4 : (!decide (x.back = x.back)) = false := by simp
    have e5 : (!decide (strOf (byI x.bytes) = strOf (byI x.bytes))) = false := by simp
    refine qR ?_;iterate 2 refine rC ?_
    refine rQ iE ?_;refine rC ?_;refine nS ?_;refine wT ?_;refine kS ?_;refine wc_seq ?_;refine wc_block ?_;refine wc_seq ?_;refine wc_draw (by kernel_rfl) ?_;refine dC [0] [] ?_
    refine dC [5] [] ?_;refine dQ [17, 18] [] (index_arr tab_ok rfl rfl rfl rfl rfl (by omega) hx2) ?_;refine dC [19] [] ?_;refine dQ [20] [] iL ?_;refine dC [1] [] ?_
    refine dC [5] [] ?_;refine dQ [22, 23] [] (index_arr tab_ok rfl rfl rfl rfl rfl (by omega) hy2) ?_;refine dC [24] [] ?_;refine dQ [25] [] iL ?_;refine dC [21, 26] [] ?_
    refine dC [27] [] ?_;refine dreg_onq [28, 0] [] rfl rfl (by assumption) rfl (step_C tab_ok (fun K hk => hk)) ?_;refine dreg_onq [28, 5] [] rfl rfl (by assumption) rfl (step_C tab_ok (fun K hk => hk)) ?_
    refine dreg_onq [28, 29, 30] [] rfl rfl (by assumption) rfl (index_arr tab_ok rfl rfl rfl rfl rfl (by omega) hx2) ?_;refine dreg_onq [28, 31] [] rfl rfl (by assumption) rfl (step_C tab_ok (fun K hk => hk)) ?_
    refine dreg_onq [28, 32] [] rfl rfl (by assumption) rfl (load_i tab_ok rfl rfl) ?_;refine dreg_onq [28, 1] [] rfl rfl (by assumption) rfl (step_C tab_ok (fun K hk => hk)) ?_
    refine dreg_onq [28, 5] [] rfl rfl (by assumption) rfl (step_C tab_ok (fun K hk => hk)) ?_;refine dreg_onq [28, 34, 35] [] rfl rfl (by assumption) rfl (index_arr tab_ok rfl rfl rfl rfl rfl (by omega) hy2) ?_
    refine dreg_onq [28, 36] [] rfl rfl (by assumption) rfl (step_C tab_ok (fun K hk => hk)) ?_;refine dreg_onq [28, 37] [] rfl rfl (by assumption) rfl (load_i tab_ok rfl rfl) ?_
    refine dreg_onq [28, 33, 38] [] rfl rfl (by assumption) rfl (step_C tab_ok (fun K hk => hk)) ?_;refine dQ [28, 39] [] iF ?_;refine dC [40] [] ?_;refine dreg_onq [41, 0] [] rfl rfl (by assumption) rfl (step_C tab_ok (fun K hk => hk)) ?_
    refine dreg_onq [41, 5] [] rfl rfl (by assumption) rfl (step_C tab_ok (fun K hk => hk)) ?_;refine dreg_onq [41, 42, 43] [] rfl rfl (by assumption) rfl (index_arr tab_ok rfl rfl rfl rfl rfl (by omega) hx2) ?_
    refine dreg_onq [41, 44] [] rfl rfl (by assumption) rfl (step_C tab_ok (fun K hk => hk)) ?_;refine dreg_onq [41, 45] [] rfl rfl (by assumption) rfl (load_i tab_ok rfl rfl) ?_
    refine dreg_onq [41, 1] [] rfl rfl (by assumption) rfl (step_C tab_ok (fun K hk => hk)) ?_;refine dreg_onq [41, 5] [] rfl rfl (by assumption) rfl (step_C tab_ok (fun K hk => hk)) ?_
    refine dreg_onq [41, 47, 48] [] rfl rfl (by assumption) rfl (index_arr tab_ok rfl rfl rfl rfl rfl (by omega) hy2) ?_;refine dreg_onq [41, 49] [] rfl rfl (by assumption) rfl (step_C tab_ok (fun K hk => hk)) ?_
    refine dreg_onq [41, 50] [] rfl rfl (by assumption) rfl (load_i tab_ok rfl rfl) ?_;refine dreg_onq [41, 46, 51] [] rfl rfl (by assumption) rfl (step_C tab_ok (fun K hk => hk)) ?_
    refine dQ [41, 52] [] iF ?_;refine dC [53] [] ?_;refine dreg_onq [54, 0] [] rfl rfl (by assumption) rfl (step_C tab_ok (fun K hk => hk)) ?_;refine dreg_onq [54, 5] [] rfl rfl (by assumption) rfl (step_C tab_ok (fun K hk => hk)) ?_
    refine dreg_onq [54, 55, 56] [] rfl rfl (by assumption) rfl (index_arr tab_ok rfl rfl rfl rfl rfl (by omega) hx2) ?_;refine dreg_onq [54, 57] [] rfl rfl (by assumption) rfl (step_C tab_ok (fun K hk => hk)) ?_
    refine dreg_onq [54, 58] [] rfl rfl (by assumption) rfl (load_i tab_ok rfl rfl) ?_;refine dreg_onq [54, 1] [] rfl rfl (by assumption) rfl (step_C tab_ok (fun K hk => hk)) ?_
    refine dreg_onq [54, 5] [] rfl rfl (by assumption) rfl (step_C tab_ok (fun K hk => hk)) ?_;refine dreg_onq [54, 60, 61] [] rfl rfl (by assumption) rfl (index_arr tab_ok rfl rfl rfl rfl rfl (by omega) hy2) ?_
    refine dreg_onq [54, 62] [] rfl rfl (by assumption) rfl (step_C tab_ok (fun K hk => hk)) ?_;refine dreg_onq [54, 63] [] rfl rfl (by assumption) rfl (load_i tab_ok rfl rfl) ?_
    refine dreg_onq [54, 59, 64] [] rfl rfl (by assumption) rfl (step_C tab_ok (fun K hk => hk)) ?_;refine dQ [54, 65] [] iF ?_;refine dC [66] [] ?_;refine dreg_onq [67, 0] [] rfl rfl (by assumption) rfl (step_C tab_ok (fun K hk => hk)) ?_
    refine dreg_onq [67, 5] [] rfl rfl (by assumption) rfl (step_C tab_ok (fun K hk => hk)) ?_;refine dreg_onq [67, 68, 69] [] rfl rfl (by assumption) rfl (index_arr tab_ok rfl rfl rfl rfl rfl (by omega) hx2) ?_
    refine dreg_onq [67, 70] [] rfl rfl (by assumption) rfl (step_C tab_ok (fun K hk => hk)) ?_;refine dreg_onq [67, 71] [] rfl rfl (by assumption) rfl (load_i tab_ok rfl rfl) ?_
    refine dreg_onq [67, 72] [] rfl rfl (by assumption) rfl (conv_bytes tab_ok rfl rfl rfl rfl) ?_;refine dreg_onq [67, 1] [] rfl rfl (by assumption) rfl (step_C tab_ok (fun K hk => hk)) ?_
    refine dreg_onq [67, 5] [] rfl rfl (by assumption) rfl (step_C tab_ok (fun K hk => hk)) ?_;refine dreg_onq [67, 74, 75] [] rfl rfl (by assumption) rfl (index_arr tab_ok rfl rfl rfl rfl rfl (by omega) hy2) ?_
    refine dreg_onq [67, 76] [] rfl rfl (by assumption) rfl (step_C tab_ok (fun K hk => hk)) ?_;refine dreg_onq [67, 77] [] rfl rfl (by assumption) rfl (load_i tab_ok rfl rfl) ?_
    refine dreg_onq [67, 78] [] rfl rfl (by assumption) rfl (conv_bytes tab_ok rfl rfl rfl rfl) ?_;refine dreg_onq [67, 73, 79] [] rfl rfl (by assumption) rfl (neq_str tab_ok rfl rfl rfl) ?_
    refine dQ [67, 80] [] iF ?_;refine dreg_end (by kernel_rfl) ?_;refine seq_n ?_;refine wF ?_;refine wc_skip ?_;refine blk_n ?_;refine seq_n ?_;refine wc_region ?_
    refine rC ?_;refine rQ iD ?_;refine rC ?_;refine reg_nil ?_
    exact loop_n (i + 1) [] ⟨hlt, fun j hj => by
     by_cases e : j = i
     ·subst e; rw [hx, hy]
     ·exact hall j (by omega)⟩ (by omega) (.of rfl rfl rfl rfl rfl ⟨⟨_, rfl, .refl _⟩, rfl, ⟨_, rfl, .refl _⟩, rfl, ⟨_, rfl, .refl _⟩, rfl, trivial⟩ trivial)
   ·rw [if_neg (show ¬ a = b from fun e => by subst e; rw [hx] at hy; cases hy; exact hq rfl)]
    by_cases k1 : x.kind = y.kind
    ·have e1 : (!decide (x.kind = y.kind)) = false := by simp [k1]
     by_cases k2 : x.thread = y.thread
     ·have e2 : (!decide (x.thread = y.thread)) = false := by simp [k2]
      by_cases k3 : x.sector = y.sector
      ·have e3 : (!decide (x.sector = y.sector)) = false := by simp [k3]
       by_cases k4 : x.back = y.back
       ·have e4 : (!decide (x.back = y.back)) = false := by simp [k4]
        have k5 : ¬ x.bytes = y.bytes := fun k5 => hq (by cases x; cases y; simp_all)
        have e5 : (!decide (strOf (byI x.bytes) = strOf (byI y.bytes))) = true := by rw [strOf_byI, strOf_byI, mkS_dec]; simp [k5]
        refine qR ?_;iterate 2 refine rC ?_
        refine rQ iE ?_;refine rC ?_;refine nS ?_;refine wT ?_;refine kS ?_;refine wc_seq ?_;refine wc_block ?_;refine wc_seq ?_;refine wc_draw (by kernel_rfl) ?_;refine dC [0] [] ?_
        refine dC [5] [] ?_;refine dQ [17, 18] [] (index_arr tab_ok rfl rfl rfl rfl rfl (by omega) hx2) ?_;refine dC [19] [] ?_;refine dQ [20] [] iL ?_;refine dC [1] [] ?_
        refine dC [5] [] ?_;refine dQ [22, 23] [] (index_arr tab_ok rfl rfl rfl rfl rfl (by omega) hy2) ?_;refine dC [24] [] ?_;refine dQ [25] [] iL ?_;refine dC [21, 26] [] ?_
        refine dC [27] [] ?_;refine dreg_onq [28, 0] [] rfl rfl (by assumption) rfl (step_C tab_ok (fun K hk => hk)) ?_;refine dreg_onq [28, 5] [] rfl rfl (by assumption) rfl (step_C tab_ok (fun K hk => hk)) ?_
        refine dreg_onq [28, 29, 30] [] rfl rfl (by assumption) rfl (index_arr tab_ok rfl rfl rfl rfl rfl (by omega) hx2) ?_;refine dreg_onq [28, 31] [] rfl rfl (by assumption) rfl (step_C tab_ok (fun K hk => hk)) ?_
        refine dreg_onq [28, 32] [] rfl rfl (by assumption) rfl (load_i tab_ok rfl rfl) ?_;refine dreg_onq [28, 1] [] rfl rfl (by assumption) rfl (step_C tab_ok (fun K hk => hk)) ?_
        refine dreg_onq [28, 5] [] rfl rfl (by assumption) rfl (step_C tab_ok (fun K hk => hk)) ?_;refine dreg_onq [28, 34, 35] [] rfl rfl (by assumption) rfl (index_arr tab_ok rfl rfl rfl rfl rfl (by omega) hy2) ?_
        refine dreg_onq [28, 36] [] rfl rfl (by assumption) rfl (step_C tab_ok (fun K hk => hk)) ?_;refine dreg_onq [28, 37] [] rfl rfl (by assumption) rfl (load_i tab_ok rfl rfl) ?_
        refine dreg_onq [28, 33, 38] [] rfl rfl (by assumption) rfl (step_C tab_ok (fun K hk => hk)) ?_;refine dQ [28, 39] [] iF ?_;refine dC [40] [] ?_;refine dreg_onq [41, 0] [] rfl rfl (by assumption) rfl (step_C tab_ok (fun K hk => hk)) ?_
        refine dreg_onq [41, 5] [] rfl rfl (by assumption) rfl (step_C tab_ok (fun K hk => hk)) ?_;refine dreg_onq [41, 42, 43] [] rfl rfl (by assumption) rfl (index_arr tab_ok rfl rfl rfl rfl rfl (by omega) hx2) ?_
        refine dreg_onq [41, 44] [] rfl rfl (by assumption) rfl (step_C tab_ok (fun K hk => hk)) ?_;refine dreg_onq [41, 45] [] rfl rfl (by assumption) rfl (load_i tab_ok rfl rfl) ?_
        refine dreg_onq [41, 1] [] rfl rfl (by assumption) rfl (step_C tab_ok (fun K hk => hk)) ?_;refine dreg_onq [41, 5] [] rfl rfl (by assumption) rfl (step_C tab_ok (fun K hk => hk)) ?_
        refine dreg_onq [41, 47, 48] [] rfl rfl (by assumption) rfl (index_arr tab_ok rfl rfl rfl rfl rfl (by omega) hy2) ?_;refine dreg_onq [41, 49] [] rfl rfl (by assumption) rfl (step_C tab_ok (fun K hk => hk)) ?_
        refine dreg_onq [41, 50] [] rfl rfl (by assumption) rfl (load_i tab_ok rfl rfl) ?_;refine dreg_onq [41, 46, 51] [] rfl rfl (by assumption) rfl (step_C tab_ok (fun K hk => hk)) ?_
        refine dQ [41, 52] [] iF ?_;refine dC [53] [] ?_;refine dreg_onq [54, 0] [] rfl rfl (by assumption) rfl (step_C tab_ok (fun K hk => hk)) ?_;refine dreg_onq [54, 5] [] rfl rfl (by assumption) rfl (step_C tab_ok (fun K hk => hk)) ?_
        refine dreg_onq [54, 55, 56] [] rfl rfl (by assumption) rfl (index_arr tab_ok rfl rfl rfl rfl rfl (by omega) hx2) ?_;refine dreg_onq [54, 57] [] rfl rfl (by assumption) rfl (step_C tab_ok (fun K hk => hk)) ?_
        refine dreg_onq [54, 58] [] rfl rfl (by assumption) rfl (load_i tab_ok rfl rfl) ?_;refine dreg_onq [54, 1] [] rfl rfl (by assumption) rfl (step_C tab_ok (fun K hk => hk)) ?_
        refine dreg_onq [54, 5] [] rfl rfl (by assumption) rfl (step_C tab_ok (fun K hk => hk)) ?_;refine dreg_onq [54, 60, 61] [] rfl rfl (by assumption) rfl (index_arr tab_ok rfl rfl rfl rfl rfl (by omega) hy2) ?_
        refine dreg_onq [54, 62] [] rfl rfl (by assumption) rfl (step_C tab_ok (fun K hk => hk)) ?_;refine dreg_onq [54, 63] [] rfl rfl (by assumption) rfl (load_i tab_ok rfl rfl) ?_
        refine dreg_onq [54, 59, 64] [] rfl rfl (by assumption) rfl (step_C tab_ok (fun K hk => hk)) ?_;refine dQ [54, 65] [] iF ?_;refine dC [66] [] ?_;refine dreg_onq [67, 0] [] rfl rfl (by assumption) rfl (step_C tab_ok (fun K hk => hk)) ?_
        refine dreg_onq [67, 5] [] rfl rfl (by assumption) rfl (step_C tab_ok (fun K hk => hk)) ?_;refine dreg_onq [67, 68, 69] [] rfl rfl (by assumption) rfl (index_arr tab_ok rfl rfl rfl rfl rfl (by omega) hx2) ?_
        refine dreg_onq [67, 70] [] rfl rfl (by assumption) rfl (step_C tab_ok (fun K hk => hk)) ?_;refine dreg_onq [67, 71] [] rfl rfl (by assumption) rfl (load_i tab_ok rfl rfl) ?_
        refine dreg_onq [67, 72] [] rfl rfl (by assumption) rfl (conv_bytes tab_ok rfl rfl rfl rfl) ?_;refine dreg_onq [67, 1] [] rfl rfl (by assumption) rfl (step_C tab_ok (fun K hk => hk)) ?_
        refine dreg_onq [67, 5] [] rfl rfl (by assumption) rfl (step_C tab_ok (fun K hk => hk)) ?_;refine dreg_onq [67, 74, 75] [] rfl rfl (by assumption) rfl (index_arr tab_ok rfl rfl rfl rfl rfl (by omega) hy2) ?_
        refine dreg_onq [67, 76] [] rfl rfl (by assumption) rfl (step_C tab_ok (fun K hk => hk)) ?_;refine dreg_onq [67, 77] [] rfl rfl (by assumption) rfl (load_i tab_ok rfl rfl) ?_
        refine dreg_onq [67, 78] [] rfl rfl (by assumption) rfl (conv_bytes tab_ok rfl rfl rfl rfl) ?_;refine dreg_onq [67, 73, 79] [] rfl rfl (by assumption) rfl (neq_str tab_ok rfl rfl rfl) ?_
        refine dQ [67, 80] [] iF ?_;refine dreg_end (by kernel_rfl) ?_;refine seq_n ?_;refine wT ?_;refine sR ?_;refine rC ?_;refine nS ?_;refine wc_ret ?_;refine blk_r ?_
        refine seq_r ?_;refine loop_r ?_;refine blk_r ?_;refine seq_r ?_
        exact ⟨trivial, [], lf⟩
       ·have e4 : (!decide (x.back = y.back)) = true := by simp [k4]
        refine qR ?_;iterate 2 refine rC ?_
        refine rQ iE ?_;refine rC ?_;refine nS ?_;refine wT ?_;refine kS ?_;refine wc_seq ?_;refine wc_block ?_;refine wc_seq ?_;refine wc_draw (by kernel_rfl) ?_;refine dC [0] [] ?_
        refine dC [5] [] ?_;refine dQ [17, 18] [] (index_arr tab_ok rfl rfl rfl rfl rfl (by omega) hx2) ?_;refine dC [19] [] ?_;refine dQ [20] [] iL ?_;refine dC [1] [] ?_
        refine dC [5] [] ?_;refine dQ [22, 23] [] (index_arr tab_ok rfl rfl rfl rfl rfl (by omega) hy2) ?_;refine dC [24] [] ?_;refine dQ [25] [] iL ?_;refine dC [21, 26] [] ?_
        refine dC [27] [] ?_;refine dreg_onq [28, 0] [] rfl rfl (by assumption) rfl (step_C tab_ok (fun K hk => hk)) ?_;refine dreg_onq [28, 5] [] rfl rfl (by assumption) rfl (step_C tab_ok (fun K hk => hk)) ?_
        refine dreg_onq [28, 29, 30] [] rfl rfl (by assumption) rfl (index_arr tab_ok rfl rfl rfl rfl rfl (by omega) hx2) ?_;refine dreg_onq [28, 31] [] rfl rfl (by assumption) rfl (step_C tab_ok (fun K hk => hk)) ?_
        refine dreg_onq [28, 32] [] rfl rfl (by assumption) rfl (load_i tab_ok rfl rfl) ?_;refine dreg_onq [28, 1] [] rfl rfl (by assumption) rfl (step_C tab_ok (fun K hk => hk)) ?_
        refine dreg_onq [28, 5] [] rfl rfl (by assumption) rfl (step_C tab_ok (fun K hk => hk)) ?_;refine dreg_onq [28, 34, 35] [] rfl rfl (by assumption) rfl (index_arr tab_ok rfl rfl rfl rfl rfl (by omega) hy2) ?_
        refine dreg_onq [28, 36] [] rfl rfl (by assumption) rfl (step_C tab_ok (fun K hk => hk)) ?_;refine dreg_onq [28, 37] [] rfl rfl (by assumption) rfl (load_i tab_ok rfl rfl) ?_
        refine dreg_onq [28, 33, 38] [] rfl rfl (by assumption) rfl (step_C tab_ok (fun K hk => hk)) ?_;refine dQ [28, 39] [] iF ?_;refine dC [40] [] ?_;refine dreg_onq [41, 0] [] rfl rfl (by assumption) rfl (step_C tab_ok (fun K hk => hk)) ?_
        refine dreg_onq [41, 5] [] rfl rfl (by assumption) rfl (step_C tab_ok (fun K hk => hk)) ?_;refine dreg_onq [41, 42, 43] [] rfl rfl (by assumption) rfl (index_arr tab_ok rfl rfl rfl rfl rfl (by omega) hx2) ?_
        refine dreg_onq [41, 44] [] rfl rfl (by assumption) rfl (step_C tab_ok (fun K hk => hk)) ?_;refine dreg_onq [41, 45] [] rfl rfl (by assumption) rfl (load_i tab_ok rfl rfl) ?_
        refine dreg_onq [41, 1] [] rfl rfl (by assumption) rfl (step_C tab_ok (fun K hk => hk)) ?_;refine dreg_onq [41, 5] [] rfl rfl (by assumption) rfl (step_C tab_ok (fun K hk => hk)) ?_
        refine dreg_onq [41, 47, 48] [] rfl rfl (by assumption) rfl (index_arr tab_ok rfl rfl rfl rfl rfl (by omega) hy2) ?_;refine dreg_onq [41, 49] [] rfl rfl (by assumption) rfl (step_C tab_ok (fun K hk => hk)) ?_
        refine dreg_onq [41, 50] [] rfl rfl (by assumption) rfl (load_i tab_ok rfl rfl) ?_;refine dreg_onq [41, 46, 51] [] rfl rfl (by assumption) rfl (step_C tab_ok (fun K hk => hk)) ?_
        refine dQ [41, 52] [] iF ?_;refine dC [53] [] ?_;refine dreg_onq [54, 0] [] rfl rfl (by assumption) rfl (step_C tab_ok (fun K hk => hk)) ?_;refine dreg_onq [54, 5] [] rfl rfl (by assumption) rfl (step_C tab_ok (fun K hk => hk)) ?_
        refine dreg_onq [54, 55, 56] [] rfl rfl (by assumption) rfl (index_arr tab_ok rfl rfl rfl rfl rfl (by omega) hx2) ?_;refine dreg_onq [54, 57] [] rfl rfl (by assumption) rfl (step_C tab_ok (fun K hk => hk)) ?_
        refine dreg_onq [54, 58] [] rfl rfl (by assumption) rfl (load_i tab_ok rfl rfl) ?_;refine dreg_onq [54, 1] [] rfl rfl (by assumption) rfl (step_C tab_ok (fun K hk => hk)) ?_
        refine dreg_onq [54, 5] [] rfl rfl (by assumption) rfl (step_C tab_ok (fun K hk => hk)) ?_;refine dreg_onq [54, 60, 61] [] rfl rfl (by assumption) rfl (index_arr tab_ok rfl rfl rfl rfl rfl (by omega) hy2) ?_
        refine dreg_onq [54, 62] [] rfl rfl (by assumption) rfl (step_C tab_ok (fun K hk => hk)) ?_;refine dreg_onq [54, 63] [] rfl rfl (by assumption) rfl (load_i tab_ok rfl rfl) ?_
        refine dreg_onq [54, 59, 64] [] rfl rfl (by assumption) rfl (step_C tab_ok (fun K hk => hk)) ?_;refine dQ [54, 65] [] iF ?_;refine dC [66] [] ?_;refine dreg_offq [67, 0] rfl rfl (by assumption) rfl ?_
        refine dreg_offq [67, 5] rfl rfl (by assumption) rfl ?_;refine dreg_offq [67, 68, 69] rfl rfl (by assumption) rfl ?_;refine dreg_offq [67, 70] rfl rfl (by assumption) rfl ?_
        refine dreg_offq [67, 71] rfl rfl (by assumption) rfl ?_;refine dreg_offq [67, 72] rfl rfl (by assumption) rfl ?_;refine dreg_offq [67, 1] rfl rfl (by assumption) rfl ?_
        refine dreg_offq [67, 5] rfl rfl (by assumption) rfl ?_;refine dreg_offq [67, 74, 75] rfl rfl (by assumption) rfl ?_;refine dreg_offq [67, 76] rfl rfl (by assumption) rfl ?_
        refine dreg_offq [67, 77] rfl rfl (by assumption) rfl ?_;refine dreg_offq [67, 78] rfl rfl (by assumption) rfl ?_;refine dreg_offq [67, 73, 79] rfl rfl (by assumption) rfl ?_
        refine dQ [67, 80] [] iT ?_;refine dreg_end (by kernel_rfl) ?_;refine seq_n ?_;refine wV ?_;refine sR ?_;refine rC ?_;refine nS ?_;refine wc_ret ?_;refine blk_r ?_
        refine seq_r ?_;refine loop_r ?_;refine blk_r ?_;refine seq_r ?_
        exact ⟨trivial, [], lf⟩
      ·have e3 : (!decide (x.sector = y.sector)) = true := by simp [k3]
       refine qR ?_;iterate 2 refine rC ?_
       refine rQ iE ?_;refine rC ?_;refine nS ?_;refine wT ?_;refine kS ?_;refine wc_seq ?_;refine wc_block ?_;refine wc_seq ?_;refine wc_draw (by kernel_rfl) ?_;refine dC [0] [] ?_
       refine dC [5] [] ?_;refine dQ [17, 18] [] (index_arr tab_ok rfl rfl rfl rfl rfl (by omega) hx2) ?_;refine dC [19] [] ?_;refine dQ [20] [] iL ?_;refine dC [1] [] ?_
       refine dC [5] [] ?_;refine dQ [22, 23] [] (index_arr tab_ok rfl rfl rfl rfl rfl (by omega) hy2) ?_;refine dC [24] [] ?_;refine dQ [25] [] iL ?_;refine dC [21, 26] [] ?_
       refine dC [27] [] ?_;refine dreg_onq [28, 0] [] rfl rfl (by assumption) rfl (step_C tab_ok (fun K hk => hk)) ?_;refine dreg_onq [28, 5] [] rfl rfl (by assumption) rfl (step_C tab_ok (fun K hk => hk)) ?_
       refine dreg_onq [28, 29, 30] [] rfl rfl (by assumption) rfl (index_arr tab_ok rfl rfl rfl rfl rfl (by omega) hx2) ?_;refine dreg_onq [28, 31] [] rfl rfl (by assumption) rfl (step_C tab_ok (fun K hk => hk)) ?_
       refine dreg_onq [28, 32] [] rfl rfl (by assumption) rfl (load_i tab_ok rfl rfl) ?_;refine dreg_onq [28, 1] [] rfl rfl (by assumption) rfl (step_C tab_ok (fun K hk => hk)) ?_
       refine dreg_onq [28, 5] [] rfl rfl (by assumption) rfl (step_C tab_ok (fun K hk => hk)) ?_;refine dreg_onq [28, 34, 35] [] rfl rfl (by assumption) rfl (index_arr tab_ok rfl rfl rfl rfl rfl (by omega) hy2) ?_
       refine dreg_onq [28, 36] [] rfl rfl (by assumption) rfl (step_C tab_ok (fun K hk => hk)) ?_;refine dreg_onq [28, 37] [] rfl rfl (by assumption) rfl (load_i tab_ok rfl rfl) ?_
       refine dreg_onq [28, 33, 38] [] rfl rfl (by assumption) rfl (step_C tab_ok (fun K hk => hk)) ?_;refine dQ [28, 39] [] iF ?_;refine dC [40] [] ?_;refine dreg_onq [41, 0] [] rfl rfl (by assumption) rfl (step_C tab_ok (fun K hk => hk)) ?_
       refine dreg_onq [41, 5] [] rfl rfl (by assumption) rfl (step_C tab_ok (fun K hk => hk)) ?_;refine dreg_onq [41, 42, 43] [] rfl rfl (by assumption) rfl (index_arr tab_ok rfl rfl rfl rfl rfl (by omega) hx2) ?_
       refine dreg_onq [41, 44] [] rfl rfl (by assumption) rfl (step_C tab_ok (fun K hk => hk)) ?_;refine dreg_onq [41, 45] [] rfl rfl (by assumption) rfl (load_i tab_ok rfl rfl) ?_
       refine dreg_onq [41, 1] [] rfl rfl (by assumption) rfl (step_C tab_ok (fun K hk => hk)) ?_;refine dreg_onq [41, 5] [] rfl rfl (by assumption) rfl (step_C tab_ok (fun K hk => hk)) ?_
       refine dreg_onq [41, 47, 48] [] rfl rfl (by assumption) rfl (index_arr tab_ok rfl rfl rfl rfl rfl (by omega) hy2) ?_;refine dreg_onq [41, 49] [] rfl rfl (by assumption) rfl (step_C tab_ok (fun K hk => hk)) ?_
       refine dreg_onq [41, 50] [] rfl rfl (by assumption) rfl (load_i tab_ok rfl rfl) ?_;refine dreg_onq [41, 46, 51] [] rfl rfl (by assumption) rfl (step_C tab_ok (fun K hk => hk)) ?_
       refine dQ [41, 52] [] iF ?_;refine dC [53] [] ?_;refine dreg_offq [54, 0] rfl rfl (by assumption) rfl ?_;refine dreg_offq [54, 5] rfl rfl (by assumption) rfl ?_
       refine dreg_offq [54, 55, 56] rfl rfl (by assumption) rfl ?_;refine dreg_offq [54, 57] rfl rfl (by assumption) rfl ?_;refine dreg_offq [54, 58] rfl rfl (by assumption) rfl ?_
       refine dreg_offq [54, 1] rfl rfl (by assumption) rfl ?_;refine dreg_offq [54, 5] rfl rfl (by assumption) rfl ?_;refine dreg_offq [54, 60, 61] rfl rfl (by assumption) rfl ?_
       refine dreg_offq [54, 62] rfl rfl (by assumption) rfl ?_;refine dreg_offq [54, 63] rfl rfl (by assumption) rfl ?_;refine dreg_offq [54, 59, 64] rfl rfl (by assumption) rfl ?_
       refine dQ [54, 65] [] iT ?_;refine dC [66] [] ?_;refine dreg_offq [67, 0] rfl rfl rfl rfl ?_;refine dreg_offq [67, 5] rfl rfl rfl rfl ?_;refine dreg_offq [67, 68, 69] rfl rfl rfl rfl ?_
       refine dreg_offq [67, 70] rfl rfl rfl rfl ?_;refine dreg_offq [67, 71] rfl rfl rfl rfl ?_;refine dreg_offq [67, 72] rfl rfl rfl rfl ?_;refine dreg_offq [67, 1] rfl rfl rfl rfl ?_
       refine dreg_offq [67, 5] rfl rfl rfl rfl ?_;refine dreg_offq [67, 74, 75] rfl rfl rfl rfl ?_;refine dreg_offq [67, 76] rfl rfl rfl rfl ?_;refine dreg_offq [67, 77] rfl rfl rfl rfl ?_
       refine dreg_offq [67, 78] rfl rfl rfl rfl ?_;refine dreg_offq [67, 73, 79] rfl rfl rfl rfl ?_;refine dQ [67, 80] [] iU ?_;refine dreg_end (by kernel_rfl) ?_;refine seq_n ?_
       refine wV ?_;refine sR ?_;refine rC ?_;refine nS ?_;refine wc_ret ?_;refine blk_r ?_;refine seq_r ?_;refine loop_r ?_;refine blk_r ?_;refine seq_r ?_
       exact ⟨trivial, [], lf⟩
     ·have e2 : (!decide (x.thread = y.thread)) = true := by simp [k2]
      refine qR ?_;iterate 2 refine rC ?_
      refine rQ iE ?_;refine rC ?_;refine nS ?_;refine wT ?_;refine kS ?_;refine wc_seq ?_;refine wc_block ?_;refine wc_seq ?_;refine wc_draw (by kernel_rfl) ?_;refine dC [0] [] ?_
      refine dC [5] [] ?_;refine dQ [17, 18] [] (index_arr tab_ok rfl rfl rfl rfl rfl (by omega) hx2) ?_;refine dC [19] [] ?_;refine dQ [20] [] iL ?_;refine dC [1] [] ?_
      refine dC [5] [] ?_;refine dQ [22, 23] [] (index_arr tab_ok rfl rfl rfl rfl rfl (by omega) hy2) ?_;refine dC [24] [] ?_;refine dQ [25] [] iL ?_;refine dC [21, 26] [] ?_
      refine dC [27] [] ?_;refine dreg_onq [28, 0] [] rfl rfl (by assumption) rfl (step_C tab_ok (fun K hk => hk)) ?_;refine dreg_onq [28, 5] [] rfl rfl (by assumption) rfl (step_C tab_ok (fun K hk => hk)) ?_
      refine dreg_onq [28, 29, 30] [] rfl rfl (by assumption) rfl (index_arr tab_ok rfl rfl rfl rfl rfl (by omega) hx2) ?_;refine dreg_onq [28, 31] [] rfl rfl (by assumption) rfl (step_C tab_ok (fun K hk => hk)) ?_
      refine dreg_onq [28, 32] [] rfl rfl (by assumption) rfl (load_i tab_ok rfl rfl) ?_;refine dreg_onq [28, 1] [] rfl rfl (by assumption) rfl (step_C tab_ok (fun K hk => hk)) ?_
      refine dreg_onq [28, 5] [] rfl rfl (by assumption) rfl (step_C tab_ok (fun K hk => hk)) ?_;refine dreg_onq [28, 34, 35] [] rfl rfl (by assumption) rfl (index_arr tab_ok rfl rfl rfl rfl rfl (by omega) hy2) ?_
      refine dreg_onq [28, 36] [] rfl rfl (by assumption) rfl (step_C tab_ok (fun K hk => hk)) ?_;refine dreg_onq [28, 37] [] rfl rfl (by assumption) rfl (load_i tab_ok rfl rfl) ?_
      refine dreg_onq [28, 33, 38] [] rfl rfl (by assumption) rfl (step_C tab_ok (fun K hk => hk)) ?_;refine dQ [28, 39] [] iF ?_;refine dC [40] [] ?_;refine dreg_offq [41, 0] rfl rfl (by assumption) rfl ?_
      refine dreg_offq [41, 5] rfl rfl (by assumption) rfl ?_;refine dreg_offq [41, 42, 43] rfl rfl (by assumption) rfl ?_;refine dreg_offq [41, 44] rfl rfl (by assumption) rfl ?_
      refine dreg_offq [41, 45] rfl rfl (by assumption) rfl ?_;refine dreg_offq [41, 1] rfl rfl (by assumption) rfl ?_;refine dreg_offq [41, 5] rfl rfl (by assumption) rfl ?_
      refine dreg_offq [41, 47, 48] rfl rfl (by assumption) rfl ?_;refine dreg_offq [41, 49] rfl rfl (by assumption) rfl ?_;refine dreg_offq [41, 50] rfl rfl (by assumption) rfl ?_
      refine dreg_offq [41, 46, 51] rfl rfl (by assumption) rfl ?_;refine dQ [41, 52] [] iT ?_;refine dC [53] [] ?_;refine dreg_offq [54, 0] rfl rfl rfl rfl ?_;refine dreg_offq [54, 5] rfl rfl rfl rfl ?_
      refine dreg_offq [54, 55, 56] rfl rfl rfl rfl ?_;refine dreg_offq [54, 57] rfl rfl rfl rfl ?_;refine dreg_offq [54, 58] rfl rfl rfl rfl ?_;refine dreg_offq [54, 1] rfl rfl rfl rfl ?_
      refine dreg_offq [54, 5] rfl rfl rfl rfl ?_;refine dreg_offq [54, 60, 61] rfl rfl rfl rfl ?_;refine dreg_offq [54, 62] rfl rfl rfl rfl ?_;refine dreg_offq [54, 63] rfl rfl rfl rfl ?_
      refine dreg_offq [54, 59, 64] rfl rfl rfl rfl ?_;refine dQ [54, 65] [] iU ?_;refine dC [66] [] ?_;refine dreg_offq [67, 0] rfl rfl rfl rfl ?_;refine dreg_offq [67, 5] rfl rfl rfl rfl ?_
      refine dreg_offq [67, 68, 69] rfl rfl rfl rfl ?_;refine dreg_offq [67, 70] rfl rfl rfl rfl ?_;refine dreg_offq [67, 71] rfl rfl rfl rfl ?_;refine dreg_offq [67, 72] rfl rfl rfl rfl ?_
      refine dreg_offq [67, 1] rfl rfl rfl rfl ?_;refine dreg_offq [67, 5] rfl rfl rfl rfl ?_;refine dreg_offq [67, 74, 75] rfl rfl rfl rfl ?_;refine dreg_offq [67, 76] rfl rfl rfl rfl ?_
      refine dreg_offq [67, 77] rfl rfl rfl rfl ?_;refine dreg_offq [67, 78] rfl rfl rfl rfl ?_;refine dreg_offq [67, 73, 79] rfl rfl rfl rfl ?_;refine dQ [67, 80] [] iU ?_
      refine dreg_end (by kernel_rfl) ?_;refine seq_n ?_;refine wV ?_;refine sR ?_;refine rC ?_;refine nS ?_;refine wc_ret ?_;refine blk_r ?_;refine seq_r ?_;refine loop_r ?_
      refine blk_r ?_;refine seq_r ?_
      exact ⟨trivial, [], lf⟩
    ·have e1 : (!decide (x.kind = y.kind)) = true := by simp [k1]
     refine qR ?_;iterate 2 refine rC ?_
     refine rQ iE ?_;refine rC ?_;refine nS ?_;refine wT ?_;refine kS ?_;refine wc_seq ?_;refine wc_block ?_;refine wc_seq ?_;refine wc_draw (by kernel_rfl) ?_;refine dC [0] [] ?_
     refine dC [5] [] ?_;refine dQ [17, 18] [] (index_arr tab_ok rfl rfl rfl rfl rfl (by omega) hx2) ?_;refine dC [19] [] ?_;refine dQ [20] [] iL ?_;refine dC [1] [] ?_
     refine dC [5] [] ?_;refine dQ [22, 23] [] (index_arr tab_ok rfl rfl rfl rfl rfl (by omega) hy2) ?_;refine dC [24] [] ?_;refine dQ [25] [] iL ?_;refine dC [21, 26] [] ?_
     refine dC [27] [] ?_;refine dreg_offq [28, 0] rfl rfl (by assumption) rfl ?_;refine dreg_offq [28, 5] rfl rfl (by assumption) rfl ?_;refine dreg_offq [28, 29, 30] rfl rfl (by assumption) rfl ?_
     refine dreg_offq [28, 31] rfl rfl (by assumption) rfl ?_;refine dreg_offq [28, 32] rfl rfl (by assumption) rfl ?_;refine dreg_offq [28, 1] rfl rfl (by assumption) rfl ?_
     refine dreg_offq [28, 5] rfl rfl (by assumption) rfl ?_;refine dreg_offq [28, 34, 35] rfl rfl (by assumption) rfl ?_;refine dreg_offq [28, 36] rfl rfl (by assumption) rfl ?_
     refine dreg_offq [28, 37] rfl rfl (by assumption) rfl ?_;refine dreg_offq [28, 33, 38] rfl rfl (by assumption) rfl ?_;refine dQ [28, 39] [] iT ?_;refine dC [40] [] ?_
     refine dreg_offq [41, 0] rfl rfl rfl rfl ?_;refine dreg_offq [41, 5] rfl rfl rfl rfl ?_;refine dreg_offq [41, 42, 43] rfl rfl rfl rfl ?_;refine dreg_offq [41, 44] rfl rfl rfl rfl ?_
     refine dreg_offq [41, 45] rfl rfl rfl rfl ?_;refine dreg_offq [41, 1] rfl rfl rfl rfl ?_;refine dreg_offq [41, 5] rfl rfl rfl rfl ?_;refine dreg_offq [41, 47, 48] rfl rfl rfl rfl ?_
     refine dreg_offq [41, 49] rfl rfl rfl rfl ?_;refine dreg_offq [41, 50] rfl rfl rfl rfl ?_;refine dreg_offq [41, 46, 51] rfl rfl rfl rfl ?_;refine dQ [41, 52] [] iU ?_
     refine dC [53] [] ?_;refine dreg_offq [54, 0] rfl rfl rfl rfl ?_;refine dreg_offq [54, 5] rfl rfl rfl rfl ?_;refine dreg_offq [54, 55, 56] rfl rfl rfl rfl ?_;refine dreg_offq [54, 57] rfl rfl rfl rfl ?_
     refine dreg_offq [54, 58] rfl rfl rfl rfl ?_;refine dreg_offq [54, 1] rfl rfl rfl rfl ?_;refine dreg_offq [54, 5] rfl rfl rfl rfl ?_;refine dreg_offq [54, 60, 61] rfl rfl rfl rfl ?_
     refine dreg_offq [54, 62] rfl rfl rfl rfl ?_;refine dreg_offq [54, 63] rfl rfl rfl rfl ?_;refine dreg_offq [54, 59, 64] rfl rfl rfl rfl ?_;refine dQ [54, 65] [] iU ?_
     refine dC [66] [] ?_;refine dreg_offq [67, 0] rfl rfl rfl rfl ?_;refine dreg_offq [67, 5] rfl rfl rfl rfl ?_;refine dreg_offq [67, 68, 69] rfl rfl rfl rfl ?_;refine dreg_offq [67, 70] rfl rfl rfl rfl ?_
     refine dreg_offq [67, 71] rfl rfl rfl rfl ?_;refine dreg_offq [67, 72] rfl rfl rfl rfl ?_;refine dreg_offq [67, 1] rfl rfl rfl rfl ?_;refine dreg_offq [67, 5] rfl rfl rfl rfl ?_
     refine dreg_offq [67, 74, 75] rfl rfl rfl rfl ?_;refine dreg_offq [67, 76] rfl rfl rfl rfl ?_;refine dreg_offq [67, 77] rfl rfl rfl rfl ?_;refine dreg_offq [67, 78] rfl rfl rfl rfl ?_
     refine dreg_offq [67, 73, 79] rfl rfl rfl rfl ?_;refine dQ [67, 80] [] iU ?_;refine dreg_end (by kernel_rfl) ?_;refine seq_n ?_;refine wV ?_;refine sR ?_;refine rC ?_
     refine nS ?_;refine wc_ret ?_;refine blk_r ?_;refine seq_r ?_;refine loop_r ?_;refine blk_r ?_;refine seq_r ?_
     exact ⟨trivial, [], lf⟩
  ·have he : i = a.length := by omega
   subst he
   have d0 : decide ((a.length : Int) < (a.length : Int)) = false := dF (by omega)
   rw [if_pos (eq_of_at hl hall)]
   refine qR ?_;iterate 2 refine rC ?_
   refine rQ iE ?_;refine rC ?_;refine nS ?_;refine wF ?_;refine wc_exit ?_;refine seq_x ?_;refine loop_x ?_;refine blk_x ?_;refine seq_n ?_;refine sR ?_;refine rC ?_
   refine nS ?_;refine wc_ret ?_
   exact ⟨trivial, [], lf⟩
 ·have d1 : (!decide ((a.length : Int) = (b.length : Int))) = true := by rw [dF (by omega)]; rfl
  rw [if_neg (show ¬ a = b from fun e => hl (by rw [e]))]
  refine wT ?_;refine sR ?_;refine rC ?_;refine nS ?_;refine wc_ret ?_;refine seq_r ?_
  exact ⟨trivial, [], lf⟩
def exC : SCfg := ⟨1, 1, 3, 1, 8, 8, List.replicate 32 0, 0⟩
abbrev exV : List (Bool × SAct) := [(true, ⟨1, 0, 0, [], 0⟩), (false, ⟨2, 0, 2, [10, 255], 0⟩), (true, ⟨3, 0, 1, [], 0⟩), (true, ⟨4, 0, 0, [], 1⟩), (true, ⟨5, 0, 0, [], 0⟩)]
def encNL : Unit → D := fun _ => .sc nil_
theorem ex_is : FnIs Tryz.prog 17 [] [] (.acons (.d (encCfg exC)) (.acons (.d (.arr 1 encNL [()])) (.acons (.own 64 0 5 5 none) (.d .nil)))) [(64, .ds 39 5 true encAV exV)] := by
 refine fnIs_of tab_ok Tryz.func17 rfl rfl rfl ?_;refine sR ?_;refine rN ?_;refine nR ?_;refine rQ iS ?_;refine rQ (StepIs.frozen (build_slice (s := 1) tab_ok rfl rfl rfl rfl rfl rfl rfl rfl) (Frz.lits1 (enc := encNL) () rfl rfl)) ?_
 refine rQ iS ?_;refine rQ (StepIs.frozen (build_slice (s := 1) tab_ok rfl rfl rfl rfl rfl rfl rfl rfl) (Frz.lits2 (enc := encU8) (10 : Int) (255 : Int) rfl rfl rfl rfl)) ?_
 iterate 4 refine rQ iS ?_
 refine reg_new (build_list (s := 5) (enc := encAV) (xs := exV) tab_ok rfl rfl rfl rfl rfl rfl rfl rfl rfl encAV_size rfl) rfl ?_;refine rQ iS ?_;refine rW ?_;refine nS ?_
 refine wc_ret ?_
 exact ⟨trivial, _, rfl, [(64, some _)], .of rfl rfl rfl rfl rfl ⟨⟨_, rfl, AVLe.of_eq rfl⟩, rfl, trivial⟩ ⟨⟨rfl, rfl, _, rfl, .refl _⟩, trivial⟩⟩
def exL (t s : Int) : List SAct := [⟨1, t, 0, [], 0⟩, ⟨2, 0, 2, [10, 255], 0⟩, ⟨3, 0, s, [], 0⟩, ⟨4, 0, 0, [], 1⟩, ⟨5, 0, 0, [], 0⟩]
theorem exL_0 : schk exC [[]] (exL 0 1) = 0 := by decide +kernel
theorem exL_2 : schk exC [[]] (exL 2 1) = 1 := by decide +kernel
theorem exL_1 : schk exC [[]] (exL 1 1) = 0 := by decide +kernel
theorem exL_4 : schk exC [[]] (exL 1 4) = 1 := by decide +kernel
def lvA : List UInt8 := [118, 111, 108, 117, 109, 101, 32, 49, 32, 49, 32, 51, 32, 49, 10, 110, 111, 110, 99, 101, 115, 32, 56, 32, 56, 10, 102, 108, 97, 119, 32, 48, 10, 109, 97, 115, 116, 101, 114, 32]
def lvB : List UInt8 := [10, 112, 114, 111, 103, 114, 97, 109, 115, 10]
def lvC : List UInt8 := [97, 99, 116, 105, 111, 110, 115, 10, 112, 105, 99, 107, 32, 48, 10, 101, 100, 105, 116, 32, 50, 32, 48, 97, 102, 102, 10, 101, 114, 97, 115, 101, 32, 49, 10, 114, 101, 112, 108, 97, 121, 32, 48, 32, 49, 10, 102, 97, 108, 108, 10]
theorem exT : textP2 exC [[]] (exL 0 1) = (lvA ++ hexP (List.replicate 32 0) ++ lvB ++ textP [[]] ++ lvC, 0) := by decide +kernel
theorem exP : chkP [[]] = 0 := by decide +kernel
def px1 : List UInt8 := [118, 111, 108, 117, 109, 101, 32, 49, 32, 49, 32, 51, 10]
def px2 : List UInt8 := [118, 111, 108, 117, 109, 101, 32, 49, 32, 49, 32, 51, 32, 49, 10, 110, 111, 110, 99, 101, 115, 32, 56, 32, 48, 56, 10]
def px3 : List UInt8 := [118, 111, 108, 117, 109, 101, 32, 49, 32, 49, 32, 51, 32, 49]
theorem px_1 : parseX px1 = (zScr, 1, 5) := by decide +kernel
theorem px_2 : parseX px2 = (zScr, 2, 5) := by decide +kernel
theorem px_3 : parseX px3 = (zScr, 0, 5) := by decide +kernel
theorem exC_ok : exC.Ok := ⟨by unfold InI exC; decide, by unfold InI exC; decide, by unfold InI exC; decide, by unfold InI exC; decide, by unfold InU exC; decide, by unfold InU exC; decide, rfl, by unfold exC; decide⟩
abbrev exW (t s : Int) : List (Bool × SAct) := [(true, ⟨1, t, 0, [], 0⟩), (false, ⟨2, 0, 2, [10, 255], 0⟩), (true, ⟨3, 0, s, [], 0⟩), (true, ⟨4, 0, 0, [], 1⟩), (true, ⟨5, 0, 0, [], 0⟩)]
theorem exW_ok (t s : Int) : ∀ x ∈ exW t s, AVOk x := by
 intro x hx
 simp only [exW, List.mem_cons, List.not_mem_nil, or_false] at hx
 rcases hx with rfl | rfl | rfl | rfl | rfl
 ·exact fun _ => rfl
 ·exact fun h => by cases h
 ·exact fun _ => rfl
 ·exact fun _ => rfl
 ·exact fun _ => rfl
theorem nl_le : DLe (.arr 1 encNL [()]) (encPL [[]]) := dle_arr (g := fun _ => []) rfl fun _ _ => DLe.nil_arr 3 encPOp
theorem arg_scr {look : Nat → Option Row} {ρ : Nat → Option Nat} {c : SCfg} {l : List (List POp)} {r n te : Nat} {ex : Bool} {cap : Option Nat} {P : D} {V : List (Bool × SAct)} {bs : List SAct} {bs9 avs : List AV} (hr : look r = some (.ds te 5 ex encAV V)) (hn : n = V.length) (hP : DLe P (encPL l)) (hb : bs = V.map (·.2)) (hV : ∀ x ∈ V, AVOk x) (h : ArgsA look ρ bs9 avs) :
  ArgsA look ρ (.acons (.d (encCfg c)) (.acons (.d P) (.acons (.own r 0 n 5 cap) (.d .nil))) :: bs9) (.d (encScr c l bs) :: avs) :=
 ⟨_, avs, rfl, ⟨rfl, rfl⟩, ⟨rfl, _, _, rfl, DLe.refl _, _, _, rfl, hP, _, _, rfl, by subst hn; simp only [ArgD, hr]; exact ⟨trivial, by simp, V, by simp, encAVs_le hb hV⟩, DLe.refl _⟩, h⟩
theorem exL_len (t s : Int) : (exL t s).length ≤ 1000000000 := by show 5 ≤ _; decide
theorem exL_W (t s : Int) : exL t s = (exW t s).map (·.2) := rfl
theorem nb : Bd [[]] := ⟨by decide, fun p hp => by simp only [List.mem_cons, List.not_mem_nil, or_false] at hp; subst hp; decide⟩
theorem nok : OkL [[]] := fun p hp => by simp only [List.mem_cons, List.not_mem_nil, or_false] at hp; subst hp; intro o ho; cases ho
theorem exL_ok : ∀ a ∈ exL 0 1, a.Ok := by
 intro a ha
 simp only [exL, List.mem_cons, List.not_mem_nil, or_false] at ha
 rcases ha with rfl | rfl | rfl | rfl | rfl <;> exact ⟨by decide, by unfold InI; decide, by unfold InI; decide, by unfold InI; decide⟩
theorem plT (l : List UInt8) (e : Int) : PlainRes (.tup (.acons (.d (strD l)) (.acons (.d (i6 e)) .anil))) [] := PlainRes.of ⟨trivial, trivial, trivial⟩ plain_rows_nil
theorem plC : PlainRes (.tup (.acons (.int .i64 (cA isP (exL 0 1))) (.acons (.int .i64 (cA isE (exL 0 1))) (.acons (.int .i64 (cA isF (exL 0 1))) .anil)))) [] := PlainRes.of ⟨trivial, trivial, trivial, trivial⟩ plain_rows_nil
theorem lives_is : FnIs Tryz.prog 10 [] [] (.bool true) [] := by
 have hl1 : lvA.length + (hexP (List.replicate 32 0)).length ≤ 9223372036854775807 := by decide +kernel
 have hl2 : (lvA ++ hexP (List.replicate 32 0)).length + lvB.length ≤ 9223372036854775807 := by decide +kernel
 have hl3 : (lvA ++ hexP (List.replicate 32 0) ++ lvB).length + (textP [[]]).length ≤ 9223372036854775807 := by decide +kernel
 have hl4 : (lvA ++ hexP (List.replicate 32 0) ++ lvB ++ textP [[]]).length + lvC.length ≤ 9223372036854775807 := by decide +kernel
 have hne : (!decide (mkS (lvA ++ hexP (List.replicate 32 0) ++ lvB ++ textP [[]] ++ lvC) = mkS (lvA ++ hexP (List.replicate 32 0) ++ lvB ++ textP [[]] ++ lvC))) = false := by simp
 have hHex := rhex34_is (List.replicate 32 0) (by decide)
 have hText := stext_is exC [[]] (exL 0 1) exC_ok nb nok (exL_len _ _) exL_ok
 have hProg := text_is [[]] nb nok
 have hC0 := scheck_is exC [[]] (exL 0 1) exC_ok nb (exL_len _ _)
 have hC2 := scheck_is exC [[]] (exL 2 1) exC_ok nb (exL_len _ _)
 have hC1 := scheck_is exC [[]] (exL 1 1) exC_ok nb (exL_len _ _)
 have hC4 := scheck_is exC [[]] (exL 1 4) exC_ok nb (exL_len _ _)
 have hCnt := countA_is exC [[]] (exL 0 1) (exL_len _ _)
 have hP1 := sparse_is px1
 have hP2 := sparse_is px2
 have hP3 := sparse_is px3
 rw [exT] at hText
 rw [exP, if_pos rfl] at hProg
 rw [exL_0] at hC0
 rw [exL_2] at hC2
 rw [exL_1] at hC1
 rw [exL_4] at hC4
 rw [px_1] at hP1
 rw [px_2] at hP2
 rw [px_3] at hP3
 refine fnIs_of tab_ok Tryz.func10 rfl rfl rfl ?_;refine sR ?_;refine rC ?_;refine nR ?_;refine reg_new (call_new ex_is rfl rfl arg_nil (.inl rfl) rfl rfl) rfl ?_
 refine rN ?_;refine rW ?_;refine nR ?_;refine rQ iM ?_;refine rQ (call_r hText rfl rfl (arg_scr rfl rfl nl_le (exL_W 0 1) (exW_ok 0 1) arg_nil) (.inr (plT _ _)) (fun _ => rfl)) ?_
 iterate 5 refine rC ?_
 refine nR ?_;refine rC ?_;refine rQ iM ?_;refine rQ (call_r hProg rfl rfl (arg_d rfl trivial nl_le arg_nil) (.inl rfl) (fun _ => rfl)) ?_;iterate 5 refine rC ?_
 refine nR ?_;refine reg_new (make_full (enc := encU8) (s := 1) (N := 32) tab_ok 0 rfl rfl rfl rfl rfl rfl rfl (by decide) rfl) rfl ?_;refine rQ (call_r hHex rfl rfl (arg_ownL (xs := byI (List.replicate 32 0)) (enc := encU8) (s := 1) rfl rfl arg_nil) (.inr (PlainRes.sc _)) (fun _ => rfl)) ?_
 refine rQ (add_str (a := lvA) (b := hexP (List.replicate 32 0)) rfl rfl hl1 rfl) ?_;refine rQ (add_str (a := lvA ++ hexP (List.replicate 32 0)) (b := lvB) rfl rfl hl2 rfl) ?_
 refine rC ?_;refine nQ ?_;refine sR ?_;iterate 3 refine rC ?_
 refine rP ?_;refine rC ?_;refine rP ?_;refine rC ?_;refine rQ iG ?_;refine rC ?_;refine rP ?_;refine rQ iM ?_;refine rP ?_;refine rQ (call_r hC0 rfl rfl (arg_scr rfl rfl nl_le (exL_W 0 1) (exW_ok 0 1) arg_nil) (.inr (PlainRes.sc _)) (fun _ => rfl)) ?_
 refine rP ?_;refine rC ?_;refine rQ iG ?_;refine rC ?_;refine rP ?_;refine rC ?_;refine rP ?_;refine rC ?_;refine rP ?_;refine rC ?_;refine rP ?_;refine rQ (add_str (a := lvA ++ hexP (List.replicate 32 0) ++ lvB) (b := textP [[]]) rfl rfl hl3 rfl) ?_
 refine rP ?_;refine rQ (add_str (a := lvA ++ hexP (List.replicate 32 0) ++ lvB ++ textP [[]]) (b := lvC) rfl rfl hl4 rfl) ?_;refine rP ?_;refine rQ (neq_str tab_ok rfl rfl rfl) ?_
 refine rQ iG ?_;refine nS ?_;refine wG ?_;refine kS ?_;refine sR ?_;refine rQ iM ?_;refine rQ (call_r hCnt rfl rfl (arg_scr rfl rfl nl_le (exL_W 0 1) (exW_ok 0 1) arg_nil) (.inr plC) (fun _ => rfl)) ?_
 iterate 7 refine rC ?_
 refine nR ?_;refine rC ?_;refine rQ iM ?_;refine rQ (index_own tab_ok rfl rfl rfl rfl rfl (by omega) (by omega)) ?_;refine rC ?_;refine reg_store (store_row tab_ok rfl rfl rfl ⟨rfl, (true, ⟨1, 0, 0, [], 0⟩), (true, ⟨1, 2, 0, [], 0⟩), rfl, ⟨_, ⟨rfl, rfl, rfl⟩, rfl⟩, rfl⟩ rfl) ?_
 refine nR ?_;refine rQ iM ?_;refine rQ (call_r hC2 rfl rfl (arg_scr rfl rfl nl_le (exL_W 2 1) (exW_ok 2 1) arg_nil) (.inr (PlainRes.sc _)) (fun _ => rfl)) ?_;refine rC ?_
 refine nR ?_;refine rC ?_;refine rQ iM ?_;refine rQ (index_own tab_ok rfl rfl rfl rfl rfl (by omega) (by omega)) ?_;refine rC ?_;refine reg_store (store_row tab_ok rfl rfl rfl ⟨rfl, (true, ⟨1, 2, 0, [], 0⟩), (true, ⟨1, 1, 0, [], 0⟩), rfl, ⟨_, ⟨rfl, rfl, rfl⟩, rfl⟩, rfl⟩ rfl) ?_
 refine nR ?_;refine rQ iM ?_;refine rQ (call_r hC1 rfl rfl (arg_scr rfl rfl nl_le (exL_W 1 1) (exW_ok 1 1) arg_nil) (.inr (PlainRes.sc _)) (fun _ => rfl)) ?_;refine rC ?_
 refine nR ?_;refine rC ?_;refine rQ iM ?_;refine rQ (index_own tab_ok rfl rfl rfl rfl rfl (by omega) (by omega)) ?_;refine rC ?_;refine reg_store (store_row tab_ok rfl rfl rfl ⟨rfl, (true, ⟨3, 0, 1, [], 0⟩), (true, ⟨3, 0, 4, [], 0⟩), rfl, ⟨_, ⟨rfl, rfl, rfl⟩, rfl⟩, rfl⟩ rfl) ?_
 refine nQ ?_;refine sR ?_;refine rQ (StepIs.frozen (build_slice (s := 1) tab_ok rfl rfl rfl rfl rfl rfl rfl rfl) (Frz.litsN (enc := strD) [px1, px2, px3] rfl (fun _ _ => rfl))) ?_
 refine rQ iE ?_;refine rC ?_;refine nS ?_;refine wc_block ?_
 refine wc_inv (fun i : Nat => ⟨[(76, .int .i64 i), (75, .int .i64 3), (74, .d (.arr 1 strD [px1, px2, px3])), (1, .ptr 64 []), (7, .int .i64 1), (8, .int .i64 3), (9, .int .i64 1), (10, .int .i64 1), (11, .int .i64 0)], [(64, some (.box 30 (.acons (.d (encCfg exC)) (.acons (.d (.arr 1 encNL [()])) (.acons (.own 65 0 5 5 none) (.d .nil)))))), (65, some (.ds 39 5 true encAV (exW 1 4)))], 72, Tryz.f10.ntmps, 64⟩) (fun i => i ≤ 3) (fun i => 3 - i) 0 [(64, some _), (65, some _)] (Nat.zero_le _)
  (.of rfl rfl rfl rfl rfl ⟨⟨_, rfl, .refl _⟩, rfl, ⟨_, rfl, .refl _⟩, rfl, ⟨_, rfl, .refl _⟩, rfl, ⟨_, rfl, .refl _⟩, rfl, ⟨_, rfl, .refl _⟩, rfl, ⟨_, rfl, .refl _⟩, rfl, ⟨_, rfl, .refl _⟩, rfl, ⟨_, rfl, .refl _⟩, rfl, ⟨_, rfl, .refl _⟩, rfl, trivial⟩ ⟨⟨rfl, rfl, _, rfl, .refl _⟩, ⟨rfl, rfl, _, rfl, .refl _⟩, trivial⟩) ?_
 intro i hi
 refine wc_of ?_
 by_cases hlt : i < 3
 ·have d0 : decide ((i : Int) < 3) = true := dT (by omega)
  obtain ⟨t, n, ht, hn, hP⟩ : ∃ (t : List UInt8) (n : Nat), [px1, px2, px3][((i : Int)).toNat]? = some t ∧ Sub (.cons (i6 1) (.cons (i6 2) (.cons (i6 0) .nil))) [.idx ((i : Int)).toNat 1] (i6 n) ∧ FnIs Tryz.prog 15 [.d (strD t)] [] (parSA zScr n 5) [] := by
   rw [Int.toNat_natCast]
   match i, hlt with
   | 0, _ => exact ⟨px1, 1, rfl, rfl, hP1⟩
   | 1, _ => exact ⟨px2, 2, rfl, rfl, hP2⟩
   | 2, _ => exact ⟨px3, 0, rfl, rfl, hP3⟩
  have dn : (!decide ((n : Int) = (n : Int))) = false := by simp
  refine sR ?_;refine rC ?_;refine nQ ?_;refine wT ?_;refine kS ?_;refine wc_seq ?_;refine wc_block ?_;refine sR ?_;refine rC ?_;refine rQ (index_arr tab_ok rfl rfl rfl rfl rfl (by omega) ht) ?_
  refine rQ iL ?_;iterate 2 refine rC ?_
  refine nR ?_;refine rC ?_;refine rQ (call_r hP rfl rfl (arg_e arg_nil) (.inl rfl) (fun _ => rfl)) ?_;iterate 4 refine rC ?_
  refine rN ?_;refine rW ?_;iterate 2 refine rC ?_
  refine nR ?_;iterate 3 refine rC ?_
  refine rP ?_;refine rC ?_;refine rP ?_;refine rQ (build_arr_of tab_ok rfl rfl rfl rfl rfl rfl rfl) ?_;refine rP ?_;refine rC ?_;refine rP ?_;refine rQ (index_vec (k := .i64) (m := (i : Int)) (z := i6 n) tab_ok rfl rfl rfl rfl rfl (by omega) (by omega) hn rfl) ?_
  refine rP ?_;refine rC ?_;refine rQ iG ?_;refine nS ?_;refine wF ?_;refine wc_skip ?_;refine blk_n ?_;refine seq_n ?_;refine wc_region ?_;refine rQ iD ?_;refine rC ?_
  refine reg_nil ?_
  exact loop_n (i + 1) [(64, some _), (65, some _)] hlt (by omega) (.of rfl rfl rfl rfl rfl ⟨⟨_, rfl, .refl _⟩, rfl, ⟨_, rfl, .refl _⟩, rfl, ⟨_, rfl, .refl _⟩, rfl, ⟨_, rfl, .refl _⟩, rfl, ⟨_, rfl, .refl _⟩, rfl, ⟨_, rfl, .refl _⟩, rfl, ⟨_, rfl, .refl _⟩, rfl, ⟨_, rfl, .refl _⟩, rfl, ⟨_, rfl, .refl _⟩, rfl, trivial⟩ ⟨⟨rfl, rfl, _, rfl, .refl _⟩, ⟨rfl, rfl, _, rfl, .refl _⟩, trivial⟩)
 ·have he : i = 3 := by omega
  subst he
  refine sR ?_;refine rC ?_;refine nQ ?_;refine wG ?_;refine wc_exit ?_;refine seq_x ?_;refine loop_x ?_;refine blk_x ?_;refine seq_n ?_;refine sR ?_;iterate 3 refine rC ?_
  refine rP ?_;refine rC ?_;refine rP ?_;refine rC ?_;refine rQ iU ?_;refine rC ?_;refine rP ?_;refine rC ?_;refine rP ?_;refine rC ?_;refine rQ iU ?_;refine rC ?_
  refine rP ?_;refine rC ?_;refine rP ?_;refine rC ?_;refine rQ iU ?_;refine rC ?_;refine rP ?_;refine rC ?_;refine rP ?_;refine rC ?_;refine rQ iU ?_;refine rC ?_
  refine rP ?_;refine rQ iM ?_;refine rP ?_;refine rQ (call_r hC4 rfl rfl (arg_scr rfl rfl nl_le (exL_W 1 4) (exW_ok 1 4) arg_nil) (.inr (PlainRes.sc _)) (fun _ => rfl)) ?_
  refine rP ?_;refine rC ?_;refine rQ iU ?_;refine rC ?_;refine nS ?_;refine wc_ret ?_
  exact ⟨trivial, [], lf⟩
end Go.Proofs.YthiijfbcfoifnaaGreatDoor
namespace Go.Proofs.YthiijfbcfoifnaaGreatDoor
open Go.Eng Go.Plain
set_option maxHeartbeats 8000000
set_option maxRecDepth 20000
attribute [local irreducible] WC RegS RegD SeqQ BlkQ ScoQ RegK CutK Sat SatN FnIs LoopQ StepIs OpIs
theorem key_eq (a b : List UInt8) : EqOk Tryz.prog 2 24 (encK a) (encK b) (decide (byI a = byI b)) :=
 eq_vec tab_ok (P := Tryz.prog) Tryz.underlying24 rfl (fun _ => rfl) rfl (fun _ _ => eq_int (P := Tryz.prog) Tryz.underlying5)
theorem eqf_acts (p q : List SAct) (hL : p.length ≤ 1000000000) : FnIs Tryz.prog 57 [.d (encAs p), .d (encAs q), fnA 58] [] (.bool (decide (p = q))) [] := by
 refine fnIs_of tab_ok Tryz.func57 rfl rfl rfl ?_
 by_cases hlen : p.length = q.length
 ·have hd : (!decide ((p.length : Int) = (q.length : Int))) = false := by rw [dT (by omega)]; rfl
  refine sR ?_;refine rC ?_;refine nQ ?_;refine sR ?_;refine rC ?_;refine rQ iE ?_;refine rC ?_;refine rQ iE ?_;refine rC ?_;refine nS ?_;refine wF ?_;refine kS ?_
  refine qR ?_;refine rC ?_;refine rQ iE ?_;refine rC ?_;refine nS ?_;refine wc_block ?_
  refine wc_inv (fun i : Nat => ⟨[(17, .int .i64 i), (16, .int .i64 p.length), (15, .d (encAs p)), (2, fnA 58), (1, .d (encAs q))], [], 72, Tryz.f57.ntmps, 64⟩) (fun i => i ≤ p.length ∧ p.take i = q.take i) (fun i => p.length - i) 0 [] ⟨Nat.zero_le _, by simp⟩
   (.of rfl rfl rfl rfl rfl ⟨⟨_, rfl, .refl _⟩, rfl, ⟨_, rfl, .refl _⟩, rfl, ⟨_, rfl, .refl _⟩, rfl, ⟨_, rfl, .refl _⟩, rfl, ⟨_, rfl, .refl _⟩, rfl, trivial⟩ trivial) ?_
  intro i hi
  obtain ⟨hi, hsame⟩ := hi
  refine wc_of ?_;refine sR ?_;refine rC ?_;refine nQ ?_
  refine wc_cond rfl (fun h3 => ?_) (fun h3 => ?_)
  ·have hlt : i < p.length := by have := of_decide_eq_true h3; omega
   obtain ⟨x, hx⟩ : ∃ x, p[i]? = some x := ⟨_, List.getElem?_eq_getElem hlt⟩
   obtain ⟨y, hy⟩ : ∃ y, q[i]? = some y := ⟨_, List.getElem?_eq_getElem (by omega)⟩
   have hx' : p[((i : Int)).toNat]? = some x := by rw [Int.toNat_natCast]; exact hx
   have hy' : q[((i : Int)).toNat]? = some y := by rw [Int.toNat_natCast]; exact hy
   by_cases he : x = y
   ·have hn : (!decide (x = y)) = false := by rw [dT he]; rfl
    refine kS ?_;refine wc_seq ?_;refine wc_block ?_;refine sR ?_;refine rC ?_;refine rQ iA ?_;refine rQ iL ?_;refine rN ?_;refine rC ?_;refine rW ?_;refine nR ?_;iterate 2 refine rC ?_
    refine rQ iA ?_;refine rQ iL ?_;refine rN ?_;refine rW ?_;refine nR ?_;refine rC ?_;iterate 2 refine rQ iM ?_
    refine rQ (call_r (sameact_is x y) rfl rfl (arg_e (arg_e arg_nil)) (.inl rfl) (fun _ => rfl)) ?_;refine rC ?_;refine nS ?_;refine wF ?_;refine wc_skip ?_;refine blk_n ?_
    refine seq_n ?_;refine wc_region ?_;refine rQ iD ?_;refine rC ?_;refine reg_nil ?_
    exact loop_n (i + 1) [] ⟨hlt, by rw [List.take_add_one, List.take_add_one, hx, hy, hsame, he]⟩ (by omega) (.of rfl rfl rfl rfl rfl ⟨⟨_, rfl, .refl _⟩, rfl, ⟨_, rfl, .refl _⟩, rfl, ⟨_, rfl, .refl _⟩, rfl, ⟨_, rfl, .refl _⟩, rfl, ⟨_, rfl, .refl _⟩, rfl, trivial⟩ trivial)
   ·have hn : (!decide (x = y)) = true := by rw [dF he]; rfl
    have hne : decide (p = q) = false := dF fun e => he (by rw [e, hy] at hx; cases hx; rfl)
    rw [hne]
    refine kS ?_;refine wc_seq ?_;refine wc_block ?_;refine sR ?_;refine rC ?_;refine rQ iA ?_;refine rQ iL ?_;refine rN ?_;refine rC ?_;refine rW ?_;refine nR ?_;iterate 2 refine rC ?_
    refine rQ iA ?_;refine rQ iL ?_;refine rN ?_;refine rW ?_;refine nR ?_;refine rC ?_;iterate 2 refine rQ iM ?_
    refine rQ (call_r (sameact_is x y) rfl rfl (arg_e (arg_e arg_nil)) (.inl rfl) (fun _ => rfl)) ?_;refine rC ?_;refine nS ?_;refine wT ?_;refine sR ?_;refine rC ?_
    refine nS ?_;refine wc_ret ?_;refine blk_r ?_;refine seq_r ?_;refine loop_r ?_;refine blk_r ?_;refine seq_r ?_
    exact ⟨trivial, [], lf⟩
  ·have he : i = p.length := by have := of_decide_eq_false h3; omega
   subst he
   have hpq : decide (p = q) = true := dT (by rw [List.take_length] at hsame; rw [hsame, hlen, List.take_length])
   rw [hpq]
   refine wc_exit ?_;refine seq_x ?_;refine loop_x ?_;refine blk_x ?_;refine seq_n ?_;refine sR ?_;refine rC ?_;refine nS ?_;refine wc_ret ?_
   exact ⟨trivial, [], lf⟩
 ·have hd : (!decide ((p.length : Int) = (q.length : Int))) = true := by rw [dF (by omega)]; rfl
  have hne : decide (p = q) = false := dF fun e => hlen (by rw [e])
  rw [hne]
  refine sR ?_;refine rC ?_;refine nQ ?_;refine sR ?_;refine rC ?_;refine rQ iE ?_;refine rC ?_;refine rQ iE ?_;refine rC ?_;refine nS ?_;refine wT ?_;refine sR ?_
  refine rC ?_;refine nS ?_;refine wc_ret ?_;refine seq_r ?_
  exact ⟨trivial, [], lf⟩
theorem byI_inj {a b : List UInt8} : byI a = byI b ↔ a = b := by
 constructor
 ·intro h
  induction a generalizing b with
  | nil => cases b with
   | nil => rfl
   | cons y b => simp [byI] at h
  | cons x a ih => cases b with
   | nil => simp [byI] at h
   | cons y b =>
    simp only [byI, List.map_cons, List.cons.injEq] at h
    rw [ih h.2, UInt8.toNat_inj.1 (Int.ofNat.inj h.1)]
 ·rintro rfl; rfl
theorem cfg_eqg (a b : SCfg) : EqOk Tryz.prog 3 26 (encCfg a) (encCfg b) (decide (a = b)) := by
 refine (eq_struct (P := Tryz.prog) Tryz.underlying26 (by kernel_rfl) rfl rfl (eqf_cons tab_ok rfl (by kernel_rfl) rfl rfl ((eq_int (P := Tryz.prog) Tryz.underlying3).up (by decide)) rfl (eqf_cons tab_ok rfl (by kernel_rfl) rfl rfl ((eq_int (P := Tryz.prog) Tryz.underlying3).up (by decide)) rfl (eqf_cons tab_ok rfl (by kernel_rfl) rfl rfl ((eq_int (P := Tryz.prog) Tryz.underlying3).up (by decide)) rfl (eqf_cons tab_ok rfl (by kernel_rfl) rfl rfl ((eq_int (P := Tryz.prog) Tryz.underlying3).up (by decide)) rfl (eqf_cons tab_ok rfl (by kernel_rfl) rfl rfl ((eq_int (P := Tryz.prog) Tryz.underlying22).up (by decide)) rfl (eqf_cons tab_ok rfl (by kernel_rfl) rfl rfl ((eq_int (P := Tryz.prog) Tryz.underlying22).up (by decide)) rfl (eqf_cons tab_ok rfl (by kernel_rfl) rfl rfl (key_eq _ _) rfl (eqf_cons tab_ok rfl (by kernel_rfl) rfl rfl ((eq_int (P := Tryz.prog) Tryz.underlying5).up (by decide)) rfl eqf_nil))))))))).cast ?_
 obtain ⟨a1, a2, a3, a4, a5, a6, a7, a8⟩ := a
 obtain ⟨b1, b2, b3, b4, b5, b6, b7, b8⟩ := b
 simp only [SCfg.mk.injEq]
 by_cases h1 : a1 = b1 <;> by_cases h2 : a2 = b2 <;> by_cases h3 : a3 = b3 <;> by_cases h4 : a4 = b4 <;> by_cases h5 : a5 = b5 <;> by_cases h6 : a6 = b6 <;> by_cases h7 : a7 = b7 <;> by_cases h8 : a8 = b8 <;> simp [byI_inj, h1, h2, h3, h4, h5, h6, h7, h8]
theorem ssame_is (c d : SCfg) (l m : List (List POp)) (bs cs : List SAct) (hl : Bd l) (hb : bs.length ≤ 1000000000) : FnIs Tryz.prog 24 [.d (encScr c l bs), .d (encScr d m cs)] [] (.bool (decide (c = d) && (decide (l = m) && decide (bs = cs)))) [] := by
 have hps := same_is l m hl.1 hl.2
 have hac := eqf_acts bs cs hb
 refine fnIs_of tab_ok Tryz.func24 rfl rfl rfl ?_;refine sR ?_;iterate 2 refine rN ?_
 refine rC ?_;refine nR ?_;refine rC ?_;refine rQ iB ?_;refine rC ?_;refine rQ iB ?_;refine rQ (eql_data rfl rfl rfl rfl (by kernel_rfl) (by decide) (cfg_eqg c d)) ?_
 refine rC ?_
 cases h1 : decide (c = d) with
 | false =>
  iterate 5 refine rT ?_
  refine rQ iG ?_;refine rC ?_;iterate 5 refine rT ?_
  refine rQ iG ?_;refine rC ?_;refine nS ?_;refine wc_ret ?_
  exact ⟨trivial, [], lf⟩
 | true =>
  refine rP ?_;refine rC ?_;refine rP ?_;refine rQ iB ?_;refine rP ?_;refine rC ?_;refine rP ?_;refine rQ iB ?_;refine rP ?_;refine rQ (call_r hps rfl rfl (arg_e (arg_e arg_nil)) (.inl rfl) (fun _ => rfl)) ?_
  refine rQ iU ?_;refine rC ?_
  cases h2 : decide (l = m) with
  | false =>
   rw [h2] at hps
   iterate 5 refine rT ?_
   refine rQ iG ?_;refine rC ?_;refine nS ?_;refine wc_ret ?_
   exact ⟨trivial, [], lf⟩
  | true =>
   rw [h2] at hps
   refine rP ?_;refine rC ?_;refine rP ?_;refine rQ iB ?_;refine rP ?_;refine rC ?_;refine rP ?_;refine rQ iB ?_;refine rP ?_;refine rQ (call_r hac rfl rfl (arg_e (arg_e (arg_fn arg_nil))) (.inl rfl) (fun _ => rfl)) ?_
   refine rQ iU ?_;refine rC ?_;refine nS ?_;refine wc_ret ?_
   exact ⟨trivial, [], lf⟩
theorem str_dec (a b : List UInt8) : decide (strOf (byI a) = strOf (byI b)) = decide (a = b) := by rw [strOf_byI, strOf_byI, mkS_dec]
def sameS (c d : SCfg) (l m : List (List POp)) (bs cs : List SAct) : Bool := decide (c = d) && (decide (l = m) && decide (bs = cs))
theorem lsame2_is (c d : SCfg) (l m : List (List POp)) (bs cs : List SAct) (hl : Bd l) (hm : Bd m) (hb : bs.length ≤ 1000000000) (hc : cs.length ≤ 1000000000) : FnIs Tryz.prog 16 [.d (encScr c l bs), .d (encScr d m cs)] [] (.int .i64 (if sameS c d l m bs cs = true then 1 else 0)) [] := by
 have hal := alike_is bs cs hb hc
 have hl0 := hl.1
 have hm0 := hm.1
 refine fnIs_of tab_ok Tryz.func16 rfl rfl rfl ?_
 by_cases hcd : c = d
 case neg =>
  have d0 : (!decide (c = d)) = true := by rw [dF hcd]; rfl
  rw [if_neg (by rw [sameS, dF hcd, Bool.false_and]; decide)]
  refine sR ?_;iterate 2 refine rN ?_
  refine rC ?_;refine nQ ?_;refine sR ?_;refine rC ?_;refine rQ iB ?_;refine rC ?_;refine rQ iB ?_;refine rQ (neq_data rfl rfl rfl rfl (by kernel_rfl) (by decide) (cfg_eqg c d)) ?_
  refine rC ?_;iterate 7 refine rS ?_
  refine rQ iT ?_;refine nS ?_;refine wV ?_;refine sR ?_;refine rC ?_;refine nS ?_;refine wc_ret ?_;refine seq_r ?_
  exact ⟨trivial, [], lf⟩
 have d0 : (!decide (c = d)) = false := by rw [dT hcd]; rfl
 by_cases hlm : l.length = m.length
 case neg =>
  have q1 : (!decide ((l.length : Int) = (m.length : Int))) = true := by rw [dF (by omega)]; rfl
  rw [if_neg (by rw [sameS, dF (fun e => hlm (congrArg _ e)), Bool.false_and, Bool.and_false]; decide)]
  refine sR ?_;iterate 2 refine rN ?_
  refine rC ?_;refine nQ ?_;refine sR ?_;refine rC ?_;refine rQ iB ?_;refine rC ?_;refine rQ iB ?_;refine rQ (neq_data rfl rfl rfl rfl (by kernel_rfl) (by decide) (cfg_eqg c d)) ?_
  refine rC ?_;refine rO ?_;refine rC ?_;refine rO ?_;refine rQ iB ?_;refine rO ?_;refine rQ iE ?_;refine rO ?_;refine rC ?_;refine rO ?_;refine rQ iB ?_;refine rO ?_
  refine rQ iE ?_;refine rO ?_;refine rC ?_;refine rQ iF ?_;refine nS ?_;refine wT ?_;refine sR ?_;refine rC ?_;refine nS ?_;refine wc_ret ?_;refine seq_r ?_
  exact ⟨trivial, [], lf⟩
 have q1 : (!decide ((l.length : Int) = (m.length : Int))) = false := by rw [dT (by omega)]; rfl
 refine sR ?_;iterate 2 refine rN ?_
 refine rC ?_;refine nQ ?_;refine sR ?_;refine rC ?_;refine rQ iB ?_;refine rC ?_;refine rQ iB ?_;refine rQ (neq_data rfl rfl rfl rfl (by kernel_rfl) (by decide) (cfg_eqg c d)) ?_
 refine rC ?_;refine rO ?_;refine rC ?_;refine rO ?_;refine rQ iB ?_;refine rO ?_;refine rQ iE ?_;refine rO ?_;refine rC ?_;refine rO ?_;refine rQ iB ?_;refine rO ?_
 refine rQ iE ?_;refine rO ?_;refine rC ?_;refine rQ iF ?_;refine nS ?_;refine wF ?_;refine kS ?_;refine qR ?_;refine rC ?_;refine nS ?_;refine wc_block ?_
 refine wc_inv (fun i : Nat => ⟨[(5, .int .i64 i), (3, .ptr 65 []), (2, .ptr 64 [])], [(64, some (.box 30 (.d (encScr c l bs)))), (65, some (.box 30 (.d (encScr d m cs))))], 72, Tryz.f16.ntmps, 64⟩) (fun i => i ≤ l.length ∧ ∀ j, j < i → l[j]? = m[j]?) (fun i => l.length - i) 0 [(64, some _), (65, some _)] ⟨Nat.zero_le _, fun j hj => absurd hj (Nat.not_lt_zero _)⟩
  (.of rfl rfl rfl rfl rfl ⟨⟨_, rfl, .refl _⟩, rfl, ⟨_, rfl, .refl _⟩, rfl, ⟨_, rfl, .refl _⟩, rfl, trivial⟩ ⟨⟨rfl, rfl, _, rfl, .refl _⟩, ⟨rfl, rfl, _, rfl, .refl _⟩, trivial⟩) ?_
 rintro i ⟨hi, hsame⟩
 refine wc_of ?_
 by_cases hlt : i < l.length
 ·have d1 : decide ((i : Int) < (l.length : Int)) = true := dT (by omega)
  obtain ⟨p, hp⟩ : ∃ p, l[i]? = some p := ⟨_, List.getElem?_eq_getElem hlt⟩
  obtain ⟨q, hq⟩ : ∃ q, m[i]? = some q := ⟨_, List.getElem?_eq_getElem (by omega)⟩
  have hp2 : l[((i : Int)).toNat]? = some p := by rw [Int.toNat_natCast]; exact hp
  have hq2 : m[((i : Int)).toNat]? = some q := by rw [Int.toNat_natCast]; exact hq
  have hpl := hl.2 p (List.mem_of_getElem? hp)
  have hql := hm.2 q (List.mem_of_getElem? hq)
  have hne : p ≠ q → sameS c d l m bs cs = false := fun h => by
   rw [sameS, dF (fun e : l = m => h (by rw [e, hq] at hp; cases hp; rfl)), Bool.false_and, Bool.and_false]
  by_cases hpq : p.length = q.length
  case neg =>
   have q2 : (!decide ((p.length : Int) = (q.length : Int))) = true := by rw [dF (by omega)]; rfl
   rw [if_neg (by rw [hne (fun e => hpq (congrArg _ e))]; decide)]
   refine qR ?_;iterate 2 refine rC ?_
   refine rQ iB ?_;refine rQ iE ?_;refine rC ?_;refine nS ?_;refine wT ?_;refine kS ?_;refine wc_seq ?_;refine wc_block ?_;refine wc_seq ?_;refine wc_draw (by kernel_rfl) ?_
   refine dC [2] [] ?_;refine dQ [30] [64] iB ?_;refine dC [5] [] ?_;refine dQ [31, 32] [] (index_arr tab_ok rfl rfl rfl rfl rfl (by omega) hp2) ?_;refine dQ [33] [] iL ?_
   refine dC [3] [] ?_;refine dQ [35] [65] iB ?_;refine dC [5] [] ?_;refine dQ [36, 37] [] (index_arr tab_ok rfl rfl rfl rfl rfl (by omega) hq2) ?_;refine dQ [38] [] iL ?_
   refine dC [34] [] ?_;refine dC [39] [] ?_;refine dreg_end (by kernel_rfl) ?_;refine seq_n ?_;refine qR ?_;refine rC ?_;refine rQ iE ?_;refine rC ?_;refine rQ iE ?_
   refine rC ?_;refine nS ?_;refine wT ?_;refine sR ?_;refine rC ?_;refine nS ?_;refine wc_ret ?_;refine seq_r ?_;refine blk_r ?_;refine seq_r ?_;refine loop_r ?_;refine blk_r ?_
   refine seq_r ?_
   exact ⟨trivial, [], lf⟩
  have q2 : (!decide ((p.length : Int) = (q.length : Int))) = false := by rw [dT (by omega)]; rfl
  refine qR ?_;iterate 2 refine rC ?_
  refine rQ iB ?_;refine rQ iE ?_;refine rC ?_;refine nS ?_;refine wT ?_;refine kS ?_;refine wc_seq ?_;refine wc_block ?_;refine wc_seq ?_;refine wc_draw (by kernel_rfl) ?_
  refine dC [2] [] ?_;refine dQ [30] [64] iB ?_;refine dC [5] [] ?_;refine dQ [31, 32] [] (index_arr tab_ok rfl rfl rfl rfl rfl (by omega) hp2) ?_;refine dQ [33] [] iL ?_
  refine dC [3] [] ?_;refine dQ [35] [65] iB ?_;refine dC [5] [] ?_;refine dQ [36, 37] [] (index_arr tab_ok rfl rfl rfl rfl rfl (by omega) hq2) ?_;refine dQ [38] [] iL ?_
  refine dC [34] [] ?_;refine dC [39] [] ?_;refine dreg_end (by kernel_rfl) ?_;refine seq_n ?_;refine qR ?_;refine rC ?_;refine rQ iE ?_;refine rC ?_;refine rQ iE ?_
  refine rC ?_;refine nS ?_;refine wF ?_;refine kS ?_;refine sR ?_;refine rC ?_;refine nS ?_;refine wc_block ?_
  refine wc_inv (fun k : Nat => ⟨[(8, .int .i64 k), (7, .d (encP q)), (6, .d (encP p)), (5, .int .i64 i), (3, .ptr 65 []), (2, .ptr 64 [])], [(64, some (.box 30 (.d (encScr c l bs)))), (65, some (.box 30 (.d (encScr d m cs))))], 72, Tryz.f16.ntmps, 64⟩) (fun k => k ≤ p.length ∧ ∀ j, j < k → p[j]? = q[j]?) (fun k => p.length - k) 0 [(64, some _), (65, some _)] ⟨Nat.zero_le _, fun j hj => absurd hj (Nat.not_lt_zero _)⟩
   (.of rfl rfl rfl rfl rfl ⟨⟨_, rfl, .refl _⟩, rfl, ⟨_, rfl, .refl _⟩, rfl, ⟨_, rfl, .refl _⟩, rfl, ⟨_, rfl, .refl _⟩, rfl, ⟨_, rfl, .refl _⟩, rfl, ⟨_, rfl, .refl _⟩, rfl, trivial⟩ ⟨⟨rfl, rfl, _, rfl, .refl _⟩, ⟨rfl, rfl, _, rfl, .refl _⟩, trivial⟩) ?_
  rintro k ⟨hk, hsk⟩
  refine wc_of ?_
  by_cases hkl : k < p.length
  ·have d2 : decide ((k : Int) < (p.length : Int)) = true := dT (by omega)
   obtain ⟨o, ho⟩ : ∃ o, p[k]? = some o := ⟨_, List.getElem?_eq_getElem hkl⟩
   obtain ⟨u, hu⟩ : ∃ u, q[k]? = some u := ⟨_, List.getElem?_eq_getElem (by omega)⟩
   have ho2 : p[((k : Int)).toNat]? = some o := by rw [Int.toNat_natCast]; exact ho
   have hu2 : q[((k : Int)).toNat]? = some u := by rw [Int.toNat_natCast]; exact hu
   have hno : o ≠ u → sameS c d l m bs cs = false := fun h => hne fun e => h (by rw [e, hu] at ho; cases ho; rfl)
   by_cases k1 : o.kind = u.kind
   case neg =>
    have e1 : (!decide (o.kind = u.kind)) = true := by rw [dF k1]; rfl
    rw [if_neg (by rw [hno (fun e => k1 (by rw [e]))]; decide)]
    refine qR ?_;iterate 2 refine rC ?_
    refine rQ iE ?_;refine rC ?_;refine nS ?_;refine wT ?_;refine kS ?_;refine wc_seq ?_;refine wc_block ?_;refine wc_seq ?_;refine wc_draw (by kernel_rfl) ?_;refine dC [6] [] ?_
    refine dC [8] [] ?_;refine dQ [51, 52] [] (index_arr tab_ok rfl rfl rfl rfl rfl (by omega) ho2) ?_;refine dC [53] [] ?_;refine dQ [54] [] iL ?_;refine dC [7] [] ?_
    refine dC [8] [] ?_;refine dQ [56, 57] [] (index_arr tab_ok rfl rfl rfl rfl rfl (by omega) hu2) ?_;refine dC [58] [] ?_;refine dQ [59] [] iL ?_;refine dC [55, 60] [] ?_
    refine dC [61] [] ?_;refine dreg_offq [62, 6] rfl rfl (by assumption) rfl ?_;refine dreg_offq [62, 8] rfl rfl (by assumption) rfl ?_;refine dreg_offq [62, 63, 64] rfl rfl (by assumption) rfl ?_
    refine dreg_offq [62, 65] rfl rfl (by assumption) rfl ?_;refine dreg_offq [62, 66] rfl rfl (by assumption) rfl ?_;refine dreg_offq [62, 7] rfl rfl (by assumption) rfl ?_
    refine dreg_offq [62, 8] rfl rfl (by assumption) rfl ?_;refine dreg_offq [62, 68, 69] rfl rfl (by assumption) rfl ?_;refine dreg_offq [62, 70] rfl rfl (by assumption) rfl ?_
    refine dreg_offq [62, 71] rfl rfl (by assumption) rfl ?_;refine dreg_offq [62, 67, 72] rfl rfl (by assumption) rfl ?_;refine dQ [62, 73] [] iT ?_;refine dC [74] [] ?_
    refine dreg_offq [75, 6] rfl rfl rfl rfl ?_;refine dreg_offq [75, 8] rfl rfl rfl rfl ?_;refine dreg_offq [75, 76, 77] rfl rfl rfl rfl ?_;refine dreg_offq [75, 78] rfl rfl rfl rfl ?_
    refine dreg_offq [75, 79] rfl rfl rfl rfl ?_;refine dreg_offq [75, 80] rfl rfl rfl rfl ?_;refine dreg_offq [75, 7] rfl rfl rfl rfl ?_;refine dreg_offq [75, 8] rfl rfl rfl rfl ?_
    refine dreg_offq [75, 82, 83] rfl rfl rfl rfl ?_;refine dreg_offq [75, 84] rfl rfl rfl rfl ?_;refine dreg_offq [75, 85] rfl rfl rfl rfl ?_;refine dreg_offq [75, 86] rfl rfl rfl rfl ?_
    refine dreg_offq [75, 81, 87] rfl rfl rfl rfl ?_;refine dQ [75, 88] [] iU ?_;refine dreg_end (by kernel_rfl) ?_;refine seq_n ?_;refine wV ?_;refine sR ?_;refine rC ?_
    refine nS ?_;refine wc_ret ?_;refine blk_r ?_;refine seq_r ?_;refine loop_r ?_;iterate 2 refine blk_r ?_
    refine seq_r ?_;refine loop_r ?_;refine blk_r ?_;refine seq_r ?_
    exact ⟨trivial, [], lf⟩
   have e1 : (!decide (o.kind = u.kind)) = false := by rw [dT k1]; rfl
   by_cases k2 : o.index = u.index
   case neg =>
    have e2 : (!decide (o.index = u.index)) = true := by rw [dF k2]; rfl
    rw [if_neg (by rw [hno (fun e => k2 (by rw [e]))]; decide)]
    refine qR ?_;iterate 2 refine rC ?_
    refine rQ iE ?_;refine rC ?_;refine nS ?_;refine wT ?_;refine kS ?_;refine wc_seq ?_;refine wc_block ?_;refine wc_seq ?_;refine wc_draw (by kernel_rfl) ?_;refine dC [6] [] ?_
    refine dC [8] [] ?_;refine dQ [51, 52] [] (index_arr tab_ok rfl rfl rfl rfl rfl (by omega) ho2) ?_;refine dC [53] [] ?_;refine dQ [54] [] iL ?_;refine dC [7] [] ?_
    refine dC [8] [] ?_;refine dQ [56, 57] [] (index_arr tab_ok rfl rfl rfl rfl rfl (by omega) hu2) ?_;refine dC [58] [] ?_;refine dQ [59] [] iL ?_;refine dC [55, 60] [] ?_
    refine dC [61] [] ?_;refine dreg_onq [62, 6] [] rfl rfl (by assumption) rfl (step_C tab_ok (fun K hk => hk)) ?_;refine dreg_onq [62, 8] [] rfl rfl (by assumption) rfl (step_C tab_ok (fun K hk => hk)) ?_
    refine dreg_onq [62, 63, 64] [] rfl rfl (by assumption) rfl (index_arr tab_ok rfl rfl rfl rfl rfl (by omega) ho2) ?_;refine dreg_onq [62, 65] [] rfl rfl (by assumption) rfl (step_C tab_ok (fun K hk => hk)) ?_
    refine dreg_onq [62, 66] [] rfl rfl (by assumption) rfl (load_i tab_ok rfl rfl) ?_;refine dreg_onq [62, 7] [] rfl rfl (by assumption) rfl (step_C tab_ok (fun K hk => hk)) ?_
    refine dreg_onq [62, 8] [] rfl rfl (by assumption) rfl (step_C tab_ok (fun K hk => hk)) ?_;refine dreg_onq [62, 68, 69] [] rfl rfl (by assumption) rfl (index_arr tab_ok rfl rfl rfl rfl rfl (by omega) hu2) ?_
    refine dreg_onq [62, 70] [] rfl rfl (by assumption) rfl (step_C tab_ok (fun K hk => hk)) ?_;refine dreg_onq [62, 71] [] rfl rfl (by assumption) rfl (load_i tab_ok rfl rfl) ?_
    refine dreg_onq [62, 67, 72] [] rfl rfl (by assumption) rfl (step_C tab_ok (fun K hk => hk)) ?_;refine dQ [62, 73] [] iF ?_;refine dC [74] [] ?_;refine dreg_offq [75, 6] rfl rfl (by assumption) rfl ?_
    refine dreg_offq [75, 8] rfl rfl (by assumption) rfl ?_;refine dreg_offq [75, 76, 77] rfl rfl (by assumption) rfl ?_;refine dreg_offq [75, 78] rfl rfl (by assumption) rfl ?_
    refine dreg_offq [75, 79] rfl rfl (by assumption) rfl ?_;refine dreg_offq [75, 80] rfl rfl (by assumption) rfl ?_;refine dreg_offq [75, 7] rfl rfl (by assumption) rfl ?_
    refine dreg_offq [75, 8] rfl rfl (by assumption) rfl ?_;refine dreg_offq [75, 82, 83] rfl rfl (by assumption) rfl ?_;refine dreg_offq [75, 84] rfl rfl (by assumption) rfl ?_
    refine dreg_offq [75, 85] rfl rfl (by assumption) rfl ?_;refine dreg_offq [75, 86] rfl rfl (by assumption) rfl ?_;refine dreg_offq [75, 81, 87] rfl rfl (by assumption) rfl ?_
    refine dQ [75, 88] [] iT ?_;refine dreg_end (by kernel_rfl) ?_;refine seq_n ?_;refine wV ?_;refine sR ?_;refine rC ?_;refine nS ?_;refine wc_ret ?_;refine blk_r ?_
    refine seq_r ?_;refine loop_r ?_;iterate 2 refine blk_r ?_
    refine seq_r ?_;refine loop_r ?_;refine blk_r ?_;refine seq_r ?_
    exact ⟨trivial, [], lf⟩
   have e2 : (!decide (o.index = u.index)) = false := by rw [dT k2]; rfl
   by_cases k3 : o.data = u.data
   case neg =>
    have e3 : (!decide (strOf (byI o.data) = strOf (byI u.data))) = true := by rw [str_dec, dF k3]; rfl
    rw [if_neg (by rw [hno (fun e => k3 (by rw [e]))]; decide)]
    refine qR ?_;iterate 2 refine rC ?_
    refine rQ iE ?_;refine rC ?_;refine nS ?_;refine wT ?_;refine kS ?_;refine wc_seq ?_;refine wc_block ?_;refine wc_seq ?_;refine wc_draw (by kernel_rfl) ?_;refine dC [6] [] ?_
    refine dC [8] [] ?_;refine dQ [51, 52] [] (index_arr tab_ok rfl rfl rfl rfl rfl (by omega) ho2) ?_;refine dC [53] [] ?_;refine dQ [54] [] iL ?_;refine dC [7] [] ?_
    refine dC [8] [] ?_;refine dQ [56, 57] [] (index_arr tab_ok rfl rfl rfl rfl rfl (by omega) hu2) ?_;refine dC [58] [] ?_;refine dQ [59] [] iL ?_;refine dC [55, 60] [] ?_
    refine dC [61] [] ?_;refine dreg_onq [62, 6] [] rfl rfl (by assumption) rfl (step_C tab_ok (fun K hk => hk)) ?_;refine dreg_onq [62, 8] [] rfl rfl (by assumption) rfl (step_C tab_ok (fun K hk => hk)) ?_
    refine dreg_onq [62, 63, 64] [] rfl rfl (by assumption) rfl (index_arr tab_ok rfl rfl rfl rfl rfl (by omega) ho2) ?_;refine dreg_onq [62, 65] [] rfl rfl (by assumption) rfl (step_C tab_ok (fun K hk => hk)) ?_
    refine dreg_onq [62, 66] [] rfl rfl (by assumption) rfl (load_i tab_ok rfl rfl) ?_;refine dreg_onq [62, 7] [] rfl rfl (by assumption) rfl (step_C tab_ok (fun K hk => hk)) ?_
    refine dreg_onq [62, 8] [] rfl rfl (by assumption) rfl (step_C tab_ok (fun K hk => hk)) ?_;refine dreg_onq [62, 68, 69] [] rfl rfl (by assumption) rfl (index_arr tab_ok rfl rfl rfl rfl rfl (by omega) hu2) ?_
    refine dreg_onq [62, 70] [] rfl rfl (by assumption) rfl (step_C tab_ok (fun K hk => hk)) ?_;refine dreg_onq [62, 71] [] rfl rfl (by assumption) rfl (load_i tab_ok rfl rfl) ?_
    refine dreg_onq [62, 67, 72] [] rfl rfl (by assumption) rfl (step_C tab_ok (fun K hk => hk)) ?_;refine dQ [62, 73] [] iF ?_;refine dC [74] [] ?_;refine dreg_onq [75, 6] [] rfl rfl (by assumption) rfl (step_C tab_ok (fun K hk => hk)) ?_
    refine dreg_onq [75, 8] [] rfl rfl (by assumption) rfl (step_C tab_ok (fun K hk => hk)) ?_;refine dreg_onq [75, 76, 77] [] rfl rfl (by assumption) rfl (index_arr tab_ok rfl rfl rfl rfl rfl (by omega) ho2) ?_
    refine dreg_onq [75, 78] [] rfl rfl (by assumption) rfl (step_C tab_ok (fun K hk => hk)) ?_;refine dreg_onq [75, 79] [] rfl rfl (by assumption) rfl (load_i tab_ok rfl rfl) ?_
    refine dreg_onq [75, 80] [] rfl rfl (by assumption) rfl (conv_bytes tab_ok rfl rfl rfl rfl) ?_;refine dreg_onq [75, 7] [] rfl rfl (by assumption) rfl (step_C tab_ok (fun K hk => hk)) ?_
    refine dreg_onq [75, 8] [] rfl rfl (by assumption) rfl (step_C tab_ok (fun K hk => hk)) ?_;refine dreg_onq [75, 82, 83] [] rfl rfl (by assumption) rfl (index_arr tab_ok rfl rfl rfl rfl rfl (by omega) hu2) ?_
    refine dreg_onq [75, 84] [] rfl rfl (by assumption) rfl (step_C tab_ok (fun K hk => hk)) ?_;refine dreg_onq [75, 85] [] rfl rfl (by assumption) rfl (load_i tab_ok rfl rfl) ?_
    refine dreg_onq [75, 86] [] rfl rfl (by assumption) rfl (conv_bytes tab_ok rfl rfl rfl rfl) ?_;refine dreg_onq [75, 81, 87] [] rfl rfl (by assumption) rfl (neq_str tab_ok rfl rfl rfl) ?_
    refine dQ [75, 88] [] iF ?_;refine dreg_end (by kernel_rfl) ?_;refine seq_n ?_;refine wT ?_;refine sR ?_;refine rC ?_;refine nS ?_;refine wc_ret ?_;refine blk_r ?_
    refine seq_r ?_;refine loop_r ?_;iterate 2 refine blk_r ?_
    refine seq_r ?_;refine loop_r ?_;refine blk_r ?_;refine seq_r ?_
    exact ⟨trivial, [], lf⟩
   have e3 : (!decide (strOf (byI o.data) = strOf (byI u.data))) = false := by rw [str_dec, dT k3]; rfl
   refine qR ?_;iterate 2 refine rC ?_
   refine rQ iE ?_;refine rC ?_;refine nS ?_;refine wT ?_;refine kS ?_;refine wc_seq ?_;refine wc_block ?_;refine wc_seq ?_;refine wc_draw (by kernel_rfl) ?_;refine dC [6] [] ?_
   refine dC [8] [] ?_;refine dQ [51, 52] [] (index_arr tab_ok rfl rfl rfl rfl rfl (by omega) ho2) ?_;refine dC [53] [] ?_;refine dQ [54] [] iL ?_;refine dC [7] [] ?_
   refine dC [8] [] ?_;refine dQ [56, 57] [] (index_arr tab_ok rfl rfl rfl rfl rfl (by omega) hu2) ?_;refine dC [58] [] ?_;refine dQ [59] [] iL ?_;refine dC [55, 60] [] ?_
   refine dC [61] [] ?_;refine dreg_onq [62, 6] [] rfl rfl (by assumption) rfl (step_C tab_ok (fun K hk => hk)) ?_;refine dreg_onq [62, 8] [] rfl rfl (by assumption) rfl (step_C tab_ok (fun K hk => hk)) ?_
   refine dreg_onq [62, 63, 64] [] rfl rfl (by assumption) rfl (index_arr tab_ok rfl rfl rfl rfl rfl (by omega) ho2) ?_;refine dreg_onq [62, 65] [] rfl rfl (by assumption) rfl (step_C tab_ok (fun K hk => hk)) ?_
   refine dreg_onq [62, 66] [] rfl rfl (by assumption) rfl (load_i tab_ok rfl rfl) ?_;refine dreg_onq [62, 7] [] rfl rfl (by assumption) rfl (step_C tab_ok (fun K hk => hk)) ?_
   refine dreg_onq [62, 8] [] rfl rfl (by assumption) rfl (step_C tab_ok (fun K hk => hk)) ?_;refine dreg_onq [62, 68, 69] [] rfl rfl (by assumption) rfl (index_arr tab_ok rfl rfl rfl rfl rfl (by omega) hu2) ?_
   refine dreg_onq [62, 70] [] rfl rfl (by assumption) rfl (step_C tab_ok (fun K hk => hk)) ?_;refine dreg_onq [62, 71] [] rfl rfl (by assumption) rfl (load_i tab_ok rfl rfl) ?_
   refine dreg_onq [62, 67, 72] [] rfl rfl (by assumption) rfl (step_C tab_ok (fun K hk => hk)) ?_;refine dQ [62, 73] [] iF ?_;refine dC [74] [] ?_;refine dreg_onq [75, 6] [] rfl rfl (by assumption) rfl (step_C tab_ok (fun K hk => hk)) ?_
   refine dreg_onq [75, 8] [] rfl rfl (by assumption) rfl (step_C tab_ok (fun K hk => hk)) ?_;refine dreg_onq [75, 76, 77] [] rfl rfl (by assumption) rfl (index_arr tab_ok rfl rfl rfl rfl rfl (by omega) ho2) ?_
   refine dreg_onq [75, 78] [] rfl rfl (by assumption) rfl (step_C tab_ok (fun K hk => hk)) ?_;refine dreg_onq [75, 79] [] rfl rfl (by assumption) rfl (load_i tab_ok rfl rfl) ?_
   refine dreg_onq [75, 80] [] rfl rfl (by assumption) rfl (conv_bytes tab_ok rfl rfl rfl rfl) ?_;refine dreg_onq [75, 7] [] rfl rfl (by assumption) rfl (step_C tab_ok (fun K hk => hk)) ?_
   refine dreg_onq [75, 8] [] rfl rfl (by assumption) rfl (step_C tab_ok (fun K hk => hk)) ?_;refine dreg_onq [75, 82, 83] [] rfl rfl (by assumption) rfl (index_arr tab_ok rfl rfl rfl rfl rfl (by omega) hu2) ?_
   refine dreg_onq [75, 84] [] rfl rfl (by assumption) rfl (step_C tab_ok (fun K hk => hk)) ?_;refine dreg_onq [75, 85] [] rfl rfl (by assumption) rfl (load_i tab_ok rfl rfl) ?_
   refine dreg_onq [75, 86] [] rfl rfl (by assumption) rfl (conv_bytes tab_ok rfl rfl rfl rfl) ?_;refine dreg_onq [75, 81, 87] [] rfl rfl (by assumption) rfl (neq_str tab_ok rfl rfl rfl) ?_
   refine dQ [75, 88] [] iF ?_;refine dreg_end (by kernel_rfl) ?_;refine seq_n ?_;refine wF ?_;refine wc_skip ?_;refine blk_n ?_;refine seq_n ?_;refine wc_region ?_
   refine rC ?_;refine rQ iD ?_;refine rC ?_;refine reg_nil ?_
   exact loop_n (k + 1) [(64, some _), (65, some _)] ⟨hkl, fun j hj => by
    by_cases e : j = k
    ·subst e; rw [ho, hu]; obtain ⟨_, _, _⟩ := o; obtain ⟨_, _, _⟩ := u; simp only at k1 k2 k3; rw [k1, k2, k3]
    ·exact hsk j (by omega)⟩ (by omega) (.of rfl rfl rfl rfl rfl ⟨⟨_, rfl, .refl _⟩, rfl, ⟨_, rfl, .refl _⟩, rfl, ⟨_, rfl, .refl _⟩, rfl, ⟨_, rfl, .refl _⟩, rfl, ⟨_, rfl, .refl _⟩, rfl, ⟨_, rfl, .refl _⟩, rfl, trivial⟩ ⟨⟨rfl, rfl, _, rfl, .refl _⟩, ⟨rfl, rfl, _, rfl, .refl _⟩, trivial⟩)
  ·have d2 : decide ((k : Int) < (p.length : Int)) = false := dF (by omega)
   have hpe : p = q := eq_of_at hpq fun j hj => hsk j (by omega)
   refine qR ?_;iterate 2 refine rC ?_
   refine rQ iE ?_;refine rC ?_;refine nS ?_;refine wF ?_;refine wc_exit ?_;refine seq_x ?_;refine loop_x ?_;refine blk_x ?_;refine blk_n ?_;refine seq_n ?_;refine wc_region ?_
   refine rC ?_;refine rQ iD ?_;refine rC ?_;refine reg_nil ?_
   exact loop_n (i + 1) [(64, some _), (65, some _)] ⟨hlt, fun j hj => by
    by_cases e : j = i
    ·subst e; rw [hp, hq, hpe]
    ·exact hsame j (by omega)⟩ (by omega) (.of rfl rfl rfl rfl rfl ⟨⟨_, rfl, .refl _⟩, rfl, ⟨_, rfl, .refl _⟩, rfl, ⟨_, rfl, .refl _⟩, rfl, trivial⟩ ⟨⟨rfl, rfl, _, rfl, .refl _⟩, ⟨rfl, rfl, _, rfl, .refl _⟩, trivial⟩)
 ·have d1 : decide ((i : Int) < (l.length : Int)) = false := dF (by omega)
  have hle : l = m := eq_of_at hlm fun j hj => hsame j (by omega)
  rw [show (if sameS c d l m bs cs = true then (1 : Int) else 0) = if bs = cs then 1 else 0 by rw [sameS, dT hcd, dT hle]; by_cases h : bs = cs <;> simp [h]]
  refine qR ?_;iterate 2 refine rC ?_
  refine rQ iB ?_;refine rQ iE ?_;refine rC ?_;refine nS ?_;refine wF ?_;refine wc_exit ?_;refine seq_x ?_;refine loop_x ?_;refine blk_x ?_;refine seq_n ?_;refine sR ?_
  refine rC ?_;refine rQ iB ?_;refine rC ?_;refine rQ iB ?_;refine rQ (call_r hal rfl rfl (arg_e (arg_e arg_nil)) (.inl rfl) (fun _ => rfl)) ?_;refine rC ?_;refine nS ?_
  refine wc_ret ?_
  exact ⟨trivial, [], lf⟩
end Go.Proofs.YthiijfbcfoifnaaGreatDoor
namespace Go.Proofs.YthiijfbcfoifnaaGreatDoor
open Go.Eng Go.Plain
set_option maxHeartbeats 4000000
set_option maxRecDepth 20000
attribute [local irreducible] WC RegS RegD SeqQ BlkQ ScoQ RegK CutK Sat SatN FnIs LoopQ StepIs OpIs
end Go.Proofs.YthiijfbcfoifnaaGreatDoor
namespace Go.Proofs.YthiijfbcfoifnaaGreatDoor
open Go.Eng Go.Plain
set_option maxHeartbeats 8000000
set_option maxRecDepth 20000
attribute [local irreducible] WC RegS RegD SeqQ BlkQ ScoQ RegK CutK Sat SatN FnIs LoopQ StepIs OpIs
def encScrV (c : SCfg) (l : List (List POp)) (V : List (Bool × SAct)) : D := .cons (encCfg c) (.cons (encPL l) (.cons (.arr 5 encAV V) .nil))
abbrev zAct : SAct := ⟨0, 0, 0, [], 0⟩
def manyV (bs : List SAct) : List (Bool × SAct) := List.replicate 4097 (true, zAct) ++ bs.map (Prod.mk false)
def manyA (bs : List SAct) : List SAct := List.replicate 4097 zAct ++ bs
theorem qof_ok (x : PQ) : (qOf x).Ok := by
 have h1 := x.kind.toNat_lt
 have h2 := x.index.toNat_lt
 have h3 := x.data.toNat_lt
 unfold qOf
 split
 ·exact ⟨⟨by show (0 : Int) ≤ 1; decide, by show (1 : Int) ≤ (255 : Int); decide⟩, ⟨by show -9223372036854775808 ≤ ((x.index.toNat % 22 : Nat) : Int) - 1; omega, by show ((x.index.toNat % 22 : Nat) : Int) - 1 ≤ 9223372036854775807; omega⟩⟩
 split
 ·exact ⟨⟨by show (0 : Int) ≤ 2; decide, by show (2 : Int) ≤ (255 : Int); decide⟩, ⟨by show -9223372036854775808 ≤ ((x.index.toNat % 22 : Nat) : Int) - 1; omega, by show ((x.index.toNat % 22 : Nat) : Int) - 1 ≤ 9223372036854775807; omega⟩⟩
 split
 ·exact ⟨⟨by show (0 : Int) ≤ ((x.data.toNat % 4 : Nat) : Int); omega, by show ((x.data.toNat % 4 : Nat) : Int) ≤ 255; omega⟩, ⟨by show -9223372036854775808 ≤ (x.index.toNat : Int) - 100; omega, by show (x.index.toNat : Int) - 100 ≤ 9223372036854775807; omega⟩⟩
 ·exact ⟨⟨by decide, by decide⟩, ⟨by decide, by decide⟩⟩
theorem qof_data (x : PQ) : (qOf x).data.length ≤ 32 := by
 unfold qOf
 split
 ·simp
 split
 ·simp
 split
 ·simp; omega
 ·simp
theorem pof_len (l : List (List PQ)) : (pOf l).length ≤ 3 := by rw [pOf, List.length_map, List.length_take]; omega
theorem pof_mem {l : List (List PQ)} {p : List POp} (hp : p ∈ pOf l) : p.length ≤ 3 ∧ ∀ o ∈ p, o.Ok ∧ o.data.length ≤ 32 := by
 obtain ⟨q, _, rfl⟩ := List.mem_map.1 hp
 refine ⟨by rw [opsOf, List.length_map, List.length_take]; omega, fun o ho => ?_⟩
 obtain ⟨x, _, rfl⟩ := List.mem_map.1 ho
 exact ⟨qof_ok x, qof_data x⟩
theorem idxM_ok {n : Nat} (hn : 1 ≤ n ∧ n ≤ 20) {o : POp} (h : o.Ok) : (idxM n o).Ok ∧ (idxM n o).data = o.data := by
 unfold idxM
 split
 ·have hm : o.index.toNat % n < n := Nat.mod_lt _ (by omega)
  generalize o.index.toNat % n = q at *
  exact ⟨⟨h.kind, by simp only; omega⟩, rfl⟩
 ·exact ⟨h, rfl⟩
theorem progsM_mem {x : CX} {ps : List (List PQ)} {p : List POp} (hp : p ∈ progsM x.blocks x.clients (pOf ps)) : p.length ≤ 3 ∧ ∀ o ∈ p, o.Ok ∧ o.data.length ≤ 32 := by
 obtain ⟨i, _, rfl⟩ := List.mem_map.1 hp
 rw [progM]
 cases hq : (pOf ps)[i]? with
 | none => simp
 | some q =>
  obtain ⟨h1, h2⟩ := pof_mem (List.mem_of_getElem? hq)
  refine ⟨by simpa using h1, fun o ho => ?_⟩
  obtain ⟨o', ho', rfl⟩ := List.mem_map.1 ho
  obtain ⟨h3, h4⟩ := idxM_ok ⟨(cx_small x).1, (cx_small x).2.1⟩ (h2 o' ho').1
  exact ⟨h3, by rw [h4]; exact (h2 o' ho').2⟩
theorem progsM_chk (x : CX) (ps : List (List PQ)) : chkP (progsM x.blocks x.clients (pOf ps)) = 0 := by
 obtain ⟨a1, a2, a3, a4, a5, a6, _⟩ := cx_small x
 refine chkP_ok.2 ⟨by rw [progsM_len]; omega, fun p hp => ?_⟩
 obtain ⟨h1, h2⟩ := progsM_mem hp
 simp only [badP, Bool.or_eq_false_iff, decide_eq_false_iff_not, List.any_eq_false, decide_eq_true_eq]
 exact ⟨by omega, fun o ho => by have := (h2 o ho).2; omega⟩
end Go.Proofs.YthiijfbcfoifnaaGreatDoor
namespace Go.Eng
open Go.RowKit
section
variable {P : Program} {T : Tab} {env : Env} {h : Upds} {n : Nat}
theorem slice_pt_from (hT : TabOk P T) {t e L s m : Nat} {re : TyR} {x i : Operand} {k : IntKind} {α : Type} {enc : α → D} {xs : List α} (ht : tdesc T t = some (.array L e)) (he : lk T e = some re) (hs : Nat.beq re.size s = true) (hx : evalA env x = some (.d (.pt (.vec L s enc xs)))) (hi : evalA env i = some (.int k m)) (hL : Nat.ble L 1048576 = true) (hs0 : Nat.blt 0 s = true) (hm : Nat.blt m L = true) :
  StepIs P (.slice t x (some i) none none) env h n (some (.d (.arr s enc (xs.drop m)))) [] := .of_comes fun C G st σ w a o ho hA hdst hst hn => by
 obtain ⟨ud, hud, hdd⟩ := tdesc_und hT ht
 cases hdd
 have hs := Nat.eq_of_beq_eq_true hs
 have hL := Nat.le_of_ble_eq_true hL
 have hm := Nat.le_of_ble_eq_true hm
 have hs0 := Nat.le_of_ble_eq_true hs0
 have hsz := (hT e re he).run_size (P := P)
 obtain ⟨hi1, _⟩ := RelV.sc.1 (ev_sound hst (hA.ev hi)).1
 obtain ⟨ad, cs, hv, ⟨hl, f, hf, hcs⟩, hc⟩ := RelV.iptr.1 (RelV.pt.1 (ev_sound hst (hA.ev hx)).1)
 have hmax : (1048576 : Nat) ≤ maxLen := by decide
 have hlen : (xs.drop m).length = L - m := by rw [List.length_drop, hl]
 refine .quiet (u := .slice (some (ad.add (m * s))) (L - m) (L - m)) hst hdst ⟨rfl, rfl⟩ ?_ (RelV.arr.2 (.inr ⟨_, L - m, by rw [hlen], by rw [hlen]; omega, by omega, fun j => f (j + m), fun j hj => ?_⟩)) trivial
 ·have hcm : ¬ L < m := by omega
  have h1 : m ≤ L := by omega
  have h2 : ¬ L = m := by omega
  simp [execOp, ho, Instr.sliceAt, hv, hi1, Instr.sureAddr, run_underlying hud, Instr.sliceBounds, Instr.sliceBound, asIntOf, hsz, hs, Sem.run_bind, Sem.run_pure, Result.andThen_ok, Addr.add_zero', hcm, h1, h2]
 ·have hj2 : j + m < xs.length := by rw [hlen] at hj; omega
  obtain ⟨g1, g2⟩ := hf (j + m) hj2
  refine ⟨by rw [List.getElem_drop]; simpa [Nat.add_comm] using g1, g2, fun q u hu => ?_⟩
  have hqs : q < s := by rw [← g2]; exact (List.getElem?_eq_some_iff.1 hu).1
  have := cat_get xs.length (fun i hi => (hf i hi).2) (j + m) q hj2 hqs
  rw [hu] at this
  rw [add_add, Addr.add_block, show m * s + (j * s + q) = (j + m) * s + q by rw [Nat.add_mul]; omega]
  refine hc _ _ ?_
  rw [hcs, ← hl]
  exact this
end
end Go.Eng
namespace Go.Eng
open Go.RowKit
section
variable {P : Program} {T : Tab} {env : Env} {h : Upds} {n : Nat}
theorem xor_nat {t t' : Nat} {x y : Operand} {k : IntKind} {a b m : Nat} (hk : k.signed = false) (hx : evalA env x = some (.int k a)) (hy : evalA env y = some (.int k b)) (ha : a < 2 ^ k.bits) (hb : b < 2 ^ k.bits) (hm : a ^^^ b = m) :
  StepIs P (.binOp .xor t x y t') env h n (some (.int k m)) [] := .of_comes fun C G st σ w ac o ho hA hdst hst hn => by
 obtain ⟨hv, _⟩ := RelV.sc.1 (ev_sound hst (hA.ev hx)).1
 obtain ⟨hy1, _⟩ := RelV.sc.1 (ev_sound hst (hA.ev hy)).1
 refine .quiet (u := .int k m) hst hdst ⟨rfl, rfl⟩ ?_ (RelV.sc.2 ⟨rfl, rfl⟩) trivial
 have h2 : (binOp .xor t (.int k a) (.int k b)).run P w = .ok (.int k m) w := by
  have e : (binOp .xor t (.int k a) (.int k b)) = Op.intBits .xor k a b := by simp [binOp]
  rw [e]
  simp only [Op.intBits]
  have h3 : (BitVec.ofInt k.bits (a : Int) ^^^ BitVec.ofInt k.bits (b : Int)).toNat = m := by
   simp only [BitVec.ofInt_natCast, BitVec.toNat_xor, BitVec.toNat_ofNat, Nat.mod_eq_of_lt ha, Nat.mod_eq_of_lt hb, hm]
  rw [h3, wrap_nat hk (by rw [← hm]; exact Nat.xor_lt_two_pow ha hb)]
  rfl
 simp only [execOp, ho, hv, hy1, Sem.run_bind, eqG_i, Result.andThen_ok, h2, Sem.run_pure]
theorem StepIs.frozen2 {op : Op} {av av' : AV} {row : Row} {r : Nat} (hs : StepIs P op env h n (some av) [(n, some row), (r, none)]) (hf : Frz n row av av') : StepIs P op env h n (some av') [(r, none)] := by
 intro C G st σ w a o ho hA hd hst hn hb next Q hnext
 refine hs C G st σ w a o ho hA hd hst hn hb next Q fun x w' σ' G' hst' h1 h2 => ?_
 have hnr : ∀ q row', st.row q = some row' → q ≠ n := fun q row' hq e => by
  subst e
  exact hn q (Nat.le_refl _) (by omega) (hst.rowsG _ _ hq).1
 have hrow : (st.put o.dst (some av) [(n, some row), (r, none)]).row n = some row := by
  simp [St.put, St.row, lk_cons]
 refine hnext x w' σ' G' (hst'.freeze (st' := st.put o.dst (some av') [(r, none)]) n row hrow (fun i v' hi => ?_) (fun q x' hq => ?_) rfl rfl) h1 h2
 ·cases hdst : o.dst with
  | none =>
   simp only [St.put, hdst] at hi ⊢
   exact ⟨v', hi, .refl _⟩
  | some d =>
   simp only [St.put, hdst, lk_cons] at hi ⊢
   split at hi
   ·rename_i e
    rw [if_pos e]
    simp only [Option.some.injEq] at hi
    exact ⟨av, rfl, by rw [← hi]; exact hf⟩
   ·rename_i e
    rw [if_neg e]
    exact ⟨v', hi, .refl _⟩
 ·simp only [St.put, St.row, List.cons_append, List.nil_append, lk_cons] at hq
  by_cases e : r = q
  ·rw [if_pos e] at hq; cases hq
  ·rw [if_neg e] at hq
   have hn2 : q ≠ n := hnr q x' hq
   refine ⟨hn2, x', ?_, .refl _⟩
   simp only [St.put, St.row, List.cons_append, List.nil_append, lk_cons, if_neg (Ne.symm hn2), if_neg e]
   exact hq
end
end Go.Eng
namespace Go.Proofs.YthiijfbcfoifnaaGreatDoor
open Go.Eng Go.Plain
set_option maxHeartbeats 8000000
set_option maxRecDepth 20000
attribute [local irreducible] WC RegS RegD SeqQ BlkQ ScoQ RegK CutK Sat SatN FnIs LoopQ StepIs OpIs
def encZ3 (z : UInt8 × UInt8 × UInt8) : D := .vec 3 1 encU8 (byI [z.1, z.2.1, z.2.2])
theorem out_first3 {n n1 n2 k : Nat} {rest : List (List POp)} {p0 : List POp} {l : List SAct} (h : n + 1 = n1) (h2 : n + 2 = n2) : callUpd [] n [] [(64, rowPF rest k 65), (65, rowP0 p0), (66, rowAc l)] = [(n, some (rowPF rest k n1)), (n1, some (rowP0 p0)), (n2, some (rowAc l))] := by
 subst h h2
 show [(n + (64 - 64), some (Row.lits 32 1 (rest.length + 1) false ((chF (.own 65 0 k 3 none) (rest.map encP)).ren (outRho [] n)))), (n + (65 - 64), some (rowP0 p0)), (n + (66 - 64), some (rowAc l))] = _
 rw [chF_ren]
 rfl
theorem progs_first (x : CX) (ps : List (List PQ)) : ∃ p0 rest, progsM x.blocks x.clients (pOf ps) = p0 :: rest := by
 have hcx := cx_small x
 have hL0 := progsM_len x.blocks x.clients (pOf ps)
 cases h : progsM x.blocks x.clients (pOf ps) with
 | nil => rw [h] at hL0; simp at hL0; omega
 | cons p0 rest => exact ⟨p0, rest, rfl⟩
theorem sameS_symm (c d : SCfg) (l m : List (List POp)) (bs cs : List SAct) : sameS d c m l cs bs = sameS c d l m bs cs := by
 simp only [sameS, eq_comm]
structure SQ where
 c : SCfg
 p : List POp
 l : List (List POp)
 bs : List SAct
def SQ.Ok (q : SQ) : Prop := Bd (q.p :: q.l) ∧ q.bs.length ≤ 1000000000
theorem chN_refl {ρ : Nat → Option Nat} {t s m m' b b' len len' : Nat} {ex : Bool} {l l' : List D} (h : ρ b' = some b) (hm : m = m') (hl : l = l') (hlen : len = len') : RowLe (.lits t s m ex (chF (.own b 0 len 3 none) l)) (Row.ren ρ (.lits t s m' ex (chF (.own b' 0 len' 3 none) l'))) := by
 subst hm hl hlen; exact chF_refl h
theorem chF_last {t m : Nat} {ex : Bool} {A : AV} {l : List D} {d e : D} (hd : DLe d e) : RowLe (.lits t 1 m ex (chF A (l ++ [d]))) (.lits t 1 m ex (chF A (l ++ [e]))) := by
 rintro σ w X r ⟨hf, ⟨h0, h1⟩ | ⟨b, c, cur, cs, hb, hex, hh, hsz, hlen, hmax, hcl, ⟨c1, c2, rfl, h1, h2⟩, htake⟩⟩
 ·refine ⟨?_, .inl ⟨h0, h1⟩⟩
  simp only [chF, AV.flat] at hf ⊢
  cases hA : A.flat <;> simp [hA] at hf ⊢
  exact dsAV_flat _
 ·refine ⟨?_, .inr ⟨b, c, cur, _, hb, hex, hh, hsz, hlen, hmax, hcl, ⟨c1, c2, rfl, h1, ?_⟩, htake⟩⟩
  ·simp only [chF, AV.flat] at hf ⊢
   cases hA : A.flat <;> simp [hA] at hf ⊢
   exact dsAV_flat _
  ·obtain ⟨c3, c4, rfl, h3, c5, c6, rfl, h5, h6⟩ := (dsAV_app _ _ _).1 h2
   exact (dsAV_app _ _ _).2 ⟨c3, c5 ++ c6, rfl, h3, c5, c6, rfl, hd _ _ _ h5, h6⟩
theorem z3_sub0 (a b c : UInt8) : Sub (encZ3 (a, b, c)) [.idx 0 1] (.sc (.int .u8 (a.toNat : Int))) := ⟨rfl, _, rfl, rfl⟩
theorem z3_sub1 (a b c : UInt8) : Sub (encZ3 (a, b, c)) [.idx 1 1] (.sc (.int .u8 (b.toNat : Int))) := ⟨rfl, _, rfl, rfl⟩
theorem z3_sub2 (a b c : UInt8) : Sub (encZ3 (a, b, c)) [.idx 2 1] (.sc (.int .u8 (c.toNat : Int))) := ⟨rfl, _, rfl, rfl⟩
theorem law34_same (x : CX) (ps : List (List PQ)) (l : List XA) (y : CX) (qs : List (List PQ)) (m : List XA) (z : UInt8 × UInt8 × UInt8) : FnIs Tryz.prog 8 [.d (encXS x ps l), .d (encXS y qs m), .d (encZ3 z)] [] (.bool true) [] := by
 have hbx : ∀ p ∈ pOf ps, p.length ≤ 1000 := fun p hp => by have := (pof_mem hp).1; omega
 have hby : ∀ p ∈ pOf qs, p.length ≤ 1000 := fun p hp => by have := (pof_mem hp).1; omega
 have hlx : (pOf ps).length ≤ 1000 := by have := pof_len ps; omega
 have hly : (pOf qs).length ≤ 1000 := by have := pof_len qs; omega
 have hofa := sof_is x ps l hbx hlx
 obtain ⟨p0, rest, hL⟩ := progs_first x ps
 obtain ⟨y0, yrest, hLy⟩ := progs_first y qs
 have hcx := cx_small x
 have hofb := sof_first x ps l hbx hlx p0 rest hL
 have hofy := sof_first y qs m hby hly y0 yrest hLy
 have hBd : Bd (p0 :: rest) := hL ▸ bd_chk (progsM_chk x ps)
 have hBy : Bd (y0 :: yrest) := hLy ▸ bd_chk (progsM_chk y qs)
 have hal : (actsM x l).length ≤ 120 := by rw [actsM, List.length_map, List.length_take]; omega
 have hay : (actsM y m).length ≤ 120 := by rw [actsM, List.length_map, List.length_take]; omega
 rw [hL] at hofa
 obtain ⟨z0, z1, z2⟩ := z
 have g0 := z0.toNat_lt
 have g1 := z1.toNat_lt
 have g2 := z2.toNat_lt
 generalize actsM x l = bs at *
 generalize actsM y m = bsy at *
 refine fnIs_of tab_ok Tryz.func8 rfl rfl rfl ?_;refine sR ?_;iterate 3 refine rN ?_
 refine rC ?_;refine nQ ?_;refine wc_draw (by kernel_rfl) ?_;refine dQ [3] [64] iM ?_;refine dQ [10] [] (call_r hofa rfl rfl (arg_e arg_nil) (.inl rfl) (fun _ => rfl)) ?_
 refine dQ [3] [64] iM ?_;refine dreg_step rfl (call_new hofb rfl rfl (arg_e arg_nil) (.inl rfl) rfl (out_first3 (n1 := 121) (n2 := 122) rfl rfl)) rfl rfl ?_;iterate 2 refine dreg_w [] [] rfl (step_C tab_ok (fun K hk => hk)) ?_
 refine dreg_s [7, 11] [128] (store_row tab_ok rfl rfl rfl ⟨_, ⟨rfl, rfl, rfl⟩, rfl⟩ rfl) ?_;refine dreg_s [8, 13] [136] (store_row tab_ok rfl rfl rfl ⟨_, ⟨rfl, rfl, rfl⟩, rfl⟩ rfl) ?_
 refine dreg_end (by kernel_rfl) ?_;refine seq_n ?_;refine sR ?_;refine rC ?_;refine nS ?_;refine wc_freeze (env' := [(5, _), (9, _), (4, _), (7, _), (8, _)]) (h' := [(64, some _), (72, some _), (128, some _), (136, some _), (120, some _), (121, some _), (122, some _)]) 80 _ rfl ⟨⟨_, rfl, Frz.ptr⟩, ⟨_, rfl, .refl _⟩, ⟨_, rfl, .refl _⟩, ⟨_, rfl, .refl _⟩, ⟨_, rfl, .refl _⟩, trivial⟩ ⟨⟨rfl, _, rfl, .refl _⟩, ⟨rfl, _, rfl, .refl _⟩, ⟨rfl, _, rfl, .refl _⟩, ⟨rfl, _, rfl, .refl _⟩, ⟨rfl, _, rfl, FrzR.refl _⟩, ⟨rfl, _, rfl, .refl _⟩, ⟨rfl, _, rfl, .refl _⟩, trivial⟩ ?_
 refine wc_mid (fun k : Nat => ⟨[(9, .int .i64 k), (8, .ptr 65 []), (7, .ptr 64 []), (5, .d (.pt (encZ3 (z0, z1, z2)))), (4, .ptr 69 [])], [(64, some (.box 30 (.d (encScr (cfgOf x) (p0 :: rest) bs)))), (65, some (rowS3 (cfgOf x) (rest.length + 1) 66 bs.length 68)), (66, some (rowPF rest p0.length 67)), (67, some (rowP0 p0)), (68, some (rowAc bs)), (69, some (.box 64 (.d (encXS y qs m))))], 72, Tryz.f8.ntmps, 64⟩) (fun k => bs = [] ∨ k < bs.length) ?_ ?_
 ·by_cases hb0 : bs = []
  ·have d1 : decide ((bs.length : Int) > 0) = false := by rw [hb0]; rfl
   refine sR ?_;refine rC ?_;refine rQ iM ?_;refine rQ (len_own tab_ok rfl rfl) ?_;refine rC ?_;refine nS ?_;refine wF ?_;refine wc_skip ?_
   exact mid_n 0 [(64, some 128), (65, some 136), (66, some 120), (67, some 121), (68, some 122), (69, some 72)] (.inl hb0) (.of rfl rfl rfl rfl rfl ⟨⟨_, rfl, .refl _⟩, rfl, ⟨_, rfl, .refl _⟩, rfl, ⟨_, rfl, .refl _⟩, rfl, ⟨_, rfl, .refl _⟩, rfl, ⟨_, rfl, .refl _⟩, rfl, trivial⟩ ⟨⟨rfl, rfl, _, rfl, .refl _⟩, ⟨rfl, rfl, _, rfl, .refl _⟩, ⟨rfl, chF_lt rfl _, _, rfl, chF_refl rfl⟩, ⟨rfl, rfl, _, rfl, .refl _⟩, ⟨rfl, rfl, _, rfl, .refl _⟩, ⟨rfl, rfl, _, rfl, .refl _⟩, trivial⟩)
  ·have hbp : 0 < bs.length := List.length_pos_iff.2 hb0
   have d1 : decide ((0 : Int) < (bs.length : Int)) = true := dT (by omega)
   have hw20 : IntKind.i64.wrap (z1.toNat : Int) = (z1.toNat : Int) := wrap_i64 (by omega) (by omega)
   refine sR ?_;refine rC ?_;refine rQ iM ?_;refine rQ (len_own tab_ok rfl rfl) ?_;refine rC ?_;refine nS ?_;refine wT ?_;refine wc_region ?_;refine rQ (index_pt tab_ok rfl rfl rfl rfl (by decide) (by decide) (z3_sub1 z0 z1 z2)) ?_
   refine rQ iL ?_;refine rQ (conv_int (m := (z1.toNat : Int)) tab_ok rfl rfl rfl hw20) ?_;refine rC ?_;refine rQ iM ?_;refine rQ (len_own tab_ok rfl rfl) ?_;refine rQ (rem_nat (a := z1.toNat) (b := bs.length) tab_ok rfl rfl rfl (Nat.ne_of_gt hbp)) ?_
   refine rC ?_;refine reg_nil ?_
   exact mid_n (z1.toNat % bs.length) [(64, some 128), (65, some 136), (66, some 120), (67, some 121), (68, some 122), (69, some 72)] (.inr (Nat.mod_lt _ hbp)) (.of rfl rfl rfl rfl rfl ⟨⟨_, rfl, .refl _⟩, rfl, ⟨_, rfl, .refl _⟩, rfl, ⟨_, rfl, .refl _⟩, rfl, ⟨_, rfl, .refl _⟩, rfl, ⟨_, rfl, .refl _⟩, rfl, trivial⟩ ⟨⟨rfl, rfl, _, rfl, .refl _⟩, ⟨rfl, rfl, _, rfl, .refl _⟩, ⟨rfl, chF_lt rfl _, _, rfl, chF_refl rfl⟩, ⟨rfl, rfl, _, rfl, .refl _⟩, ⟨rfl, rfl, _, rfl, .refl _⟩, ⟨rfl, rfl, _, rfl, .refl _⟩, trivial⟩)
 intro k hk
 refine wc_of ?_;refine wc_mid (fun q : SQ => ⟨[(8, .ptr 65 []), (7, .ptr 64 [])], [(64, some (.box 30 (.d (encScr (cfgOf x) (p0 :: rest) bs)))), (65, some (rowS3 q.c (q.l.length + 1) 66 q.bs.length 68)), (66, some (rowPF q.l q.p.length 67)), (67, some (rowP0 q.p)), (68, some (rowAc q.bs))], 72, Tryz.f8.ntmps, 64⟩) SQ.Ok ?_ ?_
 ·obtain ⟨r, hr⟩ : ∃ r, z0.toNat % 10 = r := ⟨_, rfl⟩
  have hr10 : r < 10 := by omega
  refine sR ?_;refine rQ (index_pt tab_ok rfl rfl rfl rfl (by decide) (by decide) (z3_sub0 z0 z1 z2)) ?_;refine rQ iL ?_;refine rQ (rem_nat (a := z0.toNat) (b := 10) tab_ok rfl rfl rfl (by decide)) ?_
  refine nS ?_;refine wc_block ?_;refine sR ?_;iterate 2 refine rC ?_
  refine nS ?_
  rw [hr]
  by_cases r0 : r = 0
  ·have c0 : decide ((r : Int) = 0) = true := dT (by omega)
   refine wT ?_;refine wc_region ?_;refine rQ iM ?_;refine reg_do rfl (call_new hofy rfl rfl (arg_e arg_nil) (.inl rfl) rfl (out_first3 (n1 := 121) (n2 := 122) rfl rfl)) rfl rfl ?_
   refine rW ?_;refine reg_nil ?_;refine blk_n ?_
   exact mid_n ⟨cfgOf y, y0, yrest, bsy⟩ [(64, some 64), (65, some 65), (66, some 120), (67, some 121), (68, some 122)] ⟨hBy, by show bsy.length ≤ _; omega⟩ (.of rfl rfl rfl rfl rfl ⟨⟨_, rfl, .refl _⟩, rfl, ⟨_, rfl, .refl _⟩, rfl, trivial⟩ ⟨⟨rfl, rfl, _, rfl, .refl _⟩, ⟨rfl, rfl, _, rfl, .refl _⟩, ⟨rfl, chF_lt rfl _, _, rfl, chF_refl rfl⟩, ⟨rfl, rfl, _, rfl, .refl _⟩, ⟨rfl, rfl, _, rfl, .refl _⟩, trivial⟩)
  have c0 : decide ((r : Int) = 0) = false := dF (by omega)
  by_cases r1 : r = 1
  ·have c1 : decide ((r : Int) = 1) = true := dT (by omega)
   have hlim : x.limit ≤ 1000 := by have := hcx.2.2.2.2.2.2.2.1; unfold CX.limit; split <;> omega
   have hw58 : IntKind.u64.wrap (z2.toNat : Int) = (z2.toNat : Int) := wrap_u64 (by omega) (by omega)
   have hw59 : IntKind.u64.wrap ((x.limit : Int) + (z2.toNat : Int)) = (x.limit : Int) + (z2.toNat : Int) := wrap_u64 (by omega) (by omega)
   refine wF ?_;refine sR ?_;iterate 2 refine rC ?_
   refine nS ?_;refine wT ?_;refine wc_region ?_;iterate 2 refine rC ?_
   refine rQ iB ?_;refine rQ (index_pt tab_ok rfl rfl rfl rfl (by decide) (by decide) (z3_sub2 z0 z1 z2)) ?_;refine rQ iL ?_;refine rQ (conv_int (m := (z2.toNat : Int)) tab_ok rfl rfl rfl hw58) ?_
   refine rQ (add_int (m := (x.limit : Int) + (z2.toNat : Int)) tab_ok rfl rfl hw59) ?_;iterate 2 refine rC ?_
   refine reg_store (store_row tab_ok rfl rfl rfl ⟨_, ⟨_, ⟨_, ⟨_, ⟨rfl, rfl, rfl⟩, rfl⟩, rfl⟩, rfl⟩, rfl⟩ rfl) ?_;refine reg_nil ?_;refine blk_n ?_
   exact mid_n ⟨{ cfgOf x with limit := (x.limit : Int) + (z2.toNat : Int) }, p0, rest, bs⟩ [(64, some 64), (65, some 65), (66, some 66), (67, some 67), (68, some 68)] ⟨hBd, by show bs.length ≤ _; omega⟩ (.of rfl rfl rfl rfl rfl ⟨⟨_, rfl, .refl _⟩, rfl, ⟨_, rfl, .refl _⟩, rfl, trivial⟩ ⟨⟨rfl, rfl, _, rfl, .refl _⟩, ⟨rfl, rfl, _, rfl, .refl _⟩, ⟨rfl, chF_lt rfl _, _, rfl, chF_refl rfl⟩, ⟨rfl, rfl, _, rfl, .refl _⟩, ⟨rfl, rfl, _, rfl, .refl _⟩, trivial⟩)
  have c1 : decide ((r : Int) = 1) = false := dF (by omega)
  by_cases r2 : r = 2
  ·have c2 : decide ((r : Int) = 2) = true := dT (by omega)
   have hlt : z1.toNat % 32 < 32 := Nat.mod_lt _ (by decide)
   have gm := x.m.toNat_lt
   have hget : (byI (List.replicate 32 x.m))[(((z1.toNat % 32 : Nat) : Int)).toNat]? = some (x.m.toNat : Int) := by rw [Int.toNat_natCast]; exact byI_get (by rw [List.getElem?_replicate, if_pos hlt])
   have hset : (byI (List.replicate 32 x.m)).set ((((z1.toNat % 32 : Nat) : Int)).toNat) ((x.m.toNat ^^^ z2.toNat : Nat) : Int) = byI ((List.replicate 32 x.m).set (z1.toNat % 32) (x.m ^^^ z2)) := by rw [Int.toNat_natCast, byI, byI, List.map_set, UInt8.toNat_xor]
   refine wF ?_;refine sR ?_;iterate 2 refine rC ?_
   refine nS ?_;refine wF ?_;refine sR ?_;iterate 2 refine rC ?_
   refine nS ?_;refine wT ?_;refine wc_draw (by kernel_rfl) ?_;refine dQ [5] [] (index_pt tab_ok rfl rfl rfl rfl (by decide) (by decide) (z3_sub1 z0 z1 z2)) ?_;refine dQ [64] [] iL ?_
   refine dQ [65] [] (rem_nat (a := z1.toNat) (b := 32) tab_ok rfl rfl rfl (by decide)) ?_;refine dC [8] [] ?_;refine dC [67] [] ?_;refine dQ [68, 66] [] (step_C tab_ok (fun K hk => ⟨by omega, by omega, hk⟩)) ?_
   refine dQ [69] [65] (load_row tab_ok rfl rfl ⟨_, ⟨rfl, _, hget, rfl⟩, rfl⟩ rfl) ?_;refine dQ [5] [] (index_pt tab_ok rfl rfl rfl rfl (by decide) (by decide) (z3_sub2 z0 z1 z2)) ?_
   refine dQ [71] [] iL ?_
   refine dQ [70, 72] [] (xor_nat rfl rfl rfl (by show x.m.toNat < 256; omega) (by show z2.toNat < 256; omega) rfl) ?_
   refine dC [8] [] ?_;refine dC [74] [] ?_;refine dQ [75, 66] [] (step_C tab_ok (fun K hk => ⟨by omega, by omega, hk⟩)) ?_;refine dreg_s [76, 73] [65] (store_row tab_ok rfl rfl rfl ⟨_, ⟨_, ⟨_, ⟨_, ⟨rfl, (x.m.toNat : Int), ((x.m.toNat ^^^ z2.toNat : Nat) : Int), hget, ⟨rfl, rfl, rfl⟩, rfl⟩, rfl⟩, rfl⟩, rfl⟩, rfl⟩ rfl) ?_
   refine dreg_end (by kernel_rfl) ?_;refine blk_n ?_
   exact mid_n ⟨{ cfgOf x with master := (List.replicate 32 x.m).set (z1.toNat % 32) (x.m ^^^ z2) }, p0, rest, bs⟩ [(64, some 64), (65, some 65), (66, some 66), (67, some 67), (68, some 68)] ⟨hBd, by show bs.length ≤ _; omega⟩ (.of rfl rfl rfl rfl rfl ⟨⟨_, rfl, .refl _⟩, rfl, ⟨_, rfl, .refl _⟩, rfl, trivial⟩ ⟨⟨rfl, rfl, _, rfl, .refl _⟩, ⟨rfl, rfl, _, rfl, RowLe.of_eq (by show Row.box _ (.acons (.d (.cons _ (.cons _ (.cons _ (.cons _ (.cons _ (.cons _ (.cons (.vec 32 1 encU8 ((byI (List.replicate 32 x.m)).set ((((z1.toNat % 32 : Nat) : Int)).toNat) ((x.m.toNat ^^^ z2.toNat : Nat) : Int))) _)))))))) _) = _; rw [hset]; rfl)⟩, ⟨rfl, chF_lt rfl _, _, rfl, chF_refl rfl⟩, ⟨rfl, rfl, _, rfl, .refl _⟩, ⟨rfl, rfl, _, rfl, .refl _⟩, trivial⟩)
  have c2 : decide ((r : Int) = 2) = false := dF (by omega)
  by_cases r3 : r = 3
  ·have c3 : decide ((r : Int) = 3) = true := dT (by omega)
   have hrl : rest.length + 1 + 1 ≤ 1048576 := by
    have := progsM_len x.blocks x.clients (pOf ps)
    rw [hL, List.length_cons] at this
    omega
   have hmp : rest.map encP ++ [encP []] = (rest ++ [[]]).map encP := by simp
   have hln : rest.length + 1 + 1 = (rest ++ [([] : List POp)]).length + 1 := by simp
   refine wF ?_;refine sR ?_;iterate 2 refine rC ?_
   refine nS ?_;refine wF ?_;refine sR ?_;iterate 2 refine rC ?_
   refine nS ?_;refine wF ?_;refine sR ?_;iterate 2 refine rC ?_
   refine nS ?_;refine wT ?_;refine wc_region ?_;refine rC ?_;refine rQ iM ?_;refine reg_new (build_slice (s := 1) tab_ok rfl rfl rfl rfl rfl rfl rfl rfl) rfl ?_;refine reg_new2 (append_firstS (s := 1) tab_ok rfl rfl rfl rfl rfl rfl rfl rfl rfl rfl hrl rfl) rfl ?_
   refine rC ?_;refine reg_store (store_row tab_ok rfl rfl rfl ⟨_, ⟨_, ⟨rfl, rfl, rfl⟩, rfl⟩, rfl⟩ rfl) ?_;refine reg_nil ?_;refine blk_n ?_
   exact mid_n ⟨cfgOf x, p0, rest ++ [[]], bs⟩ [(64, some 64), (65, some 65), (66, some 184), (67, some 67), (68, some 68)] ⟨⟨by have := hBd.1; simp only [List.length_cons, List.length_append, List.length_nil] at this ⊢; omega, fun p hp => by
    rcases List.mem_cons.1 hp with h | h
    ·exact hBd.2 p (by rw [h]; exact List.mem_cons_self)
    ·rcases List.mem_append.1 h with h | h
     ·exact hBd.2 p (List.mem_cons_of_mem _ h)
     ·rw [List.mem_singleton.1 h]; exact Nat.zero_le _⟩, by show bs.length ≤ _; omega⟩ (.of rfl rfl rfl rfl rfl ⟨⟨_, rfl, .refl _⟩, rfl, ⟨_, rfl, .refl _⟩, rfl, trivial⟩ ⟨⟨rfl, rfl, _, rfl, .refl _⟩, ⟨rfl, rfl, _, rfl, RowLe.of_eq (by rw [rowS3, ← hln]; rfl)⟩, ⟨rfl, chF_lt rfl _, _, rfl, fun σ w X r h => chN_refl (ρ := rho [(64, some 64), (65, some 65), (66, some 184), (67, some 67), (68, some 68)]) (b' := 67) rfl hln hmp rfl σ w X r (chF_last (DLe.nil_arr _ _) σ w X r h)⟩, ⟨rfl, rfl, _, rfl, .refl _⟩, ⟨rfl, rfl, _, rfl, .refl _⟩, trivial⟩)
  have c3 : decide ((r : Int) = 3) = false := dF (by omega)
  by_cases r4 : r = 4
  ·have c4 : decide ((r : Int) = 4) = true := dT (by omega)
   by_cases hp0 : p0 = []
   ·have d1 : decide ((0 : Int) < (p0.length : Int)) = false := by rw [hp0]; rfl
    refine wF ?_;refine sR ?_;iterate 2 refine rC ?_
    refine nS ?_;refine wF ?_;refine sR ?_;iterate 2 refine rC ?_
    refine nS ?_;refine wF ?_;refine sR ?_;iterate 2 refine rC ?_
    refine nS ?_;refine wF ?_;refine sR ?_;iterate 2 refine rC ?_
    refine nS ?_;refine wT ?_;refine sR ?_;refine rC ?_;refine rQ iM ?_;refine rQ (index_own tab_ok rfl rfl rfl rfl rfl (by omega) (by omega)) ?_;refine rQ (load_row tab_ok rfl rfl (rsub_first (s := 1) (Nat.succ_pos _) rfl) rfl) ?_
    refine rQ (len_own tab_ok rfl rfl) ?_;refine rC ?_;refine nS ?_;refine wF ?_;refine wc_skip ?_;refine blk_n ?_
    exact mid_n ⟨cfgOf x, p0, rest, bs⟩ [(64, some 64), (65, some 65), (66, some 66), (67, some 67), (68, some 68)] ⟨hBd, by show bs.length ≤ _; omega⟩ (.of rfl rfl rfl rfl rfl ⟨⟨_, rfl, .refl _⟩, rfl, ⟨_, rfl, .refl _⟩, rfl, trivial⟩ ⟨⟨rfl, rfl, _, rfl, .refl _⟩, ⟨rfl, rfl, _, rfl, .refl _⟩, ⟨rfl, chF_lt rfl _, _, rfl, chF_refl rfl⟩, ⟨rfl, rfl, _, rfl, .refl _⟩, ⟨rfl, rfl, _, rfl, .refl _⟩, trivial⟩)
   have hpp : 0 < p0.length := List.length_pos_iff.2 hp0
   have d1 : decide ((0 : Int) < (p0.length : Int)) = true := dT (by omega)
   obtain ⟨o, ho⟩ : ∃ o, p0[((0 : Int)).toNat]? = some o := ⟨_, List.getElem?_eq_getElem hpp⟩
   have hmem : p0 ∈ progsM x.blocks x.clients (pOf ps) := by rw [hL]; exact List.mem_cons_self
   have hol := ((progsM_mem hmem).2 o (List.mem_of_getElem? ho)).2
   have hbl : (byI o.data).length = o.data.length := byI_len o.data
   have hln : (p0.set ((0 : Int)).toNat ⟨o.kind, o.index, o.data ++ [z2]⟩).length = p0.length := List.length_set
   have hB2 : Bd (p0.set ((0 : Int)).toNat ⟨o.kind, o.index, o.data ++ [z2]⟩ :: rest) := ⟨hBd.1, fun p hp => by
    rcases List.mem_cons.1 hp with h | h
    ·rw [h, hln]; exact hBd.2 p0 List.mem_cons_self
    ·exact hBd.2 p (List.mem_cons_of_mem _ h)⟩
   by_cases hod0 : o.data = []
   ·obtain ⟨kd, ix, dt⟩ := o
    simp only at hod0 hbl hol hln hB2
    subst hod0
    have hfz0 : ∀ (r : Nat) (te : TypeId) (ex : Bool) (cap : Option Nat), Frz r (.ds te 1 ex encU8 [(z2.toNat : Int)]) (.own r 0 1 1 cap) (.d (encB ([] ++ [z2]))) := fun r te ex cap => Frz.own rfl
    refine wF ?_;refine sR ?_;iterate 2 refine rC ?_
    refine nS ?_;refine wF ?_;refine sR ?_;iterate 2 refine rC ?_
    refine nS ?_;refine wF ?_;refine sR ?_;iterate 2 refine rC ?_
    refine nS ?_;refine wF ?_;refine sR ?_;iterate 2 refine rC ?_
    refine nS ?_;refine wT ?_;refine sR ?_;refine rC ?_;refine rQ iM ?_;refine rQ (index_own tab_ok rfl rfl rfl rfl rfl (by omega) (by omega)) ?_;refine rQ (load_row tab_ok rfl rfl (rsub_first (s := 1) (Nat.succ_pos _) rfl) rfl) ?_
    refine rQ (len_own tab_ok rfl rfl) ?_;refine rC ?_;refine nS ?_;refine wT ?_;refine wc_draw (by kernel_rfl) ?_;refine dC [8] [] ?_;refine dQ [92] [65] iM ?_;refine dQ [93] [] (index_own tab_ok rfl rfl rfl rfl rfl (by omega) (by omega)) ?_
    refine dQ [94] [66] (load_row tab_ok rfl rfl (rsub_first (s := 1) (Nat.succ_pos _) rfl) rfl) ?_;refine dC [8] [] ?_;refine dQ [96] [65] iM ?_;refine dQ [97] [] (index_own tab_ok rfl rfl rfl rfl rfl (by omega) (by omega)) ?_
    refine dQ [98] [66] (load_row tab_ok rfl rfl (rsub_first (s := 1) (Nat.succ_pos _) rfl) rfl) ?_;refine dQ [99] [] (index_own tab_ok rfl rfl rfl rfl rfl (by omega) (by omega)) ?_
    refine dC [100] [] ?_;refine dQ [101] [67] (load_row tab_ok rfl rfl ⟨rfl, (⟨kd, ix, []⟩ : POp), ho, _, rfl, rfl⟩ rfl) ?_;refine dQ [102] [] (append_n_e tab_ok rfl rfl rfl rfl) ?_
    refine dQ [5] [] (index_pt tab_ok rfl rfl rfl rfl (by decide) (by decide) (z3_sub2 z0 z1 z2)) ?_;refine dQ [104] [] iL ?_;refine dreg_w [105] [] rfl (build_slice (s := 1) tab_ok rfl rfl rfl rfl rfl rfl rfl rfl) ?_
    refine dQ [103, 106] [336] (StepIs.frozen (append_nil_one (s := 1) (enc := encU8) tab_ok (z2.toNat : Int) rfl rfl rfl rfl rfl rfl rfl rfl) (hfz0 _ _ _ _)) ?_;refine dQ [95] [] (index_own tab_ok rfl rfl rfl rfl rfl (by omega) (by omega)) ?_
    refine dC [108] [] ?_;refine dreg_s [109, 107] [67] (store_row tab_ok rfl rfl rfl ⟨rfl, (⟨kd, ix, []⟩ : POp), (⟨kd, ix, [] ++ [z2]⟩ : POp), ho, ⟨_, ⟨rfl, rfl, rfl⟩, rfl⟩, rfl⟩ rfl) ?_
    refine dreg_end (by kernel_rfl) ?_;refine blk_n ?_
    exact mid_n ⟨cfgOf x, p0.set ((0 : Int)).toNat ⟨kd, ix, [] ++ [z2]⟩, rest, bs⟩ [(64, some 64), (65, some 65), (66, some 66), (67, some 67), (68, some 68)] ⟨hB2, by show bs.length ≤ _; omega⟩ (.of rfl rfl rfl rfl rfl ⟨⟨_, rfl, .refl _⟩, rfl, ⟨_, rfl, .refl _⟩, rfl, trivial⟩ ⟨⟨rfl, rfl, _, rfl, .refl _⟩, ⟨rfl, rfl, _, rfl, .refl _⟩, ⟨rfl, chF_lt rfl _, _, rfl, chN_refl rfl rfl rfl hln.symm⟩, ⟨rfl, rfl, _, rfl, .refl _⟩, ⟨rfl, rfl, _, rfl, .refl _⟩, trivial⟩)
   ·have hod : 0 < (byI o.data).length := by rw [hbl]; exact List.length_pos_iff.2 hod0
    have hdl0 : (byI o.data).length ≤ 1048576 := by omega
    have hdl : (byI o.data).length + 1 ≤ 1048576 := by omega
    have hfz : ∀ (r : Nat) (te : TypeId) (ex : Bool) (cap : Option Nat), Frz r (.ds te 1 ex encU8 (byI o.data ++ [(z2.toNat : Int)])) (.own r 0 ((byI o.data).length + 1) 1 cap) (.d (encB (o.data ++ [z2]))) := fun r te ex cap => by
     rw [show encB (o.data ++ [z2]) = .arr 1 encU8 (byI o.data ++ [(z2.toNat : Int)]) by simp [encB, byI]]
     exact Frz.own (by simp)
    refine wF ?_;refine sR ?_;iterate 2 refine rC ?_
    refine nS ?_;refine wF ?_;refine sR ?_;iterate 2 refine rC ?_
    refine nS ?_;refine wF ?_;refine sR ?_;iterate 2 refine rC ?_
    refine nS ?_;refine wF ?_;refine sR ?_;iterate 2 refine rC ?_
    refine nS ?_;refine wT ?_;refine sR ?_;refine rC ?_;refine rQ iM ?_;refine rQ (index_own tab_ok rfl rfl rfl rfl rfl (by omega) (by omega)) ?_;refine rQ (load_row tab_ok rfl rfl (rsub_first (s := 1) (Nat.succ_pos _) rfl) rfl) ?_
    refine rQ (len_own tab_ok rfl rfl) ?_;refine rC ?_;refine nS ?_;refine wT ?_;refine wc_draw (by kernel_rfl) ?_;refine dC [8] [] ?_;refine dQ [92] [65] iM ?_;refine dQ [93] [] (index_own tab_ok rfl rfl rfl rfl rfl (by omega) (by omega)) ?_
    refine dQ [94] [66] (load_row tab_ok rfl rfl (rsub_first (s := 1) (Nat.succ_pos _) rfl) rfl) ?_;refine dC [8] [] ?_;refine dQ [96] [65] iM ?_;refine dQ [97] [] (index_own tab_ok rfl rfl rfl rfl rfl (by omega) (by omega)) ?_
    refine dQ [98] [66] (load_row tab_ok rfl rfl (rsub_first (s := 1) (Nat.succ_pos _) rfl) rfl) ?_;refine dQ [99] [] (index_own tab_ok rfl rfl rfl rfl rfl (by omega) (by omega)) ?_
    refine dC [100] [] ?_;refine dQ [101] [67] (load_row tab_ok rfl rfl ⟨rfl, o, ho, _, rfl, rfl⟩ rfl) ?_;refine dreg_w [102] [] rfl (append_empty_arr (s := 1) (enc := encU8) (ys := byI o.data) tab_ok rfl rfl rfl rfl rfl (.inr rfl) rfl hod hdl0 rfl) ?_
    refine dQ [5] [] (index_pt tab_ok rfl rfl rfl rfl (by decide) (by decide) (z3_sub2 z0 z1 z2)) ?_;refine dQ [104] [] iL ?_;refine dreg_w [105] [] rfl (build_slice (s := 1) tab_ok rfl rfl rfl rfl rfl rfl rfl rfl) ?_
    refine dreg_w [103, 106] [312, 336] rfl (StepIs.frozen2 (append_one (xs := byI o.data) (s := 1) (enc := encU8) tab_ok (z2.toNat : Int) rfl rfl rfl rfl rfl rfl rfl rfl rfl hdl rfl) (hfz _ _ _ _)) ?_
    refine dQ [95] [] (index_own tab_ok rfl rfl rfl rfl rfl (by omega) (by omega)) ?_;refine dC [108] [] ?_;refine dreg_s [109, 107] [67] (store_row tab_ok rfl rfl rfl ⟨rfl, o, ⟨o.kind, o.index, o.data ++ [z2]⟩, ho, ⟨_, ⟨rfl, rfl, rfl⟩, rfl⟩, rfl⟩ rfl) ?_
    refine dreg_end (by kernel_rfl) ?_;refine blk_n ?_
    exact mid_n ⟨cfgOf x, p0.set ((0 : Int)).toNat ⟨o.kind, o.index, o.data ++ [z2]⟩, rest, bs⟩ [(64, some 64), (65, some 65), (66, some 66), (67, some 67), (68, some 68)] ⟨hB2, by show bs.length ≤ _; omega⟩ (.of rfl rfl rfl rfl rfl ⟨⟨_, rfl, .refl _⟩, rfl, ⟨_, rfl, .refl _⟩, rfl, trivial⟩ ⟨⟨rfl, rfl, _, rfl, .refl _⟩, ⟨rfl, rfl, _, rfl, .refl _⟩, ⟨rfl, chF_lt rfl _, _, rfl, chN_refl rfl rfl rfl hln.symm⟩, ⟨rfl, rfl, _, rfl, .refl _⟩, ⟨rfl, rfl, _, rfl, .refl _⟩, trivial⟩)
  have c4 : decide ((r : Int) = 4) = false := dF (by omega)
  by_cases hb0 : bs = []
  ·have d1 : decide ((0 : Int) < (bs.length : Int)) = false := by rw [hb0]; rfl
   refine wF ?_;refine sR ?_;iterate 2 refine rC ?_
   refine nS ?_;refine wF ?_;refine sR ?_;iterate 2 refine rC ?_
   refine nS ?_;refine wF ?_;refine sR ?_;iterate 2 refine rC ?_
   refine nS ?_;refine wF ?_;refine sR ?_;iterate 2 refine rC ?_
   refine nS ?_;refine wF ?_;refine sR ?_;refine rC ?_;refine rQ iM ?_;refine rQ (len_own tab_ok rfl rfl) ?_;refine rC ?_;refine nS ?_;refine wF ?_;refine wc_skip ?_
   refine blk_n ?_
   exact mid_n ⟨cfgOf x, p0, rest, bs⟩ [(64, some 64), (65, some 65), (66, some 66), (67, some 67), (68, some 68)] ⟨hBd, by show bs.length ≤ _; omega⟩ (.of rfl rfl rfl rfl rfl ⟨⟨_, rfl, .refl _⟩, rfl, ⟨_, rfl, .refl _⟩, rfl, trivial⟩ ⟨⟨rfl, rfl, _, rfl, .refl _⟩, ⟨rfl, rfl, _, rfl, .refl _⟩, ⟨rfl, chF_lt rfl _, _, rfl, chF_refl rfl⟩, ⟨rfl, rfl, _, rfl, .refl _⟩, ⟨rfl, rfl, _, rfl, .refl _⟩, trivial⟩)
  have hbp : 0 < bs.length := List.length_pos_iff.2 hb0
  have hkl : k < bs.length := hk.resolve_left hb0
  have d1 : decide ((0 : Int) < (bs.length : Int)) = true := dT (by omega)
  obtain ⟨a, ha⟩ : ∃ a, bs[((k : Nat) : Int).toNat]? = some a := ⟨_, List.getElem?_eq_getElem (by rw [Int.toNat_natCast]; exact hkl)⟩
  have hln : (bs.set ((k : Nat) : Int).toNat (aOf ⟨z0, z2, z1, [z1, z2]⟩ x)).length = bs.length := List.length_set
  refine wF ?_;refine sR ?_;iterate 2 refine rC ?_
  refine nS ?_;refine wF ?_;refine sR ?_;iterate 2 refine rC ?_
  refine nS ?_;refine wF ?_;refine sR ?_;iterate 2 refine rC ?_
  refine nS ?_;refine wF ?_;refine sR ?_;iterate 2 refine rC ?_
  refine nS ?_;refine wF ?_;refine sR ?_;refine rC ?_;refine rQ iM ?_;refine rQ (len_own tab_ok rfl rfl) ?_;refine rC ?_;refine nS ?_;refine wT ?_;refine wc_draw (by kernel_rfl) ?_
  refine dC [8] [] ?_;refine dQ [32] [65] iM ?_;refine dC [9] [] ?_;refine dQ [5] [] (index_pt tab_ok rfl rfl rfl rfl (by decide) (by decide) (z3_sub0 z0 z1 z2)) ?_
  refine dQ [35] [] iL ?_;refine dQ [5] [] (index_pt tab_ok rfl rfl rfl rfl (by decide) (by decide) (z3_sub2 z0 z1 z2)) ?_;refine dQ [37] [] iL ?_;refine dQ [5] [] (index_pt tab_ok rfl rfl rfl rfl (by decide) (by decide) (z3_sub1 z0 z1 z2)) ?_
  refine dQ [39] [] iL ?_;refine dQ [5] [] (slice_pt_from (m := 1) tab_ok rfl rfl rfl rfl rfl rfl rfl rfl) ?_;refine dQ [36, 38, 40, 41] [] iS ?_;refine dC [8] [] ?_
  refine dQ [43] [65] iM ?_;refine dQ [42, 44] [] (call_r (aof_is ⟨z0, z2, z1, [z1, z2]⟩ x) rfl rfl (arg_e (arg_e arg_nil)) (.inl rfl) (fun _ => rfl)) ?_;refine dQ [33, 34] [] (index_own tab_ok rfl rfl rfl rfl rfl (by omega) (by omega)) ?_
  refine dreg_s [46, 45] [68] (store_row tab_ok rfl rfl rfl ⟨rfl, a, aOf ⟨z0, z2, z1, [z1, z2]⟩ x, ha, ⟨rfl, rfl, rfl⟩, rfl⟩ rfl) ?_;refine dreg_end (by kernel_rfl) ?_
  refine blk_n ?_
  exact mid_n ⟨cfgOf x, p0, rest, bs.set ((k : Nat) : Int).toNat (aOf ⟨z0, z2, z1, [z1, z2]⟩ x)⟩ [(64, some 64), (65, some 65), (66, some 66), (67, some 67), (68, some 68)] ⟨hBd, by show List.length (bs.set _ _) ≤ _; rw [hln]; omega⟩ (.of rfl rfl rfl rfl rfl ⟨⟨_, rfl, .refl _⟩, rfl, ⟨_, rfl, .refl _⟩, rfl, trivial⟩ ⟨⟨rfl, rfl, _, rfl, .refl _⟩, ⟨rfl, rfl, _, rfl, RowLe.of_eq (by rw [rowS3, hln]; rfl)⟩, ⟨rfl, chF_lt rfl _, _, rfl, chF_refl rfl⟩, ⟨rfl, rfl, _, rfl, .refl _⟩, ⟨rfl, rfl, _, rfl, .refl _⟩, trivial⟩)
 rintro ⟨c2, q0, qr, bs2⟩ ⟨hB2, hb2⟩
 refine wc_of ?_
 simp only
 refine wc_freeze (env' := [(8, _), (7, _)]) (h' := [(64, some _), (65, some _), (66, some _), (68, some _)]) 67 _ rfl ⟨⟨_, rfl, .refl _⟩, ⟨_, rfl, .refl _⟩, trivial⟩ ⟨⟨rfl, _, rfl, .refl _⟩, ⟨rfl, _, rfl, .refl _⟩, ⟨rfl, _, rfl, FrzR.first (enc := encP) (xs := qr) (y := q0) rfl rfl rfl (fun _ => rfl) rfl⟩, ⟨rfl, _, rfl, .refl _⟩, trivial⟩ ?_
 refine wc_freeze (env' := [(8, _), (7, _)]) (h' := [(64, some _), (65, some _), (68, some _)]) 66 _ rfl ⟨⟨_, rfl, .refl _⟩, ⟨_, rfl, .refl _⟩, trivial⟩ ⟨⟨rfl, _, rfl, .refl _⟩, ⟨rfl, _, rfl, FrzR.box (Frz.cons (.refl _) (Frz.cons (Frz.own rfl) (.refl _)))⟩, ⟨rfl, _, rfl, .refl _⟩, trivial⟩ ?_
 refine wc_freeze (env' := [(8, _), (7, _)]) (h' := [(64, some _), (65, some _)]) 68 _ rfl ⟨⟨_, rfl, .refl _⟩, ⟨_, rfl, .refl _⟩, trivial⟩ ⟨⟨rfl, _, rfl, .refl _⟩, ⟨rfl, _, rfl, FrzR.box (Frz.dcons (.refl _) (Frz.dcons (.refl _) (Frz.dcons (Frz.own rfl) (.refl _))))⟩, trivial⟩ ?_
 have hss := ssame_is (cfgOf x) c2 (p0 :: rest) (q0 :: qr) bs bs2 hBd (by omega)
 have hsr := ssame_is c2 (cfgOf x) (q0 :: qr) (p0 :: rest) bs2 bs hB2 (by omega)
 have hls := lsame2_is (cfgOf x) c2 (p0 :: rest) (q0 :: qr) bs bs2 hBd hB2 (by omega) (by omega)
 have hsy := sameS_symm (cfgOf x) c2 (p0 :: rest) (q0 :: qr) bs bs2
 rw [show (decide (cfgOf x = c2) && (decide (p0 :: rest = q0 :: qr) && decide (bs = bs2))) = sameS (cfgOf x) c2 (p0 :: rest) (q0 :: qr) bs bs2 from rfl] at hss
 rw [show (decide (c2 = cfgOf x) && (decide (q0 :: qr = p0 :: rest) && decide (bs2 = bs))) = sameS c2 (cfgOf x) (q0 :: qr) (p0 :: rest) bs2 bs from rfl, hsy] at hsr
 generalize sameS (cfgOf x) c2 (p0 :: rest) (q0 :: qr) bs bs2 = g at *
 have hg1 : decide (((1 : Int)) = 1) = true := rfl
 have hg0 : decide (((0 : Int)) = 1) = false := rfl
 cases g with
 | true =>
  rw [if_pos rfl] at hls
  refine wc_seq ?_;refine wc_draw (by kernel_rfl) ?_;refine dQ [7] [64] iM ?_;refine dQ [8] [65] iM ?_;refine dQ [110, 111] [] (call_r hss rfl rfl (arg_e (arg_e arg_nil)) (.inl rfl) (fun _ => rfl)) ?_
  refine dQ [7] [64] iM ?_;refine dQ [8] [65] iM ?_;refine dQ [113, 114] [] (call_r hls rfl rfl (arg_e (arg_e arg_nil)) (.inl rfl) (fun _ => rfl)) ?_;refine dC [115] [] ?_
  refine dC [112, 116] [] ?_;refine dC [117] [] ?_;refine dreg_onq [118, 8] [65] rfl rfl rfl rfl (load_box tab_ok rfl rfl rfl rfl) ?_;refine dreg_onq [118, 7] [64] rfl rfl rfl rfl (load_box tab_ok rfl rfl rfl rfl) ?_
  refine dreg_onq [118, 119, 120] [] rfl rfl rfl rfl (call_r hsr rfl rfl (arg_e (arg_e arg_nil)) (.inl rfl) (fun _ => rfl)) ?_;refine dreg_onq [118, 7] [64] rfl rfl rfl rfl (load_box tab_ok rfl rfl rfl rfl) ?_
  refine dreg_onq [118, 8] [65] rfl rfl rfl rfl (load_box tab_ok rfl rfl rfl rfl) ?_;refine dreg_onq [118, 122, 123] [] rfl rfl rfl rfl (call_r hss rfl rfl (arg_e (arg_e arg_nil)) (.inl rfl) (fun _ => rfl)) ?_
  refine dreg_onq [118, 121, 124] [] rfl rfl rfl rfl (step_C tab_ok (fun K hk => hk)) ?_;refine dQ [118, 125] [] iU ?_;refine dC [126] [] ?_;refine dreg_onq [127] [] rfl rfl rfl rfl (call_r lives_is rfl rfl arg_nil (.inl rfl) (fun _ => rfl)) ?_
  refine dQ [127, 128] [] iU ?_;refine dC [129] [] ?_;refine dreg_end (by kernel_rfl) ?_;refine seq_n ?_;refine wc_ret ?_
  exact ⟨trivial, [], lf⟩
 | false =>
  rw [if_neg (by decide)] at hls
  refine wc_seq ?_;refine wc_draw (by kernel_rfl) ?_;refine dQ [7] [64] iM ?_;refine dQ [8] [65] iM ?_;refine dQ [110, 111] [] (call_r hss rfl rfl (arg_e (arg_e arg_nil)) (.inl rfl) (fun _ => rfl)) ?_
  refine dQ [7] [64] iM ?_;refine dQ [8] [65] iM ?_;refine dQ [113, 114] [] (call_r hls rfl rfl (arg_e (arg_e arg_nil)) (.inl rfl) (fun _ => rfl)) ?_;refine dC [115] [] ?_
  refine dC [112, 116] [] ?_;refine dC [117] [] ?_;refine dreg_onq [118, 8] [65] rfl rfl rfl rfl (load_box tab_ok rfl rfl rfl rfl) ?_;refine dreg_onq [118, 7] [64] rfl rfl rfl rfl (load_box tab_ok rfl rfl rfl rfl) ?_
  refine dreg_onq [118, 119, 120] [] rfl rfl rfl rfl (call_r hsr rfl rfl (arg_e (arg_e arg_nil)) (.inl rfl) (fun _ => rfl)) ?_;refine dreg_onq [118, 7] [64] rfl rfl rfl rfl (load_box tab_ok rfl rfl rfl rfl) ?_
  refine dreg_onq [118, 8] [65] rfl rfl rfl rfl (load_box tab_ok rfl rfl rfl rfl) ?_;refine dreg_onq [118, 122, 123] [] rfl rfl rfl rfl (call_r hss rfl rfl (arg_e (arg_e arg_nil)) (.inl rfl) (fun _ => rfl)) ?_
  refine dreg_onq [118, 121, 124] [] rfl rfl rfl rfl (step_C tab_ok (fun K hk => hk)) ?_;refine dQ [118, 125] [] iU ?_;refine dC [126] [] ?_;refine dreg_onq [127] [] rfl rfl rfl rfl (call_r lives_is rfl rfl arg_nil (.inl rfl) (fun _ => rfl)) ?_
  refine dQ [127, 128] [] iU ?_;refine dC [129] [] ?_;refine dreg_end (by kernel_rfl) ?_;refine seq_n ?_;refine wc_ret ?_
  exact ⟨trivial, [], lf⟩
end Go.Proofs.YthiijfbcfoifnaaGreatDoor
namespace Go.Proofs.YthiijfbcfoifnaaGreatDoor
open Go.Eng Go.Plain
theorem pu8_of {a : Int} (h : (Lit.int .u8 a).wf = true) : 0 ≤ a ∧ a ≤ 255 := by
 simp [Lit.wf, IntKind.min, IntKind.max, IntKind.bits, IntKind.signed] at h
 omega
def toB (l : List Int) : List UInt8 := l.map fun z => z.toNat.toUInt8
theorem toB_byI {l : List Int} (h : ∀ a ∈ l, (Lit.int .u8 a).wf = true) : byI (toB l) = l := by
 rw [byI, toB, List.map_map]
 have : ∀ a ∈ l, ((fun b : UInt8 => (b.toNat : Int)) ∘ fun z : Int => z.toNat.toUInt8) a = a := fun a ha => by
  obtain ⟨h1, h2⟩ := pu8_of (h a ha)
  simp only [Function.comp_apply, Nat.toUInt8_eq, UInt8.toNat_ofNat']
  omega
 rw [List.map_congr_left this, List.map_id'']
 exact fun _ => rfl
theorem opens_bytes : Opens Tryz.prog 34 1 (fun l : List UInt8 => encB l) fun _ => True :=
 Opens.map (opens_slice (P := Tryz.prog) Tryz.underlying34 (by kernel_rfl) (opens_int (P := Tryz.prog) Tryz.underlying5))
  toB (fun l h => by show D.arr 1 encU8 (byI (toB l)) = _; rw [toB_byI h.2]; rfl) (fun _ _ => trivial)
abbrev encS3 (s : SScr) : D := encScr s.1 s.2.1 s.2.2
abbrev encIs (l : List Int) : D := .arr 1 i6 l
theorem u8_back {a : Int} (h : (Lit.int .u8 a).wf = true) : ((a.toNat.toUInt8.toNat : Nat) : Int) = a := by
 obtain ⟨h1, h2⟩ := pu8_of h
 simp only [Nat.toUInt8_eq, UInt8.toNat_ofNat']
 omega
theorem opens_q : Opens Tryz.prog 185 3 encQ fun _ => True :=
 Opens.map (opens_struct (P := Tryz.prog) Tryz.underlying185 (by kernel_rfl) (fun _ => rfl) (opensF_cons rfl (by kernel_rfl) (opens_int (P := Tryz.prog) Tryz.underlying5) (opensF_cons rfl (by kernel_rfl) (opens_int (P := Tryz.prog) Tryz.underlying5) (opensF_cons rfl (by kernel_rfl) (opens_int (P := Tryz.prog) Tryz.underlying5) opensF_nil))))
  (fun q => ⟨q.1.toNat.toUInt8, q.2.1.toNat.toUInt8, q.2.2.1.toNat.toUInt8⟩) (fun q h => by simp only [encQ, u8_back h.1, u8_back h.2.1, u8_back h.2.2.1]) (fun _ _ => trivial)
theorem opens_pp : Opens Tryz.prog 59 1 encPP fun _ => True :=
 Opens.map (opens_struct (P := Tryz.prog) Tryz.underlying59 (by kernel_rfl) (fun _ => rfl) (opensF_cons rfl (by kernel_rfl)
  (opens_slice (P := Tryz.prog) Tryz.underlying57 (by kernel_rfl) (opens_slice (P := Tryz.prog) Tryz.underlying183 (by kernel_rfl) opens_q)) opensF_nil))
  (fun q => q.1) (fun _ _ => rfl) (fun _ _ => trivial)
abbrev encC2 (q : CX × List (List PQ)) : D := encCX q.1 (encPP q.2)
theorem opens_cx : Opens Tryz.prog 61 8 encC2 fun _ => True :=
 Opens.map (opens_struct (P := Tryz.prog) Tryz.underlying61 (by kernel_rfl) (fun _ => rfl) (opensF_cons rfl (by kernel_rfl) (opens_int (P := Tryz.prog) Tryz.underlying5) (opensF_cons rfl (by kernel_rfl) (opens_int (P := Tryz.prog) Tryz.underlying5) (opensF_cons rfl (by kernel_rfl) (opens_int (P := Tryz.prog) Tryz.underlying5) (opensF_cons rfl (by kernel_rfl) (opens_int (P := Tryz.prog) Tryz.underlying5) (opensF_cons rfl (by kernel_rfl) (opens_int (P := Tryz.prog) Tryz.underlying5) (opensF_cons rfl (by kernel_rfl) (opens_int (P := Tryz.prog) Tryz.underlying5) (opensF_cons rfl (by kernel_rfl) (opens_int (P := Tryz.prog) Tryz.underlying5) (opensF_cons rfl (by kernel_rfl) opens_pp opensF_nil)))))))))
  (fun q => (⟨q.1.toNat.toUInt8, q.2.1.toNat.toUInt8, q.2.2.1.toNat.toUInt8, q.2.2.2.1.toNat.toUInt8, q.2.2.2.2.1.toNat.toUInt8, q.2.2.2.2.2.1.toNat.toUInt8, q.2.2.2.2.2.2.1.toNat.toUInt8⟩, q.2.2.2.2.2.2.2.1)) (fun q h => by simp only [encC2, encCX, u8_back h.1, u8_back h.2.1, u8_back h.2.2.1, u8_back h.2.2.2.1, u8_back h.2.2.2.2.1, u8_back h.2.2.2.2.2.1, u8_back h.2.2.2.2.2.2.1]) (fun _ _ => trivial)
theorem opens_xa : Opens Tryz.prog 71 4 encXA fun _ => True :=
 Opens.map (opens_struct (P := Tryz.prog) Tryz.underlying71 (by kernel_rfl) (fun _ => rfl) (opensF_cons rfl (by kernel_rfl) (opens_int (P := Tryz.prog) Tryz.underlying5) (opensF_cons rfl (by kernel_rfl) (opens_int (P := Tryz.prog) Tryz.underlying5) (opensF_cons rfl (by kernel_rfl) (opens_int (P := Tryz.prog) Tryz.underlying5) (opensF_cons rfl (by kernel_rfl) opens_bytes opensF_nil)))))
  (fun q => ⟨q.1.toNat.toUInt8, q.2.1.toNat.toUInt8, q.2.2.1.toNat.toUInt8, q.2.2.2.1⟩) (fun q h => by simp only [encXA, u8_back h.1, u8_back h.2.1, u8_back h.2.2.1]) (fun _ _ => trivial)
abbrev encS4 (q : (CX × List (List PQ)) × List XA) : D := encXS q.1.1 q.1.2 q.2
theorem opens_xs : Opens Tryz.prog 64 9 encS4 fun _ => True :=
 Opens.map (opens_struct (P := Tryz.prog) Tryz.underlying64 (by kernel_rfl) (fun _ => rfl) (opensF_cons rfl (by kernel_rfl) opens_cx (opensF_cons rfl (by kernel_rfl)
  (opens_slice (P := Tryz.prog) Tryz.underlying62 (by kernel_rfl) opens_xa) opensF_nil)))
  (fun q => (q.1, q.2.1)) (fun _ _ => rfl) (fun _ _ => trivial)
end Go.Proofs.YthiijfbcfoifnaaGreatDoor
