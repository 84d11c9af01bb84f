/- Texts of the proof: Eng62, Eng63, Eng64, Eng65, Eng66, Eng67, Eng68, WJP, WJQ, Eng69, Eng70, Eng71, PT, PP, PP2, PR, PTab, PDat, P1, P2, PL, Eng72, Eng73, TryzPlain, P3, P4, Eng74, P5, PU, P6, PW. -/
import Derived.Test.YtpmhnpnmpjimnaaGreatDoorG02
import Derived.Lib.Builder
import Derived.Lib.UnsafeStr
import Derived.Test.YtpmhnpnmpjimnaaGreatDoorRows
import Derived.ProofKit
import Derived.LaidMore
import Derived.OpenShut
import Derived.Stop.Joined
import Derived.HandedShaped
import Derived.Shelf.Vars
import Derived.Lay
import Derived.SevenTiedAt
import Derived.Lib.AppendStr
import Derived.Lib.DecodeN
import Derived.Lib.ItoaMem
import Derived.Lib.ParseIntB
import Derived.Lib.ParseIntBCases
import Derived.Test.YtpmhnpnmpjimnaaGreatDoorChecked
import Derived.Test.YtpmhnpnmpjimnaaGreatDoorG01
import Derived.KernelRfl
import Derived.Lib.Split
import Derived.Lib.CountLaws
import Derived.Lib.CutLaws
import Derived.Lib.IndexBytes
import Derived.Shelf.Strings.Builder1
import Derived.Shelf.Small.Strs
import Derived.Shelf.Utf8.RuneCount
import Derived.Shelf.Strconv.Atoi
import Derived.Shelf.Strconv.Itoa0
import Derived.Shelf.Strconv.Itoa1
import Derived.Shelf.LaysM
import Derived.Shelf.Strconv.Itoa2
import Derived.Shelf.Strconv.Itoa3
import Derived.Shelf.Strconv.AtoiErrFast
import Derived.Shelf.Strconv.ParseIntEmpty
import Derived.Shelf.Strconv.AtoiFail
import Derived.Shelf.Strconv.Clone
import Derived.Shelf.Strconv.SyntaxError
import Derived.Shelf.LaysC
import Derived.Shelf.Strconv.ToError
import Derived.Shelf.Strconv.Lower
import Derived.Shelf.Strconv.ParseUint10
import Derived.Shelf.Strconv.ParseUint10Empty
import Derived.Shelf.Strconv.ParseUint10Any
import Derived.Shelf.Strconv.ParseInt10
import Derived.Shelf.Strconv.AtoiLong
import Derived.Shelf.Strconv.AtoiInnerAll
import Derived.Shelf.Strconv.RangeError
import Derived.Shelf.Strconv.ToErrorRange
import Derived.Shelf.Strconv.AtoiAll
import Derived.Ground.MpProg
import Derived.Shelf.Pu.ParseUintPublic10
import Derived.Shelf.Strings.Search1
import Derived.Shelf.Strings.Search2
import Derived.Shelf.Strings.Search3
import Derived.Shelf.Strings.Cut
import Derived.Shelf.Strings.Count
import Derived.Shelf.Strings.Shaped
import Derived.Shelf.Strings.Prefix
import Derived.Shelf.Strings.Split
import Derived.Shelf.Strings.SplitShaped
import Derived.Shelf.Unicode.Decode
import Derived.Shelf.Strings.RuneCount
import Derived.Shelf.Strings.Explode
import Derived.Shelf.Unicode.DecodeSlow
import Derived.Shelf.Unicode.DecodeAny
import Derived.Test.YtpmhnpnmpjimnaaGreatDoorProg
import Derived.Lib.SmallJoins
import Derived.Lib.IndexLaws

set_option linter.unusedVariables false
set_option linter.unusedSimpArgs false
set_option linter.unusedSectionVars false
set_option maxRecDepth 10000

set_option linter.unusedSimpArgs false
set_option linter.unusedVariables false
namespace Go.Eng
open Go.RowKit
section
variable {C : Ctx} {w w' : World} {G : Nat → Prop} {st : St} {σ : Place} {a : Act}
theorem aG.lose (h:aG C G st σ w a) {r b c m:Nat} {row:Row} {cur:Array Value} {t:TypeId} {fr:Nat×Nat} (hr:st.row r=some row) (hs:σ r=some (b,c)) (hh:w.heap[b]?=some (.cells cur t fr)) :
  aG C G (st.upd [(r,none)]) σ (w.freeze ⟨b,0,none⟩ m) a:=by
 have hrow:∀q,(st.upd [(r,none)]).row q=if r=q then none else st.row q:=fun q=>by
  simp only[St.upd,St.row,List.cons_append,List.nil_append,aD]
  split <;> rfl
 have hX:∀q,(st.upd [(r,none)]).X C.X0 σ q→st.X C.X0 σ q:=by
  rintro q (hx0 | ⟨r1,row1,c1,h1,h2⟩)
  ·exact .inl hx0
  ·rw[hrow]at h1
   split at h1
   ·cases h1
   ·exact .inr ⟨r1,row1,c1,h1,h2⟩
 have hB:=h.high _ _ _ _ hr hs
 by_cases hm:m=0
 ·subst hm
  have he:w.freeze ⟨b,0,none⟩ 0=w:=by simp[World.freeze]
  rw[he]
  refine h.core (fun _ h=>h) (fun _ _=>rfl) (fun a u h1 h2=>⟨.rfl' h1,fun hx=>h2 (hX _ hx)⟩) rfl rfl rfl (fun q row' hq=>?_) (fun r1 r2 row1 row2 b' c1 c2 h1 h2 h3 h4=>?_) (fun r1 row1 b' c1 h1 h2=>?_) h.size ⟨rfl,rfl,rfl,Nat.le_refl _,fun _ _ _=>rfl,fun _ _ ho _=>ho ▸ rfl⟩
  ·rw[hrow]at hq
   split at hq
   ·cases hq
   ·exact .inl ⟨hq,fun _ _ _=>rfl⟩
  ·rw[hrow]at h1 h2
   split at h1
   ·cases h1
   split at h2
   ·cases h2
   exact h.inj _ _ _ _ _ _ _ h1 h2 h3 h4
  ·rw[hrow]at h1
   split at h1
   ·cases h1
   exact h.high _ _ _ _ h1 h2
 ·have hother:∀k,k≠b→(w.freeze ⟨b,0,none⟩ m).heap[k]?=w.heap[k]?:=by
   intro k hk
   simp only[World.freeze,if_neg hm,Array.getElem?_modify]
   rw[if_neg (Ne.symm hk)]
  have hsz:(w.freeze ⟨b,0,none⟩ m).heap.size=w.heap.size:=by simp[World.freeze,if_neg hm]
  refine h.core (fun _ h=>h) (fun _ _=>rfl) (fun a u h1 h2=>?_) rfl rfl rfl (fun q row' hq=>?_) (fun r1 r2 row1 row2 b' c1 c2 h1 h2 h3 h4=>?_) (fun r1 row1 b' c1 h1 h2=>?_) (by rw[hsz]; exact h.size) ?_
  ·have hne:a.block≠b:=fun e=>h2 (.inr ⟨r,row,c,hr,by rw[e]; exact hs⟩)
   exact⟨.of_block (hother _ hne) h1,fun hx=>h2 (hX _ hx)⟩
  ·rw[hrow]at hq
   split at hq
   ·cases hq
   ·rename_i e
    exact .inl ⟨hq,fun b' c' hs'=>hother _ (fun e'=>e (by subst e'; exact (h.inj _ _ _ _ _ _ _ hq hr hs' hs).symm))⟩
  ·rw[hrow]at h1 h2
   split at h1
   ·cases h1
   split at h2
   ·cases h2
   exact h.inj _ _ _ _ _ _ _ h1 h2 h3 h4
  ·rw[hrow]at h1
   split at h1
   ·cases h1
   exact h.high _ _ _ _ h1 h2
  ·refine⟨by simp[World.freeze,if_neg hm],by simp[World.freeze,if_neg hm],by simp[World.freeze,if_neg hm],by rw[hsz]; exact Nat.le_refl _,fun k hk hmk=>hother k (by rintro rfl; rcases hB with hB | hB; exact absurd hk (by omega); exact hmk hB),fun k o2 ho hb=>(hother k (by rintro rfl; rw[hh]at ho; cases ho; simp[gE]at hb)).trans ho⟩
end
section
variable {P : Program} {T : Tab} {sz : Nat} {env : Env} {h : Upds} {n : Nat}
theorem nF {C:Ctx} {G:Nat→Prop} {st:St} {σ:Place} {w:World} {a:Act} (hst:aG C G st σ w a) {r t:Nat} {v:AV} (hr:st.row r=some (.box t v)) (hf:v.flat=true):∃b,σ r=some (b,1)∧w.shape? b=some (t,v.size):=by
 obtain⟨_,b,cur,h1,h2,h3⟩:=hst.rows r _ hr
 refine⟨b,h1,?_⟩
 have:=Rel.len _ _ hf h3
 simp only[Array.length_toList]at this
 simp[World.shape?,h2,this]
theorem pJ (hT:an P T) {src dst t t' r:Nat} {re:TyR} {v:AV} {x:Operand} (hs:P.underlying src=some (.pointer t)) (hd:P.underlying dst=some .unsafePointer) (ht:lk T t=some re) (hj:Nat.blt 0 re.size=true) (hx:au env x=some (.ptr r [])) (hrow:bc h r=some (.box t' v)) (hf:v.flat=true) (hv:Nat.blt 0 v.size=true) :
  aq P (.convert src dst x) env h n (some (.ptr r [])) []:=.of_comes fun C G st σ w a o ho hA hdst hst hn=>by
 obtain⟨hx1,hx2⟩:=am hst (hA.ev hx)
 obtain⟨b,hσ,hsh⟩:=nF hst (hA.row _ _ hrow) hf
 obtain⟨b',c,hσ',hv'⟩:=RelV.ptr.1 hx1
 rw[hσ]at hσ'
 cases hσ'
 refine .quiet (u :=.pointer (some ⟨b,0,none⟩)) hst hdst ⟨rfl,rfl⟩ ?_ (RelV.ptr.2 ⟨b,1,hσ,rfl⟩) hx2
 obtain⟨j,z,hj1,hj2,_⟩:=(hT t re ht).info
 have hj:=Nat.le_of_ble_eq_true hj
 have hrun:=Lib.run_to_unsafe (P:=P) w ⟨b,0,none⟩ hs hd hj1 (by omega) hsh (Nat.le_of_ble_eq_true hv)
 simp only[execOp,ho,hv',aQ,Sem.run_bind,hrun,Result.andThen_ok,Sem.run_pure]
theorem mP (hT:an P T) {src dst u t' r:Nat} {re:TyR} {v:AV} {x:Operand} (hs:P.underlying src=some .unsafePointer) (hd:P.underlying dst=some (.pointer u)) (hu:lk T u=some re) (hx:au env x=some (.ptr r [])) (hrow:bc h r=some (.box t' v)) (hf:v.flat=true) (hl:liesAt P P.depth t' (v.size/P.cellsOf t') 0 u 1=true) :
  aq P (.convert src dst x) env h n (some (.ptr r [])) []:=.of_comes fun C G st σ w a o ho hA hdst hst hn=>by
 obtain⟨hx1,hx2⟩:=am hst (hA.ev hx)
 obtain⟨b,hσ,hsh⟩:=nF hst (hA.row _ _ hrow) hf
 obtain⟨b',c,hσ',hv'⟩:=RelV.ptr.1 hx1
 rw[hσ]at hσ'
 cases hσ'
 refine .quiet (u :=.pointer (some ⟨b,0,none⟩)) hst hdst ⟨rfl,rfl⟩ ?_ (RelV.ptr.2 ⟨b,1,hσ,rfl⟩) hx2
 obtain⟨j,z,hj1,hj2,_⟩:=(hT u re hu).info
 have hrun:=Lib.run_from_unsafe (P:=P) w ⟨b,0,none⟩ hs hd hj1 hsh hl
 simp only[execOp,ho,hv',aQ,Sem.run_bind,hrun,Result.andThen_ok,Sem.run_pure]
theorem vp (hT:an P T) {t t' e:Nat} {x y:Operand} {re:TyR} {r:Nat} (hud:P.underlying t=some (.pointer e)) (hj:lk T e=some re) (hx:au env x=some (.ptr r [])) (hy:au env y=some (.ptr r [])) :
  aq P (.binOp .neq t x y t') env h n (some (.bool false)) []:=.of_comes fun C G st σ w a o ho hA hdst hst hn=>by
 obtain⟨b,c,hσ,hv⟩:=RelV.ptr.1 (am hst (hA.ev hx)).1
 obtain⟨b',c',hσ',hv'⟩:=RelV.ptr.1 (am hst (hA.ev hy)).1
 rw[hσ]at hσ'
 cases hσ'
 obtain⟨j,z,hj1,hj2,_⟩:=(hT e re hj).info
 refine .quiet (u :=.bool false) hst hdst ⟨rfl,rfl⟩ ?_ (RelV.sc.2 ⟨rfl,rfl⟩) trivial
 simp only[execOp,ho,hv,hv',Sem.run_bind,eqG,Result.andThen_ok,Lib.run_neq_ptr_same w _ hud hj1,Sem.run_pure]
theorem xJ {t t' e:Nat} {x y:Operand} {r:Nat} {p:List Step} (hud:P.underlying t=some (.pointer e)) (hx:au env x=some (.ptr r p)) (hy:au env y=some (.d (.sc nilp))) :
  aq P (.binOp .eql t x y t') env h n (some (.bool false)) []:=.of_comes fun C G st σ w a o ho hA hdst hst hn=>by
 obtain⟨b,c,hσ,hv⟩:=RelV.ptr.1 (am hst (hA.ev hx)).1
 obtain⟨hy1,_⟩:=RelV.sc.1 (am hst (hA.ev hy)).1
 refine .quiet (u :=.bool false) hst hdst ⟨rfl,rfl⟩ ?_ (RelV.sc.2 ⟨rfl,rfl⟩) trivial
 simp only[execOp,ho,hv,hy1,Sem.run_bind,eqG,Result.andThen_ok,kw hud,Sem.run_pure,Option.isNone]
theorem qh {x:Operand} {at_:Array TypeId} {r len:Nat} (hx:au env x=some (.own r 0 len 1 none)) (hl:0<len) :
  aq P (.call { callee :=.builtin .unsafeSliceData,args := #[x],argTypes:=at_ }) env h n (some (.ptr r [])) []:=.of_comes fun C G st σ w a o ho hA hdst hst hn=>by
 obtain⟨hx1,hx2⟩:=am hst (hA.ev hx)
 rcases RelV.own.1 hx1 with ⟨_,_,h0,_⟩ | ⟨b,c,ad,hσ,hv,h1,h2,h3,h4⟩
 ·omega
 have:=h4 (by omega)
 subst this
 simp only[Option.getD_none,Nat.sub_zero,Nat.zero_mul]at hv
 refine .quiet (u :=.pointer (some ⟨b,0,none⟩)) hst hdst ⟨rfl,rfl⟩ ?_ (RelV.ptr.2 ⟨b,c,hσ,rfl⟩) hx2
 have hrun:=Lib.run_unsafeSliceData_row (P:=P) w at_ o.type ⟨b,0,none⟩ len c (by omega)
 simp[execOp,ho,resolve,invoke,builtin,hv,hrun]
theorem lv {x:Operand} {at_:Array TypeId} (hx:au env x=some (.d (.sc nil_))) :
  aq P (.call { callee :=.builtin .unsafeSliceData,args := #[x],argTypes:=at_ }) env h n (some (.d (.sc nilp))) []:=.of_comes fun C G st σ w a o ho hA hdst hst hn=>by
 obtain⟨hv,_⟩:=RelV.sc.1 (am hst (hA.ev hx)).1
 refine .quiet (u:=nilp) hst hdst ⟨rfl,rfl⟩ ?_ (RelV.sc.2 ⟨rfl,rfl⟩) trivial
 have hrun:(Builtin.unsafeSliceData_ at_ o.type #[nil_]).run P w=.ok nilp w:=Lib.run_unsafeSliceData_nil (P:=P) w at_ o.type 0 0
 simp[execOp,ho,resolve,invoke,builtin,hv,hrun]
theorem oG {x y:Operand} {tp ti:TypeId} (hx:au env x=some (.d (.sc nilp))) (hy:au env y=some (.int .i64 0)) :
  aq P (.call { callee :=.builtin .unsafeString,args := #[x,y],argTypes := #[tp,ti] }) env h n (some (.d (strD []))) []:=.of_comes fun C G st σ w a o ho hA hdst hst hn=>by
 obtain⟨hv,_⟩:=RelV.sc.1 (am hst (hA.ev hx)).1
 obtain⟨hv2,_⟩:=RelV.sc.1 (am hst (hA.ev hy)).1
 refine .quiet (u :=.string (mkS [])) hst hdst ⟨rfl,rfl⟩ ?_ (RelV.sc.2 ⟨rfl,rfl⟩) trivial
 have hrun:=Lib.run_unsafeString_none (P:=P) w tp ti o.type none
 simp[execOp,ho,resolve,invoke,builtin,hv,hv2,hrun]
 rfl
theorem qd {x y:Operand} {tp ti e r:Nat} {ex:Bool} {l:List UInt8} {m:Nat} (hp:P.underlying tp=some (.pointer e)) (hc:P.cellsOf e=1) (hx:au env x=some (.ptr r [])) (hrow:bc h r=some (.ds e 1 ex bp (byI l))) (hy:au env y=some (.int .i64 m)) (hm:l.length=m) (h0:l≠[]) (h63:l.length≤9223372036854775807) :
  aq P (.call { callee :=.builtin .unsafeString,args := #[x,y],argTypes := #[tp,ti] }) env h n (some (.d (strD l))) [(r,none)]:=.of_comes fun C G st σ w a o ho hA hdst hst hn=>by
 subst hm
 obtain⟨b,c,hσ,hv⟩:=RelV.ptr.1 (am hst (hA.ev hx)).1
 obtain⟨hv2,_⟩:=RelV.sc.1 (am hst (hA.ev hy)).1
 have hr:=hA.row _ _ hrow
 have hlen:(byI l).length=l.length:=by simp[byI]
 rcases hst.rows r _ hr with ⟨h1,_⟩ | ⟨b',c',cur,hσ',hex,hh,hcs,hle,hcm,f,hf,htk⟩
 ·rw[h1]at hσ; cases hσ
 rw[hσ]at hσ'
 cases hσ'
 have hsh:w.shape? b=some (e,cur.size):=by simp[World.shape?,hh]
 have hcell:∀j x,l[j]?=some x→w.cell? ((⟨b,0,none⟩:Addr).add j)=some (.int .u8 x.toNat):=by
  intro j x hj
  have hjl:=(List.getElem?_eq_some_iff.1 hj).1
  have hj1:j<(byI l).length:=by rw[hlen]; exact hjl
  rw[db,cell_of_row w b _ cur e (0,0) hh,Nat.zero_add,←Array.getElem?_toList]
  have h5:=cY (byI l).length (fun i hi=>(hf i hi).2) j 0 hj1 (by omega)
  rw[←htk,List.getElem?_take,if_pos (by omega)]at h5
  simp only[Nat.mul_one,Nat.add_zero]at h5
  rw[h5]
  have h6:=(hf j hj1).1
  have h7:(byI l)[j]=(x.toNat:Int):=by
   have:=List.getElem?_eq_getElem hj1
   simp only[byI,List.getElem?_map,hj,Option.map_some,Option.some.injEq]at this
   exact this.symm
  rw[h7]at h6
  have h8:f j=[.int .u8 x.toNat]:=h6.1
  rw[h8]
  rfl
 have hrun:=Lib.run_unsafeString_row (P:=P) w tp ti o.type e hp hc b cur.size hsh l h0 (by rw[hcs,Nat.mul_one,←hlen]; exact hle) h63 hcell
 refine⟨_,_,.value (.string (mkS l)),_,_,σ,G,⟨rfl,rfl⟩,?_,.inl rfl,by rw[St.put_upd]; exact (hst.lose (m:=l.length) hr hσ hh).set hdst (u :=.string (mkS l)) (RelV.sc.2 ⟨rfl,rfl⟩) trivial,fun _ h=>h,fun _ h=>.inl h⟩
 simp only[aQ]at hv
 simp[execOp,ho,resolve,invoke,builtin,hv,hv2,hrun,mkS]
/-! ### Frozen memory, sliced -/
def cutV (v:Value) (lo hi s:Nat):Value:=match v with
 | .slice a _ c=>.slice (if c=lo then a else a.map (·.add (lo*s))) (hi-lo) (c-lo)
 | v=>v
end
def dsAV:List D→AV
 | []=>.anil
 | d::l=>.acons (.d d) (dsAV l)
theorem hO {σ:Place} {w:World} {X:Nat→Prop} {α:Type} {enc:α→D}:∀(xs:List α) (cs:List Value),Rel σ w X (dsAV (xs.map enc)) false cs→∃f:Nat→List Value,(∀i (h:i<xs.length),Enc w X (enc xs[i]) (f i))∧cs=cat f xs.length
 | [],cs,h=>⟨fun _=>[],fun i hi=>absurd hi (Nat.not_lt_zero _),h⟩
 | x::xs,cs,h=>by
  obtain⟨c1,c2,rfl,h1,h2⟩:=h
  obtain⟨f,hf,rfl⟩:=hO xs c2 h2
  refine⟨fun i=>if i=0 then c1 else f (i-1),fun i hi=>?_,?_⟩
  ·cases i with
   | zero=>exact h1
   | succ i=>simpa using hf i (by simpa using hi)
  ·rw[List.length_cons,Nat.add_comm xs.length 1,eu 1]
   simp only[cat,List.nil_append,if_true]
   congr 1
   exact cN _ fun i hi=>by simp[Nat.add_comm 1 i]
section
variable {r : Nat} {row : Row}
theorem Frz.litsN {t s m:Nat} {ex:Bool} {α:Type} {enc:α→D} (xs:List α) {cap:Option Nat} (hm:xs.length=m) (hs:∀x∈xs,(enc x).size=s):Frz r (.lits t s m ex (dsAV (xs.map enc))) (.own r 0 m s cap) (.d (.arr s enc xs)):=by
 subst hm
 refine⟨rfl,fun _=>rfl,fun _ _=>trivial,fun σ w X X' hx hn hr cs h=>?_⟩
 rcases h with ⟨h0,_,hl,_,rfl⟩ | ⟨b,c,ad,hb,rfl,hle1,hle2,hle3,had⟩
 ·exact .inl ⟨List.eq_nil_of_length_eq_zero hl,rfl⟩
 ·rcases hr with ⟨_,⟨h0,h1⟩ | ⟨b',c',cur,cs',hb',_,hh,hsz,hlen,hmax,hcl,hrel,htake⟩⟩
  ·rw[hb]at h0; cases h0
  ·rw[hb]at hb'
   cases hb'
   obtain⟨f,hf,rfl⟩:=hO xs _ hrel
   have hfl:∀i,i<xs.length→(f i).length=s:=fun i hi=>by rw[←hs _ (List.getElem_mem hi)]; exact Enc.len _ _ (hf i hi)
   refine .inr ⟨ad,cap.getD (c-0),rfl,hle3,by omega,f,fun i hi=>?_⟩
   have hoff:ad=⟨b,0*s,none⟩:=had (by omega)
   subst hoff
   refine⟨Enc.sub hx _ _ (hf i hi),hfl i hi,fun j u hj=>⟨?_,hn b c hb⟩⟩
   rw[db,cell_of_row w b _ cur t (0,0) hh]
   have hjs:j<s:=by rw[←hfl i hi]; exact (List.getElem?_eq_some_iff.1 hj).1
   have hcg:=cY (f:=f) (s:=s) xs.length hfl i j hi hjs
   have hlt2:i*s+j<xs.length*s:=by
    have:(i+1)*s≤xs.length*s:=Nat.mul_le_mul_right s hi
    rw[Nat.add_mul]at this; omega
   rw[←htake,hj,List.getElem?_take,if_pos hlt2]at hcg
   rw[←Array.getElem?_toList,Nat.zero_mul,Nat.zero_add]
   exact hcg
end
section
variable {P : Program} {f : FuncId} {avs : List AV} {h0 : List (Nat × Row)} {res res' : AV} {rows rows' : List (Nat × Row)}
theorem FnIs.freeze_out (r:Nat) (row:Row) (hrow:bc (aS rows) r=some row) (hE:Frz r row res res') (hH:dE r row (aS rows) (aS rows')) (h:FnIs P f avs h0 res rows):FnIs P f avs h0 res' rows':=by
 refine⟨h.1,fun C σ w vs hbs hB hw0 hσ0 hro hst=>(h.2 C σ w vs hbs hB hw0 hσ0 hro hst).mono fun e w' hr=>?_⟩
 obtain⟨v,σ',he,hs⟩:=hr
 refine⟨v,σ',he,hs.freeze (st':=bx res' rows') r row (by rw[←bK]; exact hrow) (fun i v' hv=>?_) (fun q x' hq=>?_) rfl rfl⟩
 ·simp only[bx,aD]at hv ⊢
  split at hv
  ·rename_i e
   cases hv
   exact⟨res,by rw[if_pos e],hE⟩
  ·simp[lk]at hv
 ·rw[←bK]at hq
  obtain⟨h1,x,h2,h3⟩:=dE.out _ hH q x' hq
  exact⟨h1,x,by rw[←bK]; exact h2,h3⟩
end
end Go.Eng
namespace Go.Eng
open Go.RowKit
theorem aE.split2 {t:TypeId} {a b r:D}:aE (.box t (.d (.cons a (.cons b r)))) (.box t (.acons (.d a) (.acons (.d b) (.d r)))):=by
 rintro σ w X q ⟨_,k,cs,h1,h2,c1,c2,h3,h4,c3,c4,h5,h6,h7⟩
 exact⟨rfl,k,cs,h1,h2,c1,c2,h3,h4,c3,c4,h5,h6,h7⟩
end Go.Eng
namespace Go.Eng
open Go.RowKit
section
variable {P : Program} {T : Tab} {env : Env} {h : Upds} {n : Nat}
theorem uv {r s m:Nat} {cap:Option Nat} {te:TypeId} {ex:Bool} {α:Type} {enc:α→D} (ys:List α) {y:Operand} (hy:au env y=some (.own r 0 m s cap)) (hrow:bc h r=some (.lits te s m ex (dsAV (ys.map enc)))) (hm:ys.length=m) (hs:∀x∈ys,(enc x).size=s) (hp:0<m) :
  ∀(C:Ctx) (G:Nat→Prop) (st:St) (σ:Place) (w:World) (a:Act),fa env h st→aG C G st σ w a→nJ s enc ys w (st.X C.X0 σ) (a.eval y):=by
 intro C G st σ w a hA hst
 subst hm
 obtain⟨hy1,_⟩:=am hst (hA.ev hy)
 rcases RelV.own.1 hy1 with ⟨_,_,h0,_⟩ | ⟨b,c,ad,hb,hv,hle,hle2,_,had⟩
 ·omega
 ·rcases hst.rows r _ (hA.row _ _ hrow)with ⟨_,⟨h0,h1⟩ | ⟨b',c',cur,cs',hb',_,hh,hsz,hlen,hmax,hcl,hrel,htake⟩⟩
  ·omega
  ·rw[hb]at hb'
   cases hb'
   have:ad=⟨b,0,none⟩:=by have:=had (by omega); simpa using this
   subst this
   obtain⟨f,hf,rfl⟩:=hO ys _ hrel
   refine⟨⟨b,0,none⟩,_,f,hv,fun i hi=>⟨hf i hi,?_⟩,fun j u hj=>?_⟩
   ·rw[←hs _ (List.getElem_mem hi)]; exact Enc.len _ _ (hf i hi)
   ·have hjl:=(List.getElem?_eq_some_iff.1 hj).1
    rw[db,cell_of_row w b _ cur te (0,0) hh,Nat.zero_add,←Array.getElem?_toList]
    rw[hcl]at hjl
    rw[←htake,List.getElem?_take,if_pos hjl]at hj
    exact hj
theorem pT (hT:an P T) {t e r r2 m:Nat} {re:TyR} {s:Nat} {ex ex2:Bool} {cap2:Option Nat} {α:Type} {enc:α→D} {xs:List α} {x y:Operand} (ys:List α) (ht:aT T t=some (.slice e)) (he:lk T e=some re) (hs:Nat.beq re.size s=true) (hs0:Nat.blt 0 s=true)
  (hx:au env x=some (.own r 0 xs.length s none)) (hrow:bc h r=some (.ds e s ex enc xs)) (hy:au env y=some (.own r2 0 m s cap2)) (hrow2:bc h r2=some (.lits e s m ex2 (dsAV (ys.map enc)))) (hm:ys.length=m) (hsz:∀x∈ys,(enc x).size=s) (hp:0<m)
  (hlen:xs.length+ys.length≤1048576) (hbytes:Nat.ble re.bytes 134217728=true) :
  aq P (.call { callee :=.builtin .append,args := #[x,y],argTypes := #[t,t] }) env h n (some (.own n 0 (xs.length+ys.length) s none)) [(n,some (.ds e s false enc (xs++ys))),(r,none)]:=by
 have hs0:=Nat.le_of_ble_eq_true hs0
 have hb:=Nat.le_of_ble_eq_true hbytes
 refine ia hT (ty:=0) (ex:=ex) ht he (Nat.eq_of_beq_eq_true hs) hs0 hx hrow hy (by omega) (by simp only[maxLen]; omega) ?_ (uv ys hy hrow2 hm hsz hp)
 calc (xs.length+ys.length)*re.bytes≤1048576*134217728:=Nat.mul_le_mul hlen hb
  _≤140737488355328:=by decide
end
end Go.Eng
namespace Go.Eng
open Go.RowKit
section
variable {P : Program} {T : Tab} {n : Nat} {env : Env} {h : Upds}
end
def FrzT (r:Nat) (row:Row) (a a':AV):Prop :=
 (∀G:Nat→Prop,a.within G→a'.within G) ∧
  ∀(σ:Place) (w:World) (X X':Nat→Prop),(∀b,X' b→X b)→(∀b c,σ r=some (b,c)→¬X' b)→bd σ w X r row→∀cs,Rel σ w X a true cs→Rel σ w X' a' true cs
theorem FrzT.nil {r:Nat} {row:Row}:FrzT r row .anil .anil:=⟨fun _ h=>h,fun _ _ _ _ _ _ _ _ h=>h⟩
theorem FrzT.cons {r:Nat} {row:Row} {a b x y:AV} (h1:Frz r row a x) (h2:FrzT r row b y):FrzT r row (.acons a b) (.acons x y):=by
 refine⟨fun G g=>⟨h1.2.2.1 G g.1,h2.1 G g.2⟩,fun σ w X X' hx hn hr cs h=>?_⟩
 obtain⟨v,us,rfl,g1,g2⟩:=h
 refine⟨v,us,rfl,?_,h2.2 σ w X X' hx hn hr _ g2⟩
 split at g1 <;> rename_i hag
 ·obtain⟨c,rfl,hc⟩:=g1
  rw[if_pos (by rw[h1.1]; exact hag)]
  exact⟨c,rfl,h1.2.2.2 σ w X X' hx hn hr _ hc⟩
 ·rw[if_neg (by rw[h1.1]; exact hag)]
  exact h1.2.2.2 σ w X X' hx hn hr _ g1
theorem Frz.tup {r:Nat} {row:Row} {q q':AV} (h:FrzT r row q q'):Frz r row (.tup q) (.tup q'):=by
 refine⟨rfl,fun e=>(by cases e),fun G g=>h.1 G g,fun σ w X X' hx hn hr cs hh=>?_⟩
 obtain⟨vs,rfl,h1⟩:=hh
 exact⟨vs,rfl,h.2 σ w X X' hx hn hr _ h1⟩
end Go.Eng
namespace Go.Eng
open Go.RowKit
section
variable {P : Program} {T : Tab} {n : Nat} {env : Env} {h : Upds}
end
end Go.Eng
namespace Go.Eng
open Go.RowKit
theorem mU:∀(l:List UInt8) (acc:ByteArray),(l.map fun b=>(b.toNat:Int)).foldl (fun r n=>r.push (UInt8.ofNat n.toNat)) acc=⟨acc.data++l.toArray⟩
 | [],acc=>by simp
 | b::l,acc=>by
  rw[List.map_cons,List.foldl_cons,mU l]
  have:UInt8.ofNat ((b.toNat:Int)).toNat=b:=by simp
  rw[this]
  apply ByteArray.ext
  apply Array.ext'
  simp[ByteArray.push]
theorem eF (l:List UInt8):fg (byI l)=mkS l:=by
 rw[fg,byI,mU l]
 apply ByteArray.ext
 simp[mkS]
section
variable {P : Program} {T : Tab} {n : Nat} {env : Env} {h : Upds}
theorem gM (hT:an P T) {t e r r2 m L:Nat} {re:TyR} {s:Nat} {ex ex2:Bool} {cap2:Option Nat} {α:Type} {enc:α→D} {xs:List α} {x y:Operand} (ys:List α) (ht:aT T t=some (.slice e)) (he:lk T e=some re) (hs:Nat.beq re.size s=true) (hs0:Nat.blt 0 s=true)
  (hx:au env x=some (.own r 0 L s none)) (hL:L=xs.length) (hrow:bc h r=some (.ds e s ex enc xs)) (hy:au env y=some (.own r2 0 m s cap2)) (hrow2:bc h r2=some (.lits e s m ex2 (dsAV (ys.map enc)))) (hm:ys.length=m) (hsz:∀x∈ys,(enc x).size=s) (hp:0<m)
  (hlen:xs.length+ys.length≤1048576) (hbytes:Nat.ble re.bytes 134217728=true) :
  aq P (.call { callee :=.builtin .append,args := #[x,y],argTypes := #[t,t] }) env h n (some (.own n 0 (xs.length+ys.length) s none)) [(n,some (.ds e s false enc (xs++ys))),(r,none)]:=by
 subst hL
 exact pT hT ys ht he hs hs0 hx hrow hy hrow2 hm hsz hp hlen hbytes
end
end Go.Eng
namespace Go.Eng
open Go.RowKit
def cZ (σ:Place) (w:World) (X:Nat→Prop):List AV→List Value→Prop
 | [],vs=>vs=[]
 | a::bs9,vs=>∃v us,vs=v::us∧RelV σ w X a v∧cZ σ w X bs9 us
theorem cZ.of_env {σ:Place} {w:World} {X:Nat→Prop}:∀(avs:List AV) (vs:List Value),vs.length=avs.length →
  (∀(i:Nat) (v:AV),avs[i]?=some v→∃u,vs[i]?=some u∧RelV σ w X v u)→cZ σ w X avs vs
 | [],vs,hl,_=>List.eq_nil_of_length_eq_zero hl
 | a::bs9,[],hl,_=>by simp at hl
 | a::bs9,v::vs,hl,h=>by
  obtain⟨u,hu,hr⟩:=h 0 a rfl
  simp only[List.getElem?_cons_zero,Option.some.injEq]at hu
  subst hu
  exact⟨v,vs,rfl,hr,cZ.of_env bs9 vs (by simpa using hl) fun i x hi=>by simpa using h (i+1) x (by simpa using hi)⟩
def iP (w:World):Prop:=∀x∈ng,x.2 (w.heap[x.1]?)∧x.1<w.heap.size
theorem pR:∀(avs:List AV) (k i:Nat) (v:AV),avs[i]?=some v→lk (cM k avs) (k+i)=some v
 | [],k,i,v,h=>by simp at h
 | a::bs9,k,0,v,h=>by
  simp only[List.getElem?_cons_zero,Option.some.injEq]at h
  subst h
  simp only[cM,aD,Nat.add_zero,if_pos]
 | a::bs9,k,i+1,v,h=>by
  simp only[cM,aD]
  rw[if_neg (by omega),show k+(i+1)=(k+1)+i by omega]
  exact pR bs9 (k+1) i v (by simpa using h)
variable {P : Program}
theorem FnIs.of_calls {f : FuncId} {avs : List AV} {d : AV} (hd : ∀ G : Nat → Prop, d.within G) (hfn : ∃ fn, P.funcs[f]? = some fn ∧ (fn.name == "runtime.NumGoroutine") = false ∧ fn.body.isNone = false)
    (h:∀(σ:Place) (w:World) (X:Nat→Prop) (vs:List Value),(∀b,X b→b<w.heap.size)→cZ σ w X avs vs→iP w →
      Calls P f vs.toArray w fun e w'=>∃v,e=.returned v∧Below w.heap.size w w'∧RelV σ w' X d v):FnIs P f avs [] d []:=by
  refine⟨hfn,fun C σ w vs hbs hB hw hσ hro hst=>?_⟩
  have hX:∀b,(inSt avs []).X C.X0 σ b↔C.X0 b:=fun b=>by
    constructor
    · rintro (hx | ⟨r,row,c,h5,_⟩)
      · exact hx
      · simp[inSt,aS,St.row,lk]at h5
    · exact .inl
  have hX2:∀(σ':Place) b,(bx d []).X C.X0 σ' b↔C.X0 b:=fun σ' b=>by
    constructor
    · rintro (hx | ⟨r,row,c,h5,_⟩)
      · exact hx
      · simp[bx,aS,St.row,lk]at h5
    · exact .inl
  have hlen:vs.length=avs.length:=by have:=hst.sz; simpa[inSt]using this
  have hargs:cZ σ w C.X0 avs vs:=cZ.of_env avs vs hlen fun i v hi=>by
    have:=pR avs 0 i v hi
    rw[Nat.zero_add]at this
    obtain⟨u,h1,h2⟩:=hst.env i v this
    refine⟨u,by simpa using h1,?_⟩
    rwa [show (inSt avs []).X C.X0 σ=C.X0 from funext fun b=>propext (hX b)]at h2
  have hg:iP w:=fun x hx=>by
    obtain⟨g1,g2,_⟩:=hst.glob x hx
    rw[hw]at g1
    exact⟨g1,by omega⟩
  refine (h σ w C.X0 vs (fun b hb=>by have:=(hst.x0 b hb).1; omega) hargs hg).mono ?_
  rintro e w' ⟨v,rfl,hb,hr⟩
  refine⟨v,σ,rfl,?_⟩
  have hbm:cX C.B C.M C.w0 w':=by
    rw[hB,hw]
    refine Below.toM hb fun k o ho _=>?_
    have hk:k<w.heap.size:=(Array.getElem?_eq_some_iff.1 ho).1
    exact (hb.block k hk).trans ho
  exact
    { env:=fun i x hi=>by
        by_cases e:i=0
        · subst e
          simp only[bx,aD,if_pos,Option.some.injEq]at hi
          subst hi
          refine⟨v,rfl,?_⟩
          rw[show (bx d []).X C.X0 σ=C.X0 from funext fun b=>propext (hX2 σ b)]
          exact hr
        · simp only[bx,aD,if_neg (Ne.symm e),lk]at hi
          cases hi
      envG:=fun i x hi=>by
        by_cases e:i=0
        · subst e
          simp only[bx,aD,if_pos,Option.some.injEq]at hi
          subst hi
          exact hd _
        · simp only[bx,aD,if_neg (Ne.symm e),lk]at hi
          cases hi
      rows:=fun r row hr=>by simp[bx,aS,St.row,lk]at hr
      rowsG:=fun r row hr=>by simp[bx,aS,St.row,lk]at hr
      inj:=fun r r' row row' b c c' hr=>by simp[bx,aS,St.row,lk]at hr
      high:=fun r row b c hr=>by simp[bx,aS,St.row,lk]at hr
      size:=by rw[hB]; exact hb.size
      below:=hbm
      defers:=trivial
      sz:=rfl
      x0:=hst.x0
      agree:=fun r _=>by rw[hσ]
      baseG:=fun r hr=>by rw[hbs]at hr; show r<72; omega
      bs:=by rw[hbs]; rfl
      rok:=fun l hl=>by rw[hro]at hl; cases hl
      glob:=hst.glob }
theorem cZ.one {σ:Place} {w:World} {X:Nat→Prop} {v:Value} {vs:List Value} (h:cZ σ w X [.d (.sc v)] vs):vs=[v]:=by
 obtain⟨u,us,rfl,h1,h2⟩:=h
 obtain⟨rfl,_⟩:=RelV.sc.1 h1
 rw[show us=[] from h2]
theorem cZ.two {σ:Place} {w:World} {X:Nat→Prop} {v v2:Value} {vs:List Value} (h:cZ σ w X [.d (.sc v),.d (.sc v2)] vs):vs=[v,v2]:=by
 obtain⟨u,us,rfl,h1,h2⟩:=h
 obtain⟨rfl,_⟩:=RelV.sc.1 h1
 rw[cZ.one h2]
theorem cZ.three {σ:Place} {w:World} {X:Nat→Prop} {v v2 v3:Value} {vs:List Value} (h:cZ σ w X [.d (.sc v),.d (.sc v2),.d (.sc v3)] vs):vs=[v,v2,v3]:=by
 obtain⟨u,us,rfl,h1,h2⟩:=h
 obtain⟨rfl,_⟩:=RelV.sc.1 h1
 rw[cZ.two h2]
theorem FnIs.of_calls1 {f : FuncId} {avs : List AV} {r : Value} (h1 : r.oneCell' = true) (hfn : ∃ fn, P.funcs[f]? = some fn ∧ (fn.name == "runtime.NumGoroutine") = false ∧ fn.body.isNone = false)
  (h:∀(σ:Place) (w:World) (X:Nat→Prop) (vs:List Value),cZ σ w X avs vs→iP w→Calls P f vs.toArray w fun e w'=>e=.returned r∧Below w.heap.size w w'):FnIs P f avs [] (.d (.sc r)) []:=
 .of_calls (fun _=>trivial) hfn fun σ w X vs _ ha hg=>(h σ w X vs ha hg).mono fun _ _ ⟨he,hb⟩=>⟨r,he,hb,RelV.sc.2 ⟨rfl,h1⟩⟩
end Go.Eng
namespace Go.Proofs.YtpmhnpnmpjimnaaGreatDoor
open Go.ChangeShapes Go.WideShapes Go.ChangeAt Go.RowKit Go.Eng
theorem own:ownKnob Tryz.prog.godebug=none:=by kernel_rfl
theorem k9:laidOutB Tryz.prog=true:=by kernel_rfl
theorem gPow : Tryz.prog.globalNamed "internal/strconv.uint64pow10" = some 0 := by kernel_rfl
theorem gSyn : Tryz.prog.globalNamed "strconv.ErrSyntax" = some 6 := by kernel_rfl
theorem gRan : Tryz.prog.globalNamed "strconv.ErrRange" = some 7 := by kernel_rfl
theorem tPow:(Tryz.prog.globals[0]?).map (·.type)=some 164:=by kernel_rfl
theorem tSyn:(Tryz.prog.globals[6]?).map (·.type)=some 100:=by kernel_rfl
theorem tRan:(Tryz.prog.globals[7]?).map (·.type)=some 100:=by kernel_rfl
theorem gK {P:Program} {w:World} {n:String} {g:Nat} {cs:Array Value} (hg:P.globalNamed n=some g) (h:w.var? P n=some cs):∃t fr,w.heap[g]?=some (.cells cs t fr):=by
 unfold World.var? at h
 rw[hg]at h
 simp only[Option.bind_some]at h
 split at h
 ·rename_i t fr hh
  cases h
  exact⟨_,_,hh⟩
 ·cases h
theorem vR {W:World} (hL:laidMetH Tryz.prog Rows.scriptsCutRow.laid W) (hsh:W.ShapedOpen Tryz.prog):∀x∈ng,x.2 (W.heap[x.1]?)∧x.1<W.heap.size:=by
 rw[MakeChecks.laidMetH_plain _ _ _ (by kernel_rfl)]at hL
 obtain⟨ps,⟨_,_,_,_,_,_,_,_,_,_,⟨_,_,_,_,_,_,_,_,_,_,⟨g3,t3,cs3,f3,p3,q3,hg3,ht3,hv3,hd3,⟨_,_,_,_,_,_,_,_,_,_,⟨g2,t2,cs2,f2,p2,q2,hg2,ht2,hv2,hd2,⟨g1,t1,cs1,f1,p1,q1,hg1,ht1,hv1,hd1,_,_⟩,_⟩,_⟩,_⟩,_⟩,_⟩,_,_⟩:=hL
 obtain rfl:=Option.some.inj (gPow.symm.trans hg3)
 obtain rfl:=Option.some.inj (gRan.symm.trans hg2)
 obtain rfl:=Option.some.inj (gSyn.symm.trans hg1)
 obtain rfl:=Option.some.inj (tPow.symm.trans ht3)
 obtain rfl:=Option.some.inj (tRan.symm.trans ht2)
 obtain rfl:=Option.some.inj (tSyn.symm.trans ht1)
 obtain⟨_,u2,v2,hc2,_,_⟩:=iface_of_trod Tryz.underlying100 hd2
 obtain⟨_,u1,v1,hc1,_,_⟩:=iface_of_trod Tryz.underlying100 hd1
 have hc3:cs3.toList=Lib.pow10Tab.map fun z=>Value.int .u64 z:=Lib.cells_of_tab (zs:=Lib.pow10Tab) Tryz.underlying164 Tryz.underlying30 (by kernel_rfl) (by kernel_rfl) hd3
 obtain⟨a3,b3,hb3⟩:=gK gPow hv3
 obtain⟨a2,b2,hb2⟩:=gK gRan hv2
 obtain⟨a1,b1,hb1⟩:=gK gSyn hv1
 obtain⟨cs0,hh0,hs0,hr0⟩:=hsh.1 1 #[.int .i64 0] 3 (of_decide_eq_true (by kernel_rfl)) (by kernel_rfl)
 obtain⟨m,hm⟩:=cell_of_shapedOpen_int (g:=1) (zero := #[.int .i64 0]) (t:=3) hsh (of_decide_eq_true (by kernel_rfl)) (by kernel_rfl) rfl (by kernel_rfl) (by kernel_rfl) Tryz.underlying3
 have he0:∃fr,W.heap[1]?=some (.cells #[.int .i64 m] 3 fr):=by
  have h1:cs0[0]?=some (.int .i64 m):=by
   have:=hm
   simp only[World.cell?,hh0]at this
   exact this
  have h2:cs0 = #[.int .i64 m]:=by
   apply Array.ext'
   obtain⟨l⟩:=cs0
   have hl:l.length=1:=by simpa using hs0
   match l,hl,h1 with
   | [x],_,h1=>simpa using h1
  exact⟨_,by rw[hh0,h2]⟩
 obtain⟨fr0,he0⟩:=he0
 have e1:cs1 = #[.iface u1 v1]:=Array.ext' hc1
 have e2:cs2 = #[.iface u2 v2]:=Array.ext' hc2
 have e3:cs3=(Lib.pow10Tab.map fun z=>Value.int .u64 z).toArray:=Array.ext' (by simpa using hc3)
 intro x hx
 simp only[ng,List.mem_cons,List.not_mem_nil,or_false]at hx
 rcases hx with rfl | rfl | rfl | rfl
 ·exact⟨⟨m,3,fr0,he0⟩,(Array.getElem?_eq_some_iff.1 he0).1⟩
 ·refine⟨⟨.iface u1 v1,a1,b1,?_,.inr ⟨u1,v1,rfl⟩⟩,(Array.getElem?_eq_some_iff.1 hb1).1⟩
  rw[hb1,e1]
 ·refine⟨⟨.iface u2 v2,a2,b2,?_,.inr ⟨u2,v2,rfl⟩⟩,(Array.getElem?_eq_some_iff.1 hb2).1⟩
  rw[hb2,e2]
 ·refine⟨⟨a3,b3,?_⟩,(Array.getElem?_eq_some_iff.1 hb3).1⟩
  rw[hb3,e3]
theorem tJ {H:Type} {enc:TypeId×Value→H} {a:Assume} {C:Checked} {os:Os} {f:FuncId} {fn:Func} {s:ChangeSpec} {conds:List PathCond} {apart fresh handsOn again:Bool} {X:World→Array Value→Prop}
  (hX:∀(w w':World) (args:Array Value),w.heap=w'.heap→X w args→X w' args)
  (own:ownKnob C.prog.godebug=none) (started:os.Started) (noInit:C.prog.inits.idxOf? f=none) (hfn:C.prog.funcs[f]?=some fn)
  (witness:∃(w:World) (tape:Tape) (i:Input),w.os=os∧(w.forCall tape i).Shaped C.prog∧i.vars=[]∧Input.okWide C.prog (w.forCall tape i) .any w.heap.size f i ∧
   ((s.pre enc C.prog fn conds apart (w.forCall tape i).memory i.args∧X (w.forCall tape i).memory i.args)∧sizedMet enc C.prog fn (OpenSpec.ofChange s) apart (w.forCall tape i).memory i.args)∧a.holds C.prog (lone (Frame.enter C.prog f i.args .normal) [] (w.forCall tape i)))
  (contract:∀(W:World) (base:Nat) (args:Array Value) (ds gs:List (DataW H)) (before:List MemPlace),
   (∀(j:Nat) t v,fn.params[j]?=some t→args[j]?=some v→Value.okWide C.prog W .any base t v) →
   DataW.Whole enc C.prog fn.params.toList s.vars apart W args.toList ds gs before →
   X W args→W.ShapedOpen C.prog →
   Calls C.prog f args W fun e W'=>∃v,e=.returned v∧s.post enc C.prog fn apart fresh handsOn again W args v W') :
  ReturnsInHanded a C os f .any (fun w args=>(s.pre enc C.prog fn conds apart w args∧X w args)∧sizedMet enc C.prog fn (OpenSpec.ofChange s) apart w args) (s.post enc C.prog fn apart fresh handsOn again):=by
 refine returnsInHanded_of_calls own started noInit witness ?_
 intro w tape i _ hsh _ hok hpre _
 obtain⟨_,_,_,fn',hfn',_,_,_,_,hval⟩:=hok
 have e:fn'=fn:=Option.some.inj (hfn'.symm.trans hfn)
 subst e
 obtain⟨⟨⟨ds,gs,before,hw,hc⟩,hx⟩,hz⟩:=hpre
 have hw':=DataW.Whole.of_heap (w':=w.forCall tape i) (by rfl) hw
 refine (contract (w.forCall tape i) w.heap.size i.args ds gs before hval hw' (hX _ _ _ (by rfl) hx) hsh).mono fun e W' ⟨v,he,hp⟩=>?_
 subst he
 exact ChangeSpec.post_blind hp
end Go.Proofs.YtpmhnpnmpjimnaaGreatDoor
namespace Go.Proofs.YtpmhnpnmpjimnaaGreatDoor
open Go
theorem and2 {a b:Bool} (h:a=true) (k:b=true):(a&&b)=true:=by rw[h,k]; rfl
theorem xf:mapsRowed Tryz.prog=true:=by kernel_rfl
theorem xh:(Rows.scriptsCutRow.plainKeys==Tryz.prog.plainKeys)=true:=by kernel_rfl
theorem uS:Tryz.prog.stopsHeard=true:=by kernel_rfl
theorem uT:Tryz.prog.mayEnter=true:=by kernel_rfl
theorem uR:(Rows.scriptsCutRow.lifted==Tryz.prog.liftsFinal)=true:=by kernel_rfl
theorem xg:(Tryz.prog.make==some Rows.scriptsCutRow.make)=true:=by kernel_rfl
end Go.Proofs.YtpmhnpnmpjimnaaGreatDoor
namespace Go.Eng
open Go.RowKit
section
variable {P : Program} {T : Tab} {env : Env} {h : Upds} {n : Nat}
theorem sj {κ:Type} [DecidableEq κ] {σ:Place} {w w1:World} {X:Nat→Prop} {f:κ→Value} {kt m:Nat} {ds:TypeDesc} (hm:m≤10000) (hu:P.underlying kt=some ds) (he:∀a b,EqOk P m kt (.sc (f a)) (.sc (f b)) (decide (a=b)))
  (hs:∀a b,Instr.sameNow ds (f a) (f b)=some (decide (a=b))) {k:κ} {u:Value} (hk:RelV σ w X (.d (.sc (f k))) u) :
  ∀(l:List (κ×AV)) (es:List MapEntry) (i:Nat),cW σ w X (fun k=>.sc (f k)) l es→∃r,Instr.findNow ds u es i=some r∧(Instr.findAsking kt u es i).run P w1=.ok r w1
 | [],es,i,h=>by
  rw[show es=[] from h]
  exact⟨none,rfl,by simp[Instr.findAsking]⟩
 | (k',v)::l,es,i,h=>by
  obtain⟨e,es',rfl,h1,h2,h3⟩:=h
  have e1:=(RelV.sc.1 hk).1
  have e2:=(RelV.sc.1 h1).1
  have heq:=he k k' σ w1 X u e.key (10000-m) (RelV.sc.2 (RelV.sc.1 hk)) (RelV.sc.2 (RelV.sc.1 h1))
  rw[show 10000-m+m=10000 by omega]at heq
  have hsn:Instr.sameNow ds u e.key=some (decide (k=k')):=by rw[e1,e2]; exact hs k k'
  by_cases hkk:k=k'
  ·rw[decide_eq_true hkk]at heq hsn
   exact⟨some (i,e.val),by simp only[Instr.findNow,hsn],by simp[Instr.findAsking,Op.equal,Op.maxDepth,heq]⟩
  ·rw[decide_eq_false hkk]at heq hsn
   obtain⟨r,g1,g2⟩:=sj hm hu he hs hk l es' (i+1) h3
   exact⟨r,by simp only[Instr.findNow,hsn]; exact g1,by simp only[Instr.findAsking,Op.equal,Op.maxDepth,Sem.run_bind,heq,Result.andThen_ok]; simpa using g2⟩
theorem vK {κ:Type} [DecidableEq κ] {f:κ→Value} {kt m:Nat} {ds:TypeDesc} (hm:m≤10000) (hu:P.underlying kt=some ds) (ho:∀k,wL P m kt (.sc (f k))) (he:∀a b,EqOk P m kt (.sc (f a)) (.sc (f b)) (decide (a=b)))
  (hs:∀a b,Instr.sameNow ds (f a) (f b)=some (decide (a=b))) (hb:∀k n,Instr.sameBits n (f k) (f k)=true):jc P kt (fun k=>.sc (f k)) m :=
 ⟨hm,ho,he,fun σ w w1 X k u l es hk hl=>by
  obtain⟨r,g1,g2⟩:=sj (w1:=w1) hm hu he hs hk l es 0 hl
  simp only[Instr.findKey,Sem.run_bind,run_underlying hu,Result.andThen_ok,g1,Sem.run_pure,g2],fun k=>hb k⟩
theorem od {kt:Nat} (hu:P.underlying kt=some .string):jc P kt (fun l:List UInt8=>strD l) 1:=by
 refine vK (f:=fun l=>.string (mkS l)) (by decide) hu (fun k=>qP hu) (fun a b=>?_) (fun a b=>?_) (fun k n=>by
  have:(mkS k==mkS k)=true:=by rw[rr]; exact decide_eq_true rfl
  cases n <;> simpa[Instr.sameBits]using this)
 ·have:=tP (P:=P) (a:=mkS a) (b:=mkS b) hu
  rwa [gB]at this
 ·show some ((mkS a==mkS b))=_
  rw[←gB,rr]
theorem cS {t kt et:TypeId} {κ:Type} [DecidableEq κ] {enc:κ→D} {m r j:Nat} {x y:Operand} {k:κ} {l:List (κ×AV)} {v:AV} (K:jc P kt enc m) (ht:P.underlying t=some (.map kt et))
  (hx:au env x=some (.mapr r)) (hy:au env y=some (.d (enc k))) (hr:bc h r=some (.mo (mapC enc l))) (hf:di k l 0=some (j,v)) :
  aq P (.lookup t x y true) env h n (some (.tup (.acons v (.acons (.bool true) .anil)))) []:=.of_comes fun C G st σ w a o ho hA hd hst hn=>by
 have h1:=(am hst (hA.ev hx)).1
 have h2:=(am hst (hA.ev hy)).1
 have hrow:=hA.row _ _ hr
 obtain⟨b,c,hs,hux⟩:=RelV.mapr.1 h1
 obtain⟨b',es,hb1,hb2,hb3,hb4⟩:=hst.rows r _ hrow
 rw[hs]at hb2
 cases hb2
 have hl:=(eX l _).1 hb4
 have hfd:=K.found h2 hl
 rw[hf]at hfd
 obtain⟨e,e1,e2,e3,e4,e5⟩:=hfd
 refine .quiet (u :=.tuple #[e.val,.bool true]) hst hd ⟨rfl,rfl⟩ ?_ ?_ ?_
 ·have hget:(getObj b).run P w=.ok (.map es es.size) w:=by simp[getObj,Sem.run,hb3]
  simp only[execOp,ho,Instr.lookup,Sem.run_bind,run_underlying ht,Result.andThen_ok,hux,hget,Sem.run_pure,K.check h2,e1]
  rfl
 ·unfold RelV
  rw[if_neg (by simp[AV.isAgg])]
  exact⟨[e.val,.bool true],rfl,e.val,[.bool true],rfl,e4,.bool true,[],rfl,RelV.sc.2 ⟨rfl,rfl⟩,rfl⟩
 ·exact⟨(fP l).1 (hst.rowsG r _ hrow).2 (k,v) (List.mem_of_getElem? e5),trivial,trivial⟩
theorem gD {t kt et:TypeId} {κ:Type} [DecidableEq κ] {enc:κ→D} {m r:Nat} {x y:Operand} {k:κ} {l:List (κ×AV)} {d:D} (K:jc P kt enc m) (ht:P.underlying t=some (.map kt et)) (hz:kk P et d)
  (hx:au env x=some (.mapr r)) (hy:au env y=some (.d (enc k))) (hr:bc h r=some (.mo (mapC enc l))) (hf:di k l 0=none) :
  aq P (.lookup t x y true) env h n (some (.tup (.acons (.d d) (.acons (.bool false) .anil)))) []:=.of_comes fun C G st σ w a o ho hA hd hst hn=>by
 have h1:=(am hst (hA.ev hx)).1
 have h2:=(am hst (hA.ev hy)).1
 have hrow:=hA.row _ _ hr
 obtain⟨b,c,hs,hux⟩:=RelV.mapr.1 h1
 obtain⟨b',es,hb1,hb2,hb3,hb4⟩:=hst.rows r _ hrow
 rw[hs]at hb2
 cases hb2
 have hl:=(eX l _).1 hb4
 have hfd:=K.found h2 hl
 rw[hf]at hfd
 obtain⟨z,hz,hzr⟩:=hz.run
 refine .quiet (u :=.tuple #[z,.bool false]) hst hd ⟨rfl,rfl⟩ ?_ ?_ ⟨trivial,trivial,trivial⟩
 ·have hget:(getObj b).run P w=.ok (.map es es.size) w:=by simp[getObj,Sem.run,hb3]
  simp only[execOp,ho,Instr.lookup,Sem.run_bind,run_underlying ht,Result.andThen_ok,hux,hget,Sem.run_pure,K.check h2,hfd,hz]
  rfl
 ·unfold RelV
  rw[if_neg (by simp[AV.isAgg])]
  exact⟨[z,.bool false],rfl,z,[.bool false],rfl,hzr _ _ _,.bool false,[],rfl,RelV.sc.2 ⟨rfl,rfl⟩,rfl⟩
end
end Go.Eng
namespace Go.Eng
open Go.RowKit Go.Lib
theorem wr (l:List Int):cat (fun i=>[Value.int .u8 (l.getD i 0)]) l.length=l.map fun v=>Value.int .u8 v:=by
 have key:∀n,n≤l.length→cat (fun i=>[Value.int .u8 (l.getD i 0)]) n=(l.take n).map fun v=>Value.int .u8 v:=by
  intro n
  induction n with
  | zero=>intro _; rfl
  | succ n ih =>
   intro hn
   have hlt:n<l.length:=by omega
   have e:l.take (n+1)=l.take n++[l[n]]:=by rw[List.take_add_one,List.getElem?_eq_getElem hlt]; rfl
   have e2:l.getD n 0=l[n]:=by rw[List.getD_eq_getElem?_getD,List.getElem?_eq_getElem hlt]; rfl
   rw[cat,ih (by omega),e,List.map_append,e2]
   rfl
 rw[key _ (Nat.le_refl _),List.take_length]
section
variable {P : Program} {T : Tab} {env : Env} {h : Upds} {n : Nat}
theorem gQ (hT:an P T) {t t2 e r:Nat} {re:TyR} {ex:Bool} {xs:List Int} {l:List UInt8} {x y:Operand} (ht:aT T t=some (.slice e)) (ht2:P.underlying t2=some .string) (he:lk T e=some re) (hs:re.size=1)
  (hx:au env x=some (.own r 0 xs.length 1 none)) (hrow:bc h r=some (.ds e 1 ex bp xs)) (hy:au env y=some (.d (strD l))) (hys:0<(byI l).length) (hlen:xs.length+(byI l).length≤maxLen) (hbytes:(xs.length+(byI l).length)*re.bytes≤140737488355328) :
  aq P (.call { callee :=.builtin .append,args := #[x,y],argTypes := #[t,t2] }) env h n (some (.own n 0 (xs.length+(byI l).length) 1 none)) [(n,some (.ds e 1 false bp (xs++byI l))),(r,none)]:=.of_comes fun C G st σ w a o ho hA hd hst hn=>by
 obtain⟨hx1,hx2⟩:=am hst (hA.ev hx)
 obtain⟨hu,_⟩:=RelV.sc.1 (am hst (hA.ev hy)).1
 have hsz:(mkS l).size=(byI l).length:=by rw[bY]; simp[byI]
 have hsc:strCells (mkS l)=(byI l).map fun v=>Value.int .u8 v:=by simp[strCells,c8,byI]
 obtain⟨g,hg,hgs⟩:∃g:Nat→List Value,(∀i (h:i<(byI l).length),Enc w (st.X C.X0 σ) (bp (byI l)[i]) (g i)∧(g i).length=1)∧cat g (byI l).length=strCells (mkS l):=by
  refine⟨fun i=>[Value.int .u8 ((byI l).getD i 0)],fun i hi=>⟨⟨by show[Value.int .u8 ((byI l).getD i 0)]=_; rw[List.getD_eq_getElem?_getD,List.getElem?_eq_getElem hi]; rfl,rfl⟩,rfl⟩,?_⟩
  rw[hsc,wr]
 have hr:=hA.row _ _ hrow
 obtain⟨i,z,hi,hi1,hi2,hi3,hi4⟩:=(hT e re he).info
 obtain⟨ud,hud,hdd⟩:=aM hT ht
 cases hdd
 have hz:z.cells.size=1:=by
  have h1:=Enc.len _ _ (Enc.closed w (fun _=>False) _ (hT e re he).zero)
  rw[hi4]at h1
  simpa[(hT e re he).zsize,hs]using h1
 have hi1':i.size=1:=by rw[hi1,hs]
 have hdm:(mkS l).data.map (fun b:UInt8=>Value.int .u8 (b.toNat:Int))=(cat g (byI l).length).toArray:=by
  rw[hgs]
  apply Array.ext'
  simp[strCells]
 have hnn:¬G n:=hn n (Nat.le_refl _) (by omega)
 have hgl:(cat g (byI l).length).length=(byI l).length*1:=bS _ fun i hi=>(hg i hi).2
 have fin:∀(b c:Nat) (cur:Array Value) (w':World),(∃c0,σ r=some (b,c0))∨w.heap.size≤b→w.grownBy w' ((σ r).map (·.1))→w'.heap[b]?=some (.cells cur e (0,0))→cur.size=c*1→xs.length+(byI l).length≤c→c≤maxLen →
   (∃f:Nat→List Value,(∀i (h:i<xs.length),Enc w (st.X C.X0 σ) (bp xs[i]) (f i)∧(f i).length=1)∧cur.toList.take ((xs.length+(byI l).length)*1)=cat f xs.length++cat g (byI l).length) →
   (Builtin.append_ #[t,t2] o.type #[a.eval x,a.eval y]).run P w=.ok (.slice (some ⟨b,0,none⟩) (xs.length+(byI l).length) c) w' →
   bX P C G st n o a w (fun v' u'=>v'=some (.own n 0 (xs.length+(byI l).length) 1 none)∧u'=[(n,some (.ds e 1 false bp (xs++(byI l)))),(r,none)]):=by
  rintro b c cur w' hb hgr hh hcs hle hcm ⟨f,hf,htk⟩ hrun
  obtain⟨F,hF,hFc⟩:=jm hf hg
  have hsw:=hst.swap hnn hr hgr (c:=c) hb (.ds e 1 false bp (xs++(byI l))) trivial (fun σ' X' hk1 hk2 hσn=>by
   refine .inr ⟨b,c,cur,hσn,(fun e=>nomatch e),hh,hcs,by simpa using hle,hcm,F,fun i hi=>⟨hk2 _ _ (hF i hi).1,(hF i hi).2⟩,?_⟩
   rw[List.length_append,htk,←hFc,List.length_append])
  have hval:RelV (fun q=>if q=n then some (b,c) else σ q) w' ((st.upd [(n,some (.ds e 1 false bp (xs++(byI l)))),(r,none)]).X C.X0 (fun q=>if q=n then some (b,c) else σ q)) (.own n 0 (xs.length+(byI l).length) 1 none) (.slice (some ⟨b,0,none⟩) (xs.length+(byI l).length) c):=
   RelV.own.2 (.inr ⟨b,c,⟨b,0,none⟩,by simp,by simp,by simpa using hle,by simp,by simpa using hle,fun _=>by simp⟩)
  refine⟨_,_,.value (.slice (some ⟨b,0,none⟩) (xs.length+(byI l).length) c),_,w',_,fun q=>G q∨q=n,⟨rfl,rfl⟩,?_,.inl rfl,by rw[St.put_upd]; exact hsw.set hd hval (.inr rfl),fun r hr=>Or.inl hr,fun r hr=>Or.imp id (fun h=>⟨by omega,by omega⟩) hr⟩
  simp[execOp,ho,resolve,invoke,builtin,hrun]
 have h63:¬(9223372036854775807<xs.length+(byI l).length):=by simp only[maxLen]at hlen; omega
 rcases hst.rows r _ hr with ⟨hσ,hxs⟩ | ⟨b,c,cur,hσ,_,hh,hcs,hle,hcm,f,hf,htk⟩
 ·rcases RelV.own.1 hx1 with ⟨_,_,_,_,hv⟩ | ⟨b,c,_,hσ',_⟩
  ·subst hxs
   have hrun:=run_append_nil_string (P:=P) w t t2 o.type e i z hud ht2 hi hi3 (mkS l) (by rw[hsz]; exact hys) (by rw[hsz]; omega) (by rw[hsz,hi2]; simp at hbytes; omega)
   rw[hdm,hsz]at hrun
   refine fin w.heap.size (grownCap w (byI l).length 0 e) ((cat g (byI l).length).toArray++Builtin.zeroCells z.cells (grownCap w (byI l).length 0 e-(byI l).length)) _ (.inr (Nat.le_refl _)) (dH w _ _) (heap_alloc_new w.drew _) ?_ ?_ (grownCap_le_maxLen w (byI l).length 0 e (by simpa using hlen)) ⟨g,fun i hi=>by simp at hi,?_⟩ (by rw[hv,hu,hrun]; simp)
   ·have hge:=grownCap_ge w (byI l).length 0 e
    simp only[Array.size_append,List.size_toArray,size_zeroCells,hz,hgl,←Nat.add_mul]
    congr 1; omega
   ·simpa using grownCap_ge w (byI l).length 0 e
   ·simp only[Array.toList_append,List.length_nil,Nat.zero_add,cat,List.nil_append]
    rw[←hgl]
    exact List.take_left
  ·rw[hσ]at hσ'; cases hσ'
 ·rcases RelV.own.1 hx1 with ⟨hσ',_⟩ | ⟨b',c',a',hσ',hv,_,_,hlec,had⟩
  ·rw[hσ]at hσ'; cases hσ'
  ·rw[hσ]at hσ'
   cases hσ'
   simp only[Option.getD_none,Nat.sub_zero]at hv hlec
   have hfl:(cat f xs.length).length=xs.length*1:=bS _ fun i hi=>(hf i hi).2
   by_cases hroom:xs.length+(byI l).length≤c
   ·have:a'=⟨b,0,none⟩:=by have:=had (by omega); simpa using this
    subst this
    have hrun:=run_append_room_string (P:=P) w t t2 o.type e i hud ht2 hi hi1' b xs.length c cur hh (mkS l) (by rw[hsz]; exact hroom) (by rw[hsz,hcs]; omega)
    rw[hsz,←hgs]at hrun
    refine fin b c _ _ (.inl ⟨c,hσ⟩) ?_ (setRow_heap w b cur _ e _ hh) ?_ hroom hcm ⟨f,hf,?_⟩ (by rw[hv,hu,hrun])
    ·exact⟨rfl,rfl,rfl,by simp,fun k _ hk=>setRow_other w b k _ (fun e=>hk (by rw[hσ]; simp[e]))⟩
    ·simp only[List.size_toArray,List.length_append,List.length_take,List.length_drop,Array.length_toList,hi1,hs,hgl,hcs]
     omega
    ·rw[Nat.mul_one]at htk
     rw[htk,List.append_assoc,←List.append_assoc]
     have:(xs.length+(byI l).length)*1=(cat f xs.length++cat g (byI l).length).length:=by rw[List.length_append,hfl,hgl,Nat.add_mul]
     rw[this]
     exact List.take_left
   ·have hrun:=run_append_grow_string (P:=P) w t t2 o.type e i z hud ht2 hi hi3 a' xs.length c (cat f xs.length) (by rw[hfl,hi1,hs]) (fun j u hj=>by
     have hjl:j<xs.length*1:=by rw[←hfl]; exact (List.getElem?_eq_some_iff.1 hj).1
     have hc0:0<c:=by
      rcases Nat.eq_zero_or_pos c with rfl | h1
      ·have:xs.length=0:=by omega
       rw[this]at hjl; omega
      ·exact h1
     have:a'=⟨b,0,none⟩:=by have:=had hc0; simpa using this
     subst this
     rw[db,cell_of_row w b _ cur e (0,0) hh]
     rw[←htk,List.getElem?_take,if_pos hjl]at hj
     rw[Nat.zero_add,←Array.getElem?_toList]
     exact hj) (mkS l) (by rw[hsz]; omega) (by rw[hsz]; omega) (by rw[hsz]; exact growslice_fits (by omega) (by rw[hi2]; exact hbytes))
    rw[hsz,←hgs]at hrun
    refine fin w.heap.size _ _ _ (.inr (Nat.le_refl _)) (dH w _ _) (heap_alloc_new w.drew _) ?_ (grownCap_ge w _ c e) (grownCap_le_maxLen w _ c e hlen) ⟨f,hf,?_⟩ (by rw[hv,hu,hrun])
    ·have hge:=grownCap_ge w (xs.length+(byI l).length) c e
     simp only[Array.size_append,List.size_toArray,size_zeroCells,hz,hgl,hfl,←Nat.add_mul]
     congr 1; omega
    ·simp only[Array.toList_append]
     have:(xs.length+(byI l).length)*1=(cat f xs.length++cat g (byI l).length).length:=by rw[List.length_append,hfl,hgl,Nat.add_mul]
     rw[this]
     exact List.take_left
theorem mz (hT:an P T) {t t2 e r L:Nat} {re:TyR} {ex:Bool} {xs:List Int} {l:List UInt8} {x y:Operand} (ht:aT T t=some (.slice e)) (ht2:P.underlying t2=some .string) (he:lk T e=some re) (hs:Nat.beq re.size 1=true)
  (hx:au env x=some (.own r 0 L 1 none)) (hL:L=xs.length) (hrow:bc h r=some (.ds e 1 ex bp xs)) (hy:au env y=some (.d (strD l))) (hys0:0<l.length) (hlen0:xs.length+l.length≤1048576) (hbyt:Nat.ble re.bytes 134217728=true) :
  aq P (.call { callee :=.builtin .append,args := #[x,y],argTypes := #[t,t2] }) env h n (some (.own n 0 (xs.length+l.length) 1 none)) [(n,some (.ds e 1 false bp (xs++byI l))),(r,none)]:=by
 subst hL
 have hs:=Nat.eq_of_beq_eq_true hs
 have hbl:(byI l).length=l.length:=by simp[byI]
 rw[←hbl]
 have hys:0<(byI l).length:=by rw[hbl]; exact hys0
 have hlen:xs.length+(byI l).length≤maxLen:=by rw[hbl]; simp only[maxLen]; omega
 have hbytes:(xs.length+(byI l).length)*re.bytes≤140737488355328:=by
  have:(xs.length+(byI l).length)*re.bytes≤1048576*134217728:=Nat.mul_le_mul (by omega) (Nat.le_of_ble_eq_true hbyt)
  omega
 refine gQ hT ht ht2 he hs hx hrow hy hys hlen hbytes
end
end Go.Eng
namespace Go.Eng
open Go.RowKit
section
variable {P : Program} {T : Tab} {env : Env} {h : Upds} {n : Nat}
theorem gj (hT:an P T) {t:Nat} {x:Operand} {l:List UInt8} (ht:aT T t=some .string) (hx:au env x=some (.d (strD l))) :
  aq P (.range t x) env h n (some (.ptr n [])) [(n,some (.si (mkS l) 0))]:=.of_comes fun C G st σ w a o ho hA hd hst hn=>by
 obtain⟨ud,hud,hdd⟩:=aM hT ht
 cases hdd
 obtain⟨hu,_⟩:=RelV.sc.1 (am hst (hA.ev hx)).1
 have hnn:¬G n:=hn n (Nat.le_refl _) (by omega)
 have hnew:=aG.freshBy hst hnn (w':=w.alloc (.stringIter (mkS l) 0)) (by
   refine⟨rfl,rfl,rfl,by simp,fun k hk _=>?_⟩
   exact heap_alloc_old w _ hk) (Nat.le_refl _) (b:=w.heap.size) (c:=1) (.si (mkS l) 0) trivial (fun σ' X' _ _ hs=>⟨w.heap.size,hs,heap_alloc_new w _⟩)
 refine⟨some (.ptr n []),[(n,some (.si (mkS l) 0))],.value (.pointer (some ⟨w.heap.size,0,none⟩)),.pointer (some ⟨w.heap.size,0,none⟩),w.alloc (.stringIter (mkS l) 0),fun q=>if q=n then some (w.heap.size,1) else σ q,fun q=>G q∨q=n,⟨rfl,rfl⟩,?_,.inl rfl,?_,fun r hr=>.inl hr,fun r hr=>hr.imp id (fun e=>by omega)⟩
 ·simp[execOp,ho,Instr.range,run_underlying hud,hu,newObj,Sem.run]
 ·rw[St.put_upd]
  exact hnew.set hd (RelV.ptr.2 ⟨w.heap.size,1,by simp,by simp[aQ]⟩) (.inr rfl)
theorem oW (P:Program) (w:World) (b:Nat) (o:Obj) {s:ByteArray} {p:Nat} (hb:w.heap[b]?=some (.stringIter s p)):(setObj b o).run P w=.ok () { w with heap:=w.heap.setIfInBounds b o }:=by
 simp[setObj,Sem.run,hb]
theorem eW {x:Operand} {r i:Nat} {l:List UInt8} (hx:au env x=some (.ptr r [])) (hr:bc h r=some (.si (mkS l) i)) (hi:i<l.length) :
  aq P (.next x true) env h n (some (.tup (.acons (.bool true) (.acons (.int .i64 i) (.acons (.int .i32 (Utf8.decode (mkS l) i).1) .anil))))) [(r,some (.si (mkS l) (i+(Utf8.decode (mkS l) i).2)))]:=.of_comes fun C G st σ w a o ho hA hd hst hn=>by
 have hrow:=hA.row _ _ hr
 obtain⟨b,hs,hh⟩:=hst.rows r _ hrow
 obtain⟨b',c',hs',hu⟩:=RelV.ptr.1 (am hst (hA.ev hx)).1
 rw[hs]at hs'
 cases hs'
 have hst':=hst.writeObj (o' :=.stringIter (mkS l) (i+(Utf8.decode (mkS l) i).2)) (row :=.si (mkS l) (i+(Utf8.decode (mkS l) i).2)) hrow hs hh rfl trivial (fun w' _ hh'=>⟨b,hs,hh'⟩)
 refine⟨_,_,.value (.tuple #[.bool true,goInt i,.int .i32 (Utf8.decode (mkS l) i).1]),_, { w with heap:=w.heap.setIfInBounds b (.stringIter (mkS l) (i+(Utf8.decode (mkS l) i).2)) },σ,G,⟨rfl,rfl⟩,?_,.inl rfl,?_,fun _ h=>h,fun _ h=>.inl h⟩
 ·have hget:(getObj b).run P w=.ok (.stringIter (mkS l) i) w:=by simp[getObj,Sem.run,hh]
  have hset:=oW P w b (.stringIter (mkS l) (i+(Utf8.decode (mkS l) i).2)) hh
  have hsz:i<(mkS l).size:=by rw[bY]; exact hi
  simp only[execOp,ho,Instr.next,hu,aQ,Sem.run_bind,hget,Result.andThen_ok,if_pos hsz,hset,Sem.run_pure]
 ·rw[St.put_upd]
  refine hst'.set hd ?_ ⟨trivial,trivial,trivial,trivial⟩
  show RelV σ _ _ (.tup _) _
  unfold RelV
  rw[if_neg (by simp[AV.isAgg])]
  exact⟨_,rfl,_,_,rfl,RelV.sc.2 ⟨rfl,rfl⟩,_,_,rfl,RelV.sc.2 ⟨rfl,rfl⟩,_,_,rfl,RelV.sc.2 ⟨rfl,rfl⟩,rfl⟩
theorem jx {x:Operand} {r i:Nat} {l:List UInt8} (hx:au env x=some (.ptr r [])) (hr:bc h r=some (.si (mkS l) i)) (hi:l.length≤i) :
  aq P (.next x true) env h n (some (.tup (.acons (.bool false) .anil))) []:=.of_comes fun C G st σ w a o ho hA hd hst hn=>by
 have hrow:=hA.row _ _ hr
 obtain⟨b,hs,hh⟩:=hst.rows r _ hrow
 obtain⟨b',c',hs',hu⟩:=RelV.ptr.1 (am hst (hA.ev hx)).1
 rw[hs]at hs'
 cases hs'
 refine .quiet (u :=.tuple #[.bool false]) hst hd ⟨rfl,rfl⟩ ?_ ?_ ⟨trivial,trivial⟩
 ·have hget:(getObj b).run P w=.ok (.stringIter (mkS l) i) w:=by simp[getObj,Sem.run,hh]
  have hsz:¬i<(mkS l).size:=by rw[bY]; omega
  simp only[execOp,ho,Instr.next,hu,aQ,Sem.run_bind,hget,Result.andThen_ok,if_neg hsz,Sem.run_pure]
 ·unfold RelV
  rw[if_neg (by simp[AV.isAgg])]
  exact⟨_,rfl,_,_,rfl,RelV.sc.2 ⟨rfl,rfl⟩,rfl⟩
end
theorem gH {l:List UInt8} {i:Nat} {c:UInt8} (hc:l[i]?=some c) (h7:c.toNat<128):Utf8.decode (mkS l) i=(c.toNat,1):=by
 have hlt:=(List.getElem?_eq_some_iff.1 hc).1
 have hg:(mkS l).get! i=c:=by
  have e:(mkS l).get! i=l.toArray[i]!:=rfl
  rw[e,getElem!_pos l.toArray i (by simpa using hlt)]
  have:=(List.getElem?_eq_some_iff.1 hc).2
  simpa using this
 rw[Lib.decode_at,hg,Lib.decodeN,if_pos h7]
end Go.Eng
namespace Go.Plain
open Go.Eng Go.Lib
def aL:List UInt8→UInt8→List (List UInt8)
 | [],_=>[[]]
 | b::l,c=>if b=c then[]::aL l c else match aL l c with
  | []=>[[b]]
  | w::ws=>(b::w)::ws
theorem ij:∀(l:List UInt8) (c:UInt8),aL l c≠[]
 | [],_=>by simp[aL]
 | b::l,c=>by
  simp only[aL]
  split
  ·simp
  ·split <;> simp
theorem lu {c:UInt8}:∀ {l:List UInt8},c ∉ l→aL l c=[l]
 | [],_=>rfl
 | b::l,h=>by
  simp only[List.mem_cons,not_or]at h
  rw[aL,if_neg (Ne.symm h.1),lu h.2]
theorem ku {c:UInt8}:∀ {w:List UInt8} (l:List UInt8),c ∉ w→aL (w++c::l) c=w::aL l c
 | [],l,_=>by simp[aL]
 | b::w,l,h=>by
  simp only[List.mem_cons,not_or]at h
  rw[List.cons_append,aL,if_neg (Ne.symm h.1),ku l h.2]
def hexD:List UInt8:=[48,49,50,51,52,53,54,55,56,57,97,98,99,100,101,102]
def hexC (n:Nat):UInt8:=hexD.getD n 0
theorem jG {n:Nat} (h:n<16):hexD[n]?=some (hexC n):=by
 rw[hexC,List.getD_eq_getElem?_getD,List.getElem?_eq_getElem (show n<hexD.length from h)]
 rfl
def hexB (b:UInt8):List UInt8:=[hexC (b.toNat/16),hexC (b.toNat % 16)]
theorem fy (l:List UInt8):(l.flatMap hexB).length=2*l.length:=by
 induction l with
 | nil=>rfl
 | cons b l ih=>simp only[List.flatMap_cons,List.length_append,ih,hexB,List.length_cons,List.length_nil]; omega
def hexP (l:List UInt8):List UInt8:=if l=[] then[45] else l.flatMap hexB
def nibO (c:UInt8):Option Nat:=if 0≤indexByte hexD c then some (indexByte hexD c).toNat else none
def eG:List UInt8→Option (List UInt8)
 | []=>some []
 | [_]=>none
 | a::b::l=>match nibO a,nibO b,eG l with
  | some x,some y,some r=>some ((x*16+y).toUInt8::r)
  | _,_,_=>none
def bQ (s:List UInt8):Option (List UInt8):=if s=[45] then some [] else if s=[] then none else eG s
/-! Numbers. -/
/-! Operations. -/
structure POp where
 kind:Int
 index:Int
 data:List UInt8
 deriving DecidableEq
structure POp.Ok (o:POp):Prop where
 kind:0≤o.kind∧o.kind≤255
 index : -9223372036854775808≤o.index∧o.index≤9223372036854775807
def fJ:List UInt8:=[114,101,97,100]
def dr:List UInt8:=[119,114,105,116,101]
def fe:List UInt8:=[102,108,117,115,104]
def sOp:List UInt8:=[111,112]
def bh:List UInt8:=[99,108,105,101,110,116]
def bO (o:POp):List UInt8 :=
 if o.kind=1∧o.data=[] then fJ++32::itoa o.index
 else if o.kind=2 then dr++32::(itoa o.index++32::hexP o.data)
 else if o.kind=3∧o.index=0∧o.data=[] then fe
 else sOp++32::(itoa o.kind++32::(itoa o.index++32::hexP o.data))
def opF (k i d:List UInt8):Option POp:=match parseUintB 8 k,atoiAll i,bQ d with
 | .ok k,.ok i,some d=>some ⟨k,i,d⟩
 | _,_,_=>none
def cQ (w:List (List UInt8)):Option POp:=match w with
 | []=>none
 | a::r=>if a=fJ then (match r with | [i]=>opF [49] i [45] | _=>none)
  else if a=dr then (match r with | [i,d]=>opF [50] i d | _=>none)
  else if a=fe then (match r with | []=>opF [51] [48] [45] | _=>none)
  else if a=sOp then (match r with | [k,i,d]=>opF k i d | _=>none)
  else none
def gU (t:List UInt8):Option POp:=match cQ (aL t 32) with
 | some o=>if bO o=t then some o else none
 | none=>none
theorem n8 {k i d:List UInt8} {o:POp} (h:opF k i d=some o):o.Ok:=by
 simp only[opF]at h
 split at h
 ·rename_i k' i' d' h1 h2 h3
  cases h
  have hk:k'≤255:=by
   rw[parseUintB]at h1
   split at h1
   ·cases h1
   ·have:=parseUintM_le (2 ^ 8-1) _ 0 _ (by decide) h1
    omega
  refine⟨by simp only; omega,?_⟩
  cases i with
  | nil=>simp[atoiAll]at h2
  | cons c r =>
   simp only[atoiAll]at h2
   split at h2
   ·cases h2
   ·cases h2
   ·split at h2
    ·cases h2
    ·rename_i u hu g1
     split at h2
     ·cases h2
     ·rename_i g2
      injection h2 with h2
      subst h2
      simp only
      split <;> rename_i g3 <;> simp only[g3,not_true_eq_false,false_and,true_and,not_false_eq_true]at g1 g2 <;> omega
 ·cases h
theorem o4 {w:List (List UInt8)} {o:POp} (h:cQ w=some o):o.Ok:=by
 cases w with
 | nil=>cases h
 | cons a r =>
  simp only[cQ]at h
  by_cases h1:a=fJ
  ·rw[if_pos h1]at h
   split at h
   ·exact n8 h
   ·cases h
  rw[if_neg h1]at h
  by_cases h2:a=dr
  ·rw[if_pos h2]at h
   split at h
   ·exact n8 h
   ·cases h
  rw[if_neg h2]at h
  by_cases h3:a=fe
  ·rw[if_pos h3]at h
   split at h
   ·exact n8 h
   ·cases h
  rw[if_neg h3]at h
  by_cases h4:a=sOp
  ·rw[if_pos h4]at h
   split at h
   ·exact n8 h
   ·cases h
  rw[if_neg h4]at h
  cases h
theorem lC {t:List UInt8} {o:POp} (h:gU t=some o):bO o=t∧o.Ok:=by
 simp only[gU]at h
 split at h
 ·rename_i o' ho
  split at h
  ·rename_i hl
   cases h
   exact⟨hl,o4 ho⟩
  ·cases h
 ·cases h
def badP (p:List POp):Bool:=decide (64<p.length)||p.any fun o=>decide (64<o.data.length)
def chkP (l:List (List POp)):Int:=if 8<l.length then 3 else if l.any badP=true then 3 else 0
theorem ep {l:List (List POp)}:chkP l=0↔l.length≤8∧∀p∈l,badP p=false:=by
 unfold chkP
 constructor
 ·intro h
  split at h
  ·cases h
  ·split at h
   ·cases h
   ·rename_i h1 h2
    refine⟨by omega,fun p hp=>?_⟩
    simp only[List.any_eq_true,not_exists,not_and,Bool.not_eq_true]at h2
    exact h2 p hp
 ·rintro⟨h1,h2⟩
  rw[if_neg (by omega),if_neg]
  simp only[List.any_eq_true,not_exists,not_and,Bool.not_eq_true]
  exact h2
def iz (l:List (List POp)) (o:POp):List (List POp):=l.dropLast++[l.getLast?.getD []++[o]]
theorem fk (l:List (List POp)) (p:List POp) (o:POp):iz (l++[p]) o=l++[p++[o]]:=by
 simp[iz]
def addP (l:List (List POp)) (t:List UInt8):List (List POp)×Int :=
 if t=bh then (if 8<l.length+1 then ([],3) else (l++[[]],0))
 else match gU t with
  | none=>([],5)
  | some o=>if l=[] then ([],5) else if 64<(l.getLast?.getD []).length+1∨64<o.data.length then ([],3) else (iz l o,0)
def cutL:List UInt8→UInt8→Option (List UInt8×List UInt8)
 | [],_=>none
 | b::l,c=>if b=c then some ([],l) else match cutL l c with
  | none=>none
  | some (p,q)=>some (b::p,q)
theorem dP:∀ {l:List UInt8} {c:UInt8} {p q:List UInt8},cutL l c=some (p,q)→l=p++c::q∧c ∉ p
 | [],_,_,_,h=>by cases h
 | b::l,c,p,q,h=>by
  simp only[cutL]at h
  split at h
  ·rename_i e
   cases h
   subst e
   exact⟨rfl,by simp⟩
  ·rename_i e
   split at h
   ·cases h
   ·rename_i p' q' h2
    cases h
    obtain⟨h3,h4⟩:=dP h2
    subst h3
    refine⟨rfl,?_⟩
    simp only[List.mem_cons,not_or]
    exact⟨Ne.symm e,h4⟩
theorem ny:∀ {l:List UInt8} {c:UInt8},cutL l c=none→c ∉ l
 | [],_,_=>by simp
 | b::l,c,h=>by
  simp only[cutL]at h
  split at h
  ·cases h
  ·rename_i e
   split at h
   ·rename_i h2
    simp only[List.mem_cons,not_or]
    exact⟨Ne.symm e,ny h2⟩
   ·cases h
theorem mW (s:List UInt8) (c:UInt8):aL s c=match cutL s c with
  | none=>[s]
  | some (p,q)=>p::aL q c:=by
 cases h:cutL s c with
 | none=>exact lu (ny h)
 | some pq =>
  obtain⟨p,q⟩:=pq
  obtain⟨rfl,h2⟩:=dP h
  exact ku q h2
def bL (s:List UInt8) (l:List (List POp)) (n:Nat):List (List POp)×Nat×Int :=
 if s=[] then (l,0,0) else
 match _h:cutL s 10 with
 | none=>([],n,5)
 | some (t,r)=>if (addP l t).2=0 then bL r (addP l t).1 (n+1) else ([],n,(addP l t).2)
termination_by s.length
decreasing_by
 have := (dP _h).1
 rw [this]
 simp
 omega
theorem fw (l:List (List POp)) (n:Nat):bL [] l n=(l,0,0):=by rw[bL,if_pos rfl]
theorem gZ {s:List UInt8} (l:List (List POp)) (n:Nat) (hs:s≠[]) (h:cutL s 10=none):bL s l n=([],n,5):=by
 rw[bL,if_neg hs]
 split
 ·rfl
 ·rename_i h2; rw[h]at h2; cases h2
theorem gY {s t r:List UInt8} (l:List (List POp)) (n:Nat) (hs:s≠[]) (h:cutL s 10=some (t,r)):bL s l n=if (addP l t).2=0 then bL r (addP l t).1 (n+1) else ([],n,(addP l t).2):=by
 rw[bL,if_neg hs]
 split
 ·rename_i h2; rw[h]at h2; cases h2
 ·rename_i h2; rw[h]at h2; cases h2; rfl
def uZ:List (List UInt8)→Nat→List (List POp)→List (List POp)×Nat×Int
 | [],_,l=>(l,0,0)
 | [t],i,l=>if t=[] then (l,0,0) else ([],i+1,5)
 | t::u::ts,i,l=>if t=bh then (if 0<chkP (l++[[]]) then ([],i+1,3) else uZ (u::ts) (i+1) (l++[[]]))
  else match gU t with
   | none=>([],i+1,5)
   | some o=>if l=[] then ([],i+1,5) else if 0<chkP (iz l o) then ([],i+1,3) else uZ (u::ts) (i+1) (iz l o)
theorem rj {l:List (List POp)} (h:chkP l=0):chkP (l++[[]])=if 8<l.length+1 then 3 else 0:=by
 obtain⟨h1,h2⟩:=ep.1 h
 split
 ·rename_i h3
  unfold chkP
  rw[if_pos (by simpa using h3)]
 ·rename_i h3
  refine ep.2 ⟨by simp; omega,fun p hp=>?_⟩
  rcases List.mem_append.1 hp with hp | hp
  ·exact h2 p hp
  ·rw[List.mem_singleton.1 hp]; rfl
theorem wn {l:List (List POp)} (h:chkP l=0) (hl:l≠[]) (o:POp):chkP (iz l o)=if 64<(l.getLast?.getD []).length+1∨64<o.data.length then 3 else 0:=by
 obtain⟨h1,h2⟩:=ep.1 h
 obtain⟨m,p,rfl⟩:∃m p,l=m++[p]:=⟨l.dropLast,l.getLast hl,(List.dropLast_concat_getLast hl).symm⟩
 have hg:(m++[p]).getLast?.getD []=p:=by simp
 rw[fk,hg]
 have hp:=h2 p (by simp)
 simp only[badP,Bool.or_eq_false_iff,decide_eq_false_iff_not,List.any_eq_false,decide_eq_true_iff]at hp
 split
 ·rename_i h3
  unfold chkP
  rw[if_neg (by simpa using h1),if_pos]
  rw[List.any_append,Bool.or_eq_true]
  right
  simp only[List.any_cons,List.any_nil,Bool.or_false,badP,Bool.or_eq_true,decide_eq_true_iff,List.length_append,List.length_singleton,List.any_append]
  rcases h3 with h3 | h3
  ·exact .inl h3
  ·right; simp[h3]
 ·rename_i h3
  refine ep.2 ⟨by simpa using h1,fun q hq=>?_⟩
  rcases List.mem_append.1 hq with hq | hq
  ·exact h2 q (by simp[hq])
  ·rw[List.mem_singleton.1 hq]
   simp only[not_or]at h3
   simp only[badP,Bool.or_eq_false_iff,decide_eq_false_iff_not,List.any_eq_false,decide_eq_true_iff,List.length_append,List.length_singleton,List.mem_append,List.mem_singleton]
   refine⟨h3.1,fun x hx=>?_⟩
   rcases hx with hx | rfl
   ·exact hp.2 x hx
   ·exact h3.2
theorem lb {l l':List (List POp)} {t:List UInt8} (h:chkP l=0) (ha:addP l t=(l',0)):chkP l'=0:=by
 simp only[addP]at ha
 split at ha
 ·split at ha
  ·cases ha
  ·rename_i h3
   cases ha
   rw[rj h,if_neg h3]
 ·split at ha
  ·cases ha
  ·split at ha
   ·cases ha
   ·rename_i hl
    split at ha
    ·cases ha
    ·rename_i h3
     cases ha
     rw[wn h hl,if_neg h3]
def opsT (p:List POp):List UInt8:=p.flatMap fun o=>bO o++[10]
def bJ (l:List (List POp)):List UInt8:=l.flatMap fun p=>bh++10::opsT p
theorem m8 (p:List POp) (o:POp):opsT (p++[o])=opsT p++(bO o++[10]):=by simp[opsT]
theorem gu (l:List (List POp)) (p:List POp):bJ (l++[p])=bJ l++(bh++10::opsT p):=by simp[bJ]
def OkL (l:List (List POp)):Prop:=∀p∈l,∀o∈p,o.Ok
theorem wD {l l':List (List POp)} {t:List UInt8} (ha:addP l t=(l',0)):bJ l'=bJ l++(t++[10]):=by
 simp only[addP]at ha
 split at ha
 ·rename_i ht
  split at ha
  ·cases ha
  ·cases ha
   rw[gu,ht]
   simp[opsT]
 ·split at ha
  ·cases ha
  ·rename_i o ho
   split at ha
   ·cases ha
   ·rename_i hl
    split at ha
    ·cases ha
    ·cases ha
     obtain⟨m,p,rfl⟩:∃m p,l=m++[p]:=⟨l.dropLast,l.getLast hl,(List.dropLast_concat_getLast hl).symm⟩
     rw[fk,gu,gu,m8,(lC ho).1]
     simp
theorem oC {l l':List (List POp)} {t:List UInt8} (hl:OkL l) (ha:addP l t=(l',0)):OkL l':=by
 simp only[addP]at ha
 split at ha
 ·split at ha
  ·cases ha
  ·cases ha
   intro p hp
   rcases List.mem_append.1 hp with hp | hp
   ·exact hl p hp
   ·rw[List.mem_singleton.1 hp]; simp
 ·split at ha
  ·cases ha
  ·rename_i o ho
   split at ha
   ·cases ha
   ·rename_i hnil
    split at ha
    ·cases ha
    ·cases ha
     obtain⟨m,p,rfl⟩:∃m p,l=m++[p]:=⟨l.dropLast,l.getLast hnil,(List.dropLast_concat_getLast hnil).symm⟩
     rw[fk]
     intro q hq x hx
     rcases List.mem_append.1 hq with hq | hq
     ·exact hl q (by simp[hq]) x hx
     ·rw[List.mem_singleton.1 hq]at hx
      rcases List.mem_append.1 hx with hx | hx
      ·exact hl p (by simp) x hx
      ·rw[List.mem_singleton.1 hx]; exact (lC ho).2
theorem tb:∀(k:Nat) (s:List UInt8) (l m:List (List POp)) (n j:Nat),s.length≤k→chkP l=0→OkL l→bL s l n=(m,j,0)→j=0∧bJ m=bJ l++s∧chkP m=0∧OkL m:=by
 intro k
 induction k with
 | zero =>
  intro s l m n j hs hc hok h
  have:s=[]:=List.length_eq_zero_iff.1 (by omega)
  subst this
  rw[fw]at h
  cases h
  exact⟨rfl,by simp,hc,hok⟩
 | succ k ih =>
  intro s l m n j hs hc hok h
  by_cases he:s=[]
  ·subst he
   rw[fw]at h
   cases h
   exact⟨rfl,by simp,hc,hok⟩
  ·cases hcut:cutL s 10 with
   | none=>rw[gZ l _ he hcut]at h; cases h
   | some pq =>
    obtain⟨t,r⟩:=pq
    rw[gY l _ he hcut]at h
    have hsr:=(dP hcut).1
    split at h
    ·rename_i ha
     have ha':addP l t=((addP l t).1,0):=by rw[←ha]
     obtain⟨g1,g2,g3⟩:=ih r (addP l t).1 m (n+1) j (by rw[hsr]at hs; simp at hs; omega) (lb hc ha') (oC hok ha') h
     refine⟨g1,?_,g3⟩
     rw[g2,wD ha',hsr]
     simp
    ·rename_i ha
     injection h with _ h
     injection h with _ h
     exact absurd h ha
def xB (sg:Int) (acc:Int) (c:UInt8):Int:=IntKind.i64.wrap (IntKind.i64.wrap (acc*10)+IntKind.i64.wrap (sg*((c.toNat:Int)-48)))
def Bu (c:UInt8):Bool:=decide (48≤c.toNat)&&decide (c.toNat≤57)
def sgOf (s:List UInt8):Int:=if s.head?=some 45 then-1 else 1
def v8 (s:List UInt8):List UInt8:=if s.head?=some 45 then s.tail else s
def intV (s:List UInt8):Int:=(v8 s).foldl (xB (sgOf s)) 0
def intR (s:List UInt8):Option Int:=if 19<(v8 s).length then none else if (v8 s).all Bu=false then none else if itoa (intV s)=s then some (intV s) else none
def BJ (sg:Int) (acc:Int) (c:UInt8):Int:=acc*10+sg*((c.toNat:Int)-48)
def opR (k:Int) (i d:List UInt8):Option POp:=match intR i,bQ d with
 | some i,some d=>some ⟨k,i,d⟩
 | _,_=>none
def Bt (k:List UInt8):Option Int:=match intR k with
 | some n=>if n<0∨255<n then none else some n
 | none=>none
def yi (w:List (List UInt8)):Option POp:=match w with
 | []=>none
 | a::r=>if a=fJ∧r.length=1 then opR 1 (r.getD 0 []) [45]
  else if a=dr∧r.length=2 then opR 2 (r.getD 0 []) (r.getD 1 [])
  else if a=fe∧r.length=0 then opR 3 [48] [45]
  else if a=sOp∧r.length=3 then (match Bt (r.getD 0 []) with
   | some k=>opR k (r.getD 1 []) (r.getD 2 [])
   | none=>none)
  else none
def readR (s:List UInt8):Option POp:=match yi (aL s 32) with
 | some o=>if bO o=s then some o else none
 | none=>none
end Go.Plain
namespace Go.Proofs.YtpmhnpnmpjimnaaGreatDoor
open Go.Eng
theorem dF {p:Prop} [Decidable p] (h:¬p):decide p=false:=decide_eq_false h
theorem dT {p:Prop} [Decidable p] (h:p):decide p=true:=decide_eq_true h
abbrev u0:TyR := { desc :=.cell,size:=1,bytes:=8,zero :=.sc .nilFunc }
abbrev u1:TyR := { desc :=.cell,size:=1,bytes:=8,zero :=.sc (.pointer none) }
abbrev u2:TyR := { desc :=.int .i64,size:=1,bytes:=8,zero :=.sc (.int .i64 0) }
abbrev u3:TyR := { desc :=.int .u8,size:=1,bytes:=1,zero :=.sc (.int .u8 0) }
abbrev u4:TyR := { desc :=.int .u64,size:=1,bytes:=8,zero :=.sc (.int .u64 0) }
abbrev u5:TyR := { desc :=.cell,size:=1,bytes:=16,zero :=.sc .nilIface }
section
variable {p : Prop}
theorem zM (h:p:=by exact⟨rfl,mapD_lt _,_,rfl,aE.of_eq (by simp only[Row.ren,mapD_ren])⟩):p:=h
theorem zN (h:p:=by exact⟨rfl,mapD_lt _,_,_,rfl,rfl,aE.of_eq (by simp only[Row.ren,mapD_ren])⟩):p:=h
theorem zK (h:p:=by exact⟨rfl,mapD_lt _,mapD_okm _,rfl⟩):p:=h
theorem zR (h:p:=by exact⟨rfl,rfl,_,rfl,.refl _⟩):p:=h
theorem zH (h:p:=by exact⟨rfl,rfl,_,_,rfl,rfl,.refl _⟩):p:=h
theorem zF (h:p:=by exact⟨rfl,_,rfl,FrzR.refl _⟩):p:=h
theorem zV (h:p:=by exact⟨⟨_,rfl,AVLe.of_eq rfl⟩,rfl,trivial⟩):p:=h
theorem za (h:p:=by exact⟨⟨_,rfl,.refl _⟩,rfl,⟨_,rfl,.refl _⟩,rfl,⟨_,rfl,.refl _⟩,rfl,⟨_,rfl,.refl _⟩,rfl,⟨_,rfl,.refl _⟩,rfl,⟨_,rfl,.refl _⟩,rfl,⟨_,rfl,.refl _⟩,rfl,⟨_,rfl,.refl _⟩,rfl,⟨_,rfl,.refl _⟩,rfl,⟨_,rfl,.refl _⟩,rfl,⟨_,rfl,.refl _⟩,rfl,⟨_,rfl,.refl _⟩,rfl,trivial⟩):p:=h
theorem zb (h:p:=by exact⟨⟨_,rfl,.refl _⟩,rfl,⟨_,rfl,.refl _⟩,rfl,⟨_,rfl,.refl _⟩,rfl,⟨_,rfl,.refl _⟩,rfl,⟨_,rfl,.refl _⟩,rfl,⟨_,rfl,.refl _⟩,rfl,⟨_,rfl,.refl _⟩,rfl,⟨_,rfl,.refl _⟩,rfl,⟨_,rfl,.refl _⟩,rfl,⟨_,rfl,.refl _⟩,rfl,⟨_,rfl,.refl _⟩,rfl,trivial⟩):p:=h
theorem zc (h:p:=by exact⟨⟨_,rfl,.refl _⟩,rfl,⟨_,rfl,.refl _⟩,rfl,⟨_,rfl,.refl _⟩,rfl,⟨_,rfl,.refl _⟩,rfl,⟨_,rfl,.refl _⟩,rfl,⟨_,rfl,.refl _⟩,rfl,⟨_,rfl,.refl _⟩,rfl,⟨_,rfl,.refl _⟩,rfl,⟨_,rfl,.refl _⟩,rfl,⟨_,rfl,.refl _⟩,rfl,trivial⟩):p:=h
theorem zd (h:p:=by exact⟨⟨_,rfl,.refl _⟩,rfl,⟨_,rfl,.refl _⟩,rfl,⟨_,rfl,.refl _⟩,rfl,⟨_,rfl,.refl _⟩,rfl,⟨_,rfl,.refl _⟩,rfl,⟨_,rfl,.refl _⟩,rfl,⟨_,rfl,.refl _⟩,rfl,⟨_,rfl,.refl _⟩,rfl,⟨_,rfl,.refl _⟩,rfl,trivial⟩):p:=h
theorem ze (h:p:=by exact⟨⟨_,rfl,.refl _⟩,rfl,⟨_,rfl,.refl _⟩,rfl,⟨_,rfl,.refl _⟩,rfl,⟨_,rfl,.refl _⟩,rfl,⟨_,rfl,.refl _⟩,rfl,⟨_,rfl,.refl _⟩,rfl,⟨_,rfl,.refl _⟩,rfl,⟨_,rfl,.refl _⟩,rfl,trivial⟩):p:=h
theorem zf (h:p:=by exact⟨⟨_,rfl,.refl _⟩,rfl,⟨_,rfl,.refl _⟩,rfl,⟨_,rfl,.refl _⟩,rfl,⟨_,rfl,.refl _⟩,rfl,⟨_,rfl,.refl _⟩,rfl,⟨_,rfl,.refl _⟩,rfl,⟨_,rfl,.refl _⟩,rfl,trivial⟩):p:=h
theorem zg (h:p:=by exact⟨⟨_,rfl,.refl _⟩,rfl,⟨_,rfl,.refl _⟩,rfl,⟨_,rfl,.refl _⟩,rfl,⟨_,rfl,.refl _⟩,rfl,⟨_,rfl,.refl _⟩,rfl,⟨_,rfl,.refl _⟩,rfl,trivial⟩):p:=h
theorem zh (h:p:=by exact⟨⟨_,rfl,.refl _⟩,rfl,⟨_,rfl,.refl _⟩,rfl,⟨_,rfl,.refl _⟩,rfl,⟨_,rfl,.refl _⟩,rfl,⟨_,rfl,.refl _⟩,rfl,trivial⟩):p:=h
theorem zi (h:p:=by exact⟨⟨_,rfl,.refl _⟩,rfl,⟨_,rfl,.refl _⟩,rfl,⟨_,rfl,.refl _⟩,rfl,⟨_,rfl,.refl _⟩,rfl,trivial⟩):p:=h
theorem zj (h:p:=by exact⟨⟨_,rfl,.refl _⟩,rfl,⟨_,rfl,.refl _⟩,rfl,⟨_,rfl,.refl _⟩,rfl,trivial⟩):p:=h
theorem zk (h:p:=by exact⟨⟨_,rfl,.refl _⟩,rfl,⟨_,rfl,.refl _⟩,rfl,trivial⟩):p:=h
theorem zl (h:p:=by exact⟨⟨_,rfl,.refl _⟩,rfl,trivial⟩):p:=h
theorem zE (h:p:=by exact⟨_,rfl,.refl _⟩):p:=h
end
theorem lg {l:ci} {st st':St} (h6:kJ (rho l) st.env st'.next st'.env) (h7:ic (rho l) st st'.next st'.heap) (h1:gN (rho l) (bW st'.heap)=true:=by exact rfl) (h2:st'.sz=st.sz:=by exact rfl) (h3:st'.bs=st.bs:=by exact rfl) (h4:Nat.ble st'.bs st'.next=true:=by exact rfl) (h5:eI st'.bs l=true:=by exact rfl):Le l st st' :=.of h1 h2 h3 h4 h5 h6 h7
theorem mT {t:Nat} {r:TyR} {u:TypeDesc} (h3:Tryz.prog.underlying t=some u) (h1:(Tryz.prog.info? t).map (fun i=>(i.size,i.bytes,i.zero))=some (r.size,r.bytes,some (zval r.zero)):=by kernel_rfl) (h2:(r.zero.okC&&Nat.beq r.zero.size r.size)=true:=by kernel_rfl) (h4:nw Tryz.prog r.desc u=true:=by kernel_rfl) (h5:r.desc.isAgg=r.zero.isAgg:=by kernel_rfl):TyOk Tryz.prog t r:=TyOk.mk' h1 h2 h3 h4 h5
abbrev r1:TyR:=u0
theorem ty1:TyOk Tryz.prog 1 r1:=mT Tryz.underlying1
abbrev r2:TyR:=u2
theorem ty2:TyOk Tryz.prog 2 r2:=mT Tryz.underlying2
abbrev r3:TyR:=u2
theorem ty3:TyOk Tryz.prog 3 r3:=mT Tryz.underlying3
abbrev r4:TyR := { desc :=.bool,size:=1,bytes:=1,zero :=.sc (.bool false) }
theorem ty4:TyOk Tryz.prog 4 r4:=mT Tryz.underlying4
abbrev r5:TyR:=u3
theorem ty5:TyOk Tryz.prog 5 r5:=mT Tryz.underlying5
abbrev r9:TyR := { desc :=.string,size:=1,bytes:=16,zero :=.sc (.string ⟨#[]⟩) }
theorem ty9:TyOk Tryz.prog 9 r9:=mT Tryz.underlying9
abbrev r12:TyR:=u4
theorem ty12:TyOk Tryz.prog 12 r12:=mT Tryz.underlying12
abbrev r13:TyR := { desc :=.struct [(0,9),(1,12)],size:=2,bytes:=24,zero :=.cons (.sc (.string ⟨#[]⟩)) (.cons (.sc (.int .u64 0)) (.nil)) }
theorem ty13:TyOk Tryz.prog 13 r13:=mT Tryz.underlying13
abbrev r20:TyR:=u5
theorem ty20:TyOk Tryz.prog 20 r20:=mT Tryz.underlying20
abbrev r21:TyR := { desc :=.int .i32,size:=1,bytes:=4,zero :=.sc (.int .i32 0) }
theorem ty21:TyOk Tryz.prog 21 r21:=mT Tryz.underlying21
abbrev r22:TyR := { desc :=.slice 117,size:=1,bytes:=24,zero :=.sc (.slice none 0 0) }
theorem ty22:TyOk Tryz.prog 22 r22:=mT Tryz.underlying22
abbrev r23:TyR := { desc :=.struct [(0,22)],size:=1,bytes:=24,zero :=.cons (.sc (.slice none 0 0)) (.nil) }
theorem ty23:TyOk Tryz.prog 23 r23:=mT Tryz.underlying23
abbrev r24:TyR := { desc :=.struct [(0,22)],size:=1,bytes:=24,zero :=.cons (.sc (.slice none 0 0)) (.nil) }
theorem ty24:TyOk Tryz.prog 24 r24:=mT Tryz.underlying24
abbrev r25:TyR := { desc :=.struct [(0,5),(1,5),(2,5),(3,5),(4,5),(5,5),(6,5),(7,24)],size:=8,bytes:=32,zero :=.cons (.sc (.int .u8 0)) (.cons (.sc (.int .u8 0)) (.cons (.sc (.int .u8 0)) (.cons (.sc (.int .u8 0)) (.cons (.sc (.int .u8 0)) (.cons (.sc (.int .u8 0)) (.cons (.sc (.int .u8 0)) (.cons (.cons (.sc (.slice none 0 0)) (.nil)) (.nil)))))))) }
theorem ty25:TyOk Tryz.prog 25 r25:=mT Tryz.underlying25
abbrev r26:TyR := { desc :=.struct [(0,5),(1,5),(2,5),(3,5),(4,5),(5,5),(6,5),(7,24)],size:=8,bytes:=32,zero :=.cons (.sc (.int .u8 0)) (.cons (.sc (.int .u8 0)) (.cons (.sc (.int .u8 0)) (.cons (.sc (.int .u8 0)) (.cons (.sc (.int .u8 0)) (.cons (.sc (.int .u8 0)) (.cons (.sc (.int .u8 0)) (.cons (.cons (.sc (.slice none 0 0)) (.nil)) (.nil)))))))) }
theorem ty26:TyOk Tryz.prog 26 r26:=mT Tryz.underlying26
abbrev r27:TyR := { desc :=.slice 60,size:=1,bytes:=24,zero :=.sc (.slice none 0 0) }
theorem ty27:TyOk Tryz.prog 27 r27:=mT Tryz.underlying27
abbrev r28:TyR := { desc :=.struct [(0,26),(8,27)],size:=9,bytes:=56,zero :=.cons (.cons (.sc (.int .u8 0)) (.cons (.sc (.int .u8 0)) (.cons (.sc (.int .u8 0)) (.cons (.sc (.int .u8 0)) (.cons (.sc (.int .u8 0)) (.cons (.sc (.int .u8 0)) (.cons (.sc (.int .u8 0)) (.cons (.cons (.sc (.slice none 0 0)) (.nil)) (.nil))))))))) (.cons (.sc (.slice none 0 0)) (.nil)) }
theorem ty28:TyOk Tryz.prog 28 r28:=mT Tryz.underlying28
abbrev r29:TyR := { desc :=.struct [(0,26),(8,27)],size:=9,bytes:=56,zero :=.cons (.cons (.sc (.int .u8 0)) (.cons (.sc (.int .u8 0)) (.cons (.sc (.int .u8 0)) (.cons (.sc (.int .u8 0)) (.cons (.sc (.int .u8 0)) (.cons (.sc (.int .u8 0)) (.cons (.sc (.int .u8 0)) (.cons (.cons (.sc (.slice none 0 0)) (.nil)) (.nil))))))))) (.cons (.sc (.slice none 0 0)) (.nil)) }
theorem ty29:TyOk Tryz.prog 29 r29:=mT Tryz.underlying29
abbrev r30:TyR:=u4
theorem ty30:TyOk Tryz.prog 30 r30:=mT Tryz.underlying30
abbrev r31:TyR := { desc :=.array 32 5,size:=32,bytes:=32,zero :=.vec 32 1 bp (List.replicate 32 0) }
theorem ty31:TyOk Tryz.prog 31 r31:=mT Tryz.underlying31
abbrev r32:TyR := { desc :=.array 32 5,size:=32,bytes:=32,zero :=.vec 32 1 bp (List.replicate 32 0) }
theorem ty32:TyOk Tryz.prog 32 r32:=mT Tryz.underlying32
abbrev r33:TyR := { desc :=.struct [(0,3),(1,3),(2,3),(3,3),(4,30),(5,30),(6,32),(38,5)],size:=39,bytes:=88,zero :=.cons (.sc (.int .i64 0)) (.cons (.sc (.int .i64 0)) (.cons (.sc (.int .i64 0)) (.cons (.sc (.int .i64 0)) (.cons (.sc (.int .u64 0)) (.cons (.sc (.int .u64 0)) (.cons (.vec 32 1 bp (List.replicate 32 0)) (.cons (.sc (.int .u8 0)) (.nil)))))))) }
theorem ty33:TyOk Tryz.prog 33 r33:=mT Tryz.underlying33
abbrev r34:TyR := { desc :=.struct [(0,3),(1,3),(2,3),(3,3),(4,30),(5,30),(6,32),(38,5)],size:=39,bytes:=88,zero :=.cons (.sc (.int .i64 0)) (.cons (.sc (.int .i64 0)) (.cons (.sc (.int .i64 0)) (.cons (.sc (.int .i64 0)) (.cons (.sc (.int .u64 0)) (.cons (.sc (.int .u64 0)) (.cons (.vec 32 1 bp (List.replicate 32 0)) (.cons (.sc (.int .u8 0)) (.nil)))))))) }
theorem ty34:TyOk Tryz.prog 34 r34:=mT Tryz.underlying34
abbrev r35:TyR := { desc :=.slice 49,size:=1,bytes:=24,zero :=.sc (.slice none 0 0) }
theorem ty35:TyOk Tryz.prog 35 r35:=mT Tryz.underlying35
abbrev r36:TyR := { desc :=.slice 48,size:=1,bytes:=24,zero :=.sc (.slice none 0 0) }
theorem ty36:TyOk Tryz.prog 36 r36:=mT Tryz.underlying36
abbrev r37:TyR := { desc :=.struct [(0,34),(39,35),(40,36)],size:=41,bytes:=136,zero :=.cons (.cons (.sc (.int .i64 0)) (.cons (.sc (.int .i64 0)) (.cons (.sc (.int .i64 0)) (.cons (.sc (.int .i64 0)) (.cons (.sc (.int .u64 0)) (.cons (.sc (.int .u64 0)) (.cons (.vec 32 1 bp (List.replicate 32 0)) (.cons (.sc (.int .u8 0)) (.nil))))))))) (.cons (.sc (.slice none 0 0)) (.cons (.sc (.slice none 0 0)) (.nil))) }
theorem ty37:TyOk Tryz.prog 37 r37:=mT Tryz.underlying37
abbrev r38:TyR := { desc :=.struct [(0,34),(39,35),(40,36)],size:=41,bytes:=136,zero :=.cons (.cons (.sc (.int .i64 0)) (.cons (.sc (.int .i64 0)) (.cons (.sc (.int .i64 0)) (.cons (.sc (.int .i64 0)) (.cons (.sc (.int .u64 0)) (.cons (.sc (.int .u64 0)) (.cons (.vec 32 1 bp (List.replicate 32 0)) (.cons (.sc (.int .u8 0)) (.nil))))))))) (.cons (.sc (.slice none 0 0)) (.cons (.sc (.slice none 0 0)) (.nil))) }
theorem ty38:TyOk Tryz.prog 38 r38:=mT Tryz.underlying38
abbrev r39:TyR:=u0
theorem ty39:TyOk Tryz.prog 39 r39:=mT Tryz.underlying39
abbrev r40:TyR:=u2
theorem ty40:TyOk Tryz.prog 40 r40:=mT Tryz.underlying40
abbrev r42:TyR:=u0
theorem ty42:TyOk Tryz.prog 42 r42:=mT Tryz.underlying42
abbrev r43:TyR:=u0
theorem ty43:TyOk Tryz.prog 43 r43:=mT Tryz.underlying43
abbrev r44:TyR:=u0
theorem ty44:TyOk Tryz.prog 44 r44:=mT Tryz.underlying44
abbrev r45:TyR:=u3
theorem ty45:TyOk Tryz.prog 45 r45:=mT Tryz.underlying45
abbrev r46:TyR := { desc :=.slice 5,size:=1,bytes:=24,zero :=.sc (.slice none 0 0) }
theorem ty46:TyOk Tryz.prog 46 r46:=mT Tryz.underlying46
abbrev r47:TyR := { desc :=.struct [(0,45),(1,3),(2,3),(3,46),(4,3)],size:=5,bytes:=56,zero :=.cons (.sc (.int .u8 0)) (.cons (.sc (.int .i64 0)) (.cons (.sc (.int .i64 0)) (.cons (.sc (.slice none 0 0)) (.cons (.sc (.int .i64 0)) (.nil))))) }
theorem ty47:TyOk Tryz.prog 47 r47:=mT Tryz.underlying47
abbrev r48:TyR := { desc :=.struct [(0,45),(1,3),(2,3),(3,46),(4,3)],size:=5,bytes:=56,zero :=.cons (.sc (.int .u8 0)) (.cons (.sc (.int .i64 0)) (.cons (.sc (.int .i64 0)) (.cons (.sc (.slice none 0 0)) (.cons (.sc (.int .i64 0)) (.nil))))) }
theorem ty48:TyOk Tryz.prog 48 r48:=mT Tryz.underlying48
abbrev r49:TyR := { desc :=.slice 52,size:=1,bytes:=24,zero :=.sc (.slice none 0 0) }
theorem ty49:TyOk Tryz.prog 49 r49:=mT Tryz.underlying49
abbrev r50:TyR:=u3
theorem ty50:TyOk Tryz.prog 50 r50:=mT Tryz.underlying50
abbrev r51:TyR := { desc :=.struct [(0,50),(1,3),(2,46)],size:=3,bytes:=40,zero :=.cons (.sc (.int .u8 0)) (.cons (.sc (.int .i64 0)) (.cons (.sc (.slice none 0 0)) (.nil))) }
theorem ty51:TyOk Tryz.prog 51 r51:=mT Tryz.underlying51
abbrev r52:TyR := { desc :=.struct [(0,50),(1,3),(2,46)],size:=3,bytes:=40,zero :=.cons (.sc (.int .u8 0)) (.cons (.sc (.int .i64 0)) (.cons (.sc (.slice none 0 0)) (.nil))) }
theorem ty52:TyOk Tryz.prog 52 r52:=mT Tryz.underlying52
abbrev r54:TyR:=u0
theorem ty54:TyOk Tryz.prog 54 r54:=mT Tryz.underlying54
abbrev r55:TyR:=u0
theorem ty55:TyOk Tryz.prog 55 r55:=mT Tryz.underlying55
abbrev r56:TyR:=u0
theorem ty56:TyOk Tryz.prog 56 r56:=mT Tryz.underlying56
abbrev r58:TyR:=u0
theorem ty58:TyOk Tryz.prog 58 r58:=mT Tryz.underlying58
abbrev r59:TyR := { desc :=.struct [(0,5),(1,5),(2,5),(3,46)],size:=4,bytes:=32,zero :=.cons (.sc (.int .u8 0)) (.cons (.sc (.int .u8 0)) (.cons (.sc (.int .u8 0)) (.cons (.sc (.slice none 0 0)) (.nil)))) }
theorem ty59:TyOk Tryz.prog 59 r59:=mT Tryz.underlying59
abbrev r60:TyR := { desc :=.struct [(0,5),(1,5),(2,5),(3,46)],size:=4,bytes:=32,zero :=.cons (.sc (.int .u8 0)) (.cons (.sc (.int .u8 0)) (.cons (.sc (.int .u8 0)) (.cons (.sc (.slice none 0 0)) (.nil)))) }
theorem ty60:TyOk Tryz.prog 60 r60:=mT Tryz.underlying60
abbrev r61:TyR:=u0
theorem ty61:TyOk Tryz.prog 61 r61:=mT Tryz.underlying61
abbrev r62:TyR:=u0
theorem ty62:TyOk Tryz.prog 62 r62:=mT Tryz.underlying62
abbrev r63:TyR:=u0
theorem ty63:TyOk Tryz.prog 63 r63:=mT Tryz.underlying63
abbrev r64:TyR:=u0
theorem ty64:TyOk Tryz.prog 64 r64:=mT Tryz.underlying64
abbrev r65:TyR:=u0
theorem ty65:TyOk Tryz.prog 65 r65:=mT Tryz.underlying65
abbrev r66:TyR:=u0
theorem ty66:TyOk Tryz.prog 66 r66:=mT Tryz.underlying66
abbrev r68:TyR:=u0
theorem ty68:TyOk Tryz.prog 68 r68:=mT Tryz.underlying68
abbrev r69:TyR:=u0
theorem ty69:TyOk Tryz.prog 69 r69:=mT Tryz.underlying69
abbrev r71:TyR:=u0
theorem ty71:TyOk Tryz.prog 71 r71:=mT Tryz.underlying71
abbrev r72:TyR:=u0
theorem ty72:TyOk Tryz.prog 72 r72:=mT Tryz.underlying72
abbrev r73:TyR:=u0
theorem ty73:TyOk Tryz.prog 73 r73:=mT Tryz.underlying73
abbrev r74:TyR := { desc :=.slice 9,size:=1,bytes:=24,zero :=.sc (.slice none 0 0) }
theorem ty74:TyOk Tryz.prog 74 r74:=mT Tryz.underlying74
abbrev r76:TyR:=u0
theorem ty76:TyOk Tryz.prog 76 r76:=mT Tryz.underlying76
abbrev r77:TyR := { desc :=.array 3 3,size:=3,bytes:=24,zero :=.cons (.sc (.int .i64 0)) (.cons (.sc (.int .i64 0)) (.cons (.sc (.int .i64 0)) (.nil))) }
theorem ty77:TyOk Tryz.prog 77 r77:=mT Tryz.underlying77
abbrev r78:TyR:=u0
theorem ty78:TyOk Tryz.prog 78 r78:=mT Tryz.underlying78
abbrev r79:TyR:=u0
theorem ty79:TyOk Tryz.prog 79 r79:=mT Tryz.underlying79
abbrev r80:TyR:=u0
theorem ty80:TyOk Tryz.prog 80 r80:=mT Tryz.underlying80
abbrev r81:TyR:=u0
theorem ty81:TyOk Tryz.prog 81 r81:=mT Tryz.underlying81
abbrev r82:TyR:=u0
theorem ty82:TyOk Tryz.prog 82 r82:=mT Tryz.underlying82
abbrev r83:TyR:=u0
theorem ty83:TyOk Tryz.prog 83 r83:=mT Tryz.underlying83
abbrev r84:TyR:=u0
theorem ty84:TyOk Tryz.prog 84 r84:=mT Tryz.underlying84
abbrev r85:TyR:=u0
theorem ty85:TyOk Tryz.prog 85 r85:=mT Tryz.underlying85
abbrev r86:TyR:=u0
theorem ty86:TyOk Tryz.prog 86 r86:=mT Tryz.underlying86
abbrev r87:TyR:=u0
theorem ty87:TyOk Tryz.prog 87 r87:=mT Tryz.underlying87
abbrev r88:TyR:=u0
theorem ty88:TyOk Tryz.prog 88 r88:=mT Tryz.underlying88
abbrev r89:TyR := { desc :=.slice 3,size:=1,bytes:=24,zero :=.sc (.slice none 0 0) }
theorem ty89:TyOk Tryz.prog 89 r89:=mT Tryz.underlying89
abbrev r90:TyR := { desc :=.struct [(0,3),(1,89)],size:=2,bytes:=32,zero :=.cons (.sc (.int .i64 0)) (.cons (.sc (.slice none 0 0)) (.nil)) }
theorem ty90:TyOk Tryz.prog 90 r90:=mT Tryz.underlying90
abbrev r91:TyR := { desc :=.struct [(0,3),(1,89)],size:=2,bytes:=32,zero :=.cons (.sc (.int .i64 0)) (.cons (.sc (.slice none 0 0)) (.nil)) }
theorem ty91:TyOk Tryz.prog 91 r91:=mT Tryz.underlying91
abbrev r93:TyR:=u0
theorem ty93:TyOk Tryz.prog 93 r93:=mT Tryz.underlying93
abbrev r94:TyR:=u0
theorem ty94:TyOk Tryz.prog 94 r94:=mT Tryz.underlying94
abbrev r95:TyR:=u0
theorem ty95:TyOk Tryz.prog 95 r95:=mT Tryz.underlying95
abbrev r96:TyR:=u1
theorem ty96:TyOk Tryz.prog 96 r96:=mT Tryz.underlying96
abbrev r97:TyR := { desc :=.struct [(0,96),(1,46)],size:=2,bytes:=32,zero :=.cons (.sc (.pointer none)) (.cons (.sc (.slice none 0 0)) (.nil)) }
theorem ty97:TyOk Tryz.prog 97 r97:=mT Tryz.underlying97
abbrev r98:TyR := { desc :=.struct [(0,96),(1,46)],size:=2,bytes:=32,zero :=.cons (.sc (.pointer none)) (.cons (.sc (.slice none 0 0)) (.nil)) }
theorem ty98:TyOk Tryz.prog 98 r98:=mT Tryz.underlying98
abbrev r99:TyR:=u5
theorem ty99:TyOk Tryz.prog 99 r99:=mT Tryz.underlying99
abbrev r100:TyR:=u5
theorem Bk:TyOk Tryz.prog 100 r100:=mT Tryz.underlying100
abbrev r102:TyR:=u0
theorem Bj:TyOk Tryz.prog 102 r102:=mT Tryz.underlying102
abbrev r103:TyR:=u0
theorem Bi:TyOk Tryz.prog 103 r103:=mT Tryz.underlying103
abbrev r104:TyR:=u0
theorem Bh:TyOk Tryz.prog 104 r104:=mT Tryz.underlying104
abbrev r105:TyR:=u0
theorem Bg:TyOk Tryz.prog 105 r105:=mT Tryz.underlying105
abbrev r106:TyR:=u0
theorem Bf:TyOk Tryz.prog 106 r106:=mT Tryz.underlying106
abbrev r107:TyR:=u0
theorem Be:TyOk Tryz.prog 107 r107:=mT Tryz.underlying107
abbrev r108:TyR:=u0
theorem Bc:TyOk Tryz.prog 108 r108:=mT Tryz.underlying108
abbrev r109:TyR:=u0
theorem Bb:TyOk Tryz.prog 109 r109:=mT Tryz.underlying109
abbrev r110:TyR:=u0
theorem Ba:TyOk Tryz.prog 110 r110:=mT Tryz.underlying110
abbrev r111:TyR:=u1
theorem A9:TyOk Tryz.prog 111 r111:=mT Tryz.underlying111
abbrev r112:TyR:=u0
theorem A8:TyOk Tryz.prog 112 r112:=mT Tryz.underlying112
abbrev r114:TyR:=u0
theorem A7:TyOk Tryz.prog 114 r114:=mT Tryz.underlying114
abbrev r116:TyR:=u0
theorem A6:TyOk Tryz.prog 116 r116:=mT Tryz.underlying116
abbrev r117:TyR := { desc :=.slice 119,size:=1,bytes:=24,zero :=.sc (.slice none 0 0) }
theorem A5:TyOk Tryz.prog 117 r117:=mT Tryz.underlying117
abbrev r118:TyR := { desc :=.struct [(0,5),(1,5),(2,5)],size:=3,bytes:=3,zero :=.cons (.sc (.int .u8 0)) (.cons (.sc (.int .u8 0)) (.cons (.sc (.int .u8 0)) (.nil))) }
theorem A4:TyOk Tryz.prog 118 r118:=mT Tryz.underlying118
abbrev r119:TyR := { desc :=.struct [(0,5),(1,5),(2,5)],size:=3,bytes:=3,zero :=.cons (.sc (.int .u8 0)) (.cons (.sc (.int .u8 0)) (.cons (.sc (.int .u8 0)) (.nil))) }
theorem A3:TyOk Tryz.prog 119 r119:=mT Tryz.underlying119
abbrev r120:TyR:=u0
theorem A2:TyOk Tryz.prog 120 r120:=mT Tryz.underlying120
abbrev r121:TyR:=u0
theorem A1:TyOk Tryz.prog 121 r121:=mT Tryz.underlying121
abbrev r122:TyR:=u0
theorem A0:TyOk Tryz.prog 122 r122:=mT Tryz.underlying122
abbrev r123:TyR:=u0
theorem AZ:TyOk Tryz.prog 123 r123:=mT Tryz.underlying123
abbrev r124:TyR:=u0
theorem AY:TyOk Tryz.prog 124 r124:=mT Tryz.underlying124
abbrev r125:TyR:=u4
theorem AX:TyOk Tryz.prog 125 r125:=mT Tryz.underlying125
abbrev r126:TyR:=u1
theorem AW:TyOk Tryz.prog 126 r126:=mT Tryz.underlying126
abbrev r127:TyR:=u0
theorem AU:TyOk Tryz.prog 127 r127:=mT Tryz.underlying127
abbrev r128:TyR:=u1
theorem AT:TyOk Tryz.prog 128 r128:=mT Tryz.underlying128
abbrev r129:TyR := { desc :=.struct [(0,74),(1,4)],size:=2,bytes:=32,zero :=.cons (.sc (.slice none 0 0)) (.cons (.sc (.bool false)) (.nil)) }
theorem AS:TyOk Tryz.prog 129 r129:=mT Tryz.underlying129
abbrev r130:TyR := { desc :=.struct [(0,74),(1,4)],size:=2,bytes:=32,zero :=.cons (.sc (.slice none 0 0)) (.cons (.sc (.bool false)) (.nil)) }
theorem AR:TyOk Tryz.prog 130 r130:=mT Tryz.underlying130
abbrev r131:TyR:=u0
theorem AQ:TyOk Tryz.prog 131 r131:=mT Tryz.underlying131
abbrev r132:TyR:=u0
theorem AP:TyOk Tryz.prog 132 r132:=mT Tryz.underlying132
abbrev r133:TyR:=u0
theorem AO:TyOk Tryz.prog 133 r133:=mT Tryz.underlying133
abbrev r134:TyR := { desc :=.cell,size:=1,bytes:=8,zero :=.sc (.map none) }
theorem AN:TyOk Tryz.prog 134 r134:=mT Tryz.underlying134
abbrev r135:TyR:=u0
theorem AM:TyOk Tryz.prog 135 r135:=mT Tryz.underlying135
abbrev r136:TyR:=u0
theorem AL:TyOk Tryz.prog 136 r136:=mT Tryz.underlying136
abbrev r139:TyR:=u0
theorem AK:TyOk Tryz.prog 139 r139:=mT Tryz.underlying139
abbrev r141:TyR:=u0
theorem AJ:TyOk Tryz.prog 141 r141:=mT Tryz.underlying141
abbrev r142:TyR:=u0
theorem AI:TyOk Tryz.prog 142 r142:=mT Tryz.underlying142
abbrev r144:TyR:=u0
theorem AH:TyOk Tryz.prog 144 r144:=mT Tryz.underlying144
abbrev r145:TyR:=u0
theorem AF:TyOk Tryz.prog 145 r145:=mT Tryz.underlying145
abbrev r146:TyR := { desc :=.array 6 3,size:=6,bytes:=48,zero :=.cons (.sc (.int .i64 0)) (.cons (.sc (.int .i64 0)) (.cons (.sc (.int .i64 0)) (.cons (.sc (.int .i64 0)) (.cons (.sc (.int .i64 0)) (.cons (.sc (.int .i64 0)) (.nil)))))) }
theorem AE:TyOk Tryz.prog 146 r146:=mT Tryz.underlying146
abbrev r147:TyR:=u0
theorem AD:TyOk Tryz.prog 147 r147:=mT Tryz.underlying147
abbrev r149:TyR:=u0
theorem AC:TyOk Tryz.prog 149 r149:=mT Tryz.underlying149
abbrev r150:TyR := { desc :=.array 24 5,size:=24,bytes:=24,zero :=.vec 24 1 bp (List.replicate 24 0) }
theorem AB:TyOk Tryz.prog 150 r150:=mT Tryz.underlying150
abbrev r151:TyR:=u0
theorem AA:TyOk Tryz.prog 151 r151:=mT Tryz.underlying151
abbrev r152:TyR:=u0
theorem Az:TyOk Tryz.prog 152 r152:=mT Tryz.underlying152
abbrev r154:TyR:=u0
theorem Ay:TyOk Tryz.prog 154 r154:=mT Tryz.underlying154
abbrev r155:TyR:=u0
theorem Ax:TyOk Tryz.prog 155 r155:=mT Tryz.underlying155
abbrev r156:TyR:=u0
theorem Aw:TyOk Tryz.prog 156 r156:=mT Tryz.underlying156
abbrev r157:TyR:=u0
theorem Av:TyOk Tryz.prog 157 r157:=mT Tryz.underlying157
abbrev r159:TyR:=u0
theorem Au:TyOk Tryz.prog 159 r159:=mT Tryz.underlying159
abbrev r160:TyR:=u0
theorem As:TyOk Tryz.prog 160 r160:=mT Tryz.underlying160
abbrev r161:TyR:=u0
theorem Ar:TyOk Tryz.prog 161 r161:=mT Tryz.underlying161
abbrev r162:TyR := { desc :=.cell,size:=1,bytes:=8,zero :=.sc (.map none) }
theorem Aq:TyOk Tryz.prog 162 r162:=mT Tryz.underlying162
abbrev r163:TyR:=u0
theorem Ap:TyOk Tryz.prog 163 r163:=mT Tryz.underlying163
abbrev r164:TyR := { desc :=.array 20 30,size:=20,bytes:=160,zero :=.cons (.sc (.int .u64 0)) (.cons (.sc (.int .u64 0)) (.cons (.sc (.int .u64 0)) (.cons (.sc (.int .u64 0)) (.cons (.sc (.int .u64 0)) (.cons (.sc (.int .u64 0)) (.cons (.sc (.int .u64 0)) (.cons (.sc (.int .u64 0)) (.cons (.sc (.int .u64 0)) (.cons (.sc (.int .u64 0)) (.cons (.sc (.int .u64 0)) (.cons (.sc (.int .u64 0)) (.cons (.sc (.int .u64 0)) (.cons (.sc (.int .u64 0)) (.cons (.sc (.int .u64 0)) (.cons (.sc (.int .u64 0)) (.cons (.sc (.int .u64 0)) (.cons (.sc (.int .u64 0)) (.cons (.sc (.int .u64 0)) (.cons (.sc (.int .u64 0)) (.nil)))))))))))))))))))) }
theorem Ao:TyOk Tryz.prog 164 r164:=mT Tryz.underlying164
abbrev r165:TyR := { desc :=.int .u32,size:=1,bytes:=4,zero :=.sc (.int .u32 0) }
theorem An:TyOk Tryz.prog 165 r165:=mT Tryz.underlying165
abbrev r166:TyR := { desc :=.array 65 5,size:=65,bytes:=65,zero :=.vec 65 1 bp (List.replicate 65 0) }
theorem Am:TyOk Tryz.prog 166 r166:=mT Tryz.underlying166
abbrev r167:TyR:=u0
theorem Al:TyOk Tryz.prog 167 r167:=mT Tryz.underlying167
abbrev r168:TyR:=u0
theorem Ak:TyOk Tryz.prog 168 r168:=mT Tryz.underlying168
abbrev r169:TyR:=u0
theorem Aj:TyOk Tryz.prog 169 r169:=mT Tryz.underlying169
abbrev r171:TyR:=u0
theorem Ai:TyOk Tryz.prog 171 r171:=mT Tryz.underlying171
abbrev r172:TyR:=u0
theorem Ah:TyOk Tryz.prog 172 r172:=mT Tryz.underlying172
abbrev r174:TyR:=u0
theorem Ag:TyOk Tryz.prog 174 r174:=mT Tryz.underlying174
abbrev r175:TyR := { desc :=.slice 74,size:=1,bytes:=24,zero :=.sc (.slice none 0 0) }
theorem Af:TyOk Tryz.prog 175 r175:=mT Tryz.underlying175
abbrev r176:TyR:=u0
theorem Ae:TyOk Tryz.prog 176 r176:=mT Tryz.underlying176
abbrev r177:TyR:=u0
theorem Ad:TyOk Tryz.prog 177 r177:=mT Tryz.underlying177
abbrev r178:TyR:=u2
theorem Ac:TyOk Tryz.prog 178 r178:=mT Tryz.underlying178
abbrev r179:TyR:=u0
theorem Ab:TyOk Tryz.prog 179 r179:=mT Tryz.underlying179
abbrev r180:TyR:=u0
theorem Aa:TyOk Tryz.prog 180 r180:=mT Tryz.underlying180
abbrev r181:TyR:=u1
theorem z8:TyOk Tryz.prog 181 r181:=mT Tryz.underlying181
abbrev r182:TyR:=u0
theorem z7:TyOk Tryz.prog 182 r182:=mT Tryz.underlying182
abbrev r183:TyR:=u0
theorem z6:TyOk Tryz.prog 183 r183:=mT Tryz.underlying183
abbrev r184:TyR := { desc :=.array 64 5,size:=64,bytes:=64,zero :=.vec 64 1 bp (List.replicate 64 0) }
theorem zZ:TyOk Tryz.prog 184 r184:=mT Tryz.underlying184
abbrev r185:TyR := { desc :=.array 256 5,size:=256,bytes:=256,zero :=.vec 256 1 bp (List.replicate 256 0) }
theorem zY:TyOk Tryz.prog 185 r185:=mT Tryz.underlying185
abbrev r186:TyR := { desc :=.struct [(0,5),(1,5)],size:=2,bytes:=2,zero :=.cons (.sc (.int .u8 0)) (.cons (.sc (.int .u8 0)) (.nil)) }
theorem zL:TyOk Tryz.prog 186 r186:=mT Tryz.underlying186
abbrev r187:TyR := { desc :=.struct [(0,5),(1,5)],size:=2,bytes:=2,zero :=.cons (.sc (.int .u8 0)) (.cons (.sc (.int .u8 0)) (.nil)) }
theorem zA:TyOk Tryz.prog 187 r187:=mT Tryz.underlying187
abbrev r188:TyR := { desc :=.array 16 187,size:=32,bytes:=32,zero :=.cons (.cons (.sc (.int .u8 0)) (.cons (.sc (.int .u8 0)) (.nil))) (.cons (.cons (.sc (.int .u8 0)) (.cons (.sc (.int .u8 0)) (.nil))) (.cons (.cons (.sc (.int .u8 0)) (.cons (.sc (.int .u8 0)) (.nil))) (.cons (.cons (.sc (.int .u8 0)) (.cons (.sc (.int .u8 0)) (.nil))) (.cons (.cons (.sc (.int .u8 0)) (.cons (.sc (.int .u8 0)) (.nil))) (.cons (.cons (.sc (.int .u8 0)) (.cons (.sc (.int .u8 0)) (.nil))) (.cons (.cons (.sc (.int .u8 0)) (.cons (.sc (.int .u8 0)) (.nil))) (.cons (.cons (.sc (.int .u8 0)) (.cons (.sc (.int .u8 0)) (.nil))) (.cons (.cons (.sc (.int .u8 0)) (.cons (.sc (.int .u8 0)) (.nil))) (.cons (.cons (.sc (.int .u8 0)) (.cons (.sc (.int .u8 0)) (.nil))) (.cons (.cons (.sc (.int .u8 0)) (.cons (.sc (.int .u8 0)) (.nil))) (.cons (.cons (.sc (.int .u8 0)) (.cons (.sc (.int .u8 0)) (.nil))) (.cons (.cons (.sc (.int .u8 0)) (.cons (.sc (.int .u8 0)) (.nil))) (.cons (.cons (.sc (.int .u8 0)) (.cons (.sc (.int .u8 0)) (.nil))) (.cons (.cons (.sc (.int .u8 0)) (.cons (.sc (.int .u8 0)) (.nil))) (.cons (.cons (.sc (.int .u8 0)) (.cons (.sc (.int .u8 0)) (.nil))) (.nil)))))))))))))))) }
theorem zy:TyOk Tryz.prog 188 r188:=mT Tryz.underlying188
abbrev r190:TyR:=u0
theorem zx:TyOk Tryz.prog 190 r190:=mT Tryz.underlying190
abbrev r191:TyR:=u0
theorem zw:TyOk Tryz.prog 191 r191:=mT Tryz.underlying191
abbrev r192:TyR := { desc :=.struct [(0,9),(1,9),(2,100)],size:=3,bytes:=48,zero :=.cons (.sc (.string ⟨#[]⟩)) (.cons (.sc (.string ⟨#[]⟩)) (.cons (.sc .nilIface) (.nil))) }
theorem zu:TyOk Tryz.prog 192 r192:=mT Tryz.underlying192
abbrev r193:TyR := { desc :=.struct [(0,9),(1,9),(2,100)],size:=3,bytes:=48,zero :=.cons (.sc (.string ⟨#[]⟩)) (.cons (.sc (.string ⟨#[]⟩)) (.cons (.sc .nilIface) (.nil))) }
theorem zt:TyOk Tryz.prog 193 r193:=mT Tryz.underlying193
abbrev r194:TyR:=u0
theorem zr:TyOk Tryz.prog 194 r194:=mT Tryz.underlying194
abbrev r196:TyR:=u0
theorem zq:TyOk Tryz.prog 196 r196:=mT Tryz.underlying196
abbrev r197:TyR:=u1
theorem zp:TyOk Tryz.prog 197 r197:=mT Tryz.underlying197
abbrev r198:TyR := { desc :=.struct [(0,9)],size:=1,bytes:=16,zero :=.cons (.sc (.string ⟨#[]⟩)) (.nil) }
theorem zo:TyOk Tryz.prog 198 r198:=mT Tryz.underlying198
abbrev r199:TyR := { desc :=.struct [(0,9)],size:=1,bytes:=16,zero :=.cons (.sc (.string ⟨#[]⟩)) (.nil) }
theorem zn:TyOk Tryz.prog 199 r199:=mT Tryz.underlying199
abbrev r202:TyR := { desc :=.array 0 16,size:=0,bytes:=0,zero :=.nil }
theorem y9:TyOk Tryz.prog 202 r202:=mT Tryz.underlying202
abbrev r207:TyR:=u0
theorem y8:TyOk Tryz.prog 207 r207:=mT Tryz.underlying207
abbrev tab:Tab:=[(1,r1),(2,r2),(3,r3),(4,r4),(5,r5),(9,r9),(12,r12),(13,r13),(20,r20),(21,r21),(22,r22),(23,r23),(24,r24),(25,r25),(26,r26),(27,r27),(28,r28),(29,r29),(30,r30),(31,r31),(32,r32),(33,r33),(34,r34),(35,r35),(36,r36),(37,r37),(38,r38),(39,r39),(40,r40),(42,r42),(43,r43),(44,r44),(45,r45),(46,r46),(47,r47),(48,r48),(49,r49),(50,r50),(51,r51),(52,r52),(54,r54),(55,r55),(56,r56),(58,r58),(59,r59),(60,r60),(61,r61),(62,r62),(63,r63),(64,r64),(65,r65),(66,r66),(68,r68),(69,r69),(71,r71),(72,r72),(73,r73),(74,r74),(76,r76),(77,r77),(78,r78),(79,r79),(80,r80),(81,r81),(82,r82),(83,r83),(84,r84),(85,r85),(86,r86),(87,r87),(88,r88),(89,r89),(90,r90),(91,r91),(93,r93),(94,r94),(95,r95),(96,r96),(97,r97),(98,r98),(99,r99),(100,r100),(102,r102),(103,r103),(104,r104),(105,r105),(106,r106),(107,r107),(108,r108),(109,r109),(110,r110),(111,r111),(112,r112),(114,r114),(116,r116),(117,r117),(118,r118),(119,r119),(120,r120),(121,r121),(122,r122),(123,r123),(124,r124),(125,r125),(126,r126),(127,r127),(128,r128),(129,r129),(130,r130),(131,r131),(132,r132),(133,r133),(134,r134),(135,r135),(136,r136),(139,r139),(141,r141),(142,r142),(144,r144),(145,r145),(146,r146),(147,r147),(149,r149),(150,r150),(151,r151),(152,r152),(154,r154),(155,r155),(156,r156),(157,r157),(159,r159),(160,r160),(161,r161),(162,r162),(163,r163),(164,r164),(165,r165),(166,r166),(167,r167),(168,r168),(169,r169),(171,r171),(172,r172),(174,r174),(175,r175),(176,r176),(177,r177),(178,r178),(179,r179),(180,r180),(181,r181),(182,r182),(183,r183),(184,r184),(185,r185),(186,r186),(187,r187),(188,r188),(190,r190),(191,r191),(192,r192),(193,r193),(194,r194),(196,r196),(197,r197),(198,r198),(199,r199),(202,r202),(207,r207)]
theorem aa:an Tryz.prog tab :=
 (an.cons ty1 (an.cons ty2 (an.cons ty3 (an.cons ty4 (an.cons ty5 (an.cons ty9 (an.cons ty12 (an.cons ty13 (an.cons ty20 (an.cons ty21 (an.cons ty22 (an.cons ty23 (an.cons ty24 (an.cons ty25 (an.cons ty26 (an.cons ty27 (an.cons ty28 (an.cons ty29 (an.cons ty30 (an.cons ty31 (an.cons ty32 (an.cons ty33 (an.cons ty34 (an.cons ty35 (an.cons ty36 (an.cons ty37 (an.cons ty38 (an.cons ty39 (an.cons ty40 (an.cons ty42 (an.cons ty43 (an.cons ty44 (an.cons ty45 (an.cons ty46 (an.cons ty47 (an.cons ty48 (an.cons ty49 (an.cons ty50 (an.cons ty51 (an.cons ty52 (an.cons ty54 (an.cons ty55 (an.cons ty56 (an.cons ty58 (an.cons ty59 (an.cons ty60 (an.cons ty61 (an.cons ty62 (an.cons ty63 (an.cons ty64 (an.cons ty65 (an.cons ty66 (an.cons ty68 (an.cons ty69 (an.cons ty71 (an.cons ty72 (an.cons ty73 (an.cons ty74 (an.cons ty76 (an.cons ty77 (an.cons ty78 (an.cons ty79 (an.cons ty80 (an.cons ty81 (an.cons ty82 (an.cons ty83 (an.cons ty84 (an.cons ty85 (an.cons ty86 (an.cons ty87 (an.cons ty88 (an.cons ty89 (an.cons ty90 (an.cons ty91 (an.cons ty93 (an.cons ty94 (an.cons ty95 (an.cons ty96 (an.cons ty97 (an.cons ty98 (an.cons ty99 (an.cons Bk (an.cons Bj (an.cons Bi (an.cons Bh (an.cons Bg (an.cons Bf (an.cons Be (an.cons Bc (an.cons Bb (an.cons Ba (an.cons A9 (an.cons A8 (an.cons A7 (an.cons A6 (an.cons A5 (an.cons A4 (an.cons A3 (an.cons A2 (an.cons A1 (an.cons A0 (an.cons AZ (an.cons AY (an.cons AX (an.cons AW (an.cons AU (an.cons AT (an.cons AS (an.cons AR (an.cons AQ (an.cons AP (an.cons AO (an.cons AN (an.cons AM (an.cons AL (an.cons AK (an.cons AJ (an.cons AI (an.cons AH (an.cons AF (an.cons AE (an.cons AD (an.cons AC (an.cons AB (an.cons AA (an.cons Az (an.cons Ay (an.cons Ax (an.cons Aw (an.cons Av (an.cons Au (an.cons As (an.cons Ar (an.cons Aq (an.cons Ap (an.cons Ao (an.cons An (an.cons Am (an.cons Al (an.cons Ak (an.cons Aj (an.cons Ai (an.cons Ah (an.cons Ag (an.cons Af (an.cons Ae (an.cons Ad (an.cons Ac (an.cons Ab (an.cons Aa (an.cons z8 (an.cons z7 (an.cons z6 (an.cons zZ (an.cons zY (an.cons zL (an.cons zA (an.cons zy (an.cons zx (an.cons zw (an.cons zu (an.cons zt (an.cons zr (an.cons zq (an.cons zp (an.cons zo (an.cons zn (an.cons y9 (an.cons y8 an.nil)))))))))))))))))))))))))))))))))))))))))))))))))))))))))))))))))))))))))))))))))))))))))))))))))))))))))))))))))))))))))))))))))))))))))))))))))))))))))))))))))))))))))
end Go.Proofs.YtpmhnpnmpjimnaaGreatDoor
namespace Go.Proofs.YtpmhnpnmpjimnaaGreatDoor
open Go.Eng
section
variable {sz n : Nat} {env : Env} {h : Upds} {all l : List Oper} {Q : Exit → St → Prop} {y : Code} {id : Nat} {ops : Array Oper} {K : Env → Upds → Nat → Prop} {d : Tmp} {op : Op} {ty : TypeId} {pos : String} {af : Array Edge} {v : AV}
theorem rC (h1:RegS Tryz.prog all sz l (n+8) ((d,v)::env) h K) (hd:Nat.blt d sz=true:=by exact rfl) (hop:∀K:Option AV→Upds→Prop,K (some v) []→opD tab op (au env) (bc h) n K:=by exact fun _ h=>h) :
  RegS Tryz.prog all sz (⟨some d,op,ty,pos,af,none⟩::l) n env h K:=mX hd (ay aa hop) h1
theorem rQ (hs:aq Tryz.prog op env h n (some v) []) (h1:RegS Tryz.prog all sz l (n+8) ((d,v)::env) h K) (hd:Nat.blt d sz=true:=by exact rfl) :
  RegS Tryz.prog all sz (⟨some d,op,ty,pos,af,none⟩::l) n env h K:=mX hd hs h1
theorem rN {x:Nat×Option Row} (h1:RegS Tryz.prog all sz l (n+8) ((d,v)::env) (x::h) K) (hd:Nat.blt d sz=true:=by exact rfl) (hop:∀K:Option AV→Upds→Prop,K (some v) [x]→opD tab op (au env) (bc h) n K:=by exact fun _ h=>h) :
  RegS Tryz.prog all sz (⟨some d,op,ty,pos,af,none⟩::l) n env h K:=aN (ay aa hop) hd h1
theorem nS {b:Code} (h1:WC Tryz.prog sz b Q env h n):RegS Tryz.prog all sz [] n env h (RegK (SeqQ Tryz.prog b Q) sz):=aB (aU h1)
theorem sR (h1:RegS Tryz.prog ops.toList sz ops.toList n env h (RegK (SeqQ Tryz.prog y Q) sz)):WC Tryz.prog sz (.seq (.region id ops false) y) Q env h n:=b9 (ao h1)
theorem kS {b:Code} (h1:WC Tryz.prog sz b Q env h n):WC Tryz.prog sz .skip (SeqQ Tryz.prog b Q) env h n:=bG (aU h1)
theorem nQ {b c:Code} (h1:WC Tryz.prog sz b (SeqQ Tryz.prog c Q) env h n):RegS Tryz.prog all sz [] n env h (RegK (SeqQ Tryz.prog (.seq b c) Q) sz):=nS (b9 h1)
theorem qR {c:Code} (h1:RegS Tryz.prog ops.toList sz ops.toList n env h (RegK (SeqQ Tryz.prog y (SeqQ Tryz.prog c Q)) sz)):WC Tryz.prog sz (.seq (.seq (.region id ops false) y) c) Q env h n:=b9 (sR h1)
theorem lf {l:ci} {st st':St} (h1:gN (rho l) (bW st'.heap)=true:=by exact rfl) (h2:st'.sz=st.sz:=by exact rfl) (h3:st'.bs=st.bs:=by exact rfl) (h4:Nat.ble st'.bs st'.next=true:=by exact rfl) (h5:eI st'.bs l=true:=by exact rfl)
  (h6:kJ (rho l) st.env st'.next st'.env:=by exact⟨⟨_,rfl,AVLe.of_eq rfl⟩,rfl,trivial⟩) (h7:ic (rho l) st st'.next st'.heap:=by exact trivial):Le l st st' :=.of h1 h2 h3 h4 h5 h6 h7
theorem nR (h1:RegS Tryz.prog ops.toList sz ops.toList n env h (RegK (SeqQ Tryz.prog y Q) sz)):RegS Tryz.prog all sz [] n env h (RegK (SeqQ Tryz.prog (.seq (.region id ops false) y) Q) sz):=nS (sR h1)
section
variable {dd : Option Tmp} {j g : Nat} {want b : Bool} {env' : Env}
theorem rO (h1:RegS Tryz.prog all sz (⟨dd,op,ty,pos,af,none⟩::l) n env h K) (hj:((all[j]?).bind (·.dst))=some g:=by exact rfl) (hb:lk env g=some (.bool b):=by exact rfl) (he:b=want:=by assumption) :
  RegS Tryz.prog all sz (⟨dd,op,ty,pos,af,some (j,want)⟩::l) n env h K:=uH hj hb he h1
theorem rP (h1:RegS Tryz.prog all sz (⟨dd,op,ty,pos,af,none⟩::l) n env h K) (hj:((all[j]?).bind (·.dst))=some g:=by exact rfl) (hb:lk env g=some (.bool b):=by exact rfl) (he:b=want:=by exact rfl) :
  RegS Tryz.prog all sz (⟨dd,op,ty,pos,af,some (j,want)⟩::l) n env h K:=uH hj hb he h1
theorem rS (h1:RegS Tryz.prog all sz l (n+8) env' h K) (hj:((all[j]?).bind (·.dst))=some g:=by exact rfl) (hb:lk env g=some (.bool b):=by exact rfl) (he:b = !want:=by assumption) (hd:fz dd sz=true:=by exact rfl) (he':putE dd none env=env':=by exact rfl) :
  RegS Tryz.prog all sz (⟨dd,op,ty,pos,af,some (j,want)⟩::l) n env h K:=oX hj hb he hd he' h1
theorem rT (h1:RegS Tryz.prog all sz l (n+8) env' h K) (hj:((all[j]?).bind (·.dst))=some g:=by exact rfl) (hb:lk env g=some (.bool b):=by exact rfl) (he:b = !want:=by exact rfl) (hd:fz dd sz=true:=by exact rfl) (he':putE dd none env=env':=by exact rfl) :
  RegS Tryz.prog all sz (⟨dd,op,ty,pos,af,some (j,want)⟩::l) n env h K:=oX hj hb he hd he' h1
theorem rU (h1:RegS Tryz.prog all sz l (n+8) env' h K) (hj:((all[j]?).bind (·.dst))=some g:=by exact rfl) (hb:lk env g=some .undef:=by exact rfl) (hd:fz dd sz=true:=by exact rfl) (he':putE dd none env=env':=by exact rfl) :
  RegS Tryz.prog all sz (⟨dd,op,ty,pos,af,some (j,want)⟩::l) n env h K:=s8 hj hb hd he' h1
end
section
variable {t t' e s m : Nat} {x z i : Operand}
theorem iA {re:TyR} {α:Type} {enc:α→D} {xs:List α} {k:IntKind} {m:Int} {el:α} (hx:au env x=some (.d (.arr s enc xs)):=by exact rfl) (hi:au env i=some (.int k m):=by exact rfl) (ht:aT tab t=some (.slice e):=by exact rfl) (he:lk tab e=some re:=by exact rfl) (hs:Nat.beq re.size s=true:=by exact rfl)
  (h0:0≤m:=by omega) (hel:xs[m.toNat]?=some el:=by assumption):aq Tryz.prog (.indexAddr t x i) env h n (some (.iptr (enc el))) []:=aA aa ht he hs hx hi h0 hel
theorem iL {y:D} (hx:au env x=some (.iptr y):=by exact rfl) (hs:bm tab t (.d y)=true:=by exact rfl):aq Tryz.prog (.load t x) env h n (some (.d y)) []:=bA aa hx hs
theorem iB {r:Nat} {p:List Step} {ty:TypeId} {a v:AV} (hx:au env x=some (.ptr r p):=by exact rfl) (hr:bc h r=some (.box ty a):=by exact rfl) (hv:ASub a p v:=by exact⟨_,rfl,rfl⟩) (hs:bm tab t v=true:=by exact rfl):aq Tryz.prog (.load t x) env h n (some v) []:=cI aa hx hr hv hs
theorem iM {r:Nat} {p:List Step} {ty:TypeId} {a v:AV} (hx:au env x=some (.ptr r p):=by exact rfl) (hr:bc h r=some (.box ty a):=by exact rfl) (hv:ASub a p v:=by exact rfl) (hs:bm tab t v=true:=by exact rfl):aq Tryz.prog (.load t x) env h n (some v) []:=cI aa hx hr hv hs
theorem iE {α:Type} {enc:α→D} {xs:List α} (hx:au env x=some (.d (.arr s enc xs)):=by exact rfl) (ht:aT tab t=some (.slice e):=by exact rfl) :
  aq Tryz.prog (.call { callee :=.builtin .len,args := #[x],argTypes := #[t] }) env h n (some (.int .i64 xs.length)) []:=dM aa hx ht
theorem iF {c x y:Operand} {b:Bool} {v:AV} (hc:au env c=some (.bool b):=by exact rfl) (hb:b=false:=by assumption) (hv:au env y=some v:=by exact rfl):aq Tryz.prog (.pick c x y) env h n (some v) []:=uQ aa hc hb hv
theorem iG {c x y:Operand} {b:Bool} {v:AV} (hc:au env c=some (.bool b):=by exact rfl) (hb:b=false:=by exact rfl) (hv:au env y=some v:=by exact rfl):aq Tryz.prog (.pick c x y) env h n (some v) []:=uQ aa hc hb hv
theorem iT {c x y:Operand} {b:Bool} {v:AV} (hc:au env c=some (.bool b):=by exact rfl) (hb:b=true:=by assumption) (hv:au env x=some v:=by exact rfl):aq Tryz.prog (.pick c x y) env h n (some v) []:=uP aa hc hb hv
theorem iU {c x y:Operand} {b:Bool} {v:AV} (hc:au env c=some (.bool b):=by exact rfl) (hb:b=true:=by exact rfl) (hv:au env x=some v:=by exact rfl):aq Tryz.prog (.pick c x y) env h n (some v) []:=uP aa hc hb hv
theorem iD {x y:Operand} {t t':TypeId} {a b:Int} (hx:au env x=some (.int .i64 a):=by exact rfl) (hy:au env y=some (.int .i64 b):=by exact rfl) (h0 : -9223372036854775808≤a+b:=by omega) (h1:a+b≤9223372036854775807:=by omega) :
  aq Tryz.prog (.binOp .add t x y t') env h n (some (.int .i64 (a+b))) []:=bk aa hx hy (aI h0 h1)
theorem iS {r:TyR} {offs:List (Nat×Nat)} {parts:Array (Nat×Operand)} {q:AV} (ht:lk tab t=some r:=by exact rfl) (hd:r.desc=.struct offs:=by exact rfl) (hq:gJ tab offs (au env) parts.toList (.d r.zero)=some q:=by exact rfl) (hag:q.isAgg=true:=by exact rfl) :
  aq Tryz.prog (.build t parts) env h n (some q) []:=ot aa ht hd hq hag
theorem rW {y:Operand} {r:Nat} {p:List Step} {row row':Row} (h1:RegS Tryz.prog all sz l (n+8) env ((r,some row')::h) K) (hx:au env x=some (.ptr r p):=by exact rfl) (hy:au env y=some v:=by exact rfl) (hr:bc h r=some row:=by exact rfl) (hv:RUpd row p v row':=by exact⟨_,⟨rfl,rfl,rfl⟩,rfl⟩) (hs:bm tab t v=true:=by exact rfl) :
  RegS Tryz.prog all sz (⟨none,.store t x y,ty,pos,af,none⟩::l) n env h K:=aW (aF aa hx hy hr hv hs) h1
theorem rX {y:Operand} {r:Nat} {p:List Step} {row row':Row} (h1:RegS Tryz.prog all sz l (n+8) env ((r,some row')::h) K) (hx:au env x=some (.ptr r p):=by exact rfl) (hy:au env y=some v:=by exact rfl) (hr:bc h r=some row:=by exact rfl) (hv:RUpd row p v row':=by exact⟨_,⟨_,⟨_,⟨rfl,rfl,rfl⟩,rfl⟩,rfl⟩,rfl⟩) (hs:bm tab t v=true:=by exact rfl) :
  RegS Tryz.prog all sz (⟨none,.store t x y,ty,pos,af,none⟩::l) n env h K:=aW (aF aa hx hy hr hv hs) h1
end
section
variable {c : Operand} {x y : Code} {b : Bool}
theorem wT (h1:WC Tryz.prog sz x Q env h n) (hc:au env c=some (.bool b):=by exact rfl) (hb:b=true:=by assumption):WC Tryz.prog sz (.cond c x y) Q env h n:=rB hc hb h1
theorem wV (h1:WC Tryz.prog sz x Q env h n) (hc:au env c=some (.bool b):=by exact rfl) (hb:b=true:=by exact rfl):WC Tryz.prog sz (.cond c x y) Q env h n:=rB hc hb h1
theorem wF (h1:WC Tryz.prog sz y Q env h n) (hc:au env c=some (.bool b):=by exact rfl) (hb:b=false:=by assumption):WC Tryz.prog sz (.cond c x y) Q env h n:=oF hc hb h1
theorem wG (h1:WC Tryz.prog sz y Q env h n) (hc:au env c=some (.bool b):=by exact rfl) (hb:b=false:=by exact rfl):WC Tryz.prog sz (.cond c x y) Q env h n:=oF hc hb h1
end
section
variable {acc : List bP}
theorem dC (ks rs:List Nat) (h1:RegD Tryz.prog all sz l (n+8) ((d,v)::env) h (⟨⟨some d,op,ty,pos,af,none⟩,ks,rs,some v,[]⟩::acc) K) (hd:Nat.blt d sz=true:=by exact rfl) (hop:∀K:Option AV→Upds→Prop,K (some v) []→opD tab op (au (only ks env)) (bc (only rs h)) n K:=by exact fun _ h=>h) :
  RegD Tryz.prog all sz (⟨some d,op,ty,pos,af,none⟩::l) n env h acc K:=v6 ks rs hd (ay aa hop) h1
theorem dQ (ks rs:List Nat) (hs:aq Tryz.prog op (only ks env) (only rs h) n (some v) []) (h1:RegD Tryz.prog all sz l (n+8) ((d,v)::env) h (⟨⟨some d,op,ty,pos,af,none⟩,ks,rs,some v,[]⟩::acc) K) (hd:Nat.blt d sz=true:=by exact rfl) :
  RegD Tryz.prog all sz (⟨some d,op,ty,pos,af,none⟩::l) n env h acc K:=v6 ks rs hd hs h1
end
end
section
variable {sz n : Nat} {env : Env} {h : Upds} {all l : List Oper} {Q : Exit → St → Prop} {st : St} {b x y c : Code} {id : Nat} {ops : Array Oper} {cc : Operand} {bb : Bool}
theorem zT (h1:Q .ret ⟨env,h,n,sz,64⟩):RegS Tryz.prog all sz [] n env h (RegK (SeqQ Tryz.prog .ret Q) sz):=nS (cg h1)
theorem zB (h1:Q .ret st):BlkQ id (SeqQ Tryz.prog b Q) .ret st:=h1
theorem zC (h1:WC Tryz.prog sz b Q env h n):BlkQ id (SeqQ Tryz.prog b Q) .normal ⟨env,h,n,sz,64⟩:=h1
theorem zW (h1:RegS Tryz.prog ops.toList sz ops.toList n env h (RegK (SeqQ Tryz.prog y (SeqQ Tryz.prog c Q)) sz)):RegS Tryz.prog all sz [] n env h (RegK (SeqQ Tryz.prog (.seq (.seq (.region id ops false) y) c) Q) sz):=nQ (sR h1)
theorem zS {i:Nat} (h1:RegS Tryz.prog ops.toList sz ops.toList n env h (RegK (SeqQ Tryz.prog y (BlkQ i Q)) sz)):WC Tryz.prog sz (.block i (.seq (.region id ops false) y)) Q env h n:=aZ (sR h1)
theorem zP (h1:WC Tryz.prog sz c (BlkQ id Q) env h n):RegS Tryz.prog all sz [] n env h (RegK (SeqQ Tryz.prog (.block id c) Q) sz):=nS (aZ h1)
theorem zG (h1:WC Tryz.prog sz y Q env h n) (hc:au env cc=some (.bool bb):=by exact rfl) (hb:bb=false:=by assumption):RegS Tryz.prog all sz [] n env h (RegK (SeqQ Tryz.prog (.cond cc x y) Q) sz):=nS (wF h1 hc hb)
theorem zI (h1:WC Tryz.prog sz x Q env h n) (hc:au env cc=some (.bool bb):=by exact rfl) (hb:bb=true:=by assumption):RegS Tryz.prog all sz [] n env h (RegK (SeqQ Tryz.prog (.cond cc x y) Q) sz):=nS (wT h1 hc hb)
theorem zJ (h1:WC Tryz.prog sz y Q env h n) (hc:au env cc=some (.bool bb):=by exact rfl) (hb:bb=false:=by exact rfl):RegS Tryz.prog all sz [] n env h (RegK (SeqQ Tryz.prog (.cond cc x y) Q) sz):=nS (wG h1 hc hb)
theorem zO (h1:WC Tryz.prog sz x Q env h n) (hc:au env cc=some (.bool bb):=by exact rfl) (hb:bb=true:=by exact rfl):RegS Tryz.prog all sz [] n env h (RegK (SeqQ Tryz.prog (.cond cc x y) Q) sz):=nS (wV h1 hc hb)
theorem zQ (h1:WC Tryz.prog sz x (SeqQ Tryz.prog y Q) env h n):WC Tryz.prog sz .skip (SeqQ Tryz.prog (.seq x y) Q) env h n:=kS (b9 h1)
theorem zX.{u} {α:Type u} {mk:α→St} {Inv:α→Prop} {μ:α→Nat} {a:α} (h1:WC Tryz.prog sz b Q env h n):WC Tryz.prog sz (.exit id) (SeqQ Tryz.prog y (LoopQ (BlkQ id (SeqQ Tryz.prog b Q)) mk Inv μ a)) env h n:=dA (gg (eJ (gq (aU h1))))
variable {K : Env → Upds → Nat → Prop} {d e f : Tmp} {op oq o3 : Op} {ty tz t3 : TypeId} {pos pot p3 : String} {af ag a3 : Array Edge} {v w u : AV}
theorem zD (h1:RegS Tryz.prog all sz l (n+8+8) ((e,w)::(d,v)::env) h K) (hd:Nat.blt d sz=true:=by exact rfl) (hop:∀K:Option AV→Upds→Prop,K (some v) []→opD tab op (au env) (bc h) n K:=by exact fun _ h=>h) (he:Nat.blt e sz=true:=by exact rfl) (hoq:∀K:Option AV→Upds→Prop,K (some w) []→opD tab oq (au ((d,v)::env)) (bc h) (n+8) K:=by exact fun _ h=>h) :
  RegS Tryz.prog all sz (⟨some d,op,ty,pos,af,none⟩::⟨some e,oq,tz,pot,ag,none⟩::l) n env h K:=rC (rC h1 he hoq) hd hop
theorem zU (h1:RegS Tryz.prog all sz l (n+8+8+8) ((f,u)::(e,w)::(d,v)::env) h K) (hd:Nat.blt d sz=true:=by exact rfl) (hop:∀K:Option AV→Upds→Prop,K (some v) []→opD tab op (au env) (bc h) n K:=by exact fun _ h=>h) (he:Nat.blt e sz=true:=by exact rfl) (hoq:∀K:Option AV→Upds→Prop,K (some w) []→opD tab oq (au ((d,v)::env)) (bc h) (n+8) K:=by exact fun _ h=>h) (hf:Nat.blt f sz=true:=by exact rfl) (ho3:∀K:Option AV→Upds→Prop,K (some u) []→opD tab o3 (au ((e,w)::(d,v)::env)) (bc h) (n+8+8) K:=by exact fun _ h=>h) :
  RegS Tryz.prog all sz (⟨some d,op,ty,pos,af,none⟩::⟨some e,oq,tz,pot,ag,none⟩::⟨some f,o3,t3,p3,a3,none⟩::l) n env h K:=rC (zD h1 he hoq hf ho3) hd hop
end
end Go.Proofs.YtpmhnpnmpjimnaaGreatDoor
namespace Go.Proofs.YtpmhnpnmpjimnaaGreatDoor
open Go.Eng Go.Plain
set_option maxHeartbeats 32000000
set_option maxRecDepth 20000
abbrev bo (b:Bool):D :=.sc (.bool b)
abbrev i6 (n:Int):D :=.sc (.int .i64 n)
abbrev u8s (n:Int):D :=.sc (.int .u8 n)
abbrev encB (l:List UInt8):D :=.arr 1 bp (byI l)
theorem iK (a b:List UInt8):byI a++byI b=byI (a++b):=by simp[byI]
theorem ch (l:List UInt8):(byI l).length=l.length:=by simp[byI]
theorem jQ {l:List UInt8} {j:Nat} {b:UInt8} (h:l[j]?=some b):(byI l)[j]?=some (b.toNat:Int):=by simp[byI,h]
def br (o:POp):D :=.cons (u8s o.kind) (.cons (i6 o.index) (.cons (encB o.data) .nil))
abbrev encP (p:List POp):D :=.arr 3 br p
abbrev cE (l:List (List POp)):D :=.arr 1 encP l
def idxF {α:Type} (p:α→Bool) (l:List α):Int:=match l.findIdx? p with
 | some i=>i
 | none => -1
theorem j8 {α:Type} {p:α→Bool} {l:List α} {i:Nat} {x:α} (hx:l[i]?=some x) (hp:p x=true) (hn:∀j,j<i→∀y,l[j]?=some y→p y=false):idxF p l=i:=by
 have:l.findIdx? p=some i:=by
  rw[List.findIdx?_eq_some_iff_getElem]
  obtain⟨h1,h2⟩:=List.getElem?_eq_some_iff.1 hx
  refine⟨h1,by rw[h2]; exact hp,fun j hj=>?_⟩
  have:=hn j hj _ (List.getElem?_eq_getElem (by omega))
  simp[this]
 simp[idxF,this]
theorem j9 {α:Type} {p:α→Bool} {l:List α} (hn:∀(j:Nat) (y:α),l[j]?=some y→p y=false):idxF p l = -1:=by
 have:l.findIdx? p=none:=by
  rw[List.findIdx?_eq_none_iff]
  intro x hx
  obtain⟨j,hj⟩:=List.mem_iff_getElem?.1 hx
  exact hn j x hj
 simp[idxF,this]
theorem pp {α:Type} (p:α→Bool) (l:List α):decide (0≤idxF p l)=l.any p:=by
 cases h:l.any p with
 | true =>
  have:(l.findIdx? p).isSome=true:=by rw[List.findIdx?_isSome]; exact h
  obtain⟨i,hi⟩:=Option.isSome_iff_exists.1 this
  simp only[idxF,hi]
  exact dT (by omega)
 | false =>
  have:l.findIdx? p=none:=by
   rw[List.findIdx?_eq_none_iff]
   intro x hx
   rw[List.any_eq_false]at h
   simpa using h x hx
  simp only[idxF,this]
  rfl
end Go.Proofs.YtpmhnpnmpjimnaaGreatDoor
namespace Go.Proofs.YtpmhnpnmpjimnaaGreatDoor
open Go.Eng Go.Plain
set_option maxHeartbeats 32000000
set_option maxRecDepth 20000
attribute [local irreducible] WC RegS RegD SeqQ BlkQ ScoQ RegK CutK Sat SatN FnIs LoopQ aq OpIs
theorem xA {α:Type} (enc:α→D) (hsz:∀x,bm tab 52 (.d (enc x))=true) (p:α→Bool) (g:FuncId) (xs:List α) (hL:xs.length≤1000000000) (hg:∀x∈xs,FnIs Tryz.prog g [.d (enc x)] [] (.bool (p x)) []):FnIs Tryz.prog 57 [.d (.arr 3 enc xs),.fn (.func g) .anil .anil] [] (.int .i64 (idxF p xs)) []:=by
 refine aw aa Tryz.func57 rfl rfl rfl ?_;refine sR<|rC<|zW ?_;refine rC ?_;refine rQ iE ?_;refine rC<|zP ?_
 refine wc_inv (fun i:Nat=>⟨[(8,.int .i64 i),(7,.int .i64 xs.length),(1,.fn (.func g) .anil .anil),(0,.d (.arr 3 enc xs))],[],72,Tryz.f57.ntmps,64⟩) (fun i=>i≤xs.length∧∀j,j<i→∀y,xs[j]?=some y→p y=false) (fun i=>xs.length-i) 0 [] ⟨Nat.zero_le _,fun j hj=>absurd hj (Nat.not_lt_zero _)⟩
  (lg zi trivial) ?_
 rintro i ⟨hi,hno⟩
 refine bv<|sR ?_;refine rC<|nQ ?_
 refine eR rfl (fun h2=>?_) (fun h2=>?_)
 ·have hlt:i<xs.length:=by have:=of_decide_eq_true h2; omega
  obtain⟨x,hx⟩:∃u,xs[i]?=some u:=⟨_,List.getElem?_eq_getElem hlt⟩
  have hx':xs[((i:Int)).toNat]?=some x:=by rw[Int.toNat_natCast]; exact hx
  have hpx:=hg x (List.mem_of_getElem? hx)
  have hs:=hsz x
  cases hp:p x with
  | true =>
   refine zQ<|zS<|zD<|nR ?_;refine zU ?_;refine rQ (aA aa rfl rfl rfl rfl rfl (by omega) hx') ?_;refine rQ (bA aa rfl hs) ?_;refine rQ (ak hpx rfl rfl (aj ae) (.inl rfl) (fun _=>rfl)) ?_;refine zI<|sR ?_;refine zD<|zT<|zB<|bT<|zB ?_
   exact⟨trivial,[],lg ⟨⟨_,rfl,AVLe.of_eq (by rw[j8 hx hp hno]; rfl)⟩,rfl,trivial⟩ trivial⟩
  | false =>
   refine zQ<|zS<|zD<|nR ?_;refine zU ?_;refine rQ (aA aa rfl rfl rfl rfl rfl (by omega) hx') ?_;refine rQ (bA aa rfl hs) ?_;refine rQ (ak hpx rfl rfl (aj ae) (.inl rfl) (fun _=>rfl)) ?_
   refine zG<|bG<|zC<|ao ?_;refine rQ iD ?_;refine rC<|aB ?_;refine aY (i+1) [] ⟨hlt,fun j hj y hy=>?_⟩ (by omega) ?_
   ·by_cases e:j=i
    ·subst e
     rw[hx]at hy
     cases hy
     exact hp
    ·exact hno j (by omega) y hy
   ·exact lg zi trivial
 ·have he:i=xs.length:=by have:=of_decide_eq_false h2; omega
  refine zX<|sR<|rC<|zT ?_
  exact⟨trivial,[],lg ⟨⟨_,rfl,AVLe.of_eq (by
   rw[j9 fun j y hy=>hno j (by have:=(List.getElem?_eq_some_iff.1 hy).1; omega) y hy]
   rfl)⟩,rfl,trivial⟩ trivial⟩
theorem vM {α:Type} (enc:α→D) (hsz:∀x,bm tab 52 (.d (enc x))=true) (p:α→Bool) (g:FuncId) (xs:List α) (hL:xs.length≤1000000000) (hg:∀x∈xs,FnIs Tryz.prog g [.d (enc x)] [] (.bool (p x)) []):FnIs Tryz.prog 34 [.d (.arr 3 enc xs),.fn (.func g) .anil .anil] [] (.bool (xs.any p)) []:=by
 refine aw aa Tryz.func34 rfl rfl rfl ?_;refine sR<|rC<|nR ?_;refine zD ?_;refine rQ (ak (xA enc hsz p g xs hL hg) rfl rfl (aj (my ae)) (.inl rfl) (fun _=>rfl)) ?_;refine zD<|zT ?_
 exact⟨trivial,[],lg ⟨⟨_,rfl,AVLe.of_eq (by rw[←pp]; rfl)⟩,rfl,trivial⟩ trivial⟩
theorem yH {α:Type} (enc:α→D) (hsz:∀x,bm tab 49 (.d (enc x))=true) (p:α→Bool) (g:FuncId) (xs:List α) (hL:xs.length≤1000000000) (hg:∀x∈xs,FnIs Tryz.prog g [.d (enc x)] [] (.bool (p x)) []):FnIs Tryz.prog 58 [.d (.arr 1 enc xs),.fn (.func g) .anil .anil] [] (.int .i64 (idxF p xs)) []:=by
 refine aw aa Tryz.func58 rfl rfl rfl ?_;refine sR<|rC<|zW ?_;refine rC ?_;refine rQ iE ?_;refine rC<|zP ?_
 refine wc_inv (fun i:Nat=>⟨[(8,.int .i64 i),(7,.int .i64 xs.length),(1,.fn (.func g) .anil .anil),(0,.d (.arr 1 enc xs))],[],72,Tryz.f58.ntmps,64⟩) (fun i=>i≤xs.length∧∀j,j<i→∀y,xs[j]?=some y→p y=false) (fun i=>xs.length-i) 0 [] ⟨Nat.zero_le _,fun j hj=>absurd hj (Nat.not_lt_zero _)⟩
  (lg zi trivial) ?_
 rintro i ⟨hi,hno⟩
 refine bv<|sR ?_;refine rC<|nQ ?_
 refine eR rfl (fun h2=>?_) (fun h2=>?_)
 ·have hlt:i<xs.length:=by have:=of_decide_eq_true h2; omega
  obtain⟨x,hx⟩:∃u,xs[i]?=some u:=⟨_,List.getElem?_eq_getElem hlt⟩
  have hx':xs[((i:Int)).toNat]?=some x:=by rw[Int.toNat_natCast]; exact hx
  have hpx:=hg x (List.mem_of_getElem? hx)
  have hs:=hsz x
  cases hp:p x with
  | true =>
   refine zQ<|zS<|zD<|nR ?_;refine zU ?_;refine rQ (aA aa rfl rfl rfl rfl rfl (by omega) hx') ?_;refine rQ (bA aa rfl hs) ?_;refine rQ (ak hpx rfl rfl (aj ae) (.inl rfl) (fun _=>rfl)) ?_;refine zI<|sR ?_;refine zD<|zT<|zB<|bT<|zB ?_
   exact⟨trivial,[],lg ⟨⟨_,rfl,AVLe.of_eq (by rw[j8 hx hp hno]; rfl)⟩,rfl,trivial⟩ trivial⟩
  | false =>
   refine zQ<|zS<|zD<|nR ?_;refine zU ?_;refine rQ (aA aa rfl rfl rfl rfl rfl (by omega) hx') ?_;refine rQ (bA aa rfl hs) ?_;refine rQ (ak hpx rfl rfl (aj ae) (.inl rfl) (fun _=>rfl)) ?_
   refine zG<|bG<|zC<|ao ?_;refine rQ iD ?_;refine rC<|aB ?_;refine aY (i+1) [] ⟨hlt,fun j hj y hy=>?_⟩ (by omega) ?_
   ·by_cases e:j=i
    ·subst e
     rw[hx]at hy
     cases hy
     exact hp
    ·exact hno j (by omega) y hy
   ·exact lg zi trivial
 ·have he:i=xs.length:=by have:=of_decide_eq_false h2; omega
  refine zX<|sR<|rC<|zT ?_
  exact⟨trivial,[],lg ⟨⟨_,rfl,AVLe.of_eq (by
   rw[j9 fun j y hy=>hno j (by have:=(List.getElem?_eq_some_iff.1 hy).1; omega) y hy]
   rfl)⟩,rfl,trivial⟩ trivial⟩
theorem sb {α:Type} (enc:α→D) (hsz:∀x,bm tab 49 (.d (enc x))=true) (p:α→Bool) (g:FuncId) (xs:List α) (hL:xs.length≤1000000000) (hg:∀x∈xs,FnIs Tryz.prog g [.d (enc x)] [] (.bool (p x)) []):FnIs Tryz.prog 36 [.d (.arr 1 enc xs),.fn (.func g) .anil .anil] [] (.bool (xs.any p)) []:=by
 refine aw aa Tryz.func36 rfl rfl rfl ?_;refine sR<|rC<|nR ?_;refine zD ?_;refine rQ (ak (yH enc hsz p g xs hL hg) rfl rfl (aj (my ae)) (.inl rfl) (fun _=>rfl)) ?_;refine zD<|zT ?_
 exact⟨trivial,[],lg ⟨⟨_,rfl,AVLe.of_eq (by rw[←pp]; rfl)⟩,rfl,trivial⟩ trivial⟩
theorem xy (o:POp):FnIs Tryz.prog 35 [.d (br o)] [] (.bool (decide (64<o.data.length))) []:=by
 have e:decide ((64:Int)<((byI o.data).length:Int))=decide (64<o.data.length):=by rw[ch]; exact decide_eq_decide.2 (by omega)
 refine aw aa Tryz.func35 rfl rfl rfl ?_;refine sR<|rN ?_;refine rC<|nR ?_;refine rC ?_;refine rQ iB ?_;refine rQ iE ?_;refine zD<|zT ?_
 exact⟨trivial,[],lg ⟨⟨_,rfl,AVLe.of_eq (congrArg (fun b=>AV.bool b) e)⟩,rfl,trivial⟩ trivial⟩
theorem vt (p:List POp) (hL:p.length≤1000000000):FnIs Tryz.prog 33 [.d (encP p)] [] (.bool (badP p)) []:=by
 have e:decide ((64:Int)<(p.length:Int))=decide (64<p.length):=decide_eq_decide.2 (by omega)
 refine aw aa Tryz.func33 rfl rfl rfl ?_
 cases h:decide ((64:Int)<(p.length:Int)) with
 | true =>
  rw[h]at e
  refine sR<|rC<|nR ?_;refine rC ?_;refine rQ iE ?_;refine zD ?_
  iterate 2 refine rS ?_
  refine rQ iT ?_;refine rC<|zT ?_
  exact⟨trivial,[],lg ⟨⟨_,rfl,AVLe.of_eq (by rw[badP,←e]; rfl)⟩,rfl,trivial⟩ trivial⟩
 | false =>
  rw[h]at e
  refine sR<|rC<|nR ?_;refine rC ?_;refine rQ iE ?_;refine zD ?_;refine rO ?_;refine rC ?_;refine rO ?_;refine rQ (ak (vM br (fun _=>rfl) (fun o=>decide (64<o.data.length)) _ p hL (fun o _=>xy o)) rfl rfl (aj (my ae)) (.inl rfl) (fun _=>rfl)) ?_;refine rQ iF ?_;refine rC<|zT ?_
  exact⟨trivial,[],lg ⟨⟨_,rfl,AVLe.of_eq (by rw[badP,←e]; rfl)⟩,rfl,trivial⟩ trivial⟩
theorem jN (l:List (List POp)) (hL:l.length≤1000000000) (hP:∀p∈l,p.length≤1000000000):FnIs Tryz.prog 17 [.d (cE l)] [] (.int .i64 (chkP l)) []:=by
 refine aw aa Tryz.func17 rfl rfl rfl ?_
 cases h:decide ((8:Int)<(l.length:Int)) with
 | true =>
  have h8:8<l.length:=by have:=of_decide_eq_true h; omega
  refine sR<|rC<|nR ?_;refine rC<|zW ?_;refine rC ?_;refine rQ iE ?_;refine zD ?_
  iterate 3 refine rS ?_
  refine rQ iT ?_;refine zO<|sR ?_;refine rC<|zT<|ba ?_
  exact⟨trivial,[],lg ⟨⟨_,rfl,AVLe.of_eq (by rw[chkP,if_pos h8]; rfl)⟩,rfl,trivial⟩ trivial⟩
 | false =>
  have h8:¬8<l.length:=by have:=of_decide_eq_false h; omega
  cases hb:l.any badP with
  | true =>
   refine sR<|rC<|nR ?_;refine rC<|zW ?_;refine rC ?_;refine rQ iE ?_;refine zD ?_;refine rO ?_;refine rC ?_;refine rO ?_;refine rC ?_;refine rO ?_;refine rQ (ak (sb encP (fun _=>rfl) badP _ l hL (fun p hp=>vt p (hP p hp))) rfl rfl (aj (my ae)) (.inl rfl) (fun _=>rfl)) ?_;refine rQ iF ?_;refine zI<|sR ?_;refine rC<|zT<|ba ?_
   exact⟨trivial,[],lg ⟨⟨_,rfl,AVLe.of_eq (by rw[chkP,if_neg h8,if_pos hb]; rfl)⟩,rfl,trivial⟩ trivial⟩
  | false =>
   refine sR<|rC<|nR ?_;refine rC<|zW ?_;refine rC ?_;refine rQ iE ?_;refine zD ?_;refine rO ?_;refine rC ?_;refine rO ?_;refine rC ?_;refine rO ?_;refine rQ (ak (sb encP (fun _=>rfl) badP _ l hL (fun p hp=>vt p (hP p hp))) rfl rfl (aj (my ae)) (.inl rfl) (fun _=>rfl)) ?_;refine rQ iF ?_;refine zG<|kS<|sR ?_;refine rC<|zT ?_
   exact⟨trivial,[],lg ⟨⟨_,rfl,AVLe.of_eq (by rw[chkP,if_neg h8,if_neg (by rw[hb]; simp)]; rfl)⟩,rfl,trivial⟩ trivial⟩
end Go.Proofs.YtpmhnpnmpjimnaaGreatDoor
namespace Go.Plain
open Go.Eng Go.Lib
theorem rf {c:UInt8}:∀ {l:List UInt8},match cutL l c with
  | none=>indexByte l c = -1
  | some (p,_)=>indexByte l c=(p.length:Int)
 | []=>rfl
 | b::l=>by
  simp only[cutL]
  by_cases e:b=c
  ·rw[if_pos e]
   subst e
   simp[indexByte]
  ·rw[if_neg e]
   have ih :=@rf c l
   have hb:(b==c)=false:=by simpa using e
   cases h:cutL l c with
   | none =>
    rw[h]at ih
    simp only at ih ⊢
    simp[indexByte,hb,ih]
   | some pq =>
    obtain⟨p,q⟩:=pq
    rw[h]at ih
    simp only at ih ⊢
    have h1:¬((p.length:Int) = -1):=by omega
    simp[indexByte,hb,ih,h1]
theorem xz (l:List UInt8) (c:UInt8):cut l [c]=match cutL l c with
  | none=>(l,[],false)
  | some (p,q)=>(p,q,true):=by
 have :=@rf c l
 rw[cut,index_one]
 cases h:cutL l c with
 | none =>
  rw[h]at this
  simp only at this
  rw[this,if_neg (by omega)]
 | some pq =>
  obtain⟨p,q⟩:=pq
  rw[h]at this
  simp only at this
  obtain⟨rfl,_⟩:=dP h
  rw[this,if_pos (by omega)]
  simp
theorem j7 (l:List UInt8) (c:UInt8):indexB (mkS l) (mkS [c])=indexByte l c:=by
 rw[indexB,c8,c8,index_one]
theorem gv:∀(l:List UInt8) (c:UInt8),(aL l c).length≤l.length+1
 | [],_=>by simp[aL]
 | b::l,c=>by
  have:=gv l c
  simp only[aL]
  split
  ·simpa using this
  ·split
   ·simp
   ·rename_i h
    rw[h]at this
    simp only[List.length_cons]at this ⊢
    omega
theorem tq {c:UInt8}:∀(k:Nat) (l:List UInt8),l.length≤k→splitB (mkS [c]) 0 (countB (mkS l) (mkS [c])) (mkS l)=(aL l c).map mkS∧countB (mkS l) (mkS [c])+1=(aL l c).length:=by
 intro k
 induction k with
 | zero =>
  intro l hl
  obtain rfl:l=[]:=List.eq_nil_of_length_eq_zero (by omega)
  have h:=j7 [] c
  have hm:indexB (mkS []) (mkS [c]) = -1:=by rw[h]; rfl
  rw[countB_miss _ _ hm,splitB_zero]
  exact⟨rfl,rfl⟩
 | succ k ih =>
  intro l hl
  have hib :=@rf c l
  rw[mW]
  cases h:cutL l c with
  | none =>
   rw[h]at hib
   simp only at hib
   have hm:indexB (mkS l) (mkS [c]) = -1:=by rw[j7,hib]
   rw[countB_miss _ _ hm,splitB_zero]
   exact⟨rfl,rfl⟩
  | some pq =>
   obtain⟨p,q⟩:=pq
   rw[h]at hib
   simp only at hib
   obtain⟨rfl,_⟩:=dP h
   have hm:indexB (mkS (p++c::q)) (mkS [c])=(p.length:Nat):=by rw[j7,hib]
   have hx:(mkS (p++c::q)).extract (p.length+(mkS [c]).size) (mkS (p++c::q)).size=mkS q:=by
    rw[fO,bY,bY]
    congr 1
    have e1:(p++c::q).drop (p.length+[c].length)=q:=by
     rw[List.drop_append,List.drop_eq_nil_of_le (by simp)]
     simp
    rw[e1]
    exact List.take_of_length_le (by simp; omega)
   have hy:(mkS (p++c::q)).extract 0 (p.length+0)=mkS p:=by
    rw[fO]
    congr 1
    simp
   have hq:q.length≤k:=by simp at hl; omega
   obtain⟨h1,h2⟩:=ih q hq
   rw[countB_hit _ _ p.length (by rw[bY]; exact Nat.le_refl 1) hm,hx,Nat.add_comm 1,splitB_hit _ _ _ _ _ hm,hx,hy,h1]
   refine⟨rfl,?_⟩
   simp only[List.length_cons]
   omega
end Go.Plain
namespace Go.Eng
open Go.RowKit
theorem RelV.er {σ:Place} {w:World} {X:Nat→Prop} {u:Value}:RelV σ w X .er u ↔ ∃t v,u=.iface t v:=by
 unfold RelV
 rw[if_neg (by simp[AV.isAgg])]
 simp only[Rel,List.cons.injEq,and_true]
theorem it {σ:Place} {w:World} {X:Nat→Prop} {v v1:Value} {t:TypeId} (h1:v.oneCell'=true):RelV σ w X (.tup (.acons (.d (.sc v)) (.acons .er .anil))) (.tuple #[v,.iface t v1]):=by
 unfold RelV
 rw[if_neg (by simp[AV.isAgg])]
 exact⟨_,rfl,_,_,rfl,RelV.sc.2 ⟨rfl,h1⟩,_,_,rfl,RelV.er.2 ⟨_,_,rfl⟩,rfl⟩
theorem lA {σ:Place} {w:World} {X:Nat→Prop} {v v1:Value} (h1:v.oneCell'=true) (h2:v1.oneCell'=true):RelV σ w X (.tup (.acons (.d (.sc v)) (.acons (.d (.sc v1)) .anil))) (.tuple #[v,v1]):=by
 unfold RelV
 rw[if_neg (by simp[AV.isAgg])]
 exact⟨_,rfl,_,_,rfl,RelV.sc.2 ⟨rfl,h1⟩,_,_,rfl,RelV.sc.2 ⟨rfl,h2⟩,rfl⟩
theorem uG {σ:Place} {w:World} {X:Nat→Prop} {v v1 v2:Value} (h1:v.oneCell'=true) (h2:v1.oneCell'=true) (h3:v2.oneCell'=true):RelV σ w X (.tup (.acons (.d (.sc v)) (.acons (.d (.sc v1)) (.acons (.d (.sc v2)) .anil)))) (.tuple #[v,v1,v2]):=by
 unfold RelV
 rw[if_neg (by simp[AV.isAgg])]
 exact⟨_,rfl,_,_,rfl,RelV.sc.2 ⟨rfl,h1⟩,_,_,rfl,RelV.sc.2 ⟨rfl,h2⟩,_,_,rfl,RelV.sc.2 ⟨rfl,h3⟩,rfl⟩
section
variable {P : Program} {T : Tab} {env : Env} {h : Upds} {n : Nat}
theorem qq {t:Nat} {w:World} {ms} (hud:P.underlying t=some (.interface ms)):(binOp .eql t .nilIface .nilIface).run P w=.ok (.bool true) w:=by
 have h1:(Op.equalIn 10000 t .nilIface .nilIface).run P w=.ok true w:=by
  rw[show (10000:Nat)=9999+1 from rfl,Op.equalIn]
  simp only[Sem.run_bind,run_underlying hud,Result.andThen_ok,Sem.run_pure]
 show (do let b ←Op.equalIn 10000 t _ _; pure (Value.bool b):Sem Value).run P w=_
 simp only[Sem.run_bind,h1,Result.andThen_ok,Sem.run_pure]
theorem qs {t t1:Nat} {w:World} {ms} {v:Value} (hud:P.underlying t=some (.interface ms)):(binOp .eql t (.iface t1 v) .nilIface).run P w=.ok (.bool false) w:=by
 have h1:(Op.equalIn 10000 t (.iface t1 v) .nilIface).run P w=.ok false w:=by
  rw[show (10000:Nat)=9999+1 from rfl,Op.equalIn]
  simp only[Sem.run_bind,run_underlying hud,Result.andThen_ok,Sem.run_pure]
 show (do let b ←Op.equalIn 10000 t _ _; pure (Value.bool b):Sem Value).run P w=_
 simp only[Sem.run_bind,h1,Result.andThen_ok,Sem.run_pure]
theorem mb {t t':Nat} {x:Operand} {ms} (hu:P.underlying t=some (.interface ms)) (hx:au env x=some (.d (.sc .nilIface))) :
  aq P (.binOp .eql t x (.const .nilIface) t') env h n (some (.bool true)) []:=.of_comes fun C G st σ w ac o ho hA hdst hst hn=>by
 obtain⟨hv,_⟩:=RelV.sc.1 (am hst (hA.ev hx)).1
 refine .quiet (u :=.bool true) hst hdst ⟨rfl,rfl⟩ ?_ (RelV.sc.2 ⟨rfl,rfl⟩) trivial
 have hg:(eqGuard .eql t x (.const .nilIface) .nilIface .nilIface).run P w=.ok () w:=by
  simp[eqGuard]
  try (cases x <;> rfl)
 have hc:ac.eval (.const .nilIface)=.nilIface:=rfl
 simp only[execOp,ho,hv,hc,Sem.run_bind,hg,Result.andThen_ok,qq hu,Sem.run_pure]
theorem q6 {t t':Nat} {x:Operand} {ms} (hu:P.underlying t=some (.interface ms)) (hx:au env x=some .er) :
  aq P (.binOp .eql t x (.const .nilIface) t') env h n (some (.bool false)) []:=.of_comes fun C G st σ w ac o ho hA hdst hst hn=>by
 obtain⟨t1,v,hv⟩:=RelV.er.1 (am hst (hA.ev hx)).1
 refine .quiet (u :=.bool false) hst hdst ⟨rfl,rfl⟩ ?_ (RelV.sc.2 ⟨rfl,rfl⟩) trivial
 have hg:(eqGuard .eql t x (.const .nilIface) (.iface t1 v) .nilIface).run P w=.ok () w:=rfl
 have hc:ac.eval (.const .nilIface)=.nilIface:=rfl
 simp only[execOp,ho,hv,hc,Sem.run_bind,hg,Result.andThen_ok,qs hu,Sem.run_pure]
end
end Go.Eng
namespace Go.Eng
open Go.RowKit
section
variable {P : Program} {T : Tab} {env : Env} {h : Upds} {n : Nat}
theorem add_add (a:Addr) (i j:Nat):(a.add i).add j=a.add (i+j):=by
 cases a with
 | mk b o w =>
  simp only[Addr.add]
  by_cases h1:i=0 <;> by_cases h2:j=0 <;> simp[h1,h2,Nat.add_assoc]
theorem bV (hT:an P T) {t e:Nat} {re:TyR} {x i:Operand} {α:Type} {s:Nat} {enc:α→D} {xs:List α} {k:IntKind} {m:Nat} (ht:aT T t=some (.slice e)) (he:lk T e=some re) (hs:Nat.beq re.size s=true)
  (hx:au env x=some (.d (.arr s enc xs))) (hi:au env i=some (.int k m)) (h1:m≤xs.length):aq P (.slice t x (some i) none none) env h n (some (.d (.arr s enc (xs.drop m)))) []:=.of_comes fun C G st σ w a o ho hA hdst hst hn=>by
 obtain⟨ud,hud,hdd⟩:=aM hT ht
 cases hdd
 have hs:=Nat.eq_of_beq_eq_true hs
 obtain⟨hx1,_⟩:=am hst (hA.ev hx)
 obtain⟨hi1,_⟩:=RelV.sc.1 (am hst (hA.ev hi)).1
 have hsz:=(hT e re he).run_size (P:=P)
 have hlen:(xs.drop m).length=xs.length-m:=by rw[List.length_drop]
 rcases RelV.arr.1 hx1 with ⟨rfl,hv⟩ | ⟨ad,c,hv,hc1,hc2,f,hf⟩
 ·have hm0:m=0:=by simpa using h1
  subst hm0
  refine .quiet (u :=.slice none 0 0) hst hdst ⟨rfl,rfl⟩ ?_ (RelV.arr.2 (.inl ⟨rfl,rfl⟩)) trivial
  simp[execOp,ho,Instr.sliceAt,Instr.slice,hv,hi1,run_underlying hud,Instr.sliceBounds,Instr.sliceBound,asIntOf,hsz,Sem.run_bind,Sem.run_pure,Result.andThen_ok]
 ·have hlen2:¬xs.length<m:=by omega
  refine .quiet (u :=.slice (some (if c=m then ad else ad.add (m*s))) (xs.length-m) (c-m)) hst hdst ⟨rfl,rfl⟩ ?_ (RelV.arr.2 (.inr ⟨_,c-m,by rw[hlen],by rw[hlen]; omega,by omega,fun j=>f (j+m),fun j hj=>?_⟩)) trivial
  ·have hcm:¬c<m:=by omega
   simp[execOp,ho,Instr.sliceAt,Instr.slice,hv,hi1,run_underlying hud,Instr.sliceBounds,Instr.sliceBound,asIntOf,hsz,hs,Sem.run_bind,Sem.run_pure,Result.andThen_ok,hlen2,hcm]
   rw[if_pos h1]
   split <;> rfl
  ·have hj2:j+m<xs.length:=by rw[hlen]at hj; omega
   obtain⟨g1,g2,g3⟩:=hf (j+m) hj2
   refine⟨by rw[List.getElem_drop]; simpa[Nat.add_comm]using g1,g2,fun q u hu=>?_⟩
   have:=g3 q u hu
   rw[if_neg (by omega),add_add,Addr.add_block]
   rw[show m*s+(j*s+q)=(j+m)*s+q by rw[Nat.add_mul]; omega]
   exact this
end
end Go.Eng
namespace Go.Proofs
open Go.Shelf
def Tryz.lays137_ren:Go.Shelf.Ren:=⟨fun | 137=>94 | 217=>117 | 266=>133 | n=>n,fun | 9=>9 | 5=>5 | 3=>3 | n=>n,fun | n=>n⟩
theorem Tryz.lays137:Go.Proofs.Lays.n137 Tryz.prog Tryz.lays137_ren := {
 mixed:=by kernel_rfl
 f137:=Tryz.func94.trans (congrArg some (by kernel_rfl))
 f217:=Tryz.func117.trans (congrArg some (by kernel_rfl))
 f266:=Tryz.func133.trans (congrArg some (by kernel_rfl))
 t3:=Tryz.underlying3
 a3:=Tryz.isAgg3
 z3:=Tryz.sizeOf3
 v3:=Tryz.zeroValue3
 t5:=Tryz.underlying5
 a5:=Tryz.isAgg5
 z5:=Tryz.sizeOf5
 v5:=Tryz.zeroValue5
 t9:=Tryz.underlying9
 a9:=Tryz.isAgg9
 z9:=Tryz.sizeOf9
 v9:=Tryz.zeroValue9 }
open Go.RowKit in
theorem Tryz.strings_IndexByte (s:ByteArray) (c:Int) (w:World) :
  Calls Tryz.prog 94 #[.string s,.int .u8 c] w fun e w'=>e=.returned (.int .i64 (Lib.indexByte s.data.toList c.toNat.toUInt8))∧w'=w:=Any.strings_IndexByte Tryz.lays137 s c w
def Tryz.lays172_ren:Go.Shelf.Ren:=⟨fun | 172=>118 | 244=>134 | 245=>116 | 247=>138 | 279=>129 | 280=>130 | 281=>131 | 282=>132 | 287=>115 | 316=>136 | 171=>40 | 205=>137 | 321=>127 | 322=>128 | 243=>61 | 246=>83 | 283=>85 | 284=>86 | 285=>87 | 286=>88 | 129=>107 | 317=>106 | 318=>108 | 319=>109 | 320=>110 | 337=>121 | 338=>122 | n=>n,fun | 9=>9 | 3=>3 | 75=>100 | 76=>101 | 4=>4 | 5=>5 | 167=>178 | 37=>46 | 0=>0 | 85=>195 | 2=>2 | 168=>181 | 53=>30 | 175=>158 | 46=>125 | 210=>193 | 127=>126 | 145=>199 | 143=>197 | 21=>21 | 171=>150 | 173=>153 | 212=>164 | 51=>165 | 20=>20 | 213=>166 | 232=>31 | 233=>184 | 80=>106 | n=>n,fun | 15=>6 | 16=>7 | 17=>0 | 18=>2 | 19=>3 | n=>n⟩
def Tryz.lays283_ren:Go.Shelf.Ren:=⟨fun | 283=>85 | n=>n,fun | 3=>3 | 9=>9 | 4=>4 | n=>n,fun | n=>n⟩
theorem Tryz.lays283:Go.Proofs.Lays.n283 Tryz.prog Tryz.lays283_ren := {
 mixed:=by kernel_rfl
 f283:=Tryz.func85.trans (congrArg some (by kernel_rfl))
 t3:=Tryz.underlying3
 a3:=Tryz.isAgg3
 z3:=Tryz.sizeOf3
 v3:=Tryz.zeroValue3
 t4:=Tryz.underlying4
 a4:=Tryz.isAgg4
 z4:=Tryz.sizeOf4
 v4:=Tryz.zeroValue4
 t9:=Tryz.underlying9
 a9:=Tryz.isAgg9
 z9:=Tryz.sizeOf9
 v9:=Tryz.zeroValue9 }
open Go.Lib in
theorem Tryz.internal_strconv_small (i:Nat) (h:i<100) (w:World) :
  Calls Tryz.prog 85 #[.int .i64 i] w fun e w'=>e=.returned (.string ⟨(Lib.decDigits i).toArray⟩)∧w'=w:=Any.internal_strconv_small Tryz.lays283 i h w
def Tryz.laysM284_ren:Go.Shelf.Ren:=⟨fun | 284=>86 | 129=>107 | 317=>106 | 318=>108 | n=>n,fun | 53=>30 | 3=>3 | 212=>164 | 0=>0 | 4=>4 | 46=>125 | 5=>5 | 9=>9 | n=>n,fun | 17=>0 | n=>n⟩
theorem Tryz.laysM284:Go.Proofs.LaysM.n284 Tryz.prog Tryz.laysM284_ren := {
 mixed:=by kernel_rfl
 f129:=Tryz.func107.trans (congrArg some (by kernel_rfl))
 f284:=Tryz.func86.trans (congrArg some (by kernel_rfl))
 f317:=Tryz.func106.trans (congrArg some (by kernel_rfl))
 f318:=Tryz.func108.trans (congrArg some (by kernel_rfl))
 t0:=Tryz.underlying0
 a0:=Tryz.isAgg0
 z0:=Tryz.sizeOf0
 v0:=Tryz.zeroValue0
 t3:=Tryz.underlying3
 a3:=Tryz.isAgg3
 z3:=Tryz.sizeOf3
 v3:=Tryz.zeroValue3
 t4:=Tryz.underlying4
 a4:=Tryz.isAgg4
 z4:=Tryz.sizeOf4
 v4:=Tryz.zeroValue4
 t5:=Tryz.underlying5
 a5:=Tryz.isAgg5
 z5:=Tryz.sizeOf5
 v5:=Tryz.zeroValue5
 t9:=Tryz.underlying9
 a9:=Tryz.isAgg9
 z9:=Tryz.sizeOf9
 v9:=Tryz.zeroValue9
 t46:=Tryz.underlying125
 a46:=Tryz.isAgg125
 z46:=Tryz.sizeOf125
 v46:=Tryz.zeroValue125
 t53:=Tryz.underlying30
 a53:=Tryz.isAgg30
 z53:=Tryz.sizeOf30
 v53:=Tryz.zeroValue30
 t212:=Tryz.underlying164
 a212:=Tryz.isAgg164
 z212:=Tryz.sizeOf164
 v212:=Tryz.zeroValue164
 g17:=by kernel_rfl
 i0:=by kernel_rfl
 i3:=by kernel_rfl
 i4:=by kernel_rfl
 i5:=by kernel_rfl
 i9:=by kernel_rfl
 i46:=by kernel_rfl
 i53:=by kernel_rfl
 i212:=by kernel_rfl
 m17:=by kernel_rfl }
open Go.Lib in
theorem Tryz.internal_strconv_numDigits (u : Nat) (h1 : 1 ≤ u) (h2 : u < 18446744073709551616) (w : World) (htab : Lib.TabIs Tryz.prog w "internal/strconv.uint64pow10" .u64 Lib.pow10Tab) :
  Calls Tryz.prog 86 #[.int .u64 u] w fun e w'=>e=.returned (.int .i64 (Lib.nDigits u))∧w'=w:=Any.internal_strconv_numDigits Tryz.laysM284 u h1 h2 w htab
def Tryz.lays285_ren:Go.Shelf.Ren:=⟨fun | 285=>87 | n=>n,fun | 37=>46 | 53=>30 | 3=>3 | 4=>4 | 51=>165 | 9=>9 | 5=>5 | 0=>0 | n=>n,fun | n=>n⟩
theorem Tryz.lays285:Go.Proofs.Lays.n285 Tryz.prog Tryz.lays285_ren := {
 mixed:=by kernel_rfl
 f285:=Tryz.func87.trans (congrArg some (by kernel_rfl))
 t0:=Tryz.underlying0
 a0:=Tryz.isAgg0
 z0:=Tryz.sizeOf0
 v0:=Tryz.zeroValue0
 t3:=Tryz.underlying3
 a3:=Tryz.isAgg3
 z3:=Tryz.sizeOf3
 v3:=Tryz.zeroValue3
 t4:=Tryz.underlying4
 a4:=Tryz.isAgg4
 z4:=Tryz.sizeOf4
 v4:=Tryz.zeroValue4
 t5:=Tryz.underlying5
 a5:=Tryz.isAgg5
 z5:=Tryz.sizeOf5
 v5:=Tryz.zeroValue5
 t9:=Tryz.underlying9
 a9:=Tryz.isAgg9
 z9:=Tryz.sizeOf9
 v9:=Tryz.zeroValue9
 t37:=Tryz.underlying46
 a37:=Tryz.isAgg46
 z37:=Tryz.sizeOf46
 v37:=Tryz.zeroValue46
 t51:=Tryz.underlying165
 a51:=Tryz.isAgg165
 z51:=Tryz.sizeOf165
 v51:=Tryz.zeroValue165
 t53:=Tryz.underlying30
 a53:=Tryz.isAgg30
 z53:=Tryz.sizeOf30
 v53:=Tryz.zeroValue30 }
open Go.RowKit Go.Sort Go.Lib in
theorem Tryz.internal_strconv_formatBase10 (blk off cap:Nat) (u:Nat) (d:Array UInt8) (w:World) (hH:Holds (fun (b:UInt8)=>Value.int .u8 (b.toNat:Int)) w blk off d) (hu:u<10 ^ d.size) (hu64:u<18446744073709551616) (hsz:d.size<4611686018427387904) :
  Calls Tryz.prog 87 #[.slice (some ⟨blk,off,none⟩) d.size cap,.int .u64 u] w fun e w' =>
   e=.returned (.tuple #[])∧∃(n v':Nat) (dk:Array UInt8),w'=(putRow (fun (b:UInt8)=>Value.int .u8 (b.toNat:Int)) w blk off dk).drewN n∧FmtInv d.size u 0 v' dk:=Any.internal_strconv_formatBase10 Tryz.lays285 blk off cap u d w hH hu hu64 hsz
def Tryz.laysM246_ren:Go.Shelf.Ren:=⟨fun | 246=>83 | 283=>85 | 284=>86 | 285=>87 | 286=>88 | 129=>107 | 317=>106 | 318=>108 | 319=>109 | 320=>110 | 337=>121 | 338=>122 | n=>n,fun | 2=>2 | 3=>3 | 9=>9 | 4=>4 | 171=>150 | 0=>0 | 53=>30 | 37=>46 | 5=>5 | 173=>153 | 212=>164 | 51=>165 | 20=>20 | 213=>166 | 46=>125 | 232=>31 | 233=>184 | n=>n,fun | 17=>0 | 18=>2 | 19=>3 | n=>n⟩
def Tryz.laysM243_ren:Go.Shelf.Ren:=⟨fun | 243=>61 | 246=>83 | 283=>85 | 284=>86 | 285=>87 | 286=>88 | 129=>107 | 317=>106 | 318=>108 | 319=>109 | 320=>110 | 337=>121 | 338=>122 | n=>n,fun | 3=>3 | 9=>9 | 2=>2 | 4=>4 | 171=>150 | 0=>0 | 53=>30 | 37=>46 | 5=>5 | 173=>153 | 212=>164 | 51=>165 | 20=>20 | 213=>166 | 46=>125 | 232=>31 | 233=>184 | n=>n,fun | 17=>0 | 18=>2 | 19=>3 | n=>n⟩
def Tryz.laysM171_ren:Go.Shelf.Ren:=⟨fun | 171=>40 | 243=>61 | 246=>83 | 283=>85 | 284=>86 | 285=>87 | 286=>88 | 129=>107 | 317=>106 | 318=>108 | 319=>109 | 320=>110 | 337=>121 | 338=>122 | n=>n,fun | 3=>3 | 9=>9 | 2=>2 | 4=>4 | 171=>150 | 0=>0 | 53=>30 | 37=>46 | 5=>5 | 173=>153 | 212=>164 | 51=>165 | 20=>20 | 213=>166 | 46=>125 | 232=>31 | 233=>184 | n=>n,fun | 17=>0 | 18=>2 | 19=>3 | n=>n⟩
theorem Tryz.laysM171:Go.Proofs.LaysM.n171 Tryz.prog Tryz.laysM171_ren := {
 mixed:=by kernel_rfl
 f129:=Tryz.func107.trans (congrArg some (by kernel_rfl))
 f171:=Tryz.func40.trans (congrArg some (by kernel_rfl))
 f243:=Tryz.func61.trans (congrArg some (by kernel_rfl))
 f246:=Tryz.func83.trans (congrArg some (by kernel_rfl))
 f283:=Tryz.func85.trans (congrArg some (by kernel_rfl))
 f284:=Tryz.func86.trans (congrArg some (by kernel_rfl))
 f285:=Tryz.func87.trans (congrArg some (by kernel_rfl))
 f286:=Tryz.func88.trans (congrArg some (by kernel_rfl))
 f317:=Tryz.func106.trans (congrArg some (by kernel_rfl))
 f318:=Tryz.func108.trans (congrArg some (by kernel_rfl))
 f319:=Tryz.func109.trans (congrArg some (by kernel_rfl))
 f320:=Tryz.func110.trans (congrArg some (by kernel_rfl))
 f337:=Tryz.func121.trans (congrArg some (by kernel_rfl))
 f338:=Tryz.func122.trans (congrArg some (by kernel_rfl))
 t0:=Tryz.underlying0
 a0:=Tryz.isAgg0
 z0:=Tryz.sizeOf0
 v0:=Tryz.zeroValue0
 t2:=Tryz.underlying2
 a2:=Tryz.isAgg2
 z2:=Tryz.sizeOf2
 v2:=Tryz.zeroValue2
 t3:=Tryz.underlying3
 a3:=Tryz.isAgg3
 z3:=Tryz.sizeOf3
 v3:=Tryz.zeroValue3
 t4:=Tryz.underlying4
 a4:=Tryz.isAgg4
 z4:=Tryz.sizeOf4
 v4:=Tryz.zeroValue4
 t5:=Tryz.underlying5
 a5:=Tryz.isAgg5
 z5:=Tryz.sizeOf5
 v5:=Tryz.zeroValue5
 t9:=Tryz.underlying9
 a9:=Tryz.isAgg9
 z9:=Tryz.sizeOf9
 v9:=Tryz.zeroValue9
 t20:=Tryz.underlying20
 a20:=Tryz.isAgg20
 z20:=Tryz.sizeOf20
 v20:=Tryz.zeroValue20
 t37:=Tryz.underlying46
 a37:=Tryz.isAgg46
 z37:=Tryz.sizeOf46
 v37:=Tryz.zeroValue46
 t46:=Tryz.underlying125
 a46:=Tryz.isAgg125
 z46:=Tryz.sizeOf125
 v46:=Tryz.zeroValue125
 t51:=Tryz.underlying165
 a51:=Tryz.isAgg165
 z51:=Tryz.sizeOf165
 v51:=Tryz.zeroValue165
 t53:=Tryz.underlying30
 a53:=Tryz.isAgg30
 z53:=Tryz.sizeOf30
 v53:=Tryz.zeroValue30
 t171:=Tryz.underlying150
 a171:=Tryz.isAgg150
 z171:=Tryz.sizeOf150
 v171:=Tryz.zeroValue150
 t173:=Tryz.underlying153
 a173:=Tryz.isAgg153
 z173:=Tryz.sizeOf153
 v173:=Tryz.zeroValue153
 t212:=Tryz.underlying164
 a212:=Tryz.isAgg164
 z212:=Tryz.sizeOf164
 v212:=Tryz.zeroValue164
 t213:=Tryz.underlying166
 a213:=Tryz.isAgg166
 z213:=Tryz.sizeOf166
 t232:=Tryz.underlying31
 a232:=Tryz.isAgg31
 z232:=Tryz.sizeOf31
 v232:=Tryz.zeroValue31
 t233:=Tryz.underlying184
 a233:=Tryz.isAgg184
 z233:=Tryz.sizeOf184
 v233:=Tryz.zeroValue184
 g17:=by kernel_rfl
 g18:=by kernel_rfl
 g19:=by kernel_rfl
 i0:=by kernel_rfl
 i2:=by kernel_rfl
 i3:=by kernel_rfl
 i4:=by kernel_rfl
 i5:=by kernel_rfl
 i9:=by kernel_rfl
 i20:=by kernel_rfl
 i37:=by kernel_rfl
 i46:=by kernel_rfl
 i51:=by kernel_rfl
 i53:=by kernel_rfl
 i171:=by kernel_rfl
 i173:=by kernel_rfl
 i212:=by kernel_rfl
 i232:=by kernel_rfl
 i233:=by kernel_rfl
 m17:=by kernel_rfl
 m18:=by kernel_rfl
 m19:=by kernel_rfl }
open Go.RowKit Go.Sort Go.Lib in
theorem Tryz.strconv_Itoa (n : Int) (h0 : -9223372036854775808 ≤ n) (h1 : n ≤ 9223372036854775807) (w : World) (htab : Lib.TabIs Tryz.prog w "internal/strconv.uint64pow10" .u64 Lib.pow10Tab) :
  Calls Tryz.prog 40 #[.int .i64 n] w fun e w'=>e=.returned (.string ⟨(Lib.itoa n).toArray⟩)∧∃k os,w'=grow (w.drewN k) os:=Any.strconv_Itoa Tryz.laysM171 n h0 h1 w htab
def Tryz.laysC245_ren:Go.Shelf.Ren:=⟨fun | 245=>116 | 279=>129 | 280=>130 | 281=>131 | 282=>132 | 316=>136 | 171=>40 | 205=>137 | 243=>61 | 246=>83 | 283=>85 | 284=>86 | 285=>87 | 286=>88 | 129=>107 | 317=>106 | 318=>108 | 319=>109 | 320=>110 | 337=>121 | 338=>122 | n=>n,fun | 9=>9 | 3=>3 | 75=>100 | 167=>178 | 4=>4 | 168=>181 | 210=>193 | 37=>46 | 0=>0 | 127=>126 | 145=>199 | 143=>197 | 2=>2 | 171=>150 | 53=>30 | 5=>5 | 173=>153 | 212=>164 | 51=>165 | 20=>20 | 213=>166 | 46=>125 | 232=>31 | 233=>184 | 80=>106 | n=>n,fun | 15=>6 | 16=>7 | 17=>0 | 18=>2 | 19=>3 | n=>n⟩
theorem Tryz.laysC245:Go.Proofs.LaysC.n245 Tryz.prog Tryz.laysC245_ren := {
 mixed:=by kernel_rfl
 f129:=Tryz.func107.trans (congrArg some (by kernel_rfl))
 f171:=Tryz.func40.trans (congrArg some (by kernel_rfl))
 f205:=Tryz.func137.trans (congrArg some (by kernel_rfl))
 f243:=Tryz.func61.trans (congrArg some (by kernel_rfl))
 f245:=Tryz.func116.trans (congrArg some (by kernel_rfl))
 f246:=Tryz.func83.trans (congrArg some (by kernel_rfl))
 f279:=Tryz.func129.trans (congrArg some (by kernel_rfl))
 f280:=Tryz.func130.trans (congrArg some (by kernel_rfl))
 f281:=Tryz.func131.trans (congrArg some (by kernel_rfl))
 f282:=Tryz.func132.trans (congrArg some (by kernel_rfl))
 f283:=Tryz.func85.trans (congrArg some (by kernel_rfl))
 f284:=Tryz.func86.trans (congrArg some (by kernel_rfl))
 f285:=Tryz.func87.trans (congrArg some (by kernel_rfl))
 f286:=Tryz.func88.trans (congrArg some (by kernel_rfl))
 f316:=Tryz.func136.trans (congrArg some (by kernel_rfl))
 f317:=Tryz.func106.trans (congrArg some (by kernel_rfl))
 f318:=Tryz.func108.trans (congrArg some (by kernel_rfl))
 f319:=Tryz.func109.trans (congrArg some (by kernel_rfl))
 f320:=Tryz.func110.trans (congrArg some (by kernel_rfl))
 f337:=Tryz.func121.trans (congrArg some (by kernel_rfl))
 f338:=Tryz.func122.trans (congrArg some (by kernel_rfl))
 t0:=Tryz.underlying0
 a0:=Tryz.isAgg0
 z0:=Tryz.sizeOf0
 v0:=Tryz.zeroValue0
 t2:=Tryz.underlying2
 a2:=Tryz.isAgg2
 z2:=Tryz.sizeOf2
 v2:=Tryz.zeroValue2
 t3:=Tryz.underlying3
 a3:=Tryz.isAgg3
 z3:=Tryz.sizeOf3
 v3:=Tryz.zeroValue3
 t4:=Tryz.underlying4
 a4:=Tryz.isAgg4
 z4:=Tryz.sizeOf4
 v4:=Tryz.zeroValue4
 t5:=Tryz.underlying5
 a5:=Tryz.isAgg5
 z5:=Tryz.sizeOf5
 v5:=Tryz.zeroValue5
 t9:=Tryz.underlying9
 a9:=Tryz.isAgg9
 z9:=Tryz.sizeOf9
 v9:=Tryz.zeroValue9
 t20:=Tryz.underlying20
 a20:=Tryz.isAgg20
 z20:=Tryz.sizeOf20
 v20:=Tryz.zeroValue20
 t37:=Tryz.underlying46
 a37:=Tryz.isAgg46
 z37:=Tryz.sizeOf46
 v37:=Tryz.zeroValue46
 t46:=Tryz.underlying125
 a46:=Tryz.isAgg125
 z46:=Tryz.sizeOf125
 v46:=Tryz.zeroValue125
 t51:=Tryz.underlying165
 a51:=Tryz.isAgg165
 z51:=Tryz.sizeOf165
 v51:=Tryz.zeroValue165
 t53:=Tryz.underlying30
 a53:=Tryz.isAgg30
 z53:=Tryz.sizeOf30
 v53:=Tryz.zeroValue30
 t75:=Tryz.underlying100
 a75:=Tryz.isAgg100
 z75:=Tryz.sizeOf100
 v75:=Tryz.zeroValue100
 t127:=Tryz.underlying126
 a127:=Tryz.isAgg126
 z127:=Tryz.sizeOf126
 v127:=Tryz.zeroValue126
 t143:=Tryz.underlying197
 a143:=Tryz.isAgg197
 z143:=Tryz.sizeOf197
 v143:=Tryz.zeroValue197
 t145:=Tryz.underlying199
 a145:=Tryz.isAgg199
 z145:=Tryz.sizeOf199
 v145:=Tryz.zeroValue199
 t167:=Tryz.underlying178
 a167:=Tryz.isAgg178
 z167:=Tryz.sizeOf178
 v167:=Tryz.zeroValue178
 t168:=Tryz.underlying181
 a168:=Tryz.isAgg181
 z168:=Tryz.sizeOf181
 v168:=Tryz.zeroValue181
 t171:=Tryz.underlying150
 a171:=Tryz.isAgg150
 z171:=Tryz.sizeOf150
 v171:=Tryz.zeroValue150
 t173:=Tryz.underlying153
 a173:=Tryz.isAgg153
 z173:=Tryz.sizeOf153
 v173:=Tryz.zeroValue153
 t210:=Tryz.underlying193
 a210:=Tryz.isAgg193
 z210:=Tryz.sizeOf193
 v210:=Tryz.zeroValue193
 t212:=Tryz.underlying164
 a212:=Tryz.isAgg164
 z212:=Tryz.sizeOf164
 v212:=Tryz.zeroValue164
 t213:=Tryz.underlying166
 a213:=Tryz.isAgg166
 z213:=Tryz.sizeOf166
 t232:=Tryz.underlying31
 a232:=Tryz.isAgg31
 z232:=Tryz.sizeOf31
 v232:=Tryz.zeroValue31
 t233:=Tryz.underlying184
 a233:=Tryz.isAgg184
 z233:=Tryz.sizeOf184
 v233:=Tryz.zeroValue184
 g15:=by kernel_rfl
 g16:=by kernel_rfl
 g17:=by kernel_rfl
 g18:=by kernel_rfl
 g19:=by kernel_rfl
 t80:=Tryz.underlying106
 a80:=Tryz.isAgg106
 z80:=Tryz.sizeOf106
 v80:=Tryz.zeroValue106
 i0:=by kernel_rfl
 i2:=by kernel_rfl
 i3:=by kernel_rfl
 i4:=by kernel_rfl
 i5:=by kernel_rfl
 i9:=by kernel_rfl
 i20:=by kernel_rfl
 i37:=by kernel_rfl
 i46:=by kernel_rfl
 i51:=by kernel_rfl
 i53:=by kernel_rfl
 i75:=by kernel_rfl
 i80:=by kernel_rfl
 i127:=by kernel_rfl
 i143:=by kernel_rfl
 i145:=by kernel_rfl
 i167:=by kernel_rfl
 i168:=by kernel_rfl
 i171:=by kernel_rfl
 i173:=by kernel_rfl
 i210:=by kernel_rfl
 i212:=by kernel_rfl
 i232:=by kernel_rfl
 i233:=by kernel_rfl
 m15:=by kernel_rfl
 m16:=by kernel_rfl
 m17:=by kernel_rfl
 m18:=by kernel_rfl
 m19:=by kernel_rfl
 c0:=by kernel_rfl
 c2:=by kernel_rfl
 c3:=by kernel_rfl
 c4:=by kernel_rfl
 c5:=by kernel_rfl
 c9:=by kernel_rfl
 c20:=by kernel_rfl
 c37:=by kernel_rfl
 c46:=by kernel_rfl
 c51:=by kernel_rfl
 c53:=by kernel_rfl
 c75:=by kernel_rfl
 c80:=by kernel_rfl
 c127:=by kernel_rfl
 c143:=by kernel_rfl
 c145:=by kernel_rfl
 c167:=by kernel_rfl
 c168:=by kernel_rfl
 c171:=by kernel_rfl
 c173:=by kernel_rfl
 c210:=by kernel_rfl
 c212:=by kernel_rfl
 c213:=by kernel_rfl
 c232:=by kernel_rfl
 c233:=by kernel_rfl }
open Go.RowKit in
theorem Tryz.strconv_toError_syntax (fn s:ByteArray) (base bits:Int) (ev:Value) (w:World) (hlim:s.size≤281474976710656) (hv:w.cell? ⟨6,0,none⟩=some ev) (hev:ev=.nilIface∨∃te pe,ev=.iface te pe) :
  Calls Tryz.prog 116 #[.string fn,.string s,.int .i64 base,.int .i64 bits,.iface 178 (.int .i64 2)] w fun e w'=>∃N,e=.returned (.iface 181 (.pointer (some ⟨N,0,none⟩)))∧w.heap.size≤N∧w'.heap[N]?=some (.cells #[.string fn,.string s,ev] 193 (0,0))∧Below w.heap.size w w':=Any.strconv_toError_syntax Tryz.laysC245 fn s base bits ev w hlim hv hev
def Tryz.lays321_ren:Go.Shelf.Ren:=⟨fun | 321=>127 | n=>n,fun | 5=>5 | n=>n,fun | n=>n⟩
theorem Tryz.lays321:Go.Proofs.Lays.n321 Tryz.prog Tryz.lays321_ren := {
 mixed:=by kernel_rfl
 f321:=Tryz.func127.trans (congrArg some (by kernel_rfl))
 t5:=Tryz.underlying5
 a5:=Tryz.isAgg5
 z5:=Tryz.sizeOf5
 v5:=Tryz.zeroValue5 }
open Go.RowKit in
theorem Tryz.internal_strconv_lower (c:Int) (w:World) :
  Calls Tryz.prog 127 #[.int .u8 c] w fun e w'=>e=.returned (.int .u8 (bits .or .u8 c 32))∧w'=w:=Any.internal_strconv_lower Tryz.lays321 c w
open Go.RowKit in
theorem Tryz.strconv_toError_range (fn s:ByteArray) (base bits:Int) (ev:Value) (w:World) (hlim:s.size≤281474976710656) (hv:w.cell? ⟨7,0,none⟩=some ev) (hev:ev=.nilIface∨∃te pe,ev=.iface te pe) :
  Calls Tryz.prog 116 #[.string fn,.string s,.int .i64 base,.int .i64 bits,.iface 178 (.int .i64 1)] w fun e w'=>∃N,e=.returned (.iface 181 (.pointer (some ⟨N,0,none⟩)))∧w.heap.size≤N∧w'.heap[N]?=some (.cells #[.string fn,.string s,ev] 193 (0,0))∧Below w.heap.size w w':=Any.strconv_toError_range Tryz.laysC245 fn s base bits ev w hlim hv hev
def Tryz.laysC172_ren:Go.Shelf.Ren:=⟨fun | 172=>118 | 244=>134 | 245=>116 | 247=>138 | 279=>129 | 280=>130 | 281=>131 | 282=>132 | 287=>115 | 316=>136 | 171=>40 | 205=>137 | 321=>127 | 322=>128 | 243=>61 | 246=>83 | 283=>85 | 284=>86 | 285=>87 | 286=>88 | 129=>107 | 317=>106 | 318=>108 | 319=>109 | 320=>110 | 337=>121 | 338=>122 | n=>n,fun | 9=>9 | 3=>3 | 75=>100 | 76=>101 | 4=>4 | 5=>5 | 167=>178 | 37=>46 | 0=>0 | 85=>195 | 2=>2 | 168=>181 | 53=>30 | 175=>158 | 46=>125 | 210=>193 | 127=>126 | 145=>199 | 143=>197 | 21=>21 | 171=>150 | 173=>153 | 212=>164 | 51=>165 | 20=>20 | 213=>166 | 232=>31 | 233=>184 | 80=>106 | n=>n,fun | 15=>6 | 16=>7 | 17=>0 | 18=>2 | 19=>3 | n=>n⟩
theorem Tryz.laysC172:Go.Proofs.LaysC.n172 Tryz.prog Tryz.laysC172_ren := {
 mixed:=by kernel_rfl
 f129:=Tryz.func107.trans (congrArg some (by kernel_rfl))
 f171:=Tryz.func40.trans (congrArg some (by kernel_rfl))
 f172:=Tryz.func118.trans (congrArg some (by kernel_rfl))
 f205:=Tryz.func137.trans (congrArg some (by kernel_rfl))
 f243:=Tryz.func61.trans (congrArg some (by kernel_rfl))
 f244:=Tryz.func134.trans (congrArg some (by kernel_rfl))
 f245:=Tryz.func116.trans (congrArg some (by kernel_rfl))
 f246:=Tryz.func83.trans (congrArg some (by kernel_rfl))
 f247:=Tryz.func138.trans (congrArg some (by kernel_rfl))
 f279:=Tryz.func129.trans (congrArg some (by kernel_rfl))
 f280:=Tryz.func130.trans (congrArg some (by kernel_rfl))
 f281:=Tryz.func131.trans (congrArg some (by kernel_rfl))
 f282:=Tryz.func132.trans (congrArg some (by kernel_rfl))
 f283:=Tryz.func85.trans (congrArg some (by kernel_rfl))
 f284:=Tryz.func86.trans (congrArg some (by kernel_rfl))
 f285:=Tryz.func87.trans (congrArg some (by kernel_rfl))
 f286:=Tryz.func88.trans (congrArg some (by kernel_rfl))
 f287:=Tryz.func115.trans (congrArg some (by kernel_rfl))
 f316:=Tryz.func136.trans (congrArg some (by kernel_rfl))
 f317:=Tryz.func106.trans (congrArg some (by kernel_rfl))
 f318:=Tryz.func108.trans (congrArg some (by kernel_rfl))
 f319:=Tryz.func109.trans (congrArg some (by kernel_rfl))
 f320:=Tryz.func110.trans (congrArg some (by kernel_rfl))
 f321:=Tryz.func127.trans (congrArg some (by kernel_rfl))
 f322:=Tryz.func128.trans (congrArg some (by kernel_rfl))
 f337:=Tryz.func121.trans (congrArg some (by kernel_rfl))
 f338:=Tryz.func122.trans (congrArg some (by kernel_rfl))
 t0:=Tryz.underlying0
 a0:=Tryz.isAgg0
 z0:=Tryz.sizeOf0
 v0:=Tryz.zeroValue0
 t2:=Tryz.underlying2
 a2:=Tryz.isAgg2
 z2:=Tryz.sizeOf2
 v2:=Tryz.zeroValue2
 t3:=Tryz.underlying3
 a3:=Tryz.isAgg3
 z3:=Tryz.sizeOf3
 v3:=Tryz.zeroValue3
 t4:=Tryz.underlying4
 a4:=Tryz.isAgg4
 z4:=Tryz.sizeOf4
 v4:=Tryz.zeroValue4
 t5:=Tryz.underlying5
 a5:=Tryz.isAgg5
 z5:=Tryz.sizeOf5
 v5:=Tryz.zeroValue5
 t9:=Tryz.underlying9
 a9:=Tryz.isAgg9
 z9:=Tryz.sizeOf9
 v9:=Tryz.zeroValue9
 t20:=Tryz.underlying20
 a20:=Tryz.isAgg20
 z20:=Tryz.sizeOf20
 v20:=Tryz.zeroValue20
 t21:=Tryz.underlying21
 a21:=Tryz.isAgg21
 z21:=Tryz.sizeOf21
 v21:=Tryz.zeroValue21
 t37:=Tryz.underlying46
 a37:=Tryz.isAgg46
 z37:=Tryz.sizeOf46
 v37:=Tryz.zeroValue46
 t46:=Tryz.underlying125
 a46:=Tryz.isAgg125
 z46:=Tryz.sizeOf125
 v46:=Tryz.zeroValue125
 t51:=Tryz.underlying165
 a51:=Tryz.isAgg165
 z51:=Tryz.sizeOf165
 v51:=Tryz.zeroValue165
 t53:=Tryz.underlying30
 a53:=Tryz.isAgg30
 z53:=Tryz.sizeOf30
 v53:=Tryz.zeroValue30
 t75:=Tryz.underlying100
 a75:=Tryz.isAgg100
 z75:=Tryz.sizeOf100
 v75:=Tryz.zeroValue100
 t76:=Tryz.underlying101
 a76:=Tryz.isAgg101
 z76:=Tryz.sizeOf101
 v76:=Tryz.zeroValue101
 t85:=Tryz.underlying195
 a85:=Tryz.isAgg195
 z85:=Tryz.sizeOf195
 v85:=Tryz.zeroValue195
 t127:=Tryz.underlying126
 a127:=Tryz.isAgg126
 z127:=Tryz.sizeOf126
 v127:=Tryz.zeroValue126
 t143:=Tryz.underlying197
 a143:=Tryz.isAgg197
 z143:=Tryz.sizeOf197
 v143:=Tryz.zeroValue197
 t145:=Tryz.underlying199
 a145:=Tryz.isAgg199
 z145:=Tryz.sizeOf199
 v145:=Tryz.zeroValue199
 t167:=Tryz.underlying178
 a167:=Tryz.isAgg178
 z167:=Tryz.sizeOf178
 v167:=Tryz.zeroValue178
 t168:=Tryz.underlying181
 a168:=Tryz.isAgg181
 z168:=Tryz.sizeOf181
 v168:=Tryz.zeroValue181
 t171:=Tryz.underlying150
 a171:=Tryz.isAgg150
 z171:=Tryz.sizeOf150
 v171:=Tryz.zeroValue150
 t173:=Tryz.underlying153
 a173:=Tryz.isAgg153
 z173:=Tryz.sizeOf153
 v173:=Tryz.zeroValue153
 t175:=Tryz.underlying158
 a175:=Tryz.isAgg158
 z175:=Tryz.sizeOf158
 v175:=Tryz.zeroValue158
 t210:=Tryz.underlying193
 a210:=Tryz.isAgg193
 z210:=Tryz.sizeOf193
 v210:=Tryz.zeroValue193
 t212:=Tryz.underlying164
 a212:=Tryz.isAgg164
 z212:=Tryz.sizeOf164
 v212:=Tryz.zeroValue164
 t213:=Tryz.underlying166
 a213:=Tryz.isAgg166
 z213:=Tryz.sizeOf166
 t232:=Tryz.underlying31
 a232:=Tryz.isAgg31
 z232:=Tryz.sizeOf31
 v232:=Tryz.zeroValue31
 t233:=Tryz.underlying184
 a233:=Tryz.isAgg184
 z233:=Tryz.sizeOf184
 v233:=Tryz.zeroValue184
 g15:=by kernel_rfl
 g16:=by kernel_rfl
 g17:=by kernel_rfl
 g18:=by kernel_rfl
 g19:=by kernel_rfl
 t80:=Tryz.underlying106
 a80:=Tryz.isAgg106
 z80:=Tryz.sizeOf106
 v80:=Tryz.zeroValue106
 i0:=by kernel_rfl
 i2:=by kernel_rfl
 i3:=by kernel_rfl
 i4:=by kernel_rfl
 i5:=by kernel_rfl
 i9:=by kernel_rfl
 i20:=by kernel_rfl
 i21:=by kernel_rfl
 i37:=by kernel_rfl
 i46:=by kernel_rfl
 i51:=by kernel_rfl
 i53:=by kernel_rfl
 i75:=by kernel_rfl
 i76:=by kernel_rfl
 i80:=by kernel_rfl
 i85:=by kernel_rfl
 i127:=by kernel_rfl
 i143:=by kernel_rfl
 i145:=by kernel_rfl
 i167:=by kernel_rfl
 i168:=by kernel_rfl
 i171:=by kernel_rfl
 i173:=by kernel_rfl
 i175:=by kernel_rfl
 i210:=by kernel_rfl
 i212:=by kernel_rfl
 i232:=by kernel_rfl
 i233:=by kernel_rfl
 m15:=by kernel_rfl
 m16:=by kernel_rfl
 m17:=by kernel_rfl
 m18:=by kernel_rfl
 m19:=by kernel_rfl
 c0:=by kernel_rfl
 c2:=by kernel_rfl
 c3:=by kernel_rfl
 c4:=by kernel_rfl
 c5:=by kernel_rfl
 c9:=by kernel_rfl
 c20:=by kernel_rfl
 c21:=by kernel_rfl
 c37:=by kernel_rfl
 c46:=by kernel_rfl
 c51:=by kernel_rfl
 c53:=by kernel_rfl
 c75:=by kernel_rfl
 c76:=by kernel_rfl
 c80:=by kernel_rfl
 c85:=by kernel_rfl
 c127:=by kernel_rfl
 c143:=by kernel_rfl
 c145:=by kernel_rfl
 c167:=by kernel_rfl
 c168:=by kernel_rfl
 c171:=by kernel_rfl
 c173:=by kernel_rfl
 c175:=by kernel_rfl
 c210:=by kernel_rfl
 c212:=by kernel_rfl
 c213:=by kernel_rfl
 c232:=by kernel_rfl
 c233:=by kernel_rfl }
open Go.RowKit in
theorem Tryz.strconv_Atoi_ok (s:ByteArray) (hmax:s.size≤9223372036854775806) (v:Int) (h:Lib.atoiAll s.data.toList=.ok v) (w:World) :
  Calls Tryz.prog 118 #[.string s] w fun e w'=>e=.returned (.tuple #[.int .i64 v,.nilIface])∧(w'=w∨∃t,w'=Lib.bytesWorld w 5 t):=Any.strconv_Atoi_ok Tryz.laysC172 s hmax v h w
open Go.RowKit in
theorem Tryz.strconv_Atoi_syntax (s:ByteArray) (hlim:s.size≤281474976710656) (h:Lib.atoiAll s.data.toList=Lib.atoiAll []) (ev:Value) (w:World) (hv:w.cell? ⟨6,0,none⟩=some ev) (hev:ev=.nilIface∨∃te pe,ev=.iface te pe) :
  Calls Tryz.prog 118 #[.string s] w fun e w'=>∃N,e=.returned (.tuple #[.int .i64 (0),.iface 181 (.pointer (some ⟨N,0,none⟩))])∧w.heap.size≤N∧w'.heap[N]?=some (.cells #[.string ⟨#[65,116,111,105]⟩,.string s,ev] 193 (0,0))∧Below w.heap.size w w':=Any.strconv_Atoi_syntax Tryz.laysC172 s hlim h ev w hv hev
open Go.RowKit in
theorem Tryz.strconv_Atoi_range (s:ByteArray) (hlim:s.size≤281474976710656) (h:Lib.atoiAll s.data.toList=.range) (ev:Value) (w:World) (hv:w.cell? ⟨7,0,none⟩=some ev) (hev:ev=.nilIface∨∃te pe,ev=.iface te pe) :
  Calls Tryz.prog 118 #[.string s] w fun e w'=>∃N,e=.returned (.tuple #[.int .i64 (Lib.atoiSat s.data.toList),.iface 181 (.pointer (some ⟨N,0,none⟩))])∧w.heap.size≤N∧w'.heap[N]?=some (.cells #[.string ⟨#[65,116,111,105]⟩,.string s,ev] 193 (0,0))∧Below w.heap.size w w':=Any.strconv_Atoi_range Tryz.laysC172 s hlim h ev w hv hev
def Tryz.laysPu14_ren:Go.Shelf.Ren:=⟨fun | 14=>93 | 16=>115 | 17=>116 | 19=>127 | 20=>128 | 21=>129 | 22=>130 | 23=>131 | 24=>132 | 25=>136 | 27=>40 | 26=>137 | 28=>61 | 29=>83 | 30=>85 | 31=>86 | 32=>87 | 33=>88 | 35=>107 | 34=>106 | 36=>108 | 37=>109 | 38=>110 | 39=>121 | 40=>122 | n=>n,fun | 9=>9 | 3=>3 | 22=>30 | 24=>100 | 25=>158 | 4=>4 | 34=>178 | 5=>5 | 36=>125 | 37=>46 | 0=>0 | 39=>181 | 21=>21 | 44=>193 | 47=>126 | 50=>199 | 48=>197 | 2=>2 | 52=>150 | 55=>153 | 59=>164 | 60=>165 | 20=>20 | 61=>166 | 65=>31 | 66=>184 | 67=>106 | n=>n,fun | 0=>6 | 1=>7 | 2=>0 | 3=>2 | 4=>3 | n=>n⟩
theorem Tryz.laysPu14:Go.Proofs.LaysPu.n14 Tryz.prog Tryz.laysPu14_ren := {
 mixed:=by kernel_rfl
 f14:=Tryz.func93.trans (congrArg some (by kernel_rfl))
 f16:=Tryz.func115.trans (congrArg some (by kernel_rfl))
 f17:=Tryz.func116.trans (congrArg some (by kernel_rfl))
 f19:=Tryz.func127.trans (congrArg some (by kernel_rfl))
 f20:=Tryz.func128.trans (congrArg some (by kernel_rfl))
 f21:=Tryz.func129.trans (congrArg some (by kernel_rfl))
 f22:=Tryz.func130.trans (congrArg some (by kernel_rfl))
 f23:=Tryz.func131.trans (congrArg some (by kernel_rfl))
 f24:=Tryz.func132.trans (congrArg some (by kernel_rfl))
 f25:=Tryz.func136.trans (congrArg some (by kernel_rfl))
 f26:=Tryz.func137.trans (congrArg some (by kernel_rfl))
 f27:=Tryz.func40.trans (congrArg some (by kernel_rfl))
 f28:=Tryz.func61.trans (congrArg some (by kernel_rfl))
 f29:=Tryz.func83.trans (congrArg some (by kernel_rfl))
 f30:=Tryz.func85.trans (congrArg some (by kernel_rfl))
 f31:=Tryz.func86.trans (congrArg some (by kernel_rfl))
 f32:=Tryz.func87.trans (congrArg some (by kernel_rfl))
 f33:=Tryz.func88.trans (congrArg some (by kernel_rfl))
 f34:=Tryz.func106.trans (congrArg some (by kernel_rfl))
 f35:=Tryz.func107.trans (congrArg some (by kernel_rfl))
 f36:=Tryz.func108.trans (congrArg some (by kernel_rfl))
 f37:=Tryz.func109.trans (congrArg some (by kernel_rfl))
 f38:=Tryz.func110.trans (congrArg some (by kernel_rfl))
 f39:=Tryz.func121.trans (congrArg some (by kernel_rfl))
 f40:=Tryz.func122.trans (congrArg some (by kernel_rfl))
 t0:=Tryz.underlying0
 a0:=Tryz.isAgg0
 z0:=Tryz.sizeOf0
 v0:=Tryz.zeroValue0
 i0:=by kernel_rfl
 t2:=Tryz.underlying2
 a2:=Tryz.isAgg2
 z2:=Tryz.sizeOf2
 v2:=Tryz.zeroValue2
 i2:=by kernel_rfl
 t3:=Tryz.underlying3
 a3:=Tryz.isAgg3
 z3:=Tryz.sizeOf3
 v3:=Tryz.zeroValue3
 i3:=by kernel_rfl
 t4:=Tryz.underlying4
 a4:=Tryz.isAgg4
 z4:=Tryz.sizeOf4
 v4:=Tryz.zeroValue4
 i4:=by kernel_rfl
 t5:=Tryz.underlying5
 a5:=Tryz.isAgg5
 z5:=Tryz.sizeOf5
 v5:=Tryz.zeroValue5
 i5:=by kernel_rfl
 t9:=Tryz.underlying9
 a9:=Tryz.isAgg9
 z9:=Tryz.sizeOf9
 v9:=Tryz.zeroValue9
 i9:=by kernel_rfl
 t20:=Tryz.underlying20
 a20:=Tryz.isAgg20
 z20:=Tryz.sizeOf20
 v20:=Tryz.zeroValue20
 i20:=by kernel_rfl
 t21:=Tryz.underlying21
 a21:=Tryz.isAgg21
 z21:=Tryz.sizeOf21
 v21:=Tryz.zeroValue21
 i21:=by kernel_rfl
 t22:=Tryz.underlying30
 a22:=Tryz.isAgg30
 z22:=Tryz.sizeOf30
 v22:=Tryz.zeroValue30
 i22:=by kernel_rfl
 t24:=Tryz.underlying100
 a24:=Tryz.isAgg100
 z24:=Tryz.sizeOf100
 v24:=Tryz.zeroValue100
 i24:=by kernel_rfl
 t25:=Tryz.underlying158
 a25:=Tryz.isAgg158
 z25:=Tryz.sizeOf158
 v25:=Tryz.zeroValue158
 i25:=by kernel_rfl
 t34:=Tryz.underlying178
 a34:=Tryz.isAgg178
 z34:=Tryz.sizeOf178
 v34:=Tryz.zeroValue178
 i34:=by kernel_rfl
 c34:=by kernel_rfl
 t36:=Tryz.underlying125
 a36:=Tryz.isAgg125
 z36:=Tryz.sizeOf125
 v36:=Tryz.zeroValue125
 i36:=by kernel_rfl
 t37:=Tryz.underlying46
 a37:=Tryz.isAgg46
 z37:=Tryz.sizeOf46
 v37:=Tryz.zeroValue46
 i37:=by kernel_rfl
 t39:=Tryz.underlying181
 a39:=Tryz.isAgg181
 z39:=Tryz.sizeOf181
 v39:=Tryz.zeroValue181
 i39:=by kernel_rfl
 t44:=Tryz.underlying193
 a44:=Tryz.isAgg193
 z44:=Tryz.sizeOf193
 v44:=Tryz.zeroValue193
 i44:=by kernel_rfl
 t47:=Tryz.underlying126
 a47:=Tryz.isAgg126
 z47:=Tryz.sizeOf126
 v47:=Tryz.zeroValue126
 i47:=by kernel_rfl
 t48:=Tryz.underlying197
 a48:=Tryz.isAgg197
 z48:=Tryz.sizeOf197
 v48:=Tryz.zeroValue197
 i48:=by kernel_rfl
 t50:=Tryz.underlying199
 a50:=Tryz.isAgg199
 z50:=Tryz.sizeOf199
 v50:=Tryz.zeroValue199
 i50:=by kernel_rfl
 t52:=Tryz.underlying150
 a52:=Tryz.isAgg150
 z52:=Tryz.sizeOf150
 v52:=Tryz.zeroValue150
 i52:=by kernel_rfl
 t55:=Tryz.underlying153
 a55:=Tryz.isAgg153
 z55:=Tryz.sizeOf153
 v55:=Tryz.zeroValue153
 i55:=by kernel_rfl
 t59:=Tryz.underlying164
 a59:=Tryz.isAgg164
 z59:=Tryz.sizeOf164
 v59:=Tryz.zeroValue164
 i59:=by kernel_rfl
 t60:=Tryz.underlying165
 a60:=Tryz.isAgg165
 z60:=Tryz.sizeOf165
 v60:=Tryz.zeroValue165
 i60:=by kernel_rfl
 t61:=Tryz.underlying166
 a61:=Tryz.isAgg166
 z61:=Tryz.sizeOf166
 t65:=Tryz.underlying31
 a65:=Tryz.isAgg31
 z65:=Tryz.sizeOf31
 v65:=Tryz.zeroValue31
 i65:=by kernel_rfl
 t66:=Tryz.underlying184
 a66:=Tryz.isAgg184
 z66:=Tryz.sizeOf184
 v66:=Tryz.zeroValue184
 i66:=by kernel_rfl
 t67:=Tryz.underlying106
 a67:=Tryz.isAgg106
 z67:=Tryz.sizeOf106
 v67:=Tryz.zeroValue106
 i67:=by kernel_rfl
 g0:=by kernel_rfl
 m0:=by kernel_rfl
 g1:=by kernel_rfl
 m1:=by kernel_rfl
 g2:=by kernel_rfl
 m2:=by kernel_rfl
 g3:=by kernel_rfl
 m3:=by kernel_rfl
 g4:=by kernel_rfl
 m4:=by kernel_rfl }
open Go.RowKit in
theorem Tryz.strconv_ParseUint_10_at64_ok (s:ByteArray) (hmax:s.size≤9223372036854775806) (u:Nat) (h:Lib.parseUintB 64 s.data.toList=.ok u) (w:World) :
  Calls Tryz.prog 93 #[.string s,.int .i64 10,.int .i64 64] w fun e w'=>e=.returned (.tuple #[.int .u64 u,.nilIface])∧(w'=w∨w'=Lib.bytesWorld w 5 s):=Any.strconv_ParseUint_10_at64_ok Tryz.laysPu14 s hmax u h w
open Go.RowKit in
theorem Tryz.strconv_ParseUint_10_at64_syntax (s:ByteArray) (hlim:s.size≤281474976710656) (h:Lib.parseUintB 64 s.data.toList=Lib.parseUintB 64 []) (ev:Value) (w:World) (hv:w.cell? ⟨6,0,none⟩=some ev) (hev:ev=.nilIface∨∃te pe,ev=.iface te pe) :
  Calls Tryz.prog 93 #[.string s,.int .i64 10,.int .i64 64] w fun e w'=>∃N,e=.returned (.tuple #[.int .u64 0,.iface 181 (.pointer (some ⟨N,0,none⟩))])∧w.heap.size≤N∧w'.heap[N]?=some (.cells #[.string ⟨#[80,97,114,115,101,85,105,110,116]⟩,.string s,ev] 193 (0,0))∧Below w.heap.size w w':=Any.strconv_ParseUint_10_at64_syntax Tryz.laysPu14 s hlim h ev w hv hev
open Go.RowKit in
theorem Tryz.strconv_ParseUint_10_at64_range (s:ByteArray) (hlim:s.size≤281474976710656) (h:Lib.parseUintB 64 s.data.toList=.range) (ev:Value) (w:World) (hv:w.cell? ⟨7,0,none⟩=some ev) (hev:ev=.nilIface∨∃te pe,ev=.iface te pe) :
  Calls Tryz.prog 93 #[.string s,.int .i64 10,.int .i64 64] w fun e w'=>∃N,e=.returned (.tuple #[.int .u64 18446744073709551615,.iface 181 (.pointer (some ⟨N,0,none⟩))])∧w.heap.size≤N∧w'.heap[N]?=some (.cells #[.string ⟨#[80,97,114,115,101,85,105,110,116]⟩,.string s,ev] 193 (0,0))∧Below w.heap.size w w':=Any.strconv_ParseUint_10_at64_range Tryz.laysPu14 s hlim h ev w hv hev
open Go.RowKit in
theorem Tryz.strconv_ParseUint_10_at8_ok (s:ByteArray) (hmax:s.size≤9223372036854775806) (u:Nat) (h:Lib.parseUintB 8 s.data.toList=.ok u) (w:World) :
  Calls Tryz.prog 93 #[.string s,.int .i64 10,.int .i64 8] w fun e w'=>e=.returned (.tuple #[.int .u64 u,.nilIface])∧(w'=w∨w'=Lib.bytesWorld w 5 s):=Any.strconv_ParseUint_10_at8_ok Tryz.laysPu14 s hmax u h w
open Go.RowKit in
theorem Tryz.strconv_ParseUint_10_at8_syntax (s:ByteArray) (hlim:s.size≤281474976710656) (h:Lib.parseUintB 8 s.data.toList=Lib.parseUintB 8 []) (ev:Value) (w:World) (hv:w.cell? ⟨6,0,none⟩=some ev) (hev:ev=.nilIface∨∃te pe,ev=.iface te pe) :
  Calls Tryz.prog 93 #[.string s,.int .i64 10,.int .i64 8] w fun e w'=>∃N,e=.returned (.tuple #[.int .u64 0,.iface 181 (.pointer (some ⟨N,0,none⟩))])∧w.heap.size≤N∧w'.heap[N]?=some (.cells #[.string ⟨#[80,97,114,115,101,85,105,110,116]⟩,.string s,ev] 193 (0,0))∧Below w.heap.size w w':=Any.strconv_ParseUint_10_at8_syntax Tryz.laysPu14 s hlim h ev w hv hev
open Go.RowKit in
theorem Tryz.strconv_ParseUint_10_at8_range (s:ByteArray) (hlim:s.size≤281474976710656) (h:Lib.parseUintB 8 s.data.toList=.range) (ev:Value) (w:World) (hv:w.cell? ⟨7,0,none⟩=some ev) (hev:ev=.nilIface∨∃te pe,ev=.iface te pe) :
  Calls Tryz.prog 93 #[.string s,.int .i64 10,.int .i64 8] w fun e w'=>∃N,e=.returned (.tuple #[.int .u64 255,.iface 181 (.pointer (some ⟨N,0,none⟩))])∧w.heap.size≤N∧w'.heap[N]?=some (.cells #[.string ⟨#[80,97,114,115,101,85,105,110,116]⟩,.string s,ev] 193 (0,0))∧Below w.heap.size w w':=Any.strconv_ParseUint_10_at8_range Tryz.laysPu14 s hlim h ev w hv hev
def Tryz.lays219_ren:Go.Shelf.Ren:=⟨fun | 219=>114 | 217=>117 | 225=>124 | 224=>125 | 267=>126 | 266=>133 | 314=>135 | n=>n,fun | 9=>9 | 3=>3 | 4=>4 | 5=>5 | 46=>125 | 146=>189 | 51=>165 | n=>n,fun | 1=>1 | n=>n⟩
def Tryz.lays145_ren:Go.Shelf.Ren:=⟨fun | 145=>74 | 220=>100 | 219=>114 | 217=>117 | 225=>124 | 224=>125 | 267=>126 | 266=>133 | 314=>135 | n=>n,fun | 9=>9 | 4=>4 | 59=>140 | 3=>3 | 5=>5 | 46=>125 | 146=>189 | 51=>165 | n=>n,fun | 1=>1 | n=>n⟩
theorem Tryz.lays145:Go.Proofs.Lays.n145 Tryz.prog Tryz.lays145_ren := {
 mixed:=by kernel_rfl
 f145:=Tryz.func74.trans (congrArg some (by kernel_rfl))
 f217:=Tryz.func117.trans (congrArg some (by kernel_rfl))
 f219:=Tryz.func114.trans (congrArg some (by kernel_rfl))
 f220:=Tryz.func100.trans (congrArg some (by kernel_rfl))
 f224:=Tryz.func125.trans (congrArg some (by kernel_rfl))
 f225:=Tryz.func124.trans (congrArg some (by kernel_rfl))
 f266:=Tryz.func133.trans (congrArg some (by kernel_rfl))
 f267:=Tryz.func126.trans (congrArg some (by kernel_rfl))
 f314:=Tryz.func135.trans (congrArg some (by kernel_rfl))
 t3:=Tryz.underlying3
 a3:=Tryz.isAgg3
 z3:=Tryz.sizeOf3
 v3:=Tryz.zeroValue3
 t4:=Tryz.underlying4
 a4:=Tryz.isAgg4
 z4:=Tryz.sizeOf4
 v4:=Tryz.zeroValue4
 t5:=Tryz.underlying5
 a5:=Tryz.isAgg5
 z5:=Tryz.sizeOf5
 v5:=Tryz.zeroValue5
 t9:=Tryz.underlying9
 a9:=Tryz.isAgg9
 z9:=Tryz.sizeOf9
 v9:=Tryz.zeroValue9
 t46:=Tryz.underlying125
 a46:=Tryz.isAgg125
 z46:=Tryz.sizeOf125
 v46:=Tryz.zeroValue125
 t51:=Tryz.underlying165
 a51:=Tryz.isAgg165
 z51:=Tryz.sizeOf165
 v51:=Tryz.zeroValue165
 t59:=Tryz.underlying140
 a59:=Tryz.isAgg140
 z59:=Tryz.sizeOf140
 v59:=Tryz.zeroValue140
 t146:=Tryz.underlying189
 a146:=Tryz.isAgg189
 z146:=Tryz.sizeOf189
 v146:=Tryz.zeroValue189
 g1:=by kernel_rfl }
open Go.RowKit Go.Lib in
theorem Tryz.strings_Cut (s sep:ByteArray) (m:Int) (w:World) (hs:s.size<4294967281) (hm:w.cell? ⟨1,0,none⟩=some (.int .i64 m)) :
  Calls Tryz.prog 74 #[.string s,.string sep] w fun e w'=>e=.returned (.tuple #[.string ⟨(Lib.cut s.data.toList sep.data.toList).1.toArray⟩,.string ⟨(Lib.cut s.data.toList sep.data.toList).2.1.toArray⟩,.bool (Lib.cut s.data.toList sep.data.toList).2.2])∧∃n,w'=w.drewN n:=Any.strings_Cut Tryz.lays145 s sep m w hs hm
def Tryz.lays207_ren:Go.Shelf.Ren:=⟨fun | 207=>65 | n=>n,fun | 9=>9 | 4=>4 | 3=>3 | n=>n,fun | n=>n⟩
def Tryz.lays100_ren:Go.Shelf.Ren:=⟨fun | 100=>48 | 207=>65 | n=>n,fun | 9=>9 | 4=>4 | 3=>3 | n=>n,fun | n=>n⟩
theorem Tryz.lays100:Go.Proofs.Lays.n100 Tryz.prog Tryz.lays100_ren := {
 mixed:=by kernel_rfl
 f100:=Tryz.func48.trans (congrArg some (by kernel_rfl))
 f207:=Tryz.func65.trans (congrArg some (by kernel_rfl))
 t3:=Tryz.underlying3
 a3:=Tryz.isAgg3
 z3:=Tryz.sizeOf3
 v3:=Tryz.zeroValue3
 t4:=Tryz.underlying4
 a4:=Tryz.isAgg4
 z4:=Tryz.sizeOf4
 v4:=Tryz.zeroValue4
 t9:=Tryz.underlying9
 a9:=Tryz.isAgg9
 z9:=Tryz.sizeOf9
 v9:=Tryz.zeroValue9 }
open Go.RowKit Go.Lib in
theorem Tryz.strings_HasSuffix (s p:ByteArray) (w:World) (hs:s.size≤9223372036854775807) :
  Calls Tryz.prog 48 #[.string s,.string p] w fun e w'=>e=.returned (.bool (Lib.hasSuffix s.data.toList p.data.toList))∧w'=w:=Any.strings_HasSuffix Tryz.lays100 s p w hs
def Tryz.lays221_ren:Go.Shelf.Ren:=⟨fun | 221=>66 | 268=>90 | 138=>91 | 143=>92 | 195=>111 | 197=>112 | 218=>113 | 219=>114 | 260=>123 | 217=>117 | 225=>124 | 224=>125 | 267=>126 | 266=>133 | 314=>135 | n=>n,fun | 9=>9 | 3=>3 | 31=>74 | 4=>4 | 0=>0 | 105=>170 | 21=>21 | 5=>5 | 46=>125 | 119=>185 | 139=>188 | 138=>187 | 146=>189 | 51=>165 | n=>n,fun | 1=>1 | 3=>4 | 4=>5 | n=>n⟩
def Tryz.lays146_ren:Go.Shelf.Ren:=⟨fun | 146=>49 | 221=>66 | 268=>90 | 138=>91 | 143=>92 | 195=>111 | 197=>112 | 218=>113 | 219=>114 | 260=>123 | 217=>117 | 225=>124 | 224=>125 | 267=>126 | 266=>133 | 314=>135 | n=>n,fun | 9=>9 | 31=>74 | 3=>3 | 4=>4 | 0=>0 | 105=>170 | 21=>21 | 5=>5 | 46=>125 | 119=>185 | 139=>188 | 138=>187 | 146=>189 | 51=>165 | n=>n,fun | 1=>1 | 3=>4 | 4=>5 | n=>n⟩
theorem Tryz.lays146:Go.Proofs.Lays.n146 Tryz.prog Tryz.lays146_ren := {
 mixed:=by kernel_rfl
 f138:=Tryz.func91.trans (congrArg some (by kernel_rfl))
 f143:=Tryz.func92.trans (congrArg some (by kernel_rfl))
 f146:=Tryz.func49.trans (congrArg some (by kernel_rfl))
 f195:=Tryz.func111.trans (congrArg some (by kernel_rfl))
 f197:=Tryz.func112.trans (congrArg some (by kernel_rfl))
 f217:=Tryz.func117.trans (congrArg some (by kernel_rfl))
 f218:=Tryz.func113.trans (congrArg some (by kernel_rfl))
 f219:=Tryz.func114.trans (congrArg some (by kernel_rfl))
 f221:=Tryz.func66.trans (congrArg some (by kernel_rfl))
 f224:=Tryz.func125.trans (congrArg some (by kernel_rfl))
 f225:=Tryz.func124.trans (congrArg some (by kernel_rfl))
 f260:=Tryz.func123.trans (congrArg some (by kernel_rfl))
 f266:=Tryz.func133.trans (congrArg some (by kernel_rfl))
 f267:=Tryz.func126.trans (congrArg some (by kernel_rfl))
 f268:=Tryz.func90.trans (congrArg some (by kernel_rfl))
 f314:=Tryz.func135.trans (congrArg some (by kernel_rfl))
 t0:=Tryz.underlying0
 a0:=Tryz.isAgg0
 z0:=Tryz.sizeOf0
 v0:=Tryz.zeroValue0
 t3:=Tryz.underlying3
 a3:=Tryz.isAgg3
 z3:=Tryz.sizeOf3
 v3:=Tryz.zeroValue3
 t4:=Tryz.underlying4
 a4:=Tryz.isAgg4
 z4:=Tryz.sizeOf4
 v4:=Tryz.zeroValue4
 t5:=Tryz.underlying5
 a5:=Tryz.isAgg5
 z5:=Tryz.sizeOf5
 v5:=Tryz.zeroValue5
 t9:=Tryz.underlying9
 a9:=Tryz.isAgg9
 z9:=Tryz.sizeOf9
 v9:=Tryz.zeroValue9
 t21:=Tryz.underlying21
 a21:=Tryz.isAgg21
 z21:=Tryz.sizeOf21
 v21:=Tryz.zeroValue21
 t31:=Tryz.underlying74
 a31:=Tryz.isAgg74
 z31:=Tryz.sizeOf74
 v31:=Tryz.zeroValue74
 t46:=Tryz.underlying125
 a46:=Tryz.isAgg125
 z46:=Tryz.sizeOf125
 v46:=Tryz.zeroValue125
 t51:=Tryz.underlying165
 a51:=Tryz.isAgg165
 z51:=Tryz.sizeOf165
 v51:=Tryz.zeroValue165
 t105:=Tryz.underlying170
 a105:=Tryz.isAgg170
 z105:=Tryz.sizeOf170
 v105:=Tryz.zeroValue170
 t119:=Tryz.underlying185
 a119:=Tryz.isAgg185
 z119:=Tryz.sizeOf185
 t138:=Tryz.underlying187
 a138:=Tryz.isAgg187
 z138:=Tryz.sizeOf187
 v138:=Tryz.zeroValue187
 t139:=Tryz.underlying188
 a139:=Tryz.isAgg188
 z139:=Tryz.sizeOf188
 v139:=Tryz.zeroValue188
 t146:=Tryz.underlying189
 a146:=Tryz.isAgg189
 z146:=Tryz.sizeOf189
 v146:=Tryz.zeroValue189
 g1:=by kernel_rfl
 g3:=by kernel_rfl
 g4:=by kernel_rfl }
open Go.RowKit Go.Lib in
theorem Tryz.strings_Split (s sep:ByteArray) (m:Int) (w:World) (hs:s.size<4294967281) (hm:w.cell? ⟨1,0,none⟩=some (.int .i64 m)) (h1:1≤sep.size) :
  Calls Tryz.prog 49 #[.string s,.string sep] w fun e w' =>
   e=.returned (.slice (some ⟨w.heap.size,0,none⟩) (Lib.countB s sep+1) (Lib.countB s sep+1))∧w'=w.alloc (.cells ((Lib.splitB sep 0 (Lib.countB s sep) s).map Value.string).toArray 9):=Any.strings_Split Tryz.lays146 (by kernel_rfl) s sep m w hs hm h1
end Go.Proofs
namespace Go.Proofs.YtpmhnpnmpjimnaaGreatDoor
open Go.Eng Go.Plain Go.RowKit
set_option maxHeartbeats 32000000
set_option maxRecDepth 20000
theorem px {w:World} (h:iP w):∃m,w.cell? ⟨1,0,none⟩=some (.int .i64 m):=by
 obtain⟨⟨m,t,fr,h1⟩,_⟩:=h _ (List.mem_cons_self ..)
 exact⟨m,by simp[World.cell?,h1]⟩
theorem gn {w:World} (h:iP w) (i:Nat) (hi:i=6∨i=7):∃ev,w.cell? ⟨i,0,none⟩=some ev∧(ev=.nilIface∨∃te pe,ev=.iface te pe):=by
 have hm:(i,km)∈ng:=by
  rcases hi with rfl | rfl
  ·exact .tail _ (.head _)
  ·exact .tail _ (.tail _ (.head _))
 obtain⟨⟨ev,t,fr,h1,h2⟩,_⟩:=h _ hm
 exact⟨ev,by simp only at h1; simp[World.cell?,h1],h2⟩
theorem uN : Tryz.prog.globalNamed "internal/strconv.uint64pow10" = some 0 := by kernel_rfl
theorem pw {w : World} (h : iP w) : Lib.TabIs Tryz.prog w "internal/strconv.uint64pow10" .u64 Lib.pow10Tab := by
 obtain⟨⟨t,fr,h1⟩,_⟩:=h _ (.tail _ (.tail _ (.tail _ (.head _))))
 simp only at h1
 unfold Lib.TabIs World.var?
 rw[uN]
 simp only[Option.bind_some,h1]
theorem hU (w:World) (e:TypeId) (t:ByteArray):Below w.heap.size w (Lib.bytesWorld w e t):=Go.Joins.below_bytesWorld _ _ _ _ (Nat.le_refl _)
theorem mx (w:World) (q:Nat) (os:Array Obj):Below w.heap.size w (Sort.grow (w.drewN q) os):=
 ⟨rfl,rfl,rfl,by simp[Sort.grow],fun i hi=>by
  show ((w.drewN q).heap++os)[i]?=_
  rw[Array.getElem?_append_left (by show i<w.heap.size; omega)]
  rfl⟩
theorem cu {n:Int} (h0 : -9223372036854775808≤n) (h1:n≤9223372036854775807):FnIs Tryz.prog 40 [.int .i64 n] [] (.d (strD (Lib.itoa n))) []:=
 .of_calls1 rfl ⟨_,Tryz.func40,by kernel_rfl,by kernel_rfl⟩ fun σ w X vs ha hg=>by
  rw[ha.one]
  refine (Tryz.strconv_Itoa n h0 h1 w (pw hg)).mono ?_
  rintro e w' ⟨rfl,k,os,rfl⟩
  exact⟨rfl,mx _ _ _⟩
def nG (l:List UInt8):Int:=match Lib.atoiAll l with
 | .ok v=>v
 | .range=>Lib.atoiSat l
 | _=>0
def okA {α:Type} (p:α→Bool) (x:α):AV:=bif p x then .d (.sc .nilIface) else .er
def hZ (l:List UInt8):Bool:=match Lib.atoiAll l with
 | .ok _=>true
 | _=>false
def puOk (l:List UInt8):Bool:=match Lib.parseUintB 8 l with
 | .ok _=>true
 | _=>false
def puV (l:List UInt8):Int:=match Lib.parseUintB 8 l with
 | .ok u=>u
 | .range=>255
 | _=>0
def erA (b:Bool):AV:=bif b then .d (.sc .nilIface) else .er
theorem xU {l:List UInt8} (hl:l.length≤281474976710656):FnIs Tryz.prog 118 [.d (strD l)] [] (.tup (.acons (.int .i64 (nG l)) (.acons (erA (hZ l)) .anil))) []:=by
 refine .of_calls (fun G=>⟨trivial,by unfold erA; cases hZ l <;> trivial,trivial⟩) ⟨_,Tryz.func118,by kernel_rfl,by kernel_rfl⟩ fun σ w X vs _ ha hg=>?_
 rw[ha.one]
 have hd:=c8 l
 have hsz:(mkS l).size≤281474976710656:=by rw[bY]; exact hl
 cases h:Lib.atoiAll l
 case ok v =>
  refine (Tryz.strconv_Atoi_ok (mkS l) (by omega) v (by rw[hd]; exact h) w).mono ?_
  rintro e w' ⟨rfl,hw⟩
  refine⟨_,rfl,?_,by simp only[nG,hZ,erA,h,cond_true]; exact lA rfl rfl⟩
  rcases hw with rfl | ⟨t,rfl⟩
  ·exact Below.refl _ _
  ·exact hU _ _ _
 case range =>
  obtain⟨ev,h1,h2⟩:=gn hg 7 (.inr rfl)
  refine (Tryz.strconv_Atoi_range (mkS l) hsz (by rw[hd]; exact h) ev w h1 h2).mono ?_
  rintro e w' ⟨N,rfl,_,_,hb⟩
  exact⟨_,rfl,hb,by simp only[nG,hZ,erA,h,cond_false]; rw[hd]; exact it rfl⟩
 next =>
  obtain⟨ev,h1,h2⟩:=gn hg 6 (.inl rfl)
  refine (Tryz.strconv_Atoi_syntax (mkS l) hsz (by rw[hd]; exact h) ev w h1 h2).mono ?_
  rintro e w' ⟨N,rfl,_,_,hb⟩
  exact⟨_,rfl,hb,by simp only[nG,hZ,erA,h,cond_false]; exact it rfl⟩
theorem Bm {l:List UInt8} (hl:l.length≤281474976710656):FnIs Tryz.prog 93 [.d (strD l),.int .i64 10,.int .i64 8] [] (.tup (.acons (.int .u64 (puV l)) (.acons (erA (puOk l)) .anil))) []:=by
 refine .of_calls (fun G=>⟨trivial,by unfold erA; cases puOk l <;> trivial,trivial⟩) ⟨_,Tryz.func93,by kernel_rfl,by kernel_rfl⟩ fun σ w X vs _ ha hg=>?_
 rw[ha.three]
 have hd:=c8 l
 have hsz:(mkS l).size≤281474976710656:=by rw[bY]; exact hl
 cases h:Lib.parseUintB 8 l
 case ok v =>
  refine (Tryz.strconv_ParseUint_10_at8_ok (mkS l) (by omega) v (by rw[hd]; exact h) w).mono ?_
  rintro e w' ⟨rfl,hw⟩
  refine⟨_,rfl,?_,by simp only[puV,puOk,erA,h,cond_true]; exact lA rfl rfl⟩
  rcases hw with rfl | rfl
  ·exact Below.refl _ _
  ·exact hU _ _ _
 case range =>
  obtain⟨ev,h1,h2⟩:=gn hg 7 (.inr rfl)
  refine (Tryz.strconv_ParseUint_10_at8_range (mkS l) hsz (by rw[hd]; exact h) ev w h1 h2).mono ?_
  rintro e w' ⟨N,rfl,_,_,hb⟩
  exact⟨_,rfl,hb,by simp only[puV,puOk,erA,h,cond_false]; exact it rfl⟩
 next =>
  obtain⟨ev,h1,h2⟩:=gn hg 6 (.inl rfl)
  refine (Tryz.strconv_ParseUint_10_at8_syntax (mkS l) hsz (by rw[hd]; exact h) ev w h1 h2).mono ?_
  rintro e w' ⟨N,rfl,_,_,hb⟩
  exact⟨_,rfl,hb,by simp only[puV,puOk,erA,h,cond_false]; exact it rfl⟩
def cutA (l:List UInt8) (c:UInt8):List UInt8×List UInt8×Bool:=match cutL l c with
 | none=>(l,[],false)
 | some (p,q)=>(p,q,true)
theorem wa {l:List UInt8} {c:UInt8} (hl:l.length<4294967281):FnIs Tryz.prog 74 [.d (strD l),.d (strD [c])] [] (.tup (.acons (.d (strD (cutA l c).1)) (.acons (.d (strD (cutA l c).2.1)) (.acons (.bool (cutA l c).2.2) .anil)))) []:=by
 refine .of_calls (fun G=>⟨trivial,trivial,trivial,trivial⟩) ⟨_,Tryz.func74,by kernel_rfl,by kernel_rfl⟩ fun σ w X vs _ ha hg=>?_
 rw[ha.two]
 obtain⟨m,hm⟩:=px hg
 refine (Tryz.strings_Cut (mkS l) (mkS [c]) m w (by rw[bY]; exact hl) hm).mono ?_
 rintro e w' ⟨rfl,k,rfl⟩
 refine⟨_,rfl,Go.Joins.below_draws _ _ _,?_⟩
 have e1:Lib.cut (mkS l).data.toList (mkS [c]).data.toList=cutA l c:=by
  rw[c8,c8,xz]
  rfl
 rw[e1]
 exact uG rfl rfl rfl
theorem pu {l:List UInt8} {c:Int}:FnIs Tryz.prog 94 [.d (strD l),.int .u8 c] [] (.int .i64 (Lib.indexByte l c.toNat.toUInt8)) []:=
 .of_calls1 rfl ⟨_,Tryz.func94,by kernel_rfl,by kernel_rfl⟩ fun σ w X vs ha hg=>by
  rw[ha.two]
  refine (Tryz.strings_IndexByte (mkS l) c w).mono ?_
  rintro e w' ⟨rfl,rfl⟩
  exact⟨by rw[c8],Below.refl _ _⟩
theorem cP {l:List UInt8} {c:UInt8} (hl:l.length<4294967281):FnIs Tryz.prog 49 [.d (strD l),.d (strD [c])] [] (.d (.arr 1 strD (aL l c))) []:=by
 refine .of_calls (fun G=>trivial) ⟨_,Tryz.func49,by kernel_rfl,by kernel_rfl⟩ fun σ w X vs hX ha hg=>?_
 rw[ha.two]
 obtain⟨m,hm⟩:=px hg
 refine (Tryz.strings_Split (mkS l) (mkS [c]) m w (by rw[bY]; exact hl) hm (by rw[bY]; exact Nat.le_refl 1)).mono ?_
 rintro e w' ⟨rfl,rfl⟩
 obtain⟨h1,h2⟩:=tq (c:=c) l.length l (Nat.le_refl _)
 rw[h1,h2]
 have hlen:(aL l c).length≤l.length+1:=gv l c
 refine⟨_,rfl,Go.Joins.below_alloc1 _ _,RelV.arr.2 (.inr ⟨_,_,rfl,Nat.le_refl _,by unfold maxLen; omega,fun i=>[.string (mkS ((aL l c).getD i []))],fun i hi=>⟨?_,rfl,fun j u hu=>?_⟩⟩)⟩
 ·show Enc _ _ _ [.string (mkS ((aL l c).getD i []))]
  rw[List.getD_eq_getElem?_getD,List.getElem?_eq_getElem hi]
  exact⟨rfl,rfl⟩
 ·match j,hu with
  | 0,hu =>
   simp only[List.getElem?_cons_zero,Option.some.injEq]at hu
   subst hu
   refine⟨?_,fun hx=>absurd (hX _ hx) (Nat.lt_irrefl _)⟩
   rw[db]
   simp only[Nat.mul_one,Nat.add_zero,Nat.zero_add]
   rw[World.cell?]
   simp only[heap_alloc_new]
   simp[List.getElem?_eq_getElem hi,List.getD_eq_getElem?_getD]
end Go.Proofs.YtpmhnpnmpjimnaaGreatDoor
namespace Go.Proofs.YtpmhnpnmpjimnaaGreatDoor
open Go.Eng
attribute [local irreducible] WC RegS RegD SeqQ BlkQ ScoQ RegK CutK Sat SatN FnIs LoopQ aq OpIs
def bAV (b:Bool) (r:Nat):AV:=match b with
 | true=>.d (.sc nilp)
 | false=>.ptr r []
abbrev cw (b:Bool) (r q n:Nat):Row :=.box 98 (.acons (bAV b r) (.acons (.own q 0 n 1 none) (.d .nil)))
abbrev rowT (l:List UInt8):Row :=.ds 5 1 false bp (byI l)
theorem ff (l:List UInt8) (n:Nat):FnIs Tryz.prog 62 [.ptr 0 []] [(0,.box 98 (.acons (.d (.sc nilp)) (.acons (.own 1 0 n 1 none) (.d .nil)))),(1,rowT l)] (.tup .anil) [(0,.box 98 (.acons (.ptr 0 []) (.acons (.own 1 0 n 1 none) (.d .nil)))),(1,rowT l)]:=by
 refine aw aa Tryz.func62 rfl rfl rfl ?_;refine sR<|zU ?_;refine rQ iM ?_;refine rQ (yO rfl rfl rfl) ?_;refine zO<|ao ?_;refine zD ?_;refine rQ (pJ aa rfl rfl rfl rfl rfl rfl rfl rfl) ?_;refine rQ (pf rfl rfl rfl rfl rfl rfl) ?_;refine rQ (mP aa rfl rfl rfl rfl rfl rfl (by kernel_rfl)) ?_;refine zD ?_;refine aW (aF aa rfl rfl rfl ⟨_,⟨_,⟨rfl,rfl,rfl⟩,rfl⟩,rfl⟩ rfl)<|aB ?_
 exact⟨trivial,[],lg zV ⟨zR,zR,trivial⟩⟩
theorem fA (l:List UInt8) (n:Nat):FnIs Tryz.prog 62 [.ptr 0 []] [(0,.box 98 (.acons (.ptr 0 []) (.acons (.own 1 0 n 1 none) (.d .nil)))),(1,rowT l)] (.tup .anil) [(0,.box 98 (.acons (.ptr 0 []) (.acons (.own 1 0 n 1 none) (.d .nil)))),(1,rowT l)]:=by
 refine aw aa Tryz.func62 rfl rfl rfl ?_;refine sR<|zU ?_;refine rQ iM ?_;refine rQ (xJ rfl rfl rfl) ?_;refine zJ<|sR ?_;refine zU ?_;refine rQ iM ?_;refine rC ?_;refine rQ (vp aa rfl rfl rfl rfl) ?_;refine zJ<|bG ?_
 exact⟨trivial,[],lg zV ⟨zR,zR,trivial⟩⟩
theorem kL (l:List UInt8) (c:UInt8) (n:Nat) (hn:l.length=n) (hlen:n+1≤1048576):FnIs Tryz.prog 89 [.ptr 0 [],.int .u8 c.toNat] [(0,cw true 0 1 n),(1,rowT l)] (.d (.sc .nilIface)) [(0,cw false 0 64 (n+1)),(64,rowT (l++[c]))]:=by
 obtain rfl:(byI l).length=n:=by rw[ch]; exact hn
 have hcc:=ff l (byI l).length
 have hlen2:(byI l).length+1≤1048576:=hlen
 refine aw aa Tryz.func89 rfl rfl rfl ?_;refine sR<|rC<|nR ?_;refine rC ?_;refine bz rfl (aO [(0,some 0),(1,some 1)] hcc rfl rfl rfl (aK rfl rfl ae) ⟨zH,zH,trivial⟩ rfl rfl (.inl rfl) rfl rfl) rfl rfl<|nR ?_;iterate 4 refine rC ?_
 refine rQ iM ?_;refine rC ?_;refine aN (aV aa rfl rfl rfl rfl rfl rfl rfl rfl) rfl ?_;refine aJ (bR (s:=1) (enc:=bp) aa (c.toNat:Int) rfl rfl rfl rfl rfl rfl rfl rfl rfl hlen2 rfl) rfl ?_;refine zD ?_;refine aW (aF aa rfl rfl rfl ⟨_,⟨_,⟨rfl,rfl,rfl⟩,rfl⟩,rfl⟩ rfl)<|nR ?_;refine rC<|zT ?_
 rw[show byI l++[(c.toNat:Int)]=byI (l++[c]) from iK l [c]]
 exact⟨trivial,[(64,some 144)],lg zV ⟨zR,zR,trivial⟩⟩
theorem li (l:List UInt8) (c:UInt8) (n:Nat) (hn:l.length=n) (hlen:n+1≤1048576):FnIs Tryz.prog 89 [.ptr 0 [],.int .u8 c.toNat] [(0,cw false 0 1 n),(1,rowT l)] (.d (.sc .nilIface)) [(0,cw false 0 64 (n+1)),(64,rowT (l++[c]))]:=by
 obtain rfl:(byI l).length=n:=by rw[ch]; exact hn
 have hcc:=fA l (byI l).length
 have hlen2:(byI l).length+1≤1048576:=hlen
 refine aw aa Tryz.func89 rfl rfl rfl ?_;refine sR<|rC<|nR ?_;refine rC ?_;refine bz rfl (aO [(0,some 0),(1,some 1)] hcc rfl rfl rfl (aK rfl rfl ae) ⟨zH,zH,trivial⟩ rfl rfl (.inl rfl) rfl rfl) rfl rfl<|nR ?_;iterate 4 refine rC ?_
 refine rQ iM ?_;refine rC ?_;refine aN (aV aa rfl rfl rfl rfl rfl rfl rfl rfl) rfl ?_;refine aJ (bR (s:=1) (enc:=bp) aa (c.toNat:Int) rfl rfl rfl rfl rfl rfl rfl rfl rfl hlen2 rfl) rfl ?_;refine zD ?_;refine aW (aF aa rfl rfl rfl ⟨_,⟨_,⟨rfl,rfl,rfl⟩,rfl⟩,rfl⟩ rfl)<|nR ?_;refine rC<|zT ?_
 rw[show byI l++[(c.toNat:Int)]=byI (l++[c]) from iK l [c]]
 exact⟨trivial,[(64,some 144)],lg zV ⟨zR,zR,trivial⟩⟩
theorem jr (b:Bool) (l:List UInt8) (c:UInt8) (n:Nat) (hn:l.length=n) (hlen:n+1≤1048576):FnIs Tryz.prog 89 [.ptr 0 [],.int .u8 c.toNat] [(0,cw b 0 1 n),(1,rowT l)] (.d (.sc .nilIface)) [(0,cw false 0 64 (n+1)),(64,rowT (l++[c]))]:=by
 cases b with
 | true=>exact kL l c n hn hlen
 | false=>exact li l c n hn hlen
theorem jo (l:List UInt8) (n:Nat) (hn:l.length=n) (hne:l≠[]) (hlen:n≤1048576):FnIs Tryz.prog 46 [.ptr 0 []] [(0,cw false 0 1 n),(1,rowT l)] (.d (strD l)) []:=by
 have h0:0<n:=by rw[←hn]; exact List.length_pos_iff.2 hne
 have h63:l.length≤9223372036854775807:=by omega
 refine aw aa Tryz.func46 rfl rfl rfl ?_;refine sR<|rC<|nQ ?_;refine aH (by kernel_rfl) ?_;refine dC [0] [] ?_;refine dC [3] [] ?_;refine dC [4] [] ?_;refine dQ [5] [0] iM ?_;refine dQ [6] [1] (qh rfl h0) ?_;refine dC [0] [] ?_;refine dC [8] [] ?_;refine dC [9] [] ?_;refine dQ [10] [0] iM ?_;refine dQ [11] [1] (bq aa rfl rfl) ?_;refine eL [7,12] [1] rfl (qd (l:=l) rfl rfl rfl rfl rfl hn hne h63) ?_;refine dC [13] [] ?_;refine aC (by kernel_rfl)<|aU<|cg ?_
 exact⟨trivial,[],lf⟩
theorem ov:FnIs Tryz.prog 46 [.ptr 0 []] [(0,.box 98 (.d (.cons (.sc nilp) (.cons (.sc nil_) .nil))))] (.d (strD [])) []:=by
 refine aw aa Tryz.func46 rfl rfl rfl ?_;refine sR<|rC<|nQ ?_;refine aH (by kernel_rfl) ?_;refine dC [0] [] ?_;refine dC [3] [] ?_;refine dC [4] [] ?_;refine dQ [5] [0] iB ?_;refine dQ [6] [] (lv rfl) ?_;refine dC [0] [] ?_;refine dC [8] [] ?_;refine dC [9] [] ?_;refine dQ [10] [0] iB ?_;refine dQ [11] [] (oc aa rfl rfl) ?_;refine dQ [7,12] [] (oG rfl rfl) ?_;refine dC [13] [] ?_;refine aC (by kernel_rfl)<|aU<|cg ?_
 exact⟨trivial,[],lf⟩
theorem ld (l s:List UInt8) (n:Nat) (hn:l.length=n) (hs0:0<s.length) (hlen:n+s.length≤1048576):FnIs Tryz.prog 41 [.ptr 0 [],.d (strD s)] [(0,cw true 0 1 n),(1,rowT l)] (.tup (.acons (.int .i64 s.length) (.acons (.d (.sc .nilIface)) .anil))) [(0,cw false 0 64 (n+s.length)),(64,rowT (l++s))]:=by
 have hbl:n=(byI l).length:=by rw[ch]; exact hn.symm
 have hcc:=ff l n
 have hlen2:(byI l).length+s.length≤1048576:=by rw[←hbl]; exact hlen
 refine aw aa Tryz.func41 rfl rfl rfl ?_;refine sR<|zD<|nR ?_;refine rC ?_;refine bz rfl (aO [(0,some 0),(1,some 1)] hcc rfl rfl rfl (aK rfl rfl ae) ⟨zH,zH,trivial⟩ rfl rfl (.inl rfl) rfl rfl) rfl rfl<|nR ?_;iterate 4 refine rC ?_
 refine rQ iM ?_;refine rC ?_;refine aJ (mz (l:=s) aa rfl Tryz.underlying9 rfl rfl rfl hbl rfl rfl hs0 hlen2 rfl) rfl ?_;refine zD ?_;refine aW (aF aa rfl rfl rfl ⟨_,⟨_,⟨rfl,rfl,rfl⟩,rfl⟩,rfl⟩ rfl)<|nR ?_;refine rC ?_;refine rQ (dB aa rfl rfl) ?_;refine zD<|zT ?_
 rw[iK l s]
 exact⟨trivial,[(64,some 144)],lg zV ⟨⟨rfl,rfl,_,rfl,aE.of_eq (by rw[hbl]; rfl)⟩,zR,trivial⟩⟩
theorem mG (l s:List UInt8) (n:Nat) (hn:l.length=n) (hs0:0<s.length) (hlen:n+s.length≤1048576):FnIs Tryz.prog 41 [.ptr 0 [],.d (strD s)] [(0,cw false 0 1 n),(1,rowT l)] (.tup (.acons (.int .i64 s.length) (.acons (.d (.sc .nilIface)) .anil))) [(0,cw false 0 64 (n+s.length)),(64,rowT (l++s))]:=by
 have hbl:n=(byI l).length:=by rw[ch]; exact hn.symm
 have hcc:=fA l n
 have hlen2:(byI l).length+s.length≤1048576:=by rw[←hbl]; exact hlen
 refine aw aa Tryz.func41 rfl rfl rfl ?_;refine sR<|zD<|nR ?_;refine rC ?_;refine bz rfl (aO [(0,some 0),(1,some 1)] hcc rfl rfl rfl (aK rfl rfl ae) ⟨zH,zH,trivial⟩ rfl rfl (.inl rfl) rfl rfl) rfl rfl<|nR ?_;iterate 4 refine rC ?_
 refine rQ iM ?_;refine rC ?_;refine aJ (mz (l:=s) aa rfl Tryz.underlying9 rfl rfl rfl hbl rfl rfl hs0 hlen2 rfl) rfl ?_;refine zD ?_;refine aW (aF aa rfl rfl rfl ⟨_,⟨_,⟨rfl,rfl,rfl⟩,rfl⟩,rfl⟩ rfl)<|nR ?_;refine rC ?_;refine rQ (dB aa rfl rfl) ?_;refine zD<|zT ?_
 rw[iK l s]
 exact⟨trivial,[(64,some 144)],lg zV ⟨⟨rfl,rfl,_,rfl,aE.of_eq (by rw[hbl]; rfl)⟩,zR,trivial⟩⟩
theorem ko (b:Bool) (l s:List UInt8) (n:Nat) (hn:l.length=n) (hs0:0<s.length) (hlen:n+s.length≤1048576):FnIs Tryz.prog 41 [.ptr 0 [],.d (strD s)] [(0,cw b 0 1 n),(1,rowT l)] (.tup (.acons (.int .i64 s.length) (.acons (.d (.sc .nilIface)) .anil))) [(0,cw false 0 64 (n+s.length)),(64,rowT (l++s))]:=by
 cases b with
 | true=>exact ld l s n hn hs0 hlen
 | false=>exact mG l s n hn hs0 hlen
end Go.Proofs.YtpmhnpnmpjimnaaGreatDoor
namespace Go.Eng
open Go.RowKit
section
variable {P : Program} {T : Tab} {env : Env} {h : Upds} {n : Nat}
theorem bn (hT:an P T) {x y:Operand} {t t':TypeId} {k:IntKind} {a b:Nat} {c:Int} (hx:au env x=some (.int k a)) (hy:au env y=some (.int k c)) (hc:c=(b:Int)) (hb:b≠0):aq P (.binOp .rem t x y t') env h n (some (.int k ((a % b:Nat):Int))) []:=by
 subst hc
 have:=wY (P:=P) (h:=h) (n:=n) (t:=t) (t':=t') hT hx hy (by omega:(b:Int)≠0)
 rwa [show ((a:Int).tmod b)=((a % b:Nat):Int) from rfl]at this
theorem ct (hT:an P T) {x y:Operand} {t t':TypeId} {k:IntKind} {a b:Nat} {c:Int} (hx:au env x=some (.int k a)) (hy:au env y=some (.int k c)) (hc:c=(b:Int)) (hb:b≠0) (hw:k.wrap ((a/b:Nat):Int)=((a/b:Nat):Int)):aq P (.binOp .quo t x y t') env h n (some (.int k ((a/b:Nat):Int))) []:=by
 subst hc
 exact rJ hT hx hy (by omega:(b:Int)≠0) (by rw[show ((a:Int).tdiv b)=((a/b:Nat):Int) from rfl]; exact hw)
theorem cG {a:Nat} (h:a<256):IntKind.u8.wrap (a:Int)=(a:Int):=by
 simp[IntKind.wrap,IntKind.signed,IntKind.bits]
 omega
end
end Go.Eng
namespace Go.Proofs.YtpmhnpnmpjimnaaGreatDoor
open Go.Eng Go.Plain
set_option maxHeartbeats 32000000
set_option maxRecDepth 20000
attribute [local irreducible] WC RegS RegD SeqQ BlkQ ScoQ RegK CutK Sat SatN FnIs LoopQ aq OpIs
theorem l6 {l:List UInt8} {i:Nat} {b:UInt8} (hb:l[i]?=some b):(l.take i).flatMap hexB++[hexC (b.toNat/16)]++[hexC (b.toNat % 16)]=(l.take (i+1)).flatMap hexB:=by
 rw[List.take_add_one,hb]
 simp[hexB]
theorem xD:FnIs Tryz.prog 64 [.d (encB [])] [] (.d (strD (hexP []))) []:=by
 refine aw aa Tryz.func64 rfl rfl rfl ?_;refine sR<|rC<|zW ?_;refine rC ?_;refine rQ iE ?_;refine rC ?_;refine zO<|sR ?_;refine rC<|zT<|ba ?_
 exact⟨trivial,[],lf⟩
theorem vP (l:List UInt8) (hne:l≠[]) (hL:l.length≤524288):FnIs Tryz.prog 64 [.d (encB l)] [] (.d (strD (hexP l))) []:=by
 have hpos:0<l.length:=List.length_pos_iff.2 hne
 have hbl:(byI l).length=l.length:=ch l
 have hz:decide (((byI l).length:Int)=0)=false:=dF (by omega)
 refine aw aa Tryz.func64 rfl rfl rfl ?_;refine sR<|rC<|zW ?_;refine rC ?_;refine rQ iE ?_;refine rC ?_;refine zG<|kS<|sR ?_;refine rN<|zW ?_;refine rC ?_;refine rQ iE ?_;refine rC<|zP ?_
 refine wc_inv (fun i:Nat=>⟨[(11,.int .i64 i),(10,.int .i64 (byI l).length),(9,.d (encB l)),(3,.ptr 65 [])],[(65,some (cw (Nat.beq i 0) 65 66 (2*i))),(66,some (rowT ((l.take i).flatMap hexB)))],72,Tryz.f64.ntmps,64⟩) (fun i=>i≤l.length) (fun i=>l.length-i) 0 [(65,some 96),(66,none)] (Nat.zero_le _)
  (lg zi ⟨⟨rfl,rfl,_,rfl,aE.split2⟩,⟨rfl,rfl,rfl⟩,trivial⟩) ?_
 intro i hi
 refine bv<|sR ?_;refine rC<|nQ ?_
 refine eR rfl (fun h3=>?_) (fun h3=>?_)
 ·have hlt:i<l.length:=by have:=of_decide_eq_true h3; omega
  obtain⟨b,hb⟩:∃b,l[i]?=some b:=⟨_,List.getElem?_eq_getElem hlt⟩
  have hb':(byI l)[((i:Int)).toNat]?=some (b.toNat:Int):=by rw[Int.toNat_natCast]; exact jQ hb
  have hb8:b.toNat<256:=b.toNat_lt
  have hw16:IntKind.u8.wrap ((b.toNat/16:Nat):Int)=((b.toNat/16:Nat):Int):=cG (by omega)
  have hd1:=jG (n:=b.toNat/16) (by omega)
  have hd2:=jG (n:=b.toNat % 16) (by omega)
  have hpl:((l.take i).flatMap hexB).length=2*i:=by rw[fy,List.length_take,Nat.min_eq_left hi]
  have hp1:2*i+1≤1048576:=by omega
  have hpl2:((l.take i).flatMap hexB++[hexC (b.toNat/16)]).length=2*i+1:=by rw[List.length_append,hpl]; rfl
  have hp2:2*i+1+1≤1048576:=by omega
  have hgo:=l6 hb
  refine zQ<|zS<|rQ iA ?_;refine rQ iL ?_;refine rC<|nR ?_;refine rC ?_;refine rQ (ct (a:=b.toNat) (b:=16) aa rfl rfl rfl (by decide) hw16) ?_;refine rQ (ea (l:=hexD) (m:=b.toNat/16) aa rfl rfl rfl hd1) ?_;refine bz rfl (aO [(0,some 65),(1,some 66)] (jr (Nat.beq i 0) ((l.take i).flatMap hexB) (hexC (b.toNat/16)) (2*i) hpl hp1) rfl rfl rfl (aK rfl rfl (aj ae)) ⟨⟨rfl,(by cases Nat.beq i 0 <;> rfl),_,_,rfl,rfl,(by cases Nat.beq i 0 <;> exact .refl _)⟩,zH,trivial⟩ rfl rfl (.inl rfl) rfl rfl) rfl rfl<|nS<|ao ?_;refine rC ?_;refine rQ (bn (a:=b.toNat) (b:=16) aa rfl rfl rfl (by decide)) ?_;refine rQ (ea (l:=hexD) (m:=b.toNat % 16) aa rfl rfl rfl hd2) ?_;refine bz rfl (aO [(0,some 65),(1,some 128)] (jr false ((l.take i).flatMap hexB++[hexC (b.toNat/16)]) (hexC (b.toNat % 16)) (2*i+1) hpl2 hp2) rfl rfl rfl (aK rfl rfl (aj ae)) ⟨zH,zH,trivial⟩ rfl rfl (.inl rfl) rfl rfl) rfl rfl<|aB<|zC<|ao ?_;refine rQ iD ?_;refine rC<|aB ?_
  exact aY (i+1) [(66,some 160)] hlt (by omega) (lg zi ⟨zR,⟨rfl,rfl,_,rfl,aE.of_eq (congrArg rowT hgo)⟩,trivial⟩)
 ·have he:i=l.length:=by have:=of_decide_eq_false h3; omega
  subst he
  have hnn:l.flatMap hexB≠[]:=fun e=>by have:=fy l; rw[e]at this; simp at this; omega
  have hp4:2*l.length≤1048576:=by omega
  have hbz:Nat.beq l.length 0=false:=by
   cases hz:Nat.beq l.length 0 with
   | false=>rfl
   | true=>have:=Nat.eq_of_beq_eq_true hz; omega
  rw[hbz,List.take_length]
  refine zX<|sR<|aJ (aO [(0,some 65),(1,some 66)] (jo (l.flatMap hexB) (2*l.length) (fy l) hnn hp4) rfl rfl rfl (aK rfl rfl ae) ⟨zH,zH,trivial⟩ rfl rfl (.inl rfl) rfl rfl) rfl ?_;refine rC<|zT ?_
  rw[show hexP l=l.flatMap hexB from if_neg hne]
  exact⟨trivial,[],lf⟩
theorem l7 (l:List UInt8) (hL:l.length≤524288):FnIs Tryz.prog 64 [.d (encB l)] [] (.d (strD (hexP l))) []:=by
 by_cases h:l=[]
 ·subst h; exact xD
 ·exact vP l h hL
end Go.Proofs.YtpmhnpnmpjimnaaGreatDoor
namespace Go.Plain
open Go.Eng Go.Lib
def nibV (c:UInt8):Nat:=(indexByte hexD c).toNat
def dw:List UInt8→List Int
 | []=>[]
 | [a]=>[(nibV a:Int)]
 | a::b::l=>((nibV a*16+nibV b:Nat):Int)::dw l
theorem qQ {c:UInt8} (h:0≤indexByte hexD c):hexD[(indexByte hexD c).toNat]?=some c:=(indexByte_some (show indexByte hexD c=((indexByte hexD c).toNat:Nat) by omega)).1
theorem gz (c:UInt8):nibV c<16:=by
 by_cases h:0≤indexByte hexD c
 ·have:=(List.getElem?_eq_some_iff.1 (qQ h)).1
  exact this
 ·unfold nibV; omega
theorem jF {c:UInt8} (h:0≤indexByte hexD c):c.toNat<128:=by
 have hm:c∈hexD:=List.mem_of_getElem? (qQ h)
 have:∀c∈hexD,c.toNat<128:=by decide
 exact this c hm
theorem nZ:∀l,(dw l).length=(l.length+1)/2
 | []=>rfl
 | [_]=>by simp[dw]
 | _::_::l=>by simp only[dw,List.length_cons,nZ l]; omega
theorem rK:∀(l:List UInt8) (c:UInt8),l.length % 2=0→dw (l++[c])=dw l++[(nibV c:Int)]
 | [],_,_=>rfl
 | [_],_,h=>by simp at h
 | a::b::l,c,h=>by
  have:=rK l c (by simp only[List.length_cons]at h; omega)
  simp only[List.cons_append,dw,this]
theorem uK:∀(l:List UInt8) (c:UInt8),l.length % 2=1→∃(r:List Int) (x:Nat),x<16∧dw l=r++[(x:Int)]∧dw (l++[c])=r++[((x*16+nibV c:Nat):Int)]
 | [],_,h=>by simp at h
 | [a],c,_=>⟨[],nibV a,gz a,rfl,rfl⟩
 | a::b::l,c,h=>by
  obtain⟨r,x,h1,h2,h3⟩:=uK l c (by simp only[List.length_cons]at h; omega)
  exact⟨((nibV a*16+nibV b:Nat):Int)::r,x,h1,by simp only[dw,h2,List.cons_append],by simp only[List.cons_append,dw,h3]⟩
def uX (m:Nat) (s:List UInt8) (i:Nat):List Int:=dw (s.take i)++List.replicate (m-(i+1)/2) 0
theorem kQ (m:Nat) (s:List UInt8):uX m s 0=List.replicate m 0:=by simp[uX,dw]
theorem kR {m i:Nat} {s:List UInt8} {c:UInt8} (hc:s[i]?=some c) (hm:s.length=2*m):∃x:Nat,x<16∧(uX m s i)[i/2]?=some (x:Int)∧(uX m s i).set (i/2) ((x*16+nibV c:Nat):Int)=uX m s (i+1):=by
 have hi:i<s.length:=(List.getElem?_eq_some_iff.1 hc).1
 have hl:(s.take i).length=i:=by rw[List.length_take,Nat.min_eq_left (by omega)]
 have ht:s.take (i+1)=s.take i++[c]:=by rw[List.take_add_one,hc]; rfl
 have hpl:(dw (s.take i)).length=(i+1)/2:=by rw[nZ,hl]
 by_cases he:i % 2=0
 ·have e1:(i+1)/2=i/2:=by omega
  have e2:(i+1+1)/2=i/2+1:=by omega
  have e3:m-i/2=(m-(i/2+1))+1:=by omega
  refine⟨0,by decide,?_,?_⟩
  ·simp only[uX]
   rw[List.getElem?_append_right (by omega),hpl,e1,Nat.sub_self,e3,List.replicate_succ]
   rfl
  ·simp only[uX]
   rw[List.set_append_right _ _ (by omega),hpl,e1,Nat.sub_self,e3,List.replicate_succ,List.set_cons_zero,ht,rK _ _ (by rw[hl]; exact he),e2]
   simp
 ·obtain⟨r,x,h1,h2,h3⟩:=uK (s.take i) c (by rw[hl]; omega)
  have hr:r.length=i/2:=by
   have:=congrArg List.length h2
   rw[hpl]at this
   simp at this
   omega
  have e2:(i+1+1)/2=(i+1)/2:=by omega
  refine⟨x,h1,?_,?_⟩
  ·simp only[uX,h2]
   rw[List.append_assoc,List.getElem?_append_right (by omega),hr,Nat.sub_self]
   rfl
  ·simp only[uX,h2]
   rw[List.append_assoc,List.set_append_right _ _ (by omega),hr,Nat.sub_self,ht,h3,e2]
   simp
theorem gx:∀(s:List UInt8),s.length % 2=0→(∀c∈s,0≤indexByte hexD c)→∃t,eG s=some t∧byI t=dw s
 | [],_,_=>⟨[],rfl,rfl⟩
 | [_],h,_=>by simp at h
 | a::b::l,h,hd=>by
  obtain⟨t,h1,h2⟩:=gx l (by simp only[List.length_cons]at h; omega) fun c hc=>hd c (by simp[hc])
  have ha:=hd a (by simp)
  have hb:=hd b (by simp)
  have na:=gz a
  have nb:=gz b
  refine⟨(nibV a*16+nibV b).toUInt8::t,?_,?_⟩
  ·simp only[eG,nibO,if_pos ha,if_pos hb,h1,nibV]
  ·simp only[byI,List.map_cons,dw]
   rw[show (t.map fun b=>(b.toNat:Int))=byI t from rfl,h2]
   congr 1
   have:(nibV a*16+nibV b).toUInt8.toNat=nibV a*16+nibV b:=by simp; omega
   rw[this]
theorem j3:∀(s:List UInt8) (c:UInt8),c∈s→indexByte hexD c<0→eG s=none
 | [],_,h,_=>by simp at h
 | [_],_,_,_=>rfl
 | a::b::l,c,h,hc=>by
  have hn:nibO c=none:=by unfold nibO; rw[if_neg (by omega)]
  simp only[List.mem_cons]at h
  simp only[eG]
  rcases h with rfl | rfl | h
  ·rw[hn]
  ·rw[hn]
   cases nibO a <;> rfl
  ·rw[j3 l c h hc]
   cases nibO a <;> cases nibO b <;> rfl
theorem m5:∀(s:List UInt8),s.length % 2=1→eG s=none
 | [],h=>by simp at h
 | [_],_=>rfl
 | a::b::l,h=>by
  simp only[eG]
  rw[m5 l (by simp only[List.length_cons]at h; omega)]
  cases nibO a <;> cases nibO b <;> rfl
end Go.Plain
namespace Go.Proofs.YtpmhnpnmpjimnaaGreatDoor
open Go.Eng Go.Plain
set_option maxHeartbeats 32000000
set_option maxRecDepth 20000
attribute [local irreducible] WC RegS RegD SeqQ BlkQ ScoQ RegK CutK Sat SatN FnIs LoopQ aq OpIs
abbrev unR (o:Option (List UInt8)):AV :=.tup (.acons (.d (encB (o.getD []))) (.acons (.bool o.isSome) .anil))
theorem nil_arr {α:Type} (s:Nat) (enc:α→D):AVLe (.d (.sc nil_)) (.d (.arr s enc [])):=fun σ w X v h=>AVLe.empty_arr s enc σ w X v (AVLe.nil_empty σ w X v h)
theorem oH:FnIs Tryz.prog 119 [.d (strD [45])] [] (unR (bQ [45])) []:=by
 refine aw aa Tryz.func119 rfl rfl rfl ?_;refine sR<|zD<|zW ?_;refine rC ?_;refine rQ (dS aa rfl rfl rfl) ?_;refine zO<|sR ?_;refine zD<|zT<|ba ?_
 exact⟨trivial,[],lg ⟨⟨_,rfl,AVLe.tup1 (nil_arr _ _) rfl⟩,rfl,trivial⟩ trivial⟩
theorem oI (s:List UInt8) (hs:s=[]):FnIs Tryz.prog 119 [.d (strD s)] [] (unR (bQ s)) []:=by
 have h0:decide (s=[45])=false:=by rw[hs]; rfl
 have h1:decide ((s.length:Int)=0)=true:=by rw[hs]; rfl
 rw[show bQ s=none by rw[hs]; rfl]
 refine aw aa Tryz.func119 rfl rfl rfl ?_;refine sR<|zD<|zW ?_;refine rC ?_;refine rQ (dS (a:=s) (b:=[45]) aa rfl rfl rfl) ?_;refine zG<|kS<|qR ?_;refine rC ?_;refine rQ (dB aa rfl rfl) ?_;refine zD ?_
 iterate 4 refine rS ?_
 refine rQ iT ?_;refine zO<|sR ?_;refine zD<|zT<|ba ?_
 exact⟨trivial,[],lg ⟨⟨_,rfl,AVLe.tup1 (nil_arr _ _) rfl⟩,rfl,trivial⟩ trivial⟩
theorem sL (s:List UInt8) (hs:s.length % 2=1):FnIs Tryz.prog 119 [.d (strD s)] [] (unR (if s=[45] then some [] else none)) []:=by
 by_cases h45:s=[45]
 ·rw[if_pos h45,h45]; exact oH
 have h0:decide (s=[45])=false:=dF h45
 have h1:decide ((s.length:Int)=0)=false:=dF (by omega)
 have h2:(!decide (((s.length % 2:Nat):Int)=0))=true:=by rw[hs]; rfl
 rw[if_neg h45]
 refine aw aa Tryz.func119 rfl rfl rfl ?_;refine sR<|zD<|zW ?_;refine rC ?_;refine rQ (dS (a:=s) (b:=[45]) aa rfl rfl rfl) ?_;refine zG<|kS<|qR ?_;refine rC ?_;refine rQ (dB aa rfl rfl) ?_;refine zD ?_;refine rO ?_;refine rC ?_;refine rO ?_;refine rQ (dB aa rfl rfl) ?_;refine rO ?_;refine rQ (bn (a:=s.length) (b:=2) aa rfl rfl rfl (by decide)) ?_;refine rO ?_;refine rC ?_;refine rQ iF ?_;refine zI<|sR ?_;refine zD<|zT<|ba ?_
 exact⟨trivial,[],lg ⟨⟨_,rfl,AVLe.tup1 (nil_arr _ _) rfl⟩,rfl,trivial⟩ trivial⟩
theorem sO (s:List UInt8) (m:Nat) (hm:s.length=2*m) (hpos:s≠[]) (hL:s.length≤1048576) (hbad:∃c∈s,Lib.indexByte hexD c<0):FnIs Tryz.prog 119 [.d (strD s)] [] (unR (bQ s)) []:=by
 have h45:s≠[45]:=fun e=>by rw[e]at hm; simp at hm; omega
 have hlen:0<s.length:=List.length_pos_iff.2 hpos
 have h0:decide (s=[45])=false:=dF h45
 have h1:decide ((s.length:Int)=0)=false:=dF (by omega)
 have h2:(!decide (((s.length % 2:Nat):Int)=0))=false:=by rw[show s.length % 2=0 by omega]; rfl
 have hm2:m=s.length/2:=by omega
 have hwl:IntKind.i64.wrap ((s.length/2:Nat):Int)=((s.length/2:Nat):Int):=aI (by omega) (by omega)
 refine aw aa Tryz.func119 rfl rfl rfl ?_;refine sR<|zD<|zW ?_;refine rC ?_;refine rQ (dS (a:=s) (b:=[45]) aa rfl rfl rfl) ?_;refine zG<|kS<|qR ?_;refine rC ?_;refine rQ (dB aa rfl rfl) ?_;refine zD ?_;refine rO ?_;refine rC ?_;refine rO ?_;refine rQ (dB aa rfl rfl) ?_;refine rO ?_;refine rQ (bn (a:=s.length) (b:=2) aa rfl rfl rfl (by decide)) ?_;refine rO ?_;refine rC ?_;refine rQ iF ?_;refine zG<|kS<|sR ?_;refine rC ?_;refine rQ (dB aa rfl rfl) ?_;refine rQ (ct (a:=s.length) (b:=2) aa rfl rfl rfl (by decide) hwl) ?_;refine aN (da (enc:=bp) (s:=1) (N:=s.length/2) aa 0 rfl rfl rfl rfl rfl rfl rfl (by omega) rfl) rfl ?_;refine rC<|zW ?_;refine rC ?_;refine aN (gj aa rfl rfl) rfl<|zP ?_
 refine wc_inv (fun i:Nat=>⟨[(23,.ptr 66 []),(4,.own 65 0 (s.length/2) 1 none),(0,.d (strD s))],[(65,some (.ds 5 1 true bp (uX m s i))),(66,some (.si (mkS s) i))],72,Tryz.f119.ntmps,64⟩) (fun i=>i≤s.length∧∀c∈s.take i,0≤Lib.indexByte hexD c) (fun i=>s.length-i) 0 [(65,some 192),(66,some 216)] ⟨Nat.zero_le _,by simp⟩
  (lg zj ⟨⟨rfl,rfl,_,rfl,aE.of_eq (by rw[kQ,hm2]; rfl)⟩,zR,trivial⟩) ?_
 intro i hi
 refine bv ?_
 obtain⟨hi,hdig⟩:=hi
 by_cases hlt:i<s.length
 ·obtain⟨c,hc⟩:∃c,s[i]?=some c:=⟨_,List.getElem?_eq_getElem hlt⟩
  have hib:FnIs Tryz.prog 94 [.d (strD hexD),.int .u8 c.toNat] [] (.int .i64 (Lib.indexByte hexD c)) []:=by
   have:=pu (l:=hexD) (c:=(c.toNat:Int))
   rwa [show ((c.toNat:Int)).toNat.toUInt8=c by simp]at this
  by_cases hneg:Lib.indexByte hexD c<0
  ·have hd:=dT hneg
   have hnone:bQ s=none:=by rw[bQ,if_neg h45,if_neg hpos,j3 s c (List.mem_of_getElem? hc) hneg]
   rw[hnone]
   refine sR<|aN (eW rfl rfl (by omega)) rfl ?_;refine rC<|nQ ?_;refine wV<|kS<|zS ?_;refine zD<|nR ?_;refine zD ?_;refine rQ (ea (l:=s) (m:=i) aa rfl rfl rfl hc) ?_;refine rQ (ak hib rfl rfl (aj (aj ae)) (.inl rfl) (fun _=>rfl)) ?_;refine rC<|nQ<|sR ?_;refine zD ?_;refine zI<|sR ?_;refine zD<|zT<|ba<|fD<|bT<|zB ?_
   exact⟨trivial,[],lg ⟨⟨_,rfl,AVLe.tup1 (nil_arr _ _) rfl⟩,rfl,trivial⟩ trivial⟩
  ·have hd:decide (Lib.indexByte hexD c<0)=false:=dF hneg
   obtain⟨x,hx1,hx2,hx3⟩:=kR hc hm
   replace hx2:(uX m s i)[(((i/2:Nat):Int)).toNat]?=some (x:Int):=by rw[Int.toNat_natCast]; exact hx2
   have hn16:=gz c
   have hwi:IntKind.i64.wrap ((i/2:Nat):Int)=((i/2:Nat):Int):=aI (by omega) (by omega)
   have hw1:IntKind.u8.wrap ((x:Int)*16)=((x*16:Nat):Int):=cG (a:=x*16) (by omega)
   have hw2:IntKind.u8.wrap (Lib.indexByte hexD c)=(nibV c:Int):=by
    rw[show Lib.indexByte hexD c=(nibV c:Int) by unfold nibV; omega]
    exact cG (by omega)
   have hw3:IntKind.u8.wrap (((x*16:Nat):Int)+(nibV c:Int))=((x*16+nibV c:Nat):Int):=cG (a:=x*16+nibV c) (by omega)
   have hlow:=gH (i:=i) hc (jF (by omega))
   refine sR<|aN (eW rfl rfl (by omega)) rfl ?_;refine rC<|nQ ?_;refine wV<|kS<|zS ?_;refine zD<|nR ?_;refine zD ?_;refine rQ (ea (l:=s) (m:=i) aa rfl rfl rfl hc) ?_;refine rQ (ak hib rfl rfl (aj (aj ae)) (.inl rfl) (fun _=>rfl)) ?_;refine rC<|nQ<|sR ?_;refine zD ?_;refine zG<|kS<|ao ?_;refine zD ?_;refine rQ (ct (a:=i) (b:=2) aa rfl rfl rfl (by decide) hwi) ?_;refine zD ?_;refine rQ (ct (a:=i) (b:=2) aa rfl rfl rfl (by decide) hwi) ?_;refine rQ (aP aa rfl rfl rfl rfl rfl (by omega) (by omega)) ?_;refine rQ (bM aa rfl rfl ⟨rfl,(x:Int),hx2,_,rfl,rfl⟩ rfl) ?_;refine rQ (dL (m:=((x*16:Nat):Int)) aa rfl rfl hw1) ?_;refine rC ?_;refine rQ (bg (m:=(nibV c:Int)) aa rfl rfl rfl hw2) ?_;refine rQ (bk (m:=((x*16+nibV c:Nat):Int)) aa rfl rfl hw3) ?_;refine rQ (aP aa rfl rfl rfl rfl rfl (by omega) (by omega)) ?_;refine aW (aF aa rfl rfl rfl ⟨rfl,(x:Int),((x*16+nibV c:Nat):Int),hx2,⟨rfl,rfl,rfl⟩,rfl⟩ rfl)<|aB<|ew ?_
   exact aY (i+1) [] ⟨hlt,fun b hb=>by rw[List.take_add_one,hc]at hb; rcases List.mem_append.1 hb with hb | hb; exact hdig b hb; rw[show b=c by simpa using hb]; omega⟩ (by omega) (lg zj ⟨⟨rfl,rfl,_,rfl,aE.of_eq (congrArg (Row.ds 5 1 true bp) hx3)⟩,⟨rfl,rfl,_,rfl,aE.of_eq (by rw[hlow]; rfl)⟩,trivial⟩)
 ·have he:i=s.length:=by omega
  obtain⟨c,h3,h4⟩:=hbad
  have:=hdig c (by rw[he,List.take_length]; exact h3)
  omega
theorem sK (s:List UInt8) (m:Nat) (hm:s.length=2*m) (hpos:s≠[]) (hL:s.length≤1048576) (hall:∀c∈s,0≤Lib.indexByte hexD c):FnIs Tryz.prog 119 [.d (strD s)] [] (.tup (.acons (.own 64 0 (s.length/2) 1 none) (.acons (.bool true) .anil))) [(64,.ds 5 1 true bp (dw s))]:=by
 have h45:s≠[45]:=fun e=>by rw[e]at hm; simp at hm; omega
 have hlen:0<s.length:=List.length_pos_iff.2 hpos
 have h0:decide (s=[45])=false:=dF h45
 have h1:decide ((s.length:Int)=0)=false:=dF (by omega)
 have h2:(!decide (((s.length % 2:Nat):Int)=0))=false:=by rw[show s.length % 2=0 by omega]; rfl
 have hm2:m=s.length/2:=by omega
 have hrep:m-(s.length+1)/2=0:=by omega
 have hwl:IntKind.i64.wrap ((s.length/2:Nat):Int)=((s.length/2:Nat):Int):=aI (by omega) (by omega)
 refine aw aa Tryz.func119 rfl rfl rfl ?_;refine sR<|zD<|zW ?_;refine rC ?_;refine rQ (dS (a:=s) (b:=[45]) aa rfl rfl rfl) ?_;refine zG<|kS<|qR ?_;refine rC ?_;refine rQ (dB aa rfl rfl) ?_;refine zD ?_;refine rO ?_;refine rC ?_;refine rO ?_;refine rQ (dB aa rfl rfl) ?_;refine rO ?_;refine rQ (bn (a:=s.length) (b:=2) aa rfl rfl rfl (by decide)) ?_;refine rO ?_;refine rC ?_;refine rQ iF ?_;refine zG<|kS<|sR ?_;refine rC ?_;refine rQ (dB aa rfl rfl) ?_;refine rQ (ct (a:=s.length) (b:=2) aa rfl rfl rfl (by decide) hwl) ?_;refine aN (da (enc:=bp) (s:=1) (N:=s.length/2) aa 0 rfl rfl rfl rfl rfl rfl rfl (by omega) rfl) rfl ?_;refine rC<|zW ?_;refine rC ?_;refine aN (gj aa rfl rfl) rfl<|zP ?_
 refine wc_inv (fun i:Nat=>⟨[(23,.ptr 66 []),(4,.own 65 0 (s.length/2) 1 none),(0,.d (strD s))],[(65,some (.ds 5 1 true bp (uX m s i))),(66,some (.si (mkS s) i))],72,Tryz.f119.ntmps,64⟩) (fun i=>i≤s.length∧∀c∈s.take i,0≤Lib.indexByte hexD c) (fun i=>s.length-i) 0 [(65,some 192),(66,some 216)] ⟨Nat.zero_le _,by simp⟩
  (lg zj ⟨⟨rfl,rfl,_,rfl,aE.of_eq (by rw[kQ,hm2]; rfl)⟩,zR,trivial⟩) ?_
 intro i hi
 refine bv ?_
 obtain⟨hi,hdig⟩:=hi
 by_cases hlt:i<s.length
 ·obtain⟨c,hc⟩:∃c,s[i]?=some c:=⟨_,List.getElem?_eq_getElem hlt⟩
  have hib:FnIs Tryz.prog 94 [.d (strD hexD),.int .u8 c.toNat] [] (.int .i64 (Lib.indexByte hexD c)) []:=by
   have:=pu (l:=hexD) (c:=(c.toNat:Int))
   rwa [show ((c.toNat:Int)).toNat.toUInt8=c by simp]at this
  have hneg:¬Lib.indexByte hexD c<0:=by have:=hall c (List.mem_of_getElem? hc); omega
  have hd:decide (Lib.indexByte hexD c<0)=false:=dF hneg
  obtain⟨x,hx1,hx2,hx3⟩:=kR hc hm
  replace hx2:(uX m s i)[(((i/2:Nat):Int)).toNat]?=some (x:Int):=by rw[Int.toNat_natCast]; exact hx2
  have hn16:=gz c
  have hwi:IntKind.i64.wrap ((i/2:Nat):Int)=((i/2:Nat):Int):=aI (by omega) (by omega)
  have hw1:IntKind.u8.wrap ((x:Int)*16)=((x*16:Nat):Int):=cG (a:=x*16) (by omega)
  have hw2:IntKind.u8.wrap (Lib.indexByte hexD c)=(nibV c:Int):=by
   rw[show Lib.indexByte hexD c=(nibV c:Int) by unfold nibV; omega]
   exact cG (by omega)
  have hw3:IntKind.u8.wrap (((x*16:Nat):Int)+(nibV c:Int))=((x*16+nibV c:Nat):Int):=cG (a:=x*16+nibV c) (by omega)
  have hlow:=gH (i:=i) hc (jF (by omega))
  refine sR<|aN (eW rfl rfl (by omega)) rfl ?_;refine rC<|nQ ?_;refine wV<|kS<|zS ?_;refine zD<|nR ?_;refine zD ?_;refine rQ (ea (l:=s) (m:=i) aa rfl rfl rfl hc) ?_;refine rQ (ak hib rfl rfl (aj (aj ae)) (.inl rfl) (fun _=>rfl)) ?_;refine rC<|nQ<|sR ?_;refine zD ?_;refine zG<|kS<|ao ?_;refine zD ?_;refine rQ (ct (a:=i) (b:=2) aa rfl rfl rfl (by decide) hwi) ?_;refine zD ?_;refine rQ (ct (a:=i) (b:=2) aa rfl rfl rfl (by decide) hwi) ?_;refine rQ (aP aa rfl rfl rfl rfl rfl (by omega) (by omega)) ?_;refine rQ (bM aa rfl rfl ⟨rfl,(x:Int),hx2,_,rfl,rfl⟩ rfl) ?_;refine rQ (dL (m:=((x*16:Nat):Int)) aa rfl rfl hw1) ?_;refine rC ?_;refine rQ (bg (m:=(nibV c:Int)) aa rfl rfl rfl hw2) ?_;refine rQ (bk (m:=((x*16+nibV c:Nat):Int)) aa rfl rfl hw3) ?_;refine rQ (aP aa rfl rfl rfl rfl rfl (by omega) (by omega)) ?_;refine aW (aF aa rfl rfl rfl ⟨rfl,(x:Int),((x*16+nibV c:Nat):Int),hx2,⟨rfl,rfl,rfl⟩,rfl⟩ rfl)<|aB<|ew ?_
  exact aY (i+1) [] ⟨hlt,fun b hb=>by rw[List.take_add_one,hc]at hb; rcases List.mem_append.1 hb with hb | hb; exact hdig b hb; rw[show b=c by simpa using hb]; omega⟩ (by omega) (lg zj ⟨⟨rfl,rfl,_,rfl,aE.of_eq (congrArg (Row.ds 5 1 true bp) hx3)⟩,⟨rfl,rfl,_,rfl,aE.of_eq (by rw[hlow]; rfl)⟩,trivial⟩)
 ·have he:i=s.length:=by omega
  subst he
  refine sR<|rQ (jx rfl rfl (by omega)) ?_;refine rC<|nQ ?_;refine wG<|dA<|gg<|eJ<|gq<|aU<|sR ?_;refine zU<|zT ?_
  exact⟨trivial,[(64,some 65)],lg zV ⟨⟨rfl,rfl,_,rfl,aE.of_eq (by simp only[uX,List.take_length,hrep]; simp; rfl)⟩,trivial⟩⟩
theorem uk (s:List UInt8) (hL:s.length≤1048576):FnIs Tryz.prog 119 [.d (strD s)] [] (unR (bQ s)) []:=by
 by_cases hpos:s=[]
 ·exact oI s hpos
 by_cases hodd:s.length % 2=1
 ·have:=sL s hodd
  rwa [show bQ s=if s=[45] then some [] else none by rw[bQ,if_neg hpos,m5 s hodd]]
 have hm:s.length=2*(s.length/2):=by omega
 by_cases hall:∀c∈s,0≤Lib.indexByte hexD c
 ·obtain⟨t,h1,h2⟩:=gx s (by omega) hall
  have h45:s≠[45]:=fun e=>by rw[e]at hodd; simp at hodd
  have hu:bQ s=some t:=by rw[bQ,if_neg h45,if_neg hpos,h1]
  have:=sK s _ hm hpos hL hall
  rw[hu]
  rw[←h2]at this
  exact this.freeze_out 64 _ rfl (Frz.tup (.cons (Frz.own (by rw[show (some t).getD []=t from rfl,h2,nZ]; omega)) (.cons (.refl _) .nil))) trivial
 ·have hbad:∃c∈s,Lib.indexByte hexD c<0:=by
   simp only[Classical.not_forall]at hall
   obtain⟨c,h1,h2⟩:=hall
   exact⟨c,h1,by omega⟩
  exact sO s _ hm hpos hL hbad
end Go.Proofs.YtpmhnpnmpjimnaaGreatDoor
namespace Go.Plain
open Go.Eng Go.Lib
theorem iI:∀(k u:Nat),u<10 ^ (k+1)→(decDigits u).length≤k+1
 | 0,u,h=>by
  rw[decDigits,dif_pos (by simpa using h)]
  simp
 | k+1,u,h=>by
  rw[decDigits]
  split
  ·simp
  ·have h2:u/10<10 ^ (k+1):=by
    rw[Nat.div_lt_iff_lt_mul (by decide),←Nat.pow_succ]
    exact h
   have:=iI k (u/10) h2
   simp only[List.length_append,List.length_cons,List.length_nil]
   omega
theorem bf {n:Int} (h0 : -9223372036854775808≤n) (h1:n≤9223372036854775807):(itoa n).length≤20:=by
 rw[itoa]
 split
 ·have:=iI 18 n.natAbs (by omega)
  simp only[List.length_cons]
  omega
 ·have:=iI 18 n.toNat (by omega)
  omega
theorem cT (l:List UInt8):(hexP l).length≤2*l.length+1:=by
 rw[hexP]
 split
 ·simp
 ·rw[fy]; omega
theorem vD {o:POp} (h:o.Ok):(bO o).length≤50+2*o.data.length:=by
 obtain⟨⟨k0,k1⟩,i0,i1⟩:=h
 have h1:=bf i0 i1
 have h2:=bf (n:=o.kind) (by omega) (by omega)
 have h3:=cT o.data
 rw[bO]
 split
 ·simp only[List.length_append,List.length_cons,fJ,List.length_nil]; omega
 ·split
  ·simp only[List.length_append,List.length_cons,dr,List.length_nil]; omega
  ·split
   ·simp only[fe,List.length_cons,List.length_nil]; omega
   ·simp only[List.length_append,List.length_cons,sOp,List.length_nil]; omega
theorem rY {D:Nat}:∀(p:List POp),(∀o∈p,o.Ok∧o.data.length≤D)→(opsT p).length≤(51+2*D)*p.length
 | [],_=>by simp[opsT]
 | o::p,h=>by
  have ih:=rY p fun x hx=>h x (by simp[hx])
  obtain⟨h1,h2⟩:=h o (by simp)
  have h3:=vD h1
  simp only[opsT,List.flatMap_cons,List.length_append,List.length_cons,List.length_nil]at ih ⊢
  rw[Nat.mul_add]
  omega
theorem lq {D N:Nat}:∀(l:List (List POp)),(∀p∈l,p.length≤N∧∀o∈p,o.Ok∧o.data.length≤D)→(bJ l).length≤(7+(51+2*D)*N)*l.length
 | [],_=>by simp[bJ]
 | p::l,h=>by
  have ih:=lq l fun x hx=>h x (by simp[hx])
  obtain⟨h1,h2⟩:=h p (by simp)
  have h3:=rY p h2
  have h4:(51+2*D)*p.length≤(51+2*D)*N:=Nat.mul_le_mul_left _ h1
  simp only[bJ,List.flatMap_cons,List.length_append,List.length_cons,bh,List.length_nil]at ih ⊢
  rw[Nat.mul_add]
  omega
end Go.Plain
