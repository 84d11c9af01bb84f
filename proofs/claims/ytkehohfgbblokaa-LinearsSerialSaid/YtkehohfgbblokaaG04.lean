/- Texts of the proof: HX, Eng96, Eng87, Eng97, Eng98, Eng88, Eng99, YDat, Y1, Y2, Y4, Y3, Y5, YMap, Y6, Y7, Eng100, Eng101, Y8, Y9, Eng102, YL. -/
import Derived.Test.YtkehohfgbblokaaG03
import Derived.Test.YtkehohfgbblokaaG02
import Derived.Maps.RangeRun
import Derived.RangeFuncNested
import Derived.RangeFuncBound
import Derived.RangeFuncCalls
import Derived.RangeFuncLeaves
import Derived.Shelf.Abstract
import Derived.Shelf.RegionOpen
import Derived.WalkKit
import Derived.OwnWalkIn
import Derived.TacticsInMore
import Derived.LoopNIn
import Derived.LoopIn

set_option linter.unusedVariables false
set_option linter.unusedSimpArgs false
set_option linter.unusedSectionVars false

namespace Go.Proofs.Ytkehohfgbblokaa
open Go.Eng Go.Plain
set_option maxHeartbeats 32000000
set_option maxRecDepth 20000
def mN (h:List HEv) (i:Nat) (s:RdS) (j:Nat) (o:HOp):HOp :=
 if s.busy[o.client.toNat]?=some ((j:Int)+1) then eS o (iR o.client (h.drop i) i) else o
structure Sync (h:List HEv) (i:Nat) (s:RdS) (out:List HOp) (era:Int):Prop where
 ok:s.Ok i
 len:out.length=s.all.length
 outs:∀(j:Nat) o,s.all[j]?=some o→out[j]?=some (mN h i s j o)
 cli:∀(j:Nat) o,s.all[j]?=some o→0≤o.client∧o.client<8
 own:∀(c:Nat) (b:Int),c<8→s.busy[c]?=some b→b≠0→∃o,s.all[(b-1).toNat]?=some o∧o.client=c
 num:∀c:Nat,c<8→s.number[c]?=some (cntC out c)
 era:s.era=era
theorem pf (o:HOp) (r:Option (Nat×HEv)):(eS o r).client=o.client:=by cases r <;> rfl
theorem ux (l:List HOp) (o:HOp) (c:Int):cntC (l++[o]) c=cntC l c+if o.client=c then 1 else 0:=by
 simp only[cntC,List.countP_append,List.countP_cons,List.countP_nil]
 by_cases h:o.client=c <;> simp[h]
theorem rL (o:HOp):eS o none=o:=rfl
theorem Sync.next {h:List HEv} {i:Nat} {s:RdS} {out:List HOp} {era:Int} {x:HEv} (S:Sync h i s out era) (hx:h[i]?=some x) (ht:(bS s x).2=true) :
  Sync h (i+1) (bS s x).1 (if x.kind=3 then out else if x.kind=1 then out++[mkOp h i x out era] else out) (if x.kind=3 then era+1 else era):=by
 have hok:=S.ok.next x
 rcases nE ht with ⟨k1,hi⟩ | ⟨k2,hi⟩ | ⟨k3,hi⟩
 ·obtain⟨c0,c8,hb,_,_,_⟩:=qA hi
  have k3:¬x.kind=3:=by omega
  rw[if_neg k3,if_pos k1,if_neg k3]
  rw[lB k1 hi]at hok ⊢
  have hbl:=S.ok.blen
  have hnl:=S.ok.nlen
  have hnum:s.number[x.client.toNat]?.getD 0=cntC out x.client:=by
   rw[S.num x.client.toNat (by omega)]
   show cntC out _=_
   rw[Int.toNat_of_nonneg c0]
  have hcc:((x.client.toNat:Nat):Int)=x.client:=Int.toNat_of_nonneg c0
  refine⟨hok,by simp[S.len],fun j o hj=>?_,fun j o hj=>?_,fun c b hc hbc hb0=>?_,fun c hc=>?_,S.era⟩
  ·rcases Nat.lt_or_ge j s.all.length with hlt | hge
   ·have hj':s.all[j]?=some o:=by rw[List.getElem?_append_left hlt]at hj; exact hj
    rw[List.getElem?_append_left (by rw[S.len]; exact hlt),S.outs j o hj']
    obtain⟨o0,o8⟩:=S.cli j o hj'
    congr 1
    unfold mN
    simp only
    by_cases he:o.client=x.client
    ·rw[he,hb,if_neg (by simp; omega),List.getElem?_set_self (by omega),if_neg (by simp; omega)]
    ·rw[List.getElem?_set_ne (by omega)]
     split
     ·rw[fG _ hx,if_neg k3,if_neg (fun e=>he e.symm)]
     ·rfl
   ·have hje:j=s.all.length:=by
     have:=(List.getElem?_eq_some_iff.1 hj).1
     simp at this; omega
    subst hje
    rw[List.getElem?_append_right (Nat.le_refl _),Nat.sub_self]at hj
    simp only[List.getElem?_cons_zero,Option.some.injEq]at hj
    subst hj
    rw[List.getElem?_append_right (by rw[S.len]; exact Nat.le_refl _),S.len,Nat.sub_self]
    simp only[List.getElem?_cons_zero,Option.some.injEq]
    unfold mN mkOp
    simp only
    rw[List.getElem?_set_self (by omega),if_pos rfl,cZ,hnum,S.era,S.ok.read]
  ·rcases Nat.lt_or_ge j s.all.length with hlt | hge
   ·exact S.cli j o (by rw[List.getElem?_append_left hlt]at hj; exact hj)
   ·rw[List.getElem?_append_right hge]at hj
    have:j-s.all.length=0:=by have:=(List.getElem?_eq_some_iff.1 hj).1; simpa using this
    rw[this]at hj
    simp only[List.getElem?_cons_zero,Option.some.injEq]at hj
    subst hj
    exact⟨c0,c8⟩
  ·simp only at hbc ⊢
   by_cases he:x.client.toNat=c
   ·subst he
    rw[List.getElem?_set_self (by omega)]at hbc
    cases hbc
    refine⟨_,by rw[show ((s.all.length:Int)+1-1).toNat=s.all.length by omega,List.getElem?_append_right (Nat.le_refl _),Nat.sub_self]; rfl,hcc.symm⟩
   ·rw[List.getElem?_set_ne he]at hbc
    obtain⟨o,ho,hoc⟩:=S.own c b hc hbc hb0
    exact⟨o,kC ho,hoc⟩
  ·simp only
   rw[ux,mkOp,pf]
   show _=some (cntC out c+if x.client=(c:Int) then 1 else 0)
   by_cases he:x.client.toNat=c
   ·subst he
    rw[List.getElem?_set_self (by omega),hnum,if_pos hcc.symm,hcc]
   ·rw[List.getElem?_set_ne he,S.num c hc,if_neg (by omega),Int.add_zero]
 ·obtain⟨c0,c8,_,_,b,o,hb,hbp,hog,hof,_⟩:=pY S.ok hi
  have k3:¬x.kind=3:=by omega
  have k1:¬x.kind=1:=by omega
  rw[if_neg k3,if_neg k1,if_neg k3]
  rw[lA k2 hi hb hof]at hok ⊢
  have hbl:=S.ok.blen
  have hcc:((x.client.toNat:Nat):Int)=x.client:=Int.toNat_of_nonneg c0
  obtain⟨o',ho',hoc⟩:=S.own x.client.toNat b (by omega) hb (by omega)
  rw[hog]at ho'
  cases ho'
  rw[hcc]at hoc
  have hbi:(((b-1).toNat:Nat):Int)+1=b:=by omega
  have hlt:=(List.getElem?_eq_some_iff.1 hog).1
  refine⟨hok,by simp[S.len],fun j q hj=>?_,fun j q hj=>?_,fun c d hc hbc hb0=>?_,S.num,S.era⟩
  ·simp only at hj ⊢
   by_cases he:(b-1).toNat=j
   ·subst he
    rw[List.getElem?_set_self hlt]at hj
    cases hj
    rw[S.outs _ o hog]
    congr 1
    unfold mN
    simp only
    rw[hoc,hb,if_pos (by rw[hbi]),fG _ hx,if_neg k3,if_pos rfl,List.getElem?_set_self (by omega),if_neg (by simp; omega),eS,S.ok.read]
    try rw[hoc]
   ·rw[List.getElem?_set_ne he]at hj
    rw[S.outs j q hj]
    obtain⟨q0,q8⟩:=S.cli j q hj
    congr 1
    unfold mN
    simp only
    by_cases hq:q.client=x.client
    ·rw[hq,hb,if_neg (by simp; omega),List.getElem?_set_self (by omega),if_neg (by simp; omega)]
    ·rw[List.getElem?_set_ne (by omega)]
     split
     ·rw[fG _ hx,if_neg k3,if_neg (fun e=>hq e.symm)]
     ·rfl
  ·simp only at hj
   by_cases he:(b-1).toNat=j
   ·subst he
    rw[List.getElem?_set_self hlt]at hj
    cases hj
    exact S.cli _ o hog
   ·rw[List.getElem?_set_ne he]at hj
    exact S.cli j q hj
  ·simp only at hbc ⊢
   by_cases he:x.client.toNat=c
   ·subst he
    rw[List.getElem?_set_self (by omega)]at hbc
    cases hbc
    exact absurd rfl hb0
   ·rw[List.getElem?_set_ne he]at hbc
    obtain⟨q,hq,hqc⟩:=S.own c d hc hbc hb0
    by_cases hed:(b-1).toNat=(d-1).toNat
    ·rw[←hed,hog]at hq
     cases hq
     exact absurd hqc (by omega)
    ·exact⟨q,by rw[List.getElem?_set_ne hed]; exact hq,hqc⟩
 ·have k1:¬x.kind=1:=by omega
  rw[if_pos k3,if_pos k3]
  rw[jN k3]at hok ⊢
  have hz:∀b∈eP,b=0:=by decide
  refine⟨hok,S.len,fun j q hj=>?_,S.cli,fun c d hc hbc hb0=>absurd (hz d (List.mem_of_getElem? hbc)) hb0,S.num,by rw[S.era]⟩
  simp only at hj
  rw[S.outs j q hj]
  congr 1
  unfold mN
  simp only
  rw[if_neg (c:=eP[q.client.toNat]?=some ((j:Int)+1)) (fun e=>by have:=hz _ (List.mem_of_getElem? e); omega)]
  split
  ·rw[fG _ hx,if_pos k3,rL]
  ·rfl
theorem sH (h:List HEv):∀(n:Nat) (s:RdS) (i:Nat) (out:List HOp) (era:Int),h.length-i=n→i≤h.length→Sync h i s out era→(goS s (h.drop i) i).2<0→(goS s (h.drop i) i).1.all=eW h n i out era
 | 0,s,i,out,era,hn,hi,S,_=>by
  have he:i=h.length:=by omega
  subst he
  rw[List.drop_length,eW]
  refine List.ext_getElem? fun j=>?_
  show s.all[j]?=out[j]?
  cases hj:s.all[j]? with
  | none=>rw[List.getElem?_eq_none (by rw[S.len]; exact List.getElem?_eq_none_iff.1 hj)]
  | some o =>
   rw[S.outs j o hj]
   unfold mN
   rw[List.drop_length]
   split
   ·rfl
   ·rfl
 | n+1,s,i,out,era,hn,hi,S,hlt=>by
  obtain⟨x,hx⟩:∃x,h[i]?=some x:=⟨_,List.getElem?_eq_getElem (by omega)⟩
  rw[kB hx]at hlt ⊢
  cases hb:(bS s x).2 with
  | false=>rw[hb]at hlt; simp at hlt; omega
  | true =>
   rw[hb]at hlt
   simp only[if_pos]at hlt ⊢
   have S':=S.next hx hb
   rw[sH h n _ (i+1) _ _ (by omega) (by omega) S' hlt,eW,hx]
   simp only
   by_cases k3:x.kind=3
   ·simp only[k3,if_pos]
   ·by_cases k1:x.kind=1
    ·simp only[if_neg k3,if_pos k1]
    ·simp only[if_neg k3,if_neg k1]
theorem Ba (h:List HEv):Sync h 0 rd0 [] 0:=by
 have hz:∀b∈eP,b=0:=by decide
 refine⟨o9,rfl,fun j o hj=>by simp[rd0]at hj,fun j o hj=>by simp[rd0]at hj,fun c b hc hb h0=>absurd (hz b (List.mem_of_getElem? hb)) h0,fun c hc=>?_,rfl⟩
 obtain⟨b,hb⟩:∃b,eP[c]?=some b:=⟨_,List.getElem?_eq_getElem hc⟩
 show eP[c]?=some 0
 rw[hb,hz b (List.mem_of_getElem? hb)]
theorem vE {h:List HEv} (hc:(chkH h).2=0):(rdH h).all=opsR h:=by
 unfold chkH at hc
 unfold rdH
 by_cases h8:8192<h.length
 ·rw[if_pos h8]at hc; cases hc
 ·rw[if_neg h8]at hc ⊢
  have hlt:(goS rd0 h 0).2<0:=by
   by_cases h0:0≤(goS rd0 h 0).2
   ·rw[if_pos h0]at hc; cases hc
   ·omega
  have:=sH h h.length rd0 0 [] 0 (by omega) (Nat.zero_le _) (Ba h) (by rw[List.drop_zero]; exact hlt)
  rw[List.drop_zero]at this
  exact this
end Go.Proofs.Ytkehohfgbblokaa
namespace Go.Eng
open Go.RowKit
section
variable {P : Program} {T : Tab} {env : Env} {h : Upds} {n : Nat}
end
theorem lm:∀(l:List D),(dsAV l).flat=true
 | []=>rfl
 | d::l=>by simp[dsAV,AV.flat,lm l]
theorem s7 {n:Nat}:∀(l:List D),(dsAV l).lt n=true
 | []=>rfl
 | d::l=>by simp[dsAV,AV.lt,s7 l]
theorem qN {ρ:Nat→Option Nat}:∀(l:List D),(dsAV l).ren ρ=dsAV l
 | []=>rfl
 | d::l=>by simp only[dsAV,AV.ren,qN l]
def chF (A:AV) (l:List D):AV :=.acons A (dsAV l)
section
variable {P : Program} {T : Tab} {env : Env} {h : Upds} {n : Nat}
end
end Go.Eng
namespace Go.Eng
open Go.RowKit
section
variable {P : Program} {T : Tab} {env : Env} {h : Upds} {n : Nat}
theorem pQ (hT:an P T) {t e L s:Nat} {re:TyR} {x:Operand} {α:Type} {enc:α→D} {xs:List α} (ht:bq T t=some (.array L e)) (he:lk T e=some re) (hx:aq env x=some (.d (.pt (.vec L s enc xs)))) (hL:Nat.ble L 1048576=true) (hs0:Nat.blt 0 s=true) :
  aj P (.slice t x none none none) env h n (some (.d (.arr s enc xs))) []:=.of_comes fun C G st σ w a o ho hA hdst hst hn=>by
 obtain⟨ud,hud,hdd⟩:=bj hT ht
 cases hdd
 have hL:=Nat.le_of_ble_eq_true hL
 have hs0:=Nat.le_of_ble_eq_true hs0
 have hsz:=(hT e re he).run_size (P:=P)
 obtain⟨ad,cs,hv,⟨hl,f,hf,hcs⟩,hc⟩:=RelV.iptr.1 (RelV.pt.1 (au hst (hA.ev hx)).1)
 have hmax:(1048576:Nat)≤maxLen:=by decide
 refine .quiet (u :=.slice (some ad) L L) hst hdst ⟨rfl,rfl⟩ ?_ (RelV.arr.2 (.inr ⟨ad,L,by rw[hl],by omega,by omega,f,fun i hi=>⟨(hf i hi).1,(hf i hi).2,fun j u hj=>?_⟩⟩)) trivial
 ·simp[execOp,ho,Instr.sliceAt,hv,Instr.sureAddr,run_underlying hud,Instr.sliceBounds,Instr.sliceBound,asIntOf,hsz,Sem.run_bind,Sem.run_pure,Result.andThen_ok,Addr.add_zero']
 ·have hjs:j<s:=by rw[←(hf i hi).2]; exact (List.getElem?_eq_some_iff.1 hj).1
  have:=ef xs.length (fun i hi=>(hf i hi).2) i j hi hjs
  rw[hj]at this
  refine hc _ _ ?_
  rw[hcs,←hl]
  exact this
end
end Go.Eng
namespace Go.Eng
open Go.RowKit
section
variable {P : Program} {T : Tab} {env : Env} {h : Upds} {n : Nat}
end
end Go.Eng
namespace Go.Eng
open Go.RowKit
section
variable {P : Program} {T : Tab} {env : Env} {h : Upds} {n : Nat}
end
end Go.Eng
namespace Go.Eng
open Go.RowKit
open Go.ChangeMaps (setBlock)
section
variable {P : Program} {T : Tab} {env : Env} {h : Upds} {n : Nat}
theorem nO {t kt et:Nat} {x:Operand} {rm:Nat} {κ:Type} {enc:κ→D} {l:List (κ×AV)} (ht:P.underlying t=some (.map kt et)) (hx:aq env x=some (.mapr rm)) (hr:aT h rm=some (.mo (mapC enc l))) :
  aj P (.range t x) env h n (some (.ptr n [])) [(n,some (.mi (.mapr rm) l.length l.length []))]:=.of_comes fun C G st σ w a o ho hA hd hst hn=>by
 obtain⟨b,c,hs,hu⟩:=RelV.mapr.1 (au hst (hA.ev hx)).1
 have hgm:G rm:=(au hst (hA.ev hx)).2
 have hrow:=hA.row _ _ hr
 obtain⟨b',es,hb1,hb2,hb3,hb4⟩:=hst.rows rm _ hrow
 rw[hs]at hb2
 cases hb2
 have hl:es.size=l.length:=by
  have:=((bV l _).1 hb4).len
  simpa using this
 have hnn:¬G n:=hn n (Nat.le_refl _) (by omega)
 have hne:rm≠n:=fun e=>hnn (e ▸ hgm)
 have hnew:=aD.freshBy hst hnn (w':=w.alloc (.mapIter (some b) es.size #[] es.size)) (by
   refine⟨rfl,rfl,rfl,by simp,fun k hk _=>?_⟩
   exact heap_alloc_old w _ hk) (Nat.le_refl _) (b:=w.heap.size) (c:=1) (.mi (.mapr rm) l.length l.length []) hgm (fun σ' X' h1 _ hs'=>⟨w.heap.size,b,hs',by rw[←hl]; exact heap_alloc_new w _,h1 (.mapr rm) false _ hgm ⟨b,1,hs,rfl⟩⟩)
 refine⟨some (.ptr n []),[(n,some (.mi (.mapr rm) l.length l.length []))],.value (.pointer (some ⟨w.heap.size,0,none⟩)),.pointer (some ⟨w.heap.size,0,none⟩),w.alloc (.mapIter (some b) es.size #[] es.size),fun q=>if q=n then some (w.heap.size,1) else σ q,fun q=>G q∨q=n,⟨rfl,rfl⟩,?_,.inl rfl,?_,fun r hr=>.inl hr,fun r hr=>hr.imp id (fun e=>by omega)⟩
 ·have hget:(getObj b).run P w=.ok (.map es es.size) w:=by simp[getObj,Sem.run,hb3]
  simp[execOp,ho,Instr.range,run_underlying ht,hu,newObj,Sem.run,hget]
 ·rw[St.put_upd]
  exact hnew.set hd (RelV.ptr.2 ⟨w.heap.size,1,by simp,by simp[aW]⟩) (.inr rfl)
theorem bK.at {κ:Type} {enc:κ→D} {σ:aF} {w:World} {X:Nat→Prop}:∀(l:List (κ×AV)) (es:List MapEntry),bK σ w X enc l es→∀(i:Nat) (e:MapEntry),es[i]?=some e →
  ∃k v,l[i]?=some (k,v)∧RelV σ w X (.d (enc k)) e.key∧RelV σ w X v e.val
 | [],es,h,i,e,he=>by rw[show es=[] from h]at he; simp at he
 | (k,v)::l,es,h,i,e,he=>by
  obtain⟨e0,es',rfl,h1,h2,h3⟩:=h
  cases i with
  | zero =>
   simp only[List.getElem?_cons_zero,Option.some.injEq]at he
   subst he
   exact⟨k,v,rfl,h1,h2⟩
  | succ i=>exact bK.at l es' h3 i e (by simpa using he)
theorem oj {x:Operand} {r rm L i:Nat} {seen:List Nat} {κ:Type} {enc:κ→D} {l:List (κ×AV)} {k:κ} {v:AV} (hx:aq env x=some (.ptr r [])) (hr:aT h r=some (.mi (.mapr rm) L L (seen++[i]))) (hm:aT h rm=some (.mo (mapC enc l))) (hL:L=l.length) (hi:l[i]?=some (k,v)) :
  aj P (.entry x) env h n (some (.tup (.acons (.d (enc k)) (.acons v .anil)))) []:=.of_comes fun C G st σ w a o ho hA hd hst hn=>by
 subst hL
 have hrow:=hA.row _ _ hr
 have hrowm:=hA.row _ _ hm
 obtain⟨b,m,hb1,hb2,hb3⟩:=hst.rows r _ hrow
 obtain⟨bm,es,hm0,hm1,hm2,hm3⟩:=hst.rows rm _ hrowm
 obtain⟨bm',c',e1,e2⟩:=hb3
 rw[hm1]at e1
 cases e1
 simp only[List.cons.injEq,Value.map.injEq,Option.some.injEq,and_true]at e2
 subst e2
 obtain⟨b',c',hs',hu⟩:=RelV.ptr.1 (au hst (hA.ev hx)).1
 rw[hb1]at hs'
 cases hs'
 have hent:=(bV l _).1 hm3
 have hlen:es.size=l.length:=by simpa using hent.len
 have hlt:i<es.size:=by rw[hlen]; exact (List.getElem?_eq_some_iff.1 hi).1
 have hei:es[i]?=some es[i]:=Array.getElem?_eq_getElem hlt
 have hbi:=hm0 i _ hei
 obtain⟨k',v',q1,q2,q3⟩:=bK.at l _ hent i es[i] (by simp)
 rw[hi]at q1
 cases q1
 have hnd:(es.toList.map (·.born)).Nodup:=by
  rw[show es.toList.map (·.born)=List.range es.size by
   apply List.ext_getElem?
   intro j
   rw[List.getElem?_map]
   by_cases hj:j<es.size
   ·rw[List.getElem?_eq_getElem (by simpa using hj),List.getElem?_range hj]
    have:=hm0 j _ (Array.getElem?_eq_getElem hj)
    simp[this]
   ·rw[List.getElem?_eq_none (by simpa using hj),List.getElem?_eq_none (by simpa using hj)]; rfl]
  exact List.nodup_range
 refine .quiet (u :=.tuple #[es[i].key,es[i].val]) hst hd ⟨rfl,rfl⟩ ?_ ?_ ?_
 ·have hrun:=run_entry_at (P:=P) w b m l.length seen.toArray es es.size es[i] (by rw[hb2,hbi,hlen,List.push_toArray]) hm2 (by simp) hnd
  simp only[execOp,ho,hu,aW,Sem.run_bind,hrun,Result.andThen_ok,Sem.run_pure]
 ·unfold RelV
  rw[if_neg (by simp[AV.isAgg])]
  exact⟨_,rfl,_,_,rfl,q2,_,_,rfl,q3,rfl⟩
 ·exact⟨trivial,(cg l).1 (hst.rowsG rm _ hrowm).2 (k,v) (List.mem_of_getElem? hi),trivial⟩
variable {sz : Nat} {all rest : List Oper} {K : Env → Upds → Nat → Prop}
theorem kp {d:Tmp} {x:Operand} {ty:TypeId} {pos:String} {af:Array Edge} {r rm L:Nat} {seen:List Nat} {κ:Type} {enc:κ→D} {l:List (κ×AV)} (hd:Nat.blt d sz=true) (hx:aq env x=some (.ptr r []))
  (hr:aT h r=some (.mi (.mapr rm) L L seen)) (hm:aT h rm=some (.mo (mapC enc l))) (hL:L=l.length)
  (hend:(∀i,i<l.length→i∈seen)→RegS P all sz rest (n+8) ((d,.tup (.acons (.bool false) .anil))::env) h K)
  (hgo:∀i k v,l[i]?=some (k,v)→i ∉ seen→RegS P all sz rest (n+8) ((d,.tup (.acons (.bool true) (.acons (.d (enc k)) (.acons v .anil))))::env) ((r,some (.mi (.mapr rm) L L (seen++[i])))::h) K) :
  RegS P all sz (⟨some d,.next x false,ty,pos,af,none⟩::rest) n env h K:=by
 subst hL
 intro C σ w a hst Q hQ
 have hrow:(⟨env,h,n,sz,64⟩:St).row r=some (.mi (.mapr rm) l.length l.length seen):=by rw[←bc]; exact hr
 have hrowm:(⟨env,h,n,sz,64⟩:St).row rm=some (.mo (mapC enc l)):=by rw[←bc]; exact hm
 obtain⟨b,m,hb1,hb2,hb3⟩:=hst.rows r _ hrow
 obtain⟨bm,es,hm0,hm1,hm2,hm3⟩:=hst.rows rm _ hrowm
 obtain⟨bm',c',e1,e2⟩:=hb3
 rw[hm1]at e1
 cases e1
 simp only[List.cons.injEq,Value.map.injEq,Option.some.injEq,and_true]at e2
 subst e2
 obtain⟨b',c',hs',hu⟩:=RelV.ptr.1 (au hst hx).1
 rw[hb1]at hs'
 cases hs'
 have hlen:es.size=l.length:=by simpa using ((bV l _).1 hm3).len
 have hborn:∀e∈es.toList,e.born<l.length:=by
  intro e he
  obtain⟨i,hi⟩:=List.getElem?_of_mem he
  have hi':es[i]?=some e:=by simpa using hi
  rw[hm0 i e hi']
  have:=(Array.getElem?_eq_some_iff.1 hi').1
  omega
 have hdst:dU (some d) sz=true:=hd
 unfold wpListIn
 rw[if_pos (show Region.wanted _ _=true from rfl)]
 refine⟨fun _ _=>trivial,?_⟩
 rcases run_next_at (P:=P) w ty b m l.length l.length seen.toArray es es.size hb2 hm2 hborn (Nat.le_refl _)with ⟨h0,hrun⟩ | ⟨e,he,w1,hw1,hrun⟩
 ·have hex:(execOp a.eval ⟨some d,.next x false,ty,pos,af,none⟩).run P w=.ok (.value (.tuple #[.bool false])) w:=by
   simp only[execOp,hu,aW,Sem.run_bind,hrun,Result.andThen_ok,Sem.run_pure]
  rw[gB hex (fun c hc=>by cases hc)]
  have hst2:=hst.set (v:=some (.tup (.acons (.bool false) .anil))) (u :=.tuple #[.bool false]) (dst:=some d) (ee hdst) (by
   unfold RelV
   rw[if_neg (by simp[AV.isAgg])]
   exact⟨_,rfl,_,_,rfl,RelV.sc.2 ⟨rfl,rfl⟩,rfl⟩) ⟨trivial,trivial⟩
  rw[jZ]at hst2
  refine hend ?_ C σ w _ ?_ Q hQ
  ·intro i hi
   have hlt:i<es.size:=by omega
   have h1:es[i].born=i:=hm0 i _ (Array.getElem?_eq_getElem hlt)
   by_cases hc:i∈seen
   ·exact hc
   ·exfalso
    have:es[i]∈leftOf es seen.toArray:=by
     unfold leftOf
     rw[Array.mem_filter]
     refine⟨by simp,?_⟩
     rw[h1]
     simpa using hc
    have:=Array.size_pos_of_mem this
    omega
  ·have:=hst2.grow (G':=fun r=>r<n+8) (fun r hr=>Nat.lt_of_lt_of_le hr (Nat.le_add_right n 8))
   exact { this with }
 ·have hheap:w1.heap=w.heap:=by rcases hw1 with rfl | rfl <;> rfl
  have hst1:aD C (fun r=>r<n) ⟨env,h,n,sz,64⟩ σ w1 a:=by
   rcases hw1 with rfl | rfl
   ·exact hst
   ·exact hst.drew
  obtain⟨bm2,es2,_,k1,k2,k3⟩:=hst1.rows rm _ hrowm
  rw[hm1]at k1
  cases k1
  rw[hheap,hm2]at k2
  cases k2
  have hmem:e∈es.toList∧e.born ∉ seen:=by
   unfold leftOf at he
   rw[Array.mem_toList_iff,Array.mem_filter]at he
   exact⟨by simpa using he.1,by simpa using he.2⟩
  obtain⟨i,hi⟩:=List.getElem?_of_mem hmem.1
  have hi':es[i]?=some e:=by simpa using hi
  have hbi:=hm0 i e hi'
  obtain⟨k,v,q1,q2,q3⟩:=bK.at l _ ((bV l _).1 k3) i e hi
  have hex:(execOp a.eval ⟨some d,.next x false,ty,pos,af,none⟩).run P w=.ok (.value (.tuple #[.bool true,e.key,e.val])) (setBlock w1 b (.mapIter (some m) l.length (seen.toArray.push e.born) es.size)):=by
   simp only[execOp,hu,aW,Sem.run_bind,hrun,Result.andThen_ok,Sem.run_pure]
  rw[gB hex (fun c hc=>by cases hc)]
  have hgv:v.within (fun r=>r<n):=(cg l).1 (hst.rowsG rm _ hrowm).2 (k,v) (List.mem_of_getElem? q1)
  have hgm:rm<n:=(hst.rowsG rm _ hrowm).1
  have hst2:=hst1.set (v:=some (.tup (.acons (.bool true) (.acons (.d (enc k)) (.acons v .anil))))) (u :=.tuple #[.bool true,e.key,e.val]) (dst:=some d) (ee hdst) (by
   unfold RelV
   rw[if_neg (by simp[AV.isAgg])]
   exact⟨_,rfl,_,_,rfl,RelV.sc.2 ⟨rfl,rfl⟩,_,_,rfl,q2,_,_,rfl,q3,rfl⟩) ⟨trivial,trivial,hgv,trivial⟩
  rw[jZ]at hst2
  have hrow2:(⟨putE (some d) (some (.tup (.acons (.bool true) (.acons (.d (enc k)) (.acons v .anil))))) env,[]++h,n,sz,64⟩:St).row r=some (.mi (.mapr rm) l.length l.length seen):=by rw[←bc]; exact hr
  have hst3:=hst2.writeObj (o' :=.mapIter (some m) l.length (seen.toArray.push e.born) es.size) (row :=.mi (.mapr rm) l.length l.length (seen++[i])) hrow2 hb1 (by rw[hheap]; exact hb2) rfl hgm
   (fun w' ht hh'=>⟨b,m,hb1,by rw[hh',hbi,hlen,List.push_toArray],ht (.mapr rm) false _ hgm ⟨m,1,hm1,rfl⟩⟩)
  refine hgo i k v q1 (by rw[←hbi]; exact hmem.2) C σ _ _ ?_ Q hQ
  have:=hst3.grow (G':=fun r=>r<n+8) (fun r hr=>Nat.lt_of_lt_of_le hr (Nat.le_add_right n 8))
  exact { this with }
end
end Go.Eng
namespace Go.Eng
open Go.RowKit
def asC {κ ν:Type} (encV:ν→D) (l:List (κ×ν)):List (κ×AV):=l.map fun p=>(p.1,.d (encV p.2))
def MapP {κ ν:Type} (enc:κ→D) (encV:ν→D) (l:List (κ×ν)) (es:Array MapEntry):Prop :=
 ∃l',l'.Perm l∧∃(σ:aF) (w:World) (X:Nat→Prop),bK σ w X enc (asC encV l') es.toList
theorem Enc.flat {w w':World} {X X':Nat→Prop}:∀(d:D) (cs:List Value),d.plain→Enc w X d cs→Enc w' X' d cs:=by
 intro d
 induction d with
 | sc v=>intro cs _ h; exact h
 | nil=>intro cs _ h; exact h
 | cons a r iha ihr =>
  rintro cs ⟨p1,p2⟩ ⟨c1,c2,rfl,h1,h2⟩
  exact⟨c1,c2,rfl,iha _ p1 h1,ihr _ p2 h2⟩
 | vec n s enc xs ih =>
  rintro cs p ⟨hn,f,hf,rfl⟩
  exact⟨hn,f,fun i hi=>⟨ih _ _ (p _) (hf i hi).1,(hf i hi).2⟩,rfl⟩
 | arr s enc xs ih=>intro cs p; exact p.elim
 | pt x ih=>intro cs p; exact p.elim
 | arx s enc xs ih=>intro cs p; exact p.elim
theorem RelV.flat {σ σ':aF} {w w':World} {X X':Nat→Prop} {d:D} {u:Value} (hp:d.plain) (h:RelV σ w X (.d d) u):RelV σ' w' X' (.d d) u:=by
 unfold RelV at h ⊢
 split at h <;> rename_i hg
 ·rw[if_pos hg]
  obtain⟨c,rfl,hc⟩:=h
  exact⟨c,rfl,Enc.flat _ _ hp hc⟩
 ·rw[if_neg hg]
  exact Enc.flat _ _ hp h
theorem bK.flat {κ ν:Type} {enc:κ→D} {encV:ν→D} {σ σ':aF} {w w':World} {X X':Nat→Prop} (hk:∀k,(enc k).plain) (hv:∀v,(encV v).plain):∀(l:List (κ×ν)) (es:List MapEntry),bK σ w X enc (asC encV l) es→bK σ' w' X' enc (asC encV l) es
 | [],es,h=>h
 | (k,v)::l,es,h=>by
  obtain⟨e,es',rfl,h1,h2,h3⟩:=h
  exact⟨e,es',rfl,RelV.flat (hk k) h1,RelV.flat (hv v) h2,bK.flat hk hv l es' h3⟩
theorem aO.mo_mq {κ ν:Type} {enc:κ→D} {encV:ν→D} {l l':List (κ×ν)} (hp:l'.Perm l):aO (.mo (mapC enc (asC encV l'))) (.mq (MapP enc encV l)):=by
 rintro σ w X r ⟨b,es,h0,h1,h2,h3⟩
 exact⟨b,es,h0,h1,h2,l',hp,σ,w,X,(bV _ _).1 h3⟩
theorem bn {κ ν:Type} {enc:κ→D} {encV:ν→D} {n:Nat}:∀(l:List (κ×ν)),(mapC enc (asC encV l)).lt n=true
 | []=>rfl
 | (k,v)::l=>by simp[asC,mapC,AV.lt]; exact bn l
theorem ba {κ ν:Type} {enc:κ→D} {encV:ν→D} {ρ:Nat→Option Nat}:∀(l:List (κ×ν)),(mapC enc (asC encV l)).ren ρ=mapC enc (asC encV l)
 | []=>rfl
 | (k,v)::l=>by
  have:=ba (enc:=enc) (encV:=encV) (ρ:=ρ) l
  simp only[asC,List.map_cons,mapC,AV.ren]at this ⊢
  rw[this]
section
variable {P : Program} {sz n : Nat} {c : Code} {Q : Exit → St → Prop} {env : Env} {h : Upds}
theorem aD.open {κ ν:Type} {enc:κ→D} {encV:ν→D} {l:List (κ×ν)} {r:Nat} {C:Ctx} {G:Nat→Prop} {σ:aF} {w:World} {a:Act} (hrow:aT h r=some (.mq (MapP enc encV l))) (hk:∀k,(enc k).plain) (hv:∀v,(encV v).plain)
    (hst:aD C G ⟨env,h,n,sz,64⟩ σ w a):∃l',l'.Perm l∧aD C G ⟨env,(r,some (.mo (mapC enc (asC encV l'))))::h,n,sz,64⟩ σ w a:=by
  have hrow':(⟨env,h,n,sz,64⟩:St).row r=some (.mq (MapP enc encV l)):=by rw[←bc]; exact hrow
  obtain⟨b,es,h0,h1,h2,l',hp,σ0,w0,X0,h3⟩:=hst.rows r _ hrow'
  refine⟨l',hp,?_⟩
  have hnew:∀q,(⟨env,(r,some (.mo (mapC enc (asC encV l'))))::h,n,sz,64⟩:St).row q=if r=q then some (.mo (mapC enc (asC encV l'))) else (⟨env,h,n,sz,64⟩:St).row q:=fun q=>by
    simp only[St.row,aM]
    split <;> rfl
  have hX:(⟨env,(r,some (.mo (mapC enc (asC encV l'))))::h,n,sz,64⟩:St).X C.X0 σ=(⟨env,h,n,sz,64⟩:St).X C.X0 σ:=by
    funext q
    refine propext ⟨fun hq=>hq.elim .inl fun⟨r1,row,c,g1,g2⟩=>?_,fun hq=>hq.elim .inl fun⟨r1,row,c,g1,g2⟩=>?_⟩
    · rw[hnew]at g1
      split at g1
      · rename_i e; subst e; exact .inr ⟨_,_,c,hrow',g2⟩
      · exact .inr ⟨r1,row,c,g1,g2⟩
    · by_cases e:r=r1
      · subst e; exact .inr ⟨r,_,c,by rw[hnew,if_pos rfl],g2⟩
      · exact .inr ⟨r1,row,c,by rw[hnew,if_neg e]; exact g1,g2⟩
  exact
    { env:=fun i v hi=>by rw[hX]; exact hst.env i v hi
      envG:=hst.envG
      rows:=fun q row hq=>by
        rw[hX]
        rw[hnew]at hq
        split at hq
        · rename_i e
          subst e
          cases hq
          exact⟨b,es,h0,h1,h2,(bV _ _).2 (bK.flat hk hv _ _ h3)⟩
        · exact hst.rows q row hq
      rowsG:=fun q row hq=>by
        rw[hnew]at hq
        split at hq
        · rename_i e
          subst e
          cases hq
          refine⟨(hst.rowsG r _ hrow').1,?_⟩
          refine (cg _).2 fun p hp=>?_
          obtain⟨q,_,rfl⟩:=List.mem_map.1 hp
          trivial
        · exact hst.rowsG q row hq
      inj:=fun r1 r2 row1 row2 b1 c1 c2 g1 g2 g3 g4=>by
        have key:∀r1 row1,(⟨env,(r,some (.mo (mapC enc (asC encV l'))))::h,n,sz,64⟩:St).row r1=some row1→∃row2,(⟨env,h,n,sz,64⟩:St).row r1=some row2:=fun r1 row1 g=>by
          rw[hnew]at g
          split at g
          · rename_i e; subst e; exact⟨_,hrow'⟩
          · exact⟨_,g⟩
        obtain⟨_,k1⟩:=key _ _ g1
        obtain⟨_,k2⟩:=key _ _ g2
        exact hst.inj _ _ _ _ _ _ _ k1 k2 g3 g4
      high:=fun r1 row1 b1 c1 g1 g2=>by
        rw[hnew]at g1
        split at g1
        · rename_i e; subst e; exact hst.high _ _ _ _ hrow' g2
        · exact hst.high _ _ _ _ g1 g2
      size:=hst.size
      below:=hst.below
      defers:=hst.defers
      sz:=hst.sz
      x0:=hst.x0
      agree:=hst.agree
      baseG:=hst.baseG
      bs:=hst.bs
      rok:=hst.rok
      glob:=hst.glob }
theorem lW {κ ν:Type} {enc:κ→D} {encV:ν→D} {l:List (κ×ν)} (r:Nat) (hrow:aT h r=some (.mq (MapP enc encV l))) (hk:∀k,(enc k).plain) (hv:∀v,(encV v).plain)
  (hx:∀l',l'.Perm l→WC P sz c Q env ((r,some (.mo (mapC enc (asC encV l'))))::h) n):WC P sz c Q env h n:=by
 intro C σ w a hst
 obtain⟨l',hp,h1⟩:=aD.open hrow hk hv hst
 exact hx l' hp C σ w a h1
end
end Go.Eng
namespace Go.Eng
open Go.RowKit
theorem Frz.fn {f:Fn} {p p' q q':AV} {r:Nat} {row:Row} (hp:FrzT r row p p') (hq:FrzT r row q q'):Frz r row (.fn f p q) (.fn f p' q'):=by
 refine⟨rfl,fun _=>rfl,fun G g=>⟨hp.1 G g.1,hq.1 G g.2⟩,fun σ w X X' hx hn hr cs hh=>?_⟩
 obtain⟨vs,us,rfl,h1,h2⟩:=hh
 exact⟨vs,us,rfl,hp.2 σ w X X' hx hn hr _ h1,hq.2 σ w X X' hx hn hr _ h2⟩
end Go.Eng
namespace Go.Proofs.Ytkehohfgbblokaa
open Go.Eng Go.Plain
set_option maxHeartbeats 32000000
set_option maxRecDepth 20000
def mayB (o:HOp) (b:Int):Bool := !badO o.op b&&(decide (o.returned<0)||(decide (o.err=0)||decide (o.err=9)))
def bL (o:HOp):Bool:=decide (0≤o.returned)&&decide (o.err=0)
abbrev VMap:=List (Int×List UInt8)
def getV:VMap→Int→List UInt8
 | [],_=>zBk
 | (k',v)::l,k=>if k=k' then v else getV l k
def putV:VMap→Int→List UInt8→VMap
 | [],k,v=>[(k,v)]
 | (k',v')::l,k,v=>if k=k' then (k',v)::l else (k',v')::putV l k v
abbrev cU (l:VMap):List Int:=l.map (·.1)
theorem gJ (k:Int):∀(l:VMap) (i:Nat),(cJ k (asC bd l) i=none∧k ∉ cU l∧getV l k=zBk∧∀v,putV l k v=l++[(k,v)]) ∨
  ∃j v,cJ k (asC bd l) i=some (i+j,.d (bd v))∧l[j]?=some (k,v)∧getV l k=v∧∀v',asC bd (putV l k v')=putC (asC bd l) j (.d (bd v'))∧putV l k v'=l.set j (k,v')
 | [],i=>.inl ⟨rfl,by simp,rfl,fun _=>rfl⟩
 | (k',v)::l,i=>by
  by_cases h:k=k'
  ·subst h
   exact .inr ⟨0,v,by simp[asC,cJ],rfl,by simp[getV],fun v'=>⟨by simp[putV,asC,putC],by simp[putV]⟩⟩
  ·rcases gJ k l (i+1)with ⟨h1,h2,h3,h4⟩ | ⟨j,v0,h1,h2,h3,h4⟩
   ·refine .inl ⟨?_,?_,?_,fun v'=>?_⟩
    ·simp only[asC,List.map_cons,cJ,if_neg h]; exact h1
    ·simp[h,h2]
    ·simp[getV,if_neg h,h3]
    ·simp[putV,if_neg h,h4]
   ·refine .inr ⟨j+1,v0,?_,by simpa using h2,by simp[getV,if_neg h,h3],fun v'=>⟨?_,?_⟩⟩
    ·simp only[asC,List.map_cons,cJ,if_neg h]
     rw[show i+(j+1)=i+1+j by omega]
     exact h1
    ·have:=(h4 v').1
     simp only[asC,putV,if_neg h,List.map_cons,putC]at this ⊢
     rw[this]
    ·simp[putV,if_neg h,(h4 v').2]
theorem qD {l:VMap} {k:Int} {v:List UInt8} (hn:(cU l).Nodup) (h:(k,v)∈l):getV l k=v:=by
 induction l with
 | nil=>cases h
 | cons p l ih =>
  obtain⟨k',v'⟩:=p
  simp only[cU,List.map_cons,List.nodup_cons]at hn
  rcases List.mem_cons.1 h with e | e
  ·cases e; simp[getV]
  ·have hne:k≠k':=fun e2=>hn.1 (List.mem_map.2 ⟨(k,v),e,e2⟩)
   simp only[getV,if_neg hne]
   exact ih hn.2 e
theorem oc {l:VMap} {k:Int} (h:k ∉ cU l):getV l k=zBk:=by
 rcases gJ k l 0 with ⟨_,_,h3,_⟩ | ⟨j,v,_,h2,_⟩
 ·exact h3
 ·exact absurd (List.mem_map.2 ⟨(k,v),List.mem_of_getElem? h2,rfl⟩) h
theorem ue {l l':VMap} (hn:(cU l).Nodup) (hp:l'.Perm l) (k:Int):getV l' k=getV l k:=by
 have hn':(cU l').Nodup:=(hp.map _).nodup_iff.2 hn
 by_cases h:k∈cU l
 ·obtain⟨⟨k',v⟩,h1,h2⟩:=List.mem_map.1 h
  simp only at h2
  subst h2
  rw[qD hn h1,qD hn' (hp.mem_iff.2 h1)]
 ·rw[oc h,oc (fun h'=>h ((hp.map _).mem_iff.1 h'))]
theorem tU (l:VMap) (k:Int) (v:List UInt8) (hn:(cU l).Nodup):(cU (putV l k v)).Nodup:=by
 rcases gJ k l 0 with ⟨_,h2,_,h4⟩ | ⟨j,v0,_,h2,_,h4⟩
 ·rw[h4]
  simp only[cU,List.map_append,List.map_cons,List.map_nil]
  exact List.nodup_append.2 ⟨hn,by simp,fun a ha b hb=>by simp at hb; subst hb; exact fun e=>h2 (e ▸ ha)⟩
 ·rw[(h4 v).2]
  have:cU (l.set j (k,v))=cU l:=by
   simp only[cU,List.map_set]
   refine List.ext_getElem? fun i=>?_
   by_cases e:j=i
   ·subst e
    have hlt:=(List.getElem?_eq_some_iff.1 h2).1
    rw[List.getElem?_set_self (by simpa using hlt),List.getElem?_map,h2]; rfl
   ·rw[List.getElem?_set_ne e]
  rw[this]; exact hn
theorem jY (k:Int) (v:List UInt8):∀(l:VMap),(cU l).Nodup→(putV l k v).Perm ((k,v)::l.filter fun p=>decide (p.1≠k))
 | [],_=>List.Perm.refl _
 | (k',v')::l,hn=>by
  simp only[cU,List.map_cons,List.nodup_cons]at hn
  by_cases h:k=k'
  ·subst h
   have:l.filter (fun p=>decide (p.1≠k))=l:=List.filter_eq_self.2 fun p hp=>by
    have:p.1≠k:=fun e=>hn.1 (List.mem_map.2 ⟨p,hp,e⟩)
    simp[this]
   rw[putV,if_pos rfl,List.filter_cons,if_neg (by simp),this]
  ·have h2:decide ((k',v').1≠k)=true:=by simp[Ne.symm h]
   rw[putV,if_neg h,List.filter_cons,if_pos h2]
   exact ((jY k v l hn.2).cons _).trans (List.Perm.swap _ _ _)
theorem tI {l l':VMap} (hn:(cU l).Nodup) (hp:l'.Perm l) (k:Int) (v:List UInt8):(putV l' k v).Perm (putV l k v):=
 (jY k v l' ((hp.map _).nodup_iff.2 hn)).trans (((hp.filter _).cons _).trans (jY k v l hn).symm)
def eh (l:VMap) (seen:List Nat):VMap:=seen.filterMap fun i=>l[i]?
def remI (n:Nat) (seen:List Nat):List Nat:=(List.range n).filter fun j=>decide (j ∉ seen)
theorem qd:∀(l:VMap),eh l (List.range l.length)=l
 | []=>rfl
 | a::l=>by
  have ih:=qd l
  unfold eh at ih ⊢
  rw[List.length_cons,List.range_succ_eq_map,List.filterMap_cons]
  simp only[List.getElem?_cons_zero,List.filterMap_map]
  rw[show ((fun i=>(a::l)[i]?) ∘ Nat.succ)=fun i=>l[i]? from funext fun i=>by simp,ih]
theorem mz {i:Nat} {seen:List Nat} (hs:i ∉ seen):∀n,i<n→(remI n seen).Perm (i::remI n (seen++[i]))
 | 0,h=>by omega
 | n+1,h=>by
  unfold remI
  rw[List.range_succ,List.filter_append,List.filter_append]
  by_cases e:i=n
  ·subst e
   have h1:(List.range i).filter (fun j=>decide (j ∉ seen))=(List.range i).filter (fun j=>decide (j ∉ seen++[i])):=by
    refine List.filter_congr fun j hj=>?_
    have:j≠i:=by have:=List.mem_range.1 hj; omega
    simp[this]
   rw[h1]
   have h2:[i].filter (fun j=>decide (j ∉ seen))=[i]:=by simp[hs]
   have h3:[i].filter (fun j=>decide (j ∉ seen++[i]))=[]:=by simp
   rw[h2,h3,List.append_nil]
   exact List.perm_append_comm
  ·have ih:=mz hs n (by omega)
   have h2:[n].filter (fun j=>decide (j ∉ seen++[i]))=[n].filter (fun j=>decide (j ∉ seen)):=by
    refine List.filter_congr fun j hj=>?_
    have:j≠i:=by simp at hj; omega
    simp[this]
   rw[h2]
   exact ih.append_right _
theorem xa {n:Nat} {seen:List Nat} (h:∀i,i<n→i∈seen):remI n seen=[]:=by
 refine List.filter_eq_nil_iff.2 fun j hj=>?_
 simp[h j (List.mem_range.1 hj)]
theorem n1 {l:VMap} {seen:List Nat} {i:Nat} {p:Int×List UInt8} (h:l[i]?=some p):eh l (seen++[i])=eh l seen++[p]:=by
 simp[eh,h]
def dN (l:VMap) (seen:List Nat):Prop:=(eh l (seen++remI l.length seen)).Perm l
theorem x8 (l:VMap):dN l []:=by
 unfold dN
 rw[show remI l.length []=List.range l.length from List.filter_eq_self.2 fun j _=>by simp,List.nil_append,qd]
theorem dN.step {l:VMap} {seen:List Nat} {i:Nat} (h:dN l seen) (hi:i<l.length) (hs:i ∉ seen):dN l (seen++[i]):=by
 unfold dN at *
 refine List.Perm.trans ?_ h
 unfold eh
 refine List.Perm.filterMap _ ?_
 rw[List.append_assoc]
 exact List.Perm.append_left _ (mz hs _ hi).symm
theorem dN.fin {l:VMap} {seen:List Nat} (h:dN l seen) (ha:∀i,i<l.length→i∈seen):(eh l seen).Perm l:=by
 unfold dN at h
 rwa [xa ha,List.append_nil]at h
theorem dN.new {l:VMap} {seen:List Nat} {i:Nat} {k:Int} {v:List UInt8} (h:dN l seen) (hn:(cU l).Nodup) (hi:l[i]?=some (k,v)) (hs:i ∉ seen):cJ k (asC bd (eh l seen)) 0=none:=by
 have h1:=h.step (List.getElem?_eq_some_iff.1 hi).1 hs
 unfold dN at h1
 have h2:eh l (seen++[i]++remI l.length (seen++[i]))=eh l seen++((k,v)::eh l (remI l.length (seen++[i]))):=by
  simp[eh,hi]
 rw[h2]at h1
 have h3:(cU (eh l seen++((k,v)::eh l (remI l.length (seen++[i]))))).Nodup:=(h1.map _).nodup_iff.2 hn
 rcases gJ k (eh l seen) 0 with ⟨g,_⟩ | ⟨j,v0,_,g2,_⟩
 ·exact g
 ·exfalso
  simp only[cU,List.map_append,List.map_cons]at h3
  have h4:=(List.nodup_append.1 h3).2.2
  exact h4 k (List.mem_map.2 ⟨(k,v0),List.mem_of_getElem? g2,rfl⟩) k List.mem_cons_self rfl
theorem vm {n i:Nat} {seen:List Nat} (hi:i<n) (hs:i ∉ seen):(remI n (seen++[i])).length<(remI n seen).length:=by
 have:=(mz hs n hi).length_eq
 rw[List.length_cons]at this
 omega
end Go.Proofs.Ytkehohfgbblokaa
namespace Go.Proofs.Ytkehohfgbblokaa
open Go.Eng Go.Plain
set_option maxHeartbeats 32000000
set_option maxRecDepth 20000
attribute [local irreducible] WC RegS RegD SeqQ BlkQ ScoQ RegK CutK Sat SatN FnIs LoopQ aj OpIs
theorem rR (o:HOp) (b:Int):FnIs Try.prog 13 [.d (bh o),.int .i64 b] [] (.bool (mayB o b)) []:=by
 have hb:=y6 o.op b
 refine aG aa Try.func13 rfl rfl rfl ?_
 unfold mayB
 cases hbd:badO o.op b with
 | true =>
  rw[hbd]at hb
  refine sR<|rN ?_;refine rC<|zW ?_;refine rC ?_;refine rQ iB ?_;refine rC ?_;refine rQ (aA hb rfl rfl (ak (ak ai)) (.inl rfl) (fun _=>rfl)) ?_;refine zO<|sR ?_;refine rC<|zT<|bQ ?_
  exact⟨trivial,[],lf⟩
 | false =>
  rw[hbd]at hb
  cases h1:decide (o.returned<0) with
  | true =>
   refine sR<|rN ?_;refine rC<|zW ?_;refine rC ?_;refine rQ iB ?_;refine rC ?_;refine rQ (aA hb rfl rfl (ak (ak ai)) (.inl rfl) (fun _=>rfl)) ?_;refine zJ<|kS<|sR ?_;refine rC ?_;refine rQ iB ?_;refine zD ?_
   iterate 3 refine rS ?_
   refine rQ iT ?_;refine rC ?_;iterate 3 refine rT ?_
   refine rQ iU ?_;refine rC<|zT ?_
   exact⟨trivial,[],lf⟩
  | false =>
   cases h2:decide (o.err=0) with
   | true =>
    refine sR<|rN ?_;refine rC<|zW ?_;refine rC ?_;refine rQ iB ?_;refine rC ?_;refine rQ (aA hb rfl rfl (ak (ak ai)) (.inl rfl) (fun _=>rfl)) ?_;refine zJ<|kS<|sR ?_;refine rC ?_;refine rQ iB ?_;refine zD ?_;refine rO ?_;refine rC ?_;refine rO ?_;refine rQ iB ?_;refine rO ?_;refine rC ?_;refine rQ iF ?_;refine rC ?_;iterate 3 refine rS ?_
    refine rQ iT ?_;refine rC<|zT ?_
    exact⟨trivial,[],lf⟩
   | false =>
    refine sR<|rN ?_;refine rC<|zW ?_;refine rC ?_;refine rQ iB ?_;refine rC ?_;refine rQ (aA hb rfl rfl (ak (ak ai)) (.inl rfl) (fun _=>rfl)) ?_;refine zJ<|kS<|sR ?_;refine rC ?_;refine rQ iB ?_;refine zD ?_;refine rO ?_;refine rC ?_;refine rO ?_;refine rQ iB ?_;refine rO ?_;refine rC ?_;refine rQ iF ?_;refine rC ?_;refine rO ?_;refine rC ?_;refine rO ?_;refine rQ iB ?_;refine rO ?_;refine rC ?_;refine rQ iF ?_;refine rC<|zT ?_
    exact⟨trivial,[],lf⟩
theorem fT (o:HOp):FnIs Try.prog 15 [.d (bh o)] [] (.bool (bL o)) []:=by
 refine aG aa Try.func15 rfl rfl rfl ?_
 unfold bL
 cases h1:decide (0≤o.returned) with
 | true =>
  refine sR<|rN ?_;refine rC<|nR ?_;refine rC ?_;refine rQ iB ?_;refine zD ?_;refine rO ?_;refine rC ?_;refine rO ?_;refine rQ iB ?_;refine rO ?_;refine rC ?_;refine rQ iT ?_;refine rC<|zT ?_
  exact⟨trivial,[],lf⟩
 | false =>
  refine sR<|rN ?_;refine rC<|nR ?_;refine rC ?_;refine rQ iB ?_;refine zD ?_
  iterate 3 refine rS ?_
  refine rQ iF ?_;refine rC<|zT ?_
  exact⟨trivial,[],lf⟩
theorem fJ (d:List UInt8) (hl:d.length=32):FnIs Try.prog 64 [.d (encB d)] [] (.d (bd d)) []:=by
 have hd:(byI d).length=32:=(gh d).trans hl
 refine aG aa Try.func64 rfl rfl rfl ?_;refine sR<|rN<|nR ?_;refine rQ (kY aa rfl rfl rfl) ?_;refine rC ?_;refine bt (wq (enc:=cD) (s:=1) (ys:=byI d) aa rfl rfl rfl rfl rfl rfl rfl hd rfl ⟨_,⟨rfl,rfl,rfl⟩,rfl⟩) rfl<|nR ?_;refine rQ iM ?_;refine rW<|zT ?_
 exact⟨trivial,_,rfl,[],lf⟩
def opE (h:List HEv) (b:Int):Int:=if (chkH h).2=0 then (if b<1∨4096<b then 1 else 0) else (chkH h).2
def opL (h:List HEv) (b:Int):List HOp:=if opE h b=0 then opsH h else[]
theorem fe (h:List HEv) (b:Int) (hh:h.length≤9223372036854775807) (hal:(rdH h).all.length≤1048576):FnIs Try.prog 42 [.d (encH h),.int .i64 b] [] (.tup (.acons (.d (eU (opL h b))) (.acons (.int .i64 (opE h b)) .anil))) []:=by
 have ho:=sX h hh hal
 refine aG aa Try.func42 rfl rfl rfl ?_
 by_cases hc:(chkH h).2=0
 ·have d0:decide ((chkH h).2=0)=true:=dT hc
  rw[hc]at ho d0
  by_cases h1:b<1
  ·have d1:decide (b<1)=true:=dT h1
   have hE:opE h b=1:=by rw[opE,if_pos hc,if_pos (.inl h1)]
   rw[show opL h b=[] by rw[opL,hE,if_neg (by decide)],hE]
   refine sR<|zD<|nR ?_;refine rC ?_;refine rQ (aA ho rfl rfl (ak ai) (.inl rfl) (fun _=>rfl)) ?_;iterate 5 refine rC ?_
   refine zW<|zU ?_;refine rP ?_;refine rC ?_;refine rP ?_;refine rC ?_;refine rP ?_;refine rC ?_;iterate 2 refine rS ?_
   refine rP ?_;refine rQ iT ?_;refine rQ iU ?_;refine zO<|sR ?_;refine zD<|zT<|bQ ?_
   exact⟨trivial,[],lg ⟨⟨_,rfl,AVLe.tup1 (ia _ _) rfl⟩,rfl,trivial⟩ trivial⟩
  ·have d1:decide (b<1)=false:=dF h1
   by_cases h2:4096<b
   ·have d2:decide (4096<b)=true:=dT h2
    have hE:opE h b=1:=by rw[opE,if_pos hc,if_pos (.inr h2)]
    rw[show opL h b=[] by rw[opL,hE,if_neg (by decide)],hE]
    refine sR<|zD<|nR ?_;refine rC ?_;refine rQ (aA ho rfl rfl (ak ai) (.inl rfl) (fun _=>rfl)) ?_;iterate 5 refine rC ?_
    refine zW<|zU ?_;refine rP ?_;refine rC ?_;refine rP ?_;refine rC ?_;refine rP ?_;refine rC ?_;refine rO ?_;refine rC ?_;refine rO ?_;refine rC ?_;refine rP ?_;refine rQ iF ?_;refine rQ iU ?_;refine zI<|sR ?_;refine zD<|zT<|bQ ?_
    exact⟨trivial,[],lg ⟨⟨_,rfl,AVLe.tup1 (ia _ _) rfl⟩,rfl,trivial⟩ trivial⟩
   ·have d2:decide (4096<b)=false:=dF h2
    have hE:opE h b=0:=by rw[opE,if_pos hc,if_neg (fun e=>e.elim h1 h2)]
    rw[show opL h b=opsH h by rw[opL,hE,if_pos rfl],hE]
    refine sR<|zD<|nR ?_;refine rC ?_;refine rQ (aA ho rfl rfl (ak ai) (.inl rfl) (fun _=>rfl)) ?_;iterate 5 refine rC ?_
    refine zW<|zU ?_;refine rP ?_;refine rC ?_;refine rP ?_;refine rC ?_;refine rP ?_;refine rC ?_;refine rO ?_;refine rC ?_;refine rO ?_;refine rC ?_;refine rP ?_;refine rQ iF ?_;refine rQ iU ?_;refine zG<|kS<|sR ?_;iterate 4 refine rC ?_
    refine zT ?_
    exact⟨trivial,[],lf⟩
 ·have d0:decide ((chkH h).2=0)=false:=dF hc
  have hE:opE h b=(chkH h).2:=by rw[opE,if_neg hc]
  rw[show opL h b=[] by rw[opL,hE,if_neg hc],hE]
  rw[show opsH h=[] from if_neg hc]at ho
  refine sR<|zD<|nR ?_;refine rC ?_;refine rQ (aA ho rfl rfl (ak ai) (.inl rfl) (fun _=>rfl)) ?_;iterate 5 refine rC ?_
  refine zW<|zU ?_
  iterate 3 refine rS ?_
  iterate 2 refine rU ?_
  refine rS ?_;refine rQ iF ?_;refine zJ<|kS<|sR ?_;iterate 4 refine rC ?_
  refine zT ?_
  exact⟨trivial,[],lf⟩
abbrev gm (a d:Nat):Row :=.box 92 (.acons (.mapr a) (.acons (.mapr d) .anil))
abbrev eX (m:VMap):Row :=.mq (MapP i6 bd m)
abbrev oa (m:VMap):Row :=.mo (mapC i6 (asC bd m))
theorem kA (k:Int):(i6 k).plain:=trivial
theorem kO (v:List UInt8):(bd v).plain:=fun _=>trivial
theorem keyI:ea Try.prog 3 (fun a:Int=>i6 a) 1:=tW Try.underlying3 .i64
theorem oz (a d:VMap) (hn:(cU d).Nodup):FnIs Try.prog 46 [.ptr 0 [],.ptr 0 [.fld 0 0],.mapr 2] [(0,gm 1 2),(1,eX a),(2,eX d)] (.tup .anil) [(0,gm 64 2),(64,eX d),(2,eX d)]:=by
 refine aG aa Try.func46 rfl rfl rfl ?_;refine lW 2 rfl kA kO fun m hm=>?_
 have hnm:(cU m).Nodup:=(hm.map _).nodup_iff.2 hn
 refine sR<|rC ?_;refine bt (gF) rfl ?_;refine rC ?_;refine bO (aK aa rfl rfl rfl ⟨_,⟨_,⟨rfl,rfl,rfl⟩,rfl⟩,rfl⟩ rfl)<|nR ?_;refine rC ?_;refine bt (nO (κ:=Int) (enc:=i6) (l:=asC bd m) Try.underlying90 rfl rfl) rfl<|zP ?_
 refine wc_inv (fun seen:List Nat=>⟨[(1,.ptr 0 [.fld 0 0]),(12,.ptr 65 [])],[(0,some (gm 64 2)),(2,some (oa m)),(64,some (oa (eh m seen))),(65,some (.mi (.mapr 2) (asC bd m).length (asC bd m).length seen))],72,Try.f46.ntmps,64⟩) (fun seen=>dN m seen) (fun seen=>(remI m.length seen).length) [] [(64,some 72),(65,some 104)] (x8 m)
  (lg zk ⟨zR,zM,zR,zR,trivial⟩) ?_
 intro seen hinv
 refine cf<|sR ?_
 refine kp (κ:=Int) (enc:=i6) (l:=asC bd m) rfl rfl rfl rfl rfl (fun hall=>?_) (fun i k v hl hs=>?_)
 ·have hperm:=(hinv.fin fun i hi=>hall i (by simpa[asC]using hi)).trans hm
  refine rC<|nQ ?_;refine wG<|b8<|dO<|eT<|dW ?_
  exact⟨trivial,[],lg zV ⟨zR,⟨rfl,rfl,_,rfl,aO.mo_mq hperm⟩,⟨rfl,rfl,_,rfl,aO.mo_mq hm⟩,trivial⟩⟩
 ·obtain⟨bv,hmi,rfl⟩:∃bv,m[i]?=some (k,bv)∧v=.d (bd bv):=by
   rw[asC,List.getElem?_map]at hl
   cases hq:m[i]? with
   | none=>rw[hq]at hl; cases hl
   | some p=>rw[hq]at hl; cases hl; exact⟨_,rfl,rfl⟩
  have hnew:=hinv.new hnm hmi hs
  have hil:=(List.getElem?_eq_some_iff.1 hmi).1
  refine rC<|nQ ?_;refine wV<|kS<|zS ?_;refine rQ (oj (κ:=Int) (enc:=i6) (l:=asC bd m) (i:=i) rfl rfl rfl rfl hl) ?_;refine zD ?_;refine rN ?_;refine rC ?_;refine rW<|nS ?_;refine aw (by kernel_rfl) ?_;refine dC [1] [] ?_;refine dC [18] [] ?_;refine dQ [19] [0] iM ?_;refine dC [6] [] ?_;refine dQ [7] [112] iM ?_;refine br [20,21,22] [64] (bX (κ:=Int) (enc:=i6) (l:=asC bd (eh m seen)) keyI Try.underlying90 rfl rfl rfl rfl hnew) ?_;refine am (by kernel_rfl)<|gR ?_
  exact aU (seen++[i]) [(64,some 64),(65,some 65)] (hinv.step hil hs) (vm hil hs) (lg zk ⟨zR,zM,⟨rfl,bn _,_,rfl,aO.of_eq (by rw[oa,n1 hmi]; show _=Row.mo ((mapC i6 (asC bd (eh m seen++[(k,bv)]))).ren _); rw[ba]; simp[asC])⟩,zR,trivial⟩)
theorem uv (a d:VMap) (hn:(cU a).Nodup):FnIs Try.prog 46 [.ptr 0 [],.ptr 0 [.fld 1 1],.mapr 1] [(0,gm 1 2),(1,eX a),(2,eX d)] (.tup .anil) [(0,gm 1 64),(1,eX a),(64,eX a)]:=by
 refine aG aa Try.func46 rfl rfl rfl ?_;refine lW 1 rfl kA kO fun m hm=>?_
 have hnm:(cU m).Nodup:=(hm.map _).nodup_iff.2 hn
 refine sR<|rC ?_;refine bt (gF) rfl ?_;refine rC ?_;refine bO (aK aa rfl rfl rfl ⟨_,⟨_,⟨rfl,rfl,rfl⟩,rfl⟩,rfl⟩ rfl)<|nR ?_;refine rC ?_;refine bt (nO (κ:=Int) (enc:=i6) (l:=asC bd m) Try.underlying90 rfl rfl) rfl<|zP ?_
 refine wc_inv (fun seen:List Nat=>⟨[(1,.ptr 0 [.fld 1 1]),(12,.ptr 65 [])],[(0,some (gm 1 64)),(1,some (oa m)),(64,some (oa (eh m seen))),(65,some (.mi (.mapr 1) (asC bd m).length (asC bd m).length seen))],72,Try.f46.ntmps,64⟩) (fun seen=>dN m seen) (fun seen=>(remI m.length seen).length) [] [(64,some 72),(65,some 104)] (x8 m)
  (lg zk ⟨zR,zM,zR,zR,trivial⟩) ?_
 intro seen hinv
 refine cf<|sR ?_
 refine kp (κ:=Int) (enc:=i6) (l:=asC bd m) rfl rfl rfl rfl rfl (fun hall=>?_) (fun i k v hl hs=>?_)
 ·have hperm:=(hinv.fin fun i hi=>hall i (by simpa[asC]using hi)).trans hm
  refine rC<|nQ ?_;refine wG<|b8<|dO<|eT<|dW ?_
  exact⟨trivial,[],lg zV ⟨zR,⟨rfl,rfl,_,rfl,aO.mo_mq hm⟩,⟨rfl,rfl,_,rfl,aO.mo_mq hperm⟩,trivial⟩⟩
 ·obtain⟨bv,hmi,rfl⟩:∃bv,m[i]?=some (k,bv)∧v=.d (bd bv):=by
   rw[asC,List.getElem?_map]at hl
   cases hq:m[i]? with
   | none=>rw[hq]at hl; cases hl
   | some p=>rw[hq]at hl; cases hl; exact⟨_,rfl,rfl⟩
  have hnew:=hinv.new hnm hmi hs
  have hil:=(List.getElem?_eq_some_iff.1 hmi).1
  refine rC<|nQ ?_;refine wV<|kS<|zS ?_;refine rQ (oj (κ:=Int) (enc:=i6) (l:=asC bd m) (i:=i) rfl rfl rfl rfl hl) ?_;refine zD ?_;refine rN ?_;refine rC ?_;refine rW<|nS ?_;refine aw (by kernel_rfl) ?_;refine dC [1] [] ?_;refine dC [18] [] ?_;refine dQ [19] [0] iM ?_;refine dC [6] [] ?_;refine dQ [7] [112] iM ?_;refine br [20,21,22] [64] (bX (κ:=Int) (enc:=i6) (l:=asC bd (eh m seen)) keyI Try.underlying90 rfl rfl rfl rfl hnew) ?_;refine am (by kernel_rfl)<|gR ?_
  exact aU (seen++[i]) [(64,some 64),(65,some 65)] (hinv.step hil hs) (vm hil hs) (lg zk ⟨zR,zM,⟨rfl,bn _,_,rfl,aO.of_eq (by rw[oa,n1 hmi]; show _=Row.mo ((mapC i6 (asC bd (eh m seen++[(k,bv)]))).ren _); rw[ba]; simp[asC])⟩,zR,trivial⟩)
abbrev kj (a d:VMap):List (Nat×Row):=[(0,gm 1 2),(1,eX a),(2,eX d)]
theorem aO.mo_mq' {l l':VMap} {c:List (Int×AV)} (hc:c=asC bd l') (hp:l'.Perm l):aO (.mo (mapC i6 c)) (eX l):=by
 subst hc; exact aO.mo_mq hp
theorem pB {look:Nat→Option Row} {ρ:Nat→Option Nat} {r k:Nat} {bs9 avs:List AV} (hr:ρ r=some k) (h64:Nat.blt r 64=true) (h:b7 look ρ bs9 avs):b7 look ρ (.mapr k::bs9) (.mapr r::avs):=
 ⟨_,avs,rfl,⟨rfl,h64⟩,AVLe.of_eq (by simp only[AV.ren,hr]),h⟩
theorem zp:eJ Try.prog 27 (bd zBk):=lV (by kernel_rfl) (by kernel_rfl)
theorem vX (a d:VMap) (o:HOp) (hk:o.op.kind=1) (hn:(cU a).Nodup):FnIs Try.prog 47 [.ptr 0 [],.d (bh o)] (kj a d) (.bool (!bL o||decide (getV a o.op.index=o.value))) (kj a d):=by
 have c1:decide (o.op.kind=1)=true:=dT hk
 refine aG aa Try.func47 rfl rfl rfl ?_
 cases hm2:bL o with
 | false =>
  have hmm:=fT o
  rw[hm2]at hmm
  refine sR<|rN ?_;refine rC<|zW ?_;refine zD ?_;refine rQ iB<|zP<|sR ?_;refine zD ?_;refine zI<|aZ ?_;refine aw (by kernel_rfl) ?_;refine dQ [3] [64] iM ?_;refine dQ [10] [] (aA hmm rfl rfl (ak ai) (.inl rfl) (fun _=>rfl)) ?_;refine dC [11] [] ?_;refine dC [12] [] ?_;refine ae [13,0] rfl rfl rfl rfl ?_;refine ae [13,14] rfl rfl rfl rfl ?_;refine ae [13,15] rfl rfl rfl rfl ?_;refine ae [13,16] rfl rfl rfl rfl ?_;refine ae [13,3] rfl rfl rfl rfl ?_;refine ae [13,18] rfl rfl rfl rfl ?_;refine ae [13,19] rfl rfl rfl rfl ?_;refine ae [13,17,20] rfl rfl rfl rfl ?_;refine ae [13,3] rfl rfl rfl rfl ?_;refine ae [13,22] rfl rfl rfl rfl ?_;refine ae [13,21,23] rfl rfl rfl rfl ?_;refine dQ [13,24] [] iU ?_;refine dC [25] [] ?_;refine am (by kernel_rfl)<|aL<|eD<|zB ?_
  exact⟨trivial,[],lg zV ⟨zR,zR,zR,trivial⟩⟩
 | true =>
  have hmm:=fT o
  rw[hm2]at hmm
  refine lW 1 rfl kA kO fun m hm=>?_
  rw[←ue hn hm]
  rcases gJ o.op.index m 0 with ⟨hf,_,hg,_⟩ | ⟨j,v0,hf,_,hg,_⟩
  ·rw[hg]
   refine sR<|rN ?_;refine rC<|zW ?_;refine zD ?_;refine rQ iB<|zP<|sR ?_;refine zD ?_;refine zI<|aZ ?_;refine aw (by kernel_rfl) ?_;refine dQ [3] [64] iM ?_;refine dQ [10] [] (aA hmm rfl rfl (ak ai) (.inl rfl) (fun _=>rfl)) ?_;refine dC [11] [] ?_;refine dC [12] [] ?_;refine ab [13,0] [] rfl rfl rfl rfl (ay aa (fun K hk=>hk)) ?_;refine ab [13,14] [] rfl rfl rfl rfl (ay aa (fun K hk=>hk)) ?_;refine ab [13,15] [] rfl rfl rfl rfl (ay aa (fun K hk=>hk)) ?_;refine ab [13,16] [0] rfl rfl rfl rfl (aJ aa rfl rfl rfl rfl) ?_;refine ab [13,3] [] rfl rfl rfl rfl (ay aa (fun K hk=>hk)) ?_;refine ab [13,18] [] rfl rfl rfl rfl (ay aa (fun K hk=>hk)) ?_;refine ab [13,19] [64] rfl rfl rfl rfl (aJ aa rfl rfl ⟨_,rfl,rfl⟩ rfl) ?_;refine ab [13,17,20] [1] rfl rfl rfl rfl (fV (κ:=Int) (enc:=i6) (l:=asC bd m) keyI Try.underlying90 zp rfl rfl rfl hf) ?_;refine ab [13,3] [] rfl rfl rfl rfl (ay aa (fun K hk=>hk)) ?_;refine ab [13,22] [64] rfl rfl rfl rfl (aJ aa rfl rfl ⟨_,rfl,rfl⟩ rfl) ?_;refine ab [13,21,23] [] rfl rfl rfl rfl (dx rfl rfl rfl rfl (by kernel_rfl) (by decide) (cQ zBk o.value)) ?_;refine dQ [13,24] [] iG ?_;refine dC [25] [] ?_;refine am (by kernel_rfl)<|aL<|eD<|zB ?_
   exact⟨trivial,[],lg zV ⟨zR,⟨rfl,rfl,_,rfl,aO.mo_mq hm⟩,zR,trivial⟩⟩
  ·rw[hg]
   obtain⟨v,hv⟩:∃v,v=v0:=⟨_,rfl⟩
   subst hv
   rw[Nat.zero_add]at hf
   refine sR<|rN ?_;refine rC<|zW ?_;refine zD ?_;refine rQ iB<|zP<|sR ?_;refine zD ?_;refine zI<|aZ ?_;refine aw (by kernel_rfl) ?_;refine dQ [3] [64] iM ?_;refine dQ [10] [] (aA hmm rfl rfl (ak ai) (.inl rfl) (fun _=>rfl)) ?_;refine dC [11] [] ?_;refine dC [12] [] ?_;refine ab [13,0] [] rfl rfl rfl rfl (ay aa (fun K hk=>hk)) ?_;refine ab [13,14] [] rfl rfl rfl rfl (ay aa (fun K hk=>hk)) ?_;refine ab [13,15] [] rfl rfl rfl rfl (ay aa (fun K hk=>hk)) ?_;refine ab [13,16] [0] rfl rfl rfl rfl (aJ aa rfl rfl rfl rfl) ?_;refine ab [13,3] [] rfl rfl rfl rfl (ay aa (fun K hk=>hk)) ?_;refine ab [13,18] [] rfl rfl rfl rfl (ay aa (fun K hk=>hk)) ?_;refine ab [13,19] [64] rfl rfl rfl rfl (aJ aa rfl rfl ⟨_,rfl,rfl⟩ rfl) ?_;refine ab [13,17,20] [1] rfl rfl rfl rfl (fU (κ:=Int) (enc:=i6) (l:=asC bd m) keyI Try.underlying90 rfl rfl rfl hf) ?_;refine ab [13,3] [] rfl rfl rfl rfl (ay aa (fun K hk=>hk)) ?_;refine ab [13,22] [64] rfl rfl rfl rfl (aJ aa rfl rfl ⟨_,rfl,rfl⟩ rfl) ?_;refine ab [13,21,23] [] rfl rfl rfl rfl (dx rfl rfl rfl rfl (by kernel_rfl) (by decide) (cQ v o.value)) ?_;refine dQ [13,24] [] iG ?_;refine dC [25] [] ?_;refine am (by kernel_rfl)<|aL<|eD<|zB ?_
   exact⟨trivial,[],lg zV ⟨zR,⟨rfl,rfl,_,rfl,aO.mo_mq hm⟩,zR,trivial⟩⟩
theorem ua (a d:VMap) (o:HOp) (hk:o.op.kind=2) (hd:o.op.data.length=32) (hn:(cU a).Nodup):FnIs Try.prog 47 [.ptr 0 [],.d (bh o)] (kj a d) (.bool true) (kj (putV a o.op.index o.op.data) d):=by
 have c1:decide (o.op.kind=1)=false:=dF (by omega)
 have c2:decide (o.op.kind=2)=true:=dT hk
 refine aG aa Try.func47 rfl rfl rfl ?_;refine lW 1 rfl kA kO fun m hm=>?_
 have hpp:=tI hn hm o.op.index o.op.data
 rcases gJ o.op.index m 0 with ⟨hf,_,_,hp⟩ | ⟨j,v0,hf,_,_,hp⟩
 ·rw[hp]at hpp
  refine sR<|rN ?_;refine rC<|zW ?_;refine zD ?_;refine rQ iB<|zP<|sR ?_;refine zD ?_;refine zG<|sR ?_;refine zD ?_;refine zI ?_;refine aw (by kernel_rfl) ?_;refine dC [0] [] ?_;refine dC [28] [] ?_;refine dC [29] [] ?_;refine dQ [30] [0] iM ?_;refine dC [3] [] ?_;refine dC [32] [] ?_;refine dQ [33] [64] iB ?_;refine dC [3] [] ?_;refine dC [35] [] ?_;refine dQ [36] [64] iB ?_;refine dQ [37] [] (aA (fJ o.op.data hd) rfl rfl (ak ai) (.inl rfl) (fun _=>rfl)) ?_;refine br [31,34,38] [1] (bX (κ:=Int) (enc:=i6) (l:=asC bd m) keyI Try.underlying90 rfl rfl rfl rfl hf) ?_;refine am (by kernel_rfl)<|zC<|sR ?_;refine rC<|zT ?_
  exact⟨trivial,[],lg zV ⟨zR,⟨rfl,rfl,_,rfl,aO.mo_mq' (by simp[asC]) hpp⟩,zR,trivial⟩⟩
 ·rw[Nat.zero_add]at hf
  refine sR<|rN ?_;refine rC<|zW ?_;refine zD ?_;refine rQ iB<|zP<|sR ?_;refine zD ?_;refine zG<|sR ?_;refine zD ?_;refine zI ?_;refine aw (by kernel_rfl) ?_;refine dC [0] [] ?_;refine dC [28] [] ?_;refine dC [29] [] ?_;refine dQ [30] [0] iM ?_;refine dC [3] [] ?_;refine dC [32] [] ?_;refine dQ [33] [64] iB ?_;refine dC [3] [] ?_;refine dC [35] [] ?_;refine dQ [36] [64] iB ?_;refine dQ [37] [] (aA (fJ o.op.data hd) rfl rfl (ak ai) (.inl rfl) (fun _=>rfl)) ?_;refine br [31,34,38] [1] (fD (κ:=Int) (enc:=i6) (l:=asC bd m) keyI Try.underlying90 rfl rfl rfl rfl hf) ?_;refine am (by kernel_rfl)<|zC<|sR ?_;refine rC<|zT ?_
  exact⟨trivial,[],lg zV ⟨zR,⟨rfl,rfl,_,rfl,aO.mo_mq' (hp _).1.symm hpp⟩,zR,trivial⟩⟩
theorem ub (a d:VMap) (o:HOp) (hk:o.op.kind=3) (hn:(cU a).Nodup):FnIs Try.prog 47 [.ptr 0 [],.d (bh o)] (kj a d) (.bool true) [(0,gm 1 64),(1,eX a),(64,eX a)]:=by
 have c1:decide (o.op.kind=1)=false:=dF (by omega)
 have c2:decide (o.op.kind=2)=false:=dF (by omega)
 have c3:decide (o.op.kind=3)=true:=dT hk
 refine aG aa Try.func47 rfl rfl rfl ?_;refine sR<|rN ?_;refine rC<|zW ?_;refine zD ?_;refine rQ iB<|zP<|sR ?_;refine zD ?_;refine zG<|sR ?_;refine zD ?_;refine zG<|sR ?_;refine zD ?_;refine zI ?_;refine aw (by kernel_rfl) ?_;iterate 2 refine dC [0] [] ?_
 refine dC [42] [] ?_;refine dC [43] [] ?_;refine dC [0] [] ?_;refine dC [45] [] ?_;refine dC [46] [] ?_;refine dQ [47] [0] iM ?_;refine ut rfl (aQ [(0,some 0),(1,some 1),(2,some 2)] (uv a d hn) rfl rfl rfl (aV rfl rfl (aV rfl rfl (pB rfl rfl ai))) ⟨zH,zH,zH,trivial⟩ rfl rfl (.inl rfl) rfl rfl) rfl rfl ?_;refine am (by kernel_rfl)<|zC<|sR ?_;refine rC<|zT ?_
 exact⟨trivial,[(64,some 216)],lg zV ⟨zR,zR,zR,trivial⟩⟩
theorem xQ {look:Nat→Option Row} {ρ:Nat→Option Nat} {f:Fn} {x:D} {bs9 avs:List AV} (h:b7 look ρ bs9 avs):b7 look ρ (.fn f .anil (.acons (.d x) .anil)::bs9) (.fn f .anil (.acons (.d x) .anil)::avs):=
 ⟨_,avs,rfl,⟨rfl,rfl⟩,AVLe.refl _,h⟩
def ixO (p:HOp→Bool) (l:List HOp) (i:Nat):Int:=match l with
 | [] => -1
 | o::l=>if p o=true then (i:Int) else ixO p l (i+1)
theorem pq (p:HOp→Bool):∀(l:List HOp) (i:Nat),decide (0≤ixO p l i)=l.any p
 | [],i=>rfl
 | o::l,i=>by
  unfold ixO
  rw[List.any_cons]
  cases h:p o with
  | true=>simp
  | false=>simp only[Bool.false_eq_true,if_false,Bool.false_or]; exact pq p l (i+1)
theorem qx {p:HOp→Bool} {l:List HOp} {i:Nat} {o:HOp} (h:l[i]?=some o):ixO p (l.drop i) i=if p o=true then (i:Int) else ixO p (l.drop (i+1)) (i+1):=by
 have hlt:=(List.getElem?_eq_some_iff.1 h).1
 rw[List.drop_eq_getElem_cons hlt,(List.getElem?_eq_some_iff.1 h).2]
 rfl
theorem yE (l:List HOp) (g:Nat) (c:D) (p:HOp→Bool) (hL:l.length≤9223372036854775807) (hp:∀o,FnIs Try.prog g [.d (bh o),.d (.pt c)] [] (.bool (p o)) []):FnIs Try.prog 63 [.d (gu l),.fn (.func g) .anil (.acons (.d (.pt c)) .anil)] [] (.int .i64 (ixO p l 0)) []:=by
 refine aG aa Try.func63 rfl rfl rfl ?_;refine sR<|rC<|zW ?_;refine rC ?_;refine rQ iE ?_;refine rC<|zP ?_
 refine wc_inv (fun k:Nat=>⟨[(8,.int .i64 k),(7,.int .i64 l.length),(0,.d (gu l)),(1,.fn (.func g) .anil (.acons (.d (.pt c)) .anil))],[],72,Try.f63.ntmps,64⟩) (fun k=>k≤l.length∧ixO p (l.drop k) k=ixO p l 0) (fun k=>l.length-k) 0 [] ⟨Nat.zero_le _,by rw[List.drop_zero]⟩
  (lg zi trivial) ?_
 rintro k ⟨hk,hix⟩
 refine cf ?_
 by_cases hlt:k<l.length
 ·have d1:decide ((k:Int)<(l.length:Int))=true:=dT (by omega)
  obtain⟨o,ho⟩:∃o,l[k]?=some o:=⟨_,List.getElem?_eq_getElem hlt⟩
  have ho2:l[((k:Int)).toNat]?=some o:=by rw[Int.toNat_natCast]; exact ho
  rw[qx ho]at hix
  refine sR<|rC<|nQ ?_;refine wT<|zQ<|zS ?_;refine zD<|nR ?_;refine zU ?_;refine rQ iA ?_;refine rQ iL ?_;refine rQ (aQ [] (hp o) rfl rfl rfl (ak (ak ai)) trivial rfl rfl (.inl rfl) rfl rfl)<|nS ?_
  cases hpo:p o with
  | true =>
   rw[hpo,if_pos rfl]at hix
   rw[←hix]
   refine wV<|sR ?_;refine zD<|zT<|zB<|dR<|zB ?_
   exact⟨trivial,[],lf⟩
  | false =>
   rw[hpo,if_neg (by decide)]at hix
   refine wG<|bg<|zC<|ao ?_;refine rQ iD ?_;refine rC<|aE ?_
   exact aU (k+1) [] ⟨hlt,hix⟩ (by omega) (lg zi trivial)
 ·have d1:decide ((k:Int)<(l.length:Int))=false:=dF (by omega)
  have he:k=l.length:=by omega
  subst he
  rw[List.drop_length]at hix
  rw[←hix]
  refine sR<|rC<|nQ ?_;refine wF<|zX<|sR ?_;refine rC<|zT ?_
  exact⟨trivial,[],lf⟩
theorem yV (l:List HOp) (g:Nat) (c:D) (p:HOp→Bool) (hL:l.length≤9223372036854775807) (hp:∀o,FnIs Try.prog g [.d (bh o),.d (.pt c)] [] (.bool (p o)) []):FnIs Try.prog 43 [.d (gu l),.fn (.func g) .anil (.acons (.d (.pt c)) .anil)] [] (.bool (l.any p)) []:=by
 have hix:=yE l g c p hL hp
 rw[←pq p l 0]
 refine aG aa Try.func43 rfl rfl rfl ?_;refine sR<|rC<|nR ?_;refine zD ?_;refine rQ (aQ [] hix rfl rfl rfl (ak (xQ ai)) trivial rfl rfl (.inl rfl) rfl rfl) ?_;refine zD<|zT ?_
 exact⟨trivial,[],lf⟩
theorem yD (l:List HOp) (g:Nat) (m:List (Int×AV)) (hm:∀n,(mapC i6 m).lt n=true) (hr:∀ρ,(mapC i6 m).ren ρ=mapC i6 m) (p:HOp→Bool) (hL:l.length≤9223372036854775807) (hp:∀o,FnIs Try.prog g [.d (bh o),.ptr 0 []] [(0,.box 113 (.mapr 1)),(1,.mo (mapC i6 m))] (.bool (p o)) [(0,.box 113 (.mapr 1)),(1,.mo (mapC i6 m))]):FnIs Try.prog 63 [.d (gu l),.fn (.func g) .anil (.acons (.ptr 0 []) .anil)] [(0,.box 113 (.mapr 1)),(1,.mo (mapC i6 m))] (.int .i64 (ixO p l 0)) [(0,.box 113 (.mapr 1)),(1,.mo (mapC i6 m))]:=by
 refine aG aa Try.func63 rfl rfl rfl ?_;refine sR<|rC<|zW ?_;refine rC ?_;refine rQ iE ?_;refine rC<|zP ?_
 refine wc_inv (fun k:Nat=>⟨[(8,.int .i64 k),(7,.int .i64 l.length),(0,.d (gu l)),(1,.fn (.func g) .anil (.acons (.ptr 0 []) .anil))],[(0,some (.box 113 (.mapr 1))),(1,some (.mo (mapC i6 m)))],72,Try.f63.ntmps,64⟩) (fun k=>k≤l.length∧ixO p (l.drop k) k=ixO p l 0) (fun k=>l.length-k) 0 [] ⟨Nat.zero_le _,by rw[List.drop_zero]⟩
  (lg zi ⟨zR,⟨rfl,hm _,_,rfl,aO.of_eq (by simp only[Row.ren,hr])⟩,trivial⟩) ?_
 rintro k ⟨hk,hix⟩
 refine cf ?_
 by_cases hlt:k<l.length
 ·have d1:decide ((k:Int)<(l.length:Int))=true:=dT (by omega)
  obtain⟨o,ho⟩:∃o,l[k]?=some o:=⟨_,List.getElem?_eq_getElem hlt⟩
  have ho2:l[((k:Int)).toNat]?=some o:=by rw[Int.toNat_natCast]; exact ho
  rw[qx ho]at hix
  refine sR<|rC<|nQ ?_;refine wT<|zQ<|zS ?_;refine zD<|nR ?_;refine zU ?_;refine rQ iA ?_;refine rQ iL ?_;refine bF rfl (aQ [(0,some 0),(1,some 1)] (hp o) rfl rfl rfl (ak (aV rfl rfl ai)) ⟨zH,⟨rfl,hm _,_,_,rfl,rfl,aO.of_eq (by simp only[Row.ren,hr])⟩,trivial⟩ rfl rfl (.inl rfl) rfl rfl) rfl rfl<|nS ?_
  cases hpo:p o with
  | true =>
   rw[hpo,if_pos rfl]at hix
   rw[←hix]
   refine wV<|sR ?_;refine zD<|zT<|zB<|dR<|zB ?_
   exact⟨trivial,[],lg zV ⟨zR,⟨rfl,hm _,_,rfl,aO.of_eq (by simp only[Row.ren,hr])⟩,trivial⟩⟩
  | false =>
   rw[hpo,if_neg (by decide)]at hix
   refine wG<|bg<|zC<|ao ?_;refine rQ iD ?_;refine rC<|aE ?_
   exact aU (k+1) [] ⟨hlt,hix⟩ (by omega) (lg zi ⟨zR,⟨rfl,hm _,_,rfl,aO.of_eq (by simp only[Row.ren,hr])⟩,trivial⟩)
 ·have d1:decide ((k:Int)<(l.length:Int))=false:=dF (by omega)
  have he:k=l.length:=by omega
  subst he
  rw[List.drop_length]at hix
  rw[←hix]
  refine sR<|rC<|nQ ?_;refine wF<|zX<|sR ?_;refine rC<|zT ?_
  exact⟨trivial,[],lg zV ⟨zR,⟨rfl,hm _,_,rfl,aO.of_eq (by simp only[Row.ren,hr])⟩,trivial⟩⟩
theorem yU (l:List HOp) (g:Nat) (m:List (Int×AV)) (hm:∀n,(mapC i6 m).lt n=true) (hr:∀ρ,(mapC i6 m).ren ρ=mapC i6 m) (p:HOp→Bool) (hL:l.length≤9223372036854775807) (hp:∀o,FnIs Try.prog g [.d (bh o),.ptr 0 []] [(0,.box 113 (.mapr 1)),(1,.mo (mapC i6 m))] (.bool (p o)) [(0,.box 113 (.mapr 1)),(1,.mo (mapC i6 m))]):FnIs Try.prog 43 [.d (gu l),.fn (.func g) .anil (.acons (.ptr 0 []) .anil)] [(0,.box 113 (.mapr 1)),(1,.mo (mapC i6 m))] (.bool (l.any p)) [(0,.box 113 (.mapr 1)),(1,.mo (mapC i6 m))]:=by
 have hix:=yD l g m hm hr p hL hp
 rw[←pq p l 0]
 refine aG aa Try.func43 rfl rfl rfl ?_;refine sR<|rC<|nR ?_;refine zD ?_;refine bF rfl (aQ [(0,some 0),(1,some 1)] hix rfl rfl rfl (ak (cG rfl rfl ai)) ⟨zH,⟨rfl,hm _,_,_,rfl,rfl,aO.of_eq (by simp only[Row.ren,hr])⟩,trivial⟩ rfl rfl (.inl rfl) rfl rfl) rfl rfl ?_;refine zD<|zT ?_
 exact⟨trivial,[],lg zV ⟨zR,⟨rfl,hm _,_,rfl,aO.of_eq (by simp only[Row.ren,hr])⟩,trivial⟩⟩
abbrev x7 (b:Bool):D :=.sc (.bool b)
abbrev ov (l:List Int):D :=.arr 1 i6 l
abbrev sO (o:HOp):Row :=.box 30 (.d (bh o))
theorem xR (o x:HOp):FnIs Try.prog 44 [.d (bh x),.d (.pt (bh o))] [] (.bool (befB o x)) []:=by
 refine aG aa Try.func44 rfl rfl rfl ?_;refine sR<|rN ?_;refine rC<|nR ?_;refine rQ (xu aa rfl rfl) ?_;refine rQ iM ?_;refine rQ (aA (jM o x) rfl rfl (ak (ak ai)) (.inl rfl) (fun _=>rfl)) ?_;refine rC<|zT ?_
 exact⟨trivial,[],lf⟩
theorem wJ (o:HOp) (ah:List HOp) (hL:ah.length≤9223372036854775807):FnIs Try.prog 43 [.own 1 0 ah.length 41 none,.fn (.func 44) .anil (.acons (.ptr 0 []) .anil)] [(0,sO o),(1,di ah)] (.bool (ah.any (befB o))) [(0,sO o),(1,di ah)]:=
 FnIs.lend (.freeze (avs':=[.own 1 0 ah.length 41 none,.fn (.func 44) .anil (.acons (.d (.pt (bh o))) .anil)]) (h0':=[(1,di ah)]) 0 _ rfl ⟨zE,⟨_,rfl,Frz.fn .nil (.cons Frz.ptr .nil)⟩,trivial⟩ ⟨⟨rfl,_,rfl,.refl _⟩,trivial⟩ rfl
  (.freeze (avs':=[.d (gu ah),.fn (.func 44) .anil (.acons (.d (.pt (bh o))) .anil)]) (h0':=[]) 1 _ rfl ⟨⟨_,rfl,Frz.own rfl⟩,zE,trivial⟩ trivial rfl (.refl _ _))) (dq.sc _)
  (yV ah 44 (bh o) (befB o) hL (xR o))
theorem yh {t:TypeId} {A B:AV}:aO (.box t (.acons A (.acons B (.d .nil)))) (.box t (.acons A (.acons B .anil))):=by
 rintro σ w X r ⟨hf,b,cs,h1,h2,c1,c2,h3,h4,c3,c4,h5,h6,h7⟩
 refine⟨?_,b,cs,h1,h2,c1,c2,h3,h4,c3,c4,h5,h6,h7⟩
 simp only[AV.flat]at hf ⊢
 exact hf
theorem vJ:aO (.mo .anil) (eX []):=aO.mo_mq (l':=[]) (.refl _)
def jf (ah:List HOp) (o:HOp):Bool:=match ah.getLast? with
 | some y=>decide (y.era<o.era)
 | none=>decide (0<o.era)
def hapV (a d:VMap) (o:HOp):Bool×VMap×VMap :=
 if o.op.kind=1 then (!bL o||decide (getV a o.op.index=o.value),a,d)
 else if o.op.kind=2 then (true,putV a o.op.index o.op.data,d)
 else (true,a,a)
def accL (b:Int) (l:List HOp):List Int→List Bool→List HOp→VMap→VMap→Int×List Bool
 | [],tk,_,_,_=>(0,tk)
 | i::os,tk,ah,a,d =>
  if i<0 then (1,tk) else match l[i.toNat]? with
  | none=>(1,tk)
  | some o=>if tk[i.toNat]?=some true then (1,tk) else if mayB o b=false then (1,tk) else if ah.any (befB o)=true then (13,tk)
   else if (hapV (if jf ah o=true then d else a) d o).1=false then (15,tk)
   else accL b l os (tk.set i.toNat true) (ah++[o]) (hapV (if jf ah o=true then d else a) d o).2.1 (hapV (if jf ah o=true then d else a) d o).2.2
def misB:List HOp→List Bool→Bool
 | o::l,t::tk=>(bL o && !t)||misB l tk
 | _,_=>false
theorem vK (tk:List Bool):misB [] tk=false:=by cases tk <;> rfl
def accS (b:Int) (l:List HOp) (order:List Int):Int :=
 if (accL b l order (List.replicate l.length false) [] [] []).1=0 then (if misB l (accL b l order (List.replicate l.length false) [] [] []).2=true then 15 else 0) else (accL b l order (List.replicate l.length false) [] [] []).1
theorem uD {b:Int} {l:List HOp} {order:List Int} {k:Nat} {i:Int} (h:order[k]?=some i) (tk:List Bool) (ah:List HOp) (a d:VMap):accL b l (order.drop k) tk ah a d=accL b l (i::order.drop (k+1)) tk ah a d:=by
 have hlt:=(List.getElem?_eq_some_iff.1 h).1
 rw[List.drop_eq_getElem_cons hlt,(List.getElem?_eq_some_iff.1 h).2]
theorem vL {o:HOp} {b:Int} (h:mayB o b=true):o.op.kind=1∨(o.op.kind=2∧o.op.data.length=32)∨o.op.kind=3:=by
 unfold mayB badO at h
 by_cases k1:o.op.kind=1
 ·exact .inl k1
 ·by_cases k2:o.op.kind=2
  ·refine .inr (.inl ⟨k2,?_⟩)
   simp[k2]at h
   exact h.1.2
  ·refine .inr (.inr ?_)
   simp[k1,k2]at h
   exact h.1
structure tn where
 k:Nat
 tk:List Bool
 ah:List HOp
 a:VMap
 d:VMap
structure tn.Ok (b:Int) (l:List HOp) (order:List Int) (q:tn):Prop where
 le:q.k≤order.length
 tkl:q.tk.length=l.length
 ahl:q.ah.length≤q.k
 na:(cU q.a).Nodup
 nd:(cU q.d).Nodup
 res:accL b l (order.drop q.k) q.tk q.ah q.a q.d=accL b l order (List.replicate l.length false) [] [] []
abbrev uK (tk:List Bool):Row :=.ds 4 1 true x7 tk
theorem uC (h:List HEv) (b:Int) (order:List Int) (hh:h.length≤9223372036854775807) (hal0:(rdH h).all.length≤1048576) (ho:order.length≤1000000):FnIs Try.prog 18 [.d (encH h),.int .i64 b,.d (ov order)] [] (.d (i6 (if opE h b=0 then accS b (opsH h) order else opE h b))) []:=by
 have hop:=fe h b hh hal0
 refine aG aa Try.func18 rfl rfl rfl ?_
 by_cases he:opE h b=0
 case neg =>
  have d0:(!decide (opE h b=0))=true:=by rw[dF he]; rfl
  rw[if_neg he]
  refine sR<|rC<|nR ?_;refine zD ?_;refine rQ (aA hop rfl rfl (ak (ak ai)) (.inl rfl) (fun _=>rfl)) ?_;iterate 5 refine rC ?_
  refine zW<|zD ?_;refine zI<|sR ?_;refine zD<|zT<|bQ ?_
  exact⟨trivial,[],lf⟩
 rw[if_pos he]
 rw[show opL h b=opsH h by rw[opL,if_pos he],he]at hop
 have hal:(opsH h).length≤1048576:=by unfold opsH; split <;> first | omega | simp
 generalize opsH h=l at *
 refine sR<|rC<|nR ?_;refine zD ?_;refine rQ (aA hop rfl rfl (ak (ak ai)) (.inl rfl) (fun _=>rfl)) ?_;iterate 5 refine rC ?_
 refine zW<|zD ?_;refine zJ<|kS<|sR ?_;iterate 2 refine bt (gF) rfl ?_
 refine rQ iS ?_;refine rN ?_;refine rW<|nR ?_;refine rC ?_;refine rQ (dI aa rfl rfl) ?_;refine bF rfl (dz (s:=1) (enc:=x7) (N:=l.length) aa false rfl rfl rfl rfl rfl rfl rfl hal rfl) rfl rfl ?_;refine rC<|nR ?_;refine rC<|zW ?_;refine rC ?_;refine rQ iE ?_;refine rC<|zP ?_
 refine wc_inv (fun q:tn=>⟨[(34,.int .i64 q.k),(33,.int .i64 order.length),(32,.d (ov order)),(7,.d (eU l)),(1,.int .i64 b),(9,.ptr 64 []),(10,.own 65 0 l.length 1 none),(11,.own 68 0 q.ah.length 41 none)],[(64,some (gm 66 67)),(65,some (uK q.tk)),(66,some (eX q.a)),(67,some (eX q.d)),(68,some (di q.ah))],72,Try.f18.ntmps,64⟩) (tn.Ok b l order) (fun q=>order.length-q.k) ⟨0,List.replicate l.length false,[],[],[]⟩ [(64,some 176),(65,some 208),(66,some 152),(67,some 160),(68,none)] ⟨Nat.zero_le _,by simp,Nat.zero_le _,by simp,by simp,rfl⟩
  (lg ze ⟨⟨rfl,rfl,_,rfl,yh⟩,zR,⟨rfl,rfl,_,rfl,vJ⟩,⟨rfl,rfl,_,rfl,vJ⟩,⟨rfl,rfl,rfl⟩,trivial⟩) ?_
 rintro⟨k,tk,ah,a,d⟩ ⟨hk,htk,hah,hna,hnd,hres⟩
 simp only at hk htk hah hna hnd hres
 refine cf ?_
 by_cases hlt:k<order.length
 ·have d1:decide ((k:Int)<(order.length:Int))=true:=dT (by omega)
  obtain⟨i,hi⟩:∃i,order[k]?=some i:=⟨_,List.getElem?_eq_getElem hlt⟩
  have hi2:order[((k:Int)).toNat]?=some i:=by rw[Int.toNat_natCast]; exact hi
  rw[uD hi,accL]at hres
  have bad:∀ {e:Int} {x:List Bool},e≠0→(e,x)=accL b l order (List.replicate l.length false) [] [] []→accS b l order=e:=fun he h=>by
   rw[accS,←h,if_neg he]
  by_cases c1:i<0
  ·have e1:decide (i<0)=true:=dT c1
   rw[if_pos c1]at hres
   rw[bad (by decide) hres]
   refine sR<|rC<|nQ ?_;refine wT<|zQ<|zS ?_;refine rQ (aC aa rfl rfl rfl rfl rfl (by omega) hi2) ?_;refine rQ iL ?_;refine rC<|zW ?_;refine zU ?_
   iterate 4 refine rS ?_
   refine rQ iT ?_;refine rC ?_;iterate 4 refine rT ?_
   refine rQ iU ?_;refine rC ?_;iterate 7 refine rT ?_
   refine rQ iU ?_;refine zO<|sR ?_;refine rC<|zT<|bQ<|zB<|dR<|zB ?_
   exact⟨trivial,[],lf⟩
  have e1:decide (i<0)=false:=dF c1
  rw[if_neg c1]at hres
  cases hl:l[i.toNat]? with
  | none =>
   have hge:=List.getElem?_eq_none_iff.1 hl
   have e2:decide ((l.length:Int)≤i)=true:=dT (by omega)
   rw[hl]at hres
   rw[bad (by decide) hres]
   refine sR<|rC<|nQ ?_;refine wT<|zQ<|zS ?_;refine rQ (aC aa rfl rfl rfl rfl rfl (by omega) hi2) ?_;refine rQ iL ?_;refine rC<|zW ?_;refine zU ?_;refine rO ?_;refine rC ?_;refine rO ?_;refine rC ?_;refine rO ?_;refine rQ (dI aa rfl rfl) ?_;refine rO ?_;refine rC ?_;refine rQ iF ?_;refine rC ?_;iterate 4 refine rS ?_
   refine rQ iT ?_;refine rC ?_;iterate 7 refine rT ?_
   refine rQ iU ?_;refine zO<|sR ?_;refine rC<|zT<|bQ<|zB<|dR<|zB ?_
   exact⟨trivial,[],lf⟩
  | some o =>
   have hil:=(List.getElem?_eq_some_iff.1 hl).1
   have e2:decide ((l.length:Int)≤i)=false:=dF (by omega)
   rw[hl]at hres
   simp only at hres
   obtain⟨t,ht⟩:∃t,tk[i.toNat]?=some t:=⟨_,List.getElem?_eq_getElem (by omega)⟩
   cases t with
   | true =>
    rw[ht,if_pos rfl]at hres
    rw[bad (by decide) hres]
    refine sR<|rC<|nQ ?_;refine wT<|zQ<|zS ?_;refine rQ (aC aa rfl rfl rfl rfl rfl (by omega) hi2) ?_;refine rQ iL ?_;refine rC<|zW ?_;refine zU ?_;refine rO ?_;refine rC ?_;refine rO ?_;refine rC ?_;refine rO ?_;refine rQ (dI aa rfl rfl) ?_;refine rO ?_;refine rC ?_;refine rQ iF ?_;refine rC ?_;refine rO ?_;refine rC ?_;refine rO ?_;refine rC ?_;refine rO ?_;refine rQ (aP aa rfl rfl rfl rfl rfl (by omega) (by omega)) ?_;refine rO ?_;refine rQ (bf aa rfl rfl ⟨rfl,_,ht,_,rfl,rfl⟩ rfl) ?_;refine rQ iF ?_;refine rC ?_;iterate 7 refine rT ?_
    refine rQ iU ?_;refine zO<|sR ?_;refine rC<|zT<|bQ<|zB<|dR<|zB ?_
    exact⟨trivial,[],lf⟩
   | false =>
    rw[ht,if_neg (by decide)]at hres
    have hmy:=rR o b
    cases hm:mayB o b with
    | false =>
     rw[hm,if_pos rfl]at hres
     rw[hm]at hmy
     rw[bad (by decide) hres]
     refine sR<|rC<|nQ ?_;refine wT<|zQ<|zS ?_;refine rQ (aC aa rfl rfl rfl rfl rfl (by omega) hi2) ?_;refine rQ iL ?_;refine rC<|zW ?_;refine zU ?_;refine rO ?_;refine rC ?_;refine rO ?_;refine rC ?_;refine rO ?_;refine rQ (dI aa rfl rfl) ?_;refine rO ?_;refine rC ?_;refine rQ iF ?_;refine rC ?_;refine rO ?_;refine rC ?_;refine rO ?_;refine rC ?_;refine rO ?_;refine rQ (aP aa rfl rfl rfl rfl rfl (by omega) (by omega)) ?_;refine rO ?_;refine rQ (bf aa rfl rfl ⟨rfl,_,ht,_,rfl,rfl⟩ rfl) ?_;refine rQ iF ?_;refine rC ?_;refine rP ?_;refine rC ?_;refine rP ?_;refine rC ?_;refine rP ?_;refine rQ (a9 aa rfl rfl rfl rfl rfl (by omega) hl) ?_;refine rP ?_;refine rQ iL ?_;refine rP ?_;refine rC ?_;refine rP ?_;refine rQ (aA hmy rfl rfl (ak (ak ai)) (.inl rfl) (fun _=>rfl)) ?_;refine rP ?_;refine rC ?_;refine rQ iG ?_;refine zO<|sR ?_;refine rC<|zT<|bQ<|zB<|dR<|zB ?_
     exact⟨trivial,[],lf⟩
    | true =>
     rw[hm,if_neg (by decide)]at hres
     rw[hm]at hmy
     have hab:=wJ o ah (by omega)
     cases hany:ah.any (befB o) with
     | true =>
      rw[hany]at hab
      rw[hany,if_pos rfl]at hres
      rw[bad (by decide) hres]
      refine sR<|rC<|nQ ?_;refine wT<|zQ<|zS ?_;refine rQ (aC aa rfl rfl rfl rfl rfl (by omega) hi2) ?_;refine rQ iL ?_;refine rC<|zW ?_;refine zU ?_;refine rO ?_;refine rC ?_;refine rO ?_;refine rC ?_;refine rO ?_;refine rQ (dI aa rfl rfl) ?_;refine rO ?_;refine rC ?_;refine rQ iF ?_;refine rC ?_;refine rO ?_;refine rC ?_;refine rO ?_;refine rC ?_;refine rO ?_;refine rQ (aP aa rfl rfl rfl rfl rfl (by omega) (by omega)) ?_;refine rO ?_;refine rQ (bf aa rfl rfl ⟨rfl,_,ht,_,rfl,rfl⟩ rfl) ?_;refine rQ iF ?_;refine rC ?_;refine rP ?_;refine rC ?_;refine rP ?_;refine rC ?_;refine rP ?_;refine rQ (a9 aa rfl rfl rfl rfl rfl (by omega) hl) ?_;refine rP ?_;refine rQ iL ?_;refine rP ?_;refine rC ?_;refine rP ?_;refine rQ (aA hmy rfl rfl (ak (ak ai)) (.inl rfl) (fun _=>rfl)) ?_;refine rP ?_;refine rC ?_;refine rQ iG ?_;refine zJ<|kS<|sR ?_;refine zD ?_;refine rQ (a9 aa rfl rfl rfl rfl rfl (by omega) hl) ?_;refine rQ iL ?_;refine rN ?_;refine rW<|zW ?_;refine zD ?_;refine bF rfl (aQ [(0,some 320),(1,some 68)] hab rfl rfl rfl (dh rfl rfl (cG rfl rfl ai)) ⟨zH,zH,trivial⟩ rfl rfl (.inl rfl) rfl rfl) rfl rfl ?_;refine zO<|sR ?_;refine rC<|zT<|bQ<|zB<|dR<|yb<|bQ ?_
      exact⟨trivial,[],lf⟩
     | false =>
      rw[hany]at hab
      rw[hany,if_neg (by decide)]at hres
      refine sR<|rC<|nQ ?_;refine wT<|zQ<|zS ?_;refine rQ (aC aa rfl rfl rfl rfl rfl (by omega) hi2) ?_;refine rQ iL ?_;refine rC<|zW ?_;refine zU ?_;refine rO ?_;refine rC ?_;refine rO ?_;refine rC ?_;refine rO ?_;refine rQ (dI aa rfl rfl) ?_;refine rO ?_;refine rC ?_;refine rQ iF ?_;refine rC ?_;refine rO ?_;refine rC ?_;refine rO ?_;refine rC ?_;refine rO ?_;refine rQ (aP aa rfl rfl rfl rfl rfl (by omega) (by omega)) ?_;refine rO ?_;refine rQ (bf aa rfl rfl ⟨rfl,_,ht,_,rfl,rfl⟩ rfl) ?_;refine rQ iF ?_;refine rC ?_;refine rP ?_;refine rC ?_;refine rP ?_;refine rC ?_;refine rP ?_;refine rQ (a9 aa rfl rfl rfl rfl rfl (by omega) hl) ?_;refine rP ?_;refine rQ iL ?_;refine rP ?_;refine rC ?_;refine rP ?_;refine rQ (aA hmy rfl rfl (ak (ak ai)) (.inl rfl) (fun _=>rfl)) ?_;refine rP ?_;refine rC ?_;refine rQ iG ?_;refine zJ<|kS<|sR ?_;refine zD ?_;refine rQ (a9 aa rfl rfl rfl rfl rfl (by omega) hl) ?_;refine rQ iL ?_;refine rN ?_;refine rW<|zW ?_;refine zD ?_;refine bF rfl (aQ [(0,some 320),(1,some 68)] hab rfl rfl rfl (dh rfl rfl (cG rfl rfl ai)) ⟨zH,zH,trivial⟩ rfl rfl (.inl rfl) rfl rfl) rfl rfl ?_
      refine zJ<|kS ?_;refine yg (fun a2:VMap=>⟨[(34,.int .i64 k),(33,.int .i64 order.length),(32,.d (ov order)),(7,.d (eU l)),(1,.int .i64 b),(9,.ptr 64 []),(10,.own 65 0 l.length 1 none),(11,.own 68 0 ah.length 41 none),(13,.int .i64 i),(14,.ptr 69 [])],[(64,some (gm 66 67)),(65,some (uK tk)),(66,some (eX a2)),(67,some (eX d)),(68,some (di ah)),(69,some (sO o))],72,Try.f18.ntmps,64⟩) (fun a2=>a2=(if jf ah o=true then d else a)) ?_ ?_
      ·by_cases hah0:ah=[]
       ·subst hah0
        have f1:decide ((0:Int)<(([]:List HOp).length:Int))=false:=rfl
        have f2:decide ((([]:List HOp).length:Int)=0)=true:=rfl
        cases hlt2:decide (0<o.era) with
        | false =>
         refine aZ<|aw (by kernel_rfl) ?_;refine dC [11] [] ?_;refine dQ [68] [68] (bz aa rfl rfl) ?_;refine dC [69] [] ?_;refine dC [70] [] ?_
         iterate 2 refine ae [71,11] rfl rfl rfl rfl ?_
         refine ae [71,73] rfl rfl rfl rfl ?_;refine ae [71,74] rfl rfl rfl rfl ?_;refine ae [71,72,75] rfl rfl rfl rfl ?_;refine ae [71,76] rfl rfl rfl rfl ?_;refine ae [71,77] rfl rfl rfl rfl ?_;refine ae [71,14] rfl rfl rfl rfl ?_;refine ae [71,79] rfl rfl rfl rfl ?_;refine ae [71,78,80] rfl rfl rfl rfl ?_;refine dQ [71,81] [] iG ?_;refine dC [82] [] ?_;refine ab [83,11] [] rfl rfl rfl rfl (ay aa (fun K hk=>hk)) ?_;refine ab [83,84] [68] rfl rfl rfl rfl (bz aa rfl rfl) ?_;refine ab [83,85] [] rfl rfl rfl rfl (ay aa (fun K hk=>hk)) ?_;refine ab [83,86] [] rfl rfl rfl rfl (ay aa (fun K hk=>hk)) ?_;refine ab [87,14] [] rfl rfl rfl rfl (ay aa (fun K hk=>hk)) ?_;refine ab [87,88] [320] rfl rfl rfl rfl (aJ aa rfl rfl ⟨_,rfl,rfl⟩ rfl) ?_;refine ab [87,89] [] rfl rfl rfl rfl (ay aa (fun K hk=>hk)) ?_;refine ab [83,87,90] [] rfl rfl rfl rfl (mE aa rfl rfl rfl) ?_;refine dQ [83,91] [] iG ?_;refine am (by kernel_rfl)<|aL ?_;refine wF<|bg ?_
         exact mM a [(64,some _),(65,some 65),(66,some 66),(67,some 67),(68,some 68),(69,some 320)] (by rw[show jf [] o=false from hlt2]; rfl) (lg zc ⟨zR,zR,zR,zR,zR,zR,trivial⟩)
        | true =>
         refine aZ<|aw (by kernel_rfl) ?_;refine dC [11] [] ?_;refine dQ [68] [68] (bz aa rfl rfl) ?_;refine dC [69] [] ?_;refine dC [70] [] ?_
         iterate 2 refine ae [71,11] rfl rfl rfl rfl ?_
         refine ae [71,73] rfl rfl rfl rfl ?_;refine ae [71,74] rfl rfl rfl rfl ?_;refine ae [71,72,75] rfl rfl rfl rfl ?_;refine ae [71,76] rfl rfl rfl rfl ?_;refine ae [71,77] rfl rfl rfl rfl ?_;refine ae [71,14] rfl rfl rfl rfl ?_;refine ae [71,79] rfl rfl rfl rfl ?_;refine ae [71,78,80] rfl rfl rfl rfl ?_;refine dQ [71,81] [] iG ?_;refine dC [82] [] ?_;refine ab [83,11] [] rfl rfl rfl rfl (ay aa (fun K hk=>hk)) ?_;refine ab [83,84] [68] rfl rfl rfl rfl (bz aa rfl rfl) ?_;refine ab [83,85] [] rfl rfl rfl rfl (ay aa (fun K hk=>hk)) ?_;refine ab [83,86] [] rfl rfl rfl rfl (ay aa (fun K hk=>hk)) ?_;refine ab [87,14] [] rfl rfl rfl rfl (ay aa (fun K hk=>hk)) ?_;refine ab [87,88] [320] rfl rfl rfl rfl (aJ aa rfl rfl ⟨_,rfl,rfl⟩ rfl) ?_;refine ab [87,89] [] rfl rfl rfl rfl (ay aa (fun K hk=>hk)) ?_;refine ab [83,87,90] [] rfl rfl rfl rfl (mE aa rfl rfl rfl) ?_;refine dQ [83,91] [] iG ?_;refine am (by kernel_rfl)<|aL ?_;refine wT<|ao ?_;refine zD ?_;refine rQ iM ?_;refine bF rfl (aQ [(0,some 64),(1,some 66),(2,some 67)] (oz a d hnd) rfl rfl rfl (aV rfl rfl (aV rfl rfl (pB rfl rfl ai))) ⟨zH,zH,zH,trivial⟩ rfl rfl (.inl rfl) rfl rfl) rfl rfl<|aE ?_
         exact mM d [(64,some _),(65,some 65),(66,some _),(67,some 67),(68,some 68),(69,some 320)] (by rw[show jf [] o=true from hlt2]; rfl) (lg zc ⟨zR,zR,zR,zR,zR,zR,trivial⟩)
       ·have hpos:0<ah.length:=List.length_pos_iff.2 hah0
        have f1:decide ((0:Int)<(ah.length:Int))=true:=dT (by omega)
        have f2:decide ((ah.length:Int)=0)=false:=dF (by omega)
        have hw75:IntKind.i64.wrap ((ah.length:Int)-1)=(ah.length:Int)-1:=bp (by omega) (by omega)
        have hx0:(0:Int)≤(ah.length:Int)-1:=by omega
        have hx1:(ah.length:Int)-1<(ah.length:Int):=by omega
        obtain⟨y,hy⟩:∃y,ah[((ah.length:Int)-1).toNat]?=some y:=⟨_,List.getElem?_eq_getElem (by omega)⟩
        have hyl:ah.getLast?=some y:=by rw[List.getLast?_eq_getElem?,←hy]; congr 1; omega
        cases hlt2:decide (y.era<o.era) with
        | false =>
         refine aZ<|aw (by kernel_rfl) ?_;refine dC [11] [] ?_;refine dQ [68] [68] (bz aa rfl rfl) ?_;refine dC [69] [] ?_;refine dC [70] [] ?_
         iterate 2 refine ab [71,11] [] rfl rfl (by assumption) rfl (ay aa (fun K hk=>hk)) ?_
         refine ab [71,73] [68] rfl rfl (by assumption) rfl (bz aa rfl rfl) ?_;refine ab [71,74] [] rfl rfl (by assumption) rfl (ey (m:=(ah.length:Int)-1) aa rfl rfl hw75) ?_;refine ab [71,72,75] [] rfl rfl (by assumption) rfl (aP aa rfl rfl rfl rfl rfl hx0 hx1) ?_;refine ab [71,76] [] rfl rfl (by assumption) rfl (ay aa (fun K hk=>hk)) ?_;refine ab [71,77] [68] rfl rfl (by assumption) rfl (bf aa rfl rfl ⟨rfl,y,hy,_,rfl,rfl⟩ rfl) ?_;refine ab [71,14] [] rfl rfl (by assumption) rfl (ay aa (fun K hk=>hk)) ?_;refine ab [71,79] [320] rfl rfl (by assumption) rfl (aJ aa rfl rfl ⟨_,rfl,rfl⟩ rfl) ?_;refine ab [71,78,80] [] rfl rfl (by assumption) rfl (ay aa (fun K hk=>hk)) ?_;refine dQ [71,81] [] iT ?_;refine dC [82] [] ?_;refine ab [83,11] [] rfl rfl (by assumption) rfl (ay aa (fun K hk=>hk)) ?_;refine ab [83,84] [68] rfl rfl (by assumption) rfl (bz aa rfl rfl) ?_;refine ab [83,85] [] rfl rfl (by assumption) rfl (ay aa (fun K hk=>hk)) ?_;refine ab [83,86] [] rfl rfl (by assumption) rfl (ay aa (fun K hk=>hk)) ?_;refine ae [87,14] rfl rfl (by assumption) rfl ?_;refine ae [87,88] rfl rfl (by assumption) rfl ?_;refine ae [87,89] rfl rfl (by assumption) rfl ?_;refine ab [83,87,90] [] rfl rfl (by assumption) rfl (pa aa rfl (by assumption) rfl) ?_;refine dQ [83,91] [] iF ?_;refine am (by kernel_rfl)<|aL ?_;refine wG<|bg ?_
         exact mM a [(64,some _),(65,some 65),(66,some 66),(67,some 67),(68,some 68),(69,some 320)] (by rw[show jf ah o=false by rw[jf,hyl]; exact hlt2]; rfl) (lg zc ⟨zR,zR,zR,zR,zR,zR,trivial⟩)
        | true =>
         refine aZ<|aw (by kernel_rfl) ?_;refine dC [11] [] ?_;refine dQ [68] [68] (bz aa rfl rfl) ?_;refine dC [69] [] ?_;refine dC [70] [] ?_
         iterate 2 refine ab [71,11] [] rfl rfl (by assumption) rfl (ay aa (fun K hk=>hk)) ?_
         refine ab [71,73] [68] rfl rfl (by assumption) rfl (bz aa rfl rfl) ?_;refine ab [71,74] [] rfl rfl (by assumption) rfl (ey (m:=(ah.length:Int)-1) aa rfl rfl hw75) ?_;refine ab [71,72,75] [] rfl rfl (by assumption) rfl (aP aa rfl rfl rfl rfl rfl hx0 hx1) ?_;refine ab [71,76] [] rfl rfl (by assumption) rfl (ay aa (fun K hk=>hk)) ?_;refine ab [71,77] [68] rfl rfl (by assumption) rfl (bf aa rfl rfl ⟨rfl,y,hy,_,rfl,rfl⟩ rfl) ?_;refine ab [71,14] [] rfl rfl (by assumption) rfl (ay aa (fun K hk=>hk)) ?_;refine ab [71,79] [320] rfl rfl (by assumption) rfl (aJ aa rfl rfl ⟨_,rfl,rfl⟩ rfl) ?_;refine ab [71,78,80] [] rfl rfl (by assumption) rfl (ay aa (fun K hk=>hk)) ?_;refine dQ [71,81] [] iT ?_;refine dC [82] [] ?_;refine ae [83,11] rfl rfl (by assumption) rfl ?_;refine ae [83,84] rfl rfl (by assumption) rfl ?_;refine ae [83,85] rfl rfl (by assumption) rfl ?_;refine ae [83,86] rfl rfl (by assumption) rfl ?_;refine kf [87,14] rfl rfl rfl ?_;refine kf [87,88] rfl rfl rfl ?_;refine kf [87,89] rfl rfl rfl ?_;refine ae [83,87,90] rfl rfl (by assumption) rfl ?_;refine dQ [83,91] [] iT ?_;refine am (by kernel_rfl)<|aL ?_;refine wV<|ao ?_;refine zD ?_;refine rQ iM ?_;refine bF rfl (aQ [(0,some 64),(1,some 66),(2,some 67)] (oz a d hnd) rfl rfl rfl (aV rfl rfl (aV rfl rfl (pB rfl rfl ai))) ⟨zH,zH,zH,trivial⟩ rfl rfl (.inl rfl) rfl rfl) rfl rfl<|aE ?_
         exact mM d [(64,some _),(65,some 65),(66,some _),(67,some 67),(68,some 68),(69,some 320)] (by rw[show jf ah o=true by rw[jf,hyl]; exact hlt2]; rfl) (lg zc ⟨zR,zR,zR,zR,zR,zR,trivial⟩)
      ·rintro a2 ha2
       rw[←ha2]at hres
       have hna2:(cU a2).Nodup:=by rw[ha2]; split <;> assumption
       have hahl:ah.length+1≤1048576:=by omega
       have hset:(tk.set i.toNat true).length=l.length:=by rw[List.length_set]; exact htk
       refine cf ?_
       rcases vL hm with hkd | ⟨hkd,hdt⟩ | hkd
       ·have hhp:=vX a2 d o hkd hna2
        obtain⟨v,hv⟩:∃v,(!bL o||decide (getV a2 o.op.index=o.value))=v:=⟨_,rfl⟩
        rw[hv]at hhp
        rw[show hapV a2 d o=(v,a2,d) by rw[hapV,if_pos hkd,hv]]at hres
        cases v with
        | false =>
         rw[if_pos rfl]at hres
         rw[bad (by decide) hres]
         refine qR<|rQ iM ?_;refine bF rfl (aQ [(0,some 64),(1,some 66),(2,some 67)] hhp rfl rfl rfl (aV rfl rfl (ak ai)) ⟨zH,zH,zH,trivial⟩ rfl rfl (.inl rfl) rfl rfl) rfl rfl ?_;refine rC ?_;refine zO<|sR ?_;refine rC<|zT<|bQ<|zB<|dR<|yb<|bQ ?_
         exact⟨trivial,[],lf⟩
        | true =>
         rw[if_neg (by simp)]at hres
         refine qR<|rQ iM ?_;refine bF rfl (aQ [(0,some 64),(1,some 66),(2,some 67)] hhp rfl rfl rfl (aV rfl rfl (ak ai)) ⟨zH,zH,zH,trivial⟩ rfl rfl (.inl rfl) rfl rfl) rfl rfl ?_;refine rC ?_;refine zJ<|kS<|sR ?_;refine zD ?_;refine rQ (aP aa rfl rfl rfl rfl rfl (by omega) (by omega)) ?_;refine bO (aK aa rfl rfl rfl ⟨rfl,false,true,ht,⟨rfl,rfl,rfl⟩,rfl⟩ rfl)<|nS<|ao ?_;refine rC ?_;refine rQ iM ?_;refine bt (aH (s:=41) aa rfl rfl rfl rfl rfl rfl rfl rfl) rfl ?_;refine aS (bG (xs:=ah) (s:=41) (enc:=bh) aa o rfl rfl rfl rfl rfl rfl rfl rfl rfl hahl rfl) rfl ?_;refine rC<|aE<|zC<|ao ?_;refine rQ iD ?_;refine rC<|aE ?_
         exact aU ⟨k+1,tk.set i.toNat true,ah++[o],a2,d⟩ [(64,some 64),(65,some 65),(66,some 66),(67,some 67),(68,some _)] ⟨hlt,hset,by simp only[List.length_append,List.length_cons,List.length_nil]; omega,hna2,hnd,hres⟩ (by simp only; omega) (lg ⟨zE,rfl,zE,rfl,zE,rfl,zE,rfl,zE,rfl,zE,rfl,zE,rfl,⟨_,rfl,AVLe.of_eq (by simp only[List.length_append]; rfl)⟩,rfl,trivial⟩ ⟨zR,zR,zR,zR,zR,trivial⟩)
       ·have hhp:=ua a2 d o hkd hdt hna2
        rw[show hapV a2 d o=(true,putV a2 o.op.index o.op.data,d) by rw[hapV,if_neg (by omega),if_pos hkd],if_neg (by simp)]at hres
        refine qR<|rQ iM ?_;refine bF rfl (aQ [(0,some 64),(1,some 66),(2,some 67)] hhp rfl rfl rfl (aV rfl rfl (ak ai)) ⟨zH,zH,zH,trivial⟩ rfl rfl (.inl rfl) rfl rfl) rfl rfl ?_;refine rC ?_;refine zJ<|kS<|sR ?_;refine zD ?_;refine rQ (aP aa rfl rfl rfl rfl rfl (by omega) (by omega)) ?_;refine bO (aK aa rfl rfl rfl ⟨rfl,false,true,ht,⟨rfl,rfl,rfl⟩,rfl⟩ rfl)<|nS<|ao ?_;refine rC ?_;refine rQ iM ?_;refine bt (aH (s:=41) aa rfl rfl rfl rfl rfl rfl rfl rfl) rfl ?_;refine aS (bG (xs:=ah) (s:=41) (enc:=bh) aa o rfl rfl rfl rfl rfl rfl rfl rfl rfl hahl rfl) rfl ?_;refine rC<|aE<|zC<|ao ?_;refine rQ iD ?_;refine rC<|aE ?_
        exact aU ⟨k+1,tk.set i.toNat true,ah++[o],putV a2 o.op.index o.op.data,d⟩ [(64,some 64),(65,some 65),(66,some 66),(67,some 67),(68,some _)] ⟨hlt,hset,by simp only[List.length_append,List.length_cons,List.length_nil]; omega,tU _ _ _ hna2,hnd,hres⟩ (by simp only; omega) (lg ⟨zE,rfl,zE,rfl,zE,rfl,zE,rfl,zE,rfl,zE,rfl,zE,rfl,⟨_,rfl,AVLe.of_eq (by simp only[List.length_append]; rfl)⟩,rfl,trivial⟩ ⟨zR,zR,zR,zR,zR,trivial⟩)
       ·have hhp:=ub a2 d o hkd hna2
        rw[show hapV a2 d o=(true,a2,a2) by rw[hapV,if_neg (by omega),if_neg (by omega)],if_neg (by simp)]at hres
        refine qR<|rQ iM ?_;refine bF rfl (aQ [(0,some 64),(1,some 66),(2,some 67)] hhp rfl rfl rfl (aV rfl rfl (ak ai)) ⟨zH,zH,zH,trivial⟩ rfl rfl (.inl rfl) rfl rfl) rfl rfl ?_;refine rC ?_;refine zJ<|kS<|sR ?_;refine zD ?_;refine rQ (aP aa rfl rfl rfl rfl rfl (by omega) (by omega)) ?_;refine bO (aK aa rfl rfl rfl ⟨rfl,false,true,ht,⟨rfl,rfl,rfl⟩,rfl⟩ rfl)<|nS<|ao ?_;refine rC ?_;refine rQ iM ?_;refine bt (aH (s:=41) aa rfl rfl rfl rfl rfl rfl rfl rfl) rfl ?_;refine aS (bG (xs:=ah) (s:=41) (enc:=bh) aa o rfl rfl rfl rfl rfl rfl rfl rfl rfl hahl rfl) rfl ?_;refine rC<|aE<|zC<|ao ?_;refine rQ iD ?_;refine rC<|aE ?_
        exact aU ⟨k+1,tk.set i.toNat true,ah++[o],a2,a2⟩ [(64,some 64),(65,some 65),(66,some 66),(67,some _),(68,some _)] ⟨hlt,hset,by simp only[List.length_append,List.length_cons,List.length_nil]; omega,hna2,hna2,hres⟩ (by simp only; omega) (lg ⟨zE,rfl,zE,rfl,zE,rfl,zE,rfl,zE,rfl,zE,rfl,zE,rfl,⟨_,rfl,AVLe.of_eq (by simp only[List.length_append]; rfl)⟩,rfl,trivial⟩ ⟨zR,zR,zR,zR,zR,trivial⟩)
 ·have d1:decide ((k:Int)<(order.length:Int))=false:=dF (by omega)
  rw[show order.drop k=[] from List.drop_eq_nil_of_le (by omega),accL]at hres
  have hS:accS b l order=if misB l tk=true then 15 else 0:=by rw[accS,←hres,if_pos rfl]
  rw[hS]
  refine sR<|rC<|nQ ?_;refine wF<|zX<|qR ?_;refine rC ?_;refine rQ (dI aa rfl rfl) ?_;refine rC<|zP ?_
  refine wc_inv (fun i:Nat=>⟨[(110,.int .i64 i),(109,.int .i64 l.length),(108,.d (eU l)),(10,.own 65 0 l.length 1 none)],[(65,some (uK tk))],72,Try.f18.ntmps,64⟩) (fun i=>i≤l.length∧misB (l.drop i) (tk.drop i)=misB l tk) (fun i=>l.length-i) 0 [(65,some 65)] ⟨Nat.zero_le _,rfl⟩
   (lg zi ⟨zR,trivial⟩) ?_
  rintro i ⟨hi,hmis⟩
  refine cf ?_
  by_cases hil:i<l.length
  ·have d2:decide ((i:Int)<(l.length:Int))=true:=dT (by omega)
   obtain⟨o,hl⟩:∃o,l[((i:Int)).toNat]?=some o:=⟨_,List.getElem?_eq_getElem (by rw[Int.toNat_natCast]; exact hil)⟩
   obtain⟨t,ht⟩:∃t,tk[((i:Int)).toNat]?=some t:=⟨_,List.getElem?_eq_getElem (by rw[Int.toNat_natCast]; omega)⟩
   have hstep:misB (l.drop i) (tk.drop i)=((bL o && !t)||misB (l.drop (i+1)) (tk.drop (i+1))):=by
    rw[Int.toNat_natCast]at hl ht
    rw[List.drop_eq_getElem_cons hil,List.drop_eq_getElem_cons (show i<tk.length by omega),(List.getElem?_eq_some_iff.1 hl).2,(List.getElem?_eq_some_iff.1 ht).2,misB]
   rw[hstep]at hmis
   have hmu:=fT o
   cases hmo:bL o with
   | false =>
    rw[hmo]at hmu hmis
    simp only[Bool.false_and,Bool.false_or]at hmis
    refine sR<|rC<|nQ ?_;refine wT<|zQ<|zS ?_;refine rC ?_;refine rQ (a9 aa rfl rfl rfl rfl rfl (by omega) hl) ?_;refine rQ iL ?_;refine rN ?_;refine rC ?_;refine rW<|nR ?_;refine rQ iM ?_;refine rQ (aA hmu rfl rfl (ak ai) (.inl rfl) (fun _=>rfl)) ?_;refine rC ?_
    iterate 5 refine rT ?_
    refine rQ iG ?_;refine zJ<|bg<|zC<|ao ?_;refine rQ iD ?_;refine rC<|aE ?_
    exact aU (i+1) [(65,some 65)] ⟨hil,hmis⟩ (by omega) (lg zi ⟨zR,trivial⟩)
   | true =>
    rw[hmo]at hmu hmis
    cases t with
    | true =>
     simp only[Bool.not_true,Bool.and_false,Bool.false_or]at hmis
     refine sR<|rC<|nQ ?_;refine wT<|zQ<|zS ?_;refine rC ?_;refine rQ (a9 aa rfl rfl rfl rfl rfl (by omega) hl) ?_;refine rQ iL ?_;refine rN ?_;refine rC ?_;refine rW<|nR ?_;refine rQ iM ?_;refine rQ (aA hmu rfl rfl (ak ai) (.inl rfl) (fun _=>rfl)) ?_;refine rC ?_;refine rP ?_;refine rC ?_;refine rP ?_;refine rC ?_;refine rP ?_;refine rQ (aP aa rfl rfl rfl rfl rfl (by omega) (by omega)) ?_;refine rP ?_;refine rQ (bf aa rfl rfl ⟨rfl,_,ht,_,rfl,rfl⟩ rfl) ?_;refine rP ?_;refine rC ?_;refine rQ iU ?_;refine zJ<|bg<|zC<|ao ?_;refine rQ iD ?_;refine rC<|aE ?_
     exact aU (i+1) [(65,some 65)] ⟨hil,hmis⟩ (by omega) (lg zi ⟨zR,trivial⟩)
    | false =>
     simp only[Bool.not_false,Bool.and_true,Bool.true_or]at hmis
     rw[←hmis,if_pos rfl]
     refine sR<|rC<|nQ ?_;refine wT<|zQ<|zS ?_;refine rC ?_;refine rQ (a9 aa rfl rfl rfl rfl rfl (by omega) hl) ?_;refine rQ iL ?_;refine rN ?_;refine rC ?_;refine rW<|nR ?_;refine rQ iM ?_;refine rQ (aA hmu rfl rfl (ak ai) (.inl rfl) (fun _=>rfl)) ?_;refine rC ?_;refine rP ?_;refine rC ?_;refine rP ?_;refine rC ?_;refine rP ?_;refine rQ (aP aa rfl rfl rfl rfl rfl (by omega) (by omega)) ?_;refine rP ?_;refine rQ (bf aa rfl rfl ⟨rfl,_,ht,_,rfl,rfl⟩ rfl) ?_;refine rP ?_;refine rC ?_;refine rQ iU ?_;refine zO<|sR ?_;refine rC<|zT<|zB<|dR<|zB ?_
     exact⟨trivial,[],lf⟩
  ·have d2:decide ((i:Int)<(l.length:Int))=false:=dF (by omega)
   rw[show l.drop i=[] from List.drop_eq_nil_of_le (by omega),vK]at hmis
   rw[←hmis,if_neg (by decide)]
   refine sR<|rC<|nQ ?_;refine wF<|zX<|sR ?_;refine rC<|zT ?_
   exact⟨trivial,[],lf⟩
end Go.Proofs.Ytkehohfgbblokaa
namespace Go.Proofs.Ytkehohfgbblokaa
open Go.Eng Go.Plain
set_option maxHeartbeats 32000000
set_option maxRecDepth 20000
section
variable {κ ν : Type} [DecidableEq κ]
def getA:List (κ×ν)→κ→Option ν
 | [],_=>none
 | (k',v)::l,k=>if k=k' then some v else getA l k
def putA:List (κ×ν)→κ→ν→List (κ×ν)
 | [],k,v=>[(k,v)]
 | (k',v')::l,k,v=>if k=k' then (k',v)::l else (k',v')::putA l k v
theorem cV (encV:ν→D) (k:κ):∀(l:List (κ×ν)) (i:Nat),(cJ k (asC encV l) i=none∧getA l k=none∧∀v,asC encV (putA l k v)=asC encV l++[(k,.d (encV v))]) ∨
  ∃j v,cJ k (asC encV l) i=some (i+j,.d (encV v))∧j<l.length∧getA l k=some v∧∀v',asC encV (putA l k v')=putC (asC encV l) j (.d (encV v'))
 | [],i=>.inl ⟨rfl,rfl,fun _=>rfl⟩
 | (k',v)::l,i=>by
  by_cases h:k=k'
  ·subst h
   exact .inr ⟨0,v,by simp[asC,cJ],by simp,by simp[getA],fun v'=>by simp[putA,asC,putC]⟩
  ·rcases cV encV k l (i+1)with ⟨h1,h2,h4⟩ | ⟨j,v0,h1,h2,h3,h4⟩
   ·refine .inl ⟨?_,?_,fun v'=>?_⟩
    ·simp only[asC,List.map_cons,cJ,if_neg h]; exact h1
    ·simp[getA,if_neg h,h2]
    ·have:=h4 v'
     simp only[asC,putA,if_neg h,List.map_cons,List.cons_append]at this ⊢
     rw[this]
   ·refine .inr ⟨j+1,v0,?_,by simpa using h2,by simp[getA,if_neg h,h3],fun v'=>?_⟩
    ·simp only[asC,List.map_cons,cJ,if_neg h]
     rw[show i+(j+1)=i+1+j by omega]
     exact h1
    ·have:=h4 v'
     simp only[asC,putA,if_neg h,List.map_cons,putC]at this ⊢
     rw[this]
end
end Go.Proofs.Ytkehohfgbblokaa
namespace Go.Proofs.Ytkehohfgbblokaa
open Go.Eng Go.Plain
set_option maxHeartbeats 32000000
set_option maxRecDepth 20000
attribute [local irreducible] WC RegS RegD SeqQ BlkQ ScoQ RegK CutK Sat SatN FnIs LoopQ aj OpIs
abbrev IMap:=List (Int×Int)
abbrev fm (m:IMap):Row :=.mo (mapC i6 (asC i6 m))
def stG:List HOp→IMap→IMap
 | [],m=>m
 | o::l,m=>if o.err=9 then (match getA m o.era with
  | none=>stG l (putA m o.era o.returned)
  | some t=>if o.returned<t then stG l (putA m o.era o.returned) else stG l m) else stG l m
def pC (m:IMap) (o:HOp):Bool:=match getA m o.era with
 | none=>false
 | some t=>decide (t<o.invoked)&&(decide (0≤o.returned)&&(decide (o.err=0)||decide (o.err=8)))
def stV (l:List HOp):Bool := !l.any (pC (stG l []))
theorem Bk (l:List HOp):DLe (eU l) (gu l):=fun w X cs h=>Enc.arx_arr (fun _ _ h=>h) cs h
theorem eO:eJ Try.prog 3 (i6 0):=lV (by kernel_rfl) (by kernel_rfl)
theorem wS (m:IMap) (o:HOp):FnIs Try.prog 60 [.d (bh o),.ptr 0 []] [(0,.box 113 (.mapr 1)),(1,fm m)] (.bool (pC m o)) [(0,.box 113 (.mapr 1)),(1,fm m)]:=by
 refine aG aa Try.func60 rfl rfl rfl ?_
 unfold pC
 rcases cV i6 o.era m 0 with ⟨hf,hg,_⟩ | ⟨j,t,hf,_,hg,_⟩
 ·rw[hg]
  refine sR<|rN ?_;refine rC<|nR ?_;refine rQ iM ?_;refine rC ?_;refine rQ iB ?_;refine rQ (cb (κ:=Int) (enc:=i6) (l:=asC i6 m) keyI Try.underlying113 eO rfl rfl rfl hf) ?_
  iterate 5 refine rC ?_
  refine nR<|zD ?_
  iterate 4 refine rT ?_
  refine rQ iG ?_;refine rC ?_;iterate 3 refine rT ?_
  refine rQ iG ?_;refine rC ?_;iterate 4 refine rT ?_
  iterate 3 refine rU ?_
  refine rT ?_;refine rQ iG ?_;refine rC<|zT ?_
  exact⟨trivial,[],lg zV ⟨zR,zM,trivial⟩⟩
 ·rw[hg]
  rw[Nat.zero_add]at hf
  simp only
  cases h1:decide (t<o.invoked) with
  | false =>
   refine sR<|rN ?_;refine rC<|nR ?_;refine rQ iM ?_;refine rC ?_;refine rQ iB ?_;refine rQ (bM (κ:=Int) (enc:=i6) (l:=asC i6 m) keyI Try.underlying113 rfl rfl rfl hf) ?_
   iterate 5 refine rC ?_
   refine nR<|zD ?_;refine rP ?_;refine rC ?_;refine rP ?_;refine rQ iB ?_;refine rP ?_;refine rC ?_;refine rP ?_;refine rC ?_;refine rQ iU ?_;refine rC ?_;iterate 3 refine rS ?_
   refine rQ iF ?_;refine rC ?_;iterate 4 refine rT ?_
   iterate 3 refine rU ?_
   refine rT ?_;refine rQ iG ?_;refine rC<|zT ?_
   exact⟨trivial,[],lg zV ⟨zR,zM,trivial⟩⟩
  | true =>
   cases h2:decide (0≤o.returned) with
   | false =>
    refine sR<|rN ?_;refine rC<|nR ?_;refine rQ iM ?_;refine rC ?_;refine rQ iB ?_;refine rQ (bM (κ:=Int) (enc:=i6) (l:=asC i6 m) keyI Try.underlying113 rfl rfl rfl hf) ?_
    iterate 5 refine rC ?_
    refine nR<|zD ?_;refine rP ?_;refine rC ?_;refine rP ?_;refine rQ iB ?_;refine rP ?_;refine rC ?_;refine rP ?_;refine rC ?_;refine rQ iU ?_;refine rC ?_;refine rO ?_;refine rC ?_;refine rO ?_;refine rQ iB ?_;refine rO ?_;refine rC ?_;refine rQ iT ?_;refine rC ?_;iterate 4 refine rS ?_
    iterate 3 refine rU ?_
    refine rS ?_;refine rQ iF ?_;refine rC<|zT ?_
    exact⟨trivial,[],lg zV ⟨zR,zM,trivial⟩⟩
   | true =>
    cases h3:decide (o.err=0) with
    | true =>
     refine sR<|rN ?_;refine rC<|nR ?_;refine rQ iM ?_;refine rC ?_;refine rQ iB ?_;refine rQ (bM (κ:=Int) (enc:=i6) (l:=asC i6 m) keyI Try.underlying113 rfl rfl rfl hf) ?_
     iterate 5 refine rC ?_
     refine nR<|zD ?_;refine rP ?_;refine rC ?_;refine rP ?_;refine rQ iB ?_;refine rP ?_;refine rC ?_;refine rP ?_;refine rC ?_;refine rQ iU ?_;refine rC ?_;refine rO ?_;refine rC ?_;refine rO ?_;refine rQ iB ?_;refine rO ?_;refine rC ?_;refine rQ iT ?_;refine rC ?_;refine rO ?_;refine rC ?_;refine rO ?_;refine rQ iB ?_;refine rO ?_;refine rC ?_;refine rO ?_;refine rC ?_;iterate 3 refine rS ?_
     refine rO ?_;iterate 2 refine rQ iT ?_
     refine rC<|zT ?_
     exact⟨trivial,[],lg zV ⟨zR,zM,trivial⟩⟩
    | false =>
     refine sR<|rN ?_;refine rC<|nR ?_;refine rQ iM ?_;refine rC ?_;refine rQ iB ?_;refine rQ (bM (κ:=Int) (enc:=i6) (l:=asC i6 m) keyI Try.underlying113 rfl rfl rfl hf) ?_
     iterate 5 refine rC ?_
     refine nR<|zD ?_;refine rP ?_;refine rC ?_;refine rP ?_;refine rQ iB ?_;refine rP ?_;refine rC ?_;refine rP ?_;refine rC ?_;refine rQ iU ?_;refine rC ?_;refine rO ?_;refine rC ?_;refine rO ?_;refine rQ iB ?_;refine rO ?_;refine rC ?_;refine rQ iT ?_;refine rC ?_;refine rO ?_;refine rC ?_;refine rO ?_;refine rQ iB ?_;refine rO ?_;refine rC ?_;refine rO ?_;refine rC ?_;refine rO ?_;refine rC ?_;refine rO ?_;refine rQ iB ?_;refine rO ?_;refine rC ?_;refine rO ?_;refine rQ iF ?_;refine rQ iT ?_;refine rC<|zT ?_
     exact⟨trivial,[],lg zV ⟨zR,zM,trivial⟩⟩
theorem uR {l:List HOp} {k:Nat} {o:HOp} (h:l[k]?=some o) (m:IMap):stG (l.drop k) m=stG (o::l.drop (k+1)) m:=by
 have hlt:=(List.getElem?_eq_some_iff.1 h).1
 rw[List.drop_eq_getElem_cons hlt,(List.getElem?_eq_some_iff.1 h).2]
theorem tv (h:List HEv) (hh:h.length≤9223372036854775807) (hal0:(rdH h).all.length≤1048576):FnIs Try.prog 27 [.d (encH h)] [] (.tup (.acons (.bool (if (chkH h).2=0 then stV (opsH h) else false)) (.acons (.int .i64 (chkH h).2) .anil))) []:=by
 have hop:=sX h hh hal0
 refine aG aa Try.func27 rfl rfl rfl ?_
 by_cases he:(chkH h).2=0
 case neg =>
  have d0:(!decide ((chkH h).2=0))=true:=by rw[dF he]; rfl
  rw[if_neg he]
  refine sR<|zD<|nR ?_;refine rC ?_;refine rQ (aA hop rfl rfl (ak ai) (.inl rfl) (fun _=>rfl)) ?_;iterate 5 refine rC ?_
  refine zW<|zD ?_;refine zI<|sR ?_;refine zU<|zT<|bQ ?_
  exact⟨trivial,[],lf⟩
 rw[if_pos he]
 have hal:(opsH h).length≤1048576:=by unfold opsH; split <;> first | omega | simp
 rw[he]at hop ⊢
 generalize opsH h=l at *
 refine sR<|zD<|nR ?_;refine rC ?_;refine rQ (aA hop rfl rfl (ak ai) (.inl rfl) (fun _=>rfl)) ?_;iterate 5 refine rC ?_
 refine zW<|zD ?_;refine zJ<|kS<|sR ?_;refine bt (gF) rfl ?_;refine rN ?_;refine rW<|zW ?_;refine rC ?_;refine rQ (dI aa rfl rfl) ?_;refine rC<|zP ?_
 refine wc_inv (fun q:Nat×IMap=>⟨[(22,.int .i64 q.1),(21,.int .i64 l.length),(20,.d (eU l)),(4,.d (eU l)),(6,.ptr 64 [])],[(64,some (.box 113 (.mapr 65))),(65,some (fm q.2))],72,Try.f27.ntmps,64⟩) (fun q=>q.1≤l.length∧stG (l.drop q.1) q.2=stG l []) (fun q=>l.length-q.1) (0,[]) [(64,some _),(65,some _)] ⟨Nat.zero_le _,rfl⟩
  (lg zh ⟨zR,zR,trivial⟩) ?_
 rintro⟨k,m⟩ ⟨hk,hst⟩
 simp only at hk hst
 refine cf ?_
 by_cases hlt:k<l.length
 ·have d1:decide ((k:Int)<(l.length:Int))=true:=dT (by omega)
  obtain⟨o,hl0⟩:∃o,l[k]?=some o:=⟨_,List.getElem?_eq_getElem hlt⟩
  have hl:l[((k:Int)).toNat]?=some o:=by rw[Int.toNat_natCast]; exact hl0
  rw[uR hl0,stG]at hst
  by_cases h9:o.err=9
  ·have d9:(!decide (o.err=9))=false:=by rw[dT h9]; rfl
   rw[if_pos h9]at hst
   rcases cV i6 o.era m 0 with ⟨hf,hg,hp⟩ | ⟨j,t,hf,_,hg,hp⟩
   ·rw[hg]at hst
    refine sR<|rC<|nQ ?_;refine wT<|zQ<|zS ?_;refine rQ (a9 aa rfl rfl rfl rfl rfl (by omega) hl) ?_;refine rQ iL ?_;refine rN ?_;refine rW<|zW ?_;refine rC ?_;refine rQ iB ?_;refine rC ?_;refine zG<|kS<|sR ?_;refine rQ iM ?_;refine rC ?_;refine rQ iB ?_;refine rQ (cb (κ:=Int) (enc:=i6) (l:=asC i6 m) keyI Try.underlying113 eO rfl rfl rfl hf) ?_;iterate 5 refine rC ?_
    refine nR<|zU ?_
    iterate 4 refine rT ?_
    refine rQ iU ?_;refine zO<|ao ?_;refine rQ iM ?_;refine rC ?_;refine rQ iB ?_;refine rC ?_;refine rQ iB ?_;refine bF rfl (bX (κ:=Int) (enc:=i6) (l:=asC i6 m) keyI Try.underlying113 rfl rfl rfl rfl hf) rfl rfl<|aE<|zC<|ao ?_;refine rQ iD ?_;refine rC<|aE ?_
    exact aU (k+1,putA m o.era o.returned) [(64,some 64),(65,some 65)] ⟨hlt,hst⟩ (by simp only; omega) (lg zh ⟨zR,⟨rfl,bn _,_,rfl,aO.of_eq (by show _=Row.mo ((mapC i6 (asC i6 (putA m o.era o.returned))).ren _); rw[ba,hp])⟩,trivial⟩)
   ·rw[hg]at hst
    rw[Nat.zero_add]at hf
    simp only at hst
    by_cases hr:o.returned<t
    ·have dr:decide (o.returned<t)=true:=dT hr
     rw[if_pos hr]at hst
     refine sR<|rC<|nQ ?_;refine wT<|zQ<|zS ?_;refine rQ (a9 aa rfl rfl rfl rfl rfl (by omega) hl) ?_;refine rQ iL ?_;refine rN ?_;refine rW<|zW ?_;refine rC ?_;refine rQ iB ?_;refine rC ?_;refine zG<|kS<|sR ?_;refine rQ iM ?_;refine rC ?_;refine rQ iB ?_;refine rQ (bM (κ:=Int) (enc:=i6) (l:=asC i6 m) keyI Try.underlying113 rfl rfl rfl hf) ?_;iterate 5 refine rC ?_
     refine nR<|zU ?_;refine rP ?_;refine rC ?_;refine rP ?_;refine rQ iB ?_;refine rP ?_;refine rC ?_;refine rP ?_;refine rC ?_;refine rQ iG ?_;refine zI<|ao ?_;refine rQ iM ?_;refine rC ?_;refine rQ iB ?_;refine rC ?_;refine rQ iB ?_;refine bF rfl (fD (κ:=Int) (enc:=i6) (l:=asC i6 m) keyI Try.underlying113 rfl rfl rfl rfl hf) rfl rfl<|aE<|zC<|ao ?_;refine rQ iD ?_;refine rC<|aE ?_
     exact aU (k+1,putA m o.era o.returned) [(64,some 64),(65,some 65)] ⟨hlt,hst⟩ (by simp only; omega) (lg zh ⟨zR,⟨rfl,bn _,_,rfl,aO.of_eq (by show _=Row.mo ((mapC i6 (asC i6 (putA m o.era o.returned))).ren _); rw[ba,hp])⟩,trivial⟩)
    ·have dr:decide (o.returned<t)=false:=dF hr
     rw[if_neg hr]at hst
     refine sR<|rC<|nQ ?_;refine wT<|zQ<|zS ?_;refine rQ (a9 aa rfl rfl rfl rfl rfl (by omega) hl) ?_;refine rQ iL ?_;refine rN ?_;refine rW<|zW ?_;refine rC ?_;refine rQ iB ?_;refine rC ?_;refine zG<|kS<|sR ?_;refine rQ iM ?_;refine rC ?_;refine rQ iB ?_;refine rQ (bM (κ:=Int) (enc:=i6) (l:=asC i6 m) keyI Try.underlying113 rfl rfl rfl hf) ?_;iterate 5 refine rC ?_
     refine nR<|zU ?_;refine rP ?_;refine rC ?_;refine rP ?_;refine rQ iB ?_;refine rP ?_;refine rC ?_;refine rP ?_;refine rC ?_;refine rQ iG ?_;refine zG<|bg<|zC<|ao ?_;refine rQ iD ?_;refine rC<|aE ?_
     exact aU (k+1,m) [(64,some 64),(65,some 65)] ⟨hlt,hst⟩ (by simp only; omega) (lg zh ⟨zR,zM,trivial⟩)
  ·have d9:(!decide (o.err=9))=true:=by rw[dF h9]; rfl
   rw[if_neg h9]at hst
   refine sR<|rC<|nQ ?_;refine wT<|zQ<|zS ?_;refine rQ (a9 aa rfl rfl rfl rfl rfl (by omega) hl) ?_;refine rQ iL ?_;refine rN ?_;refine rW<|zW ?_;refine rC ?_;refine rQ iB ?_;refine rC ?_;refine zI<|b8<|dO<|dW<|aL<|ao ?_;refine rQ iD ?_;refine rC<|aE ?_
   exact aU (k+1,m) [(64,some 64),(65,some 65)] ⟨hlt,hst⟩ (by simp only; omega) (lg zh ⟨zR,zM,trivial⟩)
 ·have d1:decide ((k:Int)<(l.length:Int))=false:=dF (by omega)
  rw[List.drop_eq_nil_of_le (by omega),stG]at hst
  have hcf:=yU l 60 (asC i6 m) (fun n=>bn _) (fun ρ=>ba _) (pC m) (by omega) (wS m)
  rw[stV,←hst]
  refine sR<|rC<|nQ ?_;refine wF<|zX<|sR ?_;refine zD ?_;refine bF rfl (aQ [(0,some 64),(1,some 65)] hcf rfl rfl rfl (yd rfl trivial (Bk l) (cG rfl rfl ai)) ⟨zH,zN,trivial⟩ rfl rfl (.inl rfl) rfl rfl) rfl rfl ?_;refine zU<|zT ?_
  exact⟨trivial,[],lf⟩
abbrev sAV (l:List HOp) (b e:Int) (ops st sp:AV):AV :=.acons (.d (eU l)) (.acons (.int .i64 b) (.acons (.int .i64 e) (.acons (.mapr 1) (.acons (.mapr 2) (.acons ops (.acons (.mapr 4) (.acons (.mapr 5) (.acons (.mapr 6) (.acons (.mapr 7) (.acons (.mapr 8) (.acons st (.acons sp .anil))))))))))))
abbrev sBox (l:List HOp) (b e:Int) (ops st sp:AV):Row :=.box 121 (sAV l b e ops st sp)
abbrev encL (l:List Int):D :=.arr 1 i6 l
abbrev e7 (xs:List (List Int)):Row :=.ds 39 1 false encL xs
abbrev sNil:AV :=.d (.sc nil_)
abbrev fI (l:List HOp) (b e:Int) (xs:List (List Int)):List (Nat×Row):=[(23,.box 110 (.ptr 0 [])),(0,sBox l b e (.own 3 0 xs.length 1 none) sNil sNil),(3,e7 xs)]
theorem vw (l:List HOp) (b e:Int) (xs:List (List Int)) (o:HOp):FnIs Try.prog 81 [.d (bh o),.ptr 23 []] (fI l b e xs) (.bool (mayB o b)) (fI l b e xs):=by
 refine aG aa Try.func81 rfl rfl rfl ?_;refine sR<|rN ?_;refine rC<|nQ ?_;refine aw (by kernel_rfl) ?_;refine dQ [2] [64] iM ?_;refine dQ [1] [23] iM ?_;refine dC [5] [] ?_;refine dC [6] [] ?_;refine dQ [7] [0] iM ?_;refine dQ [4,8] [] (aA (rR o b) rfl rfl (ak (ak ai)) (.inl rfl) (fun _=>rfl)) ?_;refine dC [9] [] ?_;refine am (by kernel_rfl)<|aL<|eD ?_
 exact⟨trivial,[],lg zV ⟨zR,zR,zR,trivial⟩⟩
theorem vv (l:List HOp) (b e:Int) (xs:List (List Int)) (o:HOp):FnIs Try.prog 83 [.d (bh o),.ptr 23 []] (fI l b e xs) (.bool (bL o && !mayB o b)) (fI l b e xs):=by
 refine aG aa Try.func83 rfl rfl rfl ?_
 have hm:=fT o
 cases h1:bL o with
 | true =>
  rw[h1]at hm
  refine sR<|rN ?_;refine rC<|nQ ?_;refine aw (by kernel_rfl) ?_;refine dQ [2] [64] iM ?_;refine dQ [4] [] (aA hm rfl rfl (ak ai) (.inl rfl) (fun _=>rfl)) ?_;refine dC [5] [] ?_;refine ab [6,2] [64] rfl rfl rfl rfl (aJ aa rfl rfl rfl rfl) ?_;refine ab [6,1] [23] rfl rfl rfl rfl (aJ aa rfl rfl rfl rfl) ?_;refine ab [6,8] [] rfl rfl rfl rfl (ay aa (fun K hk=>hk)) ?_;refine ab [6,9] [] rfl rfl rfl rfl (ay aa (fun K hk=>hk)) ?_;refine ab [6,10] [0] rfl rfl rfl rfl (aJ aa rfl rfl rfl rfl) ?_;refine ab [6,7,11] [] rfl rfl rfl rfl (aA (rR o b) rfl rfl (ak (ak ai)) (.inl rfl) (fun _=>rfl)) ?_;refine ab [6,12] [] rfl rfl rfl rfl (ay aa (fun K hk=>hk)) ?_;refine dQ [6,13] [] iU ?_;refine dC [14] [] ?_;refine am (by kernel_rfl)<|aL<|eD ?_
  exact⟨trivial,[],lg zV ⟨zR,zR,zR,trivial⟩⟩
 | false =>
  rw[h1]at hm
  refine sR<|rN ?_;refine rC<|nQ ?_;refine aw (by kernel_rfl) ?_;refine dQ [2] [64] iM ?_;refine dQ [4] [] (aA hm rfl rfl (ak ai) (.inl rfl) (fun _=>rfl)) ?_;refine dC [5] [] ?_;refine ae [6,2] rfl rfl rfl rfl ?_;refine ae [6,1] rfl rfl rfl rfl ?_;refine ae [6,8] rfl rfl rfl rfl ?_;refine ae [6,9] rfl rfl rfl rfl ?_;refine ae [6,10] rfl rfl rfl rfl ?_;refine ae [6,7,11] rfl rfl rfl rfl ?_;refine ae [6,12] rfl rfl rfl rfl ?_;refine dQ [6,13] [] iG ?_;refine dC [14] [] ?_;refine am (by kernel_rfl)<|aL<|eD ?_
  exact⟨trivial,[],lg zV ⟨zR,zR,zR,trivial⟩⟩
end Go.Proofs.Ytkehohfgbblokaa
namespace Go.Eng
open Go.RowKit
def zo (avs:List AV) (rd:List (Nat×Row)) (vs:List Value) (W:World) (K:World→Prop):Prop :=
 ∃(C:Ctx) (σ:aF),C.bs=64∧C.B=W.heap.size∧C.w0=W∧C.σ0=σ∧C.ro=none∧aD C (fun r=>r<64) (inSt avs rd) σ W ⟨vs.toArray,[]⟩ ∧
  ∀(W':World) (σ':aF),aD C (fun r=>r<72) (cn (.d (.sc (.bool true))) rd) σ' W' ⟨#[.bool true],[]⟩→K W'
def tm (P:Program) (gf:FuncId) (avs:List AV) (rd:List (Nat×Row)) (D:D) {α:Type} (enc:α→Value) (Next:List α→α→Prop) (Done:List α→Prop):Prop :=
 (∃ fn, P.funcs[gf]? = some fn ∧ (fn.name == "runtime.NumGoroutine") = false ∧ fn.body.isNone = false) ∧
 ∀(ad:Addr) (us:List Value) (u:Value) (l:Nat) (J Jx:List α→World→Prop) (w:World),w.cell? ad=some u →
  (∀pre W,J pre W→zo (avs++[.d D]) rd ((.pointer (some ad)::us)++[u]) W (J pre)) →
  (∀pre x W,J pre W→Next pre x→YieldAt Fence.wide 0 P l #[enc x] W fun e W'=>(e=.returned (.bool true)∧J (pre++[x]) W')∨(e=.returned (.bool false)∧Jx (pre++[x]) W')) →
  J [] w→Calls P gf (#[.func (.yield l) #[] #[]]++(.pointer (some ad)::us).toArray) w fun e W'=>(∃v,e=.returned v)∧((∃pre,Done pre∧J pre W')∨∃pre,Jx pre W')
def ti (D:D) (Q:Exit→St→Prop) (l:bE) (n sz:Nat) (h0:List (Nat×Row)) (env:Env) (h h':Upds) (Inv':Prop) (e:Exit) (st:St):Prop:=match e with
 | .normal=>∃rows l1 l2,Le l1 st ⟨[],aB rows,72,sz,64⟩∧Inv'∧Le l2 ⟨(sz,.d D)::env,bD l n h0 rows++h,n+8,sz+1,64⟩ ⟨(sz,.d D)::env,h',n,sz+1,64⟩
 | .exit i=>∃rows l1,Le l1 st ⟨[],aB rows,72,sz,64⟩∧Q (.exit i) ⟨env,bD l n h0 rows++h,n+8,sz,64⟩
 | .ret=>∃rows l1,Le l1 st ⟨[],aB rows,72,sz,64⟩∧Q .ret ⟨env,bD l n h0 rows++h,n+8,sz,64⟩
 | _=>False
section
variable {P : Program} {T : Tab} {sz n : Nat} {Q : Exit → St → Prop} {env : Env} {h : Upds}
set_option maxHeartbeats 4000000 in
theorem nC {α:Type} {enc:α→Value} (henc:∀x,(enc x).oneCell'=true) {Next:List α→α→Prop} {Done:List α→Prop} {g:Operand} {gf:FuncId} {caps:AV} {cs:List AV} {avs0:List AV} {rd:List (Nat×Row)} {D:D} {r3:Nat} {t3:TypeId} {id:Nat} {d t:Tmp} {ty:TypeId} {pos:String} {af:Array Edge} {body:Code}
  (lr l:bE) (ks:List Nat) (avs:List AV) (h0:List α→List (Nat×Row)) (hI:List α→Upds) (Inv:List α→Prop) (hit:tm P gf avs0 rd D enc Next Done) (hg:aq env g=some (.fn (.func gf) .anil caps)) (hc:caps.chain=true)
  (hc3:bx caps=.ptr r3 []::cs) (hr3:aT h r3=some (.box t3 (.d D))) (hDs:D.size=1) (hDa:(AV.d D).isAgg=false)
  (haI:∀pre,Inv pre→b7 (aT (hI pre)) (rho lr) (bx caps++[.d D]) (avs0++[.d D])) (hrI:∀pre,Inv pre→bT (aT (hI pre)) lr rd) (hiI:ep (rho lr) (aX rd)=true) (hkI:fq lr rd=true) (hmI:ca (bx caps++[.d D]) (avs0++[.d D])=true)
  (hgr:∀pre,Inv pre→∃lg,Le lg ⟨(sz,.d D)::env,bD lr n rd rd++hI pre,n+8,sz+1,64⟩ ⟨(sz,.d D)::env,hI pre,n,sz+1,64⟩)
  (i0:Inv []) (hh:hI []=h)
  (bs9:List AV) (hl:evL (aq env) (ks.map .tmp)=some bs9) (ha:∀pre,Inv pre→b7 (aT (hI pre)) (rho l) bs9 avs) (hr:∀pre,Inv pre→bT (aT (hI pre)) l (h0 pre))
  (hi:∀pre,Inv pre→ep (rho l) (aX (h0 pre))=true) (hk:∀pre,Inv pre→fq l (h0 pre)=true) (hm:ca bs9 avs=true) (hdt:Nat.blt d sz=true∧Nat.blt t sz=true) (hks:ks.all (fun k=>bif Nat.beq k d then false else bif Nat.beq k t then false else Nat.blt k sz)=true)
  (hbody:∀pre x,Inv pre→Next pre x→WC P sz body (ti D Q l n sz (h0 pre) env (hI pre) (hI (pre++[x])) (Inv (pre++[x]))) ((d,.d (.sc (enc x)))::(ks.zip avs)) (aB (h0 pre)) 64)
  (hdone:∀pre,Inv pre→Done pre→Q .normal ⟨env,hI pre,n,sz,64⟩) :
  WC P sz (.rangeFunc g #[t] (.region id #[⟨some d,.assign (.tmp t),ty,pos,af,none⟩] false) body) Q env h n:=by
 subst hh
 intro C σ w a hst
 refine wpIn_rangeFunc ?_
 intro fn hfn
 obtain⟨us,hu,hus,husG⟩:∃us:List Value,a.eval g=.func (.func gf) #[] us.toArray∧Rel σ w ((⟨env,hI [],n,sz,64⟩:St).X C.X0 σ) caps true us∧caps.within (fun r=>r<n):=by
  obtain⟨h1,h2⟩:=au hst hg
  unfold RelV at h1
  simp only[AV.isAgg]at h1
  obtain⟨vs,us,he,h3,h4⟩:=h1
  obtain rfl:vs=[]:=h3
  exact⟨us,by simpa using he,h4,h2.2⟩
 have hcapsU:∀ {W:World} {σ':aF} {pre:List α} {sz':Nat} {env':Env} {a':Act},(∀v,aq env g=some v→aq env' g=some v)→a'.eval g=a.eval g→aD C (fun r=>r<n) ⟨env',hI pre,n,sz',64⟩ σ' W a'→Rel σ' W ((⟨env',hI pre,n,sz',64⟩:St).X C.X0 σ') caps true us:=by
  intro W σ' pre sz' env' a' hev hae hst'
  obtain⟨h1,_⟩:=au hst' (hev _ hg)
  unfold RelV at h1
  simp only[AV.isAgg]at h1
  obtain⟨vs,us',he,h3,h4⟩:=h1
  rw[hae,hu]at he
  have:us'=us:=by
   have:us.toArray=us'.toArray:=by simpa using (by simpa using he:_∧_).2
   simpa using congrArg Array.toList this.symm
  rw[←this]; exact h4
 obtain⟨lp,mark,dd,W1,hent,hl1,hst1,hlw,hlB,hlro,hmark⟩:=hst.enterLoop (P:=P) fn #[t] (.region id #[⟨some d,.assign (.tmp t),ty,pos,af,none⟩] false) body
 obtain⟨rec,hrec⟩:∃rec:LoopState→Option Code→Loop,rec=fun st pe => { state:=st,pending:=pe,fn,tmps:=a.tmps,params := #[t],assign :=.region id #[⟨some d,.assign (.tmp t),ty,pos,af,none⟩] false,body,defers:=dd }:=⟨_,rfl⟩
 have hl1:W1.heap[lp]?=some (.loop (rec .ready none)):=by rw[hrec]; exact hl1
 have hasz:a.tmps.size=sz:=hst.sz
 obtain⟨ad,us1,u,husE,hcell,huR⟩:∃(ad:Addr) (us1:List Value) (u:Value),us=.pointer (some ad)::us1∧W1.cell? ad=some u∧RelV σ W1 ((⟨env,hI [],n,sz,64⟩:St).X C.X0 σ) (.d D) u:=by
  obtain⟨l1,_,l3⟩:=e9 caps us hc (hcapsU (fun _ h=>h) rfl hst1) husG
  rw[hc3]at l1 l3
  match us,l1 with
  | v::us1,_ =>
   have h1:=l3 0 _ v rfl rfl
   unfold RelV at h1
   simp only[AV.isAgg]at h1
   obtain⟨b,c,hb,he⟩:=h1
   simp only[List.cons.injEq,and_true]at he
   have hrow:=hst1.rows r3 _ (by rw[←bc]; exact hr3)
   obtain⟨_,b',cs',h2,h3,h4⟩:=hrow
   rw[hb]at h2
   simp only[Option.some.injEq,Prod.mk.injEq]at h2
   obtain⟨rfl,_⟩:=h2
   have hlen:=Enc.len _ _ h4
   rw[hDs]at hlen
   obtain⟨u,hu1⟩:∃u,cs'.toList=[u]:=by
    match cs'.toList,hlen with
    | [u],_=>exact⟨u,rfl⟩
   refine⟨⟨b,0,none⟩,us1,u,by rw[he]; rfl,?_,?_⟩
   ·rw[cell_of_row W1 b 0 cs' t3 (0,0) h3,←Array.getElem?_toList,hu1]; rfl
   ·unfold RelV
    rw[hDa]
    simp only[Bool.false_eq_true,if_false]
    rw[←hu1]; exact h4
 obtain⟨ag,hag⟩:∃ag:Act,ag = { tmps:=a.tmps.push u,defers:=a.defers }:=⟨_,rfl⟩
 have hagd:ag.defers=a.defers:=by rw[hag]
 have hagt:∀i,i<sz→ag.tmps[i]?=a.tmps[i]?:=fun i hi=>by rw[hag]; simp only[Array.getElem?_push]; rw[if_neg (by omega)]
 have hagz:ag.tmps.size=sz+1:=by rw[hag]; simp[hasz]
 have hagu:ag.tmps[sz]?=some u:=by rw[hag,←hasz]; simp
 have henvlt:∀i v,lk env i=some v→i<sz:=fun i v hv=>by
  obtain⟨u',h1,_⟩:=hst.env i v hv
  have:=(Array.getElem?_eq_some_iff.1 h1).1
  omega
 have hcons:∀i v,lk env i=some v→lk ((sz,AV.d D)::env) i=some v:=fun i v hv=>by
  rw[aM,if_neg (by have:=henvlt i v hv; omega)]; exact hv
 have hevg:∀v,aq env g=some v→aq ((sz,AV.d D)::env) g=some v:=fun v hv=>by
  cases g with
  | tmp i=>exact hcons i v hv
  | _=>exact hv
 have hageval:∀i,i<sz→ag.eval (.tmp i)=a.eval (.tmp i):=fun i hi=>by
  have:=hagt i hi
  simp only[Act.eval,Array.getD_eq_getD_getElem?,this]
 have hagg:ag.eval g=a.eval g:=by
  cases g with
  | tmp i=>exact hageval i (henvlt i _ hg)
  | _=>rfl
 have hgst1:aD C (fun r=>r<n) ⟨(sz,.d D)::env,hI [],n,sz+1,64⟩ σ W1 ag:=by
  refine hst1.spread (env':=(sz,.d D)::env) (sz':=sz+1) (a':=ag) (fun i v hv=>?_) hagz (by rw[hagd]; exact hst1.defers)
  rw[aM]at hv
  split at hv
  ·rename_i e
   subst e
   simp only[Option.some.injEq]at hv
   subst hv
   exact⟨⟨u,hagu,huR⟩,trivial⟩
  ·obtain⟨u',h1,h2⟩:=hst1.env i v hv
   exact⟨⟨u',by rw[hagt i (henvlt i v hv)]; exact h1,h2⟩,hst1.envG i v hv⟩
 have hdrop:∀ {G:Nat→Prop} {hp:Upds} {m:Nat} {σ':aF} {W:World},aD C G ⟨(sz,.d D)::env,hp,m,sz+1,64⟩ σ' W ag→aD C G ⟨env,hp,m,sz,64⟩ σ' W a:=by
  intro G hp m σ' W hs
  refine hs.spread (env':=env) (sz':=sz) (a':=a) (fun i v hv=>?_) hasz (by rw[←hagd]; exact hs.defers)
  obtain⟨u',h1,h2⟩:=hs.env i v (hcons i v hv)
  exact⟨⟨u',by rw[←hagt i (henvlt i v hv)]; exact h1,h2⟩,hs.envG i v (hcons i v hv)⟩
 let BK:World→Prop:=fun W=>∀k:Nat,k≠lp→W1.heap[k]?=some (.deferred (some []))→W.heap[k]?=some (.deferred (some []))
 let J:List α→World→Prop:=fun pre W=>Inv pre∧W.heap[lp]?=some (.loop (rec .ready none))∧BK W∧∃σ',aD C (fun r=>r<n) ⟨(sz,.d D)::env,hI pre,n,sz+1,64⟩ σ' W ag
 let Jx:List α→World→Prop:=fun _ W=>∃(c:Code) (e:Exit) (st':St),(c=.ret∧e=.ret∨∃i,c=.exit i∧e=.exit i)∧Q e st'∧W.heap[lp]?=some (.loop (rec .done (some c)))∧BK W∧∃σ',aD C (fun r=>r<st'.next) st' σ' W a
 have hput:∀ {G:Nat→Prop} {st':St} {σ':aF} {W:World} {r:Loop} {a':Act} (o':Loop),aD C G st' σ' W a'→W.heap[lp]?=some (.loop r)→aD C G st' σ' (W.putObj lp (.loop o')) a'∧(W.putObj lp (.loop o')).heap[lp]?=some (.loop o')∧(BK W→BK (W.putObj lp (.loop o'))):=by
  intro G st' σ' W r a' o' h1 h2
  refine⟨h1.putBook h2 rfl hlw hlB hlro (h1.defers.go fun k hk=>?_),World.putObj_heap_same (Array.getElem?_eq_some_iff.1 h2).1,fun hb k hne hk=>?_⟩
  ·have hne:k≠lp:=by rintro rfl; rw[h2]at hk; cases hk
   exact (World.putObj_heap_other hne).trans hk
  ·exact (World.putObj_heap_other hne).trans (hb k hne hk)
 refine⟨lp,mark,W1, { target :=.fn (.func gf) us.toArray,args := #[.func (.yield lp) #[] #[]] },W1,gf, #[.func (.yield lp) #[] #[]]++us.toArray,W1,hent,?_,?_,?_,?_,?_⟩
 ·simp only[resolve,hu]
  simp[Deferred.ofValue,Sem.run_bind,Sem.run_pure,Result.andThen_ok,Act.eval]
 ·exact fun _ _=>trivial
 ·simp[invoke,gX hit.1]
 ·exact fun h=>by cases h
 refine jk ?_
 rw[husE]
 refine (hit.2 ad us1 u lp J Jx W1 hcell ?_ ?_ ⟨i0,hl1,fun _ _ h=>h,σ,hgst1⟩).mono ?_
 ·-- the iterator's own work
  rintro pre W ⟨hinv,hlW,hbk,σ',hst'⟩
  have hcu:=hcapsU hevg hagg hst'
  have hcG:caps.within (fun r=>r<n):=(au hst' (hevg _ hg)).2.2
  obtain⟨m1,m2,m3⟩:=e9 caps us hc hcu hcG
  have hrows:=bT.agree (fun r row hr=>by rw[←bc]; exact hr) _ (hrI pre hinv) (look':=(⟨(sz,.d D)::env,hI pre,n,sz+1,64⟩:St).row)
  have hargs:=b7.agree (fun r row hr=>by rw[←bc]; exact hr) _ _ (haI pre hinv) (look':=(⟨(sz,.d D)::env,hI pre,n,sz+1,64⟩:St).row)
  have hXlt:∀b,(⟨(sz,.d D)::env,hI pre,n,sz+1,64⟩:St).X C.X0 σ' b→b<W.heap.size:=by
   rintro b (hx | ⟨r,row,c,h3,h4⟩)
   ·have:=(hst'.x0 b hx).1; have:=hst'.size; omega
   ·exact hst'.lt h3 h4
  have huR':RelV σ' W ((⟨(sz,.d D)::env,hI pre,n,sz+1,64⟩:St).X C.X0 σ') (.d D) u:=by
   obtain⟨u',h1,h2⟩:=hst'.env sz (.d D) (by rw[aM,if_pos rfl])
   rw[hagu]at h1
   cases h1
   exact h2
  have hv:=fK (bx caps) [.d D] us [u] m1 m3 (fun i v u' h1 h2=>by
   match i,h1,h2 with
   | 0,h1,h2 =>
    simp only[List.getElem?_cons_zero,Option.some.injEq]at h1 h2
    subst h1 h2
    exact huR')
  have hG:∀v∈bx caps++[.d D],v.within (fun r=>r<n):=fun v hv=>by
   rcases List.mem_append.1 hv with hv | hv
   ·exact m2 v hv
   ·simp only[List.mem_singleton]at hv
    subst hv
    trivial
  have hin:=hst'.enter (us:=us++[u]) (fun b=>(⟨(sz,.d D)::env,hI pre,n,sz+1,64⟩:St).X C.X0 σ' b∧¬bW (σ'.via (rho lr)) rd b) (by simp[m1]) hv hG hargs hrows hiI (fun b hb=>⟨hXlt b hb.1,hb.2⟩) (fun b hb=>hb.1) (.inl hmI)
  rw[husE]at hin
  refine⟨_,_,rfl,rfl,rfl,rfl,rfl,hin,fun W' σ2 h2=>?_⟩
  obtain⟨σ3,h4,_,_⟩:=hst'.leave (n:=n) (v :=.bool true) (res :=.d (.sc (.bool true))) (rows:=rd) (X1:=fun b=>(⟨(sz,.d D)::env,hI pre,n,sz+1,64⟩:St).X C.X0 σ' b∧¬bW (σ'.via (rho lr)) rd b) (fun r h1 h2 h3=>Nat.not_lt.2 h1 h3) rfl hrows hkI (.inl fun b h1 h2=>⟨h1,h2⟩) h2
  have h5:=h4.grow (G':=fun r=>r<n+8) (fun r hr=>by rcases hr with hr | hr <;> (try simp only at hr) <;> omega)
  obtain⟨lg,hle⟩:=hgr pre hinv
  have h6:aD C (fun r=>r<n+8) ⟨(sz,.d D)::env,bD lr n rd rd++hI pre,n+8,sz+1,64⟩ σ3 W' ag := { h5 with }
  exact⟨hinv,h2.below.book _ _ hlW rfl,fun k hne hk1=>h2.below.book _ _ (hbk k hne hk1) rfl,_,h6.le hle⟩
 ·-- a round
  rintro pre x W ⟨hinv,hlW,hbk,σ',hst'⟩ hnx
  have hy:=run_yield (P:=P) (args := #[enc x]) hlW (by rw[hrec]; rfl)
  refine⟨_,_,_,_,hy,roundIn_of_wpIn trivial ?_⟩
  obtain⟨a1,ha1⟩:∃a1:Act,a1=(({ tmps:=a.tmps.setIfInBounds t (enc x),defers:=[] }:Act).put (some d) (({ tmps:=a.tmps.setIfInBounds t (enc x),defers:=[] }:Act).eval (.tmp t))):=⟨_,rfl⟩
  have hblt:t<a.tmps.size:=by rw[hasz]; exact Nat.le_of_ble_eq_true hdt.2
  have hbld:d<a.tmps.size:=by rw[hasz]; exact Nat.le_of_ble_eq_true hdt.1
  have hevt:({ tmps:=a.tmps.setIfInBounds t (enc x),defers:=[] }:Act).eval (.tmp t)=enc x:=by
   simp[Act.eval,Array.getD_eq_getD_getElem?,Array.getElem?_setIfInBounds_self_of_lt hblt]
  have ha1t:a1.tmps=(a.tmps.setIfInBounds t (enc x)).setIfInBounds d (enc x):=by rw[ha1,hevt]; rfl
  have ha1d:a1.defers=[]:=by rw[ha1]; rfl
  have hassign:∀(K:Act→World→Prop),K a1 W→(rec .ready none).assign.wpIn (fen (some lp)) 0 P (Exit.then K (fun _ _ _=>False)) { tmps:=((rec .ready none).params.zip #[enc x]).foldl (fun tmps (t,a)=>tmps.setIfInBounds t a) (rec .ready none).tmps,defers:=[] } W:=by
   intro K hK
   rw[hrec]
   refine oH ?_
   simp only[Exit.then]
   have e1:((#[t]:Array Tmp).zip #[enc x]).foldl (fun tmps (t,a)=>tmps.setIfInBounds t a) a.tmps=a.tmps.setIfInBounds t (enc x):=by simp
   rw[e1,←ha1]; exact hK
  refine hassign _ ⟨_,run_beginRound hlW (by rw[hrec]),?_⟩
  obtain⟨hst2,hl2,hbk2⟩:=hput { rec .ready none with state :=.busy } hst' hlW
  generalize W.putObj lp (.loop { rec .ready none with state :=.busy })=W2 at hst2 hl2 hbk2 ⊢
  replace hbk2:=hbk2 hbk
  have hrows:=bT.agree (fun r row hr=>by rw[←bc]; exact hr) _ (hr pre hinv) (look':=(⟨(sz,.d D)::env,hI pre,n,sz+1,64⟩:St).row)
  have hargs:=b7.agree (fun r row hr=>by rw[←bc]; exact hr) _ _ (ha pre hinv) (look':=(⟨(sz,.d D)::env,hI pre,n,sz+1,64⟩:St).row)
  obtain⟨e1,e2,e3⟩:=kE hst2 _ bs9 (jI (ev':=aq ((sz,.d D)::env)) (fun y v hv=>by
   cases y with
   | tmp i=>exact hcons i v hv
   | _=>exact hv) _ _ hl)
  have hXlt:∀b,(⟨(sz,.d D)::env,hI pre,n,sz+1,64⟩:St).X C.X0 σ' b→b<W2.heap.size:=by
   rintro b (hx | ⟨r,row,c,h3,h4⟩)
   ·have:=(hst2.x0 b hx).1; have:=hst2.size; omega
   ·exact hst2.lt h3 h4
  have hin:=hst2.enter (us:=(ks.map Operand.tmp).map ag.eval) (fun b=>(⟨(sz,.d D)::env,hI pre,n,sz+1,64⟩:St).X C.X0 σ' b∧¬bW (σ'.via (rho l)) (h0 pre) b) (by simpa using e1) e3 e2 hargs hrows (hi pre hinv) (fun b hb=>⟨hXlt b hb.1,hb.2⟩) (fun b hb=>hb.1) (.inl hm)
  have hin2:=hin.spread (env':=(d,.d (.sc (enc x)))::ks.zip avs) (sz':=sz) (a':=a1) (fun i v hv=>?_) (by rw[ha1t]; simpa using hasz) (by rw[ha1d]; trivial)
  rotate_left
  ·rw[aM]at hv
   split at hv
   ·rename_i e
    subst e
    simp only[Option.some.injEq]at hv
    subst hv
    exact⟨⟨enc x,by rw[ha1t]; exact Array.getElem?_setIfInBounds_self_of_lt (by simpa using hbld),RelV.sc.2 ⟨rfl,henc x⟩⟩,trivial⟩
   ·-- one of the temporaries bW in
    have key:∀(ks:List Nat) (avs:List AV) (j:Nat),lk (ks.zip avs) i=some v→∃m:Nat,ks[m]?=some i∧avs[m]?=some v:=by
     intro ks
     induction ks with
     | nil=>intro avs j hz; simp[lk]at hz
     | cons k ks ih =>
      intro avs j hz
      cases avs with
      | nil=>simp[lk]at hz
      | cons y ys =>
       simp only[List.zip_cons_cons,aM]at hz
       split at hz
       ·rename_i e; subst e; simp only[Option.some.injEq]at hz; subst hz; exact⟨0,rfl,rfl⟩
       ·obtain⟨m,h1,h2⟩:=ih ys 0 hz; exact⟨m+1,by simpa using h1,by simpa using h2⟩
    obtain⟨m,hm1,hm2⟩:=key ks avs 0 hv
    have hav:∀(avs:List AV) (k m:Nat),avs[m]?=some v→lk (dL k avs) (k+m)=some v:=by
     intro avs
     induction avs with
     | nil=>intro k m h; simp at h
     | cons y ys ih =>
      intro k m h
      cases m with
      | zero=>simp only[List.getElem?_cons_zero,Option.some.injEq]at h; subst h; simp[dL,aM]
      | succ m =>
       simp only[dL,aM]
       rw[if_neg (by omega),show k+(m+1)=k+1+m by omega]
       exact ih (k+1) m (by simpa using h)
    have hlk:lk (inSt avs (h0 pre)).env m=some v:=by have:=hav avs 0 m hm2; simpa[inSt]using this
    obtain⟨u0,hu1,hu2⟩:=hin.env m v hlk
    refine⟨⟨u0,?_,hu2⟩,hin.envG m v hlk⟩
    have hmem:i∈ks:=List.mem_of_getElem? hm1
    have hki:=List.all_eq_true.1 hks i hmem
    have hid:¬i=d:=by rintro rfl; simp[show Nat.beq i i=true from Nat.beq_refl i]at hki
    have hit':¬i=t:=by rintro rfl; cases hb:Nat.beq i d <;> simp[hb,show Nat.beq i i=true from Nat.beq_refl i]at hki
    have hisz0:i<sz:=by
     have e1:Nat.beq i d=false:=by cases hb:Nat.beq i d; rfl; exact absurd (Nat.eq_of_beq_eq_true hb) hid
     have e2:Nat.beq i t=false:=by cases hb:Nat.beq i t; rfl; exact absurd (Nat.eq_of_beq_eq_true hb) hit'
     simp only[e1,e2,cond_false]at hki
     exact Nat.le_of_ble_eq_true hki
    have hisz:i<a.tmps.size:=by omega
    have hu3:a.eval (.tmp i)=u0:=by
     simp only[List.map_map,List.getElem?_toArray,List.getElem?_map,hm1,Option.map_some,Option.some.injEq,Function.comp]at hu1
     rw[←hageval i hisz0]
     exact hu1
    rw[ha1t,Array.getElem?_setIfInBounds_ne (Ne.symm hid),Array.getElem?_setIfInBounds_ne (Ne.symm hit')]
    rw[←hu3]
    simp[Act.eval,Array.getD_eq_getD_getElem?,hisz]
  have hin3:=hin2.inRo (some lp) (fun l1 h1=>by cases h1; exact⟨_,hl2⟩) (by rw[ha1d]; trivial)
  rw[show (rec .ready none).body=body by rw[hrec]]
  refine wpIn_mono (hbody pre x hinv hnx _ _ _ _ hin3) ?_
  have out:∀(st'':St) (σ'':aF) (a'':Act) (W3:World) (rows:List (Nat×Row)) (l1:bE),Le l1 st'' ⟨[],aB rows,72,sz,64⟩ →
    aD { B:=W2.heap.size,w0:=W2,X0:=fun b=>(⟨(sz,.d D)::env,hI pre,n,sz+1,64⟩:St).X C.X0 σ' b∧¬bW (σ'.via (rho l)) (h0 pre) b,M:=bW (σ'.via (rho l)) (h0 pre),bs:=64,σ0:=σ'.via (rho l),ro:=some lp } (fun r=>r<st''.next) st'' σ'' W3 a'' →
    ∃σ3,aD C (fun r=>r<n+8) ⟨(sz,.d D)::env,bD l n (h0 pre) rows++hI pre,n+8,sz+1,64⟩ σ3 W3 ag∧W3.heap[lp]?=some (.loop { rec .ready none with state :=.busy })∧BK W3:=by
   intro st'' σ'' a'' W3 rows l1 hle hs
   have h1:=hs.le hle
   have h2:=h1.spread (env':=[(0,.d (.sc (.bool true)))]) (sz':=1) (a':=⟨#[.bool true],[]⟩) (fun i v hv=>by
    simp only[aM]at hv
    split at hv
    ·rename_i e
     subst e
     simp only[Option.some.injEq]at hv
     subst hv
     exact⟨⟨_,rfl,RelV.sc.2 ⟨rfl,rfl⟩⟩,trivial⟩
    ·simp[lk]at hv) rfl trivial
   have h3:=h2.inRo none (fun _ h=>by cases h) trivial
   obtain⟨σ3,h4,_,_⟩:=hst2.leave (n:=n) (v :=.bool true) (res :=.d (.sc (.bool true))) (rows:=rows) (X1:=fun b=>(⟨(sz,.d D)::env,hI pre,n,sz+1,64⟩:St).X C.X0 σ' b∧¬bW (σ'.via (rho l)) (h0 pre) b) (fun r h1 h2 h3=>Nat.not_lt.2 h1 h3) rfl hrows (hk pre hinv) (.inl fun b h1 h2=>⟨h1,h2⟩) h3
   refine⟨σ3,?_,hs.below.book _ _ hl2 rfl,fun k hne hk1=>hs.below.book _ _ (hbk2 k hne hk1) rfl⟩
   have h5:=h4.grow (G':=fun r=>r<n+8) (fun r hr=>by rcases hr with hr | hr <;> (try simp only at hr) <;> omega)
   exact { h5 with }
  rintro e a'' W3 ⟨st'',σ'',hq,hs⟩
  cases e with
  | normal =>
   obtain⟨rows,l1,l2,hle1,hinv',hle2⟩:=hq
   obtain⟨σ3,h1,h2,h3⟩:=out st'' σ'' a'' W3 rows l1 hle1 hs
   have h4:=h1.le hle2
   have hend:=run_endRound (P:=P) none h2
   obtain⟨h5,h6,h7⟩:=hput { { rec .ready none with state :=.busy } with state:=if (none:Option Code).isNone then .ready else .done,pending:=none } h4 h2
   exact⟨_,_,hend,.inl ⟨rfl,hinv',by rw[h6,hrec]; rfl,h7 h3,_,h5⟩⟩
  | ret =>
   obtain⟨rows,l1,hle1,hQ⟩:=hq
   obtain⟨σ3,h1,h2,h3⟩:=out st'' σ'' a'' W3 rows l1 hle1 hs
   have hend:=run_endRound (P:=P) (some .ret) h2
   obtain⟨h5,h6,h7⟩:=hput { { rec .ready none with state :=.busy } with state:=if (some Code.ret:Option Code).isNone then .ready else .done,pending:=some .ret } (hdrop h1) h2
   exact⟨_,_,hend,.inr ⟨rfl,.ret,.ret,_,.inl ⟨rfl,rfl⟩,hQ,by rw[h6,hrec]; rfl,h7 h3,_,h5⟩⟩
  | exit i =>
   obtain⟨rows,l1,hle1,hQ⟩:=hq
   obtain⟨σ3,h1,h2,h3⟩:=out st'' σ'' a'' W3 rows l1 hle1 hs
   have hend:=run_endRound (P:=P) (some (.exit i)) h2
   obtain⟨h5,h6,h7⟩:=hput { { rec .ready none with state :=.busy } with state:=if (some (Code.exit i):Option Code).isNone then .ready else .done,pending:=some (.exit i) } (hdrop h1) h2
   exact⟨_,_,hend,.inr ⟨rfl,.exit i,.exit i,_,.inr ⟨i,rfl,rfl⟩,hQ,by rw[h6,hrec]; rfl,h7 h3,_,h5⟩⟩
  | goto t=>exact hq.elim
  | panic ch=>exact hq.elim
  | outgrown=>exact hq.elim
 ·-- y5 the loop
  have fin:∀ {G:Nat→Prop} {st':St} {σ':aF} {W:World} (o':Loop) {r:Loop},aD C G st' σ' W a→W.heap[lp]?=some (.loop r)→BK W→aD C G st' σ' (W.putObj lp (.loop o')) { a with defers:=mark++a.defers }:=by
   intro G st' σ' W o' r h1 h2 h3
   exact h1.putBook h2 rfl hlw hlB hlro (hmark _ fun k hne hk=>(World.putObj_heap_other hne).trans (h3 k hne hk))
  rintro e W' ⟨⟨v,rfl⟩,⟨pre,hd,hinv,hlW,hbk,σ',hst'⟩ | ⟨pre,c,e,st',hce,hQ,hlW,hbk,σ',hst'⟩⟩
  ·exact⟨none,_,by have:=run_endLoop (P:=P) hlW (by rw[hrec]; simp); rw[this]; rw[hrec],⟨_,σ',hdone pre hinv hd,fin _ (hdrop hst') hlW hbk⟩⟩
  ·refine⟨some c,_,by have:=run_endLoop (P:=P) hlW (by rw[hrec]; simp); rw[this]; rw[hrec],?_⟩
   rcases hce with ⟨rfl,rfl⟩ | ⟨i,rfl,rfl⟩
   ·exact wpIn_ret ⟨_,σ',hQ,fin _ hst' hlW hbk⟩
   ·exact wpIn_exit ⟨_,σ',hQ,fin _ hst' hlW hbk⟩
end
section
variable {D : D} {Q : Exit → St → Prop} {l : bE} {n sz : Nat} {h0 : List (Nat × Row)} {env : Env} {h h' : Upds} {Inv' : Prop} {st : St}
theorem vf (rows:List (Nat×Row)) (l1 l2:bE) (h1:Le l1 st ⟨[],aB rows,72,sz,64⟩) (h2:Inv') (h3:Le l2 ⟨(sz,.d D)::env,bD l n h0 rows++h,n+8,sz+1,64⟩ ⟨(sz,.d D)::env,h',n,sz+1,64⟩):ti D Q l n sz h0 env h h' Inv' .normal st:=⟨rows,l1,l2,h1,h2,h3⟩
end
def y5 (K:Act→World→Prop) (Q:Exit→Act→World→Prop):Exit→Act→World→Prop
 | .normal,a,w=>K a w
 | e,a,w=>Q e a w
end Go.Eng
namespace Go.Eng
open Go.RowKit
theorem tH {a:Act} {d:Option Tmp} {x:Value} {i:Nat} (h:∀k,d=some k→i≠k):(a.put d x).tmps[i]?=a.tmps[i]?:=by
 cases d with
 | none=>rfl
 | some k=>exact Array.getElem?_setIfInBounds_ne (Ne.symm (h k rfl))
def dsts:List Oper→List Nat
 | []=>[]
 | o::l=>match o.dst with | some d=>d::dsts l | none=>dsts l
def ra (ds:List Nat) (a a':Act):Prop:=a'.defers=a.defers∧a'.tmps.size=a.tmps.size∧∀i,i ∉ ds→a'.tmps[i]?=a.tmps[i]?
theorem ra.put {o:Oper} {l:List Oper} {a a':Act} {x:Value} (h:ra (dsts l) (a.put o.dst x) a'):ra (dsts (o::l)) a a':=by
 obtain⟨h1,h2,h3⟩:=h
 refine⟨h1.trans ?_,h2.trans ?_,fun i hi=>?_⟩
 ·cases o.dst <;> rfl
 ·cases o.dst with
  | none=>rfl
  | some d=>exact Array.size_setIfInBounds
 ·unfold dsts at hi
  cases hd:o.dst with
  | none =>
   rw[hd]at hi h3
   exact h3 i hi
  | some d =>
   rw[hd]at hi h3
   simp only[List.mem_cons,not_or]at hi
   rw[h3 i hi.2]
   exact tH (fun k hk e=>hi.1 (by cases hk; exact e))
def RegF (P:Program) (all:List Oper) (sz:Nat) (l:List Oper) (n:Nat) (env:Env) (h:Upds) (K:Env→Upds→Nat→Prop):Prop :=
 ∀(C:Ctx) (σ:aF) (w:World) (a:Act),aD C (fun r=>r<n) ⟨env,h,n,sz,64⟩ σ w a→∀(Q:Exit→Act→World→Prop) (l2:List Oper),
  (∀env h n σ w a',K env h n→aD C (fun r=>r<n) ⟨env,h,n,sz,64⟩ σ w a'→ra (dsts l) a a'→wpListIn (fen C.ro) 0 P all.toArray Q l2 a' w)→wpListIn (fen C.ro) 0 P all.toArray Q (l++l2) a w
section
variable {P : Program} {T : Tab} {sz : Nat} {env : Env} {h : Upds} {n : Nat} {all l : List Oper} {K : Env → Upds → Nat → Prop}
theorem kq (h1:K env h n):RegF P all sz [] n env h K:=fun _ σ w a hst _ _ hQ=>hQ env h n σ w a h1 hst ⟨rfl,rfl,fun _ _=>rfl⟩
theorem sM {o:Oper} {v:Option AV} {u:Upds} (hw:∀(C:Ctx) (σ:aF) (w:World) (a:Act),aD C (fun r=>r<n) ⟨env,h,n,sz,64⟩ σ w a→Region.wanted o (yielded all.toArray a.tmps)=true) (hd:dU o.dst sz=true) (hs:aj P o.op env h n v u)
  (h1:RegF P all sz l (n+8) (putE o.dst v env) (u++h) K):RegF P all sz (o::l) n env h K:=by
 intro C σ w a hst Q l2 hQ
 rw[List.cons_append]
 unfold wpListIn
 rw[if_pos (hw C σ w a hst)]
 refine (hs C _ ⟨env,h,n,sz,64⟩ σ w a o rfl ⟨fun i v hi=>hi,fun r row hr=>by rw[←hr,←bc]⟩ (ee hd) hst (fun r h1 h2 h3=>Nat.not_lt.2 h1 h3) rfl _ _ ?_)
 intro x w' σ' G' hst' _ h2
 rw[jZ]at hst'
 refine h1 C σ' w' _ ?_ Q l2 (fun env h n σ w a' hk hs hf=>hQ env h n σ w a' hk hs hf.put)
 have:=hst'.grow (G':=fun r=>r<n+8) (fun r hr=>by rcases h2 r hr with hr | hr <;> (try simp only at hr) <;> omega)
 exact { this with }
theorem tG {o:Oper} (hw:∀(C:Ctx) (σ:aF) (w:World) (a:Act),aD C (fun r=>r<n) ⟨env,h,n,sz,64⟩ σ w a→Region.wanted o (yielded all.toArray a.tmps)=false) (hd:dU o.dst sz=true)
  (h1:RegF P all sz l (n+8) (putE o.dst none env) h K):RegF P all sz (o::l) n env h K:=by
 intro C σ w a hst Q l2 hQ
 rw[List.cons_append]
 unfold wpListIn
 rw[if_neg (by rw[hw C σ w a hst]; exact fun e=>by cases e)]
 refine⟨fun _ _=>trivial,?_⟩
 refine h1 C σ w _ ?_ Q l2 (fun env h n σ w a' hk hs hf=>hQ env h n σ w a' hk hs hf.put)
 have hst2:=hst.set (v:=none) (u:=undef) (dst:=o.dst) (ee hd) (ec _ _ _) trivial
 rw[jZ]at hst2
 have:=hst2.grow (G':=fun r=>r<n+8) (fun r hr=>Nat.lt_of_lt_of_le hr (Nat.le_add_right n 8))
 exact { this with }
theorem bY {d:Tmp} {op:Op} {ty:TypeId} {pos:String} {af:Array Edge} {v:AV} (hd:Nat.blt d sz=true) (hs:aj P op env h n (some v) []) (h1:RegF P all sz l (n+8) ((d,v)::env) h K) :
  RegF P all sz (⟨some d,op,ty,pos,af,none⟩::l) n env h K:=sM (fun _ _ _ _ _=>rfl) hd hs h1
theorem o6 {dst:Option Tmp} {op:Op} {ty:TypeId} {pos:String} {af:Array Edge} {v:Option AV} {u:Upds} {env':Env} {h':Upds} (hd:dU dst sz=true) (hs:aj P op env h n v u) (he:putE dst v env=env') (hh:u++h=h') (h1:RegF P all sz l (n+8) env' h' K) :
  RegF P all sz (⟨dst,op,ty,pos,af,none⟩::l) n env h K:=sM (fun _ _ _ _ _=>rfl) hd hs (by rw[he,hh]; exact h1)
theorem vq {d:Tmp} {op:Op} {ty:TypeId} {pos:String} {af:Array Edge} {v:AV} {x:Nat×Option Row} (hs:aj P op env h n (some v) [x]) (hd:Nat.blt d sz=true)
  (hk:RegF P all sz l (n+8) ((d,v)::env) (x::h) K):RegF P all sz (⟨some d,op,ty,pos,af,none⟩::l) n env h K:=o6 (dst:=some d) hd hs rfl rfl hk
theorem rE {op:Op} {ty:TypeId} {pos:String} {af:Array Edge} {x:Nat×Option Row} (hs:aj P op env h n none [x])
  (hk:RegF P all sz l (n+8) env (x::h) K):RegF P all sz (⟨none,op,ty,pos,af,none⟩::l) n env h K:=o6 (dst:=none) rfl hs rfl rfl hk
theorem o4 {d:Option Tmp} {op:Op} {ty:TypeId} {pos:String} {af:Array Edge} {j g:Nat} {want b:Bool} (hj:((all[j]?).bind (·.dst))=some g) (hb:lk env g=some (.bool b)) (he:b=want)
  (h1:RegF P all sz (⟨d,op,ty,pos,af,none⟩::l) n env h K):RegF P all sz (⟨d,op,ty,pos,af,some (j,want)⟩::l) n env h K:=by
 intro C σ w a hst Q l2 hQ
 have:=h1 C σ w a hst Q l2 hQ
 rw[List.cons_append]at this ⊢
 unfold wpListIn at this ⊢
 rw[if_pos (show Region.wanted ⟨d,op,ty,pos,af,none⟩ _=true from rfl)]at this
 rw[if_pos (by rw[fP (o:=⟨d,op,ty,pos,af,some (j,want)⟩) rfl hj hb C σ w a _ h n hst,he]; exact beq_self_eq_true _)]
 exact this
theorem tF {d:Option Tmp} {op:Op} {ty:TypeId} {pos:String} {af:Array Edge} {j g:Nat} {want b:Bool} {env':Env} (hj:((all[j]?).bind (·.dst))=some g) (hb:lk env g=some (.bool b)) (he:b = !want) (hd:dU d sz=true)
  (he':putE d none env=env') (h1:RegF P all sz l (n+8) env' h K):RegF P all sz (⟨d,op,ty,pos,af,some (j,want)⟩::l) n env h K :=
 tG (fun C σ w a hst=>by rw[fP (o:=⟨d,op,ty,pos,af,some (j,want)⟩) rfl hj hb C σ w a _ h n hst,he]; cases want <;> rfl) hd (by rw[he']; exact h1)
theorem o5 {l1 l2:List Oper} {C:Ctx} {σ:aF} {w:World} {a:Act} {Q:Exit→Act→World→Prop} {id:Nat} {opa:Array Oper} (K:Env→Upds→Nat→Prop) (he:opa.toList=l1++l2) (hro:C.ro=none) (hst:aD C (fun r=>r<n) ⟨env,h,n,sz,64⟩ σ w a) (h1:RegF P opa.toList sz l1 n env h K)
  (h2:∀env h n σ w a',K env h n→aD C (fun r=>r<n) ⟨env,h,n,sz,64⟩ σ w a'→ra (dsts l1) a a'→wpListIn Fence.wide 0 P opa Q l2 a' w):(Code.region id opa false).wpIn Fence.wide 0 P Q a w:=by
 refine wpIn_region_list ?_
 rw[he]
 have hf:fen C.ro=Fence.wide:=by rw[hro]; rfl
 have h3:=h1 C σ w a hst Q l2 (fun env h n σ w a' hk hs hs2=>by rw[hf]; simpa using h2 env h n σ w a' hk hs hs2)
 rw[hf]at h3
 simpa using h3
end
end Go.Eng
namespace Go.Proofs.Ytkehohfgbblokaa
open Go Go.Eng Go.Plain Go.RowKit
set_option maxHeartbeats 32000000
set_option maxRecDepth 20000
def selI (p:HOp→Bool):List HOp→Nat→List Nat
 | [],_=>[]
 | o::l,i=>if p o=true then i::selI p l (i+1) else selI p l (i+1)
theorem tB {p:HOp→Bool} {l:List HOp} {i:Nat} {o:HOp} (h:l[i]?=some o):selI p (l.drop i) i=if p o=true then i::selI p (l.drop (i+1)) (i+1) else selI p (l.drop (i+1)) (i+1):=by
 have hlt:=(List.getElem?_eq_some_iff.1 h).1
 rw[List.drop_eq_getElem_cons hlt,(List.getElem?_eq_some_iff.1 h).2]
 rfl
theorem yx {F:Fence} {n:Nat} {P:Program} {Q:Exit→Act→World→Prop} {c:Code} {a:Act} {w:World} (I:Nat→Act→World→Prop) (k:Nat) (h0:I k a w)
  (step:∀m a w,I m a w→c.wpIn F n P (Exit.then (fun a w=>∃m',m'<m∧I m' a w) Q) a w):(Code.loop c).wpIn F n P Q a w:=by
 have key:∀m j a w,j≤m→I j a w→Code.roundsIn F n P c Q (m+1) a w:=by
  intro m
  induction m with
  | zero =>
   intro j a w hj hi
   rw[roundsIn_succ]
   refine wpIn_mono (step j a w hi) ?_
   intro e a w h
   cases e with
   | normal=>obtain⟨m',h1,_⟩:=h; omega
   | _=>exact h
  | succ m ih =>
   intro j a w hj hi
   rw[roundsIn_succ]
   refine wpIn_mono (step j a w hi) ?_
   intro e a w h
   cases e with
   | normal=>obtain⟨m',h1,h2⟩:=h; exact ih m' a w (by omega) h2
   | _=>exact h
 exact wpIn_loop_rounds (k+1) (key k k a w (Nat.le_refl _) h0)
theorem Bo {t:Array Value} (h:t.size=30):∃v0 v1 v2 v3 v4 v5 v6 v7 v8 v9 v10 v11 v12 v13 v14 v15 v16 v17 v18 v19 v20 v21 v22 v23 v24 v25 v26 v27 v28 v29,t = #[v0,v1,v2,v3,v4,v5,v6,v7,v8,v9,v10,v11,v12,v13,v14,v15,v16,v17,v18,v19,v20,v21,v22,v23,v24,v25,v26,v27,v28,v29]:=by
 obtain⟨l⟩:=t
 match l,h with
 | [v0,v1,v2,v3,v4,v5,v6,v7,v8,v9,v10,v11,v12,v13,v14,v15,v16,v17,v18,v19,v20,v21,v22,v23,v24,v25,v26,v27,v28,v29],_=>exact⟨v0,v1,v2,v3,v4,v5,v6,v7,v8,v9,v10,v11,v12,v13,v14,v15,v16,v17,v18,v19,v20,v21,v22,v23,v24,v25,v26,v27,v28,v29,rfl⟩
abbrev mS (l:List HOp) (b e era:Int) (xs:List (List Int)) (hf:Nat):List (Nat×Row):=(20,.box 59 (.d (eU l)))::(21,.box 3 (.int .i64 era))::(22,.box 34 (.fn (.func hf) .anil (.acons (.ptr 23 []) .anil)))::fI l b e xs
def BJ (L:List Nat) (pre:List Nat) (x:Nat):Prop:=∃rest,L=pre++x::rest
def eraB (era:Int) (f:HOp→Bool) (o:HOp):Bool:=decide (o.era=era)&&f o
abbrev qz (lp:Nat) (l:List HOp) (i:Nat):Env:=[(0,.fn (.yield lp) .anil .anil),(2,.ptr 21 []),(3,.ptr 22 []),(7,.d (eU l)),(8,.int .i64 l.length),(9,.int .i64 i)]
def ItK (lp:Nat) (l:List HOp) (i:Nat) (rows:List (Nat×Row)) (b:Bool) (env:Env) (h:Upds) (n:Nat):Prop:=Le [] ⟨env,h,n,30,64⟩ ⟨(23,.bool b)::(5,.int .i64 i)::qz lp l i,aB rows,72,30,64⟩
attribute [local irreducible] WC RegS RegD SeqQ BlkQ ScoQ RegK CutK Sat SatN FnIs LoopQ aj OpIs RegF
theorem qZ (l:List HOp) (b e era:Int) (xs:List (List Int)) (hf:Nat) (f:HOp→Bool) (hL:l.length≤1048576) (hfi:∀o,FnIs Try.prog hf [.d (bh o),.ptr 23 []] (fI l b e xs) (.bool (f o)) (fI l b e xs)) :
  tm Try.prog 92 [.ptr 20 [],.ptr 21 [],.ptr 22 []] (mS l b e era xs hf) (eU l) (fun x:Nat=>Value.int .i64 x) (BJ (selI (eraB era f) l 0)) (fun pre=>pre=selI (eraB era f) l 0):=by
 refine⟨⟨Try.f92,Try.func92,rfl,rfl⟩,fun ad us u lp J Jx w hcell hE hY h0=>?_⟩
 obtain⟨v1,v2,rfl⟩:∃v1 v2,us=[v1,v2]:=by
  obtain⟨C,σ,_,_,_,_,_,hst,_⟩:=hE [] w h0
  have hsz:=hst.sz
  have:us.length=2:=by simpa[inSt]using hsz
  match us,this with
  | [v1,v2],_=>exact⟨v1,v2,rfl⟩
 obtain⟨p,c,rfl⟩:∃p c,u=.slice p l.length c:=by
  obtain⟨C,σ,_,_,_,_,_,hst,_⟩:=hE [] w h0
  obtain⟨u',h1,h2⟩:=hst.env 3 (.d (eU l)) rfl
  obtain rfl:u=u':=by simpa using h1
  rcases RelV.arx.1 h2 with ⟨rfl,a,rfl⟩ | ⟨ad,hu,_⟩
  ·exact⟨_,_,rfl⟩
  ·exact⟨_,_,hu⟩
 refine callsIn_wide.1 (callsIn_of_wp (n:=0) Try.func92 rfl trivial ?_ rfl)
 simp only[show Try.f92.ntmps=30 from rfl,List.size_toArray,List.length_cons,List.length_nil,Nat.reduceAdd,Nat.reduceSub,Array.replicate_succ,Array.replicate_zero,List.push_toArray,List.append_toArray,List.nil_append,List.cons_append]
 gi_wp2
 refine yx (fun m a W=>∃(i:Nat) (pre:List Nat) (v4 v5 v6 v10 v11 v12 v13 v14 v15 v16 v17 v18 v19 v20 v21 v22 v23 v24 v25 v26 v27 v28 v29:Value),m+i=l.length∧J pre W∧selI (eraB era f) l 0=pre++selI (eraB era f) (l.drop i) i ∧
  a = { tmps := #[.func (.yield lp) #[] #[],.pointer (some ad),v1,v2,v4,v5,v6,.slice p l.length c,.int .i64 l.length,.int .i64 i,v10,v11,v12,v13,v14,v15,v16,v17,v18,v19,v20,v21,v22,v23,v24,v25,v26,v27,v28,v29],defers:=[] }) l.length ?start ?round
 case start =>
  exact⟨0,[],_,_,_,_,_,_,_,_,_,_,_,_,_,_,_,_,_,_,_,_,_,_,_,by simp,h0,rfl,rfl⟩
 case round =>
  rintro m a W ⟨i,pre,v4,v5,v6,v10,v11,v12,v13,v14,v15,v16,v17,v18,v19,v20,v21,v22,v23,v24,v25,v26,v27,v28,v29,hm,hJ,hsel,ha⟩
  obtain⟨C,σ,hbs,hB,hw0,hσ,hro,hst,hback⟩:=hE pre W hJ
  have hsp:aD C (fun r=>r<64) ⟨qz lp l i,aB (mS l b e era xs hf),64,30,64⟩ σ W a:=by
   refine hst.spread (env':=qz lp l i) (sz':=30) (a':=a) (fun j v hv=>?_) (by rw[ha]; rfl) (by rw[ha]; trivial)
   simp only[aM]at hv
   split at hv
   ·rename_i q
    cases hv
    subst q
    exact⟨⟨_,by rw[ha]; rfl,⟨[],[],rfl,rfl,rfl⟩⟩,trivial,trivial⟩
   ·split at hv
    ·rename_i q
     cases hv
     subst q
     obtain⟨x,h1,h2⟩:=hst.env 1 (.ptr 21 []) rfl
     obtain rfl:v1=x:=by simpa using h1
     exact⟨⟨_,by rw[ha]; rfl,h2⟩,hst.envG 1 (.ptr 21 []) rfl⟩
    ·split at hv
     ·rename_i q
      cases hv
      subst q
      obtain⟨x,h1,h2⟩:=hst.env 2 (.ptr 22 []) rfl
      obtain rfl:v2=x:=by simpa using h1
      exact⟨⟨_,by rw[ha]; rfl,h2⟩,hst.envG 2 (.ptr 22 []) rfl⟩
     ·split at hv
      ·rename_i q
       cases hv
       subst q
       obtain⟨x,h1,h2⟩:=hst.env 3 (.d (eU l)) rfl
       obtain rfl:Value.slice p l.length c=x:=by simpa using h1
       exact⟨⟨_,by rw[ha]; rfl,h2⟩,trivial⟩
      ·split at hv
       ·rename_i q
        cases hv
        subst q
        exact⟨⟨_,by rw[ha]; rfl,RelV.sc.2 ⟨rfl,rfl⟩⟩,trivial⟩
       ·split at hv
        ·rename_i q
         cases hv
         subst q
         exact⟨⟨_,by rw[ha]; rfl,RelV.sc.2 ⟨rfl,rfl⟩⟩,trivial⟩
        ·simp[lk]at hv
  by_cases hlt:i<l.length
  ·have d1:decide ((i:Int)<(l.length:Int))=true:=dT (by omega)
   obtain⟨o,ho⟩:∃o,l[i]?=some o:=⟨_,List.getElem?_eq_getElem hlt⟩
   have hl:l[((i:Int)).toNat]?=some o:=by rw[Int.toNat_natCast]; exact ho
   rw[tB ho]at hsel
   refine wpIn_seq ?_;refine o5 (fun env h n=>env=(10,.bool (decide ((i:Int)<(l.length:Int))))::qz lp l i∧h=aB (mS l b e era xs hf)∧n=72) (l1:=[_]) (l2:=[]) rfl hro hsp (bY rfl (ay aa (fun K hk=>hk)) (kq ⟨rfl,rfl,rfl⟩)) ?_
   rintro _ _ _ σ1 W1 a1 ⟨rfl,rfl,rfl⟩ hs1 st1
   rw[d1]at hs1
   show Code.wpIn _ _ _ _ _ _ _
   refine wpIn_seq ?_
   obtain⟨q,hq1,hq2⟩:=hs1.env 10 (.bool true) rfl
   obtain⟨rfl,_⟩:=RelV.sc.1 hq2
   refine wpIn_cond_true (by simp[Act.eval,Array.getD_eq_getD_getElem?,hq1]) ?_;refine wpIn_skip ?_
   show Code.wpIn _ _ _ _ _ _ _
   refine wpIn_seq ?_;refine wpIn_block ?_;refine wpIn_seq ?_;refine o5 (fun env h n=>Le [] ⟨env,h,n,30,64⟩ ⟨(5,.int .i64 i)::(6,.ptr 96 [])::qz lp l i,(96,some (.box 30 (.d (bh o))))::aB (mS l b e era xs hf),120,30,64⟩) (l1:=[_,_,_,_,_,_]) (l2:=[]) rfl hro hs1 ?g2 ?_
   case g2 =>
    refine bY rfl (ay aa (fun K hk=>hk)) ?_;refine bY rfl (a9 aa rfl rfl rfl rfl rfl (by omega) hl) ?_;refine bY rfl (ic aa rfl rfl) ?_;refine vq (ay aa (fun K hk=>hk)) rfl ?_;refine bY rfl (ay aa (fun K hk=>hk)) ?_;refine rE (aK aa rfl rfl rfl ⟨_,⟨rfl,rfl,rfl⟩,rfl⟩ rfl) ?_;refine kq ?_
    exact lg ze ⟨zR,zR,zR,zR,zR,zR,zR,trivial⟩
   rintro _ _ _ σ2 W2 a2 hle2 hs2 st2
   replace hs2:=hs2.le hle2
   generalize σ2.via (rho [])=σ2 at hs2
   show Code.wpIn _ _ _ _ _ _ _
   refine wpIn_seq ?_;refine o5 (ItK lp l i (mS l b e era xs hf) (eraB era f o)) (l1:=[_,_,_,_,_,_,_,_,_,_]) (l2:=[_,_,_,_,_]) rfl hro hs2 ?g3 ?_
   case g3 =>
    refine bY rfl (ay aa (fun K hk=>hk)) ?_;refine bY rfl (aJ aa rfl rfl ⟨_,rfl,rfl⟩ rfl) ?_;refine bY rfl (aJ aa rfl rfl rfl rfl) ?_
    iterate 2 refine bY rfl (ay aa (fun K hk=>hk)) ?_
    cases he:decide (o.era=era) with
    | true =>
     refine o4 rfl rfl rfl ?_;refine bY rfl (aJ aa rfl rfl rfl rfl) ?_;refine o4 rfl rfl rfl ?_;refine bY rfl (aJ aa rfl rfl rfl rfl) ?_;refine o4 rfl rfl rfl ?_;refine o6 rfl (aQ [(23,some 23),(0,some 0),(3,some 3)] (hfi o) rfl rfl rfl (ak (aV rfl rfl ai)) ⟨zH,zH,zH,trivial⟩ rfl rfl (.inl rfl) rfl rfl) rfl rfl ?_;refine bY rfl (mE aa rfl rfl rfl) ?_;refine bY rfl (ay aa (fun K hk=>hk)) ?_;refine kq ?_
     show Le _ _ _
     rw[show eraB era f o=f o by rw[eraB,he]; rfl]
     exact lg ze ⟨zR,zR,zR,zR,zR,zR,trivial⟩
    | false =>
     iterate 3 refine tF rfl rfl rfl rfl rfl ?_
     refine bY rfl (pa aa rfl rfl rfl) ?_;refine bY rfl (ay aa (fun K hk=>hk)) ?_;refine kq ?_
     show Le _ _ _
     rw[show eraB era f o=false by rw[eraB,he]; rfl]
     exact lg ze ⟨zR,zR,zR,zR,zR,zR,trivial⟩
   rintro _ _ _ σ3 W3 a3 hle3 hs3 st3
   replace hs3:=hs3.le hle3
   generalize σ3.via (rho [])=σ3 at hs3
   have hJ3:J pre W3:=by
    refine hback W3 σ3 (hs3.spread (env':=[(0,.d (.sc (.bool true)))]) (sz':=1) (a':=⟨#[.bool true],[]⟩) (fun j v hv=>?_) rfl trivial)
    simp only[aM]at hv
    split at hv
    ·rename_i q
     subst q
     cases hv
     exact⟨⟨_,rfl,RelV.sc.2 ⟨rfl,rfl⟩⟩,trivial⟩
    ·simp[lk]at hv
   have kd:a3.defers=[]:=by rw[st3.1,st2.1,st1.1,ha]
   have ksz:a3.tmps.size=30:=by rw[st3.2.1,st2.2.1,st1.2.1,ha]; rfl
   have key:∀j,j ∉ [10,11,12,13,6,5,14,15,16,17,18,19,20,21,22,23]→a3.tmps[j]?=a.tmps[j]?:=fun j hj=>by
    simp only[List.mem_cons,List.not_mem_nil,or_false,not_or]at hj
    rw[st3.2.2 j (by simp only[dsts,List.mem_cons,List.not_mem_nil,or_false,not_or]; omega),st2.2.2 j (by simp only[dsts,List.mem_cons,List.not_mem_nil,or_false,not_or]; omega),st1.2.2 j (by simp only[dsts,List.mem_cons,List.not_mem_nil,or_false,not_or]; omega)]
   obtain⟨q5,h5,h5'⟩:=hs3.env 5 (.int .i64 i) rfl
   obtain⟨rfl,_⟩:=RelV.sc.1 h5'
   obtain⟨q23,h23,h23'⟩:=hs3.env 23 (.bool (eraB era f o)) rfl
   obtain⟨rfl,_⟩:=RelV.sc.1 h23'
   obtain⟨w0,w1,w2,w3,w4,w5,w6,w7,w8,w9,w10,w11,w12,w13,w14,w15,w16,w17,w18,w19,w20,w21,w22,w23,w24,w25,w26,w27,w28,w29,hv⟩:=Bo ksz
   obtain⟨t3,d3⟩:=a3
   subst ha
   subst hv
   subst kd
   have k0:=key 0 (by decide)
   have k1:=key 1 (by decide)
   have k2:=key 2 (by decide)
   have k3:=key 3 (by decide)
   have k7:=key 7 (by decide)
   have k8:=key 8 (by decide)
   have k9:=key 9 (by decide)
   simp only[List.getElem?_toArray,List.getElem?_cons_zero,List.getElem?_cons_succ,Option.some.injEq]at k0 k1 k2 k3 k7 k8 k9 h5 h23
   subst k0 k1 k2 k3 k7 k8 k9 h5 h23
   clear hs1 hs2 hs3 st1 st2 st3 key hle2 hle3 hsp hst hback hq1 hq2 h5' h23'
   cases hb:eraB era f o with
   | true =>
    rw[hb,if_pos rfl]at hsel
    obtain⟨fn,tmps,assign,body,hy,hR⟩:=hY pre i W3 hJ3 ⟨_,hsel⟩
    gi_wp2
    refine⟨rfl,hR.mono ?_⟩
    rintro e' W' (⟨rfl,hJ'⟩ | ⟨rfl,hJx⟩)
    ·gi_wp2
     exact⟨m-1,by omega,i+1,pre++[i],_,_,_,_,_,_,_,_,_,_,_,_,_,_,_,_,_,_,_,_,_,_,_,by omega,hJ',by rw[hsel]; simp,rfl⟩
    ·gi_wp2
     refine bodyPost_ret (results_none rfl _ _ _) rfl ?_
     exact⟨⟨_,rfl⟩,.inr ⟨_,hJx⟩⟩
   | false =>
    rw[hb,if_neg (by decide)]at hsel
    gi_wp2
    refine⟨fun _ hx=>(nomatch hx),?_⟩
    gi_wp2
    exact⟨m-1,by omega,i+1,pre,_,_,_,_,_,_,_,_,_,_,_,_,_,_,_,_,_,_,_,_,_,_,_,by omega,hJ3,hsel,rfl⟩
  ·have d1:decide ((i:Int)<(l.length:Int))=false:=dF (by omega)
   rw[List.drop_eq_nil_of_le (by omega),selI,List.append_nil]at hsel
   subst ha
   gi_wp2
   go_end0
   exact⟨⟨_,rfl⟩,.inl ⟨_,hsel.symm,hJ⟩⟩
end Go.Proofs.Ytkehohfgbblokaa
namespace Go.Proofs.Ytkehohfgbblokaa
open Go.Eng Go.Plain
set_option maxHeartbeats 32000000
set_option maxRecDepth 20000
attribute [local irreducible] WC RegS RegD SeqQ BlkQ ScoQ RegK CutK Sat SatN FnIs LoopQ aj OpIs
abbrev BMap:=List (List UInt8×Int)
abbrev gi (m:BMap):Row :=.mo (mapC bd (asC i6 m))
theorem fB {κ ν:Type} (e:ν→D) (l:List (κ×ν)):(asC e l).length=l.length:=by simp[asC]
theorem yZ (l:List UInt8):jr Try.prog 2 27 (bd l):=xw aa (P:=Try.prog) Try.underlying27 rfl (fun _=>rfl) rfl (fun _=>pp (P:=Try.prog) Try.underlying5)
theorem xL (l:List UInt8):(bd l).keyd:=fun x n=>by cases n <;> simp[Instr.sameBits]
theorem keyB:ea Try.prog 27 bd 2:=mQ (by decide) (by rw[Try.underlying27]) yZ cQ xL
def numB (o:HOp):List UInt8:=if o.op.kind=2 then o.op.data else o.value
def numP (pl:IMap) (o:HOp):IMap:=if o.op.kind=3 then pl else match getA pl o.op.index with
 | some _=>pl
 | none=>putA pl o.op.index pl.length
def numV (vs:BMap) (o:HOp):BMap:=if o.op.kind=3 then vs else match getA vs (numB o) with
 | some _=>vs
 | none=>putA vs (numB o) vs.length
abbrev bU (l:List HOp) (b e:Int) (xs:List (List Int)) (pl:IMap) (vs:BMap):List (Nat×Row):=[(0,sBox l b e (.own 3 0 xs.length 1 none) sNil sNil),(1,fm pl),(2,gi vs),(3,e7 xs)]
theorem tN (l:List HOp) (b e:Int) (xs:List (List Int)) (pl:IMap) (vs:BMap) (o:HOp) (hd:o.op.kind=2→o.op.data.length=32):FnIs Try.prog 82 [.ptr 0 [],.d (bh o)] (bU l b e xs pl vs) (.tup .anil) (bU l b e xs (numP pl o) (numV vs o)):=by
 refine aG aa Try.func82 rfl rfl rfl ?_
 unfold numP numV
 by_cases h3:o.op.kind=3
 ·have d3:decide (o.op.kind=3)=true:=dT h3
  rw[if_pos h3,if_pos h3]
  refine sR<|rN<|zW ?_;refine zD ?_;refine rQ iB ?_;refine rC ?_;refine zI<|eD<|bQ ?_
  exact⟨trivial,[],lg zV ⟨zR,zM,zM,zR,trivial⟩⟩
 have d3:decide (o.op.kind=3)=false:=dF h3
 rw[if_neg h3,if_neg h3]
 by_cases hk:o.op.kind=2
 ·have d2:decide (o.op.kind=2)=true:=dT hk
  rw[show numB o=o.op.data by rw[numB,if_pos hk]]
  rcases cV i6 o.op.index pl 0 with ⟨hf,hg,hp⟩ | ⟨j,t,hf,_,hg,_⟩
  ·rw[hg]
   rcases cV i6 (o.op.data) vs 0 with ⟨hf2,hg2,hp2⟩ | ⟨j2,t2,hf2,_,hg2,_⟩
   ·rw[hg2]
    refine sR<|rN<|zW ?_;refine zD ?_;refine rQ iB ?_;refine rC ?_;refine zG<|kS ?_;iterate 2 refine aZ ?_
    refine aw (by kernel_rfl) ?_;refine dC [0] [] ?_;refine dC [14] [] ?_;refine dC [15] [] ?_;refine dQ [16] [0] iM ?_;refine dC [3] [] ?_;refine dC [18] [] ?_;refine dQ [19] [64] iB ?_;refine dQ [17,20] [1] (cb (κ:=Int) (enc:=i6) (l:=asC i6 pl) keyI Try.underlying113 eO rfl rfl rfl hf) ?_;refine dC [21] [] ?_
    iterate 2 refine dC [13] [] ?_
    refine dC [22] [] ?_;refine dC [23] [] ?_;refine am (by kernel_rfl)<|aL<|sR ?_;refine zD ?_;refine zO ?_;refine aw (by kernel_rfl) ?_;refine dC [0] [] ?_;refine dC [26] [] ?_;refine dC [27] [] ?_;refine dQ [28] [0] iM ?_;refine dC [3] [] ?_;refine dC [30] [] ?_;refine dQ [31] [64] iB ?_;refine dC [0] [] ?_;refine dC [33] [] ?_;refine dC [34] [] ?_;refine dQ [35] [0] iM ?_;refine dQ [36] [1] (fy (κ:=Int) (enc:=i6) (l:=asC i6 pl) Try.underlying113 rfl rfl) ?_;refine br [29,32,37] [1] (bX (κ:=Int) (enc:=i6) (l:=asC i6 pl) keyI Try.underlying113 rfl rfl rfl rfl hf) ?_;refine am (by kernel_rfl)<|aL<|sR ?_;refine rC ?_;refine rQ iB ?_;refine rN ?_;refine rW<|zW ?_;refine zD ?_;refine rQ iB ?_;refine rC ?_;refine zI<|ao ?_;refine zD ?_;refine rQ iB ?_;refine rQ (aA (fJ o.op.data (hd hk)) rfl rfl (ak ai) (.inl rfl) (fun _=>rfl)) ?_;refine rW<|nQ ?_;refine aw (by kernel_rfl) ?_;refine dC [0] [] ?_;refine dC [49] [] ?_;refine dC [50] [] ?_;refine dQ [51] [0] iM ?_;refine dQ [6] [344] iM ?_;refine dQ [52,53] [2] (cb (κ:=List UInt8) (enc:=bd) (l:=asC i6 vs) keyB Try.underlying114 eO rfl rfl rfl hf2) ?_;refine dC [54] [] ?_;iterate 2 refine dC [48] [] ?_
    refine dC [55] [] ?_;refine dC [56] [] ?_;refine am (by kernel_rfl)<|aL<|sR ?_;refine zD ?_;refine zO ?_;refine aw (by kernel_rfl) ?_;refine dC [0] [] ?_;refine dC [59] [] ?_;refine dC [60] [] ?_;refine dQ [61] [0] iM ?_;refine dQ [6] [344] iM ?_;refine dC [0] [] ?_;refine dC [64] [] ?_;refine dC [65] [] ?_;refine dQ [66] [0] iM ?_;refine dQ [67] [2] (fy (κ:=List UInt8) (enc:=bd) (l:=asC i6 vs) Try.underlying114 rfl rfl) ?_;refine br [62,63,68] [2] (bX (κ:=List UInt8) (enc:=bd) (l:=asC i6 vs) keyB Try.underlying114 rfl rfl rfl rfl hf2) ?_;refine am (by kernel_rfl) ?_
    exact⟨trivial,[],lg zV ⟨zR,⟨rfl,bn _,_,rfl,aO.of_eq (by show _=Row.mo ((mapC i6 (asC i6 (putA pl _ _))).ren _); rw[ba,hp,←fB i6 pl])⟩,⟨rfl,bn _,_,rfl,aO.of_eq (by show _=Row.mo ((mapC bd (asC i6 (putA vs _ _))).ren _); rw[ba,hp2,←fB i6 vs])⟩,zR,trivial⟩⟩
   ·rw[hg2]
    rw[Nat.zero_add]at hf2
    refine sR<|rN<|zW ?_;refine zD ?_;refine rQ iB ?_;refine rC ?_;refine zG<|kS ?_;iterate 2 refine aZ ?_
    refine aw (by kernel_rfl) ?_;refine dC [0] [] ?_;refine dC [14] [] ?_;refine dC [15] [] ?_;refine dQ [16] [0] iM ?_;refine dC [3] [] ?_;refine dC [18] [] ?_;refine dQ [19] [64] iB ?_;refine dQ [17,20] [1] (cb (κ:=Int) (enc:=i6) (l:=asC i6 pl) keyI Try.underlying113 eO rfl rfl rfl hf) ?_;refine dC [21] [] ?_
    iterate 2 refine dC [13] [] ?_
    refine dC [22] [] ?_;refine dC [23] [] ?_;refine am (by kernel_rfl)<|aL<|sR ?_;refine zD ?_;refine zO ?_;refine aw (by kernel_rfl) ?_;refine dC [0] [] ?_;refine dC [26] [] ?_;refine dC [27] [] ?_;refine dQ [28] [0] iM ?_;refine dC [3] [] ?_;refine dC [30] [] ?_;refine dQ [31] [64] iB ?_;refine dC [0] [] ?_;refine dC [33] [] ?_;refine dC [34] [] ?_;refine dQ [35] [0] iM ?_;refine dQ [36] [1] (fy (κ:=Int) (enc:=i6) (l:=asC i6 pl) Try.underlying113 rfl rfl) ?_;refine br [29,32,37] [1] (bX (κ:=Int) (enc:=i6) (l:=asC i6 pl) keyI Try.underlying113 rfl rfl rfl rfl hf) ?_;refine am (by kernel_rfl)<|aL<|sR ?_;refine rC ?_;refine rQ iB ?_;refine rN ?_;refine rW<|zW ?_;refine zD ?_;refine rQ iB ?_;refine rC ?_;refine zI<|ao ?_;refine zD ?_;refine rQ iB ?_;refine rQ (aA (fJ o.op.data (hd hk)) rfl rfl (ak ai) (.inl rfl) (fun _=>rfl)) ?_;refine rW<|nQ ?_;refine aw (by kernel_rfl) ?_;refine dC [0] [] ?_;refine dC [49] [] ?_;refine dC [50] [] ?_;refine dQ [51] [0] iM ?_;refine dQ [6] [344] iM ?_;refine dQ [52,53] [2] (bM (κ:=List UInt8) (enc:=bd) (l:=asC i6 vs) keyB Try.underlying114 rfl rfl rfl hf2) ?_;refine dC [54] [] ?_;iterate 2 refine dC [48] [] ?_
    refine dC [55] [] ?_;refine dC [56] [] ?_;refine am (by kernel_rfl)<|aL<|sR ?_;refine zD ?_;refine zJ<|bg ?_
    exact⟨trivial,[],lg zV ⟨zR,⟨rfl,bn _,_,rfl,aO.of_eq (by show _=Row.mo ((mapC i6 (asC i6 (putA pl _ _))).ren _); rw[ba,hp,←fB i6 pl])⟩,zM,zR,trivial⟩⟩
  ·rw[hg]
   rw[Nat.zero_add]at hf
   rcases cV i6 (o.op.data) vs 0 with ⟨hf2,hg2,hp2⟩ | ⟨j2,t2,hf2,_,hg2,_⟩
   ·rw[hg2]
    refine sR<|rN<|zW ?_;refine zD ?_;refine rQ iB ?_;refine rC ?_;refine zG<|kS ?_;iterate 2 refine aZ ?_
    refine aw (by kernel_rfl) ?_;refine dC [0] [] ?_;refine dC [14] [] ?_;refine dC [15] [] ?_;refine dQ [16] [0] iM ?_;refine dC [3] [] ?_;refine dC [18] [] ?_;refine dQ [19] [64] iB ?_;refine dQ [17,20] [1] (bM (κ:=Int) (enc:=i6) (l:=asC i6 pl) keyI Try.underlying113 rfl rfl rfl hf) ?_;refine dC [21] [] ?_
    iterate 2 refine dC [13] [] ?_
    refine dC [22] [] ?_;refine dC [23] [] ?_;refine am (by kernel_rfl)<|aL<|sR ?_;refine zD ?_;refine zJ<|kS<|sR ?_;refine rC ?_;refine rQ iB ?_;refine rN ?_;refine rW<|zW ?_;refine zD ?_;refine rQ iB ?_;refine rC ?_;refine zI<|ao ?_;refine zD ?_;refine rQ iB ?_;refine rQ (aA (fJ o.op.data (hd hk)) rfl rfl (ak ai) (.inl rfl) (fun _=>rfl)) ?_;refine rW<|nQ ?_;refine aw (by kernel_rfl) ?_;refine dC [0] [] ?_;refine dC [49] [] ?_;refine dC [50] [] ?_;refine dQ [51] [0] iM ?_;refine dQ [6] [240] iM ?_;refine dQ [52,53] [2] (cb (κ:=List UInt8) (enc:=bd) (l:=asC i6 vs) keyB Try.underlying114 eO rfl rfl rfl hf2) ?_;refine dC [54] [] ?_;iterate 2 refine dC [48] [] ?_
    refine dC [55] [] ?_;refine dC [56] [] ?_;refine am (by kernel_rfl)<|aL<|sR ?_;refine zD ?_;refine zO ?_;refine aw (by kernel_rfl) ?_;refine dC [0] [] ?_;refine dC [59] [] ?_;refine dC [60] [] ?_;refine dQ [61] [0] iM ?_;refine dQ [6] [240] iM ?_;refine dC [0] [] ?_;refine dC [64] [] ?_;refine dC [65] [] ?_;refine dQ [66] [0] iM ?_;refine dQ [67] [2] (fy (κ:=List UInt8) (enc:=bd) (l:=asC i6 vs) Try.underlying114 rfl rfl) ?_;refine br [62,63,68] [2] (bX (κ:=List UInt8) (enc:=bd) (l:=asC i6 vs) keyB Try.underlying114 rfl rfl rfl rfl hf2) ?_;refine am (by kernel_rfl) ?_
    exact⟨trivial,[],lg zV ⟨zR,zM,⟨rfl,bn _,_,rfl,aO.of_eq (by show _=Row.mo ((mapC bd (asC i6 (putA vs _ _))).ren _); rw[ba,hp2,←fB i6 vs])⟩,zR,trivial⟩⟩
   ·rw[hg2]
    rw[Nat.zero_add]at hf2
    refine sR<|rN<|zW ?_;refine zD ?_;refine rQ iB ?_;refine rC ?_;refine zG<|kS ?_;iterate 2 refine aZ ?_
    refine aw (by kernel_rfl) ?_;refine dC [0] [] ?_;refine dC [14] [] ?_;refine dC [15] [] ?_;refine dQ [16] [0] iM ?_;refine dC [3] [] ?_;refine dC [18] [] ?_;refine dQ [19] [64] iB ?_;refine dQ [17,20] [1] (bM (κ:=Int) (enc:=i6) (l:=asC i6 pl) keyI Try.underlying113 rfl rfl rfl hf) ?_;refine dC [21] [] ?_
    iterate 2 refine dC [13] [] ?_
    refine dC [22] [] ?_;refine dC [23] [] ?_;refine am (by kernel_rfl)<|aL<|sR ?_;refine zD ?_;refine zJ<|kS<|sR ?_;refine rC ?_;refine rQ iB ?_;refine rN ?_;refine rW<|zW ?_;refine zD ?_;refine rQ iB ?_;refine rC ?_;refine zI<|ao ?_;refine zD ?_;refine rQ iB ?_;refine rQ (aA (fJ o.op.data (hd hk)) rfl rfl (ak ai) (.inl rfl) (fun _=>rfl)) ?_;refine rW<|nQ ?_;refine aw (by kernel_rfl) ?_;refine dC [0] [] ?_;refine dC [49] [] ?_;refine dC [50] [] ?_;refine dQ [51] [0] iM ?_;refine dQ [6] [240] iM ?_;refine dQ [52,53] [2] (bM (κ:=List UInt8) (enc:=bd) (l:=asC i6 vs) keyB Try.underlying114 rfl rfl rfl hf2) ?_;refine dC [54] [] ?_;iterate 2 refine dC [48] [] ?_
    refine dC [55] [] ?_;refine dC [56] [] ?_;refine am (by kernel_rfl)<|aL<|sR ?_;refine zD ?_;refine zJ<|bg ?_
    exact⟨trivial,[],lg zV ⟨zR,zM,zM,zR,trivial⟩⟩
 ·have d2:decide (o.op.kind=2)=false:=dF hk
  rw[show numB o=o.value by rw[numB,if_neg hk]]
  rcases cV i6 o.op.index pl 0 with ⟨hf,hg,hp⟩ | ⟨j,t,hf,_,hg,_⟩
  ·rw[hg]
   rcases cV i6 (o.value) vs 0 with ⟨hf2,hg2,hp2⟩ | ⟨j2,t2,hf2,_,hg2,_⟩
   ·rw[hg2]
    refine sR<|rN<|zW ?_;refine zD ?_;refine rQ iB ?_;refine rC ?_;refine zG<|kS ?_;iterate 2 refine aZ ?_
    refine aw (by kernel_rfl) ?_;refine dC [0] [] ?_;refine dC [14] [] ?_;refine dC [15] [] ?_;refine dQ [16] [0] iM ?_;refine dC [3] [] ?_;refine dC [18] [] ?_;refine dQ [19] [64] iB ?_;refine dQ [17,20] [1] (cb (κ:=Int) (enc:=i6) (l:=asC i6 pl) keyI Try.underlying113 eO rfl rfl rfl hf) ?_;refine dC [21] [] ?_
    iterate 2 refine dC [13] [] ?_
    refine dC [22] [] ?_;refine dC [23] [] ?_;refine am (by kernel_rfl)<|aL<|sR ?_;refine zD ?_;refine zO ?_;refine aw (by kernel_rfl) ?_;refine dC [0] [] ?_;refine dC [26] [] ?_;refine dC [27] [] ?_;refine dQ [28] [0] iM ?_;refine dC [3] [] ?_;refine dC [30] [] ?_;refine dQ [31] [64] iB ?_;refine dC [0] [] ?_;refine dC [33] [] ?_;refine dC [34] [] ?_;refine dQ [35] [0] iM ?_;refine dQ [36] [1] (fy (κ:=Int) (enc:=i6) (l:=asC i6 pl) Try.underlying113 rfl rfl) ?_;refine br [29,32,37] [1] (bX (κ:=Int) (enc:=i6) (l:=asC i6 pl) keyI Try.underlying113 rfl rfl rfl rfl hf) ?_;refine am (by kernel_rfl)<|aL<|sR ?_;refine rC ?_;refine rQ iB ?_;refine rN ?_;refine rW<|zW ?_;refine zD ?_;refine rQ iB ?_;refine rC ?_;refine zG<|zQ ?_;refine aw (by kernel_rfl) ?_;refine dC [0] [] ?_;refine dC [49] [] ?_;refine dC [50] [] ?_;refine dQ [51] [0] iM ?_;refine dQ [6] [344] iM ?_;refine dQ [52,53] [2] (cb (κ:=List UInt8) (enc:=bd) (l:=asC i6 vs) keyB Try.underlying114 eO rfl rfl rfl hf2) ?_;refine dC [54] [] ?_;iterate 2 refine dC [48] [] ?_
    refine dC [55] [] ?_;refine dC [56] [] ?_;refine am (by kernel_rfl)<|aL<|sR ?_;refine zD ?_;refine zO ?_;refine aw (by kernel_rfl) ?_;refine dC [0] [] ?_;refine dC [59] [] ?_;refine dC [60] [] ?_;refine dQ [61] [0] iM ?_;refine dQ [6] [344] iM ?_;refine dC [0] [] ?_;refine dC [64] [] ?_;refine dC [65] [] ?_;refine dQ [66] [0] iM ?_;refine dQ [67] [2] (fy (κ:=List UInt8) (enc:=bd) (l:=asC i6 vs) Try.underlying114 rfl rfl) ?_;refine br [62,63,68] [2] (bX (κ:=List UInt8) (enc:=bd) (l:=asC i6 vs) keyB Try.underlying114 rfl rfl rfl rfl hf2) ?_;refine am (by kernel_rfl) ?_
    exact⟨trivial,[],lg zV ⟨zR,⟨rfl,bn _,_,rfl,aO.of_eq (by show _=Row.mo ((mapC i6 (asC i6 (putA pl _ _))).ren _); rw[ba,hp,←fB i6 pl])⟩,⟨rfl,bn _,_,rfl,aO.of_eq (by show _=Row.mo ((mapC bd (asC i6 (putA vs _ _))).ren _); rw[ba,hp2,←fB i6 vs])⟩,zR,trivial⟩⟩
   ·rw[hg2]
    rw[Nat.zero_add]at hf2
    refine sR<|rN<|zW ?_;refine zD ?_;refine rQ iB ?_;refine rC ?_;refine zG<|kS ?_;iterate 2 refine aZ ?_
    refine aw (by kernel_rfl) ?_;refine dC [0] [] ?_;refine dC [14] [] ?_;refine dC [15] [] ?_;refine dQ [16] [0] iM ?_;refine dC [3] [] ?_;refine dC [18] [] ?_;refine dQ [19] [64] iB ?_;refine dQ [17,20] [1] (cb (κ:=Int) (enc:=i6) (l:=asC i6 pl) keyI Try.underlying113 eO rfl rfl rfl hf) ?_;refine dC [21] [] ?_
    iterate 2 refine dC [13] [] ?_
    refine dC [22] [] ?_;refine dC [23] [] ?_;refine am (by kernel_rfl)<|aL<|sR ?_;refine zD ?_;refine zO ?_;refine aw (by kernel_rfl) ?_;refine dC [0] [] ?_;refine dC [26] [] ?_;refine dC [27] [] ?_;refine dQ [28] [0] iM ?_;refine dC [3] [] ?_;refine dC [30] [] ?_;refine dQ [31] [64] iB ?_;refine dC [0] [] ?_;refine dC [33] [] ?_;refine dC [34] [] ?_;refine dQ [35] [0] iM ?_;refine dQ [36] [1] (fy (κ:=Int) (enc:=i6) (l:=asC i6 pl) Try.underlying113 rfl rfl) ?_;refine br [29,32,37] [1] (bX (κ:=Int) (enc:=i6) (l:=asC i6 pl) keyI Try.underlying113 rfl rfl rfl rfl hf) ?_;refine am (by kernel_rfl)<|aL<|sR ?_;refine rC ?_;refine rQ iB ?_;refine rN ?_;refine rW<|zW ?_;refine zD ?_;refine rQ iB ?_;refine rC ?_;refine zG<|zQ ?_;refine aw (by kernel_rfl) ?_;refine dC [0] [] ?_;refine dC [49] [] ?_;refine dC [50] [] ?_;refine dQ [51] [0] iM ?_;refine dQ [6] [344] iM ?_;refine dQ [52,53] [2] (bM (κ:=List UInt8) (enc:=bd) (l:=asC i6 vs) keyB Try.underlying114 rfl rfl rfl hf2) ?_;refine dC [54] [] ?_;iterate 2 refine dC [48] [] ?_
    refine dC [55] [] ?_;refine dC [56] [] ?_;refine am (by kernel_rfl)<|aL<|sR ?_;refine zD ?_;refine zJ<|bg ?_
    exact⟨trivial,[],lg zV ⟨zR,⟨rfl,bn _,_,rfl,aO.of_eq (by show _=Row.mo ((mapC i6 (asC i6 (putA pl _ _))).ren _); rw[ba,hp,←fB i6 pl])⟩,zM,zR,trivial⟩⟩
  ·rw[hg]
   rw[Nat.zero_add]at hf
   rcases cV i6 (o.value) vs 0 with ⟨hf2,hg2,hp2⟩ | ⟨j2,t2,hf2,_,hg2,_⟩
   ·rw[hg2]
    refine sR<|rN<|zW ?_;refine zD ?_;refine rQ iB ?_;refine rC ?_;refine zG<|kS ?_;iterate 2 refine aZ ?_
    refine aw (by kernel_rfl) ?_;refine dC [0] [] ?_;refine dC [14] [] ?_;refine dC [15] [] ?_;refine dQ [16] [0] iM ?_;refine dC [3] [] ?_;refine dC [18] [] ?_;refine dQ [19] [64] iB ?_;refine dQ [17,20] [1] (bM (κ:=Int) (enc:=i6) (l:=asC i6 pl) keyI Try.underlying113 rfl rfl rfl hf) ?_;refine dC [21] [] ?_
    iterate 2 refine dC [13] [] ?_
    refine dC [22] [] ?_;refine dC [23] [] ?_;refine am (by kernel_rfl)<|aL<|sR ?_;refine zD ?_;refine zJ<|kS<|sR ?_;refine rC ?_;refine rQ iB ?_;refine rN ?_;refine rW<|zW ?_;refine zD ?_;refine rQ iB ?_;refine rC ?_;refine zG<|zQ ?_;refine aw (by kernel_rfl) ?_;refine dC [0] [] ?_;refine dC [49] [] ?_;refine dC [50] [] ?_;refine dQ [51] [0] iM ?_;refine dQ [6] [240] iM ?_;refine dQ [52,53] [2] (cb (κ:=List UInt8) (enc:=bd) (l:=asC i6 vs) keyB Try.underlying114 eO rfl rfl rfl hf2) ?_;refine dC [54] [] ?_;iterate 2 refine dC [48] [] ?_
    refine dC [55] [] ?_;refine dC [56] [] ?_;refine am (by kernel_rfl)<|aL<|sR ?_;refine zD ?_;refine zO ?_;refine aw (by kernel_rfl) ?_;refine dC [0] [] ?_;refine dC [59] [] ?_;refine dC [60] [] ?_;refine dQ [61] [0] iM ?_;refine dQ [6] [240] iM ?_;refine dC [0] [] ?_;refine dC [64] [] ?_;refine dC [65] [] ?_;refine dQ [66] [0] iM ?_;refine dQ [67] [2] (fy (κ:=List UInt8) (enc:=bd) (l:=asC i6 vs) Try.underlying114 rfl rfl) ?_;refine br [62,63,68] [2] (bX (κ:=List UInt8) (enc:=bd) (l:=asC i6 vs) keyB Try.underlying114 rfl rfl rfl rfl hf2) ?_;refine am (by kernel_rfl) ?_
    exact⟨trivial,[],lg zV ⟨zR,zM,⟨rfl,bn _,_,rfl,aO.of_eq (by show _=Row.mo ((mapC bd (asC i6 (putA vs _ _))).ren _); rw[ba,hp2,←fB i6 vs])⟩,zR,trivial⟩⟩
   ·rw[hg2]
    rw[Nat.zero_add]at hf2
    refine sR<|rN<|zW ?_;refine zD ?_;refine rQ iB ?_;refine rC ?_;refine zG<|kS ?_;iterate 2 refine aZ ?_
    refine aw (by kernel_rfl) ?_;refine dC [0] [] ?_;refine dC [14] [] ?_;refine dC [15] [] ?_;refine dQ [16] [0] iM ?_;refine dC [3] [] ?_;refine dC [18] [] ?_;refine dQ [19] [64] iB ?_;refine dQ [17,20] [1] (bM (κ:=Int) (enc:=i6) (l:=asC i6 pl) keyI Try.underlying113 rfl rfl rfl hf) ?_;refine dC [21] [] ?_
    iterate 2 refine dC [13] [] ?_
    refine dC [22] [] ?_;refine dC [23] [] ?_;refine am (by kernel_rfl)<|aL<|sR ?_;refine zD ?_;refine zJ<|kS<|sR ?_;refine rC ?_;refine rQ iB ?_;refine rN ?_;refine rW<|zW ?_;refine zD ?_;refine rQ iB ?_;refine rC ?_;refine zG<|zQ ?_;refine aw (by kernel_rfl) ?_;refine dC [0] [] ?_;refine dC [49] [] ?_;refine dC [50] [] ?_;refine dQ [51] [0] iM ?_;refine dQ [6] [240] iM ?_;refine dQ [52,53] [2] (bM (κ:=List UInt8) (enc:=bd) (l:=asC i6 vs) keyB Try.underlying114 rfl rfl rfl hf2) ?_;refine dC [54] [] ?_;iterate 2 refine dC [48] [] ?_
    refine dC [55] [] ?_;refine dC [56] [] ?_;refine am (by kernel_rfl)<|aL<|sR ?_;refine zD ?_;refine zJ<|bg ?_
    exact⟨trivial,[],lg zV ⟨zR,zM,zM,zR,trivial⟩⟩
theorem wI (l:List HOp) (era:Int) (hf:Nat) (b e:Int):FnIs Try.prog 80 [.d (eU l),.int .i64 era,.fn (.func hf) .anil (.acons (.ptr 23 []) .anil)] [(23,.box 110 (.ptr 0 []))] (.fn (.func 92) .anil (.acons (.ptr 64 []) (.acons (.ptr 65 []) (.acons (.ptr 66 []) .anil)))) [(23,.box 110 (.ptr 0 [])),(64,.box 59 (.d (eU l))),(65,.box 3 (.int .i64 era)),(66,.box 34 (.fn (.func hf) .anil (.acons (.ptr 23 []) .anil)))]:=by
 refine aG aa Try.func80 rfl rfl rfl ?_;refine sR ?_;iterate 3 refine rN ?_
 refine rC<|nR ?_;refine zD<|zT ?_
 exact⟨trivial,[(64,some 64),(65,some 72),(66,some 80)],lg zV ⟨zR,zR,zR,zR,trivial⟩⟩
end Go.Proofs.Ytkehohfgbblokaa
namespace Go.Eng
open Go.RowKit
theorem FrzR.mo {r:Nat} {row:Row} {a a':AV} (h:FrzT r row a a'):FrzR r row (.mo a) (.mo a'):=by
 refine⟨h.1,fun σ w X X' q hx hn hr hq=>?_⟩
 obtain⟨b,es,h1,h2,h3,h4⟩:=hq
 exact⟨b,es,h1,h2,h3,h.2 σ w X X' hx hn hr _ h4⟩
theorem FrzT.mapC_last {κ:Type} {enc:κ→D} {r:Nat} {row:Row} {k:κ} {a a':AV} (h:Frz r row a a'):∀l:List (κ×AV),FrzT r row (mapC enc (l++[(k,a)])) (mapC enc (l++[(k,a')]))
 | []=>.cons (.refl _) (.cons h .nil)
 | (k',v)::l=>.cons (.refl _) (.cons (.refl _) (FrzT.mapC_last h l))
theorem ng {κ:Type} [DecidableEq κ] {k:κ} {v:AV}:∀(l:List (κ×AV)) (i:Nat),cJ k l i=none→cJ k (l++[(k,v)]) i=some (i+l.length,v)
 | [],i,_=>by simp[cJ]
 | (k',v')::l,i,h=>by
  simp only[cJ]at h
  split at h
  ·cases h
  ·rename_i hne
   simp only[List.cons_append,cJ,if_neg hne]
   rw[ng l (i+1) h]
   simp only[List.length_cons]
   congr 2
   omega
theorem nW {κ:Type} {k:κ} {v v':AV}:∀l:List (κ×AV),putC (l++[(k,v)]) l.length v'=l++[(k,v')]
 | []=>rfl
 | (k',w)::l=>by simp only[List.cons_append,List.length_cons,putC,nW l]
end Go.Eng
namespace Go.Proofs.Ytkehohfgbblokaa
open Go.Eng Go.Plain Go.RowKit
set_option maxHeartbeats 32000000
set_option maxRecDepth 20000
section
variable {P : Program} {env : Env} {h : Upds} {n : Nat}
theorem oJ {t kt et:TypeId} {κ ν:Type} [DecidableEq κ] {enc:κ→D} {encV:ν→D} {mm r:Nat} {x y z:Operand} {k:κ} {v:ν} {m:List (κ×ν)} (K:ea P kt enc mm) (ht:P.underlying t=some (.map kt et))
  (hx:aq env x=some (.mapr r)) (hy:aq env y=some (.d (enc k))) (hz:aq env z=some (.d (encV v))) (hr:aT h r=some (.mo (mapC enc (asC encV m)))) :
  aj P (.mapUpdate t x y z) env h n none [(r,some (.mo (mapC enc (asC encV (putA m k v)))))]:=by
 rcases cV encV k m 0 with ⟨hf,hg,hp⟩ | ⟨j,t,hf,_,hg,hp⟩
 ·rw[hp v]
  exact bX K ht hx hy hz hr hf
 ·rw[hp v]
  rw[Nat.zero_add]at hf
  exact fD K ht hx hy hz hr hf
theorem fx {t kt et:TypeId} {κ ν:Type} [DecidableEq κ] {enc:κ→D} {encV:ν→D} {mm r:Nat} {x y:Operand} {k:κ} {m:List (κ×ν)} (z:ν) (K:ea P kt enc mm) (ht:P.underlying t=some (.map kt et)) (hz:eJ P et (encV z))
  (hx:aq env x=some (.mapr r)) (hy:aq env y=some (.d (enc k))) (hr:aT h r=some (.mo (mapC enc (asC encV m)))) :
  aj P (.lookup t x y false) env h n (some (.d (encV ((getA m k).getD z)))) []:=by
 rcases cV encV k m 0 with ⟨hf,hg,hp⟩ | ⟨j,t,hf,_,hg,hp⟩
 ·rw[hg]
  exact fV K ht hz hx hy hr hf
 ·rw[hg]
  exact fU K ht hx hy hr hf
theorem cX {t kt et:TypeId} {κ ν:Type} [DecidableEq κ] {enc:κ→D} {encV:ν→D} {mm r:Nat} {x y:Operand} {k:κ} {m:List (κ×ν)} {z v:ν} (hv:(getA m k).getD z=v) (K:ea P kt enc mm) (ht:P.underlying t=some (.map kt et)) (hz:eJ P et (encV z))
  (hx:aq env x=some (.mapr r)) (hy:aq env y=some (.d (enc k))) (hr:aT h r=some (.mo (mapC enc (asC encV m)))) :
  aj P (.lookup t x y false) env h n (some (.d (encV v))) []:=hv ▸ fx z K ht hz hx hy hr
theorem qp {t kt et:TypeId} {κ ν:Type} [DecidableEq κ] {enc:κ→D} {encV:ν→D} {mm r:Nat} {x y:Operand} {k:κ} {m:List (κ×ν)} (z:ν) (K:ea P kt enc mm) (ht:P.underlying t=some (.map kt et)) (hz:eJ P et (encV z))
  (hx:aq env x=some (.mapr r)) (hy:aq env y=some (.d (enc k))) (hr:aT h r=some (.mo (mapC enc (asC encV m)))) :
  aj P (.lookup t x y true) env h n (some (.tup (.acons (.d (encV ((getA m k).getD z))) (.acons (.bool (getA m k).isSome) .anil)))) []:=by
 rcases cV encV k m 0 with ⟨hf,hg,hp⟩ | ⟨j,t,hf,_,hg,hp⟩
 ·rw[hg]
  exact cb K ht hz hx hy hr hf
 ·rw[hg]
  exact bM K ht hx hy hr hf
end
end Go.Proofs.Ytkehohfgbblokaa
