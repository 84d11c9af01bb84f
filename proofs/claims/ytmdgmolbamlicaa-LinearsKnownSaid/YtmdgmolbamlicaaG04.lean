/- Texts of the proof: HX, Eng96, Eng87, Eng97, Eng98, Eng88, Eng99, YDat, Y1, Y2, Y3, YMap, Y6, Y4, Y7, Eng100, Eng101, Y8, Y9, Eng102, YL, Y10, Y11, Y12, Y13, Eng103, Y14, Y15, Y16, Y17, YN, Y18, Y19. -/
import Derived.Test.YtmdgmolbamlicaaG03
import Derived.Test.YtmdgmolbamlicaaG02
import Derived.Maps.RangeRun
import Derived.RangeFuncNested
import Derived.RangeFuncBound
import Derived.RangeFuncCalls
import Derived.RangeFuncLeaves
import Derived.Shelf.Abstract
import Derived.Shelf.RegionOpen
import Derived.WalkKit
import Derived.OwnWalkIn
import Derived.TacticsInMore
import Derived.LoopNIn
import Derived.LoopIn

set_option linter.unusedVariables false
set_option linter.unusedSimpArgs false
set_option linter.unusedSectionVars false
set_option maxRecDepth 10000

namespace Go.Proofs.Ytmdgmolbamlicaa
open Go.Eng Go.Plain
set_option maxHeartbeats 32000000
set_option maxRecDepth 20000
def o9 (h:List HEv) (i:Nat) (s:RdS) (j:Nat) (o:HOp):HOp :=
 if s.busy[o.client.toNat]?=some ((j:Int)+1) then co o (aW o.client (h.drop i) i) else o
structure Sync (h:List HEv) (i:Nat) (s:RdS) (out:List HOp) (era:Int):Prop where
 ok:s.Ok i
 len:out.length=s.all.length
 outs:∀(j:Nat) o,s.all[j]?=some o→out[j]?=some (o9 h i s j o)
 cli:∀(j:Nat) o,s.all[j]?=some o→0≤o.client∧o.client<8
 own:∀(c:Nat) (b:Int),c<8→s.busy[c]?=some b→b≠0→∃o,s.all[(b-1).toNat]?=some o∧o.client=c
 num:∀c:Nat,c<8→s.number[c]?=some (cntC out c)
 era:s.era=era
theorem rG (o:HOp) (r:Option (Nat×HEv)):(co o r).client=o.client:=by cases r <;> rfl
theorem ye (l:List HOp) (o:HOp) (c:Int):cntC (l++[o]) c=cntC l c+if o.client=c then 1 else 0:=by
 simp only[cntC,List.countP_append,List.countP_cons,List.countP_nil]
 by_cases h:o.client=c <;> simp[h]
theorem uW (o:HOp):co o none=o:=rfl
theorem Sync.next {h:List HEv} {i:Nat} {s:RdS} {out:List HOp} {era:Int} {x:HEv} (S:Sync h i s out era) (hx:h[i]?=some x) (ht:(bR s x).2=true) :
  Sync h (i+1) (bR s x).1 (if x.kind=3 then out else if x.kind=1 then out++[mkOp h i x out era] else out) (if x.kind=3 then era+1 else era):=by
 have hok:=S.ok.next x
 rcases p5 ht with ⟨k1,hi⟩ | ⟨k2,hi⟩ | ⟨k3,hi⟩
 ·obtain⟨c0,c8,hb,_,_,_⟩:=tu hi
  have k3:¬x.kind=3:=by omega
  rw[if_neg k3,if_pos k1,if_neg k3]
  rw[nn k1 hi]at hok ⊢
  have hbl:=S.ok.blen
  have hnl:=S.ok.nlen
  have hnum:s.number[x.client.toNat]?.getD 0=cntC out x.client:=by
   rw[S.num x.client.toNat (by omega)]
   show cntC out _=_
   rw[Int.toNat_of_nonneg c0]
  have hcc:((x.client.toNat:Nat):Int)=x.client:=Int.toNat_of_nonneg c0
  refine⟨hok,by simp[S.len],fun j o hj=>?_,fun j o hj=>?_,fun c b hc hbc hb0=>?_,fun c hc=>?_,S.era⟩
  ·rcases Nat.lt_or_ge j s.all.length with hlt | hge
   ·have hj':s.all[j]?=some o:=by rw[List.getElem?_append_left hlt]at hj; exact hj
    rw[List.getElem?_append_left (by rw[S.len]; exact hlt),S.outs j o hj']
    obtain⟨o0,o8⟩:=S.cli j o hj'
    congr 1
    unfold o9
    simp only
    by_cases he:o.client=x.client
    ·rw[he,hb,if_neg (by simp; omega),List.getElem?_set_self (by omega),if_neg (by simp; omega)]
    ·rw[List.getElem?_set_ne (by omega)]
     split
     ·rw[gB _ hx,if_neg k3,if_neg (fun e=>he e.symm)]
     ·rfl
   ·have hje:j=s.all.length:=by
     have:=(List.getElem?_eq_some_iff.1 hj).1
     simp at this; omega
    subst hje
    rw[List.getElem?_append_right (Nat.le_refl _),Nat.sub_self]at hj
    simp only[List.getElem?_cons_zero,Option.some.injEq]at hj
    subst hj
    rw[List.getElem?_append_right (by rw[S.len]; exact Nat.le_refl _),S.len,Nat.sub_self]
    simp only[List.getElem?_cons_zero,Option.some.injEq]
    unfold o9 mkOp
    simp only
    rw[List.getElem?_set_self (by omega),if_pos rfl,bF,hnum,S.era,S.ok.read]
  ·rcases Nat.lt_or_ge j s.all.length with hlt | hge
   ·exact S.cli j o (by rw[List.getElem?_append_left hlt]at hj; exact hj)
   ·rw[List.getElem?_append_right hge]at hj
    have:j-s.all.length=0:=by have:=(List.getElem?_eq_some_iff.1 hj).1; simpa using this
    rw[this]at hj
    simp only[List.getElem?_cons_zero,Option.some.injEq]at hj
    subst hj
    exact⟨c0,c8⟩
  ·simp only at hbc ⊢
   by_cases he:x.client.toNat=c
   ·subst he
    rw[List.getElem?_set_self (by omega)]at hbc
    cases hbc
    refine⟨_,by rw[show ((s.all.length:Int)+1-1).toNat=s.all.length by omega,List.getElem?_append_right (Nat.le_refl _),Nat.sub_self]; rfl,hcc.symm⟩
   ·rw[List.getElem?_set_ne he]at hbc
    obtain⟨o,ho,hoc⟩:=S.own c b hc hbc hb0
    exact⟨o,iJ ho,hoc⟩
  ·simp only
   rw[ye,mkOp,rG]
   show _=some (cntC out c+if x.client=(c:Int) then 1 else 0)
   by_cases he:x.client.toNat=c
   ·subst he
    rw[List.getElem?_set_self (by omega),hnum,if_pos hcc.symm,hcc]
   ·rw[List.getElem?_set_ne he,S.num c hc,if_neg (by omega),Int.add_zero]
 ·obtain⟨c0,c8,_,_,b,o,hb,hbp,hog,hof,_⟩:=sM S.ok hi
  have k3:¬x.kind=3:=by omega
  have k1:¬x.kind=1:=by omega
  rw[if_neg k3,if_neg k1,if_neg k3]
  rw[nk k2 hi hb hof]at hok ⊢
  have hbl:=S.ok.blen
  have hcc:((x.client.toNat:Nat):Int)=x.client:=Int.toNat_of_nonneg c0
  obtain⟨o',ho',hoc⟩:=S.own x.client.toNat b (by omega) hb (by omega)
  rw[hog]at ho'
  cases ho'
  rw[hcc]at hoc
  have hbi:(((b-1).toNat:Nat):Int)+1=b:=by omega
  have hlt:=(List.getElem?_eq_some_iff.1 hog).1
  refine⟨hok,by simp[S.len],fun j q hj=>?_,fun j q hj=>?_,fun c d hc hbc hb0=>?_,S.num,S.era⟩
  ·simp only at hj ⊢
   by_cases he:(b-1).toNat=j
   ·subst he
    rw[List.getElem?_set_self hlt]at hj
    cases hj
    rw[S.outs _ o hog]
    congr 1
    unfold o9
    simp only
    rw[hoc,hb,if_pos (by rw[hbi]),gB _ hx,if_neg k3,if_pos rfl,List.getElem?_set_self (by omega),if_neg (by simp; omega),co,S.ok.read]
    try rw[hoc]
   ·rw[List.getElem?_set_ne he]at hj
    rw[S.outs j q hj]
    obtain⟨q0,q8⟩:=S.cli j q hj
    congr 1
    unfold o9
    simp only
    by_cases hq:q.client=x.client
    ·rw[hq,hb,if_neg (by simp; omega),List.getElem?_set_self (by omega),if_neg (by simp; omega)]
    ·rw[List.getElem?_set_ne (by omega)]
     split
     ·rw[gB _ hx,if_neg k3,if_neg (fun e=>hq e.symm)]
     ·rfl
  ·simp only at hj
   by_cases he:(b-1).toNat=j
   ·subst he
    rw[List.getElem?_set_self hlt]at hj
    cases hj
    exact S.cli _ o hog
   ·rw[List.getElem?_set_ne he]at hj
    exact S.cli j q hj
  ·simp only at hbc ⊢
   by_cases he:x.client.toNat=c
   ·subst he
    rw[List.getElem?_set_self (by omega)]at hbc
    cases hbc
    exact absurd rfl hb0
   ·rw[List.getElem?_set_ne he]at hbc
    obtain⟨q,hq,hqc⟩:=S.own c d hc hbc hb0
    by_cases hed:(b-1).toNat=(d-1).toNat
    ·rw[←hed,hog]at hq
     cases hq
     exact absurd hqc (by omega)
    ·exact⟨q,by rw[List.getElem?_set_ne hed]; exact hq,hqc⟩
 ·have k1:¬x.kind=1:=by omega
  rw[if_pos k3,if_pos k3]
  rw[kQ k3]at hok ⊢
  have hz:∀b∈fl,b=0:=by decide
  refine⟨hok,S.len,fun j q hj=>?_,S.cli,fun c d hc hbc hb0=>absurd (hz d (List.mem_of_getElem? hbc)) hb0,S.num,by rw[S.era]⟩
  simp only at hj
  rw[S.outs j q hj]
  congr 1
  unfold o9
  simp only
  rw[if_neg (c:=fl[q.client.toNat]?=some ((j:Int)+1)) (fun e=>by have:=hz _ (List.mem_of_getElem? e); omega)]
  split
  ·rw[gB _ hx,if_pos k3,uW]
  ·rfl
theorem vN (h:List HEv):∀(n:Nat) (s:RdS) (i:Nat) (out:List HOp) (era:Int),h.length-i=n→i≤h.length→Sync h i s out era→(goS s (h.drop i) i).2<0→(goS s (h.drop i) i).1.all=eS h n i out era
 | 0,s,i,out,era,hn,hi,S,_=>by
  have he:i=h.length:=by omega
  subst he
  rw[List.drop_length,eS]
  refine List.ext_getElem? fun j=>?_
  show s.all[j]?=out[j]?
  cases hj:s.all[j]? with
  | none=>rw[List.getElem?_eq_none (by rw[S.len]; exact List.getElem?_eq_none_iff.1 hj)]
  | some o =>
   rw[S.outs j o hj]
   unfold o9
   rw[List.drop_length]
   split
   ·rfl
   ·rfl
 | n+1,s,i,out,era,hn,hi,S,hlt=>by
  obtain⟨x,hx⟩:∃x,h[i]?=some x:=⟨_,List.getElem?_eq_getElem (by omega)⟩
  rw[mf hx]at hlt ⊢
  cases hb:(bR s x).2 with
  | false=>rw[hb]at hlt; simp at hlt; omega
  | true =>
   rw[hb]at hlt
   simp only[if_pos]at hlt ⊢
   have S':=S.next hx hb
   rw[vN h n _ (i+1) _ _ (by omega) (by omega) S' hlt,eS,hx]
   simp only
   by_cases k3:x.kind=3
   ·simp only[k3,if_pos]
   ·by_cases k1:x.kind=1
    ·simp only[if_neg k3,if_pos k1]
    ·simp only[if_neg k3,if_neg k1]
theorem E5 (h:List HEv):Sync h 0 rd0 [] 0:=by
 have hz:∀b∈fl,b=0:=by decide
 refine⟨rz,rfl,fun j o hj=>by simp[rd0]at hj,fun j o hj=>by simp[rd0]at hj,fun c b hc hb h0=>absurd (hz b (List.mem_of_getElem? hb)) h0,fun c hc=>?_,rfl⟩
 obtain⟨b,hb⟩:∃b,fl[c]?=some b:=⟨_,List.getElem?_eq_getElem hc⟩
 show fl[c]?=some 0
 rw[hb,hz b (List.mem_of_getElem? hb)]
theorem jV {h:List HEv} (hc:(chkH h).2=0):(rdH h).all=opsR h:=by
 unfold chkH at hc
 unfold rdH
 by_cases h8:8192<h.length
 ·rw[if_pos h8]at hc; cases hc
 ·rw[if_neg h8]at hc ⊢
  have hlt:(goS rd0 h 0).2<0:=by
   by_cases h0:0≤(goS rd0 h 0).2
   ·rw[if_pos h0]at hc; cases hc
   ·omega
  have:=vN h h.length rd0 0 [] 0 (by omega) (Nat.zero_le _) (E5 h) (by rw[List.drop_zero]; exact hlt)
  rw[List.drop_zero]at this
  exact this
end Go.Proofs.Ytmdgmolbamlicaa
namespace Go.Eng
open Go.RowKit
section
variable {P : Program} {T : Tab} {env : Env} {h : Upds} {n : Nat}
end
theorem m6:∀(l:List D),(dsAV l).flat=true
 | []=>rfl
 | d::l=>by simp[dsAV,AV.flat,m6 l]
theorem wI {n:Nat}:∀(l:List D),(dsAV l).lt n=true
 | []=>rfl
 | d::l=>by simp[dsAV,AV.lt,wI l]
theorem tM {ρ:Nat→Option Nat}:∀(l:List D),(dsAV l).ren ρ=dsAV l
 | []=>rfl
 | d::l=>by simp only[dsAV,AV.ren,tM l]
def chF (A:AV) (l:List D):AV :=.acons A (dsAV l)
section
variable {P : Program} {T : Tab} {env : Env} {h : Upds} {n : Nat}
end
end Go.Eng
namespace Go.Eng
open Go.RowKit
section
variable {P : Program} {T : Tab} {env : Env} {h : Upds} {n : Nat}
theorem jN (hT:aj P T) {t e L s:Nat} {re:TyR} {x:Operand} {α:Type} {enc:α→D} {xs:List α} (ht:bh T t=some (.array L e)) (he:lk T e=some re) (hx:ai env x=some (.d (.pt (.vec L s enc xs)))) (hL:Nat.ble L 1048576=true) (hs0:Nat.blt 0 s=true) :
  ab P (.slice t x none none none) env h n (some (.d (.arr s enc xs))) []:=.of_comes fun C G st σ w a o ho hA hdst hst hn=>by
 obtain⟨ud,hud,hdd⟩:=bn hT ht
 cases hdd
 have hL:=Nat.le_of_ble_eq_true hL
 have hs0:=Nat.le_of_ble_eq_true hs0
 have hsz:=(hT e re he).run_size (P:=P)
 obtain⟨ad,cs,hv,⟨hl,f,hf,hcs⟩,hc⟩:=RelV.iptr.1 (RelV.pt.1 (ak hst (hA.ev hx)).1)
 have hmax:(1048576:Nat)≤maxLen:=by decide
 refine .quiet (u :=.slice (some ad) L L) hst hdst ⟨rfl,rfl⟩ ?_ (RelV.arr.2 (.inr ⟨ad,L,by rw[hl],by omega,by omega,f,fun i hi=>⟨(hf i hi).1,(hf i hi).2,fun j u hj=>?_⟩⟩)) trivial
 ·simp[execOp,ho,Instr.sliceAt,hv,Instr.sureAddr,run_underlying hud,Instr.sliceBounds,Instr.sliceBound,asIntOf,hsz,Sem.run_bind,Sem.run_pure,Result.andThen_ok,Addr.add_zero']
 ·have hjs:j<s:=by rw[←(hf i hi).2]; exact (List.getElem?_eq_some_iff.1 hj).1
  have:=eH xs.length (fun i hi=>(hf i hi).2) i j hi hjs
  rw[hj]at this
  refine hc _ _ ?_
  rw[hcs,←hl]
  exact this
end
end Go.Eng
namespace Go.Eng
open Go.RowKit
section
variable {P : Program} {T : Tab} {env : Env} {h : Upds} {n : Nat}
end
end Go.Eng
namespace Go.Eng
open Go.RowKit
section
variable {P : Program} {T : Tab} {env : Env} {h : Upds} {n : Nat}
end
end Go.Eng
namespace Go.Eng
open Go.RowKit
open Go.ChangeMaps (setBlock)
section
variable {P : Program} {T : Tab} {env : Env} {h : Upds} {n : Nat}
theorem qf {t kt et:Nat} {x:Operand} {rm:Nat} {κ:Type} {enc:κ→D} {l:List (κ×AV)} (ht:P.underlying t=some (.map kt et)) (hx:ai env x=some (.mapr rm)) (hr:aQ h rm=some (.mo (mapC enc l))) :
  ab P (.range t x) env h n (some (.ptr n [])) [(n,some (.mi (.mapr rm) l.length l.length []))]:=.of_comes fun C G st σ w a o ho hA hd hst hn=>by
 obtain⟨b,c,hs,hu⟩:=RelV.mapr.1 (ak hst (hA.ev hx)).1
 have hgm:G rm:=(ak hst (hA.ev hx)).2
 have hrow:=hA.row _ _ hr
 obtain⟨b',es,hb1,hb2,hb3,hb4⟩:=hst.rows rm _ hrow
 rw[hs]at hb2
 cases hb2
 have hl:es.size=l.length:=by
  have:=((bZ l _).1 hb4).len
  simpa using this
 have hnn:¬G n:=hn n (Nat.le_refl _) (by omega)
 have hne:rm≠n:=fun e=>hnn (e ▸ hgm)
 have hnew:=aA.freshBy hst hnn (w':=w.alloc (.mapIter (some b) es.size #[] es.size)) (by
   refine⟨rfl,rfl,rfl,by simp,fun k hk _=>?_⟩
   exact heap_alloc_old w _ hk) (Nat.le_refl _) (b:=w.heap.size) (c:=1) (.mi (.mapr rm) l.length l.length []) hgm (fun σ' X' h1 _ hs'=>⟨w.heap.size,b,hs',by rw[←hl]; exact heap_alloc_new w _,h1 (.mapr rm) false _ hgm ⟨b,1,hs,rfl⟩⟩)
 refine⟨some (.ptr n []),[(n,some (.mi (.mapr rm) l.length l.length []))],.value (.pointer (some ⟨w.heap.size,0,none⟩)),.pointer (some ⟨w.heap.size,0,none⟩),w.alloc (.mapIter (some b) es.size #[] es.size),fun q=>if q=n then some (w.heap.size,1) else σ q,fun q=>G q∨q=n,⟨rfl,rfl⟩,?_,.inl rfl,?_,fun r hr=>.inl hr,fun r hr=>hr.imp id (fun e=>by omega)⟩
 ·have hget:(getObj b).run P w=.ok (.map es es.size) w:=by simp[getObj,Sem.run,hb3]
  simp[execOp,ho,Instr.range,run_underlying ht,hu,newObj,Sem.run,hget]
 ·rw[St.put_upd]
  exact hnew.set hd (RelV.ptr.2 ⟨w.heap.size,1,by simp,by simp[aV]⟩) (.inr rfl)
theorem bI.at {κ:Type} {enc:κ→D} {σ:aB} {w:World} {X:Nat→Prop}:∀(l:List (κ×AV)) (es:List MapEntry),bI σ w X enc l es→∀(i:Nat) (e:MapEntry),es[i]?=some e →
  ∃k v,l[i]?=some (k,v)∧RelV σ w X (.d (enc k)) e.key∧RelV σ w X v e.val
 | [],es,h,i,e,he=>by rw[show es=[] from h]at he; simp at he
 | (k,v)::l,es,h,i,e,he=>by
  obtain⟨e0,es',rfl,h1,h2,h3⟩:=h
  cases i with
  | zero =>
   simp only[List.getElem?_cons_zero,Option.some.injEq]at he
   subst he
   exact⟨k,v,rfl,h1,h2⟩
  | succ i=>exact bI.at l es' h3 i e (by simpa using he)
theorem qM {x:Operand} {r rm L i:Nat} {seen:List Nat} {κ:Type} {enc:κ→D} {l:List (κ×AV)} {k:κ} {v:AV} (hx:ai env x=some (.ptr r [])) (hr:aQ h r=some (.mi (.mapr rm) L L (seen++[i]))) (hm:aQ h rm=some (.mo (mapC enc l))) (hL:L=l.length) (hi:l[i]?=some (k,v)) :
  ab P (.entry x) env h n (some (.tup (.acons (.d (enc k)) (.acons v .anil)))) []:=.of_comes fun C G st σ w a o ho hA hd hst hn=>by
 subst hL
 have hrow:=hA.row _ _ hr
 have hrowm:=hA.row _ _ hm
 obtain⟨b,m,hb1,hb2,hb3⟩:=hst.rows r _ hrow
 obtain⟨bm,es,hm0,hm1,hm2,hm3⟩:=hst.rows rm _ hrowm
 obtain⟨bm',c',e1,e2⟩:=hb3
 rw[hm1]at e1
 cases e1
 simp only[List.cons.injEq,Value.map.injEq,Option.some.injEq,and_true]at e2
 subst e2
 obtain⟨b',c',hs',hu⟩:=RelV.ptr.1 (ak hst (hA.ev hx)).1
 rw[hb1]at hs'
 cases hs'
 have hent:=(bZ l _).1 hm3
 have hlen:es.size=l.length:=by simpa using hent.len
 have hlt:i<es.size:=by rw[hlen]; exact (List.getElem?_eq_some_iff.1 hi).1
 have hei:es[i]?=some es[i]:=Array.getElem?_eq_getElem hlt
 have hbi:=hm0 i _ hei
 obtain⟨k',v',q1,q2,q3⟩:=bI.at l _ hent i es[i] (by simp)
 rw[hi]at q1
 cases q1
 have hnd:(es.toList.map (·.born)).Nodup:=by
  rw[show es.toList.map (·.born)=List.range es.size by
   apply List.ext_getElem?
   intro j
   rw[List.getElem?_map]
   by_cases hj:j<es.size
   ·rw[List.getElem?_eq_getElem (by simpa using hj),List.getElem?_range hj]
    have:=hm0 j _ (Array.getElem?_eq_getElem hj)
    simp[this]
   ·rw[List.getElem?_eq_none (by simpa using hj),List.getElem?_eq_none (by simpa using hj)]; rfl]
  exact List.nodup_range
 refine .quiet (u :=.tuple #[es[i].key,es[i].val]) hst hd ⟨rfl,rfl⟩ ?_ ?_ ?_
 ·have hrun:=run_entry_at (P:=P) w b m l.length seen.toArray es es.size es[i] (by rw[hb2,hbi,hlen,List.push_toArray]) hm2 (by simp) hnd
  simp only[execOp,ho,hu,aV,Sem.run_bind,hrun,Result.andThen_ok,Sem.run_pure]
 ·unfold RelV
  rw[if_neg (by simp[AV.isAgg])]
  exact⟨_,rfl,_,_,rfl,q2,_,_,rfl,q3,rfl⟩
 ·exact⟨trivial,(ct l).1 (hst.rowsG rm _ hrowm).2 (k,v) (List.mem_of_getElem? hi),trivial⟩
variable {sz : Nat} {all rest : List Oper} {K : Env → Upds → Nat → Prop}
theorem lW {d:Tmp} {x:Operand} {ty:TypeId} {pos:String} {af:Array Edge} {r rm L:Nat} {seen:List Nat} {κ:Type} {enc:κ→D} {l:List (κ×AV)} (hd:Nat.blt d sz=true) (hx:ai env x=some (.ptr r []))
  (hr:aQ h r=some (.mi (.mapr rm) L L seen)) (hm:aQ h rm=some (.mo (mapC enc l))) (hL:L=l.length)
  (hend:(∀i,i<l.length→i∈seen)→RegS P all sz rest (n+8) ((d,.tup (.acons (.bool false) .anil))::env) h K)
  (hgo:∀i k v,l[i]?=some (k,v)→i ∉ seen→RegS P all sz rest (n+8) ((d,.tup (.acons (.bool true) (.acons (.d (enc k)) (.acons v .anil))))::env) ((r,some (.mi (.mapr rm) L L (seen++[i])))::h) K) :
  RegS P all sz (⟨some d,.next x false,ty,pos,af,none⟩::rest) n env h K:=by
 subst hL
 intro C σ w a hst Q hQ
 have hrow:(⟨env,h,n,sz,64⟩:St).row r=some (.mi (.mapr rm) l.length l.length seen):=by rw[←ba]; exact hr
 have hrowm:(⟨env,h,n,sz,64⟩:St).row rm=some (.mo (mapC enc l)):=by rw[←ba]; exact hm
 obtain⟨b,m,hb1,hb2,hb3⟩:=hst.rows r _ hrow
 obtain⟨bm,es,hm0,hm1,hm2,hm3⟩:=hst.rows rm _ hrowm
 obtain⟨bm',c',e1,e2⟩:=hb3
 rw[hm1]at e1
 cases e1
 simp only[List.cons.injEq,Value.map.injEq,Option.some.injEq,and_true]at e2
 subst e2
 obtain⟨b',c',hs',hu⟩:=RelV.ptr.1 (ak hst hx).1
 rw[hb1]at hs'
 cases hs'
 have hlen:es.size=l.length:=by simpa using ((bZ l _).1 hm3).len
 have hborn:∀e∈es.toList,e.born<l.length:=by
  intro e he
  obtain⟨i,hi⟩:=List.getElem?_of_mem he
  have hi':es[i]?=some e:=by simpa using hi
  rw[hm0 i e hi']
  have:=(Array.getElem?_eq_some_iff.1 hi').1
  omega
 have hdst:ez (some d) sz=true:=hd
 unfold wpListIn
 rw[if_pos (show Region.wanted _ _=true from rfl)]
 refine⟨fun _ _=>trivial,?_⟩
 rcases run_next_at (P:=P) w ty b m l.length l.length seen.toArray es es.size hb2 hm2 hborn (Nat.le_refl _)with ⟨h0,hrun⟩ | ⟨e,he,w1,hw1,hrun⟩
 ·have hex:(execOp a.eval ⟨some d,.next x false,ty,pos,af,none⟩).run P w=.ok (.value (.tuple #[.bool false])) w:=by
   simp only[execOp,hu,aV,Sem.run_bind,hrun,Result.andThen_ok,Sem.run_pure]
  rw[io hex (fun c hc=>by cases hc)]
  have hst2:=hst.set (v:=some (.tup (.acons (.bool false) .anil))) (u :=.tuple #[.bool false]) (dst:=some d) (eG hdst) (by
   unfold RelV
   rw[if_neg (by simp[AV.isAgg])]
   exact⟨_,rfl,_,_,rfl,RelV.sc.2 ⟨rfl,rfl⟩,rfl⟩) ⟨trivial,trivial⟩
  rw[lu]at hst2
  refine hend ?_ C σ w _ ?_ Q hQ
  ·intro i hi
   have hlt:i<es.size:=by omega
   have h1:es[i].born=i:=hm0 i _ (Array.getElem?_eq_getElem hlt)
   by_cases hc:i∈seen
   ·exact hc
   ·exfalso
    have:es[i]∈leftOf es seen.toArray:=by
     unfold leftOf
     rw[Array.mem_filter]
     refine⟨by simp,?_⟩
     rw[h1]
     simpa using hc
    have:=Array.size_pos_of_mem this
    omega
  ·have:=hst2.grow (G':=fun r=>r<n+8) (fun r hr=>Nat.lt_of_lt_of_le hr (Nat.le_add_right n 8))
   exact { this with }
 ·have hheap:w1.heap=w.heap:=by rcases hw1 with rfl | rfl <;> rfl
  have hst1:aA C (fun r=>r<n) ⟨env,h,n,sz,64⟩ σ w1 a:=by
   rcases hw1 with rfl | rfl
   ·exact hst
   ·exact hst.drew
  obtain⟨bm2,es2,_,k1,k2,k3⟩:=hst1.rows rm _ hrowm
  rw[hm1]at k1
  cases k1
  rw[hheap,hm2]at k2
  cases k2
  have hmem:e∈es.toList∧e.born ∉ seen:=by
   unfold leftOf at he
   rw[Array.mem_toList_iff,Array.mem_filter]at he
   exact⟨by simpa using he.1,by simpa using he.2⟩
  obtain⟨i,hi⟩:=List.getElem?_of_mem hmem.1
  have hi':es[i]?=some e:=by simpa using hi
  have hbi:=hm0 i e hi'
  obtain⟨k,v,q1,q2,q3⟩:=bI.at l _ ((bZ l _).1 k3) i e hi
  have hex:(execOp a.eval ⟨some d,.next x false,ty,pos,af,none⟩).run P w=.ok (.value (.tuple #[.bool true,e.key,e.val])) (setBlock w1 b (.mapIter (some m) l.length (seen.toArray.push e.born) es.size)):=by
   simp only[execOp,hu,aV,Sem.run_bind,hrun,Result.andThen_ok,Sem.run_pure]
  rw[io hex (fun c hc=>by cases hc)]
  have hgv:v.within (fun r=>r<n):=(ct l).1 (hst.rowsG rm _ hrowm).2 (k,v) (List.mem_of_getElem? q1)
  have hgm:rm<n:=(hst.rowsG rm _ hrowm).1
  have hst2:=hst1.set (v:=some (.tup (.acons (.bool true) (.acons (.d (enc k)) (.acons v .anil))))) (u :=.tuple #[.bool true,e.key,e.val]) (dst:=some d) (eG hdst) (by
   unfold RelV
   rw[if_neg (by simp[AV.isAgg])]
   exact⟨_,rfl,_,_,rfl,RelV.sc.2 ⟨rfl,rfl⟩,_,_,rfl,q2,_,_,rfl,q3,rfl⟩) ⟨trivial,trivial,hgv,trivial⟩
  rw[lu]at hst2
  have hrow2:(⟨putE (some d) (some (.tup (.acons (.bool true) (.acons (.d (enc k)) (.acons v .anil))))) env,[]++h,n,sz,64⟩:St).row r=some (.mi (.mapr rm) l.length l.length seen):=by rw[←ba]; exact hr
  have hst3:=hst2.writeObj (o' :=.mapIter (some m) l.length (seen.toArray.push e.born) es.size) (row :=.mi (.mapr rm) l.length l.length (seen++[i])) hrow2 hb1 (by rw[hheap]; exact hb2) rfl hgm
   (fun w' ht hh'=>⟨b,m,hb1,by rw[hh',hbi,hlen,List.push_toArray],ht (.mapr rm) false _ hgm ⟨m,1,hm1,rfl⟩⟩)
  refine hgo i k v q1 (by rw[←hbi]; exact hmem.2) C σ _ _ ?_ Q hQ
  have:=hst3.grow (G':=fun r=>r<n+8) (fun r hr=>Nat.lt_of_lt_of_le hr (Nat.le_add_right n 8))
  exact { this with }
end
end Go.Eng
namespace Go.Eng
open Go.RowKit
def asC {κ ν:Type} (encV:ν→D) (l:List (κ×ν)):List (κ×AV):=l.map fun p=>(p.1,.d (encV p.2))
def MapP {κ ν:Type} (enc:κ→D) (encV:ν→D) (l:List (κ×ν)) (es:Array MapEntry):Prop :=
 ∃l',l'.Perm l∧∃(σ:aB) (w:World) (X:Nat→Prop),bI σ w X enc (asC encV l') es.toList
theorem Enc.flat {w w':World} {X X':Nat→Prop}:∀(d:D) (cs:List Value),d.plain→Enc w X d cs→Enc w' X' d cs:=by
 intro d
 induction d with
 | sc v=>intro cs _ h; exact h
 | nil=>intro cs _ h; exact h
 | cons a r iha ihr =>
  rintro cs ⟨p1,p2⟩ ⟨c1,c2,rfl,h1,h2⟩
  exact⟨c1,c2,rfl,iha _ p1 h1,ihr _ p2 h2⟩
 | vec n s enc xs ih =>
  rintro cs p ⟨hn,f,hf,rfl⟩
  exact⟨hn,f,fun i hi=>⟨ih _ _ (p _) (hf i hi).1,(hf i hi).2⟩,rfl⟩
 | arr s enc xs ih=>intro cs p; exact p.elim
 | pt x ih=>intro cs p; exact p.elim
 | arx s enc xs ih=>intro cs p; exact p.elim
 | re f S x ih=>intro cs p; exact p.elim
 | jk S q n=>intro cs p; exact p.elim
theorem RelV.flat {σ σ':aB} {w w':World} {X X':Nat→Prop} {d:D} {u:Value} (hp:d.plain) (h:RelV σ w X (.d d) u):RelV σ' w' X' (.d d) u:=by
 unfold RelV at h ⊢
 split at h <;> rename_i hg
 ·rw[if_pos hg]
  obtain⟨c,rfl,hc⟩:=h
  exact⟨c,rfl,Enc.flat _ _ hp hc⟩
 ·rw[if_neg hg]
  exact Enc.flat _ _ hp h
theorem bI.flat {κ ν:Type} {enc:κ→D} {encV:ν→D} {σ σ':aB} {w w':World} {X X':Nat→Prop} (hk:∀k,(enc k).plain) (hv:∀v,(encV v).plain):∀(l:List (κ×ν)) (es:List MapEntry),bI σ w X enc (asC encV l) es→bI σ' w' X' enc (asC encV l) es
 | [],es,h=>h
 | (k,v)::l,es,h=>by
  obtain⟨e,es',rfl,h1,h2,h3⟩:=h
  exact⟨e,es',rfl,RelV.flat (hk k) h1,RelV.flat (hv v) h2,bI.flat hk hv l es' h3⟩
theorem aM.mo_mq {κ ν:Type} {enc:κ→D} {encV:ν→D} {l l':List (κ×ν)} (hp:l'.Perm l):aM (.mo (mapC enc (asC encV l'))) (.mq (MapP enc encV l)):=by
 rintro σ w X r ⟨b,es,h0,h1,h2,h3⟩
 exact⟨b,es,h0,h1,h2,l',hp,σ,w,X,(bZ _ _).1 h3⟩
theorem bq {κ ν:Type} {enc:κ→D} {encV:ν→D} {n:Nat}:∀(l:List (κ×ν)),(mapC enc (asC encV l)).lt n=true
 | []=>rfl
 | (k,v)::l=>by simp[asC,mapC,AV.lt]; exact bq l
theorem aY {κ ν:Type} {enc:κ→D} {encV:ν→D} {ρ:Nat→Option Nat}:∀(l:List (κ×ν)),(mapC enc (asC encV l)).ren ρ=mapC enc (asC encV l)
 | []=>rfl
 | (k,v)::l=>by
  have:=aY (enc:=enc) (encV:=encV) (ρ:=ρ) l
  simp only[asC,List.map_cons,mapC,AV.ren]at this ⊢
  rw[this]
section
variable {P : Program} {sz n : Nat} {c : Code} {Q : Exit → St → Prop} {env : Env} {h : Upds}
theorem aA.open {κ ν:Type} {enc:κ→D} {encV:ν→D} {l:List (κ×ν)} {r:Nat} {C:Ctx} {G:Nat→Prop} {σ:aB} {w:World} {a:Act} (hrow:aQ h r=some (.mq (MapP enc encV l))) (hk:∀k,(enc k).plain) (hv:∀v,(encV v).plain)
    (hst:aA C G ⟨env,h,n,sz,64⟩ σ w a):∃l',l'.Perm l∧aA C G ⟨env,(r,some (.mo (mapC enc (asC encV l'))))::h,n,sz,64⟩ σ w a:=by
  have hrow':(⟨env,h,n,sz,64⟩:St).row r=some (.mq (MapP enc encV l)):=by rw[←ba]; exact hrow
  obtain⟨b,es,h0,h1,h2,l',hp,σ0,w0,X0,h3⟩:=hst.rows r _ hrow'
  refine⟨l',hp,?_⟩
  have hnew:∀q,(⟨env,(r,some (.mo (mapC enc (asC encV l'))))::h,n,sz,64⟩:St).row q=if r=q then some (.mo (mapC enc (asC encV l'))) else (⟨env,h,n,sz,64⟩:St).row q:=fun q=>by
    simp only[St.row,aN]
    split <;> rfl
  have hX:(⟨env,(r,some (.mo (mapC enc (asC encV l'))))::h,n,sz,64⟩:St).X C.X0 σ=(⟨env,h,n,sz,64⟩:St).X C.X0 σ:=by
    funext q
    refine propext ⟨fun hq=>hq.elim .inl fun⟨r1,row,c,g1,g2⟩=>?_,fun hq=>hq.elim .inl fun⟨r1,row,c,g1,g2⟩=>?_⟩
    · rw[hnew]at g1
      split at g1
      · rename_i e; subst e; exact .inr ⟨_,_,c,hrow',g2⟩
      · exact .inr ⟨r1,row,c,g1,g2⟩
    · by_cases e:r=r1
      · subst e; exact .inr ⟨r,_,c,by rw[hnew,if_pos rfl],g2⟩
      · exact .inr ⟨r1,row,c,by rw[hnew,if_neg e]; exact g1,g2⟩
  exact
    { env:=fun i v hi=>by rw[hX]; exact hst.env i v hi
      envG:=hst.envG
      rows:=fun q row hq=>by
        rw[hX]
        rw[hnew]at hq
        split at hq
        · rename_i e
          subst e
          cases hq
          exact⟨b,es,h0,h1,h2,(bZ _ _).2 (bI.flat hk hv _ _ h3)⟩
        · exact hst.rows q row hq
      rowsG:=fun q row hq=>by
        rw[hnew]at hq
        split at hq
        · rename_i e
          subst e
          cases hq
          refine⟨(hst.rowsG r _ hrow').1,?_⟩
          refine (ct _).2 fun p hp=>?_
          obtain⟨q,_,rfl⟩:=List.mem_map.1 hp
          trivial
        · exact hst.rowsG q row hq
      inj:=fun r1 r2 row1 row2 b1 c1 c2 g1 g2 g3 g4=>by
        have key:∀r1 row1,(⟨env,(r,some (.mo (mapC enc (asC encV l'))))::h,n,sz,64⟩:St).row r1=some row1→∃row2,(⟨env,h,n,sz,64⟩:St).row r1=some row2:=fun r1 row1 g=>by
          rw[hnew]at g
          split at g
          · rename_i e; subst e; exact⟨_,hrow'⟩
          · exact⟨_,g⟩
        obtain⟨_,k1⟩:=key _ _ g1
        obtain⟨_,k2⟩:=key _ _ g2
        exact hst.inj _ _ _ _ _ _ _ k1 k2 g3 g4
      high:=fun r1 row1 b1 c1 g1 g2=>by
        rw[hnew]at g1
        split at g1
        · rename_i e; subst e; exact hst.high _ _ _ _ hrow' g2
        · exact hst.high _ _ _ _ g1 g2
      size:=hst.size
      below:=hst.below
      defers:=hst.defers
      sz:=hst.sz
      x0:=hst.x0
      agree:=hst.agree
      baseG:=hst.baseG
      bs:=hst.bs
      rok:=hst.rok
      glob:=hst.glob }
theorem nN {κ ν:Type} {enc:κ→D} {encV:ν→D} {l:List (κ×ν)} (r:Nat) (hrow:aQ h r=some (.mq (MapP enc encV l))) (hk:∀k,(enc k).plain) (hv:∀v,(encV v).plain)
  (hx:∀l',l'.Perm l→WC P sz c Q env ((r,some (.mo (mapC enc (asC encV l'))))::h) n):WC P sz c Q env h n:=by
 intro C σ w a hst
 obtain⟨l',hp,h1⟩:=aA.open hrow hk hv hst
 exact hx l' hp C σ w a h1
end
end Go.Eng
namespace Go.Eng
open Go.RowKit
theorem Frz.fn {f:Fn} {p p' q q':AV} {r:Nat} {row:Row} (hp:FrzT r row p p') (hq:FrzT r row q q'):Frz r row (.fn f p q) (.fn f p' q'):=by
 refine⟨rfl,fun _=>rfl,fun G g=>⟨hp.1 G g.1,hq.1 G g.2⟩,fun σ w X X' hx hn hr cs hh=>?_⟩
 obtain⟨vs,us,rfl,h1,h2⟩:=hh
 exact⟨vs,us,rfl,hp.2 σ w X X' hx hn hr _ h1,hq.2 σ w X X' hx hn hr _ h2⟩
end Go.Eng
namespace Go.Proofs.Ytmdgmolbamlicaa
open Go.Eng Go.Plain
set_option maxHeartbeats 32000000
set_option maxRecDepth 20000
def mayB (o:HOp) (b:Int):Bool := !badO o.op b&&(decide (o.returned<0)||(decide (o.err=0)||decide (o.err=9)))
def bf (o:HOp):Bool:=decide (0≤o.returned)&&decide (o.err=0)
abbrev VMap:=List (Int×List UInt8)
def getV:VMap→Int→List UInt8
 | [],_=>zBk
 | (k',v)::l,k=>if k=k' then v else getV l k
def putV:VMap→Int→List UInt8→VMap
 | [],k,v=>[(k,v)]
 | (k',v')::l,k,v=>if k=k' then (k',v)::l else (k',v')::putV l k v
abbrev di (l:VMap):List Int:=l.map (·.1)
theorem iO (k:Int):∀(l:VMap) (i:Nat),(cW k (asC bc l) i=none∧k ∉ di l∧getV l k=zBk∧∀v,putV l k v=l++[(k,v)]) ∨
  ∃j v,cW k (asC bc l) i=some (i+j,.d (bc v))∧l[j]?=some (k,v)∧getV l k=v∧∀v',asC bc (putV l k v')=putC (asC bc l) j (.d (bc v'))∧putV l k v'=l.set j (k,v')
 | [],i=>.inl ⟨rfl,by simp,rfl,fun _=>rfl⟩
 | (k',v)::l,i=>by
  by_cases h:k=k'
  ·subst h
   exact .inr ⟨0,v,by simp[asC,cW],rfl,by simp[getV],fun v'=>⟨by simp[putV,asC,putC],by simp[putV]⟩⟩
  ·rcases iO k l (i+1)with ⟨h1,h2,h3,h4⟩ | ⟨j,v0,h1,h2,h3,h4⟩
   ·refine .inl ⟨?_,?_,?_,fun v'=>?_⟩
    ·simp only[asC,List.map_cons,cW,if_neg h]; exact h1
    ·simp[h,h2]
    ·simp[getV,if_neg h,h3]
    ·simp[putV,if_neg h,h4]
   ·refine .inr ⟨j+1,v0,?_,by simpa using h2,by simp[getV,if_neg h,h3],fun v'=>⟨?_,?_⟩⟩
    ·simp only[asC,List.map_cons,cW,if_neg h]
     rw[show i+(j+1)=i+1+j by omega]
     exact h1
    ·have:=(h4 v').1
     simp only[asC,putV,if_neg h,List.map_cons,putC]at this ⊢
     rw[this]
    ·simp[putV,if_neg h,(h4 v').2]
theorem tA {l:VMap} {k:Int} {v:List UInt8} (hn:(di l).Nodup) (h:(k,v)∈l):getV l k=v:=by
 induction l with
 | nil=>cases h
 | cons p l ih =>
  obtain⟨k',v'⟩:=p
  simp only[di,List.map_cons,List.nodup_cons]at hn
  rcases List.mem_cons.1 h with e | e
  ·cases e; simp[getV]
  ·have hne:k≠k':=fun e2=>hn.1 (List.mem_map.2 ⟨(k,v),e,e2⟩)
   simp only[getV,if_neg hne]
   exact ih hn.2 e
theorem qD {l:VMap} {k:Int} (h:k ∉ di l):getV l k=zBk:=by
 rcases iO k l 0 with ⟨_,_,h3,_⟩ | ⟨j,v,_,h2,_⟩
 ·exact h3
 ·exact absurd (List.mem_map.2 ⟨(k,v),List.mem_of_getElem? h2,rfl⟩) h
theorem xV {l l':VMap} (hn:(di l).Nodup) (hp:l'.Perm l) (k:Int):getV l' k=getV l k:=by
 have hn':(di l').Nodup:=(hp.map _).nodup_iff.2 hn
 by_cases h:k∈di l
 ·obtain⟨⟨k',v⟩,h1,h2⟩:=List.mem_map.1 h
  simp only at h2
  subst h2
  rw[tA hn h1,tA hn' (hp.mem_iff.2 h1)]
 ·rw[qD h,qD (fun h'=>h ((hp.map _).mem_iff.1 h'))]
theorem xL (l:VMap) (k:Int) (v:List UInt8) (hn:(di l).Nodup):(di (putV l k v)).Nodup:=by
 rcases iO k l 0 with ⟨_,h2,_,h4⟩ | ⟨j,v0,_,h2,_,h4⟩
 ·rw[h4]
  simp only[di,List.map_append,List.map_cons,List.map_nil]
  exact List.nodup_append.2 ⟨hn,by simp,fun a ha b hb=>by simp at hb; subst hb; exact fun e=>h2 (e ▸ ha)⟩
 ·rw[(h4 v).2]
  have:di (l.set j (k,v))=di l:=by
   simp only[di,List.map_set]
   refine List.ext_getElem? fun i=>?_
   by_cases e:j=i
   ·subst e
    have hlt:=(List.getElem?_eq_some_iff.1 h2).1
    rw[List.getElem?_set_self (by simpa using hlt),List.getElem?_map,h2]; rfl
   ·rw[List.getElem?_set_ne e]
  rw[this]; exact hn
theorem AL (l:VMap) (k:Int) (v:List UInt8) (i:Int):getV (putV l k v) i=if i=k then v else getV l i:=by
 induction l with
 | nil =>
  by_cases h:i=k <;> simp[putV,getV,h]
 | cons p l ih =>
  obtain⟨k',v'⟩:=p
  by_cases h:k=k'
  ·subst h
   by_cases h2:i=k <;> simp[putV,getV,h2]
  ·simp only[putV,if_neg h,getV]
   by_cases h2:i=k'
   ·have:i≠k:=fun e=>h (e.symm.trans h2)
    simp[h2,this]
    intro e; exact absurd e.symm h
   ·simp[if_neg h2,ih]
theorem lq (k:Int) (v:List UInt8):∀(l:VMap),(di l).Nodup→(putV l k v).Perm ((k,v)::l.filter fun p=>decide (p.1≠k))
 | [],_=>List.Perm.refl _
 | (k',v')::l,hn=>by
  simp only[di,List.map_cons,List.nodup_cons]at hn
  by_cases h:k=k'
  ·subst h
   have:l.filter (fun p=>decide (p.1≠k))=l:=List.filter_eq_self.2 fun p hp=>by
    have:p.1≠k:=fun e=>hn.1 (List.mem_map.2 ⟨p,hp,e⟩)
    simp[this]
   rw[putV,if_pos rfl,List.filter_cons,if_neg (by simp),this]
  ·have h2:decide ((k',v').1≠k)=true:=by simp[Ne.symm h]
   rw[putV,if_neg h,List.filter_cons,if_pos h2]
   exact ((lq k v l hn.2).cons _).trans (List.Perm.swap _ _ _)
theorem xx {l l':VMap} (hn:(di l).Nodup) (hp:l'.Perm l) (k:Int) (v:List UInt8):(putV l' k v).Perm (putV l k v):=
 (lq k v l' ((hp.map _).nodup_iff.2 hn)).trans (((hp.filter _).cons _).trans (lq k v l hn).symm)
def eJ (l:VMap) (seen:List Nat):VMap:=seen.filterMap fun i=>l[i]?
def remI (n:Nat) (seen:List Nat):List Nat:=(List.range n).filter fun j=>decide (j ∉ seen)
theorem sZ:∀(l:VMap),eJ l (List.range l.length)=l
 | []=>rfl
 | a::l=>by
  have ih:=sZ l
  unfold eJ at ih ⊢
  rw[List.length_cons,List.range_succ_eq_map,List.filterMap_cons]
  simp only[List.getElem?_cons_zero,List.filterMap_map]
  rw[show ((fun i=>(a::l)[i]?) ∘ Nat.succ)=fun i=>l[i]? from funext fun i=>by simp,ih]
theorem oN {i:Nat} {seen:List Nat} (hs:i ∉ seen):∀n,i<n→(remI n seen).Perm (i::remI n (seen++[i]))
 | 0,h=>by omega
 | n+1,h=>by
  unfold remI
  rw[List.range_succ,List.filter_append,List.filter_append]
  by_cases e:i=n
  ·subst e
   have h1:(List.range i).filter (fun j=>decide (j ∉ seen))=(List.range i).filter (fun j=>decide (j ∉ seen++[i])):=by
    refine List.filter_congr fun j hj=>?_
    have:j≠i:=by have:=List.mem_range.1 hj; omega
    simp[this]
   rw[h1]
   have h2:[i].filter (fun j=>decide (j ∉ seen))=[i]:=by simp[hs]
   have h3:[i].filter (fun j=>decide (j ∉ seen++[i]))=[]:=by simp
   rw[h2,h3,List.append_nil]
   exact List.perm_append_comm
  ·have ih:=oN hs n (by omega)
   have h2:[n].filter (fun j=>decide (j ∉ seen++[i]))=[n].filter (fun j=>decide (j ∉ seen)):=by
    refine List.filter_congr fun j hj=>?_
    have:j≠i:=by simp at hj; omega
    simp[this]
   rw[h2]
   exact ih.append_right _
theorem BG {n:Nat} {seen:List Nat} (h:∀i,i<n→i∈seen):remI n seen=[]:=by
 refine List.filter_eq_nil_iff.2 fun j hj=>?_
 simp[h j (List.mem_range.1 hj)]
theorem qq {l:VMap} {seen:List Nat} {i:Nat} {p:Int×List UInt8} (h:l[i]?=some p):eJ l (seen++[i])=eJ l seen++[p]:=by
 simp[eJ,h]
def ei (l:VMap) (seen:List Nat):Prop:=(eJ l (seen++remI l.length seen)).Perm l
theorem CP (l:VMap):ei l []:=by
 unfold ei
 rw[show remI l.length []=List.range l.length from List.filter_eq_self.2 fun j _=>by simp,List.nil_append,sZ]
theorem ei.step {l:VMap} {seen:List Nat} {i:Nat} (h:ei l seen) (hi:i<l.length) (hs:i ∉ seen):ei l (seen++[i]):=by
 unfold ei at *
 refine List.Perm.trans ?_ h
 unfold eJ
 refine List.Perm.filterMap _ ?_
 rw[List.append_assoc]
 exact List.Perm.append_left _ (oN hs _ hi).symm
theorem ei.fin {l:VMap} {seen:List Nat} (h:ei l seen) (ha:∀i,i<l.length→i∈seen):(eJ l seen).Perm l:=by
 unfold ei at h
 rwa [BG ha,List.append_nil]at h
theorem ei.new {l:VMap} {seen:List Nat} {i:Nat} {k:Int} {v:List UInt8} (h:ei l seen) (hn:(di l).Nodup) (hi:l[i]?=some (k,v)) (hs:i ∉ seen):cW k (asC bc (eJ l seen)) 0=none:=by
 have h1:=h.step (List.getElem?_eq_some_iff.1 hi).1 hs
 unfold ei at h1
 have h2:eJ l (seen++[i]++remI l.length (seen++[i]))=eJ l seen++((k,v)::eJ l (remI l.length (seen++[i]))):=by
  simp[eJ,hi]
 rw[h2]at h1
 have h3:(di (eJ l seen++((k,v)::eJ l (remI l.length (seen++[i]))))).Nodup:=(h1.map _).nodup_iff.2 hn
 rcases iO k (eJ l seen) 0 with ⟨g,_⟩ | ⟨j,v0,_,g2,_⟩
 ·exact g
 ·exfalso
  simp only[di,List.map_append,List.map_cons]at h3
  have h4:=(List.nodup_append.1 h3).2.2
  exact h4 k (List.mem_map.2 ⟨(k,v0),List.mem_of_getElem? g2,rfl⟩) k List.mem_cons_self rfl
theorem zt {n i:Nat} {seen:List Nat} (hi:i<n) (hs:i ∉ seen):(remI n (seen++[i])).length<(remI n seen).length:=by
 have:=(oN hs n hi).length_eq
 rw[List.length_cons]at this
 omega
end Go.Proofs.Ytmdgmolbamlicaa
namespace Go.Proofs.Ytmdgmolbamlicaa
open Go.Eng Go.Plain
set_option maxHeartbeats 32000000
set_option maxRecDepth 20000
attribute [local irreducible] WC RegS RegD SeqQ BlkQ ScoQ RegK CutK Sat SatN FnIs LoopQ ab OpIs
theorem uZ (o:HOp) (b:Int):FnIs Try.prog 52 [.d (a9 o),.int .i64 b] [] (.bool (mayB o b)) []:=by
 have hb:=DK o.op b
 refine aq aa Try.func52 rfl rfl rfl ?_
 unfold mayB
 cases hbd:badO o.op b with
 | true =>
  rw[hbd]at hb
  refine z23 ?_
  exact⟨trivial,[],lf⟩
 | false =>
  rw[hbd]at hb
  cases h1:decide (o.returned<0) with
  | true =>
   refine z37 ?_
   exact⟨trivial,[],lf⟩
  | false =>
   cases h2:decide (o.err=0) with
   | true =>
    refine z40 ?_
    exact⟨trivial,[],lf⟩
   | false =>
    refine z43 ?_
    exact⟨trivial,[],lf⟩
theorem gR (o:HOp):FnIs Try.prog 58 [.d (a9 o)] [] (.bool (bf o)) []:=by
 refine aq aa Try.func58 rfl rfl rfl ?_
 unfold bf
 cases h1:decide (0≤o.returned) with
 | true =>
  refine z23 ?_
  exact⟨trivial,[],lf⟩
 | false =>
  refine z20 ?_
  exact⟨trivial,[],lf⟩
theorem gG (d:List UInt8) (hl:d.length=32):FnIs Try.prog 79 [.d (encB d)] [] (.d (bc d)) []:=by
 have hd:(byI d).length=32:=(fO d).trans hl
 refine aq aa Try.func79 rfl rfl rfl ?_;refine z7 ?_;refine rQ (mL aa rfl rfl rfl) ?_;refine z1 ?_;refine aO (A5 (enc:=cN) (s:=1) (ys:=byI d) aa rfl rfl rfl rfl rfl rfl rfl hd rfl ⟨_,⟨rfl,rfl,rfl⟩,rfl⟩) rfl ?_;refine z9 ?_
 exact⟨trivial,_,rfl,[],lf⟩
def opE (h:List HEv) (b:Int):Int:=if (chkH h).2=0 then (if b<1∨4096<b then 1 else 0) else (chkH h).2
def opL (h:List HEv) (b:Int):List HOp:=if opE h b=0 then opsH h else[]
theorem fL (h:List HEv) (b:Int) (hh:h.length≤9223372036854775807) (hal:(rdH h).all.length≤1048576):FnIs Try.prog 37 [.d (encH h),.int .i64 b] [] (.tup (.acons (.d (fv (opL h b))) (.acons (.int .i64 (opE h b)) .anil))) []:=by
 have ho:=wu h hh hal
 refine aq aa Try.func37 rfl rfl rfl ?_
 by_cases hc:(chkH h).2=0
 ·have d0:decide ((chkH h).2=0)=true:=dT hc
  rw[hc]at ho d0
  by_cases h1:b<1
  ·have d1:decide (b<1)=true:=dT h1
   have hE:opE h b=1:=by rw[opE,if_pos hc,if_pos (.inl h1)]
   rw[show opL h b=[] by rw[opL,hE,if_neg (by decide)],hE]
   refine z45 ?_
   exact⟨trivial,[],lg ⟨⟨_,rfl,AVLe.tup1 (jf _ _) rfl⟩,rfl,trivial⟩ trivial⟩
  ·have d1:decide (b<1)=false:=dF h1
   by_cases h2:4096<b
   ·have d2:decide (4096<b)=true:=dT h2
    have hE:opE h b=1:=by rw[opE,if_pos hc,if_pos (.inr h2)]
    rw[show opL h b=[] by rw[opL,hE,if_neg (by decide)],hE]
    refine z47 ?_
    exact⟨trivial,[],lg ⟨⟨_,rfl,AVLe.tup1 (jf _ _) rfl⟩,rfl,trivial⟩ trivial⟩
   ·have d2:decide (4096<b)=false:=dF h2
    have hE:opE h b=0:=by rw[opE,if_pos hc,if_neg (fun e=>e.elim h1 h2)]
    rw[show opL h b=opsH h by rw[opL,hE,if_pos rfl],hE]
    refine z50 ?_
    exact⟨trivial,[],lf⟩
 ·have d0:decide ((chkH h).2=0)=false:=dF hc
  have hE:opE h b=(chkH h).2:=by rw[opE,if_neg hc]
  rw[show opL h b=[] by rw[opL,hE,if_neg hc],hE]
  rw[show opsH h=[] from if_neg hc]at ho
  refine z44 ?_
  exact⟨trivial,[],lf⟩
abbrev ib (a d:Nat):Row :=.box 124 (.acons (.mapr a) (.acons (.mapr d) .anil))
abbrev fB (m:VMap):Row :=.mq (MapP i6 bc m)
abbrev qA (m:VMap):Row :=.mo (mapC i6 (asC bc m))
theorem me (k:Int):(i6 k).plain:=trivial
theorem my (v:List UInt8):(bc v).plain:=fun _=>trivial
theorem keyI:eD Try.prog 3 (fun a:Int=>i6 a) 1:=xN Try.underlying3 .i64
theorem qT (a d:VMap) (hn:(di d).Nodup):FnIs Try.prog 56 [.ptr 0 [],.ptr 0 [.fld 0 0],.mapr 2] [(0,ib 1 2),(1,fB a),(2,fB d)] (.tup .anil) [(0,ib 64 2),(64,fB d),(2,fB d)]:=by
 refine aq aa Try.func56 rfl rfl rfl ?_;refine nN 2 rfl me my fun m hm=>?_
 have hnm:(di m).Nodup:=(hm.map _).nodup_iff.2 hn
 refine z3 ?_;refine aO (iz) rfl ?_;refine z1 ?_;refine bH (aG aa rfl rfl rfl ⟨_,⟨_,⟨rfl,rfl,rfl⟩,rfl⟩,rfl⟩ rfl) ?_;refine z5 ?_;refine aO (qf (κ:=Int) (enc:=i6) (l:=asC bc m) Try.underlying122 rfl rfl) rfl ?_;refine z3 ?_
 refine wc_inv (fun seen:List Nat=>⟨[(1,.ptr 0 [.fld 0 0]),(12,.ptr 65 [])],[(0,some (ib 64 2)),(2,some (qA m)),(64,some (qA (eJ m seen))),(65,some (.mi (.mapr 2) (asC bc m).length (asC bc m).length seen))],72,Try.f56.ntmps,64⟩) (fun seen=>ei m seen) (fun seen=>(remI m.length seen).length) [] [(64,some 72),(65,some 104)] (CP m)
  (lg zk ⟨zR,zM,zR,zR,trivial⟩) ?_
 intro seen hinv
 refine bt ?_;refine z2 ?_
 refine lW (κ:=Int) (enc:=i6) (l:=asC bc m) rfl rfl rfl rfl rfl (fun hall=>?_) (fun i k v hl hs=>?_)
 ·have hperm:=(hinv.fin fun i hi=>hall i (by simpa[asC]using hi)).trans hm
  refine z9 ?_
  exact⟨trivial,[],lg zV ⟨zR,⟨rfl,rfl,_,rfl,aM.mo_mq hperm⟩,⟨rfl,rfl,_,rfl,aM.mo_mq hm⟩,trivial⟩⟩
 ·obtain⟨bv,hmi,rfl⟩:∃bv,m[i]?=some (k,bv)∧v=.d (bc bv):=by
   rw[asC,List.getElem?_map]at hl
   cases hq:m[i]? with
   | none=>rw[hq]at hl; cases hl
   | some p=>rw[hq]at hl; cases hl; exact⟨_,rfl,rfl⟩
  have hnew:=hinv.new hnm hmi hs
  have hil:=(List.getElem?_eq_some_iff.1 hmi).1
  refine z10 ?_;refine rQ (qM (κ:=Int) (enc:=i6) (l:=asC bc m) (i:=i) rfl rfl rfl rfl hl) ?_;refine z10 ?_;refine dQ [19] [0] iM ?_;refine z1 ?_;refine dQ [7] [112] iM ?_;refine bj [20,21,22] [64] (b7 (κ:=Int) (enc:=i6) (l:=asC bc (eJ m seen)) keyI Try.underlying122 rfl rfl rfl rfl hnew) ?_;refine z2 ?_
  exact an (seen++[i]) [(64,some 64),(65,some 65)] (hinv.step hil hs) (zt hil hs) (lg zk ⟨zR,zM,⟨rfl,bq _,_,rfl,aM.of_eq (by rw[qA,qq hmi]; show _=Row.mo ((mapC i6 (asC bc (eJ m seen++[(k,bv)]))).ren _); rw[aY]; simp[asC])⟩,zR,trivial⟩)
theorem yb (a d:VMap) (hn:(di a).Nodup):FnIs Try.prog 56 [.ptr 0 [],.ptr 0 [.fld 1 1],.mapr 1] [(0,ib 1 2),(1,fB a),(2,fB d)] (.tup .anil) [(0,ib 1 64),(1,fB a),(64,fB a)]:=by
 refine aq aa Try.func56 rfl rfl rfl ?_;refine nN 1 rfl me my fun m hm=>?_
 have hnm:(di m).Nodup:=(hm.map _).nodup_iff.2 hn
 refine z3 ?_;refine aO (iz) rfl ?_;refine z1 ?_;refine bH (aG aa rfl rfl rfl ⟨_,⟨_,⟨rfl,rfl,rfl⟩,rfl⟩,rfl⟩ rfl) ?_;refine z5 ?_;refine aO (qf (κ:=Int) (enc:=i6) (l:=asC bc m) Try.underlying122 rfl rfl) rfl ?_;refine z3 ?_
 refine wc_inv (fun seen:List Nat=>⟨[(1,.ptr 0 [.fld 1 1]),(12,.ptr 65 [])],[(0,some (ib 1 64)),(1,some (qA m)),(64,some (qA (eJ m seen))),(65,some (.mi (.mapr 1) (asC bc m).length (asC bc m).length seen))],72,Try.f56.ntmps,64⟩) (fun seen=>ei m seen) (fun seen=>(remI m.length seen).length) [] [(64,some 72),(65,some 104)] (CP m)
  (lg zk ⟨zR,zM,zR,zR,trivial⟩) ?_
 intro seen hinv
 refine bt ?_;refine z2 ?_
 refine lW (κ:=Int) (enc:=i6) (l:=asC bc m) rfl rfl rfl rfl rfl (fun hall=>?_) (fun i k v hl hs=>?_)
 ·have hperm:=(hinv.fin fun i hi=>hall i (by simpa[asC]using hi)).trans hm
  refine z9 ?_
  exact⟨trivial,[],lg zV ⟨zR,⟨rfl,rfl,_,rfl,aM.mo_mq hm⟩,⟨rfl,rfl,_,rfl,aM.mo_mq hperm⟩,trivial⟩⟩
 ·obtain⟨bv,hmi,rfl⟩:∃bv,m[i]?=some (k,bv)∧v=.d (bc bv):=by
   rw[asC,List.getElem?_map]at hl
   cases hq:m[i]? with
   | none=>rw[hq]at hl; cases hl
   | some p=>rw[hq]at hl; cases hl; exact⟨_,rfl,rfl⟩
  have hnew:=hinv.new hnm hmi hs
  have hil:=(List.getElem?_eq_some_iff.1 hmi).1
  refine z10 ?_;refine rQ (qM (κ:=Int) (enc:=i6) (l:=asC bc m) (i:=i) rfl rfl rfl rfl hl) ?_;refine z10 ?_;refine dQ [19] [0] iM ?_;refine z1 ?_;refine dQ [7] [112] iM ?_;refine bj [20,21,22] [64] (b7 (κ:=Int) (enc:=i6) (l:=asC bc (eJ m seen)) keyI Try.underlying122 rfl rfl rfl rfl hnew) ?_;refine z2 ?_
  exact an (seen++[i]) [(64,some 64),(65,some 65)] (hinv.step hil hs) (zt hil hs) (lg zk ⟨zR,zM,⟨rfl,bq _,_,rfl,aM.of_eq (by rw[qA,qq hmi]; show _=Row.mo ((mapC i6 (asC bc (eJ m seen++[(k,bv)]))).ren _); rw[aY]; simp[asC])⟩,zR,trivial⟩)
theorem Cx {look:Nat→Option Row} {ρ:Nat→Option Nat} {f:Fn} {x:D} {bs9 avs:List AV} (h:bU look ρ bs9 avs):bU look ρ (.fn f .anil (.acons (.d x) .anil)::bs9) (.fn f .anil (.acons (.d x) .anil)::avs):=
 ⟨_,avs,rfl,⟨rfl,rfl⟩,AVLe.refl _,h⟩
def ixO (p:HOp→Bool) (l:List HOp) (i:Nat):Int:=match l with
 | [] => -1
 | o::l=>if p o=true then (i:Int) else ixO p l (i+1)
theorem sb (p:HOp→Bool):∀(l:List HOp) (i:Nat),decide (0≤ixO p l i)=l.any p
 | [],i=>rfl
 | o::l,i=>by
  unfold ixO
  rw[List.any_cons]
  cases h:p o with
  | true=>simp
  | false=>simp only[Bool.false_eq_true,if_false,Bool.false_or]; exact sb p l (i+1)
theorem tn {p:HOp→Bool} {l:List HOp} {i:Nat} {o:HOp} (h:l[i]?=some o):ixO p (l.drop i) i=if p o=true then (i:Int) else ixO p (l.drop (i+1)) (i+1):=by
 have hlt:=(List.getElem?_eq_some_iff.1 h).1
 rw[List.drop_eq_getElem_cons hlt,(List.getElem?_eq_some_iff.1 h).2]
 rfl
theorem Dn (l:List HOp) (g:Nat) (c:D) (p:HOp→Bool) (hL:l.length≤9223372036854775807) (hp:∀o,FnIs Try.prog g [.d (a9 o),.d (.pt c)] [] (.bool (p o)) []):FnIs Try.prog 78 [.d (bS l),.fn (.func g) .anil (.acons (.d (.pt c)) .anil)] [] (.int .i64 (ixO p l 0)) []:=by
 refine aq aa Try.func78 rfl rfl rfl ?_;refine z14 ?_
 refine wc_inv (fun k:Nat=>⟨[(8,.int .i64 k),(7,.int .i64 l.length),(0,.d (bS l)),(1,.fn (.func g) .anil (.acons (.d (.pt c)) .anil))],[],72,Try.f78.ntmps,64⟩) (fun k=>k≤l.length∧ixO p (l.drop k) k=ixO p l 0) (fun k=>l.length-k) 0 [] ⟨Nat.zero_le _,by rw[List.drop_zero]⟩
  (lg zi trivial) ?_
 rintro k ⟨hk,hix⟩
 refine bt ?_
 by_cases hlt:k<l.length
 ·have d1:decide ((k:Int)<(l.length:Int))=true:=dT (by omega)
  obtain⟨o,ho⟩:∃o,l[k]?=some o:=⟨_,List.getElem?_eq_getElem hlt⟩
  have ho2:l[((k:Int)).toNat]?=some o:=by rw[Int.toNat_natCast]; exact ho
  rw[tn ho]at hix
  refine z24 ?_;refine rQ (aS [] (hp o) rfl rfl rfl (aE (aE au)) trivial rfl rfl (.inl rfl) rfl rfl) ?_;refine z2 ?_
  cases hpo:p o with
  | true =>
   rw[hpo,if_pos rfl]at hix
   rw[←hix]
   refine z13 ?_
   exact⟨trivial,[],lf⟩
  | false =>
   rw[hpo,if_neg (by decide)]at hix
   refine z8 ?_
   exact an (k+1) [] ⟨hlt,hix⟩ (by omega) (lg zi trivial)
 ·have d1:decide ((k:Int)<(l.length:Int))=false:=dF (by omega)
  have he:k=l.length:=by omega
  subst he
  rw[List.drop_length]at hix
  rw[←hix]
  refine z18 ?_
  exact⟨trivial,[],lf⟩
theorem DF (l:List HOp) (g:Nat) (c:D) (p:HOp→Bool) (hL:l.length≤9223372036854775807) (hp:∀o,FnIs Try.prog g [.d (a9 o),.d (.pt c)] [] (.bool (p o)) []):FnIs Try.prog 53 [.d (bS l),.fn (.func g) .anil (.acons (.d (.pt c)) .anil)] [] (.bool (l.any p)) []:=by
 have hix:=Dn l g c p hL hp
 rw[←sb p l 0]
 refine aq aa Try.func53 rfl rfl rfl ?_;refine z9 ?_;refine rQ (aS [] hix rfl rfl rfl (aE (Cx au)) trivial rfl rfl (.inl rfl) rfl rfl) ?_;refine z5 ?_
 exact⟨trivial,[],lf⟩
theorem Dm (l:List HOp) (g:Nat) (m:List (Int×AV)) (hm:∀n,(mapC i6 m).lt n=true) (hr:∀ρ,(mapC i6 m).ren ρ=mapC i6 m) (p:HOp→Bool) (hL:l.length≤9223372036854775807) (hp:∀o,FnIs Try.prog g [.d (a9 o),.ptr 0 []] [(0,.box 74 (.mapr 1)),(1,.mo (mapC i6 m))] (.bool (p o)) [(0,.box 74 (.mapr 1)),(1,.mo (mapC i6 m))]):FnIs Try.prog 78 [.d (bS l),.fn (.func g) .anil (.acons (.ptr 0 []) .anil)] [(0,.box 74 (.mapr 1)),(1,.mo (mapC i6 m))] (.int .i64 (ixO p l 0)) [(0,.box 74 (.mapr 1)),(1,.mo (mapC i6 m))]:=by
 refine aq aa Try.func78 rfl rfl rfl ?_;refine z14 ?_
 refine wc_inv (fun k:Nat=>⟨[(8,.int .i64 k),(7,.int .i64 l.length),(0,.d (bS l)),(1,.fn (.func g) .anil (.acons (.ptr 0 []) .anil))],[(0,some (.box 74 (.mapr 1))),(1,some (.mo (mapC i6 m)))],72,Try.f78.ntmps,64⟩) (fun k=>k≤l.length∧ixO p (l.drop k) k=ixO p l 0) (fun k=>l.length-k) 0 [] ⟨Nat.zero_le _,by rw[List.drop_zero]⟩
  (lg zi ⟨zR,⟨rfl,hm _,_,rfl,aM.of_eq (by simp only[Row.ren,hr])⟩,trivial⟩) ?_
 rintro k ⟨hk,hix⟩
 refine bt ?_
 by_cases hlt:k<l.length
 ·have d1:decide ((k:Int)<(l.length:Int))=true:=dT (by omega)
  obtain⟨o,ho⟩:∃o,l[k]?=some o:=⟨_,List.getElem?_eq_getElem hlt⟩
  have ho2:l[((k:Int)).toNat]?=some o:=by rw[Int.toNat_natCast]; exact ho
  rw[tn ho]at hix
  refine z24 ?_;refine bE rfl (aS [(0,some 0),(1,some 1)] (hp o) rfl rfl rfl (aE (aT rfl rfl au)) ⟨zH,⟨rfl,hm _,_,_,rfl,rfl,aM.of_eq (by simp only[Row.ren,hr])⟩,trivial⟩ rfl rfl (.inl rfl) rfl rfl) rfl rfl ?_;refine z2 ?_
  cases hpo:p o with
  | true =>
   rw[hpo,if_pos rfl]at hix
   rw[←hix]
   refine z13 ?_
   exact⟨trivial,[],lg zV ⟨zR,⟨rfl,hm _,_,rfl,aM.of_eq (by simp only[Row.ren,hr])⟩,trivial⟩⟩
  | false =>
   rw[hpo,if_neg (by decide)]at hix
   refine z8 ?_
   exact an (k+1) [] ⟨hlt,hix⟩ (by omega) (lg zi ⟨zR,⟨rfl,hm _,_,rfl,aM.of_eq (by simp only[Row.ren,hr])⟩,trivial⟩)
 ·have d1:decide ((k:Int)<(l.length:Int))=false:=dF (by omega)
  have he:k=l.length:=by omega
  subst he
  rw[List.drop_length]at hix
  rw[←hix]
  refine z18 ?_
  exact⟨trivial,[],lg zV ⟨zR,⟨rfl,hm _,_,rfl,aM.of_eq (by simp only[Row.ren,hr])⟩,trivial⟩⟩
theorem DE (l:List HOp) (g:Nat) (m:List (Int×AV)) (hm:∀n,(mapC i6 m).lt n=true) (hr:∀ρ,(mapC i6 m).ren ρ=mapC i6 m) (p:HOp→Bool) (hL:l.length≤9223372036854775807) (hp:∀o,FnIs Try.prog g [.d (a9 o),.ptr 0 []] [(0,.box 74 (.mapr 1)),(1,.mo (mapC i6 m))] (.bool (p o)) [(0,.box 74 (.mapr 1)),(1,.mo (mapC i6 m))]):FnIs Try.prog 53 [.d (bS l),.fn (.func g) .anil (.acons (.ptr 0 []) .anil)] [(0,.box 74 (.mapr 1)),(1,.mo (mapC i6 m))] (.bool (l.any p)) [(0,.box 74 (.mapr 1)),(1,.mo (mapC i6 m))]:=by
 have hix:=Dm l g m hm hr p hL hp
 rw[←sb p l 0]
 refine aq aa Try.func53 rfl rfl rfl ?_;refine z9 ?_;refine bE rfl (aS [(0,some 0),(1,some 1)] hix rfl rfl rfl (aE (cU rfl rfl au)) ⟨zH,⟨rfl,hm _,_,_,rfl,rfl,aM.of_eq (by simp only[Row.ren,hr])⟩,trivial⟩ rfl rfl (.inl rfl) rfl rfl) rfl rfl ?_;refine z5 ?_
 exact⟨trivial,[],lg zV ⟨zR,⟨rfl,hm _,_,rfl,aM.of_eq (by simp only[Row.ren,hr])⟩,trivial⟩⟩
end Go.Proofs.Ytmdgmolbamlicaa
namespace Go.Proofs.Ytmdgmolbamlicaa
open Go.Eng Go.Plain
set_option maxHeartbeats 32000000
set_option maxRecDepth 20000
section
variable {κ ν : Type} [DecidableEq κ]
def getA:List (κ×ν)→κ→Option ν
 | [],_=>none
 | (k',v)::l,k=>if k=k' then some v else getA l k
def putA:List (κ×ν)→κ→ν→List (κ×ν)
 | [],k,v=>[(k,v)]
 | (k',v')::l,k,v=>if k=k' then (k',v)::l else (k',v')::putA l k v
theorem dj (encV:ν→D) (k:κ):∀(l:List (κ×ν)) (i:Nat),(cW k (asC encV l) i=none∧getA l k=none∧∀v,asC encV (putA l k v)=asC encV l++[(k,.d (encV v))]) ∨
  ∃j v,cW k (asC encV l) i=some (i+j,.d (encV v))∧j<l.length∧getA l k=some v∧∀v',asC encV (putA l k v')=putC (asC encV l) j (.d (encV v'))
 | [],i=>.inl ⟨rfl,rfl,fun _=>rfl⟩
 | (k',v)::l,i=>by
  by_cases h:k=k'
  ·subst h
   exact .inr ⟨0,v,by simp[asC,cW],by simp,by simp[getA],fun v'=>by simp[putA,asC,putC]⟩
  ·rcases dj encV k l (i+1)with ⟨h1,h2,h4⟩ | ⟨j,v0,h1,h2,h3,h4⟩
   ·refine .inl ⟨?_,?_,fun v'=>?_⟩
    ·simp only[asC,List.map_cons,cW,if_neg h]; exact h1
    ·simp[getA,if_neg h,h2]
    ·have:=h4 v'
     simp only[asC,putA,if_neg h,List.map_cons,List.cons_append]at this ⊢
     rw[this]
   ·refine .inr ⟨j+1,v0,?_,by simpa using h2,by simp[getA,if_neg h,h3],fun v'=>?_⟩
    ·simp only[asC,List.map_cons,cW,if_neg h]
     rw[show i+(j+1)=i+1+j by omega]
     exact h1
    ·have:=h4 v'
     simp only[asC,putA,if_neg h,List.map_cons,putC]at this ⊢
     rw[this]
end
end Go.Proofs.Ytmdgmolbamlicaa
namespace Go.Proofs.Ytmdgmolbamlicaa
open Go.Eng Go.Plain
set_option maxHeartbeats 32000000
set_option maxRecDepth 20000
attribute [local irreducible] WC RegS RegD SeqQ BlkQ ScoQ RegK CutK Sat SatN FnIs LoopQ ab OpIs
abbrev IMap:=List (Int×Int)
abbrev fV (m:IMap):Row :=.mo (mapC i6 (asC i6 m))
def stG:List HOp→IMap→IMap
 | [],m=>m
 | o::l,m=>if o.err=9 then (match getA m o.era with
  | none=>stG l (putA m o.era o.returned)
  | some t=>if o.returned<t then stG l (putA m o.era o.returned) else stG l m) else stG l m
def lJ (m:IMap) (o:HOp):Bool:=match getA m o.era with
 | none=>false
 | some t=>decide (t<o.invoked)&&(decide (0≤o.returned)&&(decide (o.err=0)||decide (o.err=8)))
def stV (l:List HOp):Bool := !l.any (lJ (stG l []))
theorem Fa (l:List HOp):DLe (fv l) (bS l):=fun w X cs h=>Enc.arx_arr (fun _ _ h=>h) cs h
theorem fk:fb Try.prog 3 (i6 0):=nL (by kernel_rfl) (by kernel_rfl)
theorem BA (m:IMap) (o:HOp):FnIs Try.prog 62 [.d (a9 o),.ptr 0 []] [(0,.box 74 (.mapr 1)),(1,fV m)] (.bool (lJ m o)) [(0,.box 74 (.mapr 1)),(1,fV m)]:=by
 refine aq aa Try.func62 rfl rfl rfl ?_
 unfold lJ
 rcases dj i6 o.era m 0 with ⟨hf,hg,_⟩ | ⟨j,t,hf,_,hg,_⟩
 ·rw[hg]
  refine z11 ?_;refine rQ (cp (κ:=Int) (enc:=i6) (l:=asC i6 m) keyI Try.underlying74 fk rfl rfl rfl hf) ?_;refine z35 ?_
  exact⟨trivial,[],lg zV ⟨zR,zM,trivial⟩⟩
 ·rw[hg]
  rw[Nat.zero_add]at hf
  simp only
  cases h1:decide (t<o.invoked) with
  | false =>
   refine z11 ?_;refine rQ (bL (κ:=Int) (enc:=i6) (l:=asC i6 m) keyI Try.underlying74 rfl rfl rfl hf) ?_;refine z39 ?_
   exact⟨trivial,[],lg zV ⟨zR,zM,trivial⟩⟩
  | true =>
   cases h2:decide (0≤o.returned) with
   | false =>
    refine z11 ?_;refine rQ (bL (κ:=Int) (enc:=i6) (l:=asC i6 m) keyI Try.underlying74 rfl rfl rfl hf) ?_;refine z42 ?_
    exact⟨trivial,[],lg zV ⟨zR,zM,trivial⟩⟩
   | true =>
    cases h3:decide (o.err=0) with
    | true =>
     refine z11 ?_;refine rQ (bL (κ:=Int) (enc:=i6) (l:=asC i6 m) keyI Try.underlying74 rfl rfl rfl hf) ?_;refine z47 ?_
     exact⟨trivial,[],lg zV ⟨zR,zM,trivial⟩⟩
    | false =>
     refine z11 ?_;refine rQ (bL (κ:=Int) (enc:=i6) (l:=asC i6 m) keyI Try.underlying74 rfl rfl rfl hf) ?_;refine z50 ?_
     exact⟨trivial,[],lg zV ⟨zR,zM,trivial⟩⟩
theorem yD {l:List HOp} {k:Nat} {o:HOp} (h:l[k]?=some o) (m:IMap):stG (l.drop k) m=stG (o::l.drop (k+1)) m:=by
 have hlt:=(List.getElem?_eq_some_iff.1 h).1
 rw[List.drop_eq_getElem_cons hlt,(List.getElem?_eq_some_iff.1 h).2]
theorem p8 (h:List HEv) (hh:h.length≤9223372036854775807) (hal0:(rdH h).all.length≤1048576):FnIs Try.prog 29 [.d (encH h)] [] (.tup (.acons (.bool (if (chkH h).2=0 then stV (opsH h) else false)) (.acons (.int .i64 (chkH h).2) .anil))) []:=by
 have hop:=wu h hh hal0
 refine aq aa Try.func29 rfl rfl rfl ?_
 by_cases he:(chkH h).2=0
 case neg =>
  have d0:(!decide ((chkH h).2=0))=true:=by rw[dF he]; rfl
  rw[if_neg he]
  refine z34 ?_
  exact⟨trivial,[],lf⟩
 rw[if_pos he]
 have hal:(opsH h).length≤1048576:=by unfold opsH; split <;> first | omega | simp
 rw[he]at hop ⊢
 generalize opsH h=l at *
 refine z29 ?_;refine aO (iz) rfl ?_;refine z13 ?_
 refine wc_inv (fun q:Nat×IMap=>⟨[(22,.int .i64 q.1),(21,.int .i64 l.length),(20,.d (fv l)),(4,.d (fv l)),(6,.ptr 64 [])],[(64,some (.box 74 (.mapr 65))),(65,some (fV q.2))],72,Try.f29.ntmps,64⟩) (fun q=>q.1≤l.length∧stG (l.drop q.1) q.2=stG l []) (fun q=>l.length-q.1) (0,[]) [(64,some _),(65,some _)] ⟨Nat.zero_le _,rfl⟩
  (lg zh ⟨zR,zR,trivial⟩) ?_
 rintro⟨k,m⟩ ⟨hk,hst⟩
 simp only at hk hst
 refine bt ?_
 by_cases hlt:k<l.length
 ·have d1:decide ((k:Int)<(l.length:Int))=true:=dT (by omega)
  obtain⟨o,hl0⟩:∃o,l[k]?=some o:=⟨_,List.getElem?_eq_getElem hlt⟩
  have hl:l[((k:Int)).toNat]?=some o:=by rw[Int.toNat_natCast]; exact hl0
  rw[yD hl0,stG]at hst
  by_cases h9:o.err=9
  ·have d9:(!decide (o.err=9))=false:=by rw[dT h9]; rfl
   rw[if_pos h9]at hst
   rcases dj i6 o.era m 0 with ⟨hf,hg,hp⟩ | ⟨j,t,hf,_,hg,hp⟩
   ·rw[hg]at hst
    refine z35 ?_;refine rQ (cp (κ:=Int) (enc:=i6) (l:=asC i6 m) keyI Try.underlying74 fk rfl rfl rfl hf) ?_;refine z26 ?_;refine bE rfl (b7 (κ:=Int) (enc:=i6) (l:=asC i6 m) keyI Try.underlying74 rfl rfl rfl rfl hf) rfl rfl ?_;refine z7 ?_
    exact an (k+1,putA m o.era o.returned) [(64,some 64),(65,some 65)] ⟨hlt,hst⟩ (by simp only; omega) (lg zh ⟨zR,⟨rfl,bq _,_,rfl,aM.of_eq (by show _=Row.mo ((mapC i6 (asC i6 (putA m o.era o.returned))).ren _); rw[aY,hp])⟩,trivial⟩)
   ·rw[hg]at hst
    rw[Nat.zero_add]at hf
    simp only at hst
    by_cases hr:o.returned<t
    ·have dr:decide (o.returned<t)=true:=dT hr
     rw[if_pos hr]at hst
     refine z35 ?_;refine rQ (bL (κ:=Int) (enc:=i6) (l:=asC i6 m) keyI Try.underlying74 rfl rfl rfl hf) ?_;refine z30 ?_;refine bE rfl (gw (κ:=Int) (enc:=i6) (l:=asC i6 m) keyI Try.underlying74 rfl rfl rfl rfl hf) rfl rfl ?_;refine z7 ?_
     exact an (k+1,putA m o.era o.returned) [(64,some 64),(65,some 65)] ⟨hlt,hst⟩ (by simp only; omega) (lg zh ⟨zR,⟨rfl,bq _,_,rfl,aM.of_eq (by show _=Row.mo ((mapC i6 (asC i6 (putA m o.era o.returned))).ren _); rw[aY,hp])⟩,trivial⟩)
    ·have dr:decide (o.returned<t)=false:=dF hr
     rw[if_neg hr]at hst
     refine z35 ?_;refine rQ (bL (κ:=Int) (enc:=i6) (l:=asC i6 m) keyI Try.underlying74 rfl rfl rfl hf) ?_;refine z31 ?_
     exact an (k+1,m) [(64,some 64),(65,some 65)] ⟨hlt,hst⟩ (by simp only; omega) (lg zh ⟨zR,zM,trivial⟩)
  ·have d9:(!decide (o.err=9))=true:=by rw[dF h9]; rfl
   rw[if_neg h9]at hst
   refine z36 ?_
   exact an (k+1,m) [(64,some 64),(65,some 65)] ⟨hlt,hst⟩ (by simp only; omega) (lg zh ⟨zR,zM,trivial⟩)
 ·have d1:decide ((k:Int)<(l.length:Int))=false:=dF (by omega)
  rw[List.drop_eq_nil_of_le (by omega),stG]at hst
  have hcf:=DE l 62 (asC i6 m) (fun n=>bq _) (fun ρ=>aY _) (lJ m) (by omega) (BA m)
  rw[stV,←hst]
  refine z16 ?_;refine bE rfl (aS [(0,some 64),(1,some 65)] hcf rfl rfl rfl (Bl rfl trivial (Fa l) (cU rfl rfl au)) ⟨zH,zN,trivial⟩ rfl rfl (.inl rfl) rfl rfl) rfl rfl ?_;refine z6 ?_
  exact⟨trivial,[],lf⟩
abbrev lM (a d:VMap):List (Nat×Row):=[(0,ib 1 2),(1,fB a),(2,fB d)]
theorem aM.mo_mq' {l l':VMap} {c:List (Int×AV)} (hc:c=asC bc l') (hp:l'.Perm l):aM (.mo (mapC i6 c)) (fB l):=by
 subst hc; exact aM.mo_mq hp
theorem so {look:Nat→Option Row} {ρ:Nat→Option Nat} {r k:Nat} {bs9 avs:List AV} (hr:ρ r=some k) (h64:Nat.blt r 64=true) (h:bU look ρ bs9 avs):bU look ρ (.mapr k::bs9) (.mapr r::avs):=
 ⟨_,avs,rfl,⟨rfl,h64⟩,AVLe.of_eq (by simp only[AV.ren,hr]),h⟩
theorem DQ:fb Try.prog 40 (bc zBk):=nL (by kernel_rfl) (by kernel_rfl)
theorem AE (a d:VMap) (o:HOp) (hk:o.op.kind=1) (hn:(di a).Nodup):FnIs Try.prog 57 [.ptr 0 [],.d (a9 o)] (lM a d) (.bool (!bf o||decide (getV a o.op.index=o.value))) (lM a d):=by
 have c1:decide (o.op.kind=1)=true:=dT hk
 refine aq aa Try.func57 rfl rfl rfl ?_
 cases hm2:bf o with
 | false =>
  have hmm:=gR o
  rw[hm2]at hmm
  refine z24 ?_;refine dQ [3] [64] iM ?_;refine z21 ?_
  exact⟨trivial,[],lg zV ⟨zR,zR,zR,trivial⟩⟩
 | true =>
  have hmm:=gR o
  rw[hm2]at hmm
  refine nN 1 rfl me my fun m hm=>?_
  rw[←xV hn hm]
  rcases iO o.op.index m 0 with ⟨hf,_,hg,_⟩ | ⟨j,v0,hf,_,hg,_⟩
  ·rw[hg]
   refine z24 ?_;refine dQ [3] [64] iM ?_;refine z6 ?_;refine aD [13,16] [0] rfl rfl rfl rfl (ay aa rfl rfl rfl rfl) ?_;refine z2 ?_;refine aD [13,19] [64] rfl rfl rfl rfl (ay aa rfl rfl ⟨_,rfl,rfl⟩ rfl) ?_;refine aD [13,17,20] [1] rfl rfl rfl rfl (gT (κ:=Int) (enc:=i6) (l:=asC bc m) keyI Try.underlying122 DQ rfl rfl rfl hf) ?_;refine z1 ?_;refine aD [13,22] [64] rfl rfl rfl rfl (ay aa rfl rfl ⟨_,rfl,rfl⟩ rfl) ?_;refine yO (dW rfl rfl rfl rfl (by kernel_rfl) (by decide) (cJ zBk o.value)) ?_;refine z7 ?_
   exact⟨trivial,[],lg zV ⟨zR,⟨rfl,rfl,_,rfl,aM.mo_mq hm⟩,zR,trivial⟩⟩
  ·rw[hg]
   obtain⟨v,hv⟩:∃v,v=v0:=⟨_,rfl⟩
   subst hv
   rw[Nat.zero_add]at hf
   refine z24 ?_;refine dQ [3] [64] iM ?_;refine z6 ?_;refine aD [13,16] [0] rfl rfl rfl rfl (ay aa rfl rfl rfl rfl) ?_;refine z2 ?_;refine aD [13,19] [64] rfl rfl rfl rfl (ay aa rfl rfl ⟨_,rfl,rfl⟩ rfl) ?_;refine aD [13,17,20] [1] rfl rfl rfl rfl (gS (κ:=Int) (enc:=i6) (l:=asC bc m) keyI Try.underlying122 rfl rfl rfl hf) ?_;refine z1 ?_;refine aD [13,22] [64] rfl rfl rfl rfl (ay aa rfl rfl ⟨_,rfl,rfl⟩ rfl) ?_;refine yO (dW rfl rfl rfl rfl (by kernel_rfl) (by decide) (cJ v o.value)) ?_;refine z7 ?_
   exact⟨trivial,[],lg zV ⟨zR,⟨rfl,rfl,_,rfl,aM.mo_mq hm⟩,zR,trivial⟩⟩
theorem xS (a d:VMap) (o:HOp) (hk:o.op.kind=2) (hd:o.op.data.length=32) (hn:(di a).Nodup):FnIs Try.prog 57 [.ptr 0 [],.d (a9 o)] (lM a d) (.bool true) (lM (putV a o.op.index o.op.data) d):=by
 have c1:decide (o.op.kind=1)=false:=dF (by omega)
 have c2:decide (o.op.kind=2)=true:=dT hk
 refine aq aa Try.func57 rfl rfl rfl ?_;refine nN 1 rfl me my fun m hm=>?_
 have hpp:=xx hn hm o.op.index o.op.data
 rcases iO o.op.index m 0 with ⟨hf,_,_,hp⟩ | ⟨j,v0,hf,_,_,hp⟩
 ·rw[hp]at hpp
  refine z33 ?_;refine dQ [30] [0] iM ?_;refine z2 ?_;refine dQ [33] [64] iB ?_;refine z2 ?_;refine dQ [36] [64] iB ?_;refine yA (yK (gG o.op.data hd)) ?_;refine bj [31,34,38] [1] (b7 (κ:=Int) (enc:=i6) (l:=asC bc m) keyI Try.underlying122 rfl rfl rfl rfl hf) ?_;refine z9 ?_
  exact⟨trivial,[],lg zV ⟨zR,⟨rfl,rfl,_,rfl,aM.mo_mq' (by simp[asC]) hpp⟩,zR,trivial⟩⟩
 ·rw[Nat.zero_add]at hf
  refine z33 ?_;refine dQ [30] [0] iM ?_;refine z2 ?_;refine dQ [33] [64] iB ?_;refine z2 ?_;refine dQ [36] [64] iB ?_;refine yA (yK (gG o.op.data hd)) ?_;refine bj [31,34,38] [1] (gw (κ:=Int) (enc:=i6) (l:=asC bc m) keyI Try.underlying122 rfl rfl rfl rfl hf) ?_;refine z9 ?_
  exact⟨trivial,[],lg zV ⟨zR,⟨rfl,rfl,_,rfl,aM.mo_mq' (hp _).1.symm hpp⟩,zR,trivial⟩⟩
theorem xT (a d:VMap) (o:HOp) (hk:o.op.kind=3) (hn:(di a).Nodup):FnIs Try.prog 57 [.ptr 0 [],.d (a9 o)] (lM a d) (.bool true) [(0,ib 1 64),(1,fB a),(64,fB a)]:=by
 have c1:decide (o.op.kind=1)=false:=dF (by omega)
 have c2:decide (o.op.kind=2)=false:=dF (by omega)
 have c3:decide (o.op.kind=3)=true:=dT hk
 refine aq aa Try.func57 rfl rfl rfl ?_;refine z44 ?_;refine dQ [47] [0] iM ?_;refine x8 rfl (aS [(0,some 0),(1,some 1),(2,some 2)] (yb a d hn) rfl rfl rfl (aT rfl rfl (aT rfl rfl (so rfl rfl au))) ⟨zH,zH,zH,trivial⟩ rfl rfl (.inl rfl) rfl rfl) rfl rfl ?_;refine z9 ?_
 exact⟨trivial,[(64,some 216)],lg zV ⟨zR,zR,zR,trivial⟩⟩
abbrev sAV (l:List HOp) (b e:Int) (ops st sp:AV):AV :=.acons (.d (fv l)) (.acons (.int .i64 b) (.acons (.int .i64 e) (.acons (.mapr 1) (.acons (.mapr 2) (.acons ops (.acons (.mapr 4) (.acons (.mapr 5) (.acons (.mapr 6) (.acons (.mapr 7) (.acons (.mapr 8) (.acons st (.acons sp .anil))))))))))))
abbrev sBox (l:List HOp) (b e:Int) (ops st sp:AV):Row :=.box 83 (sAV l b e ops st sp)
abbrev encL (l:List Int):D :=.arr 1 i6 l
abbrev fF (xs:List (List Int)):Row :=.ds 28 1 false encL xs
abbrev sNil:AV :=.d (.sc nil_)
abbrev gD (l:List HOp) (b e:Int) (xs:List (List Int)):List (Nat×Row):=[(23,.box 68 (.ptr 0 [])),(0,sBox l b e (.own 3 0 xs.length 1 none) sNil sNil),(3,fF xs)]
theorem Ad (l:List HOp) (b e:Int) (xs:List (List Int)) (o:HOp):FnIs Try.prog 67 [.d (a9 o),.ptr 23 []] (gD l b e xs) (.bool (mayB o b)) (gD l b e xs):=by
 refine aq aa Try.func67 rfl rfl rfl ?_;refine z8 ?_;refine dQ [2] [64] iM ?_;refine dQ [1] [23] iM ?_;refine z2 ?_;refine dQ [7] [0] iM ?_;refine yA (yK (uZ o b)) ?_;refine z4 ?_
 exact⟨trivial,[],lg zV ⟨zR,zR,zR,trivial⟩⟩
theorem Ac (l:List HOp) (b e:Int) (xs:List (List Int)) (o:HOp):FnIs Try.prog 69 [.d (a9 o),.ptr 23 []] (gD l b e xs) (.bool (bf o && !mayB o b)) (gD l b e xs):=by
 refine aq aa Try.func69 rfl rfl rfl ?_
 have hm:=gR o
 cases h1:bf o with
 | true =>
  rw[h1]at hm
  refine z8 ?_;refine dQ [2] [64] iM ?_;refine z2 ?_;refine aD [6,2] [64] rfl rfl rfl rfl (ay aa rfl rfl rfl rfl) ?_;refine aD [6,1] [23] rfl rfl rfl rfl (ay aa rfl rfl rfl rfl) ?_;refine z2 ?_;refine aD [6,10] [0] rfl rfl rfl rfl (ay aa rfl rfl rfl rfl) ?_;refine yO (yK (uZ o b)) ?_;refine z6 ?_
  exact⟨trivial,[],lg zV ⟨zR,zR,zR,trivial⟩⟩
 | false =>
  rw[h1]at hm
  refine z8 ?_;refine dQ [2] [64] iM ?_;refine z14 ?_
  exact⟨trivial,[],lg zV ⟨zR,zR,zR,trivial⟩⟩
end Go.Proofs.Ytmdgmolbamlicaa
namespace Go.Eng
open Go.RowKit
def DP (avs:List AV) (rd:List (Nat×Row)) (vs:List Value) (W:World) (K:World→Prop):Prop :=
 ∃(C:Ctx) (σ:aB),C.bs=64∧C.B=W.heap.size∧C.w0=W∧C.σ0=σ∧C.ro=none∧aA C (fun r=>r<64) (inSt avs rd) σ W ⟨vs.toArray,[]⟩ ∧
  ∀(W':World) (σ':aB),aA C (fun r=>r<72) (dm (.d (.sc (.bool true))) rd) σ' W' ⟨#[.bool true],[]⟩→K W'
def wZ (P:Program) (gf:FuncId) (avs:List AV) (rd:List (Nat×Row)) (D:D) {α:Type} (enc:α→Value) (Next:List α→α→Prop) (Done:List α→Prop):Prop :=
 (∃ fn, P.funcs[gf]? = some fn ∧ (fn.name == "runtime.NumGoroutine") = false ∧ fn.body.isNone = false) ∧
 ∀(ad:Addr) (us:List Value) (u:Value) (l:Nat) (J Jx:List α→World→Prop) (w:World),w.cell? ad=some u →
  (∀pre W,J pre W→DP (avs++[.d D]) rd ((.pointer (some ad)::us)++[u]) W (J pre)) →
  (∀pre x W,J pre W→Next pre x→YieldAt Fence.wide 0 P l #[enc x] W fun e W'=>(e=.returned (.bool true)∧J (pre++[x]) W')∨(e=.returned (.bool false)∧Jx (pre++[x]) W')) →
  J [] w→Calls P gf (#[.func (.yield l) #[] #[]]++(.pointer (some ad)::us).toArray) w fun e W'=>(∃v,e=.returned v)∧((∃pre,Done pre∧J pre W')∨∃pre,Jx pre W')
def wX (D:D) (Q:Exit→St→Prop) (l:bC) (n sz:Nat) (h0:List (Nat×Row)) (env:Env) (h h':Upds) (Inv':Prop) (e:Exit) (st:St):Prop:=match e with
 | .normal=>∃rows l1 l2,Le l1 st ⟨[],aw rows,72,sz,64⟩∧Inv'∧Le l2 ⟨(sz,.d D)::env,bA l n h0 rows++h,n+8,sz+1,64⟩ ⟨(sz,.d D)::env,h',n,sz+1,64⟩
 | .exit i=>∃rows l1,Le l1 st ⟨[],aw rows,72,sz,64⟩∧Q (.exit i) ⟨env,bA l n h0 rows++h,n+8,sz,64⟩
 | .ret=>∃rows l1,Le l1 st ⟨[],aw rows,72,sz,64⟩∧Q .ret ⟨env,bA l n h0 rows++h,n+8,sz,64⟩
 | _=>False
section
variable {P : Program} {T : Tab} {sz n : Nat} {Q : Exit → St → Prop} {env : Env} {h : Upds}
set_option maxHeartbeats 4000000 in
theorem pY {α:Type} {enc:α→Value} (henc:∀x,(enc x).oneCell'=true) {Next:List α→α→Prop} {Done:List α→Prop} {g:Operand} {gf:FuncId} {caps:AV} {cs:List AV} {avs0:List AV} {rd:List (Nat×Row)} {D:D} {r3:Nat} {t3:TypeId} {id:Nat} {d t:Tmp} {ty:TypeId} {pos:String} {af:Array Edge} {body:Code}
  (lr l:bC) (ks:List Nat) (avs:List AV) (h0:List α→List (Nat×Row)) (hI:List α→Upds) (Inv:List α→Prop) (hit:wZ P gf avs0 rd D enc Next Done) (hg:ai env g=some (.fn (.func gf) .anil caps)) (hc:caps.chain=true)
  (hc3:bw caps=.ptr r3 []::cs) (hr3:aQ h r3=some (.box t3 (.d D))) (hDs:D.size=1) (hDa:(AV.d D).isAgg=false)
  (haI:∀pre,Inv pre→bU (aQ (hI pre)) (rho lr) (bw caps++[.d D]) (avs0++[.d D])) (hrI:∀pre,Inv pre→RowsIn (aQ (hI pre)) lr rd) (hiI:ey (rho lr) (aU rd)=true) (hkI:ga lr rd=true) (hmI:bY (bw caps++[.d D]) (avs0++[.d D])=true)
  (hgr:∀pre,Inv pre→∃lg,Le lg ⟨(sz,.d D)::env,bA lr n rd rd++hI pre,n+8,sz+1,64⟩ ⟨(sz,.d D)::env,hI pre,n,sz+1,64⟩)
  (i0:Inv []) (hh:hI []=h)
  (bs9:List AV) (hl:evL (ai env) (ks.map .tmp)=some bs9) (ha:∀pre,Inv pre→bU (aQ (hI pre)) (rho l) bs9 avs) (hr:∀pre,Inv pre→RowsIn (aQ (hI pre)) l (h0 pre))
  (hi:∀pre,Inv pre→ey (rho l) (aU (h0 pre))=true) (hk:∀pre,Inv pre→ga l (h0 pre)=true) (hm:bY bs9 avs=true) (hdt:Nat.blt d sz=true∧Nat.blt t sz=true) (hks:ks.all (fun k=>bif Nat.beq k d then false else bif Nat.beq k t then false else Nat.blt k sz)=true)
  (hbody:∀pre x,Inv pre→Next pre x→WC P sz body (wX D Q l n sz (h0 pre) env (hI pre) (hI (pre++[x])) (Inv (pre++[x]))) ((d,.d (.sc (enc x)))::(ks.zip avs)) (aw (h0 pre)) 64)
  (hdone:∀pre,Inv pre→Done pre→Q .normal ⟨env,hI pre,n,sz,64⟩) :
  WC P sz (.rangeFunc g #[t] (.region id #[⟨some d,.assign (.tmp t),ty,pos,af,none⟩] false) body) Q env h n:=by
 subst hh
 intro C σ w a hst
 refine wpIn_rangeFunc ?_
 intro fn hfn
 obtain⟨us,hu,hus,husG⟩:∃us:List Value,a.eval g=.func (.func gf) #[] us.toArray∧Rel σ w ((⟨env,hI [],n,sz,64⟩:St).X C.X0 σ) caps true us∧caps.within (fun r=>r<n):=by
  obtain⟨h1,h2⟩:=ak hst hg
  unfold RelV at h1
  simp only[AV.isAgg]at h1
  obtain⟨vs,us,he,h3,h4⟩:=h1
  obtain rfl:vs=[]:=h3
  exact⟨us,by simpa using he,h4,h2.2⟩
 have hcapsU:∀ {W:World} {σ':aB} {pre:List α} {sz':Nat} {env':Env} {a':Act},(∀v,ai env g=some v→ai env' g=some v)→a'.eval g=a.eval g→aA C (fun r=>r<n) ⟨env',hI pre,n,sz',64⟩ σ' W a'→Rel σ' W ((⟨env',hI pre,n,sz',64⟩:St).X C.X0 σ') caps true us:=by
  intro W σ' pre sz' env' a' hev hae hst'
  obtain⟨h1,_⟩:=ak hst' (hev _ hg)
  unfold RelV at h1
  simp only[AV.isAgg]at h1
  obtain⟨vs,us',he,h3,h4⟩:=h1
  rw[hae,hu]at he
  have:us'=us:=by
   have:us.toArray=us'.toArray:=by simpa using (by simpa using he:_∧_).2
   simpa using congrArg Array.toList this.symm
  rw[←this]; exact h4
 obtain⟨lp,mark,dd,W1,hent,hl1,hst1,hlw,hlB,hlro,hmark⟩:=hst.enterLoop (P:=P) fn #[t] (.region id #[⟨some d,.assign (.tmp t),ty,pos,af,none⟩] false) body
 obtain⟨rec,hrec⟩:∃rec:LoopState→Option Code→Loop,rec=fun st pe => { state:=st,pending:=pe,fn,tmps:=a.tmps,params := #[t],assign :=.region id #[⟨some d,.assign (.tmp t),ty,pos,af,none⟩] false,body,defers:=dd }:=⟨_,rfl⟩
 have hl1:W1.heap[lp]?=some (.loop (rec .ready none)):=by rw[hrec]; exact hl1
 have hasz:a.tmps.size=sz:=hst.sz
 obtain⟨ad,us1,u,husE,hcell,huR⟩:∃(ad:Addr) (us1:List Value) (u:Value),us=.pointer (some ad)::us1∧W1.cell? ad=some u∧RelV σ W1 ((⟨env,hI [],n,sz,64⟩:St).X C.X0 σ) (.d D) u:=by
  obtain⟨l1,_,l3⟩:=fH caps us hc (hcapsU (fun _ h=>h) rfl hst1) husG
  rw[hc3]at l1 l3
  match us,l1 with
  | v::us1,_ =>
   have h1:=l3 0 _ v rfl rfl
   unfold RelV at h1
   simp only[AV.isAgg]at h1
   obtain⟨b,c,hb,he⟩:=h1
   simp only[List.cons.injEq,and_true]at he
   have hrow:=hst1.rows r3 _ (by rw[←ba]; exact hr3)
   obtain⟨_,b',cs',h2,h3,h4⟩:=hrow
   rw[hb]at h2
   simp only[Option.some.injEq,Prod.mk.injEq]at h2
   obtain⟨rfl,_⟩:=h2
   have hlen:=Enc.len _ _ h4
   rw[hDs]at hlen
   obtain⟨u,hu1⟩:∃u,cs'.toList=[u]:=by
    match cs'.toList,hlen with
    | [u],_=>exact⟨u,rfl⟩
   refine⟨⟨b,0,none⟩,us1,u,by rw[he]; rfl,?_,?_⟩
   ·rw[cell_of_row W1 b 0 cs' t3 (0,0) h3,←Array.getElem?_toList,hu1]; rfl
   ·unfold RelV
    rw[hDa]
    simp only[Bool.false_eq_true,if_false]
    rw[←hu1]; exact h4
 obtain⟨ag,hag⟩:∃ag:Act,ag = { tmps:=a.tmps.push u,defers:=a.defers }:=⟨_,rfl⟩
 have hagd:ag.defers=a.defers:=by rw[hag]
 have hagt:∀i,i<sz→ag.tmps[i]?=a.tmps[i]?:=fun i hi=>by rw[hag]; simp only[Array.getElem?_push]; rw[if_neg (by omega)]
 have hagz:ag.tmps.size=sz+1:=by rw[hag]; simp[hasz]
 have hagu:ag.tmps[sz]?=some u:=by rw[hag,←hasz]; simp
 have henvlt:∀i v,lk env i=some v→i<sz:=fun i v hv=>by
  obtain⟨u',h1,_⟩:=hst.env i v hv
  have:=(Array.getElem?_eq_some_iff.1 h1).1
  omega
 have hcons:∀i v,lk env i=some v→lk ((sz,AV.d D)::env) i=some v:=fun i v hv=>by
  rw[aN,if_neg (by have:=henvlt i v hv; omega)]; exact hv
 have hevg:∀v,ai env g=some v→ai ((sz,AV.d D)::env) g=some v:=fun v hv=>by
  cases g with
  | tmp i=>exact hcons i v hv
  | _=>exact hv
 have hageval:∀i,i<sz→ag.eval (.tmp i)=a.eval (.tmp i):=fun i hi=>by
  have:=hagt i hi
  simp only[Act.eval,Array.getD_eq_getD_getElem?,this]
 have hagg:ag.eval g=a.eval g:=by
  cases g with
  | tmp i=>exact hageval i (henvlt i _ hg)
  | _=>rfl
 have hgst1:aA C (fun r=>r<n) ⟨(sz,.d D)::env,hI [],n,sz+1,64⟩ σ W1 ag:=by
  refine hst1.spread (env':=(sz,.d D)::env) (sz':=sz+1) (a':=ag) (fun i v hv=>?_) hagz (by rw[hagd]; exact hst1.defers)
  rw[aN]at hv
  split at hv
  ·rename_i e
   subst e
   simp only[Option.some.injEq]at hv
   subst hv
   exact⟨⟨u,hagu,huR⟩,trivial⟩
  ·obtain⟨u',h1,h2⟩:=hst1.env i v hv
   exact⟨⟨u',by rw[hagt i (henvlt i v hv)]; exact h1,h2⟩,hst1.envG i v hv⟩
 have hdrop:∀ {G:Nat→Prop} {hp:Upds} {m:Nat} {σ':aB} {W:World},aA C G ⟨(sz,.d D)::env,hp,m,sz+1,64⟩ σ' W ag→aA C G ⟨env,hp,m,sz,64⟩ σ' W a:=by
  intro G hp m σ' W hs
  refine hs.spread (env':=env) (sz':=sz) (a':=a) (fun i v hv=>?_) hasz (by rw[←hagd]; exact hs.defers)
  obtain⟨u',h1,h2⟩:=hs.env i v (hcons i v hv)
  exact⟨⟨u',by rw[←hagt i (henvlt i v hv)]; exact h1,h2⟩,hs.envG i v (hcons i v hv)⟩
 let BK:World→Prop:=fun W=>∀k:Nat,k≠lp→W1.heap[k]?=some (.deferred (some []))→W.heap[k]?=some (.deferred (some []))
 let J:List α→World→Prop:=fun pre W=>Inv pre∧W.heap[lp]?=some (.loop (rec .ready none))∧BK W∧∃σ',aA C (fun r=>r<n) ⟨(sz,.d D)::env,hI pre,n,sz+1,64⟩ σ' W ag
 let Jx:List α→World→Prop:=fun _ W=>∃(c:Code) (e:Exit) (st':St),(c=.ret∧e=.ret∨∃i,c=.exit i∧e=.exit i)∧Q e st'∧W.heap[lp]?=some (.loop (rec .done (some c)))∧BK W∧∃σ',aA C (fun r=>r<st'.next) st' σ' W a
 have hput:∀ {G:Nat→Prop} {st':St} {σ':aB} {W:World} {r:Loop} {a':Act} (o':Loop),aA C G st' σ' W a'→W.heap[lp]?=some (.loop r)→aA C G st' σ' (W.putObj lp (.loop o')) a'∧(W.putObj lp (.loop o')).heap[lp]?=some (.loop o')∧(BK W→BK (W.putObj lp (.loop o'))):=by
  intro G st' σ' W r a' o' h1 h2
  refine⟨h1.putBook h2 rfl hlw hlB hlro (h1.defers.go fun k hk=>?_),World.putObj_heap_same (Array.getElem?_eq_some_iff.1 h2).1,fun hb k hne hk=>?_⟩
  ·have hne:k≠lp:=by rintro rfl; rw[h2]at hk; cases hk
   exact (World.putObj_heap_other hne).trans hk
  ·exact (World.putObj_heap_other hne).trans (hb k hne hk)
 refine⟨lp,mark,W1, { target :=.fn (.func gf) us.toArray,args := #[.func (.yield lp) #[] #[]] },W1,gf, #[.func (.yield lp) #[] #[]]++us.toArray,W1,hent,?_,?_,?_,?_,?_⟩
 ·simp only[resolve,hu]
  simp[Deferred.ofValue,Sem.run_bind,Sem.run_pure,Result.andThen_ok,Act.eval]
 ·exact fun _ _=>trivial
 ·simp[invoke,iZ hit.1]
 ·exact fun h=>by cases h
 refine j6 ?_
 rw[husE]
 refine (hit.2 ad us1 u lp J Jx W1 hcell ?_ ?_ ⟨i0,hl1,fun _ _ h=>h,σ,hgst1⟩).mono ?_
 ·-- the iterator's own work
  rintro pre W ⟨hinv,hlW,hbk,σ',hst'⟩
  have hcu:=hcapsU hevg hagg hst'
  have hcG:caps.within (fun r=>r<n):=(ak hst' (hevg _ hg)).2.2
  obtain⟨m1,m2,m3⟩:=fH caps us hc hcu hcG
  have hrows:=RowsIn.agree (fun r row hr=>by rw[←ba]; exact hr) _ (hrI pre hinv) (look':=(⟨(sz,.d D)::env,hI pre,n,sz+1,64⟩:St).row)
  have hargs:=bU.agree (fun r row hr=>by rw[←ba]; exact hr) _ _ (haI pre hinv) (look':=(⟨(sz,.d D)::env,hI pre,n,sz+1,64⟩:St).row)
  have hXlt:∀b,(⟨(sz,.d D)::env,hI pre,n,sz+1,64⟩:St).X C.X0 σ' b→b<W.heap.size:=by
   rintro b (hx | ⟨r,row,c,h3,h4⟩)
   ·have:=(hst'.x0 b hx).1; have:=hst'.size; omega
   ·exact hst'.lt h3 h4
  have huR':RelV σ' W ((⟨(sz,.d D)::env,hI pre,n,sz+1,64⟩:St).X C.X0 σ') (.d D) u:=by
   obtain⟨u',h1,h2⟩:=hst'.env sz (.d D) (by rw[aN,if_pos rfl])
   rw[hagu]at h1
   cases h1
   exact h2
  have hv:=gI (bw caps) [.d D] us [u] m1 m3 (fun i v u' h1 h2=>by
   match i,h1,h2 with
   | 0,h1,h2 =>
    simp only[List.getElem?_cons_zero,Option.some.injEq]at h1 h2
    subst h1 h2
    exact huR')
  have hG:∀v∈bw caps++[.d D],v.within (fun r=>r<n):=fun v hv=>by
   rcases List.mem_append.1 hv with hv | hv
   ·exact m2 v hv
   ·simp only[List.mem_singleton]at hv
    subst hv
    trivial
  have hin:=hst'.enter (us:=us++[u]) (fun b=>(⟨(sz,.d D)::env,hI pre,n,sz+1,64⟩:St).X C.X0 σ' b∧¬b6 (σ'.via (rho lr)) rd b) (by simp[m1]) hv hG hargs hrows hiI (fun b hb=>⟨hXlt b hb.1,hb.2⟩) (fun b hb=>hb.1) (.inl hmI)
  rw[husE]at hin
  refine⟨_,_,rfl,rfl,rfl,rfl,rfl,hin,fun W' σ2 h2=>?_⟩
  obtain⟨σ3,h4,_,_⟩:=hst'.leave (n:=n) (v :=.bool true) (res :=.d (.sc (.bool true))) (rows:=rd) (X1:=fun b=>(⟨(sz,.d D)::env,hI pre,n,sz+1,64⟩:St).X C.X0 σ' b∧¬b6 (σ'.via (rho lr)) rd b) (fun r h1 h2 h3=>Nat.not_lt.2 h1 h3) rfl hrows hkI (.inl fun b h1 h2=>⟨h1,h2⟩) h2
  have h5:=h4.grow (G':=fun r=>r<n+8) (fun r hr=>by rcases hr with hr | hr <;> (try simp only at hr) <;> omega)
  obtain⟨lg,hle⟩:=hgr pre hinv
  have h6:aA C (fun r=>r<n+8) ⟨(sz,.d D)::env,bA lr n rd rd++hI pre,n+8,sz+1,64⟩ σ3 W' ag := { h5 with }
  exact⟨hinv,h2.below.book _ _ hlW rfl,fun k hne hk1=>h2.below.book _ _ (hbk k hne hk1) rfl,_,h6.le hle⟩
 ·-- a round
  rintro pre x W ⟨hinv,hlW,hbk,σ',hst'⟩ hnx
  have hy:=run_yield (P:=P) (args := #[enc x]) hlW (by rw[hrec]; rfl)
  refine⟨_,_,_,_,hy,roundIn_of_wpIn trivial ?_⟩
  obtain⟨a1,ha1⟩:∃a1:Act,a1=(({ tmps:=a.tmps.setIfInBounds t (enc x),defers:=[] }:Act).put (some d) (({ tmps:=a.tmps.setIfInBounds t (enc x),defers:=[] }:Act).eval (.tmp t))):=⟨_,rfl⟩
  have hblt:t<a.tmps.size:=by rw[hasz]; exact Nat.le_of_ble_eq_true hdt.2
  have hbld:d<a.tmps.size:=by rw[hasz]; exact Nat.le_of_ble_eq_true hdt.1
  have hevt:({ tmps:=a.tmps.setIfInBounds t (enc x),defers:=[] }:Act).eval (.tmp t)=enc x:=by
   simp[Act.eval,Array.getD_eq_getD_getElem?,Array.getElem?_setIfInBounds_self_of_lt hblt]
  have ha1t:a1.tmps=(a.tmps.setIfInBounds t (enc x)).setIfInBounds d (enc x):=by rw[ha1,hevt]; rfl
  have ha1d:a1.defers=[]:=by rw[ha1]; rfl
  have hassign:∀(K:Act→World→Prop),K a1 W→(rec .ready none).assign.wpIn (fen (some lp)) 0 P (Exit.then K (fun _ _ _=>False)) { tmps:=((rec .ready none).params.zip #[enc x]).foldl (fun tmps (t,a)=>tmps.setIfInBounds t a) (rec .ready none).tmps,defers:=[] } W:=by
   intro K hK
   rw[hrec]
   refine q6 ?_
   simp only[Exit.then]
   have e1:((#[t]:Array Tmp).zip #[enc x]).foldl (fun tmps (t,a)=>tmps.setIfInBounds t a) a.tmps=a.tmps.setIfInBounds t (enc x):=by simp
   rw[e1,←ha1]; exact hK
  refine hassign _ ⟨_,run_beginRound hlW (by rw[hrec]),?_⟩
  obtain⟨hst2,hl2,hbk2⟩:=hput { rec .ready none with state :=.busy } hst' hlW
  generalize W.putObj lp (.loop { rec .ready none with state :=.busy })=W2 at hst2 hl2 hbk2 ⊢
  replace hbk2:=hbk2 hbk
  have hrows:=RowsIn.agree (fun r row hr=>by rw[←ba]; exact hr) _ (hr pre hinv) (look':=(⟨(sz,.d D)::env,hI pre,n,sz+1,64⟩:St).row)
  have hargs:=bU.agree (fun r row hr=>by rw[←ba]; exact hr) _ _ (ha pre hinv) (look':=(⟨(sz,.d D)::env,hI pre,n,sz+1,64⟩:St).row)
  obtain⟨e1,e2,e3⟩:=mh hst2 _ bs9 (kH (ev':=ai ((sz,.d D)::env)) (fun y v hv=>by
   cases y with
   | tmp i=>exact hcons i v hv
   | _=>exact hv) _ _ hl)
  have hXlt:∀b,(⟨(sz,.d D)::env,hI pre,n,sz+1,64⟩:St).X C.X0 σ' b→b<W2.heap.size:=by
   rintro b (hx | ⟨r,row,c,h3,h4⟩)
   ·have:=(hst2.x0 b hx).1; have:=hst2.size; omega
   ·exact hst2.lt h3 h4
  have hin:=hst2.enter (us:=(ks.map Operand.tmp).map ag.eval) (fun b=>(⟨(sz,.d D)::env,hI pre,n,sz+1,64⟩:St).X C.X0 σ' b∧¬b6 (σ'.via (rho l)) (h0 pre) b) (by simpa using e1) e3 e2 hargs hrows (hi pre hinv) (fun b hb=>⟨hXlt b hb.1,hb.2⟩) (fun b hb=>hb.1) (.inl hm)
  have hin2:=hin.spread (env':=(d,.d (.sc (enc x)))::ks.zip avs) (sz':=sz) (a':=a1) (fun i v hv=>?_) (by rw[ha1t]; simpa using hasz) (by rw[ha1d]; trivial)
  rotate_left
  ·rw[aN]at hv
   split at hv
   ·rename_i e
    subst e
    simp only[Option.some.injEq]at hv
    subst hv
    exact⟨⟨enc x,by rw[ha1t]; exact Array.getElem?_setIfInBounds_self_of_lt (by simpa using hbld),RelV.sc.2 ⟨rfl,henc x⟩⟩,trivial⟩
   ·-- one of the temporaries b6 in
    have key:∀(ks:List Nat) (avs:List AV) (j:Nat),lk (ks.zip avs) i=some v→∃m:Nat,ks[m]?=some i∧avs[m]?=some v:=by
     intro ks
     induction ks with
     | nil=>intro avs j hz; simp[lk]at hz
     | cons k ks ih =>
      intro avs j hz
      cases avs with
      | nil=>simp[lk]at hz
      | cons y ys =>
       simp only[List.zip_cons_cons,aN]at hz
       split at hz
       ·rename_i e; subst e; simp only[Option.some.injEq]at hz; subst hz; exact⟨0,rfl,rfl⟩
       ·obtain⟨m,h1,h2⟩:=ih ys 0 hz; exact⟨m+1,by simpa using h1,by simpa using h2⟩
    obtain⟨m,hm1,hm2⟩:=key ks avs 0 hv
    have hav:∀(avs:List AV) (k m:Nat),avs[m]?=some v→lk (eg k avs) (k+m)=some v:=by
     intro avs
     induction avs with
     | nil=>intro k m h; simp at h
     | cons y ys ih =>
      intro k m h
      cases m with
      | zero=>simp only[List.getElem?_cons_zero,Option.some.injEq]at h; subst h; simp[eg,aN]
      | succ m =>
       simp only[eg,aN]
       rw[if_neg (by omega),show k+(m+1)=k+1+m by omega]
       exact ih (k+1) m (by simpa using h)
    have hlk:lk (inSt avs (h0 pre)).env m=some v:=by have:=hav avs 0 m hm2; simpa[inSt]using this
    obtain⟨u0,hu1,hu2⟩:=hin.env m v hlk
    refine⟨⟨u0,?_,hu2⟩,hin.envG m v hlk⟩
    have hmem:i∈ks:=List.mem_of_getElem? hm1
    have hki:=List.all_eq_true.1 hks i hmem
    have hid:¬i=d:=by rintro rfl; simp[show Nat.beq i i=true from Nat.beq_refl i]at hki
    have hit':¬i=t:=by rintro rfl; cases hb:Nat.beq i d <;> simp[hb,show Nat.beq i i=true from Nat.beq_refl i]at hki
    have hisz0:i<sz:=by
     have e1:Nat.beq i d=false:=by cases hb:Nat.beq i d; rfl; exact absurd (Nat.eq_of_beq_eq_true hb) hid
     have e2:Nat.beq i t=false:=by cases hb:Nat.beq i t; rfl; exact absurd (Nat.eq_of_beq_eq_true hb) hit'
     simp only[e1,e2,cond_false]at hki
     exact Nat.le_of_ble_eq_true hki
    have hisz:i<a.tmps.size:=by omega
    have hu3:a.eval (.tmp i)=u0:=by
     simp only[List.map_map,List.getElem?_toArray,List.getElem?_map,hm1,Option.map_some,Option.some.injEq,Function.comp]at hu1
     rw[←hageval i hisz0]
     exact hu1
    rw[ha1t,Array.getElem?_setIfInBounds_ne (Ne.symm hid),Array.getElem?_setIfInBounds_ne (Ne.symm hit')]
    rw[←hu3]
    simp[Act.eval,Array.getD_eq_getD_getElem?,hisz]
  have hin3:=hin2.inRo (some lp) (fun l1 h1=>by cases h1; exact⟨_,hl2⟩) (by rw[ha1d]; trivial)
  rw[show (rec .ready none).body=body by rw[hrec]]
  refine wpIn_mono (hbody pre x hinv hnx _ _ _ _ hin3) ?_
  have out:∀(st'':St) (σ'':aB) (a'':Act) (W3:World) (rows:List (Nat×Row)) (l1:bC),Le l1 st'' ⟨[],aw rows,72,sz,64⟩ →
    aA { B:=W2.heap.size,w0:=W2,X0:=fun b=>(⟨(sz,.d D)::env,hI pre,n,sz+1,64⟩:St).X C.X0 σ' b∧¬b6 (σ'.via (rho l)) (h0 pre) b,M:=b6 (σ'.via (rho l)) (h0 pre),bs:=64,σ0:=σ'.via (rho l),ro:=some lp } (fun r=>r<st''.next) st'' σ'' W3 a'' →
    ∃σ3,aA C (fun r=>r<n+8) ⟨(sz,.d D)::env,bA l n (h0 pre) rows++hI pre,n+8,sz+1,64⟩ σ3 W3 ag∧W3.heap[lp]?=some (.loop { rec .ready none with state :=.busy })∧BK W3:=by
   intro st'' σ'' a'' W3 rows l1 hle hs
   have h1:=hs.le hle
   have h2:=h1.spread (env':=[(0,.d (.sc (.bool true)))]) (sz':=1) (a':=⟨#[.bool true],[]⟩) (fun i v hv=>by
    simp only[aN]at hv
    split at hv
    ·rename_i e
     subst e
     simp only[Option.some.injEq]at hv
     subst hv
     exact⟨⟨_,rfl,RelV.sc.2 ⟨rfl,rfl⟩⟩,trivial⟩
    ·simp[lk]at hv) rfl trivial
   have h3:=h2.inRo none (fun _ h=>by cases h) trivial
   obtain⟨σ3,h4,_,_⟩:=hst2.leave (n:=n) (v :=.bool true) (res :=.d (.sc (.bool true))) (rows:=rows) (X1:=fun b=>(⟨(sz,.d D)::env,hI pre,n,sz+1,64⟩:St).X C.X0 σ' b∧¬b6 (σ'.via (rho l)) (h0 pre) b) (fun r h1 h2 h3=>Nat.not_lt.2 h1 h3) rfl hrows (hk pre hinv) (.inl fun b h1 h2=>⟨h1,h2⟩) h3
   refine⟨σ3,?_,hs.below.book _ _ hl2 rfl,fun k hne hk1=>hs.below.book _ _ (hbk2 k hne hk1) rfl⟩
   have h5:=h4.grow (G':=fun r=>r<n+8) (fun r hr=>by rcases hr with hr | hr <;> (try simp only at hr) <;> omega)
   exact { h5 with }
  rintro e a'' W3 ⟨st'',σ'',hq,hs⟩
  cases e with
  | normal =>
   obtain⟨rows,l1,l2,hle1,hinv',hle2⟩:=hq
   obtain⟨σ3,h1,h2,h3⟩:=out st'' σ'' a'' W3 rows l1 hle1 hs
   have h4:=h1.le hle2
   have hend:=run_endRound (P:=P) none h2
   obtain⟨h5,h6,h7⟩:=hput { { rec .ready none with state :=.busy } with state:=if (none:Option Code).isNone then .ready else .done,pending:=none } h4 h2
   exact⟨_,_,hend,.inl ⟨rfl,hinv',by rw[h6,hrec]; rfl,h7 h3,_,h5⟩⟩
  | ret =>
   obtain⟨rows,l1,hle1,hQ⟩:=hq
   obtain⟨σ3,h1,h2,h3⟩:=out st'' σ'' a'' W3 rows l1 hle1 hs
   have hend:=run_endRound (P:=P) (some .ret) h2
   obtain⟨h5,h6,h7⟩:=hput { { rec .ready none with state :=.busy } with state:=if (some Code.ret:Option Code).isNone then .ready else .done,pending:=some .ret } (hdrop h1) h2
   exact⟨_,_,hend,.inr ⟨rfl,.ret,.ret,_,.inl ⟨rfl,rfl⟩,hQ,by rw[h6,hrec]; rfl,h7 h3,_,h5⟩⟩
  | exit i =>
   obtain⟨rows,l1,hle1,hQ⟩:=hq
   obtain⟨σ3,h1,h2,h3⟩:=out st'' σ'' a'' W3 rows l1 hle1 hs
   have hend:=run_endRound (P:=P) (some (.exit i)) h2
   obtain⟨h5,h6,h7⟩:=hput { { rec .ready none with state :=.busy } with state:=if (some (Code.exit i):Option Code).isNone then .ready else .done,pending:=some (.exit i) } (hdrop h1) h2
   exact⟨_,_,hend,.inr ⟨rfl,.exit i,.exit i,_,.inr ⟨i,rfl,rfl⟩,hQ,by rw[h6,hrec]; rfl,h7 h3,_,h5⟩⟩
  | goto t=>exact hq.elim
  | panic ch=>exact hq.elim
  | outgrown=>exact hq.elim
 ·-- DJ the loop
  have fin:∀ {G:Nat→Prop} {st':St} {σ':aB} {W:World} (o':Loop) {r:Loop},aA C G st' σ' W a→W.heap[lp]?=some (.loop r)→BK W→aA C G st' σ' (W.putObj lp (.loop o')) { a with defers:=mark++a.defers }:=by
   intro G st' σ' W o' r h1 h2 h3
   exact h1.putBook h2 rfl hlw hlB hlro (hmark _ fun k hne hk=>(World.putObj_heap_other hne).trans (h3 k hne hk))
  rintro e W' ⟨⟨v,rfl⟩,⟨pre,hd,hinv,hlW,hbk,σ',hst'⟩ | ⟨pre,c,e,st',hce,hQ,hlW,hbk,σ',hst'⟩⟩
  ·exact⟨none,_,by have:=run_endLoop (P:=P) hlW (by rw[hrec]; simp); rw[this]; rw[hrec],⟨_,σ',hdone pre hinv hd,fin _ (hdrop hst') hlW hbk⟩⟩
  ·refine⟨some c,_,by have:=run_endLoop (P:=P) hlW (by rw[hrec]; simp); rw[this]; rw[hrec],?_⟩
   rcases hce with ⟨rfl,rfl⟩ | ⟨i,rfl,rfl⟩
   ·exact wpIn_ret ⟨_,σ',hQ,fin _ hst' hlW hbk⟩
   ·exact wpIn_exit ⟨_,σ',hQ,fin _ hst' hlW hbk⟩
end
section
variable {D : D} {Q : Exit → St → Prop} {l : bC} {n sz : Nat} {h0 : List (Nat × Row)} {env : Env} {h h' : Upds} {Inv' : Prop} {st : St}
theorem zn (rows:List (Nat×Row)) (l1 l2:bC) (h1:Le l1 st ⟨[],aw rows,72,sz,64⟩) (h2:Inv') (h3:Le l2 ⟨(sz,.d D)::env,bA l n h0 rows++h,n+8,sz+1,64⟩ ⟨(sz,.d D)::env,h',n,sz+1,64⟩):wX D Q l n sz h0 env h h' Inv' .normal st:=⟨rows,l1,l2,h1,h2,h3⟩
end
def DJ (K:Act→World→Prop) (Q:Exit→Act→World→Prop):Exit→Act→World→Prop
 | .normal,a,w=>K a w
 | e,a,w=>Q e a w
end Go.Eng
namespace Go.Eng
open Go.RowKit
theorem xw {a:Act} {d:Option Tmp} {x:Value} {i:Nat} (h:∀k,d=some k→i≠k):(a.put d x).tmps[i]?=a.tmps[i]?:=by
 cases d with
 | none=>rfl
 | some k=>exact Array.getElem?_setIfInBounds_ne (Ne.symm (h k rfl))
def dsts:List Oper→List Nat
 | []=>[]
 | o::l=>match o.dst with | some d=>d::dsts l | none=>dsts l
def uf (ds:List Nat) (a a':Act):Prop:=a'.defers=a.defers∧a'.tmps.size=a.tmps.size∧∀i,i ∉ ds→a'.tmps[i]?=a.tmps[i]?
theorem uf.put {o:Oper} {l:List Oper} {a a':Act} {x:Value} (h:uf (dsts l) (a.put o.dst x) a'):uf (dsts (o::l)) a a':=by
 obtain⟨h1,h2,h3⟩:=h
 refine⟨h1.trans ?_,h2.trans ?_,fun i hi=>?_⟩
 ·cases o.dst <;> rfl
 ·cases o.dst with
  | none=>rfl
  | some d=>exact Array.size_setIfInBounds
 ·unfold dsts at hi
  cases hd:o.dst with
  | none =>
   rw[hd]at hi h3
   exact h3 i hi
  | some d =>
   rw[hd]at hi h3
   simp only[List.mem_cons,not_or]at hi
   rw[h3 i hi.2]
   exact xw (fun k hk e=>hi.1 (by cases hk; exact e))
def RegF (P:Program) (all:List Oper) (sz:Nat) (l:List Oper) (n:Nat) (env:Env) (h:Upds) (K:Env→Upds→Nat→Prop):Prop :=
 ∀(C:Ctx) (σ:aB) (w:World) (a:Act),aA C (fun r=>r<n) ⟨env,h,n,sz,64⟩ σ w a→∀(Q:Exit→Act→World→Prop) (l2:List Oper),
  (∀env h n σ w a',K env h n→aA C (fun r=>r<n) ⟨env,h,n,sz,64⟩ σ w a'→uf (dsts l) a a'→wpListIn (fen C.ro) 0 P all.toArray Q l2 a' w)→wpListIn (fen C.ro) 0 P all.toArray Q (l++l2) a w
section
variable {P : Program} {T : Tab} {sz : Nat} {env : Env} {h : Upds} {n : Nat} {all l : List Oper} {K : Env → Upds → Nat → Prop}
theorem lX (h1:K env h n):RegF P all sz [] n env h K:=fun _ σ w a hst _ _ hQ=>hQ env h n σ w a h1 hst ⟨rfl,rfl,fun _ _=>rfl⟩
theorem wa {o:Oper} {v:Option AV} {u:Upds} (hw:∀(C:Ctx) (σ:aB) (w:World) (a:Act),aA C (fun r=>r<n) ⟨env,h,n,sz,64⟩ σ w a→Region.wanted o (yielded all.toArray a.tmps)=true) (hd:ez o.dst sz=true) (hs:ab P o.op env h n v u)
  (h1:RegF P all sz l (n+8) (putE o.dst v env) (u++h) K):RegF P all sz (o::l) n env h K:=by
 intro C σ w a hst Q l2 hQ
 rw[List.cons_append]
 unfold wpListIn
 rw[if_pos (hw C σ w a hst)]
 refine (hs C _ ⟨env,h,n,sz,64⟩ σ w a o rfl ⟨fun i v hi=>hi,fun r row hr=>by rw[←hr,←ba]⟩ (eG hd) hst (fun r h1 h2 h3=>Nat.not_lt.2 h1 h3) rfl _ _ ?_)
 intro x w' σ' G' hst' _ h2
 rw[lu]at hst'
 refine h1 C σ' w' _ ?_ Q l2 (fun env h n σ w a' hk hs hf=>hQ env h n σ w a' hk hs hf.put)
 have:=hst'.grow (G':=fun r=>r<n+8) (fun r hr=>by rcases h2 r hr with hr | hr <;> (try simp only at hr) <;> omega)
 exact { this with }
theorem xq {o:Oper} (hw:∀(C:Ctx) (σ:aB) (w:World) (a:Act),aA C (fun r=>r<n) ⟨env,h,n,sz,64⟩ σ w a→Region.wanted o (yielded all.toArray a.tmps)=false) (hd:ez o.dst sz=true)
  (h1:RegF P all sz l (n+8) (putE o.dst none env) h K):RegF P all sz (o::l) n env h K:=by
 intro C σ w a hst Q l2 hQ
 rw[List.cons_append]
 unfold wpListIn
 rw[if_neg (by rw[hw C σ w a hst]; exact fun e=>by cases e)]
 refine⟨fun _ _=>trivial,?_⟩
 refine h1 C σ w _ ?_ Q l2 (fun env h n σ w a' hk hs hf=>hQ env h n σ w a' hk hs hf.put)
 have hst2:=hst.set (v:=none) (u:=undef) (dst:=o.dst) (eG hd) (eF _ _ _) trivial
 rw[lu]at hst2
 have:=hst2.grow (G':=fun r=>r<n+8) (fun r hr=>Nat.lt_of_lt_of_le hr (Nat.le_add_right n 8))
 exact { this with }
theorem b8 {d:Tmp} {op:Op} {ty:TypeId} {pos:String} {af:Array Edge} {v:AV} (hd:Nat.blt d sz=true) (hs:ab P op env h n (some v) []) (h1:RegF P all sz l (n+8) ((d,v)::env) h K) :
  RegF P all sz (⟨some d,op,ty,pos,af,none⟩::l) n env h K:=wa (fun _ _ _ _ _=>rfl) hd hs h1
theorem rv {dst:Option Tmp} {op:Op} {ty:TypeId} {pos:String} {af:Array Edge} {v:Option AV} {u:Upds} {env':Env} {h':Upds} (hd:ez dst sz=true) (hs:ab P op env h n v u) (he:putE dst v env=env') (hh:u++h=h') (h1:RegF P all sz l (n+8) env' h' K) :
  RegF P all sz (⟨dst,op,ty,pos,af,none⟩::l) n env h K:=wa (fun _ _ _ _ _=>rfl) hd hs (by rw[he,hh]; exact h1)
theorem zx {d:Tmp} {op:Op} {ty:TypeId} {pos:String} {af:Array Edge} {v:AV} {x:Nat×Option Row} (hs:ab P op env h n (some v) [x]) (hd:Nat.blt d sz=true)
  (hk:RegF P all sz l (n+8) ((d,v)::env) (x::h) K):RegF P all sz (⟨some d,op,ty,pos,af,none⟩::l) n env h K:=rv (dst:=some d) hd hs rfl rfl hk
theorem uK {op:Op} {ty:TypeId} {pos:String} {af:Array Edge} {x:Nat×Option Row} (hs:ab P op env h n none [x])
  (hk:RegF P all sz l (n+8) env (x::h) K):RegF P all sz (⟨none,op,ty,pos,af,none⟩::l) n env h K:=rv (dst:=none) rfl hs rfl rfl hk
theorem rr {d:Option Tmp} {op:Op} {ty:TypeId} {pos:String} {af:Array Edge} {j g:Nat} {want b:Bool} (hj:((all[j]?).bind (·.dst))=some g) (hb:lk env g=some (.bool b)) (he:b=want)
  (h1:RegF P all sz (⟨d,op,ty,pos,af,none⟩::l) n env h K):RegF P all sz (⟨d,op,ty,pos,af,some (j,want)⟩::l) n env h K:=by
 intro C σ w a hst Q l2 hQ
 have:=h1 C σ w a hst Q l2 hQ
 rw[List.cons_append]at this ⊢
 unfold wpListIn at this ⊢
 rw[if_pos (show Region.wanted ⟨d,op,ty,pos,af,none⟩ _=true from rfl)]at this
 rw[if_pos (by rw[gN (o:=⟨d,op,ty,pos,af,some (j,want)⟩) rfl hj hb C σ w a _ h n hst,he]; exact beq_self_eq_true _)]
 exact this
theorem xp {d:Option Tmp} {op:Op} {ty:TypeId} {pos:String} {af:Array Edge} {j g:Nat} {want b:Bool} {env':Env} (hj:((all[j]?).bind (·.dst))=some g) (hb:lk env g=some (.bool b)) (he:b = !want) (hd:ez d sz=true)
  (he':putE d none env=env') (h1:RegF P all sz l (n+8) env' h K):RegF P all sz (⟨d,op,ty,pos,af,some (j,want)⟩::l) n env h K :=
 xq (fun C σ w a hst=>by rw[gN (o:=⟨d,op,ty,pos,af,some (j,want)⟩) rfl hj hb C σ w a _ h n hst,he]; cases want <;> rfl) hd (by rw[he']; exact h1)
theorem ru {l1 l2:List Oper} {C:Ctx} {σ:aB} {w:World} {a:Act} {Q:Exit→Act→World→Prop} {id:Nat} {opa:Array Oper} (K:Env→Upds→Nat→Prop) (he:opa.toList=l1++l2) (hro:C.ro=none) (hst:aA C (fun r=>r<n) ⟨env,h,n,sz,64⟩ σ w a) (h1:RegF P opa.toList sz l1 n env h K)
  (h2:∀env h n σ w a',K env h n→aA C (fun r=>r<n) ⟨env,h,n,sz,64⟩ σ w a'→uf (dsts l1) a a'→wpListIn Fence.wide 0 P opa Q l2 a' w):(Code.region id opa false).wpIn Fence.wide 0 P Q a w:=by
 refine wpIn_region_list ?_
 rw[he]
 have hf:fen C.ro=Fence.wide:=by rw[hro]; rfl
 have h3:=h1 C σ w a hst Q l2 (fun env h n σ w a' hk hs hs2=>by rw[hf]; simpa using h2 env h n σ w a' hk hs hs2)
 rw[hf]at h3
 simpa using h3
end
end Go.Eng
namespace Go.Proofs.Ytmdgmolbamlicaa
open Go Go.Eng Go.Plain Go.RowKit
set_option maxHeartbeats 32000000
set_option maxRecDepth 20000
def selI (p:HOp→Bool):List HOp→Nat→List Nat
 | [],_=>[]
 | o::l,i=>if p o=true then i::selI p l (i+1) else selI p l (i+1)
theorem xm {p:HOp→Bool} {l:List HOp} {i:Nat} {o:HOp} (h:l[i]?=some o):selI p (l.drop i) i=if p o=true then i::selI p (l.drop (i+1)) (i+1) else selI p (l.drop (i+1)) (i+1):=by
 have hlt:=(List.getElem?_eq_some_iff.1 h).1
 rw[List.drop_eq_getElem_cons hlt,(List.getElem?_eq_some_iff.1 h).2]
 rfl
theorem De {F:Fence} {n:Nat} {P:Program} {Q:Exit→Act→World→Prop} {c:Code} {a:Act} {w:World} (I:Nat→Act→World→Prop) (k:Nat) (h0:I k a w)
  (step:∀m a w,I m a w→c.wpIn F n P (Exit.then (fun a w=>∃m',m'<m∧I m' a w) Q) a w):(Code.loop c).wpIn F n P Q a w:=by
 have key:∀m j a w,j≤m→I j a w→Code.roundsIn F n P c Q (m+1) a w:=by
  intro m
  induction m with
  | zero =>
   intro j a w hj hi
   rw[roundsIn_succ]
   refine wpIn_mono (step j a w hi) ?_
   intro e a w h
   cases e with
   | normal=>obtain⟨m',h1,_⟩:=h; omega
   | _=>exact h
  | succ m ih =>
   intro j a w hj hi
   rw[roundsIn_succ]
   refine wpIn_mono (step j a w hi) ?_
   intro e a w h
   cases e with
   | normal=>obtain⟨m',h1,h2⟩:=h; exact ih m' a w (by omega) h2
   | _=>exact h
 exact wpIn_loop_rounds (k+1) (key k k a w (Nat.le_refl _) h0)
theorem Ff {t:Array Value} (h:t.size=30):∃v0 v1 v2 v3 v4 v5 v6 v7 v8 v9 v10 v11 v12 v13 v14 v15 v16 v17 v18 v19 v20 v21 v22 v23 v24 v25 v26 v27 v28 v29,t = #[v0,v1,v2,v3,v4,v5,v6,v7,v8,v9,v10,v11,v12,v13,v14,v15,v16,v17,v18,v19,v20,v21,v22,v23,v24,v25,v26,v27,v28,v29]:=by
 obtain⟨l⟩:=t
 match l,h with
 | [v0,v1,v2,v3,v4,v5,v6,v7,v8,v9,v10,v11,v12,v13,v14,v15,v16,v17,v18,v19,v20,v21,v22,v23,v24,v25,v26,v27,v28,v29],_=>exact⟨v0,v1,v2,v3,v4,v5,v6,v7,v8,v9,v10,v11,v12,v13,v14,v15,v16,v17,v18,v19,v20,v21,v22,v23,v24,v25,v26,v27,v28,v29,rfl⟩
abbrev pf (l:List HOp) (b e era:Int) (xs:List (List Int)) (hf:Nat):List (Nat×Row):=(20,.box 73 (.d (fv l)))::(21,.box 3 (.int .i64 era))::(22,.box 128 (.fn (.func hf) .anil (.acons (.ptr 23 []) .anil)))::gD l b e xs
def FB (L:List Nat) (pre:List Nat) (x:Nat):Prop:=∃rest,L=pre++x::rest
def eraB (era:Int) (f:HOp→Bool) (o:HOp):Bool:=decide (o.era=era)&&f o
abbrev tq (lp:Nat) (l:List HOp) (i:Nat):Env:=[(0,.fn (.yield lp) .anil .anil),(2,.ptr 21 []),(3,.ptr 22 []),(7,.d (fv l)),(8,.int .i64 l.length),(9,.int .i64 i)]
def ItK (lp:Nat) (l:List HOp) (i:Nat) (rows:List (Nat×Row)) (b:Bool) (env:Env) (h:Upds) (n:Nat):Prop:=Le [] ⟨env,h,n,30,64⟩ ⟨(23,.bool b)::(5,.int .i64 i)::tq lp l i,aw rows,72,30,64⟩
attribute [local irreducible] WC RegS RegD SeqQ BlkQ ScoQ RegK CutK Sat SatN FnIs LoopQ ab OpIs RegF
theorem ua (l:List HOp) (b e era:Int) (xs:List (List Int)) (hf:Nat) (f:HOp→Bool) (hL:l.length≤1048576) (hfi:∀o,FnIs Try.prog hf [.d (a9 o),.ptr 23 []] (gD l b e xs) (.bool (f o)) (gD l b e xs)) :
  wZ Try.prog 83 [.ptr 20 [],.ptr 21 [],.ptr 22 []] (pf l b e era xs hf) (fv l) (fun x:Nat=>Value.int .i64 x) (FB (selI (eraB era f) l 0)) (fun pre=>pre=selI (eraB era f) l 0):=by
 refine⟨⟨Try.f83,Try.func83,rfl,rfl⟩,fun ad us u lp J Jx w hcell hE hY h0=>?_⟩
 obtain⟨v1,v2,rfl⟩:∃v1 v2,us=[v1,v2]:=by
  obtain⟨C,σ,_,_,_,_,_,hst,_⟩:=hE [] w h0
  have hsz:=hst.sz
  have:us.length=2:=by simpa[inSt]using hsz
  match us,this with
  | [v1,v2],_=>exact⟨v1,v2,rfl⟩
 obtain⟨p,c,rfl⟩:∃p c,u=.slice p l.length c:=by
  obtain⟨C,σ,_,_,_,_,_,hst,_⟩:=hE [] w h0
  obtain⟨u',h1,h2⟩:=hst.env 3 (.d (fv l)) rfl
  obtain rfl:u=u':=by simpa using h1
  rcases RelV.arx.1 h2 with ⟨rfl,a,rfl⟩ | ⟨ad,hu,_⟩
  ·exact⟨_,_,rfl⟩
  ·exact⟨_,_,hu⟩
 refine callsIn_wide.1 (callsIn_of_wp (n:=0) Try.func83 rfl trivial ?_ rfl)
 simp only[show Try.f83.ntmps=30 from rfl,List.size_toArray,List.length_cons,List.length_nil,Nat.reduceAdd,Nat.reduceSub,Array.replicate_succ,Array.replicate_zero,List.push_toArray,List.append_toArray,List.nil_append,List.cons_append]
 gi_wp2
 refine De (fun m a W=>∃(i:Nat) (pre:List Nat) (v4 v5 v6 v10 v11 v12 v13 v14 v15 v16 v17 v18 v19 v20 v21 v22 v23 v24 v25 v26 v27 v28 v29:Value),m+i=l.length∧J pre W∧selI (eraB era f) l 0=pre++selI (eraB era f) (l.drop i) i ∧
  a = { tmps := #[.func (.yield lp) #[] #[],.pointer (some ad),v1,v2,v4,v5,v6,.slice p l.length c,.int .i64 l.length,.int .i64 i,v10,v11,v12,v13,v14,v15,v16,v17,v18,v19,v20,v21,v22,v23,v24,v25,v26,v27,v28,v29],defers:=[] }) l.length ?start ?round
 case start =>
  exact⟨0,[],_,_,_,_,_,_,_,_,_,_,_,_,_,_,_,_,_,_,_,_,_,_,_,by simp,h0,rfl,rfl⟩
 case round =>
  rintro m a W ⟨i,pre,v4,v5,v6,v10,v11,v12,v13,v14,v15,v16,v17,v18,v19,v20,v21,v22,v23,v24,v25,v26,v27,v28,v29,hm,hJ,hsel,ha⟩
  obtain⟨C,σ,hbs,hB,hw0,hσ,hro,hst,hback⟩:=hE pre W hJ
  have hsp:aA C (fun r=>r<64) ⟨tq lp l i,aw (pf l b e era xs hf),64,30,64⟩ σ W a:=by
   refine hst.spread (env':=tq lp l i) (sz':=30) (a':=a) (fun j v hv=>?_) (by rw[ha]; rfl) (by rw[ha]; trivial)
   simp only[aN]at hv
   split at hv
   ·rename_i q
    cases hv
    subst q
    exact⟨⟨_,by rw[ha]; rfl,⟨[],[],rfl,rfl,rfl⟩⟩,trivial,trivial⟩
   ·split at hv
    ·rename_i q
     cases hv
     subst q
     obtain⟨x,h1,h2⟩:=hst.env 1 (.ptr 21 []) rfl
     obtain rfl:v1=x:=by simpa using h1
     exact⟨⟨_,by rw[ha]; rfl,h2⟩,hst.envG 1 (.ptr 21 []) rfl⟩
    ·split at hv
     ·rename_i q
      cases hv
      subst q
      obtain⟨x,h1,h2⟩:=hst.env 2 (.ptr 22 []) rfl
      obtain rfl:v2=x:=by simpa using h1
      exact⟨⟨_,by rw[ha]; rfl,h2⟩,hst.envG 2 (.ptr 22 []) rfl⟩
     ·split at hv
      ·rename_i q
       cases hv
       subst q
       obtain⟨x,h1,h2⟩:=hst.env 3 (.d (fv l)) rfl
       obtain rfl:Value.slice p l.length c=x:=by simpa using h1
       exact⟨⟨_,by rw[ha]; rfl,h2⟩,trivial⟩
      ·split at hv
       ·rename_i q
        cases hv
        subst q
        exact⟨⟨_,by rw[ha]; rfl,RelV.sc.2 ⟨rfl,rfl⟩⟩,trivial⟩
       ·split at hv
        ·rename_i q
         cases hv
         subst q
         exact⟨⟨_,by rw[ha]; rfl,RelV.sc.2 ⟨rfl,rfl⟩⟩,trivial⟩
        ·simp[lk]at hv
  by_cases hlt:i<l.length
  ·have d1:decide ((i:Int)<(l.length:Int))=true:=dT (by omega)
   obtain⟨o,ho⟩:∃o,l[i]?=some o:=⟨_,List.getElem?_eq_getElem hlt⟩
   have hl:l[((i:Int)).toNat]?=some o:=by rw[Int.toNat_natCast]; exact ho
   rw[xm ho]at hsel
   refine wpIn_seq ?_;refine ru (fun env h n=>env=(10,.bool (decide ((i:Int)<(l.length:Int))))::tq lp l i∧h=aw (pf l b e era xs hf)∧n=72) (l1:=[_]) (l2:=[]) rfl hro hsp (b8 rfl (bD aa (fun K hk=>hk)) (lX ⟨rfl,rfl,rfl⟩)) ?_
   rintro _ _ _ σ1 W1 a1 ⟨rfl,rfl,rfl⟩ hs1 st1
   rw[d1]at hs1
   show Code.wpIn _ _ _ _ _ _ _
   refine wpIn_seq ?_
   obtain⟨q,hq1,hq2⟩:=hs1.env 10 (.bool true) rfl
   obtain⟨rfl,_⟩:=RelV.sc.1 hq2
   refine wpIn_cond_true (by simp[Act.eval,Array.getD_eq_getD_getElem?,hq1]) ?_;refine wpIn_skip ?_
   show Code.wpIn _ _ _ _ _ _ _
   refine wpIn_seq ?_;refine wpIn_block ?_;refine wpIn_seq ?_;refine ru (fun env h n=>Le [] ⟨env,h,n,30,64⟩ ⟨(5,.int .i64 i)::(6,.ptr 96 [])::tq lp l i,(96,some (.box 67 (.d (a9 o))))::aw (pf l b e era xs hf),120,30,64⟩) (l1:=[_,_,_,_,_,_]) (l2:=[]) rfl hro hs1 ?g2 ?_
   case g2 =>
    refine b8 rfl (bD aa (fun K hk=>hk)) ?_;refine b8 rfl yY ?_;refine b8 rfl (o7 aa rfl rfl) ?_;refine zx (bD aa (fun K hk=>hk)) rfl ?_;refine b8 rfl (bD aa (fun K hk=>hk)) ?_;refine uK (aG aa rfl rfl rfl ⟨_,⟨rfl,rfl,rfl⟩,rfl⟩ rfl) ?_;refine lX ?_
    exact lg ze ⟨zR,zR,zR,zR,zR,zR,zR,trivial⟩
   rintro _ _ _ σ2 W2 a2 hle2 hs2 st2
   replace hs2:=hs2.le hle2
   generalize σ2.via (rho [])=σ2 at hs2
   show Code.wpIn _ _ _ _ _ _ _
   refine wpIn_seq ?_;refine ru (ItK lp l i (pf l b e era xs hf) (eraB era f o)) (l1:=[_,_,_,_,_,_,_,_,_,_]) (l2:=[_,_,_,_,_]) rfl hro hs2 ?g3 ?_
   case g3 =>
    refine b8 rfl (bD aa (fun K hk=>hk)) ?_;refine b8 rfl (ay aa rfl rfl ⟨_,rfl,rfl⟩ rfl) ?_;refine b8 rfl (ay aa rfl rfl rfl rfl) ?_
    iterate 2 refine b8 rfl (bD aa (fun K hk=>hk)) ?_
    cases he:decide (o.era=era) with
    | true =>
     refine rr rfl rfl rfl ?_;refine b8 rfl (ay aa rfl rfl rfl rfl) ?_;refine rr rfl rfl rfl ?_;refine b8 rfl (ay aa rfl rfl rfl rfl) ?_;refine rr rfl rfl rfl ?_;refine rv rfl (aS [(23,some 23),(0,some 0),(3,some 3)] (hfi o) rfl rfl rfl (aE (aT rfl rfl au)) ⟨zH,zH,zH,trivial⟩ rfl rfl (.inl rfl) rfl rfl) rfl rfl ?_;refine b8 rfl (jb aa rfl rfl rfl) ?_;refine b8 rfl (bD aa (fun K hk=>hk)) ?_;refine lX ?_
     show Le _ _ _
     rw[show eraB era f o=f o by rw[eraB,he]; rfl]
     exact lg ze ⟨zR,zR,zR,zR,zR,zR,trivial⟩
    | false =>
     iterate 3 refine xp rfl rfl rfl rfl rfl ?_
     refine b8 rfl (jc aa rfl rfl rfl) ?_;refine b8 rfl (bD aa (fun K hk=>hk)) ?_;refine lX ?_
     show Le _ _ _
     rw[show eraB era f o=false by rw[eraB,he]; rfl]
     exact lg ze ⟨zR,zR,zR,zR,zR,zR,trivial⟩
   rintro _ _ _ σ3 W3 a3 hle3 hs3 st3
   replace hs3:=hs3.le hle3
   generalize σ3.via (rho [])=σ3 at hs3
   have hJ3:J pre W3:=by
    refine hback W3 σ3 (hs3.spread (env':=[(0,.d (.sc (.bool true)))]) (sz':=1) (a':=⟨#[.bool true],[]⟩) (fun j v hv=>?_) rfl trivial)
    simp only[aN]at hv
    split at hv
    ·rename_i q
     subst q
     cases hv
     exact⟨⟨_,rfl,RelV.sc.2 ⟨rfl,rfl⟩⟩,trivial⟩
    ·simp[lk]at hv
   have kd:a3.defers=[]:=by rw[st3.1,st2.1,st1.1,ha]
   have ksz:a3.tmps.size=30:=by rw[st3.2.1,st2.2.1,st1.2.1,ha]; rfl
   have key:∀j,j ∉ [10,11,12,13,6,5,14,15,16,17,18,19,20,21,22,23]→a3.tmps[j]?=a.tmps[j]?:=fun j hj=>by
    simp only[List.mem_cons,List.not_mem_nil,or_false,not_or]at hj
    rw[st3.2.2 j (by simp only[dsts,List.mem_cons,List.not_mem_nil,or_false,not_or]; omega),st2.2.2 j (by simp only[dsts,List.mem_cons,List.not_mem_nil,or_false,not_or]; omega),st1.2.2 j (by simp only[dsts,List.mem_cons,List.not_mem_nil,or_false,not_or]; omega)]
   obtain⟨q5,h5,h5'⟩:=hs3.env 5 (.int .i64 i) rfl
   obtain⟨rfl,_⟩:=RelV.sc.1 h5'
   obtain⟨q23,h23,h23'⟩:=hs3.env 23 (.bool (eraB era f o)) rfl
   obtain⟨rfl,_⟩:=RelV.sc.1 h23'
   obtain⟨w0,w1,w2,w3,w4,w5,w6,w7,w8,w9,w10,w11,w12,w13,w14,w15,w16,w17,w18,w19,w20,w21,w22,w23,w24,w25,w26,w27,w28,w29,hv⟩:=Ff ksz
   obtain⟨t3,d3⟩:=a3
   subst ha
   subst hv
   subst kd
   have k0:=key 0 (by decide)
   have k1:=key 1 (by decide)
   have k2:=key 2 (by decide)
   have k3:=key 3 (by decide)
   have k7:=key 7 (by decide)
   have k8:=key 8 (by decide)
   have k9:=key 9 (by decide)
   simp only[List.getElem?_toArray,List.getElem?_cons_zero,List.getElem?_cons_succ,Option.some.injEq]at k0 k1 k2 k3 k7 k8 k9 h5 h23
   subst k0 k1 k2 k3 k7 k8 k9 h5 h23
   clear hs1 hs2 hs3 st1 st2 st3 key hle2 hle3 hsp hst hback hq1 hq2 h5' h23'
   cases hb:eraB era f o with
   | true =>
    rw[hb,if_pos rfl]at hsel
    obtain⟨fn,tmps,assign,body,hy,hR⟩:=hY pre i W3 hJ3 ⟨_,hsel⟩
    gi_wp2
    refine⟨rfl,hR.mono ?_⟩
    rintro e' W' (⟨rfl,hJ'⟩ | ⟨rfl,hJx⟩)
    ·gi_wp2
     exact⟨m-1,by omega,i+1,pre++[i],_,_,_,_,_,_,_,_,_,_,_,_,_,_,_,_,_,_,_,_,_,_,_,by omega,hJ',by rw[hsel]; simp,rfl⟩
    ·gi_wp2
     refine bodyPost_ret (results_none rfl _ _ _) rfl ?_
     exact⟨⟨_,rfl⟩,.inr ⟨_,hJx⟩⟩
   | false =>
    rw[hb,if_neg (by decide)]at hsel
    gi_wp2
    refine⟨fun _ hx=>(nomatch hx),?_⟩
    gi_wp2
    exact⟨m-1,by omega,i+1,pre,_,_,_,_,_,_,_,_,_,_,_,_,_,_,_,_,_,_,_,_,_,_,_,by omega,hJ3,hsel,rfl⟩
  ·have d1:decide ((i:Int)<(l.length:Int))=false:=dF (by omega)
   rw[List.drop_eq_nil_of_le (by omega),selI,List.append_nil]at hsel
   subst ha
   gi_wp2
   go_end0
   exact⟨⟨_,rfl⟩,.inl ⟨_,hsel.symm,hJ⟩⟩
end Go.Proofs.Ytmdgmolbamlicaa
namespace Go.Proofs.Ytmdgmolbamlicaa
open Go.Eng Go.Plain
set_option maxHeartbeats 32000000
set_option maxRecDepth 20000
attribute [local irreducible] WC RegS RegD SeqQ BlkQ ScoQ RegK CutK Sat SatN FnIs LoopQ ab OpIs
abbrev BMap:=List (List UInt8×Int)
abbrev g8 (m:BMap):Row :=.mo (mapC bc (asC i6 m))
theorem gl {κ ν:Type} (e:ν→D) (l:List (κ×ν)):(asC e l).length=l.length:=by simp[asC]
theorem DH (l:List UInt8):kf Try.prog 2 40 (bc l):=B6 aa (P:=Try.prog) Try.underlying40 rfl (fun _=>rfl) rfl (fun _=>sa (P:=Try.prog) Try.underlying5)
theorem Cs (l:List UInt8):(bc l).keyd:=fun x n=>by cases n <;> simp[Instr.sameBits]
theorem keyB:eD Try.prog 40 bc 2:=pc (by decide) (by rw[Try.underlying40]) DH cJ Cs
def numB (o:HOp):List UInt8:=if o.op.kind=2 then o.op.data else o.value
def numP (pl:IMap) (o:HOp):IMap:=if o.op.kind=3 then pl else match getA pl o.op.index with
 | some _=>pl
 | none=>putA pl o.op.index pl.length
def numV (vs:BMap) (o:HOp):BMap:=if o.op.kind=3 then vs else match getA vs (numB o) with
 | some _=>vs
 | none=>putA vs (numB o) vs.length
abbrev bV (l:List HOp) (b e:Int) (xs:List (List Int)) (pl:IMap) (vs:BMap):List (Nat×Row):=[(0,sBox l b e (.own 3 0 xs.length 1 none) sNil sNil),(1,fV pl),(2,g8 vs),(3,fF xs)]
theorem xC (l:List HOp) (b e:Int) (xs:List (List Int)) (pl:IMap) (vs:BMap) (o:HOp) (hd:o.op.kind=2→o.op.data.length=32):FnIs Try.prog 68 [.ptr 0 [],.d (a9 o)] (bV l b e xs pl vs) (.tup .anil) (bV l b e xs (numP pl o) (numV vs o)):=by
 refine aq aa Try.func68 rfl rfl rfl ?_
 unfold numP numV
 by_cases h3:o.op.kind=3
 ·have d3:decide (o.op.kind=3)=true:=dT h3
  rw[if_pos h3,if_pos h3]
  refine z17 ?_
  exact⟨trivial,[],lg zV ⟨zR,zM,zM,zR,trivial⟩⟩
 have d3:decide (o.op.kind=3)=false:=dF h3
 rw[if_neg h3,if_neg h3]
 by_cases hk:o.op.kind=2
 ·have d2:decide (o.op.kind=2)=true:=dT hk
  rw[show numB o=o.op.data by rw[numB,if_pos hk]]
  rcases dj i6 o.op.index pl 0 with ⟨hf,hg,hp⟩ | ⟨j,t,hf,_,hg,_⟩
  ·rw[hg]
   rcases dj i6 (o.op.data) vs 0 with ⟨hf2,hg2,hp2⟩ | ⟨j2,t2,hf2,_,hg2,_⟩
   ·rw[hg2]
    refine z23 ?_;refine dQ [16] [0] iM ?_;refine z2 ?_;refine dQ [19] [64] iB ?_;refine dQ [17,20] [1] (cp (κ:=Int) (enc:=i6) (l:=asC i6 pl) keyI Try.underlying74 fk rfl rfl rfl hf) ?_;refine z18 ?_;refine dQ [28] [0] iM ?_;refine z2 ?_;refine dQ [31] [64] iB ?_;refine z3 ?_;refine dQ [35] [0] iM ?_;refine dQ [36] [1] (gj (κ:=Int) (enc:=i6) (l:=asC i6 pl) Try.underlying74 rfl rfl) ?_;refine bj [29,32,37] [1] (b7 (κ:=Int) (enc:=i6) (l:=asC i6 pl) keyI Try.underlying74 rfl rfl rfl rfl hf) ?_;refine z24 ?_;refine rQ (yK (gG o.op.data (hd hk))) ?_;refine z8 ?_;refine dQ [51] [0] iM ?_;refine dQ [6] [344] iM ?_;refine dQ [52,53] [2] (cp (κ:=List UInt8) (enc:=bc) (l:=asC i6 vs) keyB Try.underlying75 fk rfl rfl rfl hf2) ?_;refine z18 ?_;refine dQ [61] [0] iM ?_;refine dQ [6] [344] iM ?_;refine z3 ?_;refine dQ [66] [0] iM ?_;refine dQ [67] [2] (gj (κ:=List UInt8) (enc:=bc) (l:=asC i6 vs) Try.underlying75 rfl rfl) ?_;refine bj [62,63,68] [2] (b7 (κ:=List UInt8) (enc:=bc) (l:=asC i6 vs) keyB Try.underlying75 rfl rfl rfl rfl hf2) ?_;refine z1 ?_
    exact⟨trivial,[],lg zV ⟨zR,⟨rfl,bq _,_,rfl,aM.of_eq (by show _=Row.mo ((mapC i6 (asC i6 (putA pl _ _))).ren _); rw[aY,hp,←gl i6 pl])⟩,⟨rfl,bq _,_,rfl,aM.of_eq (by show _=Row.mo ((mapC bc (asC i6 (putA vs _ _))).ren _); rw[aY,hp2,←gl i6 vs])⟩,zR,trivial⟩⟩
   ·rw[hg2]
    rw[Nat.zero_add]at hf2
    refine z23 ?_;refine dQ [16] [0] iM ?_;refine z2 ?_;refine dQ [19] [64] iB ?_;refine dQ [17,20] [1] (cp (κ:=Int) (enc:=i6) (l:=asC i6 pl) keyI Try.underlying74 fk rfl rfl rfl hf) ?_;refine z18 ?_;refine dQ [28] [0] iM ?_;refine z2 ?_;refine dQ [31] [64] iB ?_;refine z3 ?_;refine dQ [35] [0] iM ?_;refine dQ [36] [1] (gj (κ:=Int) (enc:=i6) (l:=asC i6 pl) Try.underlying74 rfl rfl) ?_;refine bj [29,32,37] [1] (b7 (κ:=Int) (enc:=i6) (l:=asC i6 pl) keyI Try.underlying74 rfl rfl rfl rfl hf) ?_;refine z24 ?_;refine rQ (yK (gG o.op.data (hd hk))) ?_;refine z8 ?_;refine dQ [51] [0] iM ?_;refine dQ [6] [344] iM ?_;refine dQ [52,53] [2] (bL (κ:=List UInt8) (enc:=bc) (l:=asC i6 vs) keyB Try.underlying75 rfl rfl rfl hf2) ?_;refine z15 ?_
    exact⟨trivial,[],lg zV ⟨zR,⟨rfl,bq _,_,rfl,aM.of_eq (by show _=Row.mo ((mapC i6 (asC i6 (putA pl _ _))).ren _); rw[aY,hp,←gl i6 pl])⟩,zM,zR,trivial⟩⟩
  ·rw[hg]
   rw[Nat.zero_add]at hf
   rcases dj i6 (o.op.data) vs 0 with ⟨hf2,hg2,hp2⟩ | ⟨j2,t2,hf2,_,hg2,_⟩
   ·rw[hg2]
    refine z23 ?_;refine dQ [16] [0] iM ?_;refine z2 ?_;refine dQ [19] [64] iB ?_;refine dQ [17,20] [1] (bL (κ:=Int) (enc:=i6) (l:=asC i6 pl) keyI Try.underlying74 rfl rfl rfl hf) ?_;refine z38 ?_;refine rQ (yK (gG o.op.data (hd hk))) ?_;refine z8 ?_;refine dQ [51] [0] iM ?_;refine dQ [6] [240] iM ?_;refine dQ [52,53] [2] (cp (κ:=List UInt8) (enc:=bc) (l:=asC i6 vs) keyB Try.underlying75 fk rfl rfl rfl hf2) ?_;refine z18 ?_;refine dQ [61] [0] iM ?_;refine dQ [6] [240] iM ?_;refine z3 ?_;refine dQ [66] [0] iM ?_;refine dQ [67] [2] (gj (κ:=List UInt8) (enc:=bc) (l:=asC i6 vs) Try.underlying75 rfl rfl) ?_;refine bj [62,63,68] [2] (b7 (κ:=List UInt8) (enc:=bc) (l:=asC i6 vs) keyB Try.underlying75 rfl rfl rfl rfl hf2) ?_;refine z1 ?_
    exact⟨trivial,[],lg zV ⟨zR,zM,⟨rfl,bq _,_,rfl,aM.of_eq (by show _=Row.mo ((mapC bc (asC i6 (putA vs _ _))).ren _); rw[aY,hp2,←gl i6 vs])⟩,zR,trivial⟩⟩
   ·rw[hg2]
    rw[Nat.zero_add]at hf2
    refine z23 ?_;refine dQ [16] [0] iM ?_;refine z2 ?_;refine dQ [19] [64] iB ?_;refine dQ [17,20] [1] (bL (κ:=Int) (enc:=i6) (l:=asC i6 pl) keyI Try.underlying74 rfl rfl rfl hf) ?_;refine z38 ?_;refine rQ (yK (gG o.op.data (hd hk))) ?_;refine z8 ?_;refine dQ [51] [0] iM ?_;refine dQ [6] [240] iM ?_;refine dQ [52,53] [2] (bL (κ:=List UInt8) (enc:=bc) (l:=asC i6 vs) keyB Try.underlying75 rfl rfl rfl hf2) ?_;refine z15 ?_
    exact⟨trivial,[],lg zV ⟨zR,zM,zM,zR,trivial⟩⟩
 ·have d2:decide (o.op.kind=2)=false:=dF hk
  rw[show numB o=o.value by rw[numB,if_neg hk]]
  rcases dj i6 o.op.index pl 0 with ⟨hf,hg,hp⟩ | ⟨j,t,hf,_,hg,_⟩
  ·rw[hg]
   rcases dj i6 (o.value) vs 0 with ⟨hf2,hg2,hp2⟩ | ⟨j2,t2,hf2,_,hg2,_⟩
   ·rw[hg2]
    refine z23 ?_;refine dQ [16] [0] iM ?_;refine z2 ?_;refine dQ [19] [64] iB ?_;refine dQ [17,20] [1] (cp (κ:=Int) (enc:=i6) (l:=asC i6 pl) keyI Try.underlying74 fk rfl rfl rfl hf) ?_;refine z18 ?_;refine dQ [28] [0] iM ?_;refine z2 ?_;refine dQ [31] [64] iB ?_;refine z3 ?_;refine dQ [35] [0] iM ?_;refine dQ [36] [1] (gj (κ:=Int) (enc:=i6) (l:=asC i6 pl) Try.underlying74 rfl rfl) ?_;refine bj [29,32,37] [1] (b7 (κ:=Int) (enc:=i6) (l:=asC i6 pl) keyI Try.underlying74 rfl rfl rfl rfl hf) ?_;refine z27 ?_;refine dQ [51] [0] iM ?_;refine dQ [6] [344] iM ?_;refine dQ [52,53] [2] (cp (κ:=List UInt8) (enc:=bc) (l:=asC i6 vs) keyB Try.underlying75 fk rfl rfl rfl hf2) ?_;refine z18 ?_;refine dQ [61] [0] iM ?_;refine dQ [6] [344] iM ?_;refine z3 ?_;refine dQ [66] [0] iM ?_;refine dQ [67] [2] (gj (κ:=List UInt8) (enc:=bc) (l:=asC i6 vs) Try.underlying75 rfl rfl) ?_;refine bj [62,63,68] [2] (b7 (κ:=List UInt8) (enc:=bc) (l:=asC i6 vs) keyB Try.underlying75 rfl rfl rfl rfl hf2) ?_;refine z1 ?_
    exact⟨trivial,[],lg zV ⟨zR,⟨rfl,bq _,_,rfl,aM.of_eq (by show _=Row.mo ((mapC i6 (asC i6 (putA pl _ _))).ren _); rw[aY,hp,←gl i6 pl])⟩,⟨rfl,bq _,_,rfl,aM.of_eq (by show _=Row.mo ((mapC bc (asC i6 (putA vs _ _))).ren _); rw[aY,hp2,←gl i6 vs])⟩,zR,trivial⟩⟩
   ·rw[hg2]
    rw[Nat.zero_add]at hf2
    refine z23 ?_;refine dQ [16] [0] iM ?_;refine z2 ?_;refine dQ [19] [64] iB ?_;refine dQ [17,20] [1] (cp (κ:=Int) (enc:=i6) (l:=asC i6 pl) keyI Try.underlying74 fk rfl rfl rfl hf) ?_;refine z18 ?_;refine dQ [28] [0] iM ?_;refine z2 ?_;refine dQ [31] [64] iB ?_;refine z3 ?_;refine dQ [35] [0] iM ?_;refine dQ [36] [1] (gj (κ:=Int) (enc:=i6) (l:=asC i6 pl) Try.underlying74 rfl rfl) ?_;refine bj [29,32,37] [1] (b7 (κ:=Int) (enc:=i6) (l:=asC i6 pl) keyI Try.underlying74 rfl rfl rfl rfl hf) ?_;refine z27 ?_;refine dQ [51] [0] iM ?_;refine dQ [6] [344] iM ?_;refine dQ [52,53] [2] (bL (κ:=List UInt8) (enc:=bc) (l:=asC i6 vs) keyB Try.underlying75 rfl rfl rfl hf2) ?_;refine z15 ?_
    exact⟨trivial,[],lg zV ⟨zR,⟨rfl,bq _,_,rfl,aM.of_eq (by show _=Row.mo ((mapC i6 (asC i6 (putA pl _ _))).ren _); rw[aY,hp,←gl i6 pl])⟩,zM,zR,trivial⟩⟩
  ·rw[hg]
   rw[Nat.zero_add]at hf
   rcases dj i6 (o.value) vs 0 with ⟨hf2,hg2,hp2⟩ | ⟨j2,t2,hf2,_,hg2,_⟩
   ·rw[hg2]
    refine z23 ?_;refine dQ [16] [0] iM ?_;refine z2 ?_;refine dQ [19] [64] iB ?_;refine dQ [17,20] [1] (bL (κ:=Int) (enc:=i6) (l:=asC i6 pl) keyI Try.underlying74 rfl rfl rfl hf) ?_;refine z41 ?_;refine dQ [51] [0] iM ?_;refine dQ [6] [240] iM ?_;refine dQ [52,53] [2] (cp (κ:=List UInt8) (enc:=bc) (l:=asC i6 vs) keyB Try.underlying75 fk rfl rfl rfl hf2) ?_;refine z18 ?_;refine dQ [61] [0] iM ?_;refine dQ [6] [240] iM ?_;refine z3 ?_;refine dQ [66] [0] iM ?_;refine dQ [67] [2] (gj (κ:=List UInt8) (enc:=bc) (l:=asC i6 vs) Try.underlying75 rfl rfl) ?_;refine bj [62,63,68] [2] (b7 (κ:=List UInt8) (enc:=bc) (l:=asC i6 vs) keyB Try.underlying75 rfl rfl rfl rfl hf2) ?_;refine z1 ?_
    exact⟨trivial,[],lg zV ⟨zR,zM,⟨rfl,bq _,_,rfl,aM.of_eq (by show _=Row.mo ((mapC bc (asC i6 (putA vs _ _))).ren _); rw[aY,hp2,←gl i6 vs])⟩,zR,trivial⟩⟩
   ·rw[hg2]
    rw[Nat.zero_add]at hf2
    refine z23 ?_;refine dQ [16] [0] iM ?_;refine z2 ?_;refine dQ [19] [64] iB ?_;refine dQ [17,20] [1] (bL (κ:=Int) (enc:=i6) (l:=asC i6 pl) keyI Try.underlying74 rfl rfl rfl hf) ?_;refine z41 ?_;refine dQ [51] [0] iM ?_;refine dQ [6] [240] iM ?_;refine dQ [52,53] [2] (bL (κ:=List UInt8) (enc:=bc) (l:=asC i6 vs) keyB Try.underlying75 rfl rfl rfl hf2) ?_;refine z15 ?_
    exact⟨trivial,[],lg zV ⟨zR,zM,zM,zR,trivial⟩⟩
theorem Bm (l:List HOp) (era:Int) (hf:Nat) (b e:Int):FnIs Try.prog 66 [.d (fv l),.int .i64 era,.fn (.func hf) .anil (.acons (.ptr 23 []) .anil)] [(23,.box 68 (.ptr 0 []))] (.fn (.func 83) .anil (.acons (.ptr 64 []) (.acons (.ptr 65 []) (.acons (.ptr 66 []) .anil)))) [(23,.box 68 (.ptr 0 [])),(64,.box 73 (.d (fv l))),(65,.box 3 (.int .i64 era)),(66,.box 128 (.fn (.func hf) .anil (.acons (.ptr 23 []) .anil)))]:=by
 refine aq aa Try.func66 rfl rfl rfl ?_;refine z15 ?_
 exact⟨trivial,[(64,some 64),(65,some 72),(66,some 80)],lg zV ⟨zR,zR,zR,zR,trivial⟩⟩
end Go.Proofs.Ytmdgmolbamlicaa
namespace Go.Eng
open Go.RowKit
theorem FrzR.mo {r:Nat} {row:Row} {a a':AV} (h:FrzT r row a a'):FrzR r row (.mo a) (.mo a'):=by
 refine⟨h.1,fun σ w X X' q hx hn hr hq=>?_⟩
 obtain⟨b,es,h1,h2,h3,h4⟩:=hq
 exact⟨b,es,h1,h2,h3,h.2 σ w X X' hx hn hr _ h4⟩
theorem FrzT.mapC_last {κ:Type} {enc:κ→D} {r:Nat} {row:Row} {k:κ} {a a':AV} (h:Frz r row a a'):∀l:List (κ×AV),FrzT r row (mapC enc (l++[(k,a)])) (mapC enc (l++[(k,a')]))
 | []=>.cons (.refl _) (.cons h .nil)
 | (k',v)::l=>.cons (.refl _) (.cons (.refl _) (FrzT.mapC_last h l))
theorem pA {κ:Type} [DecidableEq κ] {k:κ} {v:AV}:∀(l:List (κ×AV)) (i:Nat),cW k l i=none→cW k (l++[(k,v)]) i=some (i+l.length,v)
 | [],i,_=>by simp[cW]
 | (k',v')::l,i,h=>by
  simp only[cW]at h
  split at h
  ·cases h
  ·rename_i hne
   simp only[List.cons_append,cW,if_neg hne]
   rw[pA l (i+1) h]
   simp only[List.length_cons]
   congr 2
   omega
theorem ql {κ:Type} {k:κ} {v v':AV}:∀l:List (κ×AV),putC (l++[(k,v)]) l.length v'=l++[(k,v')]
 | []=>rfl
 | (k',w)::l=>by simp only[List.cons_append,List.length_cons,putC,ql l]
end Go.Eng
namespace Go.Proofs.Ytmdgmolbamlicaa
open Go.Eng Go.Plain Go.RowKit
set_option maxHeartbeats 32000000
set_option maxRecDepth 20000
section
variable {P : Program} {env : Env} {h : Upds} {n : Nat}
theorem ra {t kt et:TypeId} {κ ν:Type} [DecidableEq κ] {enc:κ→D} {encV:ν→D} {mm r:Nat} {x y z:Operand} {k:κ} {v:ν} {m:List (κ×ν)} (K:eD P kt enc mm) (ht:P.underlying t=some (.map kt et))
  (hx:ai env x=some (.mapr r)) (hy:ai env y=some (.d (enc k))) (hz:ai env z=some (.d (encV v))) (hr:aQ h r=some (.mo (mapC enc (asC encV m)))) :
  ab P (.mapUpdate t x y z) env h n none [(r,some (.mo (mapC enc (asC encV (putA m k v)))))]:=by
 rcases dj encV k m 0 with ⟨hf,hg,hp⟩ | ⟨j,t,hf,_,hg,hp⟩
 ·rw[hp v]
  exact b7 K ht hx hy hz hr hf
 ·rw[hp v]
  rw[Nat.zero_add]at hf
  exact gw K ht hx hy hz hr hf
theorem gi {t kt et:TypeId} {κ ν:Type} [DecidableEq κ] {enc:κ→D} {encV:ν→D} {mm r:Nat} {x y:Operand} {k:κ} {m:List (κ×ν)} (z:ν) (K:eD P kt enc mm) (ht:P.underlying t=some (.map kt et)) (hz:fb P et (encV z))
  (hx:ai env x=some (.mapr r)) (hy:ai env y=some (.d (enc k))) (hr:aQ h r=some (.mo (mapC enc (asC encV m)))) :
  ab P (.lookup t x y false) env h n (some (.d (encV ((getA m k).getD z)))) []:=by
 rcases dj encV k m 0 with ⟨hf,hg,hp⟩ | ⟨j,t,hf,_,hg,hp⟩
 ·rw[hg]
  exact gT K ht hz hx hy hr hf
 ·rw[hg]
  exact gS K ht hx hy hr hf
theorem dq {t kt et:TypeId} {κ ν:Type} [DecidableEq κ] {enc:κ→D} {encV:ν→D} {mm r:Nat} {x y:Operand} {k:κ} {m:List (κ×ν)} {z v:ν} (hv:(getA m k).getD z=v) (K:eD P kt enc mm) (ht:P.underlying t=some (.map kt et)) (hz:fb P et (encV z))
  (hx:ai env x=some (.mapr r)) (hy:ai env y=some (.d (enc k))) (hr:aQ h r=some (.mo (mapC enc (asC encV m)))) :
  ab P (.lookup t x y false) env h n (some (.d (encV v))) []:=hv ▸ gi z K ht hz hx hy hr
theorem td {t kt et:TypeId} {κ ν:Type} [DecidableEq κ] {enc:κ→D} {encV:ν→D} {mm r:Nat} {x y:Operand} {k:κ} {m:List (κ×ν)} (z:ν) (K:eD P kt enc mm) (ht:P.underlying t=some (.map kt et)) (hz:fb P et (encV z))
  (hx:ai env x=some (.mapr r)) (hy:ai env y=some (.d (enc k))) (hr:aQ h r=some (.mo (mapC enc (asC encV m)))) :
  ab P (.lookup t x y true) env h n (some (.tup (.acons (.d (encV ((getA m k).getD z))) (.acons (.bool (getA m k).isSome) .anil)))) []:=by
 rcases dj encV k m 0 with ⟨hf,hg,hp⟩ | ⟨j,t,hf,_,hg,hp⟩
 ·rw[hg]
  exact cp K ht hz hx hy hr hf
 ·rw[hg]
  exact bL K ht hx hy hr hf
end
end Go.Proofs.Ytmdgmolbamlicaa
namespace Go.Proofs.Ytmdgmolbamlicaa
open Go.Eng Go.Plain
set_option maxHeartbeats 32000000
set_option maxRecDepth 20000
attribute [local irreducible] WC RegS RegD SeqQ BlkQ ScoQ RegK CutK Sat SatN FnIs LoopQ ab OpIs
abbrev cD:=List (Int×List Int)
abbrev dO:=List (Int×Bool)
abbrev ef (x:Bool):D :=.sc (.bool x)
abbrev cR (m:cD):Row :=.mo (mapC i6 (asC encL m))
abbrev eu (m:dO):Row :=.mo (mapC i6 (asC ef m))
structure Prep where
 pl:IMap
 vs:BMap
 ops:List (List Int)
 af:cD
 ah:cD
 lo:dO
 st:dO
def dOp:HOp:=⟨0,0,0,⟨0,0,[]⟩,0,0,[],0⟩
def opN (l:List HOp) (i:Nat):HOp:=(l[i]?).getD dOp
def zs (l:List Nat):List Int:=l.map fun i:Nat=>(i:Int)
def cE (l:List HOp) (idx:List Nat) (q:IMap×BMap):IMap×BMap:=idx.foldl (fun q i=>(numP q.1 (opN l i),numV q.2 (opN l i))) q
theorem vI (l:List Nat) (x:Nat):zs (l++[x])=zs l++[(x:Int)]:=by simp[zs]
theorem fj (l:List Nat):(zs l).length=l.length:=by simp[zs]
theorem fP (p:HOp→Bool):∀(l:List HOp) (i:Nat),(selI p l i).length≤l.length
 | [],_=>Nat.le_refl _
 | o::l,i=>by
  have:=fP p l (i+1)
  unfold selI
  split <;> simp only[List.length_cons] <;> omega
theorem gx {p:HOp→Bool} {x:Nat}:∀(l:List HOp) (i:Nat),x∈selI p l i→∃o,l[x-i]?=some o∧p o=true∧i≤x
 | [],_,h=>by simp[selI]at h
 | o::l,i,h=>by
  have key:x∈selI p l (i+1)→∃o',(o::l)[x-i]?=some o'∧p o'=true∧i≤x:=fun h=>by
   obtain⟨o',h1,h2,h3⟩:=gx l (i+1) h
   refine⟨o',?_,h2,by omega⟩
   rw[show x-i=(x-(i+1))+1 by omega,List.getElem?_cons_succ]
   exact h1
  unfold selI at h
  split at h
  ·rename_i hp
   rcases List.mem_cons.1 h with rfl | h
   ·exact⟨o,by simp,hp,Nat.le_refl _⟩
   ·exact key h
  ·exact key h
def mayI (l:List HOp) (b:Int) (k:Nat):List Nat:=selI (eraB k (fun o=>mayB o b)) l 0
def badI (l:List HOp) (b:Int) (k:Nat):List Nat:=selI (eraB k (fun o=>bf o && !mayB o b)) l 0
abbrev Ai (l:List HOp) (b e:Int) (q:Prep) (r:Nat):List (Nat×Row):=[(0,sBox l b e (.own r 0 q.ops.length 1 none) sNil sNil),(r,fF q.ops),(1,fV q.pl),(2,g8 q.vs),(4,cR q.af),(5,cR q.ah),(6,eu q.lo),(7,eu q.st)]
theorem nt (l:List HOp) (pre:List Nat) (x:Nat) (q:IMap×BMap):cE l (pre++[x]) q=(numP (cE l pre q).1 (opN l x),numV (cE l pre q).2 (opN l x)):=by simp[cE]
abbrev zRow (z:List Int):Row :=.ds 3 1 false i6 z
abbrev Fb (l:List HOp) (k:Nat) (hf:Nat) (z:List Int):List (Nat×Row):=[(66,.box 3 (.int .i64 k)),(67,.box 28 (.own 68 0 z.length 1 none)),(68,zRow z),(69,.box 73 (.d (fv l))),(70,.box 3 (.int .i64 k)),(71,.box 128 (.fn (.func hf) .anil (.acons (.ptr 64 []) .anil)))]
abbrev nHI (l:List HOp) (b:Int) (e:Nat) (q:Prep) (k:Nat) (pre:List Nat):Upds:=(64,some (.box 68 (.ptr 0 [])))::aw ([(0,sBox l b e (.own 65 0 q.ops.length 1 none) sNil sNil),(65,fF q.ops),(1,fV (cE l pre (q.pl,q.vs)).1),(2,g8 (cE l pre (q.pl,q.vs)).2),(4,cR q.af),(5,cR q.ah),(6,eu q.lo),(7,eu q.st)]++Fb l k 67 (zs pre))
abbrev nH0 (l:List HOp) (b:Int) (e:Nat) (q:Prep) (pre:List Nat):List (Nat×Row):=[(23,.box 68 (.ptr 0 [])),(0,sBox l b e (.own 3 0 q.ops.length 1 none) sNil sNil),(1,fV (cE l pre (q.pl,q.vs)).1),(2,g8 (cE l pre (q.pl,q.vs)).2),(3,fF q.ops),(24,.box 28 (.own 25 0 (zs pre).length 1 none)),(25,zRow (zs pre))]
theorem ia:fb Try.prog 4 (ef false):=nL (by kernel_rfl) (by kernel_rfl)
def stF (l:List HOp) (x:Nat) (s:dO) (i:Nat):dO:=putA s (i:Int) ((getA s (i:Int)).getD false||befB (opN l x) (opN l i))
def badF (l:List HOp) (M:List Nat) (k:Nat) (q:dO×dO) (x:Nat):dO×dO:=(putA q.1 (k:Int) true,M.foldl (stF l x) q.2)
def db (l:List HOp) (M:List Nat) (k:Nat) (idx:List Nat) (q:dO×dO):dO×dO:=idx.foldl (badF l M k) q
theorem nF (l:List HOp) (M:List Nat) (k:Nat) (pre:List Nat) (x:Nat) (q:dO×dO):db l M k (pre++[x]) q=(putA (db l M k pre q).1 (k:Int) true,M.foldl (stF l x) (db l M k pre q).2):=by simp[db,badF]
theorem yE {l:List HOp} {x:Nat} {M:List Nat} {j i:Nat} (h:M[j]?=some i) (s:dO):(M.take (j+1)).foldl (stF l x) s=stF l x ((M.take j).foldl (stF l x) s) i:=by
 have hlt:=(List.getElem?_eq_some_iff.1 h).1
 rw[List.take_succ_eq_append_getElem hlt,(List.getElem?_eq_some_iff.1 h).2,List.foldl_append]
 rfl
abbrev Fv (l:List HOp) (k:Nat) (hf:Nat) (Z:List Int):List (Nat×Row):=[(66,.box 3 (.int .i64 k)),(67,.box 28 (.d (encL Z))),(69,.box 73 (.d (fv l))),(70,.box 3 (.int .i64 k)),(71,.box 128 (.fn (.func hf) .anil (.acons (.ptr 64 []) .anil)))]
abbrev bHI (l:List HOp) (b:Int) (e:Nat) (q:Prep) (NA:IMap×BMap) (k:Nat) (M:List Nat) (pre:List Nat):Upds:=(64,some (.box 68 (.ptr 0 [])))::aw ([(0,sBox l b e (.own 65 0 (q.ops++[zs M]).length 1 none) sNil sNil),(65,fF (q.ops++[zs M])),(1,fV NA.1),(2,g8 NA.2),(4,cR q.af),(5,cR q.ah),(6,eu (db l M k pre (q.lo,q.st)).1),(7,eu (db l M k pre (q.lo,q.st)).2)]++Fv l k 69 (zs M))
abbrev bH1 (l:List HOp) (b:Int) (e:Nat) (os:List (List Int)) (k:Nat) (Z:List Int) (lo st:dO):List (Nat×Row):=[(23,.box 68 (.ptr 0 [])),(0,sBox l b e (.own 3 0 os.length 1 none) sNil sNil),(3,fF os),(6,eu lo),(7,eu st),(26,.box 3 (.int .i64 k)),(24,.box 28 (.d (encL Z)))]
abbrev bH0 (l:List HOp) (b:Int) (e:Nat) (q:Prep) (k:Nat) (M:List Nat) (pre:List Nat):List (Nat×Row):=bH1 l b e (q.ops++[zs M]) k (zs M) (db l M k pre (q.lo,q.st)).1 (db l M k pre (q.lo,q.st)).2
def oE (i:Int) (r:Nat):List Int→List (Int×AV)
 | []=>[]
 | _::c=>[(i,.own r 0 (c.length+1) 1 none)]
abbrev oM (m:cD) (i:Int) (r:Nat) (c:List Int):AV:=mapC i6 (asC encL m++oE i r c)
theorem Dc {m:cD} {i:Int} {r r':Nat} {c:List Int} {ρ:Nat→Option Nat} (hr:ρ r=some r'):(oM m i r c).ren ρ=oM m i r' c:=by
 rw[oM,tb,List.map_append]
 have h1:(asC encL m).map (fun p=>(p.1,p.2.ren ρ))=asC encL m:=by simp[asC,AV.ren,Function.comp_def]
 rw[h1]
 cases c <;> simp[oM,oE,AV.ren,hr]
theorem fU {m:cD} {i:Int} {r n:Nat} {c:List Int} (hr:Nat.blt r n=true):(oM m i r c).lt n=true:=by
 refine wn _ fun p hp=>?_
 rcases List.mem_append.1 hp with hp | hp
 ·simp only[asC,List.mem_map]at hp
  obtain⟨_,_,rfl⟩:=hp
  rfl
 ·cases c with
  | nil=>simp[oE]at hp
  | cons a c =>
   simp only[oE,List.mem_singleton]at hp
   subst hp
   exact hr
theorem eY {m:cD} {i:Int} {r r':Nat} {c:List Int} {ρ:Nat→Option Nat} (hr:ρ r=some r'):aM (.mo (oM m i r' c)) ((Row.mo (oM m i r c)).ren ρ):=aM.of_eq (congrArg Row.mo (Dc hr).symm)
theorem oRow_le' {m:cD} {i:Int} {r r':Nat} {c:List Int} {A:AV} {ρ:Nat→Option Nat} (he:A=oM m i r' c) (hr:ρ r=some r'):aM (.mo A) ((Row.mo (oM m i r c)).ren ρ):=by
 subst he; exact eY hr
def posN (p:Nat→Bool) (M:List Nat):Nat→List Int
 | 0=>[]
 | s+1=>if p ((M[s]?).getD 0)=true then posN p M s++[(s:Int)] else posN p M s
theorem jR (p:Nat→Bool) (M:List Nat):∀s,(posN p M s).length≤s
 | 0=>Nat.le_refl _
 | s+1=>by
  have:=jR p M s
  unfold posN
  split
  ·rw[List.length_append]; simp; omega
  ·omega
def addL (m:cD) (i:Int):List Int→cD
 | []=>m
 | c::cs=>m++[(i,c::cs)]
def afB (l:List HOp) (i m:Nat):Bool:=befB (opN l i) (opN l m)
def ahB (l:List HOp) (i m:Nat):Bool:=befB (opN l m) (opN l i)&&bf (opN l m)
def ordF (l:List HOp) (M:List Nat) (q:cD×cD) (i:Nat):cD×cD:=(addL q.1 i (posN (afB l i) M M.length),addL q.2 i (posN (ahB l i) M M.length))
def eN (l:List HOp) (M:List Nat) (idx:List Nat) (q:cD×cD):cD×cD:=idx.foldl (ordF l M) q
abbrev Fs (k:Nat) (Z:List Int):List (Nat×Row):=[(66,.box 3 (.int .i64 k)),(67,.box 28 (.d (encL Z)))]
abbrev nE (l:List HOp) (b:Int) (e:Nat) (os:List (List Int)) (NA:IMap×BMap) (k:Nat) (Z:List Int) (lo st:dO) (A H:Row):List (Nat×Row):=[(64,(.box 68 (.ptr 0 []))),(0,sBox l b e (.own 65 0 os.length 1 none) sNil sNil),(65,fF os),(1,fV NA.1),(2,g8 NA.2),(4,A),(5,H),(6,eu lo),(7,eu st)]++Fs k Z
abbrev cEnv (e k:Nat) (Z:List Int) (j:Nat):Env:=[(100,.int .i64 j),(99,.int .i64 Z.length),(98,.d (encL Z)),(1,.ptr 64 []),(2,.ptr 66 []),(3,.ptr 67 []),(15,.int .i64 e),(16,.int .i64 k)]
abbrev mw (e k:Nat) (Z:List Int) (j i s:Nat):Env:=(106,.int .i64 s)::(105,.int .i64 Z.length)::(104,.d (encL Z))::(9,.int .i64 i)::cEnv e k Z j
abbrev sn (l:List HOp) (b:Int) (e:Nat) (os:List (List Int)) (NA:IMap×BMap) (k:Nat) (Z:List Int) (lo st:dO) (af ah:cD) (i:Nat) (cA cH:List Int):List (Nat×Row):=nE l b e os NA k Z lo st (.mo (oM af i 68 cA)) (.mo (oM ah i 69 cH))++[(68,zRow cA),(69,zRow cH)]
abbrev CQ (e k:Nat) (Z:List Int) (j i s m:Nat):Env:=(10,.int .i64 s)::(11,.int .i64 m)::mw e k Z j i s
theorem Bs {P:Program} {sz n:Nat} {Q:Exit→St→Prop} {env:Env} {h:Upds} {α:Type} (mk:α→St) (Inv:α→Prop) {x y:Code} (hx:WC P sz x (MidQ mk Inv Q) env h n) (hy:∀a,Inv a→Sat P y Q (mk a)):WC P sz x (SeqQ P y Q) env h n:=by
 unfold WC at *
 refine Sat.mono ?_ hx
 intro e st hq
 cases e with
 | normal =>
  obtain⟨a,l,h1,h2⟩:=hq
  unfold SeqQ
  exact Sat.le l h2 (hy a h1)
 | _ =>
  unfold SeqQ
  exact hq
theorem yk:fb Try.prog 28 (.sc (.slice none 0 0)):=nL (by kernel_rfl) (by kernel_rfl)
theorem jr {m:cD} {i:Int} {r:Nat} (h:getA m i=none):cW i (asC encL m++oE i r []) 0=none:=by
 rw[oE,List.append_nil]
 rcases dj encL i m 0 with ⟨hf,_,_⟩ | ⟨_,_,_,_,hg,_⟩
 ·exact hf
 ·rw[hg]at h; cases h
theorem jq {m:cD} {i:Int} {r:Nat} {a:Int} {c:List Int} (h:getA m i=none):cW i (asC encL m++oE i r (a::c)) 0=some ((asC encL m).length,.own r 0 (c.length+1) 1 none):=by
 rcases dj encL i m 0 with ⟨hf,_,_⟩ | ⟨_,_,_,_,hg,_⟩
 ·rw[oE,pA _ _ hf,Nat.zero_add]
 ·rw[hg]at h; cases h
theorem putO {m:cD} {i:Int} {r:Nat} {a:Int} {c:List Int} {v:AV}:putC (asC encL m++oE i r (a::c)) (asC encL m).length v=asC encL m++[(i,v)]:=ql _
abbrev Bc (l:List HOp) (b:Int) (e:Nat) (os:List (List Int)) (NA:IMap×BMap) (k:Nat) (Z:List Int) (lo st:dO) (A:cD) (ah:cD) (i:Nat) (cH:List Int):List (Nat×Row):=nE l b e os NA k Z lo st (cR A) (.mo (oM ah i 69 cH))++[(69,zRow cH)]
theorem Cw (m:cD) (i:Int) (L:List Int):asC encL (m++[(i,L)])=asC encL m++[(i,.d (encL L))]:=by simp[asC]
theorem frzA {m:cD} {i a:Int} {r:Nat} {c:List Int}:FrzR r (zRow (a::c)) (.mo (oM m i r (a::c))) (cR (addL m i (a::c))):=by
 show FrzR r (zRow (a::c)) (.mo (mapC i6 (asC encL m++[(i,.own r 0 (c.length+1) 1 none)]))) (.mo (mapC i6 (asC encL (m++[(i,a::c)]))))
 rw[Cw]
 exact FrzR.mo (FrzT.mapC_last (Frz.own rfl) _)
theorem nilA {m:cD} {i:Int} {r:Nat} {ρ:Nat→Option Nat}:aM (.mo (oM m i r [])) ((cR (addL m i [])).ren ρ):=aM.of_eq (by
 show _=Row.mo ((mapC i6 (asC encL m)).ren ρ)
 rw[aY,oM,oE,List.append_nil])
theorem kE {m:cD} {i i':Int} (hne:i'≠i) (h:getA m i'=none):∀c,getA (addL m i c) i'=none
 | []=>h
 | c::cs=>by
  have key:∀m:cD,getA m i'=none→getA (m++[(i,c::cs)]) i'=none:=by
   intro m
   induction m with
   | nil=>intro _; simp[getA,hne]
   | cons p m ih =>
    obtain⟨k,v⟩:=p
    intro h
    simp only[List.cons_append,getA]at h ⊢
    split at h
    ·cases h
    ·rename_i hk
     rw[if_neg hk]
     exact ih h
  exact key m h
theorem lO {p:HOp→Bool}:∀(l:List HOp) (i:Nat),(selI p l i).Nodup
 | [],_=>List.nodup_nil
 | o::l,i=>by
  unfold selI
  split
  ·refine List.nodup_cons.2 ⟨fun h=>?_,lO l (i+1)⟩
   obtain⟨_,_,_,h3⟩:=gx l (i+1) h
   omega
  ·exact lO l (i+1)
def lZ:Prep:=⟨[],[(zBk,0)],[],[],[],[],[]⟩
def eraP (l:List HOp) (b:Int) (k:Nat) (q:Prep):Prep:=⟨(cE l (mayI l b k) (q.pl,q.vs)).1,(cE l (mayI l b k) (q.pl,q.vs)).2,q.ops++[zs (mayI l b k)],(eN l (mayI l b k) (mayI l b k) (q.af,q.ah)).1,(eN l (mayI l b k) (mayI l b k) (q.af,q.ah)).2,(db l (mayI l b k) k (badI l b k) (q.lo,q.st)).1,(db l (mayI l b k) k (badI l b k) (q.lo,q.st)).2⟩
def cn (l:List HOp) (b:Int):Nat→Prep
 | 0=>lZ
 | k+1=>eraP l b k (cn l b k)
def Dv (l:List HOp) (k:Nat) (q:Prep):Prop:=∀(i:Nat) (o:HOp),l[i]?=some o→(k:Int)≤o.era→getA q.af (i:Int)=none∧getA q.ah (i:Int)=none
theorem l5 (l:List HOp) (M:List Nat) (i:Nat):∀(idx:List Nat) (q:cD×cD),i ∉ idx→getA q.1 (i:Int)=none∧getA q.2 (i:Int)=none→getA (eN l M idx q).1 (i:Int)=none∧getA (eN l M idx q).2 (i:Int)=none
 | [],q,_,h=>h
 | x::idx,q,hn,h=>by
  simp only[List.mem_cons,not_or]at hn
  have hne:(i:Int)≠(x:Int):=fun e=>hn.1 (by omega)
  exact l5 l M i idx (ordF l M q x) hn.2 ⟨kE hne h.1 _,kE hne h.2 _⟩
theorem xy (l:List HOp) (b:Int) (e:Nat) (hL:l.length≤1048576) (he:e≤1048576) (h32:∀o∈l,mayB o b=true→o.op.kind=2→o.op.data.length=32):FnIs Try.prog 38 [.ptr 0 []] [(0,sBox l b e sNil sNil sNil),(1,fV []),(2,g8 [(zBk,0)]),(4,cR []),(5,cR []),(6,eu []),(7,eu [])] (.tup .anil) (Ai l b e (cn l b e) 64):=by
 refine aq aa Try.func38 rfl rfl rfl ?_;refine z15 ?_
 refine wc_inv (fun q:Nat×Prep=>⟨[(16,.int .i64 q.1),(15,.int .i64 e),(1,.ptr 64 [])],(64,some (.box 68 (.ptr 0 [])))::aw (Ai l b e q.2 65),72,Try.f38.ntmps,64⟩) (fun q=>q.1≤e∧q.2.ops.length=q.1∧q.2=cn l b q.1∧Dv l q.1 q.2) (fun q=>e-q.1) (0,lZ) [(64,some 64),(65,none)] ⟨Nat.zero_le _,rfl,rfl,fun _ _ _ _=>⟨rfl,rfl⟩⟩
  (lg zj ⟨zR,zR,⟨rfl,rfl,rfl⟩,⟨rfl,bq _,_,rfl,aM.of_eq (by simp only[Row.ren,aY,lZ])⟩,⟨rfl,bq _,_,rfl,aM.of_eq (by simp only[Row.ren,aY,lZ])⟩,⟨rfl,bq _,_,rfl,aM.of_eq (by simp only[Row.ren,aY,lZ])⟩,⟨rfl,bq _,_,rfl,aM.of_eq (by simp only[Row.ren,aY,lZ])⟩,⟨rfl,bq _,_,rfl,aM.of_eq (by simp only[Row.ren,aY,lZ])⟩,⟨rfl,bq _,_,rfl,aM.of_eq (by simp only[Row.ren,aY,lZ])⟩,trivial⟩) ?_
 rintro⟨k,q⟩ ⟨hk,hql,hqn,hqf⟩
 simp only at hk hql hqn hqf
 refine bt ?_
 by_cases hlt:k<e
 ·have d1:decide ((k:Int)<(e:Int))=true:=dT (by omega)
  refine z26 ?_;refine dQ [1] [64] iM ?_;refine z2 ?_;refine dQ [21] [0] iM ?_;refine dQ [2] [88] iM ?_;refine dC [1] [64,0,1,2,65,4,5,6,7,8] ?_;refine cT [22,23,24] [64] rfl (.plain (aS [(23,some 64)] (Bm l k 67 b e) rfl rfl rfl (aE (aE (cU rfl rfl au))) ⟨zH,trivial⟩ rfl rfl (.inl rfl) rfl rfl)) rfl rfl ?_;refine z3 ?_
  refine gM 72 [(64,some 64),(65,some 65),(66,some 88),(67,some 104),(68,none),(69,some 160),(70,some 161),(71,some 162)] (env':=[(25,.fn (.func 83) .anil (.acons (.ptr 69 []) (.acons (.ptr 70 []) (.acons (.ptr 71 []) .anil)))),(1,.ptr 64 []),(2,.ptr 66 []),(3,.ptr 67 []),(15,.int .i64 e),(16,.int .i64 k)]) (h':=nHI l b e q k [])
   (lg zg ⟨zR,zR,zR,⟨rfl,bq _,_,rfl,aM.of_eq (by show _=Row.mo ((mapC _ (asC i6 _)).ren _); rw[aY]; rfl)⟩,⟨rfl,bq _,_,rfl,aM.of_eq (by show _=Row.mo ((mapC _ (asC i6 _)).ren _); rw[aY]; rfl)⟩,zM,zM,zM,zM,zR,zR,⟨rfl,rfl,rfl⟩,zR,zR,zR,trivial⟩) ?_
  refine pY (enc:=fun x:Nat=>.int .i64 x) (fun _=>rfl) [(20,some 69),(21,some 70),(22,some 71),(23,some 64),(0,some 0),(3,some 65)] [(23,some 64),(0,some 0),(1,some 1),(2,some 2),(3,some 65),(24,some 67),(25,some 68)] [1,3] [.ptr 23 [],.ptr 24 []] (nH0 l b e q) (nHI l b e q k) (fun pre=>∃rest,mayI l b k=pre++rest)
   (ua l b e k q.ops _ (fun o=>mayB o b) hL (Ad l b e q.ops)) rfl rfl rfl rfl rfl rfl (fun _ _=>aT rfl rfl (aT rfl rfl (aT rfl rfl (aE au)))) (fun _ _=>⟨zH,zH,zH,zH,zH,zH,trivial⟩) rfl rfl rfl
   (fun pre _=>⟨[(64,some 64),(65,some 65),(66,some 66),(67,some 67),(68,some 68),(69,some 69),(70,some 70),(71,some 71)],lg zf ⟨zR,zR,zR,zM,zM,zM,zM,zM,zM,zR,zR,zR,zR,zR,zR,trivial⟩⟩)
   ⟨_,rfl⟩ rfl [.ptr 64 [],.ptr 67 []] rfl (fun _ _=>aT rfl rfl (aT rfl rfl au)) (fun _ _=>⟨zH,zH,zN,zN,zH,zH,zH,trivial⟩) (fun _ _=>rfl) (fun _ _=>rfl) rfl ⟨rfl,rfl⟩ rfl ?_ ?_
  ·rintro pre x-⟨rest,hsel⟩
   obtain⟨o,ho,hpo⟩:∃o,l[x]?=some o∧eraB k (fun o=>mayB o b) o=true:=by
    obtain⟨o,h1,h2,_⟩:=gx l 0 (x:=x) (by rw[hsel]; simp)
    exact⟨o,by simpa using h1,h2⟩
   have hl:l[((x:Int)).toNat]?=some o:=by rw[Int.toNat_natCast]; exact ho
   have hlen:(zs pre).length+1≤1048576:=by
    have:=fP (eraB k (fun o=>mayB o b)) l 0
    rw[hsel]at this
    simp only[List.length_append,List.length_cons]at this
    rw[fj]
    omega
   have hopx:opN l x=o:=by rw[opN,ho]; rfl
   have hdata:o.op.kind=2→o.op.data.length=32:=h32 o (List.mem_of_getElem? ho) (by
    simp only[eraB,Bool.and_eq_true]at hpo
    exact hpo.2)
   refine z5 ?_;refine aO (ae aa rfl rfl rfl rfl rfl rfl rfl rfl) rfl ?_;refine aC (aJ (s:=1) (enc:=i6) aa (x:Int) rfl rfl rfl rfl rfl rfl rfl rfl rfl hlen rfl) rfl ?_;refine z4 ?_;iterate 2 refine dQ [1] [23] iM ?_
   refine z2 ?_;refine dQ [34] [0] iM ?_;refine z3 ?_;refine cT [31,38] [0,1,2,3] rfl (.plain (aS [(0,some 0),(1,some 1),(2,some 2),(3,some 3)] (xC l b e q.ops (cE l pre (q.pl,q.vs)).1 (cE l pre (q.pl,q.vs)).2 o hdata) rfl rfl rfl (aT rfl rfl (aE au)) ⟨zH,zN,zN,zH,trivial⟩ rfl rfl (.inl rfl) rfl rfl)) rfl rfl ?_;refine z2 ?_
   have hp1:numP (cE l pre (q.pl,q.vs)).1 o=(cE l (pre++[x]) (q.pl,q.vs)).1:=by rw[nt,hopx]
   have hp2:numV (cE l pre (q.pl,q.vs)).2 o=(cE l (pre++[x]) (q.pl,q.vs)).2:=by rw[nt,hopx]
   have hz:zs pre++[(x:Int)]=zs (pre++[x]):=(vI pre x).symm
   have hzl:(zs pre).length+1=(zs (pre++[x])).length:=by rw[vI]; simp
   rw[hp1,hp2,hz,hzl]
   exact zn [(23,.box 68 (.ptr 0 [])),(0,sBox l b e (.own 3 0 q.ops.length 1 none) sNil sNil),(1,fV (cE l (pre++[x]) (q.pl,q.vs)).1),(2,g8 (cE l (pre++[x]) (q.pl,q.vs)).2),(3,fF q.ops),(24,.box 28 (.own 64 0 (zs (pre++[x])).length 1 none)),(64,zRow (zs (pre++[x])))] [(64,some 88)] [(64,some 64),(65,some 65),(66,some 66),(67,some 67),(68,some 72),(69,some 69),(70,some 70),(71,some 71)]
    (lg trivial ⟨zR,zR,zM,zM,zR,zR,zR,trivial⟩) ⟨rest,by rw[mayI,hsel]; simp⟩ (lg zf ⟨zR,zR,zR,zM,zM,zM,zM,zM,zM,zR,zR,zR,zR,zR,zR,trivial⟩)
  rintro pre-hdn
  obtain rfl:pre=mayI l b k:=hdn
  refine z1 ?_
  have hlen2:q.ops.length+1≤1048576:=by omega
  refine z1 ?_;refine de (env':=[(1,.ptr 64 []),(2,.ptr 66 []),(3,.ptr 67 []),(15,.int .i64 e),(16,.int .i64 k)]) (h':=(64,some (.box 68 (.ptr 0 [])))::aw [(0,sBox l b e (.own 65 0 q.ops.length 1 none) sNil sNil),(65,fF q.ops),(1,fV (cE l (mayI l b k) (q.pl,q.vs)).1),(2,g8 (cE l (mayI l b k) (q.pl,q.vs)).2),(4,cR q.af),(5,cR q.ah),(6,eu q.lo),(7,eu q.st),(66,.box 3 (.int .i64 k)),(67,.box 28 (.d (encL (zs (mayI l b k)))))]) 68 (zRow (zs (mayI l b k))) rfl ⟨⟨_,rfl,Frz.refl _⟩,⟨_,rfl,Frz.refl _⟩,⟨_,rfl,Frz.refl _⟩,⟨_,rfl,Frz.refl _⟩,⟨_,rfl,Frz.refl _⟩,trivial⟩ ⟨zF,zF,zF,zF,zF,zF,zF,zF,zF,zF,⟨rfl,_,rfl,FrzR.box (Frz.own rfl)⟩,trivial⟩ ?_;refine z2 ?_;iterate 2 refine dQ [1] [64] iM ?_
  refine z2 ?_;refine dQ [43] [0] iM ?_;refine dQ [3] [67] iM ?_;refine c9 [45] [] rfl (ae aa rfl rfl rfl rfl rfl rfl rfl rfl) ?_;refine jv [44,46] [65,120] rfl (aJ (s:=1) (enc:=encL) aa (zs (mayI l b k)) rfl rfl rfl rfl rfl rfl rfl rfl rfl hlen2 rfl) ?_;refine z2 ?_;refine bj [49,47] [0] (aG aa rfl rfl rfl ⟨_,⟨_,⟨rfl,rfl,rfl⟩,rfl⟩,rfl⟩ rfl) ?_;refine z5 ?_;refine dQ [1] [64] iM ?_;refine z2 ?_;refine dQ [52] [0] iM ?_;refine dQ [2] [66] iM ?_;refine dC [1] [64,0,1,2,128,4,5,6,7,8] ?_;refine cT [53,54,55] [64] rfl (.plain (aS [(23,some 64)] (Bm l k 69 b e) rfl rfl rfl (aE (aE (cU rfl rfl au))) ⟨zH,trivial⟩ rfl rfl (.inl rfl) rfl rfl)) rfl rfl ?_;refine z3 ?_
  refine gM 72 [(64,some 64),(65,some 128),(66,some 66),(67,some 67),(69,some 208),(70,some 209),(71,some 210)] (env':=[(56,.fn (.func 83) .anil (.acons (.ptr 69 []) (.acons (.ptr 70 []) (.acons (.ptr 71 []) .anil)))),(1,.ptr 64 []),(2,.ptr 66 []),(3,.ptr 67 []),(15,.int .i64 e),(16,.int .i64 k)]) (h':=bHI l b e q (cE l (mayI l b k) (q.pl,q.vs)) k (mayI l b k) [])
   (lg zg ⟨zR,⟨rfl,rfl,_,rfl,aM.of_eq (by show _=Row.ren _ (Row.box _ (sAV l b e (.own 65 0 (q.ops++[zs (mayI l b k)]).length 1 none) sNil sNil)); rw[List.length_append]; rfl)⟩,zR,zM,zM,zM,zM,⟨rfl,bq _,_,rfl,aM.of_eq (by show _=Row.mo ((mapC _ (asC ef _)).ren _); rw[aY]; rfl)⟩,⟨rfl,bq _,_,rfl,aM.of_eq (by show _=Row.mo ((mapC _ (asC ef _)).ren _); rw[aY]; rfl)⟩,zR,zR,zR,zR,zR,trivial⟩) ?_
  have hmem:∀j i,(mayI l b k)[j]?=some i→∃o,l[i]?=some o:=fun j i h=>by
   obtain⟨o,h1,_⟩:=gx l 0 (List.mem_of_getElem? h)
   exact⟨o,by simpa using h1⟩
  have hMl:(mayI l b k).length≤1048576:=Nat.le_trans (fP _ l 0) hL
  generalize hNA:cE l (mayI l b k) (q.pl,q.vs)=NA
  generalize hM:mayI l b k=M at *
  refine pY (enc:=fun x:Nat=>.int .i64 x) (fun _=>rfl) [(20,some 69),(21,some 70),(22,some 71),(23,some 64),(0,some 0),(3,some 65)] [(23,some 64),(0,some 0),(3,some 65),(6,some 6),(7,some 7),(26,some 66),(24,some 67)] [1,2,3] [.ptr 23 [],.ptr 26 [],.ptr 24 []] (bH0 l b e q k M) (bHI l b e q NA k M) (fun pre=>∃rest,badI l b k=pre++rest)
   (ua l b e k (q.ops++[zs M]) _ (fun o=>bf o && !mayB o b) hL (Ac l b e (q.ops++[zs M]))) rfl rfl rfl rfl rfl rfl (fun _ _=>aT rfl rfl (aT rfl rfl (aT rfl rfl (aE au)))) (fun _ _=>⟨zH,zH,zH,zH,zH,zH,trivial⟩) rfl rfl rfl
   (fun pre _=>⟨[(64,some 64),(65,some 65),(66,some 66),(67,some 67),(69,some 69),(70,some 70),(71,some 71)],lg zf ⟨zR,zR,zR,zM,zM,zM,zM,zM,zM,zR,zR,zR,zR,zR,trivial⟩⟩)
   ⟨_,rfl⟩ rfl [.ptr 64 [],.ptr 66 [],.ptr 67 []] rfl (fun _ _=>aT rfl rfl (aT rfl rfl (aT rfl rfl au))) (fun _ _=>⟨zH,zH,zH,zN,zN,zH,zH,trivial⟩) (fun _ _=>rfl) (fun _ _=>rfl) rfl ⟨rfl,rfl⟩ rfl ?_ ?_
  ·rintro pre x-⟨rest,hsel⟩
   obtain⟨ox,hox⟩:∃o,l[x]?=some o:=by
    obtain⟨o,h1,h2,_⟩:=gx l 0 (x:=x) (by rw[hsel]; simp)
    exact⟨o,by simpa using h1⟩
   have hlx:l[((x:Int)).toNat]?=some ox:=by rw[Int.toNat_natCast]; exact hox
   have hopx:opN l x=ox:=by rw[opN,hox]; rfl
   obtain⟨lo,hlo⟩:∃lo,lo=(db l M k pre (q.lo,q.st)).1:=⟨_,rfl⟩
   obtain⟨st,hst⟩:∃st,st=(db l M k pre (q.lo,q.st)).2:=⟨_,rfl⟩
   show WC _ _ _ _ _ (aw (bH1 l b e (q.ops++[zs M]) k (zs M) (db l M k pre (q.lo,q.st)).1 (db l M k pre (q.lo,q.st)).2)) _
   rw[←hlo,←hst]
   refine z3 ?_;refine dQ [1] [23] iM ?_;refine z2 ?_;refine dQ [60] [0] iM ?_;refine dQ [2] [26] iM ?_;refine bj [61,62] [6] (ra (κ:=Int) (ν:=Bool) (enc:=i6) (encV:=ef) (m:=lo) (k:=(k:Int)) (v:=true) keyI Try.underlying78 rfl rfl rfl rfl) ?_;refine z10 ?_
   refine wc_inv (fun j:Nat=>⟨[(65,.int .i64 j),(64,.int .i64 (zs M).length),(63,.d (encL (zs M))),(1,.ptr 23 []),(2,.ptr 26 []),(3,.ptr 24 []),(5,.int .i64 x)],aw (bH1 l b e (q.ops++[zs M]) k (zs M) (putA lo (k:Int) true) ((M.take j).foldl (stF l x) st)),72,Try.f38.ntmps,64⟩) (fun j=>j≤M.length) (fun j=>M.length-j) 0 [] (Nat.zero_le _)
    (lg zf ⟨zR,zR,zR,zM,⟨rfl,bq _,_,rfl,aM.of_eq (by show _=Row.mo ((mapC _ (asC ef _)).ren _); rw[aY]; rfl)⟩,zR,zR,trivial⟩) ?_
   intro j hj
   refine bt ?_
   obtain⟨stj,hstj⟩:∃stj,stj=(M.take j).foldl (stF l x) st:=⟨_,rfl⟩
   show WC _ _ _ _ _ (aw (bH1 l b e (q.ops++[zs M]) k (zs M) (putA lo (k:Int) true) ((M.take j).foldl (stF l x) st))) _
   rw[←hstj]
   by_cases hjl:j<M.length
   ·have d2:decide ((j:Int)<((zs M).length:Int))=true:=dT (by rw[fj]; omega)
    obtain⟨i,hi⟩:∃i,M[j]?=some i:=⟨_,List.getElem?_eq_getElem hjl⟩
    have hz2:(zs M)[((j:Int)).toNat]?=some (i:Int):=by rw[Int.toNat_natCast,zs,List.getElem?_map,hi]; rfl
    obtain⟨oi,hoi⟩:=hmem j i hi
    have hli:l[((i:Int)).toNat]?=some oi:=by rw[Int.toNat_natCast]; exact hoi
    have hopi:opN l i=oi:=by rw[opN,hoi]; rfl
    have hst2:(M.take (j+1)).foldl (stF l x) st=putA stj (i:Int) ((getA stj (i:Int)).getD false||befB ox oi):=by rw[yE hi,←hstj,stF,hopx,hopi]
    cases hb0:(getA stj (i:Int)).getD false with
    | true =>
     rw[hb0,Bool.true_or]at hst2
     refine z19 ?_;refine dQ [1] [23] iM ?_;refine z2 ?_;refine dQ [71] [0] iM ?_;refine z1 ?_;refine dQ [1] [23] iM ?_;refine z2 ?_;refine dQ [76] [0] iM ?_;refine z1 ?_;refine dQ [77,78] [7] (dq (κ:=Int) (ν:=Bool) (enc:=i6) (encV:=ef) (m:=stj) hb0 keyI Try.underlying78 ia rfl rfl rfl) ?_;refine z17 ?_;refine bj [72,73,96] [7] (ra (κ:=Int) (ν:=Bool) (enc:=i6) (encV:=ef) (m:=stj) (k:=(i:Int)) (v:=true) keyI Try.underlying78 rfl rfl rfl rfl) ?_;refine z7 ?_
     exact an (j+1) [] hjl (by omega) (lg zf ⟨zR,zR,zR,zM,⟨rfl,bq _,_,rfl,aM.of_eq (by rw[hst2]; simp only[Row.ren,aY])⟩,zR,zR,trivial⟩)
    | false =>
     rw[hb0,Bool.false_or]at hst2
     refine z19 ?_;refine dQ [1] [23] iM ?_;refine z2 ?_;refine dQ [71] [0] iM ?_;refine z1 ?_;refine dQ [1] [23] iM ?_;refine z2 ?_;refine dQ [76] [0] iM ?_;refine z1 ?_;refine dQ [77,78] [7] (dq (κ:=Int) (ν:=Bool) (enc:=i6) (encV:=ef) (m:=stj) hb0 keyI Try.underlying78 ia rfl rfl rfl) ?_;refine z1 ?_;refine aD [80,1] [23] rfl rfl rfl rfl (ay aa rfl rfl rfl rfl) ?_;refine z2 ?_;refine aD [80,83] [0] rfl rfl rfl rfl (ay aa rfl rfl rfl rfl) ?_;refine z3 ?_;refine aD [80,1] [23] rfl rfl rfl rfl (ay aa rfl rfl rfl rfl) ?_;refine z2 ?_;refine aD [80,90] [0] rfl rfl rfl rfl (ay aa rfl rfl rfl rfl) ?_;refine z3 ?_;refine yO (yK (kO ox oi)) ?_;refine z1 ?_;refine bj [72,73,96] [7] (ra (κ:=Int) (ν:=Bool) (enc:=i6) (encV:=ef) (m:=stj) (k:=(i:Int)) (v:=befB ox oi) keyI Try.underlying78 rfl rfl rfl rfl) ?_;refine z7 ?_
     exact an (j+1) [] hjl (by omega) (lg zf ⟨zR,zR,zR,zM,⟨rfl,bq _,_,rfl,aM.of_eq (by rw[hst2]; simp only[Row.ren,aY])⟩,zR,zR,trivial⟩)
   ·have d2:decide ((j:Int)<((zs M).length:Int))=false:=dF (by rw[fj]; omega)
    rw[List.take_of_length_le (by omega)]at hstj
    refine z12 ?_
    have hp1:putA lo (k:Int) true=(db l M k (pre++[x]) (q.lo,q.st)).1:=by rw[nF,hlo]
    have hp2:stj=(db l M k (pre++[x]) (q.lo,q.st)).2:=by rw[nF,hstj,hst]
    rw[hp1,hp2]
    exact zn (bH0 l b e q k M (pre++[x])) [] [(64,some 64),(65,some 65),(66,some 66),(67,some 67),(69,some 69),(70,some 70),(71,some 71)]
     (lg trivial ⟨zR,zR,zR,zM,zM,zR,zR,trivial⟩) ⟨rest,by rw[badI,hsel]; simp⟩ (lg zf ⟨zR,zR,zR,zM,zM,zM,zM,zM,zM,zR,zR,zR,zR,zR,trivial⟩)
  rintro pre-hdn
  obtain rfl:pre=badI l b k:=hdn
  refine z10 ?_
  have hfr0:∀i∈M.drop 0,getA q.af (i:Int)=none∧getA q.ah (i:Int)=none:=by
   intro i him
   obtain⟨o,h1,h2,_⟩:=gx l 0 (show i∈mayI l b k from hM.symm ▸ him)
   refine hqf i o (by simpa using h1) ?_
   simp only[eraB,Bool.and_eq_true,decide_eq_true_eq]at h2
   omega
  obtain⟨os,hos⟩:∃os,os=q.ops++[zs M]:=⟨_,rfl⟩
  obtain⟨LS,hLS⟩:∃LS,LS=db l M k (badI l b k) (q.lo,q.st):=⟨_,rfl⟩
  refine wc_inv (fun s:Nat×cD×cD=>⟨cEnv e k (zs M) s.1,aw (nE l b e os NA k (zs M) LS.1 LS.2 (cR s.2.1) (cR s.2.2)),72,Try.f38.ntmps,64⟩) (fun s=>s.1≤M.length∧s.2=eN l M (M.take s.1) (q.af,q.ah)∧∀i∈M.drop s.1,getA s.2.1 (i:Int)=none∧getA s.2.2 (i:Int)=none) (fun s=>M.length-s.1) (0,q.af,q.ah) [(64,some 64),(65,some 65),(66,some 66),(67,some 67)] ⟨Nat.zero_le _,rfl,hfr0⟩
   (lg ze ⟨zR,⟨rfl,rfl,_,rfl,aM.of_eq (by rw[hos]; rfl)⟩,⟨rfl,rfl,_,rfl,aM.of_eq (by rw[hos]; rfl)⟩,zM,zM,zM,zM,⟨rfl,bq _,_,rfl,aM.of_eq (by rw[hLS]; simp only[Row.ren,aY])⟩,⟨rfl,bq _,_,rfl,aM.of_eq (by rw[hLS]; simp only[Row.ren,aY])⟩,zR,zR,trivial⟩) ?_
  rintro⟨j,af,ah⟩ ⟨hj,hq,hfr⟩
  simp only at hj hq hfr
  refine bt ?_
  show WC _ _ _ _ (cEnv e k (zs M) j) (aw (nE l b e os NA k (zs M) LS.1 LS.2 (cR af) (cR ah))) _
  by_cases hjl:j<M.length
  ·have d2:decide ((j:Int)<((zs M).length:Int))=true:=dT (by rw[fj]; omega)
   obtain⟨i,hi⟩:∃i,M[j]?=some i:=⟨_,List.getElem?_eq_getElem hjl⟩
   have hz1:(zs M)[((j:Int)).toNat]?=some (i:Int):=by rw[Int.toNat_natCast,zs,List.getElem?_map,hi]; rfl
   obtain⟨oi,hoi⟩:=hmem j i hi
   have hli:l[((i:Int)).toNat]?=some oi:=by rw[Int.toNat_natCast]; exact hoi
   have hopi:opN l i=oi:=by rw[opN,hoi]; rfl
   refine z26 ?_
   refine wc_inv (fun s:Nat×List Int×List Int=>⟨mw e k (zs M) j i s.1,aw (sn l b e os NA k (zs M) LS.1 LS.2 af ah i s.2.1 s.2.2),72,Try.f38.ntmps,64⟩) (fun s=>s.1≤M.length∧s.2.1=posN (afB l i) M s.1∧s.2.2=posN (ahB l i) M s.1) (fun s=>M.length-s.1) (0,[],[]) [(64,some 64),(65,some 65),(66,some 66),(67,some 67),(68,none),(69,none)] ⟨Nat.zero_le _,rfl,rfl⟩
    (lg za ⟨zR,zR,zR,zM,zM,⟨rfl,fU rfl,_,rfl,aM.of_eq (by show _=Row.mo ((mapC i6 (asC encL _++[])).ren _); rw[List.append_nil,aY])⟩,⟨rfl,fU rfl,_,rfl,aM.of_eq (by show _=Row.mo ((mapC i6 (asC encL _++[])).ren _); rw[List.append_nil,aY])⟩,zM,zM,zR,zR,⟨rfl,rfl,rfl⟩,⟨rfl,rfl,rfl⟩,trivial⟩) ?_
   rintro⟨s,cA,cH⟩ ⟨hs,hA,hH⟩
   simp only at hs hA hH
   refine bt ?_
   show WC _ _ _ _ (mw e k (zs M) j i s) (aw (sn l b e os NA k (zs M) LS.1 LS.2 af ah i cA cH)) _
   by_cases hsl:s<M.length
   ·have d3:decide ((s:Int)<((zs M).length:Int))=true:=dT (by rw[fj]; omega)
    obtain⟨m,hm⟩:∃m,M[s]?=some m:=⟨_,List.getElem?_eq_getElem hsl⟩
    have hz2:(zs M)[((s:Int)).toNat]?=some (m:Int):=by rw[Int.toNat_natCast,zs,List.getElem?_map,hm]; rfl
    obtain⟨om,hom⟩:=hmem s m hm
    have hlm:l[((m:Int)).toNat]?=some om:=by rw[Int.toNat_natCast]; exact hom
    have hopm:opN l m=om:=by rw[opN,hom]; rfl
    have hfA:=(hfr i (List.mem_iff_getElem?.2 ⟨0,by rw[List.getElem?_drop]; exact hi⟩)).1
    have hfH:=(hfr i (List.mem_iff_getElem?.2 ⟨0,by rw[List.getElem?_drop]; exact hi⟩)).2
    refine z23 ?_;refine dQ [1] [64] iM ?_;refine z2 ?_;refine dQ [113] [0] iM ?_;refine z3 ?_;refine dQ [1] [64] iM ?_;refine z2 ?_;refine dQ [120] [0] iM ?_;refine z3 ?_
    refine yA (yK (kO oi om)) ?_;refine z2 ?_;refine Bs (fun c:List Int=>⟨CQ e k (zs M) j i s m,aw (sn l b e os NA k (zs M) LS.1 LS.2 af ah i c cH),72,Try.f38.ntmps,64⟩) (fun c=>c=posN (afB l i) M (s+1)) ?_ ?_
    ·have hpos:posN (afB l i) M (s+1)=if befB oi om=true then cA++[(s:Int)] else cA:=by rw[posN,hm,hA]; simp only[Option.getD_some,afB,hopi,hopm]
     cases hb:befB oi om with
     | false =>
      rw[hb,if_neg (by decide)]at hpos
      refine z2 ?_
      exact l9 cA [(64,some 64),(65,some 65),(66,some 66),(67,some 67),(68,some 68),(69,some 69)] hpos.symm (lg ⟨zE,rfl,zE,rfl,zE,rfl,zE,rfl,zE,rfl,zE,rfl,zE,rfl,zE,rfl,zE,rfl,zE,rfl,zE,rfl,zE,rfl,zE,rfl,zE,rfl,trivial⟩ ⟨zR,zR,zR,zM,zM,⟨rfl,fU rfl,_,rfl,eY (by rfl)⟩,⟨rfl,fU rfl,_,rfl,eY (by rfl)⟩,zM,zM,zR,zR,zR,zR,trivial⟩)
     | true =>
      rw[hb,if_pos rfl]at hpos
      cases cA with
      | nil =>
       refine z2 ?_;refine dQ [1] [64] iM ?_;refine z2 ?_;refine dQ [128] [0] iM ?_;refine z1 ?_;refine dQ [1] [64] iM ?_;refine z2 ?_;refine dQ [133] [0] iM ?_;refine z1 ?_;refine dQ [134,135] [4] (gT (κ:=Int) (enc:=i6) (l:=asC encL af++oE i 68 []) keyI Try.underlying77 yk rfl rfl rfl (jr hfA)) ?_;refine z1 ?_;refine c9 [137] [] rfl (ae aa rfl rfl rfl rfl rfl rfl rfl rfl) ?_;refine c9 [136,138] [336] rfl (j9 (enc:=i6) (s:=1) aa (s:Int) rfl rfl rfl rfl rfl rfl rfl rfl) ?_;refine bj [129,130,139] [4,344] (b7 (κ:=Int) (enc:=i6) (l:=asC encL af++oE i 68 []) keyI Try.underlying77 rfl rfl rfl rfl (jr hfA)) ?_;refine z1 ?_
       exact l9 [(s:Int)] [(64,some 64),(65,some 65),(66,some 66),(67,some 67),(68,some 344),(69,some 69)] hpos.symm (lg ⟨zE,rfl,zE,rfl,zE,rfl,zE,rfl,zE,rfl,zE,rfl,zE,rfl,zE,rfl,zE,rfl,zE,rfl,zE,rfl,zE,rfl,zE,rfl,zE,rfl,trivial⟩ ⟨zR,zR,zR,zM,zM,⟨rfl,fU rfl,_,rfl,oRow_le' (r':=344) (by simp[oM,oE]) (by rfl)⟩,⟨rfl,fU rfl,_,rfl,eY (by rfl)⟩,zM,zM,zR,zR,zR,zR,trivial⟩)
      | cons a0 c0 =>
       have hlA:(a0::c0).length+1≤1048576:=by
        have:=jR (afB l i) M s
        rw[←hA]at this
        omega
       refine z2 ?_;refine dQ [1] [64] iM ?_;refine z2 ?_;refine dQ [128] [0] iM ?_;refine z1 ?_;refine dQ [1] [64] iM ?_;refine z2 ?_;refine dQ [133] [0] iM ?_;refine z1 ?_;refine dQ [134,135] [4] (gS (κ:=Int) (enc:=i6) (l:=asC encL af++oE i 68 (a0::c0)) keyI Try.underlying77 rfl rfl rfl (jq hfA)) ?_;refine z1 ?_;refine c9 [137] [] rfl (ae aa rfl rfl rfl rfl rfl rfl rfl rfl) ?_;refine jv [136,138] [68,336] rfl (aJ (s:=1) (enc:=i6) (xs:=a0::c0) aa (s:Int) rfl rfl rfl rfl rfl rfl rfl rfl rfl hlA rfl) ?_;refine bj [129,130,139] [4,344] (gw (κ:=Int) (enc:=i6) (l:=asC encL af++oE i 68 (a0::c0)) keyI Try.underlying77 rfl rfl rfl rfl (jq hfA)) ?_;refine z1 ?_
       exact l9 (a0::c0++[(s:Int)]) [(64,some 64),(65,some 65),(66,some 66),(67,some 67),(68,some 344),(69,some 69)] hpos.symm (lg ⟨zE,rfl,zE,rfl,zE,rfl,zE,rfl,zE,rfl,zE,rfl,zE,rfl,zE,rfl,zE,rfl,zE,rfl,zE,rfl,zE,rfl,zE,rfl,zE,rfl,trivial⟩ ⟨zR,zR,zR,zM,zM,⟨rfl,fU rfl,_,rfl,oRow_le' (r':=344) (by rw[putO]; simp[oM,oE]) (by rfl)⟩,⟨rfl,fU rfl,_,rfl,eY (by rfl)⟩,zM,zM,zR,zR,zR,zR,trivial⟩)
    intro cB hB
    refine bt ?_
    show WC _ _ _ _ (CQ e k (zs M) j i s m) (aw (sn l b e os NA k (zs M) LS.1 LS.2 af ah i cB cH)) _
    clear hA
    have hbf:=kO om oi
    have hmu:=gR om
    have hpos:posN (ahB l i) M (s+1)=if (befB om oi&&bf om)=true then cH++[(s:Int)] else cH:=by rw[posN,hm,hH]; simp only[Option.getD_some,ahB,hopi,hopm]
    cases hb1:befB om oi with
    | false =>
     rw[hb1]at hbf
     rw[hb1,Bool.false_and,if_neg (by decide)]at hpos
     refine z2 ?_;refine dQ [1] [64] iM ?_;refine z2 ?_;refine dQ [142] [0] iM ?_;refine z3 ?_;refine dQ [1] [64] iM ?_;refine z2 ?_;refine dQ [149] [0] iM ?_;refine z24 ?_
     exact an (s+1,cB,cH) [(64,some 64),(65,some 65),(66,some 66),(67,some 67),(68,some 68),(69,some 69)] ⟨hsl,hB,hpos.symm⟩ (by simp only; omega) (lg za ⟨zR,zR,zR,zM,zM,⟨rfl,fU rfl,_,rfl,eY (by rfl)⟩,⟨rfl,fU rfl,_,rfl,eY (by rfl)⟩,zM,zM,zR,zR,zR,zR,trivial⟩)
    | true =>
     rw[hb1]at hbf
     cases hb2:bf om with
     | false =>
      rw[hb2]at hmu
      rw[hb1,hb2,Bool.true_and,if_neg (by decide)]at hpos
      refine z2 ?_;refine dQ [1] [64] iM ?_;refine z2 ?_;refine dQ [142] [0] iM ?_;refine z3 ?_;refine dQ [1] [64] iM ?_;refine z2 ?_;refine dQ [149] [0] iM ?_;refine z5 ?_;refine aD [155,1] [64] rfl rfl rfl rfl (ay aa rfl rfl rfl rfl) ?_;refine z2 ?_;refine aD [155,158] [0] rfl rfl rfl rfl (ay aa rfl rfl rfl rfl) ?_;refine z15 ?_
      exact an (s+1,cB,cH) [(64,some 64),(65,some 65),(66,some 66),(67,some 67),(68,some 68),(69,some 69)] ⟨hsl,hB,hpos.symm⟩ (by simp only; omega) (lg za ⟨zR,zR,zR,zM,zM,⟨rfl,fU rfl,_,rfl,eY (by rfl)⟩,⟨rfl,fU rfl,_,rfl,eY (by rfl)⟩,zM,zM,zR,zR,zR,zR,trivial⟩)
     | true =>
      rw[hb2]at hmu
      rw[hb1,hb2,Bool.true_and,if_pos rfl]at hpos
      cases cH with
      | nil =>
       refine z2 ?_;refine dQ [1] [64] iM ?_;refine z2 ?_;refine dQ [142] [0] iM ?_;refine z3 ?_;refine dQ [1] [64] iM ?_;refine z2 ?_;refine dQ [149] [0] iM ?_;refine z5 ?_;refine aD [155,1] [64] rfl rfl rfl rfl (ay aa rfl rfl rfl rfl) ?_;refine z2 ?_;refine aD [155,158] [0] rfl rfl rfl rfl (ay aa rfl rfl rfl rfl) ?_;refine z9 ?_;refine dQ [1] [64] iM ?_;refine z2 ?_;refine dQ [167] [0] iM ?_;refine z1 ?_;refine dQ [1] [64] iM ?_;refine z2 ?_;refine dQ [172] [0] iM ?_;refine z1 ?_;refine dQ [173,174] [5] (gT (κ:=Int) (enc:=i6) (l:=asC encL ah++oE i 69 []) keyI Try.underlying77 yk rfl rfl rfl (jr hfH)) ?_;refine z1 ?_;refine c9 [176] [] rfl (ae aa rfl rfl rfl rfl rfl rfl rfl rfl) ?_;refine c9 [175,177] [368] rfl (j9 (enc:=i6) (s:=1) aa (s:Int) rfl rfl rfl rfl rfl rfl rfl rfl) ?_;refine bj [168,169,178] [5,376] (b7 (κ:=Int) (enc:=i6) (l:=asC encL ah++oE i 69 []) keyI Try.underlying77 rfl rfl rfl rfl (jr hfH)) ?_;refine z7 ?_
       exact an (s+1,cB,[(s:Int)]) [(64,some 64),(65,some 65),(66,some 66),(67,some 67),(68,some 68),(69,some 376)] ⟨hsl,hB,hpos.symm⟩ (by simp only; omega) (lg za ⟨zR,zR,zR,zM,zM,⟨rfl,fU rfl,_,rfl,eY (by rfl)⟩,⟨rfl,fU rfl,_,rfl,oRow_le' (r':=376) (by simp[oM,oE]) (by rfl)⟩,zM,zM,zR,zR,zR,zR,trivial⟩)
      | cons a0 c0 =>
       have hlA:(a0::c0).length+1≤1048576:=by
        have:=jR (ahB l i) M s
        rw[←hH]at this
        omega
       refine z2 ?_;refine dQ [1] [64] iM ?_;refine z2 ?_;refine dQ [142] [0] iM ?_;refine z3 ?_;refine dQ [1] [64] iM ?_;refine z2 ?_;refine dQ [149] [0] iM ?_;refine z5 ?_;refine aD [155,1] [64] rfl rfl rfl rfl (ay aa rfl rfl rfl rfl) ?_;refine z2 ?_;refine aD [155,158] [0] rfl rfl rfl rfl (ay aa rfl rfl rfl rfl) ?_;refine z9 ?_;refine dQ [1] [64] iM ?_;refine z2 ?_;refine dQ [167] [0] iM ?_;refine z1 ?_;refine dQ [1] [64] iM ?_;refine z2 ?_;refine dQ [172] [0] iM ?_;refine z1 ?_;refine dQ [173,174] [5] (gS (κ:=Int) (enc:=i6) (l:=asC encL ah++oE i 69 (a0::c0)) keyI Try.underlying77 rfl rfl rfl (jq hfH)) ?_;refine z1 ?_;refine c9 [176] [] rfl (ae aa rfl rfl rfl rfl rfl rfl rfl rfl) ?_;refine jv [175,177] [69,368] rfl (aJ (s:=1) (enc:=i6) (xs:=a0::c0) aa (s:Int) rfl rfl rfl rfl rfl rfl rfl rfl rfl hlA rfl) ?_;refine bj [168,169,178] [5,376] (gw (κ:=Int) (enc:=i6) (l:=asC encL ah++oE i 69 (a0::c0)) keyI Try.underlying77 rfl rfl rfl rfl (jq hfH)) ?_;refine z7 ?_
       exact an (s+1,cB,a0::c0++[(s:Int)]) [(64,some 64),(65,some 65),(66,some 66),(67,some 67),(68,some 68),(69,some 376)] ⟨hsl,hB,hpos.symm⟩ (by simp only; omega) (lg za ⟨zR,zR,zR,zM,zM,⟨rfl,fU rfl,_,rfl,eY (by rfl)⟩,⟨rfl,fU rfl,_,rfl,oRow_le' (r':=376) (by rw[putO]; simp[oM,oE]) (by rfl)⟩,zM,zM,zR,zR,zR,zR,trivial⟩)
   ·have d3:decide ((s:Int)<((zs M).length:Int))=false:=dF (by rw[fj]; omega)
    obtain rfl:s=M.length:=by omega
    have hord:(addL af i cA,addL ah i cH)=eN l M (M.take (j+1)) (q.af,q.ah):=by
     rw[List.take_succ_eq_append_getElem hjl,(List.getElem?_eq_some_iff.1 hi).2,eN,List.foldl_append]
     show _=ordF l M (eN l M (M.take j) (q.af,q.ah)) i
     rw[←hq,ordF,hA,hH]
    have hfr2:∀i'∈M.drop (j+1),getA (addL af i cA) (i':Int)=none∧getA (addL ah i cH) (i':Int)=none:=by
     intro i' hi'
     have hnd:M.Nodup:=hM ▸ lO l 0
     have hdr:M.drop j=i::M.drop (j+1):=by rw[List.drop_eq_getElem_cons hjl,(List.getElem?_eq_some_iff.1 hi).2]
     have h1:=hfr i' (by rw[hdr]; exact List.mem_cons_of_mem _ hi')
     have hne:(i':Int)≠(i:Int):=by
      intro hee
      obtain rfl:i'=i:=by omega
      have:=(List.drop_sublist j M).nodup hnd
      rw[hdr]at this
      exact (List.nodup_cons.1 this).1 hi'
     exact⟨kE hne h1.1 _,kE hne h1.2 _⟩
    clear hA hH
    cases cA with
    | nil =>
     refine gM 72 [(64,some 64),(65,some 65),(66,some 66),(67,some 67),(69,some 69)] (env':=mw e k (zs M) j i M.length) (h':=aw (Bc l b e os NA k (zs M) LS.1 LS.2 (addL af i []) ah i cH)) (lg za ⟨zR,zR,zR,zM,zM,⟨rfl,bq _,_,rfl,nilA⟩,⟨rfl,fU rfl,_,rfl,eY (by rfl)⟩,zM,zM,zR,zR,zR,trivial⟩) ?_
     cases cH with
     | nil =>
      refine gM 72 [(64,some 64),(65,some 65),(66,some 66),(67,some 67)] (env':=mw e k (zs M) j i M.length) (h':=aw (nE l b e os NA k (zs M) LS.1 LS.2 (cR (addL af i [])) (cR (addL ah i [])))) (lg za ⟨zR,zR,zR,zM,zM,zM,⟨rfl,bq _,_,rfl,nilA⟩,zM,zM,zR,zR,trivial⟩) ?_;refine z17 ?_
      exact an (j+1,addL af i [],addL ah i _) [(64,some 64),(65,some 65),(66,some 66),(67,some 67)] ⟨hjl,hord,hfr2⟩ (by simp only; omega) (lg ze ⟨zR,zR,zR,zM,zM,zM,zM,zM,zM,zR,zR,trivial⟩)
     | cons a2 c2 =>
      refine de (env':=mw e k (zs M) j i M.length) (h':=aw (nE l b e os NA k (zs M) LS.1 LS.2 (cR (addL af i [])) (cR (addL ah i (a2::c2))))) 69 (zRow (a2::c2)) rfl ⟨⟨_,rfl,Frz.refl _⟩,⟨_,rfl,Frz.refl _⟩,⟨_,rfl,Frz.refl _⟩,⟨_,rfl,Frz.refl _⟩,⟨_,rfl,Frz.refl _⟩,⟨_,rfl,Frz.refl _⟩,⟨_,rfl,Frz.refl _⟩,⟨_,rfl,Frz.refl _⟩,⟨_,rfl,Frz.refl _⟩,⟨_,rfl,Frz.refl _⟩,⟨_,rfl,Frz.refl _⟩,⟨_,rfl,Frz.refl _⟩,trivial⟩ ⟨zF,zF,zF,zF,zF,zF,⟨rfl,_,rfl,frzA⟩,zF,zF,zF,zF,trivial⟩ ?_;refine z17 ?_
      exact an (j+1,addL af i [],addL ah i _) [(64,some 64),(65,some 65),(66,some 66),(67,some 67)] ⟨hjl,hord,hfr2⟩ (by simp only; omega) (lg ze ⟨zR,zR,zR,zM,zM,zM,zM,zM,zM,zR,zR,trivial⟩)
    | cons a1 c1 =>
     refine de (env':=mw e k (zs M) j i M.length) (h':=aw (Bc l b e os NA k (zs M) LS.1 LS.2 (addL af i (a1::c1)) ah i cH)) 68 (zRow (a1::c1)) rfl ⟨⟨_,rfl,Frz.refl _⟩,⟨_,rfl,Frz.refl _⟩,⟨_,rfl,Frz.refl _⟩,⟨_,rfl,Frz.refl _⟩,⟨_,rfl,Frz.refl _⟩,⟨_,rfl,Frz.refl _⟩,⟨_,rfl,Frz.refl _⟩,⟨_,rfl,Frz.refl _⟩,⟨_,rfl,Frz.refl _⟩,⟨_,rfl,Frz.refl _⟩,⟨_,rfl,Frz.refl _⟩,⟨_,rfl,Frz.refl _⟩,trivial⟩ ⟨zF,zF,zF,zF,zF,⟨rfl,_,rfl,frzA⟩,zF,zF,zF,zF,zF,zF,trivial⟩ ?_
     cases cH with
     | nil =>
      refine gM 72 [(64,some 64),(65,some 65),(66,some 66),(67,some 67)] (env':=mw e k (zs M) j i M.length) (h':=aw (nE l b e os NA k (zs M) LS.1 LS.2 (cR (addL af i (a1::c1))) (cR (addL ah i [])))) (lg za ⟨zR,zR,zR,zM,zM,zM,⟨rfl,bq _,_,rfl,nilA⟩,zM,zM,zR,zR,trivial⟩) ?_;refine z17 ?_
      exact an (j+1,addL af i (a1::c1),addL ah i _) [(64,some 64),(65,some 65),(66,some 66),(67,some 67)] ⟨hjl,hord,hfr2⟩ (by simp only; omega) (lg ze ⟨zR,zR,zR,zM,zM,zM,zM,zM,zM,zR,zR,trivial⟩)
     | cons a2 c2 =>
      refine de (env':=mw e k (zs M) j i M.length) (h':=aw (nE l b e os NA k (zs M) LS.1 LS.2 (cR (addL af i (a1::c1))) (cR (addL ah i (a2::c2))))) 69 (zRow (a2::c2)) rfl ⟨⟨_,rfl,Frz.refl _⟩,⟨_,rfl,Frz.refl _⟩,⟨_,rfl,Frz.refl _⟩,⟨_,rfl,Frz.refl _⟩,⟨_,rfl,Frz.refl _⟩,⟨_,rfl,Frz.refl _⟩,⟨_,rfl,Frz.refl _⟩,⟨_,rfl,Frz.refl _⟩,⟨_,rfl,Frz.refl _⟩,⟨_,rfl,Frz.refl _⟩,⟨_,rfl,Frz.refl _⟩,⟨_,rfl,Frz.refl _⟩,trivial⟩ ⟨zF,zF,zF,zF,zF,zF,⟨rfl,_,rfl,frzA⟩,zF,zF,zF,zF,trivial⟩ ?_;refine z17 ?_
      exact an (j+1,addL af i (a1::c1),addL ah i _) [(64,some 64),(65,some 65),(66,some 66),(67,some 67)] ⟨hjl,hord,hfr2⟩ (by simp only; omega) (lg ze ⟨zR,zR,zR,zM,zM,zM,zM,zM,zM,zR,zR,trivial⟩)
  ·have d2:decide ((j:Int)<((zs M).length:Int))=false:=dF (by rw[fj]; omega)
   obtain rfl:j=M.length:=by omega
   rw[List.take_length]at hq
   have hE:eraP l b k q=⟨NA.1,NA.2,os,af,ah,LS.1,LS.2⟩:=by
    unfold eraP
    rw[hM,hNA,←hLS,←hq,←hos]
   refine z17 ?_
   refine an (k+1,⟨NA.1,NA.2,os,af,ah,LS.1,LS.2⟩) [(64,some 64),(65,some 65)] ⟨hlt,by simp[hos,hql],by simp only; rw[cn,←hqn,hE],fun i o hio hoe=>?_⟩ (by simp only; omega) (lg zj ⟨zR,zR,zR,zM,zM,zM,zM,zM,zM,trivial⟩)
   have h1:i ∉ M:=fun him=>by
    obtain⟨o',h1,h2,_⟩:=gx l 0 (show i∈mayI l b k from hM.symm ▸ him)
    rw[Nat.sub_zero,hio]at h1
    cases h1
    simp only[eraB,Bool.and_eq_true,decide_eq_true_eq]at h2
    omega
   have h2:=l5 l M i M (q.af,q.ah) h1 (hqf i o hio (by omega))
   rw[←hq]at h2
   exact h2
 ·have d1:decide ((k:Int)<(e:Int))=false:=dF (by omega)
  obtain rfl:k=e:=by omega
  subst hqn
  refine z11 ?_
  exact⟨trivial,[(64,some 65)],lg zV ⟨zR,zR,zM,zM,zM,zM,zM,zM,trivial⟩⟩
structure LSt where
 era:Int
 taken:List UInt8
 array:List UInt8
 durable:List UInt8
 deriving DecidableEq
def bQ (s:LSt):D :=.cons (i6 s.era) (.cons (strD s.taken) (.cons (strD s.array) (.cons (strD s.durable) .nil)))
theorem uw (a b:List UInt8):EqOk Try.prog 1 9 (strD a) (strD b) (decide (a=b)):=by
 have:=x5 (P:=Try.prog) (a:=mkS a) (b:=mkS b) Try.underlying9
 rwa [wj]at this
theorem E6 (a b:LSt):EqOk Try.prog 2 105 (bQ a) (bQ b) (decide (a=b)):=by
 refine (x4 (P:=Try.prog) Try.underlying105 (by kernel_rfl) rfl rfl (ml aa rfl (by kernel_rfl) rfl rfl (vn (P:=Try.prog) Try.underlying3) rfl (ml aa rfl (by kernel_rfl) rfl rfl (uw _ _) rfl (ml aa rfl (by kernel_rfl) rfl rfl (uw _ _) rfl (ml aa rfl (by kernel_rfl) rfl rfl (uw _ _) rfl Cg))))).cast ?_
 cases a; cases b
 simp
theorem CZ (s:LSt):kf Try.prog 2 105 (bQ s):=
 vc (P:=Try.prog) Try.underlying105 rfl (kz aa rfl (by kernel_rfl) rfl (sa (P:=Try.prog) Try.underlying3) rfl (kz aa rfl (by kernel_rfl) rfl (lG (P:=Try.prog) Try.underlying9) rfl (kz aa rfl (by kernel_rfl) rfl (lG (P:=Try.prog) Try.underlying9) rfl (kz aa rfl (by kernel_rfl) rfl (lG (P:=Try.prog) Try.underlying9) rfl Ax))))
theorem oA (l:List UInt8):(strD l).keyd:=fun n=>by
 have:(mkS l==mkS l)=true:=by rw[Bk]; exact dT rfl
 cases n <;> simpa[Instr.sameBits]using this
theorem BB (s:LSt):(bQ s).keyd:=⟨fun n=>by cases n <;> simp[Instr.sameBits],oA _,oA _,oA _,trivial⟩
theorem keyS:eD Try.prog 105 bQ 2:=pc (by decide) (by rw[Try.underlying105]) CZ E6 BB
abbrev KMap:=List (LSt×Int)
abbrev kRow (m:KMap):Row :=.mo (mapC bQ (asC i6 m))
abbrev yC (xs:List LSt):Row :=.ds 105 4 false bQ xs
structure aF where
 op:Int
 to:Int
def qO (s:aF):D :=.cons (i6 s.op) (.cons (i6 s.to) .nil)
abbrev cF (l:List aF):D :=.arr 2 qO l
abbrev yM (xs:List (List aF)):Row :=.ds 106 1 false cF xs
def addS (q:KMap×List LSt) (x:LSt):(KMap×List LSt)×Int:=match getA q.1 x with
 | some n=>(q,n)
 | none=>((putA q.1 x q.2.length,q.2++[x]),q.2.length)
theorem BY {P:Program} {env:Env} {h:Upds} {n t kt et mm r:Nat} {κ ν:Type} [DecidableEq κ] {enc:κ→D} {encV:ν→D} {x y:Operand} {k:κ} {m:List (κ×ν)} {v:ν} (z:ν) (hg:getA m k=some v) (K:eD P kt enc mm) (ht:P.underlying t=some (.map kt et)) (hz:fb P et (encV z))
  (hx:ai env x=some (.mapr r)) (hy:ai env y=some (.d (enc k))) (hr:aQ h r=some (.mo (mapC enc (asC encV m)))) :
  ab P (.lookup t x y true) env h n (some (.tup (.acons (.d (encV v)) (.acons (.bool true) .anil)))) []:=by
 have:=td (n:=n) z K ht hz hx hy hr
 rw[hg]at this
 exact this
theorem BZ {P:Program} {env:Env} {h:Upds} {n t kt et mm r:Nat} {κ ν:Type} [DecidableEq κ] {enc:κ→D} {encV:ν→D} {x y:Operand} {k:κ} {m:List (κ×ν)} (z:ν) (hg:getA m k=none) (K:eD P kt enc mm) (ht:P.underlying t=some (.map kt et)) (hz:fb P et (encV z))
  (hx:ai env x=some (.mapr r)) (hy:ai env y=some (.d (enc k))) (hr:aQ h r=some (.mo (mapC enc (asC encV m)))) :
  ab P (.lookup t x y true) env h n (some (.tup (.acons (.d (encV z)) (.acons (.bool false) .anil)))) []:=by
 have:=td (n:=n) z K ht hz hx hy hr
 rw[hg]at this
 exact this
abbrev sF (l:List HOp) (b e:Int) (xs:List (List Int)) (sp:List (List aF)) (q:KMap×List LSt) (r:Nat):List (Nat×Row):=[(0,sBox l b e (.own 3 0 xs.length 1 none) (.own r 0 q.2.length 4 none) (.own 10 0 sp.length 1 none)),(3,fF xs),(8,kRow q.1),(r,yC q.2),(10,yM sp)]
theorem DN (l:List HOp) (b e:Int) (xs:List (List Int)) (sp:List (List aF)) (q:KMap×List LSt) (x:LSt) (hlen:q.2.length+1≤1048576):FnIs Try.prog 39 [.ptr 0 [],.d (bQ x)] (sF l b e xs sp q 9) (.int .i64 (addS q x).2) (sF l b e xs sp (addS q x).1 64):=by
 refine aq aa Try.func39 rfl rfl rfl ?_
 have hw:IntKind.i64.wrap (((q.2.length+1:Nat):Int)-1)=(q.2.length:Int):=by rw[aH (by omega) (by omega)]; omega
 unfold addS
 cases hg:getA q.1 x with
 | some v =>
  refine z12 ?_;refine dQ [10] [0] iM ?_;refine dQ [3] [64] iM ?_;refine dQ [11,12] [8] (BY (κ:=LSt) (ν:=Int) (enc:=bQ) (encV:=i6) (m:=q.1) 0 hg keyS Try.underlying79 fk rfl rfl rfl) ?_;refine z21 ?_
  exact⟨trivial,[(64,some 9)],lg zV ⟨zR,zR,zM,zR,zR,trivial⟩⟩
 | none =>
  refine z12 ?_;refine dQ [10] [0] iM ?_;refine dQ [3] [64] iM ?_;refine dQ [11,12] [8] (BZ (κ:=LSt) (ν:=Int) (enc:=bQ) (encV:=i6) (m:=q.1) 0 hg keyS Try.underlying79 fk rfl rfl rfl) ?_;refine z20 ?_;refine dQ [20] [0] iM ?_;refine dQ [3] [64] iM ?_;refine z3 ?_;refine dQ [25] [0] iM ?_;refine dQ [26] [9] (ee aa rfl rfl) ?_;refine bj [21,22,27] [8] (ra (κ:=LSt) (ν:=Int) (enc:=bQ) (encV:=i6) (m:=q.1) (k:=x) (v:=(q.2.length:Int)) keyS Try.underlying79 rfl rfl rfl rfl) ?_;refine z8 ?_;refine dQ [31] [0] iM ?_;refine dQ [3] [64] iM ?_;refine c9 [33] [] rfl (ae aa rfl rfl rfl rfl rfl rfl rfl rfl) ?_;refine jv [32,34] [9,312] rfl (aJ (s:=4) (enc:=bQ) (xs:=q.2) aa x rfl rfl rfl rfl rfl rfl rfl rfl rfl hlen rfl) ?_;refine z2 ?_;refine bj [37,35] [0] (aG aa rfl rfl rfl ⟨_,⟨_,⟨rfl,rfl,rfl⟩,rfl⟩,rfl⟩ rfl) ?_;refine z9 ?_;refine rQ (cm (m:=(q.2.length:Int)) aa rfl rfl hw) ?_;refine z4 ?_
  exact⟨trivial,[(64,some 320)],lg zV ⟨⟨rfl,rfl,_,rfl,aM.of_eq (by simp only[List.length_append,List.length_singleton]; rfl)⟩,zR,zM,zR,zR,trivial⟩⟩
theorem qE {r te n:Nat} {ex:Bool} {cap:Option Nat}:Frz r (.ds te 1 ex cN (List.replicate n (0:Int))) (.own r 0 n 1 cap) (.d (encB (List.replicate n 0))):=by
 have e:byI (List.replicate n 0)=List.replicate n (0:Int):=by simp[byI]
 show Frz _ _ _ (.d (.arr 1 cN (byI (List.replicate n 0))))
 rw[e]
 exact Frz.own (by simp)
theorem gZ {T:Tab} {env:Env} {h:Upds} {n:Nat} (hT:aj Try.prog T) {t t' e:TypeId} {x:Operand} {l:List UInt8} (ht:bh T t=some (.slice e)) (he:bh T e=some (.int .u8)) (ht':bh T t'=some .string) (hx:ai env x=some (.d (encB l))) :
  ab Try.prog (.convert t t' x) env h n (some (.d (strD l))) []:=by
 have:=vy (n:=n) (h:=h) hT ht he ht' hx
 rwa [xg]at this
def cQ (n:Nat):List UInt8:=List.replicate n 0
theorem BU (l:List HOp) (b e:Int) (xs:List (List Int)) (sp:List (List aF)) (q:KMap×List LSt) (k:Nat) (z:List Int) (hz0:xs[k]?=some z) (hlen:z.length≤1048576):FnIs Try.prog 40 [.ptr 0 [],.int .i64 k] (sF l b e xs sp q 9) (.d (strD (cQ z.length))) (sF l b e xs sp q 9):=by
 have hz:xs[((k:Int)).toNat]?=some z:=by rw[Int.toNat_natCast]; exact hz0
 refine aq aa Try.func40 rfl rfl rfl ?_
 have hkl:=(List.getElem?_eq_some_iff.1 hz0).1
 refine z13 ?_;refine rQ (aX (v :=.d (encL z)) aa rfl rfl ⟨rfl,z,hz,encL z,rfl,rfl⟩ rfl) ?_;refine z1 ?_;refine rQ (ab.frozen (dA (enc:=cN) (s:=1) (N:=z.length) aa (0:Int) rfl rfl rfl rfl rfl rfl rfl hlen rfl) qE) ?_;refine rQ (gZ aa rfl rfl rfl rfl) ?_;refine z4 ?_
 exact⟨trivial,[],lg zV ⟨zR,zR,zM,zR,zR,trivial⟩⟩
def kY (l:List HOp):List Int→List UInt8→Bool
 | i::z,c::t=>if (bf (opN l i.toNat)&&decide ((c.toNat:Int)=0))=true then false else kY l z t
 | _,_=>true
def jH (l:List HOp) (lo:dO) (z:List Int) (x:LSt):Bool:=if (getA lo x.era).getD false=true then false else kY l z x.taken
theorem vf {l:List HOp} {z:List Int} {t:List UInt8} {k:Nat} {i:Int} {c:UInt8} (hi:z[k]?=some i) (hc:t[k]?=some c):kY l (z.drop k) (t.drop k)=if (bf (opN l i.toNat)&&decide ((c.toNat:Int)=0))=true then false else kY l (z.drop (k+1)) (t.drop (k+1)):=by
 rw[List.drop_eq_getElem_cons (List.getElem?_eq_some_iff.1 hi).1,(List.getElem?_eq_some_iff.1 hi).2,List.drop_eq_getElem_cons (List.getElem?_eq_some_iff.1 hc).1,(List.getElem?_eq_some_iff.1 hc).2]
 rfl
abbrev AR (l:List HOp) (b e:Int) (xs:List (List Int)) (sp:List (List aF)) (lo:dO) (q:KMap×List LSt):List (Nat×Row):=(6,eu lo)::sF l b e xs sp q 9
theorem Ca (l:List HOp) (b e:Int) (xs:List (List Int)) (sp:List (List aF)) (lo:dO) (q:KMap×List LSt) (x:LSt) (k:Nat) (z:List Int) (hk:x.era=k) (hz0:xs[k]?=some z) (hzl:z.length≤1048576) (htl:x.taken.length=z.length) (hmem:∀i∈z,∃o,l[i.toNat]?=some o∧0≤i):FnIs Try.prog 74 [.ptr 0 [],.d (bQ x)] (AR l b e xs sp lo q) (.bool (jH l lo z x)) (AR l b e xs sp lo q):=by
 have hkl:=(List.getElem?_eq_some_iff.1 hz0).1
 have hz:xs[x.era.toNat]?=some z:=by rw[hk,Int.toNat_natCast]; exact hz0
 refine aq aa Try.func74 rfl rfl rfl ?_
 unfold jH
 cases hb0:(getA lo x.era).getD false with
 | true =>
  rw[if_pos rfl]
  refine z12 ?_;refine dQ [9] [0] iM ?_;refine z1 ?_;refine dQ [11] [64] iB ?_;refine dQ [10,12] [6] (dq (κ:=Int) (ν:=Bool) (enc:=i6) (encV:=ef) (m:=lo) hb0 keyI Try.underlying78 ia rfl rfl rfl) ?_;refine z10 ?_
  exact⟨trivial,[],lg zV ⟨zM,zR,zR,zM,zR,zR,trivial⟩⟩
 | false =>
  rw[if_neg (by decide)]
  refine z12 ?_;refine dQ [9] [0] iM ?_;refine z1 ?_;refine dQ [11] [64] iB ?_;refine dQ [10,12] [6] (dq (κ:=Int) (ν:=Bool) (enc:=i6) (encV:=ef) (m:=lo) hb0 keyI Try.underlying78 ia rfl rfl rfl) ?_;refine z11 ?_;refine dQ [16] [0] iM ?_;refine z1 ?_;refine dQ [18] [64] iB ?_;refine z1 ?_;refine dQ [20] [3] (aX (v :=.d (encL z)) aa rfl rfl ⟨rfl,z,hz,encL z,rfl,rfl⟩ rfl) ?_;refine z5 ?_
  refine wc_inv (fun s:Nat=>⟨[(23,.int .i64 s),(22,.int .i64 z.length),(21,.d (encL z)),(0,.ptr 0 []),(3,.ptr 64 [])],(64,some (.box 105 (.d (bQ x))))::aw (AR l b e xs sp lo q),72,Try.f74.ntmps,64⟩) (fun s=>s≤z.length∧kY l (z.drop s) (x.taken.drop s)=kY l z x.taken) (fun s=>z.length-s) 0 [(64,some 64)] ⟨Nat.zero_le _,rfl⟩
   (lg zh ⟨zR,zM,zR,zR,zM,zR,zR,trivial⟩) ?_
  rintro s ⟨hs,hinv⟩
  refine bt ?_
  by_cases hsl:s<z.length
  ·have d1:decide ((s:Int)<(z.length:Int))=true:=dT (by omega)
   obtain⟨i,hi⟩:∃i,z[s]?=some i:=⟨_,List.getElem?_eq_getElem hsl⟩
   obtain⟨c,hc⟩:∃c,x.taken[s]?=some c:=⟨_,List.getElem?_eq_getElem (by omega)⟩
   have hi2:z[((s:Int)).toNat]?=some i:=by rw[Int.toNat_natCast]; exact hi
   have hc2:(mkS x.taken)[((s:Int)).toNat]?=some c:=by rw[Int.toNat_natCast]; exact rI hc
   obtain⟨o,hli,hi0⟩:=hmem i (List.mem_of_getElem? hi)
   have hop:opN l i.toNat=o:=by rw[opN,hli]; rfl
   rw[vf hi hc,hop]at hinv
   have hmu:=gR o
   cases hm:bf o with
   | false =>
    rw[hm]at hmu
    rw[hm,Bool.false_and,if_neg (by decide)]at hinv
    refine z47 ?_
    exact an (s+1) [(64,some 64)] ⟨hsl,hinv⟩ (by omega) (lg zh ⟨zR,zM,zR,zR,zM,zR,zR,trivial⟩)
   | true =>
    rw[hm]at hmu
    cases hc0:decide ((c.toNat:Int)=0) with
    | true =>
     rw[hm,hc0,Bool.true_and,if_pos rfl]at hinv
     rw[←hinv]
     refine z38 ?_;refine rQ (kB (v:=(c.toNat:Int)) aa rfl rfl rfl (by omega) hc2 rfl) ?_;refine z17 ?_
     exact⟨trivial,[],lg zV ⟨zM,zR,zR,zM,zR,zR,trivial⟩⟩
    | false =>
     rw[hm,hc0,Bool.true_and,if_neg (by decide)]at hinv
     refine z38 ?_;refine rQ (kB (v:=(c.toNat:Int)) aa rfl rfl rfl (by omega) hc2 rfl) ?_;refine z13 ?_
     exact an (s+1) [(64,some 64)] ⟨hsl,hinv⟩ (by omega) (lg zh ⟨zR,zM,zR,zR,zM,zR,zR,trivial⟩)
  ·have d1:decide ((s:Int)<(z.length:Int))=false:=dF (by omega)
   rw[List.drop_eq_nil_of_le (by omega)]at hinv
   rw[←hinv]
   refine z18 ?_
   exact⟨trivial,[],lg zV ⟨zM,zR,zR,zM,zR,zR,trivial⟩⟩
end Go.Proofs.Ytmdgmolbamlicaa
namespace Go.Eng
open Go.RowKit
theorem kV:∀l:List AV,bY l l=true
 | []=>rfl
 | a::l=>by
  cases a <;> simp[bY,AV.isD,kV l]
theorem bU.self {look:Nat→Option Row}:∀l:List AV,(∀v∈l,v.flat=true∧v.lt 64=true)→bU look (rho []) l l
 | [],_=>rfl
 | a::l,h=>by
  refine⟨a,l,rfl,h a (by simp),?_,bU.self l fun v hv=>h v (by simp[hv])⟩
  cases a <;> first | exact⟨rfl,DLe.refl _⟩ | exact AVLe.of_eq (AV.ren_id _).symm
theorem j8:∀(avs:List AV) (k i:Nat) (v:AV),avs[i]?=some v→lk (eg k avs) (k+i)=some v
 | [],k,i,v,h=>by simp at h
 | x::avs,k,0,v,h=>by
  simp only[List.getElem?_cons_zero,Option.some.injEq]at h
  subst h
  simp[eg,aN]
 | x::avs,k,i+1,v,h=>by
  simp only[eg,aN]
  rw[if_neg (by omega),show k+(i+1)=k+1+i by omega]
  exact j8 avs (k+1) i v (by simpa using h)
theorem FnIs.frame {P:Program} {f:FuncId} {avs:List AV} {h0 h1 rows rows':List (Nat×Row)} {res:AV} (lg:bC) (h:FnIs P f avs h0 res rows) (ha:∀v∈avs,v.flat=true∧v.lt 64=true)
  (hr:RowsIn (fun r=>lk h1 r) [] h0) (hi:ey (rho []) (aU h0)=true)
  (hle:Le lg ⟨[(0,res.ren (eb [] 64))],bA [] 64 h0 rows++aw h1,72,1,64⟩ ⟨[(0,res)],aw rows',72,1,64⟩):FnIs P f avs h1 res rows':=by
 refine⟨h.1,fun C σ w vs hbs hB hw hσ hro hst=>?_⟩
 have hlen:vs.length=avs.length:=by simpa[inSt]using hst.sz
 have hrow:∀r,(inSt avs h1).row r=lk h1 r:=fun r=>ew h1 r
 have hr':RowsIn (inSt avs h1).row [] h0:=by rw[show (inSt avs h1).row=fun r=>lk h1 r from funext hrow]; exact hr
 have hv:∀(i:Nat) (v:AV) (u:Value),avs[i]?=some v→vs[i]?=some u→RelV σ w ((inSt avs h1).X C.X0 σ) v u:=fun i v u h1 h2=>by
  have h3:=j8 avs 0 i v h1
  rw[Nat.zero_add]at h3
  obtain⟨u',h4,h5⟩:=hst.env i v h3
  have:u=u':=by simpa[h2]using h4
  rw[this]; exact h5
 have hg:∀v∈avs,v.within (fun r=>r<64):=fun v hv=>by
  obtain⟨i,hi⟩:=List.mem_iff_getElem?.1 hv
  have h3:=j8 avs 0 i v hi
  rw[Nat.zero_add]at h3
  exact hst.envG i v h3
 have hXlt:∀b,(inSt avs h1).X C.X0 σ b→b<w.heap.size:=by
  rintro b (hx | ⟨r,row,c,h3,h4⟩)
  ·have:=(hst.x0 b hx).1; have:=hst.size; omega
  ·exact hst.lt h3 h4
 have hent:=hst.enter (l:=[]) (us:=vs) (fun b=>(inSt avs h1).X C.X0 σ b∧¬b6 (σ.via (rho [])) h0 b) hlen.symm hv hg (bU.self avs ha) hr' hi (fun b hb=>⟨hXlt b hb.1,hb.2⟩) (fun b hb=>hb.1) (.inl (kV avs))
 refine (h.2 _ _ w vs rfl rfl rfl rfl rfl hent).mono ?_
 rintro e w' ⟨v,σ2,rfl,h2⟩
 obtain⟨σ',h5,h6,h7⟩:=hst.leave (n:=64) (fun r h1 _ h3=>Nat.not_lt.2 h1 h3) rfl hr' rfl (.inl fun b h1 h2=>⟨h1,h2⟩) h2
 have h8:=h5.spread (env':=[(0,res.ren (eb [] 64))]) (sz':=1) (a':=⟨#[v],[]⟩) (fun i x hx=>by
  simp only[aN]at hx
  split at hx
  ·rename_i q
   subst q
   simp only[Option.some.injEq]at hx
   subst hx
   exact⟨⟨v,rfl,h6⟩,h7⟩
  ·simp[lk]at hx) rfl trivial
 have h9:=h8.grow (G':=fun r=>r<72) (fun r hr=>by rcases hr with hr | hr <;> (try simp only at hr) <;> omega)
 have h10:aA C (fun r=>r<72) ⟨[(0,res.ren (eb [] 64))],bA [] 64 h0 rows++aw h1,72,1,64⟩ σ' w' ⟨#[v],[]⟩:= { h9 with }
 exact⟨v,_,rfl,h10.le hle⟩
end Go.Eng
namespace Go.Proofs.Ytmdgmolbamlicaa
open Go.Eng Go.Plain
set_option maxHeartbeats 32000000
set_option maxRecDepth 20000
set_option maxRecDepth 20000
theorem BO (l:List HOp) (b:Int) (e:Nat) (km:KMap) (hL:l.length≤1048576) (he:e≤1048576) (h32:∀o∈l,mayB o b=true→o.op.kind=2→o.op.data.length=32):FnIs Try.prog 38 [.ptr 0 []] [(0,sBox l b e sNil sNil sNil),(1,fV []),(2,g8 [(zBk,0)]),(4,cR []),(5,cR []),(6,eu []),(7,eu []),(8,kRow km)] (.tup .anil) (Ai l b e (cn l b e) 64++[(8,kRow km)]):=
 FnIs.frame [(64,some 64)] (xy l b e hL he h32) (by intro v hv; simp only[List.mem_singleton]at hv; subst hv; exact⟨rfl,rfl⟩) ⟨zH,zN,zN,zN,zN,zN,zN,trivial⟩ rfl
  (lg zV ⟨zR,zR,zM,zM,zM,zM,zM,zM,zM,trivial⟩)
end Go.Proofs.Ytmdgmolbamlicaa
namespace Go.Proofs.Ytmdgmolbamlicaa
open Go.Eng Go.Plain
set_option maxHeartbeats 32000000
set_option maxRecDepth 20000
attribute [local irreducible] WC RegS RegD SeqQ BlkQ ScoQ RegK CutK Sat SatN FnIs LoopQ ab OpIs
abbrev ie (l:List HOp) (b e:Int) (xs:List (List Int)) (sp:List (List aF)) (n:Nat) (pl:IMap) (vs:BMap):List (Nat×Row):=[(0,sBox l b e (.own 3 0 xs.length 1 none) (.own 9 0 n 4 none) (.own 10 0 sp.length 1 none)),(1,fV pl),(2,g8 vs)]
theorem Ds (l:List HOp) (b e:Int) (xs:List (List Int)) (sp:List (List aF)) (n:Nat) (pl:IMap) (vs:BMap) (x:LSt) (o:HOp) (p:Nat) (hk:o.op.kind=3) (hp:(getA pl o.op.index).getD 0=(p:Int)) (hpl:p≤1048576):FnIs Try.prog 73 [.ptr 0 [],.d (bQ x),.d (a9 o)] (ie l b e xs sp n pl vs) (.tup (.acons (.d (bQ { x with durable:=x.array })) (.acons (.bool true) .anil))) (ie l b e xs sp n pl vs):=by
 have c3:decide (o.op.kind=3)=true:=dT hk
 have hw:IntKind.i64.wrap (2*(p:Int))=((2*p:Nat):Int):=by rw[aH (by omega) (by omega)]; omega
 refine aq aa Try.func73 rfl rfl rfl ?_;refine z13 ?_;refine dQ [13] [0] iM ?_;refine z2 ?_;refine dQ [16] [72] iB ?_;refine dQ [14,17] [1] (dq (κ:=Int) (ν:=Int) (enc:=i6) (encV:=i6) (m:=pl) hp keyI Try.underlying74 fk rfl rfl rfl) ?_;refine yA (ed (m:=((2*p:Nat):Int)) aa rfl rfl hw) ?_;refine z23 ?_;refine rX ?_;refine z11 ?_
 exact⟨trivial,_,rfl,[],lg zV ⟨zR,zM,zM,trivial⟩⟩
theorem Dq (l:List HOp) (b e:Int) (xs:List (List Int)) (sp:List (List aF)) (n:Nat) (pl:IMap) (vs:BMap) (x:LSt) (o:HOp) (p:Nat) (hk:o.op.kind=1) (hm:bf o=false) (hp:(getA pl o.op.index).getD 0=(p:Int)) (hpl:p≤1048576):FnIs Try.prog 73 [.ptr 0 [],.d (bQ x),.d (a9 o)] (ie l b e xs sp n pl vs) (.tup (.acons (.d (bQ x)) (.acons (.bool true) .anil))) (ie l b e xs sp n pl vs):=by
 have c1:decide (o.op.kind=1)=true:=dT hk
 have c2:decide (o.op.kind=2)=false:=dF (by omega)
 have c3:decide (o.op.kind=3)=false:=dF (by omega)
 have hw:IntKind.i64.wrap (2*(p:Int))=((2*p:Nat):Int):=by rw[aH (by omega) (by omega)]; omega
 have hmu:=gR o
 rw[hm]at hmu
 refine aq aa Try.func73 rfl rfl rfl ?_;refine z13 ?_;refine dQ [13] [0] iM ?_;refine z2 ?_;refine dQ [16] [72] iB ?_;refine dQ [14,17] [1] (dq (κ:=Int) (ν:=Int) (enc:=i6) (encV:=i6) (m:=pl) hp keyI Try.underlying74 fk rfl rfl rfl) ?_;refine yA (ed (m:=((2*p:Nat):Int)) aa rfl rfl hw) ?_;refine z38 ?_;refine dQ [62] [0] iM ?_;refine z1 ?_;refine dQ [64] [72] iB ?_;refine dQ [63,65] [2] (gi (κ:=List UInt8) (ν:=Int) (enc:=bc) (encV:=i6) (m:=vs) (k:=o.value) 0 keyB Try.underlying75 fk rfl rfl rfl) ?_;refine z5 ?_;refine dQ [4] [64] iM ?_;refine dQ [5] [72] iM ?_;refine z18 ?_;refine bj [6,67] [80] (aG aa rfl rfl rfl ⟨_,⟨rfl,rfl,rfl⟩,rfl⟩ rfl) ?_;refine z6 ?_
 exact⟨trivial,_,rfl,[],lg zV ⟨zR,zM,zM,trivial⟩⟩
def dJ (n:Nat):List UInt8:=[UInt8.ofNat (n/256),UInt8.ofNat n]
theorem cj (n:Nat):IntKind.u8.wrap (n:Int)=((UInt8.ofNat n).toNat:Int):=by
 rw[show IntKind.u8.wrap (n:Int)=((n % 256:Nat):Int) by simp[IntKind.wrap,IntKind.signed,IntKind.bits]]
 simp
theorem Dp (l:List HOp) (b e:Int) (xs:List (List Int)) (sp:List (List aF)) (n:Nat) (pl:IMap) (vs:BMap) (x:LSt) (o:HOp) (p nv:Nat) (hk:o.op.kind=1) (hm:bf o=true) (hp:(getA pl o.op.index).getD 0=(p:Int)) (hpl:p≤1048576) (hv:(getA vs o.value).getD 0=(nv:Int)) (ha:2*p+2≤x.array.length):FnIs Try.prog 73 [.ptr 0 [],.d (bQ x),.d (a9 o)] (ie l b e xs sp n pl vs) (.tup (.acons (.d (bQ x)) (.acons (.bool (decide ((x.array.drop (2*p)).take 2=dJ nv))) .anil))) (ie l b e xs sp n pl vs):=by
 have c1:decide (o.op.kind=1)=true:=dT hk
 have c2:decide (o.op.kind=2)=false:=dF (by omega)
 have c3:decide (o.op.kind=3)=false:=dF (by omega)
 have hw:IntKind.i64.wrap (2*(p:Int))=((2*p:Nat):Int):=by rw[aH (by omega) (by omega)]; omega
 have hw2:IntKind.i64.wrap (((2*p:Nat):Int)+2)=((2*p+2:Nat):Int):=by rw[aH (by omega) (by omega)]; omega
 have hmu:=gR o
 rw[hm]at hmu
 refine aq aa Try.func73 rfl rfl rfl ?_;refine z13 ?_;refine dQ [13] [0] iM ?_;refine z2 ?_;refine dQ [16] [72] iB ?_;refine dQ [14,17] [1] (dq (κ:=Int) (ν:=Int) (enc:=i6) (encV:=i6) (m:=pl) hp keyI Try.underlying74 fk rfl rfl rfl) ?_;refine yA (ed (m:=((2*p:Nat):Int)) aa rfl rfl hw) ?_;refine z38 ?_;refine dQ [62] [0] iM ?_;refine z1 ?_;refine dQ [64] [72] iB ?_;refine dQ [63,65] [2] (dq (κ:=List UInt8) (ν:=Int) (enc:=bc) (encV:=i6) (m:=vs) (k:=o.value) hv keyB Try.underlying75 fk rfl rfl rfl) ?_;refine z5 ?_;refine dQ [4] [64] iM ?_;refine dQ [5] [72] iM ?_;refine z4 ?_;refine aD [71,72] [64] rfl rfl rfl rfl (ay aa rfl rfl ⟨_,rfl,rfl⟩ rfl) ?_;refine z2 ?_;refine yO (bM (m:=((2*p+2:Nat):Int)) aa rfl rfl hw2) ?_;refine yO (Bz (lo:=2*p) (hi:=2*p+2) (m:=(x.array.drop (2*p)).take 2) aa rfl rfl rfl rfl ha (by omega) (by congr 1; omega)) ?_;refine z1 ?_;refine yO (eX (a:=nv) (s:=8) (m:=nv/256) rfl rfl (by decide) rfl) ?_;refine yO (aR aa rfl rfl rfl (cj _)) ?_;refine z1 ?_;refine yO (aR aa rfl rfl rfl (cj _)) ?_;refine yO (ab.frozen (ae (s:=1) aa rfl rfl rfl rfl rfl rfl rfl rfl) (Frz.lits2 (enc:=cN) ((UInt8.ofNat (nv/256)).toNat:Int) ((UInt8.ofNat nv).toNat:Int) rfl rfl rfl rfl)) ?_;refine yO (gZ (l:=dJ nv) aa rfl rfl rfl rfl) ?_;refine yO (Fi aa rfl rfl rfl) ?_;refine z1 ?_;refine bj [6,67] [80] (aG aa rfl rfl rfl ⟨_,⟨rfl,rfl,rfl⟩,rfl⟩ rfl) ?_;refine z6 ?_
 exact⟨trivial,_,rfl,[],lg zV ⟨zR,zM,zM,trivial⟩⟩
theorem Do (l:List HOp) (b e:Int) (xs:List (List Int)) (sp:List (List aF)) (n:Nat) (pl:IMap) (vs:BMap) (x:LSt) (o:HOp) (p nv:Nat) (hk:o.op.kind=2) (hd:o.op.data.length=32) (hal:x.array.length≤1048576000) (hp:(getA pl o.op.index).getD 0=(p:Int)) (hpl:p≤1048576) (hv:(getA vs o.op.data).getD 0=(nv:Int)) (ha:2*p+2≤x.array.length):FnIs Try.prog 73 [.ptr 0 [],.d (bQ x),.d (a9 o)] (ie l b e xs sp n pl vs) (.tup (.acons (.d (bQ { x with array:=x.array.take (2*p)++dJ nv++x.array.drop (2*p+2) })) (.acons (.bool true) .anil))) (ie l b e xs sp n pl vs):=by
 have c2:decide (o.op.kind=2)=true:=dT hk
 have c3:decide (o.op.kind=3)=false:=dF (by omega)
 have hw:IntKind.i64.wrap (2*(p:Int))=((2*p:Nat):Int):=by rw[aH (by omega) (by omega)]; omega
 have hw2:IntKind.i64.wrap (((2*p:Nat):Int)+2)=((2*p+2:Nat):Int):=by rw[aH (by omega) (by omega)]; omega
 refine aq aa Try.func73 rfl rfl rfl ?_;refine z13 ?_;refine dQ [13] [0] iM ?_;refine z2 ?_;refine dQ [16] [72] iB ?_;refine dQ [14,17] [1] (dq (κ:=Int) (ν:=Int) (enc:=i6) (encV:=i6) (m:=pl) hp keyI Try.underlying74 fk rfl rfl rfl) ?_;refine yA (ed (m:=((2*p:Nat):Int)) aa rfl rfl hw) ?_;refine z31 ?_;refine dQ [32] [0] iM ?_;refine z2 ?_;refine dQ [35] [72] iB ?_;refine yA (yK (gG o.op.data hd)) ?_;refine dQ [33,37] [2] (dq (κ:=List UInt8) (ν:=Int) (enc:=bc) (encV:=i6) (m:=vs) (k:=o.op.data) hv keyB Try.underlying75 fk rfl rfl rfl) ?_;refine z5 ?_;refine dQ [39] [64] iB ?_;refine z1 ?_;refine yA (yy (hi:=2*p) (m:=x.array.take (2*p)) aa rfl rfl rfl (by omega) rfl) ?_;refine z1 ?_;refine yA (eX (a:=nv) (s:=8) (m:=nv/256) rfl rfl (by decide) rfl) ?_;refine yA (aR aa rfl rfl rfl (cj _)) ?_;refine z1 ?_;refine yA (aR aa rfl rfl rfl (cj _)) ?_;refine yA (ab.frozen (ae (s:=1) aa rfl rfl rfl rfl rfl rfl rfl rfl) (Frz.lits2 (enc:=cN) ((UInt8.ofNat (nv/256)).toNat:Int) ((UInt8.ofNat nv).toNat:Int) rfl rfl rfl rfl)) ?_;refine yA (gZ (l:=dJ nv) aa rfl rfl rfl rfl) ?_;refine yA (og (m:=x.array.take (2*p)++dJ nv) rfl rfl (by simp[dJ]; omega) rfl) ?_;refine z1 ?_;refine dQ [51] [64] iB ?_;refine z1 ?_;refine yA (bM (m:=((2*p+2:Nat):Int)) aa rfl rfl hw2) ?_;refine yA (sB (lo:=2*p+2) (m:=x.array.drop (2*p+2)) aa rfl rfl rfl ha rfl) ?_;refine yA (og (m:=x.array.take (2*p)++dJ nv++x.array.drop (2*p+2)) rfl rfl (by simp[dJ]; omega) rfl) ?_;refine z1 ?_;refine bj [57,56] [64] (aG aa rfl rfl rfl ⟨_,⟨_,⟨_,⟨rfl,rfl,rfl⟩,rfl⟩,rfl⟩,rfl⟩ rfl) ?_;refine z11 ?_
 exact⟨trivial,_,rfl,[],lg zV ⟨zR,zM,zM,trivial⟩⟩
end Go.Proofs.Ytmdgmolbamlicaa
namespace Go.Proofs.Ytmdgmolbamlicaa
open Go.Eng Go.Plain
set_option maxHeartbeats 32000000
set_option maxRecDepth 20000
def plN (pl:IMap) (i:Int):Nat:=((getA pl i).getD 0).toNat
def valN (vs:BMap) (v:List UInt8):Nat:=((getA vs v).getD 0).toNat
def hapS (p:Prep) (x:LSt) (o:HOp):LSt×Bool :=
 if o.op.kind=3 then ({ x with durable:=x.array },true)
 else if o.op.kind=2 then ({ x with array:=x.array.take (2*plN p.pl o.op.index)++dJ (valN p.vs o.op.data)++x.array.drop (2*plN p.pl o.op.index+2) },true)
 else if bf o=true then (x,decide ((x.array.drop (2*plN p.pl o.op.index)).take 2=dJ (valN p.vs o.value)))
 else (x,true)
def tkB (t:List UInt8) (j:Int):Bool:=decide (0<(((t[j.toNat]?).getD 0).toNat:Int))
def msB (t:List UInt8) (j:Int):Bool:=decide ((((t[j.toNat]?).getD 0).toNat:Int)=0)
def im (p:Prep) (x:LSt) (k:Nat) (i:Int):Bool:=(getA p.st i).getD false||(tkB x.taken k||(((getA p.af i).getD []).any (tkB x.taken)||((getA p.ah i).getD []).any (msB x.taken)))
abbrev QS:=KMap×List LSt
def il (t:List UInt8) (k:Nat):List UInt8:=t.take k++[1]++t.drop (k+1)
def opS (p:Prep) (l:List HOp) (x:LSt) (k:Nat) (i:Int) (a:QS×List aF):QS×List aF :=
 if im p x k i=true then a
 else if (hapS p x (opN l i.toNat)).2=true then ((addS a.1 { (hapS p x (opN l i.toNat)).1 with taken:=il x.taken k }).1,a.2++[⟨i,(addS a.1 { (hapS p x (opN l i.toNat)).1 with taken:=il x.taken k }).2⟩])
 else a
def da (p:Prep) (l:List HOp) (x:LSt):List Int→Nat→QS×List aF→QS×List aF
 | [],_,a=>a
 | i::z,k,a=>da p l x z (k+1) (opS p l x k i a)
def zOf (p:Prep) (k:Int):List Int:=(p.ops[k.toNat]?).getD []
def ny (p:Prep) (l:List HOp) (e:Nat) (x:LSt) (a:QS×List aF):QS×List aF :=
 if decide (x.era+1<(e:Int))=true then
  if jH l p.lo (zOf p x.era) x=true then ((addS a.1 ⟨x.era+1,cQ (zOf p (x.era+1)).length,x.durable,x.durable⟩).1,a.2++[⟨-1,(addS a.1 ⟨x.era+1,cQ (zOf p (x.era+1)).length,x.durable,x.durable⟩).2⟩])
  else a
 else a
def cC (p:Prep) (l:List HOp) (e:Nat) (x:LSt) (q:QS):QS×List aF:=ny p l e x (da p l x (zOf p x.era) 0 (q,[]))
structure OpOk (p:Prep) (o:HOp):Prop where
 kind:o.op.kind=1∨o.op.kind=2∨o.op.kind=3
 pl:o.op.kind≠3→plN p.pl o.op.index<p.pl.length
 data:o.op.kind=2→o.op.data.length=32
structure POk (l:List HOp) (e:Nat) (p:Prep):Prop where
 len:p.ops.length=e
 pln:p.pl.length≤8192
 pl0:∀k,0≤(getA p.pl k).getD 0∧(getA p.pl k).getD 0≤8192
 vs0:∀k,0≤(getA p.vs k).getD 0
 zl:∀z∈p.ops,z.length≤8192
 row:∀z∈p.ops,∀i∈z,0≤i∧∃o,l[i.toNat]?=some o∧OpOk p o
 af:∀z∈p.ops,∀i∈z,∀j∈(getA p.af i).getD [],0≤j∧j<z.length
 ah:∀z∈p.ops,∀i∈z,∀j∈(getA p.ah i).getD [],0≤j∧j<z.length
 afl:∀z∈p.ops,∀i∈z,((getA p.af i).getD []).length≤8192
 ahl:∀z∈p.ops,∀i∈z,((getA p.ah i).getD []).length≤8192
structure SOk (p:Prep) (e:Nat) (x:LSt):Prop where
 era:0≤x.era∧x.era<e
 tk:x.taken.length=(zOf p x.era).length
 ar:x.array.length=2*p.pl.length
 du:x.durable.length=2*p.pl.length
theorem POk.z {l:List HOp} {e:Nat} {p:Prep} (P:POk l e p) {k:Nat} (hk:k<e):p.ops[k]?=some (zOf p k):=by
 have h:k<p.ops.length:=by rw[P.len]; exact hk
 rw[zOf,Int.toNat_natCast,List.getElem?_eq_getElem h]; rfl
theorem POk.zm {l:List HOp} {e:Nat} {p:Prep} (P:POk l e p) {k:Nat} (hk:k<e):zOf p k∈p.ops:=List.mem_of_getElem? (P.z hk)
theorem ww {l:List HOp} {e:Nat} {p:Prep} {x:LSt} {o:HOp} (P:POk l e p) (S:SOk p e x) (O:OpOk p o):SOk p e (hapS p x o).1:=by
 unfold hapS
 by_cases h3:o.op.kind=3
 ·rw[if_pos h3]; exact⟨S.era,S.tk,S.ar,S.ar⟩
 ·rw[if_neg h3]
  have hp:=O.pl h3
  by_cases h2:o.op.kind=2
  ·rw[if_pos h2]
   refine⟨S.era,S.tk,?_,S.du⟩
   have:=S.ar
   simp only[List.length_append,List.length_take,List.length_drop,dJ,List.length_cons,List.length_nil]
   omega
  ·rw[if_neg h2]; split <;> exact S
theorem p6 {t:List UInt8} {k:Nat} (h:k<t.length):(il t k).length=t.length:=by
 simp[il]; omega
theorem ub {q:QS} {x y:LSt} (h:y∈(addS q x).1.2):y=x∨y∈q.2:=by
 unfold addS at h
 split at h
 ·exact .inr h
 ·rcases List.mem_append.1 h with h | h
  ·exact .inr h
  ·exact .inl (List.mem_singleton.1 h)
theorem mD (q:QS) (x:LSt):q.2.length≤(addS q x).1.2.length∧(addS q x).1.2.length≤q.2.length+1:=by
 unfold addS
 split <;> simp
theorem oh {p:Prep} {e:Nat} {q:QS} {x:LSt} (h:∀y∈q.2,SOk p e y) (hx:SOk p e x):∀y∈(addS q x).1.2,SOk p e y:=fun y hy=>by
 rcases ub hy with rfl | hy
 ·exact hx
 ·exact h y hy
theorem BR (p:Prep) (l:List HOp) (x:LSt) (k:Nat) (i:Int) (a:QS×List aF):a.1.2.length≤(opS p l x k i a).1.2.length∧(opS p l x k i a).1.2.length≤a.1.2.length+1:=by
 unfold opS
 split
 ·omega
 ·split
  ·exact mD _ _
  ·omega
theorem qy (p:Prep) (l:List HOp) (x:LSt):∀(z:List Int) (k:Nat) (a:QS×List aF),a.1.2.length≤(da p l x z k a).1.2.length∧(da p l x z k a).1.2.length≤a.1.2.length+z.length
 | [],_,a=>by simp[da]
 | i::z,k,a=>by
  have h1:=qy p l x z (k+1) (opS p l x k i a)
  have h2:=BR p l x k i a
  unfold da
  rw[List.length_cons]
  omega
theorem qx (p:Prep) (l:List HOp) (e:Nat) (x:LSt) (q:QS):q.2.length≤(cC p l e x q).1.2.length∧(cC p l e x q).1.2.length≤q.2.length+(zOf p x.era).length+1:=by
 have h1:=qy p l x (zOf p x.era) 0 (q,[])
 unfold cC ny
 simp only at h1
 split
 ·split
  ·have h2:=mD (da p l x (zOf p x.era) 0 (q,[])).1 ⟨x.era+1,cQ (zOf p (x.era+1)).length,x.durable,x.durable⟩
   simp only
   omega
  ·omega
 ·omega
theorem Db {l:List HOp} {e:Nat} {p:Prep} {x:LSt} {k:Nat} {i:Int} {a:QS×List aF} (P:POk l e p) (S:SOk p e x) (hi:(zOf p x.era)[k]?=some i) (h:∀y∈a.1.2,SOk p e y):∀y∈(opS p l x k i a).1.2,SOk p e y:=by
 obtain⟨e0,e1⟩:=S.era
 obtain⟨n,hn⟩:∃n:Nat,x.era=n:=⟨x.era.toNat,by omega⟩
 have hm:=P.zm (k:=n) (by omega)
 rw[hn]at hi
 obtain⟨i0,o,ho,hO⟩:=P.row _ hm i (List.mem_of_getElem? hi)
 have hop:opN l i.toNat=o:=by rw[opN,ho]; rfl
 have hkl:=(List.getElem?_eq_some_iff.1 hi).1
 unfold opS
 split
 ·exact h
 ·split
  ·refine oh h ?_
   rw[hop]
   have hS:=ww P S hO
   have htk:k<x.taken.length:=by rw[S.tk,hn]; exact hkl
   have hera:(hapS p x o).1.era=x.era:=by unfold hapS; split <;> (try split) <;> (try split) <;> rfl
   exact⟨hS.era,by simp only; rw[p6 htk,S.tk,hera],hS.ar,hS.du⟩
  ·exact h
theorem s7 {l:List HOp} {e:Nat} {p:Prep} {x:LSt} (P:POk l e p) (S:SOk p e x):∀(z:List Int) (k:Nat) (a:QS×List aF),(zOf p x.era).drop k=z→(∀y∈a.1.2,SOk p e y)→∀y∈(da p l x z k a).1.2,SOk p e y
 | [],_,a,_,h=>h
 | i::z,k,a,hz,h=>by
  have hi:(zOf p x.era)[k]?=some i:=by
   have:=congrArg (fun l=>l[0]?) hz
   simpa using this
  refine s7 P S z (k+1) _ ?_ (Db P S hi h)
  have:=congrArg List.tail hz
  simpa using this
theorem s6 {l:List HOp} {e:Nat} {p:Prep} {x:LSt} {q:QS} (P:POk l e p) (S:SOk p e x) (h:∀y∈q.2,SOk p e y):∀y∈(cC p l e x q).1.2,SOk p e y:=by
 have h1:=s7 P S (zOf p x.era) 0 (q,[]) (by simp) h
 unfold cC ny
 obtain⟨e0,e1⟩:=S.era
 split
 ·rename_i hd
  have hd:=of_decide_eq_true hd
  split
  ·exact oh h1 ⟨⟨by simp only; omega,hd⟩,by simp[cQ],S.du,S.du⟩
  ·exact h1
 ·exact h1
def fc (p:Prep) (l:List HOp) (e:Nat) (fuel:Int):Nat→Nat→QS→List (List aF)→Option (QS×List (List aF))
 | 0,_,_,_=>none
 | n+1,at_,q,sp=>match q.2[at_]? with
  | none=>if fuel<(q.2.length:Int) then none else some (q,sp)
  | some x=>if fuel<(q.2.length:Int) then none else fc p l e fuel n (at_+1) (cC p l e x q).1 (sp++[(cC p l e x q).2])
def dD (p:Prep):LSt:=⟨0,cQ (zOf p 0).length,cQ (2*p.pl.length),cQ (2*p.pl.length)⟩
def kR (p:Prep) (l:List HOp) (e:Nat) (fuel:Int):Option (QS×List (List aF)):=fc p l e fuel (fuel.toNat+2) 0 (addS ([],[]) (dD p)).1 []
abbrev cg (l:List HOp) (b e:Int) (p:Prep) (sp:List (List aF)) (q:QS) (r:Nat):List (Nat×Row):=[(0,sBox l b e (.own 3 0 p.ops.length 1 none) (.own r 0 q.2.length 4 none) (.own 10 0 sp.length 1 none)),(1,fV p.pl),(2,g8 p.vs),(3,fF p.ops),(4,cR p.af),(5,cR p.ah),(6,eu p.lo),(7,eu p.st),(8,kRow q.1),(r,yC q.2),(10,yM sp)]
end Go.Proofs.Ytmdgmolbamlicaa
namespace Go.Proofs.Ytmdgmolbamlicaa
open Go.Eng Go.Plain
set_option maxHeartbeats 32000000
set_option maxRecDepth 20000
set_option maxRecDepth 20000
theorem kC {l:List HOp} {b e:Int} {p:Prep} {sp:List (List aF)} {q:QS} {x y:LSt} {o:HOp} {c:Bool} (h:FnIs Try.prog 73 [.ptr 0 [],.d (bQ x),.d (a9 o)] (ie l b e p.ops sp q.2.length p.pl p.vs) (.tup (.acons (.d (bQ y)) (.acons (.bool c) .anil))) (ie l b e p.ops sp q.2.length p.pl p.vs)) :
  FnIs Try.prog 73 [.ptr 0 [],.d (bQ x),.d (a9 o)] (cg l b e p sp q 9) (.tup (.acons (.d (bQ y)) (.acons (.bool c) .anil))) (cg l b e p sp q 9):=
 FnIs.frame [] h (by intro v hv; simp only[List.mem_cons,List.not_mem_nil,or_false]at hv; rcases hv with rfl | rfl | rfl <;> exact⟨rfl,rfl⟩) ⟨zH,zN,zN,trivial⟩ rfl
  (lg zV ⟨zR,zM,zM,zR,zM,zM,zM,zM,zM,zR,zR,trivial⟩)
theorem Dr (l:List HOp) (b:Int) (e:Nat) (p:Prep) (sp:List (List aF)) (q:QS) (x:LSt) (o:HOp) (P:POk l e p) (S:SOk p e x) (O:OpOk p o):FnIs Try.prog 73 [.ptr 0 [],.d (bQ x),.d (a9 o)] (cg l b e p sp q 9) (.tup (.acons (.d (bQ (hapS p x o).1)) (.acons (.bool (hapS p x o).2) .anil))) (cg l b e p sp q 9):=by
 obtain⟨p0,p1⟩:=P.pl0 o.op.index
 have hp:(getA p.pl o.op.index).getD 0=((plN p.pl o.op.index:Nat):Int):=by rw[plN]; omega
 have hpl:plN p.pl o.op.index≤1048576:=by rw[plN]; omega
 have hal:x.array.length≤1048576000:=by have:=S.ar; have:=P.pln; omega
 have hval:∀v,(getA p.vs v).getD 0=((valN p.vs v:Nat):Int):=fun v=>by have:=P.vs0 v; rw[valN]; omega
 unfold hapS
 by_cases h3:o.op.kind=3
 ·rw[if_pos h3]
  exact kC (Ds l b e p.ops sp q.2.length p.pl p.vs x o _ h3 hp hpl)
 ·rw[if_neg h3]
  have ha:2*plN p.pl o.op.index+2≤x.array.length:=by have:=O.pl h3; have:=S.ar; omega
  by_cases h2:o.op.kind=2
  ·rw[if_pos h2]
   exact kC (Do l b e p.ops sp q.2.length p.pl p.vs x o _ _ h2 (O.data h2) hal hp hpl (hval _) ha)
  ·rw[if_neg h2]
   have h1:o.op.kind=1:=by rcases O.kind with h | h | h <;> first | exact h | exact absurd h h2 | exact absurd h h3
   cases hm:bf o with
   | true =>
    rw[if_pos rfl]
    exact kC (Dp l b e p.ops sp q.2.length p.pl p.vs x o _ _ h1 hm hp hpl (hval _) ha)
   | false =>
    rw[if_neg (by decide)]
    exact kC (Dq l b e p.ops sp q.2.length p.pl p.vs x o _ h1 hm hp hpl)
theorem sq (l:List HOp) (b e:Int) (p:Prep) (sp:List (List aF)) (q:QS) (x:LSt) (hlen:q.2.length+1≤1048576):FnIs Try.prog 39 [.ptr 0 [],.d (bQ x)] (cg l b e p sp q 9) (.int .i64 (addS q x).2) (cg l b e p sp (addS q x).1 64):=
 FnIs.frame [(64,some 64)] (DN l b e p.ops sp q x hlen) (by intro v hv; simp only[List.mem_cons,List.not_mem_nil,or_false]at hv; rcases hv with rfl | rfl <;> exact⟨rfl,rfl⟩) ⟨zH,zH,zN,zH,zH,trivial⟩ rfl
  (lg zV ⟨zR,zM,zM,zR,zM,zM,zM,zM,zM,zR,zR,trivial⟩)
theorem s5 (l:List HOp) (b:Int) (e:Nat) (p:Prep) (sp:List (List aF)) (q:QS) (P:POk l e p) (k:Nat) (hk:k<e):FnIs Try.prog 40 [.ptr 0 [],.int .i64 k] (cg l b e p sp q 9) (.d (strD (cQ (zOf p k).length))) (cg l b e p sp q 9):=
 FnIs.frame [] (BU l b e p.ops sp q k (zOf p k) (P.z hk) (by have:=P.zl _ (P.zm hk); omega)) (by intro v hv; simp only[List.mem_cons,List.not_mem_nil,or_false]at hv; rcases hv with rfl | rfl <;> exact⟨rfl,rfl⟩) ⟨zH,zH,zN,zH,zH,trivial⟩ rfl
  (lg zV ⟨zR,zM,zM,zR,zM,zM,zM,zM,zM,zR,zR,trivial⟩)
theorem pv (l:List HOp) (b:Int) (e:Nat) (p:Prep) (sp:List (List aF)) (q:QS) (x:LSt) (P:POk l e p) (S:SOk p e x):FnIs Try.prog 74 [.ptr 0 [],.d (bQ x)] (cg l b e p sp q 9) (.bool (jH l p.lo (zOf p x.era) x)) (cg l b e p sp q 9):=by
 obtain⟨e0,e1⟩:=S.era
 obtain⟨n,hn⟩:∃n:Nat,x.era=n:=⟨x.era.toNat,by omega⟩
 have hne:n<e:=by omega
 have hm:=P.zm hne
 rw[hn]
 refine FnIs.frame [] (Ca l b e p.ops sp p.lo q x n (zOf p n) hn (P.z hne) (by have:=P.zl _ hm; omega) (by rw[S.tk,hn]) (fun i hi=>by obtain⟨h1,o,h2,_⟩:=P.row _ hm i hi; exact⟨o,h2,h1⟩)) (by intro v hv; simp only[List.mem_cons,List.not_mem_nil,or_false]at hv; rcases hv with rfl | rfl <;> exact⟨rfl,rfl⟩) ⟨zN,zH,zH,zN,zH,zH,trivial⟩ rfl
  (lg zV ⟨zR,zM,zM,zR,zM,zM,zM,zM,zM,zR,zR,trivial⟩)
end Go.Proofs.Ytmdgmolbamlicaa
namespace Go.Proofs.Ytmdgmolbamlicaa
open Go.Eng Go.Plain
set_option maxHeartbeats 32000000
set_option maxRecDepth 20000
attribute [local irreducible] WC RegS RegD SeqQ BlkQ ScoQ RegK CutK Sat SatN FnIs LoopQ ab OpIs
def ixI (p:Int→Bool) (l:List Int) (i:Nat):Int:=match l with
 | [] => -1
 | o::l=>if p o=true then (i:Int) else ixI p l (i+1)
theorem wt (p:Int→Bool):∀(l:List Int) (i:Nat),decide (0≤ixI p l i)=l.any p
 | [],i=>rfl
 | o::l,i=>by
  unfold ixI
  rw[List.any_cons]
  cases h:p o with
  | true=>simp
  | false=>simp only[Bool.false_eq_true,if_false,Bool.false_or]; exact wt p l (i+1)
theorem AA {p:Int→Bool} {l:List Int} {i:Nat} {o:Int} (h:l[i]?=some o):ixI p (l.drop i) i=if p o=true then (i:Int) else ixI p (l.drop (i+1)) (i+1):=by
 have hlt:=(List.getElem?_eq_some_iff.1 h).1
 rw[List.drop_eq_getElem_cons hlt,(List.getElem?_eq_some_iff.1 h).2]
 rfl
abbrev ik (x:LSt):List (Nat×Row):=[(0,.box 105 (.d (bQ x)))]
theorem CB (x:LSt) (j:Int) (h0:0≤j) (h1:j<x.taken.length):FnIs Try.prog 70 [.int .i64 j,.ptr 0 []] (ik x) (.bool (tkB x.taken j)) (ik x):=by
 obtain⟨c,hc⟩:∃c,x.taken[j.toNat]?=some c:=⟨_,List.getElem?_eq_getElem (by omega)⟩
 have hc2:(mkS x.taken)[j.toNat]?=some c:=rI hc
 rw[tkB,hc]
 refine aq aa Try.func70 rfl rfl rfl ?_;refine z10 ?_;refine rQ (kB (v:=(c.toNat:Int)) aa rfl rfl rfl (by omega) hc2 rfl) ?_;refine z5 ?_
 exact⟨trivial,[],lg zV ⟨zR,trivial⟩⟩
theorem Fc (x:LSt) (j:Int) (h0:0≤j) (h1:j<x.taken.length):FnIs Try.prog 71 [.int .i64 j,.ptr 0 []] (ik x) (.bool (msB x.taken j)) (ik x):=by
 obtain⟨c,hc⟩:∃c,x.taken[j.toNat]?=some c:=⟨_,List.getElem?_eq_getElem (by omega)⟩
 have hc2:(mkS x.taken)[j.toNat]?=some c:=rI hc
 rw[msB,hc]
 refine aq aa Try.func71 rfl rfl rfl ?_;refine z10 ?_;refine rQ (kB (v:=(c.toNat:Int)) aa rfl rfl rfl (by omega) hc2 rfl) ?_;refine z5 ?_
 exact⟨trivial,[],lg zV ⟨zR,trivial⟩⟩
theorem Dl (l:List Int) (g:Nat) (x:LSt) (p:Int→Bool) (hL:l.length≤9223372036854775807) (hp:∀o∈l,FnIs Try.prog g [.int .i64 o,.ptr 0 []] (ik x) (.bool (p o)) (ik x)):FnIs Try.prog 84 [.d (encL l),.fn (.func g) .anil (.acons (.ptr 0 []) .anil)] (ik x) (.int .i64 (ixI p l 0)) (ik x):=by
 refine aq aa Try.func84 rfl rfl rfl ?_;refine z14 ?_
 refine wc_inv (fun k:Nat=>⟨[(8,.int .i64 k),(7,.int .i64 l.length),(0,.d (encL l)),(1,.fn (.func g) .anil (.acons (.ptr 0 []) .anil))],aw (ik x),72,Try.f84.ntmps,64⟩) (fun k=>k≤l.length∧ixI p (l.drop k) k=ixI p l 0) (fun k=>l.length-k) 0 [] ⟨Nat.zero_le _,by rw[List.drop_zero]⟩
  (lg zi ⟨zR,trivial⟩) ?_
 rintro k ⟨hk,hix⟩
 refine bt ?_
 by_cases hlt:k<l.length
 ·have d1:decide ((k:Int)<(l.length:Int))=true:=dT (by omega)
  obtain⟨o,ho⟩:∃o,l[k]?=some o:=⟨_,List.getElem?_eq_getElem hlt⟩
  have ho2:l[((k:Int)).toNat]?=some o:=by rw[Int.toNat_natCast]; exact ho
  rw[AA ho]at hix
  refine z24 ?_;refine aC (aS [(0,some 0)] (hp o (List.mem_of_getElem? ho)) rfl rfl rfl (aE (aT rfl rfl au)) ⟨zH,trivial⟩ rfl rfl (.inl rfl) rfl rfl) rfl ?_;refine z2 ?_
  cases hpo:p o with
  | true =>
   rw[hpo,if_pos rfl]at hix
   rw[←hix]
   refine z13 ?_
   exact⟨trivial,[],lg zV ⟨zR,trivial⟩⟩
  | false =>
   rw[hpo,if_neg (by decide)]at hix
   refine z8 ?_
   exact an (k+1) [] ⟨hlt,hix⟩ (by omega) (lg zi ⟨zR,trivial⟩)
 ·have d1:decide ((k:Int)<(l.length:Int))=false:=dF (by omega)
  have he:k=l.length:=by omega
  subst he
  rw[List.drop_length]at hix
  rw[←hix]
  refine z18 ?_
  exact⟨trivial,[],lg zV ⟨zR,trivial⟩⟩
theorem Bb (l:List Int) (g:Nat) (x:LSt) (p:Int→Bool) (hL:l.length≤9223372036854775807) (hp:∀o∈l,FnIs Try.prog g [.int .i64 o,.ptr 0 []] (ik x) (.bool (p o)) (ik x)):FnIs Try.prog 72 [.d (encL l),.fn (.func g) .anil (.acons (.ptr 0 []) .anil)] (ik x) (.bool (l.any p)) (ik x):=by
 have hix:=Dl l g x p hL hp
 rw[←wt p l 0]
 refine aq aa Try.func72 rfl rfl rfl ?_;refine z9 ?_;refine aC (aS [(0,some 0)] hix rfl rfl rfl (aE (cU rfl rfl au)) ⟨zH,trivial⟩ rfl rfl (.inl rfl) rfl rfl) rfl ?_;refine z5 ?_
 exact⟨trivial,[],lg zV ⟨zR,trivial⟩⟩
end Go.Proofs.Ytmdgmolbamlicaa
