/- Texts of the proof: YQ4, Y38, Y39, Y40, YE, YF, YC, YC2, YG3, YG4, YK, Y41, Y42, Y43, YX1, YX2, YX3, YX4, YX5, Y44. -/
import Derived.Test.YtmdgmolbamlicaaG06
import Derived.Test.YtmdgmolbamlicaaG05

set_option linter.unusedVariables false
set_option linter.unusedSimpArgs false
set_option linter.unusedSectionVars false
set_option maxRecDepth 10000

namespace Go.Proofs.Ytmdgmolbamlicaa
open Go.Eng Go.Plain
set_option maxHeartbeats 32000000
set_option maxRecDepth 20000
section
variable {l : List HOp} {n e : Nat} {p : Prep} {ks : List Int} {kv : List (List UInt8)}
theorem Sc.sok (S:Sc l n e p ks kv) {s:RS} (h:RG l n e p ks kv s):SOk p e (encS p ks s):=
 ⟨⟨h.ok.e0,h.era⟩,by simp[encS,tkE],by show (arE _ _ _).length=_; rw[wU,S.F.pl,ff],by show (arE _ _ _).length=_; rw[wU,S.F.pl,ff]⟩
structure Sim (l:List HOp) (n e:Nat) (p:Prep) (ks:List Int) (kv:List (List UInt8)) (L:List RS) (q:QS):Prop where
 map:q.2=L.map (encS p ks)
 ok:QOk p e q
 all:∀s∈L,RG l n e p ks kv s
theorem Sim.len {L:List RS} {q:QS} (M:Sim l n e p ks kv L q):q.2.length=L.length:=by rw[M.map,List.length_map]
theorem Sim.get {L:List RS} {q:QS} (M:Sim l n e p ks kv L q) {k:Nat} {s:RS} (h:L[k]?=some s):q.2[k]?=some (encS p ks s):=by rw[M.map,List.getElem?_map,h]; rfl
theorem iq {a b:RS}:gy a b=true↔a=b:=by
 cases a; cases b
 simp[gy]
theorem Sim.add (S:Sc l n e p ks kv) {L:List RS} {q:QS} (M:Sim l n e p ks kv L q) {t:RS} (ht:RG l n e p ks kv t):Sim l n e p ks kv (rAdd L t) (addS q (encS p ks t)).1:=by
 obtain⟨a1,a2,a3,a4⟩:=mE M.ok (S.sok ht)
 by_cases hm:t∈L
 ·have h1:rAdd L t=L:=by
   rw[rAdd,if_pos]
   exact List.any_eq_true.2 ⟨t,hm,iq.2 rfl⟩
  obtain⟨k,hk⟩:=List.mem_iff_getElem?.1 hm
  have h2:(addS q (encS p ks t)).1=q:=by
   unfold addS
   rw[M.ok.uq k _ (M.get hk)]
  rw[h1,h2]
  exact M
 ·have h1:rAdd L t=L++[t]:=by
   rw[rAdd,if_neg]
   intro h
   obtain⟨x,hx,hs⟩:=List.any_eq_true.1 h
   exact hm (iq.1 hs ▸ hx)
  have h2:(addS q (encS p ks t)).1.2=q.2++[encS p ks t]:=by
   unfold addS
   cases hg:getA q.1 (encS p ks t) with
   | none=>rfl
   | some v =>
    have h3:=(M.ok.kn _ _ hg).2
    rw[M.map,List.getElem?_map]at h3
    cases hx:L[v.toNat]? with
    | none=>rw[hx]at h3; cases h3
    | some x =>
     rw[hx]at h3
     have h4:=S.enc_inj (M.all x (List.mem_of_getElem? hx)) ht (Option.some.inj h3)
     exact absurd (h4 ▸ List.mem_of_getElem? hx) hm
  refine⟨by rw[h1,h2,M.map,List.map_append]; rfl,a1,?_⟩
  rw[h1]
  intro s hs
  rcases List.mem_append.1 hs with hs | hs
  ·exact M.all s hs
  ·rw[List.mem_singleton.1 hs]; exact ht
theorem xv (s:RS) (l:List HOp) (i:Nat) (o:HOp) (L:List RS):L.length≤(jG s l i o L).length:=by
 unfold jG
 split
 ·exact (jQ _ _).1
 ·exact Nat.le_refl _
theorem qi {most:Nat} (l:List HOp) (s:RS):∀(r:List HOp) (i:Nat) (L:List RS),L.length≤(ek most l s r i L).length
 | [],_,_=>Nat.le_refl _
 | o::r,i,L=>by
  rw[ek]
  split
  ·exact Nat.le_trans (xv s l i o L) (qi l s r (i+1) _)
  ·exact Nat.le_refl _
theorem sU (l:List HOp) (e:Int) (s:RS) (L:List RS):L.length≤(rCra l e s L).length:=by
 unfold rCra
 split
 ·exact (jQ _ _).1
 ·exact Nat.le_refl _
theorem qj {most:Nat} (l:List HOp) (e:Int) (s:RS) (L:List RS):L.length≤(lY most l e s L).length:=Nat.le_trans (qi l s l 0 L) (sU l e s _)
theorem sT {most:Nat} (l:List HOp) (e:Int):∀(m k:Nat) (L:List RS),L.length≤(rStG most l e m k L).length
 | 0,_,_=>Nat.le_refl _
 | m+1,k,L=>by
  rw[rStG]
  split
  ·exact Nat.le_refl _
  ·split
   ·exact Nat.le_trans (qj l e _ L) (sT l e m (k+1) _)
   ·exact Nat.le_refl _
theorem lN {s:RS} {l:List HOp} {i:Nat} {o:HOp} (h:takB s l i o=false):aL s l i o=(s,false):=by rw[aL,h]; rfl
theorem Sc.ops (S:Sc l n e p ks kv) {most:Nat} {s:RS} (h:RG l n e p ks kv s):∀(r:List HOp) (i k:Nat) (L:List RS) (a:QS×List aF),l.drop i=r→(zOf p s.era).drop k=zs (selI (eraB s.era.toNat (fun o=>mayB o n)) r i)→Sim l n e p ks kv L a.1 →
  (ek most l s r i L).length≤most→Sim l n e p ks kv (ek most l s r i L) (da p l (encS p ks s) (zs (selI (eraB s.era.toNat (fun o=>mayB o n)) r i)) k a).1
 | [],i,k,L,a,_,_,M,_=>M
 | o::r,i,k,L,a,hr,hz,M,hle=>by
  have e0:=h.ok.e0
  have hLm:L.length≤most:=by
   by_cases hc:L.length≤most
   ·exact hc
   ·rw[ek,if_neg hc]at hle; exact hle
  have ho:l[i]?=some o:=by
   have:=congrArg (fun x=>x[0]?) hr
   simpa using this
  have hr2:l.drop (i+1)=r:=by
   have:=congrArg List.tail hr
   simpa using this
  rw[ek,if_pos hLm]at hle ⊢
  cases hP:eraB s.era.toNat (fun o=>mayB o n) o with
  | false =>
   have h1:jG s l i o L=L:=by
    have:takB s l i o=false:=by
     rw[eraB,Bool.and_eq_false_iff]at hP
     unfold takB
     rw[h.ok.al]
     rcases hP with hP | hP
     ·rw[dF (by have:=of_decide_eq_false hP; omega)]; rfl
     ·rw[hP]; simp
    rw[jG,lN this]; exact if_neg Bool.false_ne_true
   have hs:selI (eraB s.era.toNat (fun o=>mayB o n)) (o::r) i=selI (eraB s.era.toNat (fun o=>mayB o n)) r (i+1):=by rw[selI,if_neg (by rw[hP]; decide)]
   rw[hs]at hz ⊢
   rw[h1]at hle ⊢
   exact S.ops h r (i+1) k L a hr2 hz M hle
  | true =>
   have hs:selI (eraB s.era.toNat (fun o=>mayB o n)) (o::r) i=i::selI (eraB s.era.toNat (fun o=>mayB o n)) r (i+1):=by rw[selI,if_pos hP]
   rw[hs]at hz ⊢
   rw[eraB,Bool.and_eq_true,decide_eq_true_eq]at hP
   have he:o.era=s.era:=by omega
   have hk:(zOf p s.era)[k]?=some (i:Int):=by
    have:=congrArg (fun x=>x[0]?) hz
    simpa[zs]using this
   have hz2:(zOf p s.era).drop (k+1)=zs (selI (eraB s.era.toNat (fun o=>mayB o n)) r (i+1)):=by
    have:=congrArg List.tail hz
    simpa[zs]using this
   have hsk:=S.skip h hk ho he hP.2
   show Sim l n e p ks kv _ (da p l (encS p ks s) ((i:Int)::zs (selI (eraB s.era.toNat (fun o=>mayB o n)) r (i+1))) k a).1
   rw[da]
   refine S.ops h r (i+1) (k+1) _ _ hr2 hz2 ?_ hle
   unfold opS jG
   rw[Int.toNat_natCast,ep ho]
   cases ht:takB s l i o with
   | false =>
    rw[ht]at hsk
    have hsk:im p (encS p ks s) k i=true:=by simpa using hsk.symm
    rw[if_pos hsk,lN ht]
    exact M
   | true =>
    rw[ht]at hsk
    have hsk:im p (encS p ks s) k i=false:=by simpa using hsk.symm
    obtain⟨t1,t2,t3⟩:=S.take h hk ho he hP.2 ht
    rw[if_neg (c:=im p (encS p ks s) k (i:Int)=true) (by rw[hsk]; decide),←t2,←t1]
    cases (aL s l i o).2 with
    | true=>exact M.add S t3
    | false=>exact M
theorem Sc.next (S:Sc l n e p ks kv) {most:Nat} {s:RS} (h:RG l n e p ks kv s) {L:List RS} {q:QS} (M:Sim l n e p ks kv L q) (hle:(lY most l e s L).length≤most) :
  Sim l n e p ks kv (lY most l e s L) (cC p l e (encS p ks s) q).1:=by
 have e0:=h.ok.e0
 have hz:zOf p s.era=zs (mayI l n s.era.toNat):=S.z e0 h.era
 have h1:(ek most l s l 0 L).length≤most:=Nat.le_trans (sU l e s _) hle
 have h2:=S.ops h l 0 0 L (q,[]) (by simp) (by rw[List.drop_zero,hz]; rfl) M h1
 have hx:zOf p (encS p ks s).era=zs (selI (eraB s.era.toNat (fun o=>mayB o n)) l 0):=hz
 unfold lY cC ny rCra
 rw[hx,←show zOf p s.era=zs (selI (eraB s.era.toNat (fun o=>mayB o n)) l 0) from hz,S.full h,show zOf p s.era=zs (selI (eraB s.era.toNat (fun o=>mayB o n)) l 0) from hz]
 have hd:decide ((encS p ks s).era+1<(e:Int))=decide (s.era<(e:Int)-1):=by
  show decide (s.era+1<(e:Int))=_
  by_cases hc:s.era+1<(e:Int)
  ·rw[dT hc,dT (by omega)]
  ·rw[dF hc,dF (by omega)]
 rw[hd]
 cases hc:decide (s.era<(e:Int)-1) with
 | false =>
  exact h2
 | true =>
  rw[Bool.true_and]
  cases bp s l 0 with
  | true =>
   have hc:=of_decide_eq_true hc
   have h3:=h2.add S (h.crash (by omega) S.el)
   rw[mZ]at h3
   exact h3
  | false=>exact h2
theorem Sc.srch (S:Sc l n e p ks kv) {most:Nat} {fuel:Int} (h0:0≤fuel) (R:List RS) (hR:R.length≤most):∀(N k:Nat) (L:List RS) (q:QS) (sp:List (List aF)) (M:Nat),rStG most l e N k L=R→most+2≤N+k→Sim l n e p ks kv L q→k≤L.length→fuel.toNat+2≤M+k →
  (fuel<(R.length:Int)→fc p l e fuel M k q sp=none)∧((R.length:Int)≤fuel→∃q' sp',fc p l e fuel M k q sp=some (q',sp')∧Sim l n e p ks kv R q')
 | 0,k,L,q,sp,M,hN,h1,_,hk,_=>by
  rw[rStG]at hN
  subst hN
  omega
 | N+1,k,L,q,sp,M,hN,h1,hS,hk,hM=>by
  rw[rStG]at hN
  cases hL:L[k]? with
  | none =>
   rw[hL]at hN
   simp only at hN
   subst hN
   have hq:q.2[k]?=none:=by rw[hS.map,List.getElem?_map,hL]; rfl
   have hkl:=List.getElem?_eq_none_iff.1 hL
   cases M with
   | zero=>exact⟨fun _=>rfl,fun h=>by omega⟩
   | succ M =>
    rw[fc,hq]
    simp only
    rw[hS.len]
    refine⟨fun h=>by rw[if_pos h],fun h=>⟨q,sp,by rw[if_neg (by omega)],hS⟩⟩
  | some s =>
   rw[hL]at hN
   simp only at hN
   have hlt:=(List.getElem?_eq_some_iff.1 hL).1
   by_cases hLm:L.length≤most
   ·rw[if_pos hLm]at hN
    have h2:(lY most l e s L).length≤R.length:=hN ▸ sT l e N (k+1) _
    have h3:=qj (most:=most) l e s L
    have hs:=hS.all s (List.mem_of_getElem? hL)
    have hq:=hS.get hL
    cases M with
    | zero=>exact⟨fun _=>rfl,fun h=>by omega⟩
    | succ M =>
     rw[fc,hq]
     simp only
     rw[hS.len]
     by_cases hf:fuel<(L.length:Int)
     ·rw[if_pos hf]
      exact⟨fun _=>rfl,fun h=>by omega⟩
     ·rw[if_neg hf]
      exact S.srch h0 R hR N (k+1) _ _ _ M hN (by omega) (S.next hs hS (by omega)) (by omega) (by omega)
   ·rw[if_neg hLm]at hN
    subst hN
    exact absurd hR hLm
theorem Sc.states (S:Sc l n e p ks kv) {most:Nat} (he:0<e) (hR:(cw most l n e).length≤most) {fuel:Int} (h0:0≤fuel) :
  (fuel<((cw most l n e).length:Int)→kR p l e fuel=none)∧(((cw most l n e).length:Int)≤fuel→∃q sp,kR p l e fuel=some (q,sp)∧Sim l n e p ks kv (cw most l n e) q):=by
 have h1:Sim l n e p ks kv [] ([],[]):=⟨rfl,⟨fun _ h=>(by cases h),fun _ _ h=>(by cases h),fun _ _ h=>(by simp at h)⟩,fun _ h=>(by cases h)⟩
 have h2:=h1.add S (S.first he)
 rw[S.enc_first]at h2
 have h3:rAdd [] (am n)=[am n]:=rfl
 rw[h3]at h2
 exact S.srch h0 _ hR (most+2) 0 [am n] _ [] _ rfl (by omega) h2 (by simp) (by omega)
end
end Go.Proofs.Ytmdgmolbamlicaa
namespace Go.Proofs.Ytmdgmolbamlicaa
open Go.Eng Go.Plain
set_option maxHeartbeats 32000000
set_option maxRecDepth 20000
attribute [local irreducible] WC RegS RegD SeqQ BlkQ ScoQ RegK CutK Sat SatN FnIs LoopQ ab OpIs
abbrev stR (L:List RS):Row :=.ds 59 4 false cP L
theorem anyD {α:Type} (p:α→Bool) {l:List α} {k:Nat} {x:α} (h:l[k]?=some x):(l.drop k).any p=(p x||(l.drop (k+1)).any p):=by
 have hlt:=(List.getElem?_eq_some_iff.1 h).1
 rw[List.drop_eq_getElem_cons hlt,(List.getElem?_eq_some_iff.1 h).2,List.any_cons]
theorem wb (L:List RS) (t:RS) (n:Nat) (hL:LOk n L) (ht:RSOk n t) (htk:t.taken.length≤1000000) (hn:n≤1000000) (hl:L.length+1≤1048576):FnIs Try.prog 59 [.own 9 0 L.length 4 none,.d (cP t)] [(9,stR L)] (.own 64 0 (rAdd L t).length 4 none) [(64,stR (rAdd L t))]:=by
 refine aq aa Try.func59 rfl rfl rfl ?_;refine z13 ?_
 refine wc_inv (fun k:Nat=>⟨[(5,.int .i64 k),(3,.ptr 64 []),(0,.own 9 0 L.length 4 none)],[(9,some (stR L)),(64,some (fR t))],72,Try.f59.ntmps,64⟩) (fun k=>k≤L.length∧(L.drop k).any (fun x=>gy x t)=L.any (fun x=>gy x t)) (fun k=>L.length-k) 0 [(64,some 64)] ⟨Nat.zero_le _,rfl⟩
  (lg zj ⟨zR,zR,trivial⟩) ?_
 rintro k ⟨hk,hd⟩
 refine bt ?_
 by_cases hlt:k<L.length
 ·have d1:decide ((k:Int)<(L.length:Int))=true:=dT (by omega)
  obtain⟨x,hx⟩:∃x,L[k]?=some x:=⟨_,List.getElem?_eq_getElem hlt⟩
  have hx2:L[((k:Int)).toNat]?=some x:=by rw[Int.toNat_natCast]; exact hx
  have ho:=hL.ok k x hx
  have hsa:=yU x t n ho.al ht.al ho.dl ht.dl (by omega) (by have:=hL.tk k x hx; omega) (by omega)
  rw[anyD _ hx]at hd
  refine z19 ?_;refine dQ [14] [9] (aX (v :=.d (cP x)) aa rfl rfl ⟨rfl,x,hx2,cP x,rfl,rfl⟩ rfl) ?_;refine dQ [3] [64] iM ?_;refine z4 ?_
  cases h2:gy x t with
  | true =>
   rw[h2,Bool.true_or]at hd
   rw[h2]at hsa
   rw[rAdd,if_pos hd.symm]
   refine z13 ?_
   exact⟨trivial,[(64,some 9)],lg zV ⟨zR,trivial⟩⟩
  | false =>
   rw[h2,Bool.false_or]at hd
   rw[h2]at hsa
   refine z9 ?_
   exact an (k+1) [(64,some 64)] ⟨hlt,hd⟩ (by omega) (lg zj ⟨zR,zR,trivial⟩)
 ·have d1:decide ((k:Int)<(L.length:Int))=false:=dF (by omega)
  rw[List.drop_eq_nil_of_le (by omega),List.any_nil]at hd
  rw[rAdd,if_neg (by rw[←hd]; decide)]
  refine z19 ?_;refine aO (ae (s:=4) aa rfl rfl rfl rfl rfl rfl rfl rfl) rfl ?_;refine aC (aJ (s:=4) (enc:=cP) (xs:=L) aa t rfl rfl rfl rfl rfl rfl rfl rfl rfl hl rfl) rfl ?_;refine z4 ?_
  exact⟨trivial,[(64,some _)],lg ⟨⟨_,rfl,ownl (by simp)⟩,rfl,trivial⟩ ⟨zR,trivial⟩⟩
theorem BF {t:TypeId} {s:Nat} {ex:Bool} {α:Type} {enc:α→D} {xs:List α}:aM (.ds t s ex enc xs) (.ds t s false enc xs):=by
 intro σ w X r h
 rcases h with h | ⟨b,c,cur,h1,_,h3⟩
 ·exact .inl h
 ·exact .inr ⟨b,c,cur,h1,(fun h=>by cases h),h3⟩
theorem xX {n:Nat}:aM (.lits 59 4 1 true (.acons (.d (cP (am n))) .anil)) (stR [am n]):=fun σ w X r h=>BF σ w X r (aM.lits_ds (xs:=[am n]) (enc:=cP) (fun _=>rfl) rfl σ w X r h)
theorem zA {most:Nat} {l:List HOp} {s:RS} {i:Nat} {L:List RS} (h:¬(i<l.length∧L.length≤most)):ek most l s (l.drop i) i L=L:=by
 by_cases h1:i<l.length
 ·exact uQ _ (fun h2=>h ⟨h1,h2⟩)
 ·rw[List.drop_eq_nil_of_le (by omega)]; rfl
theorem sH (h:List HEv) (n most:Nat) (l:List HOp) (hop:FnIs Try.prog 28 [.d (encH h)] [] (.d (bS l)) []) (hL:l.length≤1000000) (hn:n≤1000000) (hm:most≤900000) (hh:h.length≤100000):FnIs Try.prog 27 [.d (encH h),.int .i64 n,.int .i64 most] [] (.own 64 0 (cw most l n (ao h)).length 4 none) [(64,stR (cw most l n (ao h)))]:=by
 have hfi:=kk n (by omega)
 have her:=sN h (by omega)
 have hel:ao h≤100001:=by have:=List.countP_le_length (p:=fun x:HEv=>decide (x.kind=3)) (l:=h); unfold ao; omega
 refine aq aa Try.func27 rfl rfl rfl ?_;refine z16 ?_;refine aO (ae (s:=4) aa rfl rfl rfl rfl rfl rfl rfl rfl) rfl ?_;refine z10 ?_
 refine wc_inv (fun q:Nat×List RS=>⟨[(9,.int .i64 q.1),(8,.own 65 0 q.2.length 4 none),(7,.d (bS l)),(2,.int .i64 most),(1,.int .i64 n),(0,.d (encH h))],[(65,some (stR q.2))],72,Try.f27.ntmps,64⟩) (fun q=>q.1≤q.2.length∧q.1≤most+1∧LOk n q.2∧q.2.length≤most+2∧rStG most l (ao h) (most+2-q.1) q.1 q.2=cw most l n (ao h)) (fun q=>most+2-q.1) (0,[am n]) [(65,some _)] ⟨Nat.zero_le _,Nat.zero_le _,⟨fun j s hj=>by
   rcases j with _ | j
   ·cases hj; exact .first n
   ·simp at hj,fun j s hj=>by
   rcases j with _ | j
   ·cases hj; exact Nat.zero_le _
   ·simp at hj⟩,by simp only[List.length_cons,List.length_nil]; omega,rfl⟩
  (lg zg ⟨⟨rfl,rfl,_,rfl,xX⟩,trivial⟩) ?_
 rintro⟨k,L⟩ ⟨hk,hkm,hok,hlm,hg⟩
 simp only at hk hkm hok hlm hg
 obtain⟨m,hm2⟩:∃m,most+2-k=m+1:=⟨most+1-k,by omega⟩
 rw[hm2,rStG]at hg
 refine bt ?_
 by_cases hlt:k<L.length∧L.length≤most
 ·obtain⟨h1,h2⟩:=hlt
  have c1:(decide ((k:Int)<(L.length:Int))&&decide ((L.length:Int)≤(most:Int)))=true:=by rw[dT (by omega),dT (by omega)]; rfl
  obtain⟨s,hs⟩:∃x,L[k]?=some x:=⟨_,List.getElem?_eq_getElem h1⟩
  rw[hs]at hg
  simp only at hg
  rw[if_pos h2,lY]at hg
  have hso:=hok.ok k s hs
  have hst:=hok.tk k s hs
  refine z1 ?_;refine fC 27 (.bool (decide ((k:Int)<(L.length:Int))&&decide ((L.length:Int)≤(most:Int)))) _ rfl ?_ ?_
  ·refine z5 ?_
   refine gp rfl rfl rfl (fun hb=>?_) (fun hb=>?_)
   refine z9 ?_
   rotate_left
   refine z5 ?_
   rotate_left
   all_goals refine ko 10 rfl rfl rfl rfl rfl rfl rfl rfl rfl (AVLe.of_eq ?_)
   all_goals (first | rfl | (clear q5; simp_all; done) | (simp_all; done) | (simp_all; omega))
  refine z12 ?_
  refine wc_inv (fun q:Nat×List RS=>⟨[(10,.int .i64 q.1),(9,.int .i64 k),(8,.own 65 0 q.2.length 4 none),(7,.d (bS l)),(2,.int .i64 most),(1,.int .i64 n),(0,.d (encH h))],[(65,some (stR q.2))],72,Try.f27.ntmps,64⟩) (fun q=>q.1≤l.length∧LOk n q.2∧q.2.length≤most+1∧q.2[k]?=some s∧ek most l s (l.drop q.1) q.1 q.2=ek most l s l 0 L) (fun q=>l.length-q.1) (0,L) [(65,some 65)] ⟨Nat.zero_le _,hok,by simp only; omega,hs,rfl⟩
   (lg zf ⟨zR,trivial⟩) ?_
  rintro⟨i,L2⟩ ⟨hi,hok2,hlm2,hs1,hg2⟩
  simp only at hi hok2 hlm2 hs1 hg2
  have hkl2:=(List.getElem?_eq_some_iff.1 hs1).1
  have hkl3:k<((i,L2):Nat×List RS).2.length:=hkl2
  have hs2:L2[((k:Int)).toNat]?=some s:=by rw[Int.toNat_natCast]; exact hs1
  have hs3:L2[((k:Int)).toNat]?=some s:=hs2
  refine bt ?_
  by_cases hlt2:i<l.length∧L2.length≤most
  ·obtain⟨h3,h4⟩:=hlt2
   have c2:(decide ((i:Int)<(l.length:Int))&&decide ((L2.length:Int)≤(most:Int)))=true:=by rw[dT (by omega),dT (by omega)]; rfl
   obtain⟨o,ho⟩:∃x,l[i]?=some x:=⟨_,List.getElem?_eq_getElem h3⟩
   rw[uR ho,if_pos h4]at hg2
   have htk:=lP s l i o n ho hso hn hL (by omega)
   refine z1 ?_;refine fC 39 (.bool (decide ((i:Int)<(l.length:Int))&&decide ((L2.length:Int)≤(most:Int)))) _ rfl ?_ ?_
   ·refine z5 ?_
    refine gp rfl rfl rfl (fun hb=>?_) (fun hb=>?_)
    refine z9 ?_
    rotate_left
    refine z5 ?_
    rotate_left
    all_goals refine ko 10 rfl rfl rfl rfl rfl rfl rfl rfl rfl (AVLe.of_eq ?_)
    all_goals (first | rfl | (clear q5; simp_all; done) | (simp_all; done) | (simp_all; omega))
   refine z10 ?_;refine rQ (aX (v :=.d (cP s)) aa rfl rfl ⟨rfl,s,hs2,cP s,rfl,rfl⟩ rfl) ?_;refine z17 ?_
   cases h5:(aL s l i o).2 with
   | true =>
    obtain⟨h6,h7⟩:=Bw hn hso h5
    have had:=wb L2 (aL s l i o).1 n hok2 h6 (by omega) hn (by omega)
    have hal:=jQ L2 (aL s l i o).1
    rw[jG,h5,if_pos rfl]at hg2
    refine z4 ?_;refine aC (aS [(9,some 65)] had rfl rfl rfl (iV rfl rfl (aE au)) ⟨zH,trivial⟩ rfl rfl (.inl rfl) rfl rfl) rfl ?_;refine z9 ?_
    exact an (i+1,rAdd L2 (aL s l i o).1) [(65,some _)] ⟨h3,hok2.add h6 (by omega),by simp only; omega,zL hs1,hg2⟩ (by show l.length-(i+1)<l.length-i; omega) (lg zf ⟨zR,trivial⟩)
   | false =>
    rw[jG,h5,if_neg (by decide)]at hg2
    refine z9 ?_
    exact an (i+1,L2) [(65,some 65)] ⟨h3,hok2,hlm2,hs1,hg2⟩ (by show l.length-(i+1)<l.length-i; omega) (lg zf ⟨zR,trivial⟩)
  ·rw[zA hlt2]at hg2
   rw[←hg2]at hg
   have hfu:=oI s l (by omega) (by omega)
   have hsw:IntKind.i64.wrap (((ao h:Nat):Int)-1)=(ao h:Int)-1:=aH (by omega) (by omega)
   have hL1:L2.length≤most+1:=hlm2
   have c2:(decide ((i:Int)<(l.length:Int))&&decide ((L2.length:Int)≤(most:Int)))=false:=by
    cases h3:decide ((i:Int)<(l.length:Int)) with
    | false=>rfl
    | true=>exact dF fun h4=>hlt2 ⟨by have:=of_decide_eq_true h3; omega,by omega⟩
   refine z1 ?_;refine fC 39 (.bool (decide ((i:Int)<(l.length:Int))&&decide ((L2.length:Int)≤(most:Int)))) _ rfl ?_ ?_
   ·refine z5 ?_
    refine gp rfl rfl rfl (fun hb=>?_) (fun hb=>?_)
    refine z9 ?_
    rotate_left
    refine z5 ?_
    rotate_left
    all_goals refine ko 10 rfl rfl rfl rfl rfl rfl rfl rfl rfl (AVLe.of_eq ?_)
    all_goals (first | rfl | (clear q5; simp_all; done) | (simp_all; done) | (simp_all; omega))
   refine z12 ?_;refine dQ [60] [65] (aX (v :=.d (i6 s.era)) aa rfl rfl ⟨rfl,s,hs3,i6 s.era,rfl,rfl⟩ rfl) ?_;refine z5 ?_
   cases h6:decide (s.era<(ao h:Int)-1) with
   | false =>
    rw[rCra,h6,Bool.false_and,if_neg (by decide)]at hg
    refine z19 ?_
    exact an (k+1,L2) [(65,some 65)] ⟨by simp only; omega,by simp only; omega,hok2,by simp only; omega,by simp only; rw[show most+2-(k+1)=m by omega]; exact hg⟩ (by show most+2-(k+1)<most+2-k; omega) (lg zg ⟨zR,trivial⟩)
   | true =>
   cases h7:bp s l 0 with
   | false =>
    rw[h7]at hfu
    rw[rCra,h6,h7,Bool.and_false,if_neg (by decide)]at hg
    refine z3 ?_;refine aD [66,69] [65] rfl rfl rfl rfl (aX (v :=.d (cP s)) aa rfl rfl ⟨rfl,s,hs3,cP s,rfl,rfl⟩ rfl) ?_;refine z15 ?_
    exact an (k+1,L2) [(65,some 65)] ⟨by simp only; omega,by simp only; omega,hok2,by simp only; omega,by simp only; rw[show most+2-(k+1)=m by omega]; exact hg⟩ (by show most+2-(k+1)<most+2-k; omega) (lg zg ⟨zR,trivial⟩)
   | true =>
    rw[h7]at hfu
    rw[rCra,h6,h7,Bool.and_true,if_pos rfl]at hg
    have h8:=of_decide_eq_true h6
    have h9:RSOk n (aI s):=hso.crash (by omega)
    have hcr:=fe s (by rw[hso.dl]; omega) (aH (by have:=hso.e0; omega) (by omega))
    have had:=wb L2 (aI s) n hok2 h9 (Nat.zero_le _) hn (by omega)
    have hal:=jQ L2 (aI s)
    refine z3 ?_;refine aD [66,69] [65] rfl rfl rfl rfl (aX (v :=.d (cP s)) aa rfl rfl ⟨rfl,s,hs3,cP s,rfl,rfl⟩ rfl) ?_;refine z12 ?_;refine rQ (aX (v :=.d (cP s)) aa rfl rfl ⟨rfl,s,hs3,cP s,rfl,rfl⟩ rfl) ?_;refine z1 ?_;refine aC (aS [(9,some 65)] had rfl rfl rfl (iV rfl rfl (aE au)) ⟨zH,trivial⟩ rfl rfl (.inl rfl) rfl rfl) rfl ?_;refine z9 ?_
    exact an (k+1,rAdd L2 (aI s)) [(65,some _)] ⟨by simp only; omega,by simp only; omega,hok2.add h9 (Nat.zero_le _),by simp only; omega,by simp only; rw[show most+2-(k+1)=m by omega]; exact hg⟩ (by show most+2-(k+1)<most+2-k; omega) (lg zg ⟨zR,trivial⟩)
 ·have hR:cw most l n (ao h)=L:=by
   rw[←hg]
   cases hs:L[k]? with
   | none=>rfl
   | some s=>simp only; rw[if_neg fun h2=>hlt ⟨(List.getElem?_eq_some_iff.1 hs).1,h2⟩]
  rw[hR]
  have c1:(decide ((k:Int)<(L.length:Int))&&decide ((L.length:Int)≤(most:Int)))=false:=by
   cases h3:decide ((k:Int)<(L.length:Int)) with
   | false=>rfl
   | true=>exact dF fun h4=>hlt ⟨by have:=of_decide_eq_true h3; omega,by omega⟩
  refine z1 ?_;refine fC 27 (.bool (decide ((k:Int)<(L.length:Int))&&decide ((L.length:Int)≤(most:Int)))) _ rfl ?_ ?_
  ·refine z5 ?_
   refine gp rfl rfl rfl (fun hb=>?_) (fun hb=>?_)
   refine z9 ?_
   rotate_left
   refine z5 ?_
   rotate_left
   all_goals refine ko 10 rfl rfl rfl rfl rfl rfl rfl rfl rfl (AVLe.of_eq ?_)
   all_goals (first | rfl | (clear q5; simp_all; done) | (simp_all; done) | (simp_all; omega))
  refine z13 ?_
  exact⟨trivial,[(64,some 65)],lg zV ⟨zR,trivial⟩⟩
theorem uH (h:List HEv) (n most:Nat) (l:List HOp) (hop:FnIs Try.prog 28 [.d (encH h)] [] (.d (bS l)) []) (hL:l.length≤1000000) (hn:n≤1000000) (hm:most≤900000) (hh:h.length≤100000):FnIs Try.prog 27 [.d (encH h),.int .i64 n,.int .i64 most] [] (.d (.arr 4 cP (cw most l n (ao h)))) []:=
 (sH h n most l hop hL hn hm hh).freeze_out 64 _ rfl (Frz.own rfl) trivial
theorem Dh (x:List XE) {b:Int} (h0:1≤b) (h1:b≤4096):lH (hOf x) b=opsR (hOf x):=by
 rw[lH,opL,if_pos (rF x h0 h1),oZ]
theorem ve (x:List XE) {n:Nat} (h0:1≤n) (h1:n≤4096) {R:List RS} (hR:cw 5000 (opsR (hOf x)) n (ao (hOf x))=R) (hm:R.length≤5000) {fuel:Int} (hf0:0≤fuel) (hf1:fuel≤6000) :
  (fuel<(R.length:Int)→cv (hOf x) n fuel=(0,4)∧bO (hOf x) n fuel=(([],false),4))∧((R.length:Int)≤fuel→cv (hOf x) n fuel=((R.length:Int),0)∧(bO (hOf x) n fuel).2=0):=by
 have hE:=rF x (b:=n) (by omega) (by omega)
 have hL:=Dh x (b:=n) (by omega) (by omega)
 have hh:=kD x
 have hll:(opsR (hOf x)).length≤24:=Nat.le_trans (ft _) hh
 have hel:ao (hOf x)≤25:=by have:=List.countP_le_length (p:=fun x:HEv=>decide (x.kind=3)) (l:=hOf x); unfold ao; omega
 obtain⟨ks,kv,F⟩:=dP (opsR (hOf x)) n (ao (hOf x))
 have S:=Sc.of F (by omega) (by omega) (by omega)
 obtain⟨a1,a2⟩:=S.states (most:=5000) (dG (hOf x)) (by rw[hR]; exact hm) hf0
 rw[hR]at a1 a2
 have hsr:gg (hOf x) n fuel=kR (cn (opsR (hOf x)) n (ao (hOf x))) (opsR (hOf x)) (ao (hOf x)) fuel:=by rw[gg,pH,hL]
 unfold cv bO
 rw[if_pos hE,if_pos hE,if_neg (by omega),if_neg (by omega),hsr]
 refine⟨fun h=>?_,fun h=>?_⟩
 ·rw[a1 h]
  exact⟨rfl,rfl⟩
 ·obtain⟨q,sp,b1,b2⟩:=a2 h
  rw[b1]
  exact⟨by simp only[b2.len],rfl⟩
theorem rL (x:List XE) (n:UInt8) (less:Int) (hl0 : -128≤less) (hl1:less≤127):FnIs Try.prog 13 [.d (j5 x),.int .u8 (n.toNat:Nat),.int .i8 less] [] (.bool true) []:=by
 refine aq aa Try.func13 rfl rfl rfl ?_
 by_cases h16:16<x.length
 ·have d0:decide ((16:Int)<(x.length:Int))=true:=dT (by omega)
  refine z18 ?_;refine rQ (yK cZ) ?_;refine z5 ?_
  exact⟨trivial,[],lf⟩
 have d0:decide ((16:Int)<(x.length:Int))=false:=dF (by omega)
 have hm4:n.toNat % 4<4:=Nat.mod_lt _ (by decide)
 have hwc:IntKind.i64.wrap ((n.toNat % 4:Nat):Int)=((n.toNat % 4:Nat):Int):=aH (by omega) (by omega)
 have hwa:IntKind.i64.wrap (1+((n.toNat % 4:Nat):Int))=((1+n.toNat % 4:Nat):Int):=by rw[aH (by omega) (by omega)]; omega
 have hwl:IntKind.i64.wrap less=less:=aH (by omega) (by omega)
 have hof:=n6 x
 have hh:=kD x
 have hol:=ft (hOf x)
 obtain⟨N,hN⟩:∃N,N=1+n.toNat % 4:=⟨_,rfl⟩
 have hkey:=fun R hR hm fuel=>ve x (n:=N) (by omega) (by omega) (R:=R) hR hm (fuel:=fuel)
 have hrun:=fun fuel:Int=>fun h0:fuel≤6000=>fE (hOf x) N fuel (by omega) (.inl (by omega)) (fun _=>by
  have:fuel.toNat*((hOf x).length+1)≤6000*25:=Nat.mul_le_mul (by omega) (by omega)
  omega)
 have hrs:=uH (hOf x) N 5000 (opsR (hOf x)) (lQ _ (by omega)) (by omega) (by omega) (by omega) (by omega)
 rw[←hN]at hwa
 generalize cw 5000 (opsR (hOf x)) N (ao (hOf x))=R at hkey hrs
 have hkey:=hkey R rfl
 generalize hOf x=h at hof hkey hrs hrun
 refine z23 ?_;refine rQ (aZ (a:=n.toNat) (b:=4) aa rfl rfl rfl (by decide)) ?_;refine rQ (aR (m:=((n.toNat % 4:Nat):Int)) aa rfl rfl rfl hwc) ?_;refine rQ (bM (m:=(N:Int)) aa rfl rfl hwa) ?_;refine z20 ?_
 by_cases hw:5000<R.length
 ·have d1:decide ((5000:Int)<(R.length:Int))=true:=dT (by omega)
  refine z3 ?_;refine rQ (yK cZ) ?_;refine z5 ?_
  exact⟨trivial,[],lf⟩
 have d1:decide ((5000:Int)<(R.length:Int))=false:=dF (by omega)
 have hwf:IntKind.i64.wrap ((R.length:Int)+less)=(R.length:Int)+less:=aH (by omega) (by omega)
 obtain⟨fuel,hmax⟩:∃f,max ((R.length:Int)+less) 0=f:=⟨_,rfl⟩
 have hf0:0≤fuel:=by omega
 have hf1:fuel≤6000:=by omega
 obtain⟨k1,k2⟩:=hkey (by omega) fuel hf0 hf1
 have R3:=hrun fuel hf1
 have hst:=gm R3
 have hfi:=jp R3
 have hle:=iC R3
 clear hkey hrun R3
 by_cases hc:fuel<(R.length:Int)
 ·have d2:decide (fuel<(R.length:Int))=true:=dT hc
  have n1:(decide ((4:Int)=4) !=decide (fuel<(R.length:Int)))=false:=by rw[d2]; rfl
  obtain⟨a1,a2⟩:=k1 hc
  rw[a1]at hst
  rw[a2]at hfi hle
  refine z7 ?_;refine rQ (aR (m:=less) aa rfl rfl rfl hwl) ?_;refine rQ (bM (m:=(R.length:Int)+less) aa rfl rfl hwf) ?_;refine rQ (wm (m:=fuel) rfl rfl hmax) ?_
  iterate 2 refine z60 ?_
  refine z6 ?_;refine rQ (yK cZ) ?_;refine z5 ?_
  exact⟨trivial,[],lf⟩
 ·have d2:decide (fuel<(R.length:Int))=false:=dF hc
  have n1:(decide ((0:Int)=4) !=decide (fuel<(R.length:Int)))=false:=by rw[d2]; rfl
  obtain⟨a1,a2⟩:=k2 (by omega)
  rw[a1]at hst
  rw[a2]at hfi hle
  have d3:decide ((R.length:Int)=(R.length:Int))=true:=dT rfl
  refine z7 ?_;refine rQ (aR (m:=less) aa rfl rfl rfl hwl) ?_;refine rQ (bM (m:=(R.length:Int)+less) aa rfl rfl hwf) ?_;refine rQ (wm (m:=fuel) rfl rfl hmax) ?_;refine z60 ?_;refine z55 ?_;refine rQ (yK cZ) ?_;refine z5 ?_
  exact⟨trivial,[],lf⟩
end Go.Proofs.Ytmdgmolbamlicaa
namespace Go.Proofs.Ytmdgmolbamlicaa
open Go.Eng Go.Plain
set_option maxHeartbeats 32000000
set_option maxRecDepth 20000
def rSt1 (s:RS) (l:List HOp) (i:Nat) (o:HOp):List (Int×RS):=if (aL s l i o).2 then[((i:Int),(aL s l i o).1)] else[]
def rStO (l:List HOp) (s:RS):List HOp→Nat→List (Int×RS)
 | [],_=>[]
 | o::r,i=>rSt1 s l i o++rStO l s r (i+1)
def rStC (l:List HOp) (e:Int) (s:RS):List (Int×RS):=if decide (s.era<e-1)&&bp s l 0 then[(-1,aI s)] else[]
def b9 (l:List HOp) (e:Int) (s:RS):List (Int×RS):=rStO l s l 0++rStC l e s
theorem zy {s:RS} {l:List HOp} {i:Nat} {o:HOp} {x:Int×RS}:x∈rSt1 s l i o↔(aL s l i o).2=true∧x=((i:Int),(aL s l i o).1):=by
 unfold rSt1
 split
 ·rename_i h; simp[h]
 ·rename_i h; simp[h]
theorem sS {s:RS} {l:List HOp} {x:Int×RS}:∀(r:List HOp) (i:Nat),l.drop i=r→(x∈rStO l s r i ↔ ∃(j:Nat) (o:HOp),i≤j∧l[j]?=some o∧(aL s l j o).2=true∧x=((j:Int),(aL s l j o).1))
 | [],i,h=>by
  have hl:l.length≤i:=List.drop_eq_nil_iff.1 h
  simp only[rStO,List.not_mem_nil,false_iff]
  rintro⟨j,o,h1,h2,_⟩
  have:=(List.getElem?_eq_some_iff.1 h2).1
  omega
 | o::r,i,h=>by
  have ho:l[i]?=some o:=by
   have:=congrArg (fun x=>x[0]?) h
   simpa using this
  have hr:l.drop (i+1)=r:=by
   have:=congrArg List.tail h
   simpa using this
  rw[rStO,List.mem_append,zy,sS r (i+1) hr]
  constructor
  ·rintro (⟨h1,h2⟩ | ⟨j,o',h1,h2⟩)
   ·exact⟨i,o,Nat.le_refl _,ho,h1,h2⟩
   ·exact⟨j,o',by omega,h2⟩
  ·rintro⟨j,o',h1,h2,h3⟩
   by_cases hj:j=i
   ·subst hj
    rw[ho]at h2; cases h2
    exact .inl h3
   ·exact .inr ⟨j,o',by omega,h2,h3⟩
theorem bd {s:RS} {l:List HOp} {e:Int} {x:Int×RS}:x∈b9 l e s↔(∃(j:Nat) (o:HOp),l[j]?=some o∧(aL s l j o).2=true∧x=((j:Int),(aL s l j o).1))∨(s.era<e-1∧bp s l 0=true∧x=(-1,aI s)):=by
 unfold b9 rStC
 rw[List.mem_append,sS l 0 (List.drop_zero)]
 constructor
 ·rintro (⟨j,o,_,h⟩ | h)
  ·exact .inl ⟨j,o,h⟩
  ·split at h
   ·rename_i hc
    simp only[Bool.and_eq_true,decide_eq_true_eq]at hc
    exact .inr ⟨hc.1,hc.2,List.mem_singleton.1 h⟩
   ·cases h
 ·rintro (⟨j,o,h⟩ | ⟨h1,h2,h3⟩)
  ·exact .inl ⟨j,o,Nat.zero_le _,h⟩
  ·right
   rw[if_pos (by rw[dT h1,h2]; rfl),h3]
   exact List.mem_singleton.2 rfl
inductive ke (l:List HOp) (n:Nat) (e:Int):RS→Prop
 | first:ke l n e (am n)
 | step {s:RS} (x:Int×RS):ke l n e s→x∈b9 l e s→ke l n e x.2
def StL (p:Prep) (ks:List Int) (st:List LSt):List aF→List (Int×RS)→Prop
 | [],[]=>True
 | y::ys,x::xs=>(y.op=x.1∧0≤y.to∧st[y.to.toNat]?=some (encS p ks x.2))∧StL p ks st ys xs
 | _,_=>False
section
variable {l : List HOp} {n e : Nat} {p : Prep} {ks : List Int} {kv : List (List UInt8)}
theorem StL.ext {a b:List LSt} (h:Ext a b):∀ {ys:List aF} {xs:List (Int×RS)},StL p ks a ys xs→StL p ks b ys xs
 | [],[],_=>trivial
 | y::ys,x::xs,⟨⟨h1,h2,h3⟩,h4⟩=>⟨⟨h1,h2,h _ _ h3⟩,StL.ext h h4⟩
 | [],_::_,h=>h.elim
 | _::_,[],h=>h.elim
theorem StL.app {a:List LSt}:∀ {ys:List aF} {xs:List (Int×RS)} {ys':List aF} {xs':List (Int×RS)},StL p ks a ys xs→StL p ks a ys' xs'→StL p ks a (ys++ys') (xs++xs')
 | [],[],_,_,_,h=>h
 | y::ys,x::xs,_,_,⟨h1,h2⟩,h=>⟨h1,StL.app h2 h⟩
 | [],_::_,_,_,h,_=>h.elim
 | _::_,[],_,_,h,_=>h.elim
theorem StL.mem {a:List LSt}:∀ {ys:List aF} {xs:List (Int×RS)},StL p ks a ys xs→(∀y∈ys,∃x∈xs,y.op=x.1∧0≤y.to∧a[y.to.toNat]?=some (encS p ks x.2))∧(∀x∈xs,∃y∈ys,y.op=x.1∧0≤y.to∧a[y.to.toNat]?=some (encS p ks x.2))
 | [],[],_=>⟨fun _ h=>(by cases h),fun _ h=>(by cases h)⟩
 | y::ys,x::xs,⟨h1,h2⟩=>by
  obtain⟨a1,a2⟩:=StL.mem h2
  refine⟨fun z hz=>?_,fun z hz=>?_⟩
  ·rcases List.mem_cons.1 hz with rfl | hz
   ·exact⟨x,List.mem_cons_self,h1⟩
   ·obtain⟨w,b1,b2⟩:=a1 z hz
    exact⟨w,List.mem_cons_of_mem _ b1,b2⟩
  ·rcases List.mem_cons.1 hz with rfl | hz
   ·exact⟨y,List.mem_cons_self,h1⟩
   ·obtain⟨w,b1,b2⟩:=a2 z hz
    exact⟨w,List.mem_cons_of_mem _ b1,b2⟩
 | [],_::_,h=>h.elim
 | _::_,[],h=>h.elim
def AllE (l:List HOp) (n e:Nat) (p:Prep) (ks:List Int) (kv:List (List UInt8)) (q:QS):Prop:=∀x∈q.2,∃s,RG l n e p ks kv s∧ke l n e s∧encS p ks s=x
theorem pO (S:Sc l n e p ks kv) {q:QS} (Q:QOk p e q) (A:AllE l n e p ks kv q) {t:RS} (ht:RG l n e p ks kv t) (hr:ke l n e t) :
  QOk p e (addS q (encS p ks t)).1∧AllE l n e p ks kv (addS q (encS p ks t)).1∧Ext q.2 (addS q (encS p ks t)).1.2∧0≤(addS q (encS p ks t)).2∧(addS q (encS p ks t)).1.2[(addS q (encS p ks t)).2.toNat]?=some (encS p ks t):=by
 obtain⟨a1,a2,a3,a4⟩:=mE Q (S.sok ht)
 refine⟨a1,fun x hx=>?_,a2,a3,a4⟩
 rcases ub hx with rfl | hx
 ·exact⟨t,ht,hr,rfl⟩
 ·exact A x hx
theorem Sc.ops2 (S:Sc l n e p ks kv) {s:RS} (h:RG l n e p ks kv s) (hR:ke l n e s):∀(r:List HOp) (i k:Nat) (a:QS×List aF),l.drop i=r→(zOf p s.era).drop k=zs (selI (eraB s.era.toNat (fun o=>mayB o n)) r i)→QOk p e a.1→AllE l n e p ks kv a.1 →
  QOk p e (da p l (encS p ks s) (zs (selI (eraB s.era.toNat (fun o=>mayB o n)) r i)) k a).1∧AllE l n e p ks kv (da p l (encS p ks s) (zs (selI (eraB s.era.toNat (fun o=>mayB o n)) r i)) k a).1∧Ext a.1.2 (da p l (encS p ks s) (zs (selI (eraB s.era.toNat (fun o=>mayB o n)) r i)) k a).1.2 ∧
  ∃ys,(da p l (encS p ks s) (zs (selI (eraB s.era.toNat (fun o=>mayB o n)) r i)) k a).2=a.2++ys∧StL p ks (da p l (encS p ks s) (zs (selI (eraB s.era.toNat (fun o=>mayB o n)) r i)) k a).1.2 ys (rStO l s r i)
 | [],i,k,a,_,_,Q,A=>⟨Q,A,Ext.refl _,[],(by simp[selI,zs,da]),trivial⟩
 | o::r,i,k,a,hr,hz,Q,A=>by
  have e0:=h.ok.e0
  have ho:l[i]?=some o:=by
   have:=congrArg (fun x=>x[0]?) hr
   simpa using this
  have hr2:l.drop (i+1)=r:=by
   have:=congrArg List.tail hr
   simpa using this
  cases hP:eraB s.era.toNat (fun o=>mayB o n) o with
  | false =>
   have h1:rSt1 s l i o=[]:=by
    have:takB s l i o=false:=by
     rw[eraB,Bool.and_eq_false_iff]at hP
     unfold takB
     rw[h.ok.al]
     rcases hP with hP | hP
     ·rw[dF (by have:=of_decide_eq_false hP; omega)]; rfl
     ·rw[hP]; simp
    rw[rSt1,lN this]; exact if_neg Bool.false_ne_true
   have hs:selI (eraB s.era.toNat (fun o=>mayB o n)) (o::r) i=selI (eraB s.era.toNat (fun o=>mayB o n)) r (i+1):=by rw[selI,if_neg (by rw[hP]; decide)]
   rw[hs]at hz ⊢
   rw[rStO,h1,List.nil_append]
   exact S.ops2 h hR r (i+1) k a hr2 hz Q A
  | true =>
   have hs:selI (eraB s.era.toNat (fun o=>mayB o n)) (o::r) i=i::selI (eraB s.era.toNat (fun o=>mayB o n)) r (i+1):=by rw[selI,if_pos hP]
   rw[hs]at hz ⊢
   rw[eraB,Bool.and_eq_true,decide_eq_true_eq]at hP
   have he:o.era=s.era:=by omega
   have hk:(zOf p s.era)[k]?=some (i:Int):=by
    have:=congrArg (fun x=>x[0]?) hz
    simpa[zs]using this
   have hz2:(zOf p s.era).drop (k+1)=zs (selI (eraB s.era.toNat (fun o=>mayB o n)) r (i+1)):=by
    have:=congrArg List.tail hz
    simpa[zs]using this
   have hsk:=S.skip h hk ho he hP.2
   have key:QOk p e (opS p l (encS p ks s) k i a).1∧AllE l n e p ks kv (opS p l (encS p ks s) k i a).1∧Ext a.1.2 (opS p l (encS p ks s) k i a).1.2∧∃ys,(opS p l (encS p ks s) k i a).2=a.2++ys∧StL p ks (opS p l (encS p ks s) k i a).1.2 ys (rSt1 s l i o):=by
    unfold opS rSt1
    rw[Int.toNat_natCast,ep ho]
    cases ht:takB s l i o with
    | false =>
     rw[ht]at hsk
     have hsk:im p (encS p ks s) k i=true:=by simpa using hsk.symm
     rw[if_pos hsk,lN ht]
     exact⟨Q,A,Ext.refl _,[],by simp,trivial⟩
    | true =>
     rw[ht]at hsk
     have hsk:im p (encS p ks s) k i=false:=by simpa using hsk.symm
     obtain⟨t1,t2,t3⟩:=S.take h hk ho he hP.2 ht
     rw[if_neg (c:=im p (encS p ks s) k (i:Int)=true) (by rw[hsk]; decide),←t2,←t1]
     cases h2:(aL s l i o).2 with
     | true =>
      obtain⟨b1,b2,b3,b4,b5⟩:=pO S Q A t3 (.step ((i:Int),(aL s l i o).1) hR (bd.2 (.inl ⟨i,o,ho,h2,rfl⟩)))
      exact⟨b1,b2,b3,[_],rfl,⟨⟨rfl,b4,b5⟩,trivial⟩⟩
     | false=>exact⟨Q,A,Ext.refl _,[],(by simp),trivial⟩
   obtain⟨k1,k2,k3,ys,k4,k5⟩:=key
   obtain⟨m1,m2,m3,zs',m4,m5⟩:=S.ops2 h hR r (i+1) (k+1) _ hr2 hz2 k1 k2
   have hn:da p l (encS p ks s) (zs (i::selI (eraB s.era.toNat (fun o=>mayB o n)) r (i+1))) k a=da p l (encS p ks s) (zs (selI (eraB s.era.toNat (fun o=>mayB o n)) r (i+1))) (k+1) (opS p l (encS p ks s) k i a):=rfl
   rw[hn]
   refine⟨m1,m2,k3.trans m3,ys++zs',by rw[m4,k4,List.append_assoc],?_⟩
   rw[rStO]
   exact (k5.ext m3).app m5
theorem Sc.next2 (S:Sc l n e p ks kv) {s:RS} (h:RG l n e p ks kv s) (hR:ke l n e s) {q:QS} (Q:QOk p e q) (A:AllE l n e p ks kv q) :
  QOk p e (cC p l e (encS p ks s) q).1∧AllE l n e p ks kv (cC p l e (encS p ks s) q).1∧Ext q.2 (cC p l e (encS p ks s) q).1.2∧StL p ks (cC p l e (encS p ks s) q).1.2 (cC p l e (encS p ks s) q).2 (b9 l e s):=by
 have e0:=h.ok.e0
 have hz:zOf p s.era=zs (mayI l n s.era.toNat):=S.z e0 h.era
 have h2:=S.ops2 h hR l 0 0 (q,[]) (by simp) (by rw[List.drop_zero,hz]; rfl) Q A
 have hx:zOf p (encS p ks s).era=zs (selI (eraB s.era.toNat (fun o=>mayB o n)) l 0):=hz
 unfold cC ny b9 rStC
 rw[hx,←show zOf p s.era=zs (selI (eraB s.era.toNat (fun o=>mayB o n)) l 0) from hz,S.full h,show zOf p s.era=zs (selI (eraB s.era.toNat (fun o=>mayB o n)) l 0) from hz]
 have hd:decide ((encS p ks s).era+1<(e:Int))=decide (s.era<(e:Int)-1):=by
  show decide (s.era+1<(e:Int))=_
  by_cases hc:s.era+1<(e:Int)
  ·rw[dT hc,dT (by omega)]
  ·rw[dF hc,dF (by omega)]
 rw[hd]
 obtain⟨k1,k2,k3,ys,k4,k5⟩:=h2
 simp only[List.nil_append]at k4
 have stay:StL p ks (da p l (encS p ks s) (zs (selI (eraB s.era.toNat (fun o=>mayB o n)) l 0)) 0 (q,[])).1.2 (da p l (encS p ks s) (zs (selI (eraB s.era.toNat (fun o=>mayB o n)) l 0)) 0 (q,[])).2 (rStO l s l 0++[]):=by rw[k4,List.append_nil]; exact k5
 cases hc:decide (s.era<(e:Int)-1) with
 | false=>exact⟨k1,k2,k3,stay⟩
 | true =>
  rw[Bool.true_and]
  cases hfu:bp s l 0 with
  | true =>
   have hc:=of_decide_eq_true hc
   obtain⟨b1,b2,b3,b4,b5⟩:=pO S k1 k2 (h.crash (by omega) S.el) (.step (-1,aI s) hR (bd.2 (.inr ⟨hc,hfu,rfl⟩)))
   rw[mZ]at b1 b2 b3 b4 b5
   refine⟨b1,b2,k3.trans b3,?_⟩
   have:StL p ks (addS (da p l (encS p ks s) (zs (selI (eraB s.era.toNat (fun o=>mayB o n)) l 0)) 0 (q,[])).1 ⟨s.era+1,cQ (zOf p (s.era+1)).length,(encS p ks s).durable,(encS p ks s).durable⟩).1.2 ((da p l (encS p ks s) (zs (selI (eraB s.era.toNat (fun o=>mayB o n)) l 0)) 0 (q,[])).2++[⟨-1,(addS (da p l (encS p ks s) (zs (selI (eraB s.era.toNat (fun o=>mayB o n)) l 0)) 0 (q,[])).1 ⟨s.era+1,cQ (zOf p (s.era+1)).length,(encS p ks s).durable,(encS p ks s).durable⟩).2⟩]) (rStO l s l 0++[(-1,aI s)]):=by
    rw[k4]
    exact (k5.ext b3).app ⟨⟨rfl,b4,by rw[mZ]; exact b5⟩,trivial⟩
   exact this
  | false=>exact⟨k1,k2,k3,stay⟩
structure SI (l:List HOp) (n e:Nat) (p:Prep) (ks:List Int) (kv:List (List UInt8)) (k:Nat) (q:QS) (sp:List (List aF)):Prop where
 ok:QOk p e q
 al:AllE l n e p ks kv q
 len:sp.length=k
 le:k≤q.2.length
 fst:q.2[0]?=some (encS p ks (am n))
 rel:∀(j:Nat) (s:RS) (ys:List aF),RG l n e p ks kv s→q.2[j]?=some (encS p ks s)→sp[j]?=some ys→StL p ks q.2 ys (b9 l e s)
theorem Sc.si0 (S:Sc l n e p ks kv) (he:0<e):SI l n e p ks kv 0 (addS ([],[]) (dD p)).1 []:=by
 have Q0:QOk p e ([],[]):=⟨fun _ h=>(by cases h),fun _ _ h=>(by cases h),fun _ _ h=>(by simp at h)⟩
 have h:=pO S Q0 (fun _ h=>(by cases h)) (S.first he) .first
 rw[S.enc_first]at h
 refine⟨h.1,h.2.1,rfl,Nat.zero_le _,?_,fun j s ys _ _ h=>by simp at h⟩
 rw[S.enc_first]; rfl
theorem Sc.si1 (S:Sc l n e p ks kv) {k:Nat} {q:QS} {sp:List (List aF)} (I:SI l n e p ks kv k q sp) {x:LSt} (hx:q.2[k]?=some x):SI l n e p ks kv (k+1) (cC p l e x q).1 (sp++[(cC p l e x q).2]):=by
 obtain⟨s,hs,hR,rfl⟩:=I.al x (List.mem_of_getElem? hx)
 obtain⟨a1,a2,a3,a4⟩:=S.next2 hs hR I.ok I.al
 have hk:=(List.getElem?_eq_some_iff.1 (a3 _ _ hx)).1
 refine⟨a1,a2,by simp[I.len],hk,a3 _ _ I.fst,fun j t ys ht hj hy=>?_⟩
 by_cases hjk:j<k
 ·rw[List.getElem?_append_left (by rw[I.len]; exact hjk)]at hy
  have hjq:j<q.2.length:=Nat.lt_of_lt_of_le hjk I.le
  have h1:=a3 _ _ (List.getElem?_eq_getElem hjq)
  rw[hj]at h1
  exact (I.rel j t ys ht (by rw[List.getElem?_eq_getElem hjq]; exact h1.symm) hy).ext a3
 ·have hjl:=(List.getElem?_eq_some_iff.1 hy).1
  rw[List.length_append,I.len]at hjl
  have hjk:j=k:=by simp at hjl; omega
  subst hjk
  rw[List.getElem?_append_right (by rw[I.len]; exact Nat.le_refl _),I.len,Nat.sub_self]at hy
  simp at hy
  subst hy
  rw[a3 _ _ hx]at hj
  have:=S.enc_inj hs ht (Option.some.inj hj)
  subst this
  exact a4
theorem Sc.siG (S:Sc l n e p ks kv) {fuel:Int}:∀(M k:Nat) (q:QS) (sp:List (List aF)) (q':QS) (sp':List (List aF)),SI l n e p ks kv k q sp→fc p l e fuel M k q sp=some (q',sp')→SI l n e p ks kv q'.2.length q' sp'
 | 0,_,_,_,_,_,_,h=>by cases h
 | M+1,k,q,sp,q',sp',I,h=>by
  rw[fc]at h
  cases hx:q.2[k]? with
  | none =>
   rw[hx]at h
   simp only at h
   split at h
   ·cases h
   ·cases h
    have h1:=List.getElem?_eq_none_iff.1 hx
    have h2:=I.le
    have:k=q.2.length:=by omega
    exact this ▸ I
  | some x =>
   rw[hx]at h
   simp only at h
   split at h
   ·cases h
   ·exact S.siG M (k+1) _ _ q' sp' (S.si1 I hx) h
theorem Sc.si (S:Sc l n e p ks kv) (he:0<e) {fuel:Int} {q:QS} {sp:List (List aF)} (h:kR p l e fuel=some (q,sp)):SI l n e p ks kv q.2.length q sp:=S.siG _ _ _ _ _ _ (S.si0 he) h
end
end Go.Proofs.Ytmdgmolbamlicaa
namespace Go.Proofs.Ytmdgmolbamlicaa
open Go.Eng Go.Plain
set_option maxHeartbeats 32000000
set_option maxRecDepth 20000
inductive EndT (l:List HOp) (e:Int):RS→Prop
 | fin {s:RS}:bp s l 0=true→s.era=e-1→EndT l e s
 | step {s:RS} (x:Int×RS):x∈b9 l e s→EndT l e x.2→EndT l e s
def jP (f:RS→Bool) (l:List HOp) (s:RS):List HOp→Nat→Bool
 | [],_=>false
 | o::r,i=>((aL s l i o).2&&f (aL s l i o).1)||jP f l s r (i+1)
def dU (l:List HOp) (e:Int):Nat→RS→Bool
 | 0,_=>false
 | N+1,s=>(bp s l 0&&(decide (s.era=e-1)||dU l e N (aI s)))||jP (dU l e N) l s l 0
def muR (l:List HOp) (e:Nat) (s:RS):Nat:=(e-s.era.toNat)*(l.length+1)-s.taken.length
theorem qk {f:RS→Bool} {s:RS} {l:List HOp}:∀(r:List HOp) (i:Nat),l.drop i=r→(jP f l s r i=true ↔ ∃(j:Nat) (o:HOp),i≤j∧l[j]?=some o∧(aL s l j o).2=true∧f (aL s l j o).1=true)
 | [],i,h=>by
  have hl:l.length≤i:=List.drop_eq_nil_iff.1 h
  simp only[jP,Bool.false_eq_true,false_iff]
  rintro⟨j,o,h1,h2,_⟩
  have:=(List.getElem?_eq_some_iff.1 h2).1
  omega
 | o::r,i,h=>by
  have ho:l[i]?=some o:=by
   have:=congrArg (fun x=>x[0]?) h
   simpa using this
  have hr:l.drop (i+1)=r:=by
   have:=congrArg List.tail h
   simpa using this
  rw[jP,Bool.or_eq_true,Bool.and_eq_true,qk r (i+1) hr]
  constructor
  ·rintro (⟨h1,h2⟩ | ⟨j,o',h1,h2⟩)
   ·exact⟨i,o,Nat.le_refl _,ho,h1,h2⟩
   ·exact⟨j,o',by omega,h2⟩
  ·rintro⟨j,o',h1,h2,h3⟩
   by_cases hj:j=i
   ·subst hj
    rw[ho]at h2; cases h2
    exact .inl h3
   ·exact .inr ⟨j,o',by omega,h2,h3⟩
section
variable {l : List HOp} {n e : Nat} {p : Prep} {ks : List Int} {kv : List (List UInt8)}
theorem Sc.zlen (S:Sc l n e p ks kv) {k:Int} (h0:0≤k) (h1:k<e):(zOf p k).length≤l.length:=by
 rw[S.z h0 h1,fj,mayI]
 exact fP _ l 0
theorem Sc.tlen (S:Sc l n e p ks kv) {s:RS} (h:RG l n e p ks kv s):s.taken.length≤l.length:=by
 rw[h.tk]
 exact Nat.le_trans (List.length_filter_le _ _) (S.zlen h.ok.e0 h.era)
theorem bW {s:RS} {l:List HOp} {i:Nat} {o:HOp} (h:(aL s l i o).2=true):takB s l i o=true:=by
 cases ht:takB s l i o with
 | true=>rfl
 | false=>rw[lN ht]at h; cases h
theorem eR {s:RS} {l:List HOp} {i:Nat} {o:HOp} (h:takB s l i o=true):o.era=s.era∧mayB o s.arr.length=true∧hasB s.taken (i:Int)=false∧hitL s o l 0=false:=by
 unfold takB at h
 simp only[Bool.and_eq_true,Bool.not_eq_true',decide_eq_true_eq]at h
 exact h
theorem Sc.rgTake (S:Sc l n e p ks kv) {s:RS} (h:RG l n e p ks kv s) {i:Nat} {o:HOp} (ho:l[i]?=some o) (ht:(aL s l i o).2=true):RG l n e p ks kv (aL s l i o).1:=by
 have ht:=bW ht
 obtain⟨h1,h2,_,_⟩:=eR ht
 rw[h.ok.al]at h2
 obtain⟨k,hk⟩:=List.mem_iff_getElem?.1 ((S.zin h.ok.e0 h.era).2 ⟨i,o,rfl,ho,h1,h2⟩)
 exact (S.take h hk ho h1 h2 ht).2.2
theorem eQ {s:RS} {l:List HOp} {i:Nat} {o:HOp}:(aL s l i o).1.era=s.era:=by
 unfold aL hapR
 split
 ·simp only
  split
  ·rfl
  ·split <;> rfl
 ·rfl
theorem yu {s:RS} {l:List HOp} {i:Nat} {o:HOp} (h:(aL s l i o).2=true):(aL s l i o).1.taken.length=s.taken.length+1:=by
 rw[aL,if_pos (bW h)]
 exact mH _ _
theorem Sc.rgSteps (S:Sc l n e p ks kv) {s:RS} (h:RG l n e p ks kv s) {x:Int×RS} (hx:x∈b9 l e s):RG l n e p ks kv x.2∧muR l e x.2<muR l e s:=by
 have e0:=h.ok.e0
 have e1:=h.era
 have ht:=S.tlen h
 rcases bd.1 hx with ⟨j,o,h1,h2,rfl⟩ | ⟨h1,h2,rfl⟩
 ·refine⟨S.rgTake h h1 h2,?_⟩
  simp only[muR,eQ,yu h2]
  have h3:l.length+1≤(e-s.era.toNat)*(l.length+1):=Nat.le_mul_of_pos_left _ (by omega)
  omega
 ·refine⟨h.crash (by omega) S.el,?_⟩
  simp only[muR,aI,List.length_nil]
  obtain⟨d,hd⟩:∃d,e-s.era.toNat=d+1:=⟨e-s.era.toNat-1,by omega⟩
  rw[show e-(s.era+1).toNat=d by omega,hd,Nat.add_mul]
  omega
theorem EndT.inv {s:RS} (h:EndT l e s):(bp s l 0=true∧s.era=(e:Int)-1)∨∃x∈b9 l e s,EndT l e x.2:=by
 cases h with
 | fin h1 h2=>exact .inl ⟨h1,h2⟩
 | step x h1 h2=>exact .inr ⟨x,h1,h2⟩
theorem Sc.endG (S:Sc l n e p ks kv):∀(N:Nat) (s:RS),RG l n e p ks kv s→muR l e s<N→(dU l e N s=true↔EndT l e s)
 | 0,s,_,h=>by omega
 | N+1,s,h,hN=>by
  have ih:∀x∈b9 l e s,(dU l e N x.2=true↔EndT l e x.2):=fun x hx=>by
   obtain⟨h1,h2⟩:=S.rgSteps h hx
   exact S.endG N x.2 h1 (by omega)
  rw[dU,Bool.or_eq_true,Bool.and_eq_true,Bool.or_eq_true,decide_eq_true_eq,qk l 0 List.drop_zero]
  constructor
  ·rintro (⟨h1,h2 | h2⟩ | ⟨j,o,_,h2,h3,h4⟩)
   ·exact .fin h1 h2
   ·by_cases he:s.era=(e:Int)-1
    ·exact .fin h1 he
    ·have hx:((-1:Int),aI s)∈b9 l e s:=bd.2 (.inr ⟨by have:=h.era; omega,h1,rfl⟩)
     exact .step _ hx ((ih _ hx).1 h2)
   ·have hx:((j:Int),(aL s l j o).1)∈b9 l e s:=bd.2 (.inl ⟨j,o,h2,h3,rfl⟩)
    exact .step _ hx ((ih _ hx).1 h4)
  ·intro hE
   rcases hE.inv with ⟨h1,h2⟩ | ⟨x,hx,h2⟩
   ·exact .inl ⟨h1,.inl h2⟩
   ·have h3:=(ih x hx).2 h2
    rcases bd.1 hx with ⟨j,o,h4,h5,rfl⟩ | ⟨h4,h5,rfl⟩
    ·exact .inr ⟨j,o,Nat.zero_le _,h4,h5,h3⟩
    ·exact .inl ⟨h5,.inr h3⟩
theorem Sc.good (S:Sc l n e p ks kv) {q:QS} {sp:List (List aF)} (I:SI l n e p ks kv q.2.length q sp) (hsp:SpOk q.2 sp):∀(N:Nat) (i:Nat) (s:RS),RG l n e p ks kv s→muR l e s<N→q.2[i]?=some (encS p ks s)→((dV p l e q.2 sp)[i]?=some true↔EndT l e s)
 | 0,_,_,_,h,_=>by omega
 | N+1,i,s,h,hN,hi=>by
  have hil:=(List.getElem?_eq_some_iff.1 hi).1
  obtain⟨ys,hys⟩:∃ys,sp[i]?=some ys:=⟨_,List.getElem?_eq_getElem (by rw[I.len]; exact hil)⟩
  have hst:=I.rel i s ys h hi hys
  obtain⟨m1,m2⟩:=hst.mem
  have hspN:spN sp (i:Int)=ys:=by rw[spN,Int.toNat_natCast,hys]; rfl
  have hstN:stN q.2 (i:Int)=encS p ks s:=by rw[stN,Int.toNat_natCast,hi]; rfl
  have hend:endB p l e (encS p ks s)=true↔(bp s l 0=true∧s.era=(e:Int)-1):=by
   unfold endB
   rw[Bool.and_eq_true,decide_eq_true_eq]
   show s.era=(e:Int)-1∧jH l p.lo (zOf p s.era) (encS p ks s)=true↔_
   rw[S.full h]
   exact⟨fun⟨a,b⟩=>⟨b,a⟩,fun⟨a,b⟩=>⟨b,a⟩⟩
  rw[tx hsp i hil,hspN,hstN,hend]
  constructor
  ·rintro (⟨h1,h2⟩ | ⟨y,hy,h1⟩)
   ·exact .fin h1 h2
   ·obtain⟨x,hx,a1,a2,a3⟩:=m1 y hy
    obtain⟨b1,b2⟩:=S.rgSteps h hx
    exact .step x hx ((S.good I hsp N _ x.2 b1 (by omega) a3).1 h1)
  ·intro hE
   rcases hE.inv with h1 | ⟨x,hx,h2⟩
   ·exact .inl h1
   ·obtain⟨y,hy,a1,a2,a3⟩:=m2 x hx
    obtain⟨b1,b2⟩:=S.rgSteps h hx
    exact .inr ⟨y,hy,(S.good I hsp N _ x.2 b1 (by omega) a3).2 h2⟩
end
end Go.Proofs.Ytmdgmolbamlicaa
namespace Go.Proofs.Ytmdgmolbamlicaa
open Go.Eng Go.Plain
set_option maxHeartbeats 32000000
set_option maxRecDepth 20000
def WInv (l:List HOp) (n:Nat) (s:RS):Prop:=∃st:Int→List UInt8,
 (∀j:Int,0≤j→j<n→st j=zBk∨∃(i:Nat) (o:HOp),l[i]?=some o∧o.era<s.era∧o.op.kind=2∧o.op.index=j∧o.op.data=st j) ∧
 (∀j:Int,0≤j→j<n→pgAt s.arr j=st j∨∃(i:Nat) (o:HOp),l[i]?=some o∧o.era=s.era∧hasB s.taken (i:Int)=true∧o.op.kind=2∧o.op.index=j∧o.op.data=pgAt s.arr j) ∧
 (∀j:Int,0≤j→j<n→pgAt s.dur j=st j∨∃(i:Nat) (o:HOp),l[i]?=some o∧o.era=s.era∧hasB s.taken (i:Int)=true∧o.op.kind=2∧o.op.index=j∧o.op.data=pgAt s.dur j) ∧
 ((∀(i:Nat) (o:HOp),l[i]?=some o→o.era=s.era→o.op.kind≠3)→∀j:Int,0≤j→j<n→pgAt s.dur j=st j)
section
variable {l : List HOp} {n e : Nat} {p : Prep} {ks : List Int} {kv : List (List UInt8)}
theorem um:WInv l n (am n):=⟨fun _=>zBk,fun _ _ _=>.inl rfl,fun j _ _=>.inl (eM n j),fun j _ _=>.inl (eM n j),fun _ j _ _=>eM n j⟩
theorem un {s:RS} (h:WInv l n s):WInv l n (aI s):=by
 obtain⟨st,h1,h2,h3,h4⟩:=h
 refine⟨fun j=>pgAt s.dur j,fun j a b=>?_,fun _ _ _=>.inl rfl,fun _ _ _=>.inl rfl,fun _ _ _ _=>rfl⟩
 have h0:(aI s).era=s.era+1:=rfl
 rw[h0]
 rcases h3 j a b with h5 | ⟨i,o,c1,c2,_,c4,c5,c6⟩
 ·rcases h1 j a b with h6 | ⟨i,o,c1,c2,c3,c4,c5⟩
  ·exact .inl (h5.trans h6)
  ·exact .inr ⟨i,o,c1,by omega,c3,c4,c5.trans h5.symm⟩
 ·exact .inr ⟨i,o,c1,by omega,c4,c5,c6⟩
theorem xc (S:Sc l n e p ks kv) {s:RS} (hs:RG l n e p ks kv s) (h:WInv l n s) {i:Nat} {o:HOp} (ho:l[i]?=some o) (ht:(aL s l i o).2=true):WInv l n (aL s l i o).1:=by
 obtain⟨st,h1,h2,h3,h4⟩:=h
 obtain⟨q1,q2,q3,_⟩:=eR (bW ht)
 rw[hs.ok.al]at q2
 have hmk:=iy q2
 have hera:(aL s l i o).1.era=s.era:=eQ
 have htaken:(aL s l i o).1.taken=cf s.taken i:=by rw[aL,if_pos (bW ht)]
 have harr:(aL s l i o).1.arr=(hapR s o).1.arr:=by rw[aL,if_pos (bW ht)]
 have hdur:(aL s l i o).1.dur=(hapR s o).1.dur:=by rw[aL,if_pos (bW ht)]
 have mono:∀k:Nat,hasB s.taken (k:Int)=true→hasB (cf s.taken i) (k:Int)=true:=fun k hk=>by rw[cM,hk]; rfl
 have old:∀(v:List UInt8) (j:Int),(∃(i:Nat) (o:HOp),l[i]?=some o∧o.era=s.era∧hasB s.taken (i:Int)=true∧o.op.kind=2∧o.op.index=j∧o.op.data=v)→∃(k:Nat) (q:HOp),l[k]?=some q∧q.era=s.era∧hasB (cf s.taken i) (k:Int)=true∧q.op.kind=2∧q.op.index=j∧q.op.data=v:=fun v j ⟨k,q,a,b,c,d⟩=>⟨k,q,a,b,mono k c,d⟩
 unfold WInv
 rw[hera,htaken,harr,hdur]
 refine⟨st,h1,fun j a b=>?_,fun j a b=>?_,fun hf j a b=>?_⟩
 ·unfold hapR
  split
  ·exact (h2 j a b).imp id (old _ j)
  ·split
   ·rename_i k2
    obtain⟨i0,i1⟩:=hmk.2.2 (by omega)
    simp only
    rw[rB i0 (by rw[hs.ar.al]; exact i1) a]
    by_cases hj:j=o.op.index
    ·rw[if_pos hj]
     exact .inr ⟨i,o,ho,q1,by rw[cM,dT rfl,Bool.or_true],k2,hj.symm,rfl⟩
    ·rw[if_neg hj]
     exact (h2 j a b).imp id (old _ j)
   ·exact (h2 j a b).imp id (old _ j)
 ·unfold hapR
  split
  ·exact (h3 j a b).imp id (old _ j)
  ·split
   ·exact (h3 j a b).imp id (old _ j)
   ·exact (h2 j a b).imp id (old _ j)
 ·have hk3:=hf i o ho q1
  unfold hapR
  split
  ·exact h4 hf j a b
  ·split
   ·exact h4 hf j a b
   ·omega
theorem ke.winv (S:Sc l n e p ks kv) (he:0<e) {s:RS} (h:ke l n e s):RG l n e p ks kv s∧WInv l n s:=by
 induction h with
 | first=>exact⟨S.first he,um⟩
 | step x _ hx ih =>
  obtain⟨h1,h2⟩:=ih
  refine⟨(S.rgSteps h1 hx).1,?_⟩
  rcases bd.1 hx with ⟨j,o,a,b,rfl⟩ | ⟨a,b,rfl⟩
  ·exact xc S h1 h2 a b
  ·exact un h2
def kX (l:List HOp) (E:Int):Bool:=l.any fun o=>decide (o.era=E)&&decide (o.op.kind=3)
def optO (l:List HOp) (E:Int) (o:HOp):List Nat :=
 if o.era=E then (if o.op.kind=2 then (if kX l E then[0,1,2,3,4] else[0,1,2]) else[0,1])
 else if o.era<E then[0,1] else[0]
def jK:List (List Nat)→List (List Nat)
 | []=>[[]]
 | os::r=>os.flatMap fun x=>(jK r).map (x :: ·)
theorem pV:∀(oss:List (List Nat)) (w:List Nat),w.length=oss.length→(∀(i:Nat) (x:Nat) (os:List Nat),w[i]?=some x→oss[i]?=some os→x∈os)→w∈jK oss
 | [],[],_,_=>List.mem_singleton.2 rfl
 | [],_::_,h,_=>by simp at h
 | _::_,[],h,_=>by simp at h
 | os::r,x::w,h,hm=>by
  rw[jK,List.mem_flatMap]
  exact⟨x,hm 0 x os rfl rfl,List.mem_map.2 ⟨w,pV r w (by simpa using h) fun i y os' h1 h2=>hm (i+1) y os' (by simpa using h1) (by simpa using h2),rfl⟩⟩
def kT:List Nat→Nat
 | []=>1
 | a::r=>a*kT r
theorem nA {α β:Type} {k:Nat} (f:α→List β):∀l:List α,(∀x∈l,(f x).length=k)→(l.flatMap f).length=l.length*k
 | [],_=>by simp
 | a::l,h=>by
  rw[List.flatMap_cons,List.length_append,h a List.mem_cons_self,nA f l fun x hx=>h x (List.mem_cons_of_mem _ hx),List.length_cons,Nat.add_mul,Nat.one_mul,Nat.add_comm]
theorem pW:∀oss:List (List Nat),(jK oss).length=kT (oss.map List.length)
 | []=>rfl
 | os::r=>by
  rw[jK,nA (k:=(jK r).length) _ os fun x _=>List.length_map ..]
  show _=os.length*kT (r.map List.length)
  rw[pW r]
def srcD (f:HOp→Nat→Bool):List HOp→List Nat→Option (List UInt8)
 | o::l,x::w=>if f o x then some o.op.data else srcD f l w
 | _,_=>none
theorem mK {f:HOp→Nat→Bool}:∀(l:List HOp) (w:List Nat),(∀(i:Nat) (o:HOp) (x:Nat),l[i]?=some o→w[i]?=some x→f o x=false)→srcD f l w=none
 | [],_,_=>rfl
 | _::_,[],_=>rfl
 | o::l,x::w,h=>by
  rw[srcD,h 0 o x rfl rfl,if_neg Bool.false_ne_true]
  exact mK l w fun i o' x' h1 h2=>h (i+1) o' x' (by simpa using h1) (by simpa using h2)
theorem mJ {f:HOp→Nat→Bool} {v:List UInt8}:∀(l:List HOp) (w:List Nat),(∃(i:Nat) (o:HOp) (x:Nat),l[i]?=some o∧w[i]?=some x∧f o x=true)→(∀(i:Nat) (o:HOp) (x:Nat),l[i]?=some o→w[i]?=some x→f o x=true→o.op.data=v)→srcD f l w=some v
 | [],_,⟨i,o,x,h,_⟩,_=>by simp at h
 | _::_,[],⟨i,o,x,_,h,_⟩,_=>by simp at h
 | o::l,x::w,⟨i,o',x',h1,h2,h3⟩,hv=>by
  rw[srcD]
  cases hf:f o x with
  | true=>rw[if_pos rfl,hv 0 o x rfl rfl hf]
  | false =>
   rw[if_neg Bool.false_ne_true]
   cases i with
   | zero =>
    simp at h1 h2
    subst h1 h2
    rw[hf]at h3; cases h3
   | succ i=>exact mJ l w ⟨i,o',x',by simpa using h1,by simpa using h2,h3⟩ fun k q y a b c=>hv (k+1) q y (by simpa using a) (by simpa using b) c
def stW (l:List HOp) (E:Int) (w:List Nat) (j:Int):List UInt8:=(srcD (fun o x=>decide (o.era<E)&&(decide (o.op.kind=2)&&(decide (o.op.index=j)&&decide (x=1)))) l w).getD zBk
def arW (l:List HOp) (E:Int) (w:List Nat) (j:Int):List UInt8:=(srcD (fun o x=>decide (o.era=E)&&(decide (o.op.kind=2)&&(decide (o.op.index=j)&&(decide (x=2)||decide (x=4))))) l w).getD (stW l E w j)
def duW (l:List HOp) (E:Int) (w:List Nat) (j:Int):List UInt8:=(srcD (fun o x=>decide (o.era=E)&&(decide (o.op.kind=2)&&(decide (o.op.index=j)&&(decide (x=3)||decide (x=4))))) l w).getD (stW l E w j)
def decW (l:List HOp) (n:Nat) (p:Prep) (E:Int) (w:List Nat):RS :=
 ⟨E,(zOf p E).filter (fun i=>match w[i.toNat]? with | some x=>decide (x≠0) | none=>false),(List.range n).map fun j=>arW l E w (j:Nat),(List.range n).map fun j=>duW l E w (j:Nat)⟩
def symW (a d b:Int→Option Nat) (E:Int) (T:List Int) (i:Nat) (o:HOp):Nat :=
 if o.era=E then (if hasB T (i:Int)=false then 0 else if o.op.kind≠2 then 1
  else if a o.op.index=some i then (if d o.op.index=some i then 4 else 2) else (if d o.op.index=some i then 3 else 1))
 else if o.era<E then (if o.op.kind=2∧b o.op.index=some i then 1 else 0) else 0
theorem Af {A:List (List UInt8)} {f:Int→List UInt8} (hl:A.length=n) (h:∀j:Int,0≤j→j<n→pgAt A j=f j):A=(List.range n).map fun j=>f (j:Nat):=by
 apply List.ext_getElem?
 intro j
 by_cases hj:j<n
 ·have:=h j (by omega) (by omega)
  rw[pgAt,Int.toNat_natCast,List.getElem?_eq_getElem (by omega),Option.getD_some]at this
  rw[List.getElem?_map,List.getElem?_range hj,List.getElem?_eq_getElem (by omega),this]; rfl
 ·rw[List.getElem?_eq_none (by omega),List.getElem?_eq_none (by simp; omega)]
theorem Sc.word (S:Sc l n e p ks kv) {s:RS} (hs:RG l n e p ks kv s) (h:WInv l n s):∃w∈jK (l.map (optO l s.era)),decW l n p s.era w=s:=by
 obtain⟨st,h1,h2,h3,h4⟩:=h
 have e0:=hs.ok.e0
 have cb:∀j:Int,∃y:Option Nat,0≤j→j<n→(y=none∧st j=zBk)∨∃(i:Nat) (o:HOp),y=some i∧l[i]?=some o∧o.era<s.era∧o.op.kind=2∧o.op.index=j∧o.op.data=st j:=fun j=>by
  by_cases hj:0≤j∧j<n
  ·rcases h1 j hj.1 hj.2 with h | ⟨i,o,h⟩
   ·exact⟨none,fun _ _=>.inl ⟨rfl,h⟩⟩
   ·exact⟨some i,fun _ _=>.inr ⟨i,o,rfl,h⟩⟩
  ·exact⟨none,fun a b=>absurd ⟨a,b⟩ hj⟩
 have ca:∀j:Int,∃y:Option Nat,0≤j→j<n→(y=none∧pgAt s.arr j=st j)∨∃(i:Nat) (o:HOp),y=some i∧l[i]?=some o∧o.era=s.era∧hasB s.taken (i:Int)=true∧o.op.kind=2∧o.op.index=j∧o.op.data=pgAt s.arr j:=fun j=>by
  by_cases hj:0≤j∧j<n
  ·rcases h2 j hj.1 hj.2 with h | ⟨i,o,h⟩
   ·exact⟨none,fun _ _=>.inl ⟨rfl,h⟩⟩
   ·exact⟨some i,fun _ _=>.inr ⟨i,o,rfl,h⟩⟩
  ·exact⟨none,fun a b=>absurd ⟨a,b⟩ hj⟩
 have cd:∀j:Int,∃y:Option Nat,(kX l s.era=false→y=none)∧(0≤j→j<n→(y=none∧pgAt s.dur j=st j)∨∃(i:Nat) (o:HOp),y=some i∧l[i]?=some o∧o.era=s.era∧hasB s.taken (i:Int)=true∧o.op.kind=2∧o.op.index=j∧o.op.data=pgAt s.dur j):=fun j=>by
  by_cases hj:0≤j∧j<n
  ·cases hf:kX l s.era with
   | false =>
    refine⟨none,fun _=>rfl,fun _ _=>.inl ⟨rfl,h4 (fun i o ho he hk=>?_) j hj.1 hj.2⟩⟩
    have:kX l s.era=true:=List.any_eq_true.2 ⟨o,List.mem_of_getElem? ho,by rw[dT he,dT hk]; rfl⟩
    rw[hf]at this; cases this
   | true =>
    rcases h3 j hj.1 hj.2 with h | ⟨i,o,h⟩
    ·exact⟨none,fun h=>(by cases h),fun _ _=>.inl ⟨rfl,h⟩⟩
    ·exact⟨some i,fun h=>(by cases h),fun _ _=>.inr ⟨i,o,rfl,h⟩⟩
  ·exact⟨none,fun _=>rfl,fun a b=>absurd ⟨a,b⟩ hj⟩
 obtain⟨b,hb⟩:=Classical.skolem.1 cb
 obtain⟨a,ha⟩:=Classical.skolem.1 ca
 obtain⟨d,hd⟩:=Classical.skolem.1 cd
 obtain⟨w,hw⟩:∃w,w=(List.range l.length).map fun i=>symW a d b s.era s.taken i (opN l i):=⟨_,rfl⟩
 have hwl:w.length=l.length:=by rw[hw]; simp
 have hwg:∀(i:Nat) (o:HOp),l[i]?=some o→w[i]?=some (symW a d b s.era s.taken i o):=fun i o ho=>by
  have hi:=(List.getElem?_eq_some_iff.1 ho).1
  rw[hw,List.getElem?_map,List.getElem?_range hi,←ep ho]; rfl
 have hst:∀j:Int,0≤j→j<n→stW l s.era w j=st j:=fun j j0 j1=>by
  unfold stW
  rcases hb j j0 j1 with ⟨c1,c2⟩ | ⟨i,o,c1,c2,c3,c4,c5,c6⟩
  ·rw[mK,Option.getD_none,c2]
   intro i o x ho hx
   rw[hwg i o ho]at hx; cases hx
   by_cases hE:o.era<s.era
   ·by_cases hk:o.op.kind=2
    ·by_cases hi:o.op.index=j
     ·have:symW a d b s.era s.taken i o=0:=by
       rw[symW,if_neg (by omega),if_pos hE,if_neg (by rw[hi,c1]; rintro⟨_,h⟩; cases h)]
      rw[this]; simp
     ·rw[dF hi]; simp
    ·rw[dF hk]; simp
   ·rw[dF hE]; simp
  ·rw[mJ (v:=st j),Option.getD_some]
   ·refine⟨i,o,_,c2,hwg i o c2,?_⟩
    have:symW a d b s.era s.taken i o=1:=by
     rw[symW,if_neg (by omega),if_pos c3,if_pos ⟨c4,by rw[c5,c1]⟩]
    rw[this,dT c3,dT c4,dT c5]; rfl
   ·intro k q x hq hx hf
    simp only[Bool.and_eq_true,decide_eq_true_eq]at hf
    obtain⟨f1,f2,f3,f4⟩:=hf
    rw[hwg k q hq]at hx; cases hx
    rw[symW,if_neg (by omega),if_pos f1]at f4
    split at f4
    ·rename_i hc
     rw[f3,c1]at hc
     have:i=k:=Option.some.inj hc.2
     subst this
     rw[c2]at hq; cases hq
     exact c6
    ·cases f4
 have key:∀(c:Int→Option Nat) (A:Int→List UInt8) (g:Nat→Bool),(∀(i:Nat) (o:HOp),l[i]?=some o→o.era=s.era→o.op.kind=2→hasB s.taken (i:Int)=true→(g (symW a d b s.era s.taken i o)=true↔c o.op.index=some i))→(∀(i:Nat) (o:HOp),l[i]?=some o→o.era=s.era→hasB s.taken (i:Int)=false→g (symW a d b s.era s.taken i o)=false) →
   (∀j:Int,0≤j→j<n→(c j=none∧A j=st j)∨∃(i:Nat) (o:HOp),c j=some i∧l[i]?=some o∧o.era=s.era∧hasB s.taken (i:Int)=true∧o.op.kind=2∧o.op.index=j∧o.op.data=A j) →
   ∀j:Int,0≤j→j<n→A j=(srcD (fun o x=>decide (o.era=s.era)&&(decide (o.op.kind=2)&&(decide (o.op.index=j)&&g x))) l w).getD (stW l s.era w j):=by
  intro c A g hg hg0 hc j j0 j1
  rcases hc j j0 j1 with ⟨c1,c2⟩ | ⟨i,o,c1,c2,c3,c4,c5,c6,c7⟩
  ·rw[mK,Option.getD_none,c2,hst j j0 j1]
   intro i o x ho hx
   rw[hwg i o ho]at hx; cases hx
   by_cases hE:o.era=s.era
   ·by_cases hk:o.op.kind=2
    ·by_cases hi:o.op.index=j
     ·have:g (symW a d b s.era s.taken i o)=false:=by
       cases ht:hasB s.taken (i:Int) with
       | false=>exact hg0 i o ho hE ht
       | true =>
        rw[Bool.eq_false_iff]
        intro h
        rw[hg i o ho hE hk ht,hi,c1]at h
        cases h
      rw[this]; simp
     ·rw[dF hi]; simp
    ·rw[dF hk]; simp
   ·rw[dF hE]; simp
  ·rw[mJ (v:=A j),Option.getD_some]
   ·refine⟨i,o,_,c2,hwg i o c2,?_⟩
    rw[(hg i o c2 c3 c5 c4).2 (by rw[c6,c1]),dT c3,dT c5,dT c6]; rfl
   ·intro k q x hq hx hf
    simp only[Bool.and_eq_true,decide_eq_true_eq]at hf
    obtain⟨f1,f2,f3,f4⟩:=hf
    rw[hwg k q hq]at hx; cases hx
    cases ht:hasB s.taken (k:Int) with
    | false=>rw[hg0 k q hq f1 ht]at f4; cases f4
    | true =>
     rw[hg k q hq f1 f2 ht,f3,c1]at f4
     have:i=k:=Option.some.inj f4
     subst this
     rw[c2]at hq; cases hq
     exact c7
 have hAr:=key a (fun j=>pgAt s.arr j) (fun x=>decide (x=2)||decide (x=4)) (fun i o ho hE hk ht=>by
   rw[symW,if_pos hE,if_neg (by rw[ht]; decide),if_neg (by simpa using hk)]
   split
   ·rename_i h5; split <;> simp[h5]
   ·rename_i h5; split <;> simp[h5]) (fun i o ho hE ht=>by rw[symW,if_pos hE,if_pos ht]; rfl) ha
 have hDu:=key d (fun j=>pgAt s.dur j) (fun x=>decide (x=3)||decide (x=4)) (fun i o ho hE hk ht=>by
   rw[symW,if_pos hE,if_neg (by rw[ht]; decide),if_neg (by simpa using hk)]
   split
   ·split
    ·rename_i h5; simp[h5]
    ·rename_i h5; simp[h5]
   ·split
    ·rename_i h5; simp[h5]
    ·rename_i h5; simp[h5]) (fun i o ho hE ht=>by rw[symW,if_pos hE,if_pos ht]; rfl) (fun j=>(hd j).2)
 refine⟨w,pV _ w (by rw[hwl]; simp) fun i x os hx hos=>?_,?_⟩
 ·rw[List.getElem?_map]at hos
  cases ho:l[i]? with
  | none=>rw[ho]at hos; cases hos
  | some o =>
   rw[ho]at hos
   cases hos
   rw[hwg i o ho]at hx; cases hx
   unfold symW optO
   by_cases hE:o.era=s.era
   ·rw[if_pos hE,if_pos hE]
    by_cases hk:o.op.kind=2
    ·rw[if_pos hk,if_neg (show ¬o.op.kind≠2 by simpa using hk)]
     cases hf:kX l s.era with
     | true =>
      rw[if_pos rfl]
      split
      ·simp
      ·split <;> split <;> simp
     | false =>
      have hn:d o.op.index≠some i:=by rw[(hd o.op.index).1 hf]; intro h; cases h
      rw[if_neg Bool.false_ne_true,if_neg hn,if_neg hn]
      split
      ·simp
      ·split <;> simp
    ·rw[if_neg hk,if_pos (show o.op.kind≠2 from hk)]
     split <;> simp
   ·rw[if_neg hE,if_neg hE]
    split
    ·split <;> simp
    ·simp
 ·have f1:(zOf p s.era).filter (fun i=>match w[i.toNat]? with | some x=>decide (x≠0) | none=>false)=s.taken:=by
   rw[hs.tk]
   refine List.filter_congr fun i hi=>?_
   obtain⟨j,o,rfl,b1,b2,b3⟩:=(S.zin e0 hs.era).1 hi
   rw[Int.toNat_natCast,hwg j o b1,symW,if_pos b2]
   simp only
   cases ht:hasB s.taken (j:Int) with
   | false=>rw[if_pos rfl]; rfl
   | true =>
    rw[if_neg (by decide)]
    split
    ·rfl
    ·split <;> split <;> rfl
  have f2:=Af hs.ar.al hAr
  have f3:=Af hs.du.al hDu
  unfold decW
  rw[f1]
  cases s
  simp only[RS.mk.injEq,true_and]
  exact⟨f2.symm,f3.symm⟩
end
end Go.Proofs.Ytmdgmolbamlicaa
namespace Go.Proofs.Ytmdgmolbamlicaa
open Go.Eng Go.Plain
set_option maxHeartbeats 32000000
set_option maxRecDepth 20000
def nc (l:List HOp) (n:Nat) (p:Prep):Nat→List RS
 | 0=>[]
 | k+1=>nc l n p k++(jK (l.map (optO l (k:Nat)))).map (decW l n p (k:Nat))
theorem o5 {α:Type}:∀(xs ys:List α),xs.Nodup→(∀x∈xs,x∈ys)→xs.length≤ys.length
 | [],_,_,_=>Nat.zero_le _
 | x::xs,ys,hn,h=>by
  obtain⟨a,b,rfl⟩:=List.append_of_mem (h x List.mem_cons_self)
  obtain⟨h1,h2⟩:=List.nodup_cons.1 hn
  have:=o5 xs (a++b) h2 fun y hy=>by
   have h3:=h y (List.mem_cons_of_mem _ hy)
   rcases List.mem_append.1 h3 with h3 | h3
   ·exact List.mem_append_left _ h3
   ·rcases List.mem_cons.1 h3 with rfl | h3
    ·exact absurd hy h1
    ·exact List.mem_append_right _ h3
  simp only[List.length_append,List.length_cons]at this ⊢
  omega
def Fn (n:Nat):Nat:=if n=0 then 1 else max (3 ^ n) (2*5 ^ (n-1))
theorem sW (l:List HOp) (E:Int):∀r:List HOp,kT (r.map fun o=>(optO l E o).length)≤2 ^ (r.countP fun o=>decide (o.era<E))*5 ^ (r.countP fun o=>decide (o.era=E)) ∧
    (kX l E=false→kT (r.map fun o=>(optO l E o).length)≤2 ^ (r.countP fun o=>decide (o.era<E))*3 ^ (r.countP fun o=>decide (o.era=E))) ∧
    (kX r E=true→kT (r.map fun o=>(optO l E o).length)*5≤2*(2 ^ (r.countP fun o=>decide (o.era<E))*5 ^ (r.countP fun o=>decide (o.era=E))))
  | []=>⟨Nat.le_refl _,fun _=>Nat.le_refl _,fun h=>by cases h⟩
  | o::r=>by
    obtain⟨h1,h2,h3⟩:=sW l E r
    have hfl:kX (o::r) E=((decide (o.era=E)&&decide (o.op.kind=3))||kX r E):=rfl
    rw[hfl]
    simp only[List.map_cons,kT,List.countP_cons,decide_eq_true_eq]
    generalize kT (r.map fun o=>(optO l E o).length)=P at h1 h2 h3 ⊢
    generalize (r.countP fun o=>decide (o.era<E))=a at h1 h2 h3 ⊢
    generalize (r.countP fun o=>decide (o.era=E))=c at h1 h2 h3 ⊢
    by_cases hE:o.era=E
    · rw[if_neg (by omega),if_pos hE,Nat.add_zero,dT hE,Bool.true_and]
      have h5:(optO l E o).length≤5:=by
        unfold optO
        rw[if_pos hE]
        split
        · split <;> simp
        · simp
      have m1:=Nat.mul_le_mul h5 h1
      refine⟨by rw[Nat.pow_succ]; calc _≤_:=m1
                 _=_:=by rw[Nat.mul_left_comm,Nat.mul_comm 5],fun hf=>?_,fun hf=>?_⟩
      · have h6:(optO l E o).length≤3:=by
          unfold optO
          rw[if_pos hE,hf]
          split <;> simp
        have m2:=Nat.mul_le_mul h6 (h2 hf)
        rw[Nat.pow_succ]
        calc _≤_:=m2
          _=_:=by rw[Nat.mul_left_comm,Nat.mul_comm 3]
      · rw[Bool.or_eq_true,decide_eq_true_eq]at hf
        rcases hf with hf | hf
        · have h6:(optO l E o).length=2:=by
            unfold optO
            rw[if_pos hE,if_neg (by omega)]; rfl
          rw[h6,Nat.pow_succ]
          have m2:=Nat.mul_le_mul_left 10 h1
          calc 2*P*5=10*P:=by omega
            _≤_:=m2
            _=_:=by rw[show 10=2*5 by rfl,Nat.mul_assoc 2 5,Nat.mul_left_comm 5,Nat.mul_comm 5]
        · have m2:=Nat.mul_le_mul h5 (h3 hf)
          rw[Nat.pow_succ]
          calc (optO l E o).length*P*5=(optO l E o).length*(P*5):=Nat.mul_assoc ..
            _≤_:=m2
            _=_:=by rw[Nat.mul_left_comm,Nat.mul_left_comm 5,Nat.mul_comm 5]
    · rw[if_neg hE,Nat.add_zero,dF hE,Bool.false_and,Bool.false_or]
      by_cases hlt:o.era<E
      · rw[if_pos hlt]
        have h6:(optO l E o).length=2:=by
          unfold optO
          rw[if_neg hE,if_pos hlt]; rfl
        rw[h6,Nat.pow_succ]
        refine⟨?_,fun hf=>?_,fun hf=>?_⟩
        · have:=Nat.mul_le_mul_left 2 h1
          rw[Nat.mul_comm (2 ^ a) 2,Nat.mul_assoc]; exact this
        · have:=Nat.mul_le_mul_left 2 (h2 hf)
          rw[Nat.mul_comm (2 ^ a) 2,Nat.mul_assoc]; exact this
        · have:=Nat.mul_le_mul_left 2 (h3 hf)
          rw[Nat.mul_comm (2 ^ a) 2,Nat.mul_assoc 2 (2 ^ a),Nat.mul_assoc]; exact this
      · rw[if_neg hlt,Nat.add_zero]
        have h6:(optO l E o).length=1:=by
          unfold optO
          rw[if_neg hE,if_neg hlt]; rfl
        rw[h6,Nat.one_mul]
        exact⟨h1,h2,h3⟩
theorem BN (l:List HOp) (E:Int):kT ((l.map (optO l E)).map List.length)≤2 ^ (l.countP fun o=>decide (o.era<E))*Fn (l.countP fun o=>decide (o.era=E)):=by
 obtain⟨h1,h2,h3⟩:=sW l E l
 rw[List.map_map]
 have hc:(List.length ∘ optO l E)=fun o=>(optO l E o).length:=rfl
 rw[hc]
 generalize hP:kT (l.map fun o=>(optO l E o).length)=P at h1 h2 h3 ⊢
 cases hf:kX l E with
 | false =>
  refine Nat.le_trans (h2 hf) (Nat.mul_le_mul_left _ ?_)
  unfold Fn
  split
  ·rename_i h; rw[h]; exact Nat.le_refl _
  ·exact Nat.le_max_left _ _
 | true =>
  have h4:=h3 hf
  have hpos:0<l.countP fun o=>decide (o.era=E):=by
   obtain⟨o,ho,hb⟩:=List.any_eq_true.1 hf
   rw[Bool.and_eq_true]at hb
   exact List.countP_pos_iff.2 ⟨o,ho,hb.1⟩
  generalize (l.countP fun o=>decide (o.era=E))=c at h4 hpos ⊢
  generalize 2 ^ (l.countP fun o=>decide (o.era<E))=A at h4 ⊢
  obtain⟨d,rfl⟩:∃d,c=d+1:=⟨c-1,by omega⟩
  have h5:P≤A*(2*5 ^ d):=by
   rw[Nat.pow_succ]at h4
   have h6:2*(A*(5 ^ d*5))=A*(2*5 ^ d)*5:=by
    rw[←Nat.mul_assoc A,←Nat.mul_assoc,Nat.mul_left_comm 2]
   rw[h6]at h4
   exact Nat.le_of_mul_le_mul_right h4 (by decide)
  refine Nat.le_trans h5 (Nat.mul_le_mul_left _ ?_)
  unfold Fn
  rw[if_neg (by omega),Nat.add_sub_cancel]
  exact Nat.le_max_right _ _
def cnts:List HEv→Nat→List Nat
 | [],n=>[n]
 | x::r,n=>if x.kind=3 then n::cnts r 0 else if x.kind=1 then cnts r (n+1) else cnts r n
def eraL:List HEv→Int→List Int
 | [],_=>[]
 | x::r,e=>if x.kind=3 then eraL r (e+1) else if x.kind=1 then e::eraL r e else eraL r e
def totN:Nat→List Nat→Nat
 | _,[]=>0
 | pre,n::ns=>pre*Fn n+totN (pre*2 ^ n) ns
def sumL:List Nat→Nat
 | []=>0
 | a::r=>a+sumL r
theorem kK:∀(r:List HEv) (e x:Int),x∈eraL r e→e≤x
 | [],_,_,h=>by cases h
 | y::r,e,x,h=>by
  unfold eraL at h
  split at h
  ·have:=kK r (e+1) x h; omega
  ·split at h
   ·rcases List.mem_cons.1 h with rfl | h
    ·exact Int.le_refl _
    ·exact kK r e x h
   ·exact kK r e x h
theorem ms:∀(r:List HEv) (n:Nat),(cnts r n).length=1+r.countP fun x=>decide (x.kind=3)
 | [],_=>rfl
 | x::r,n=>by
  unfold cnts
  rw[List.countP_cons]
  by_cases h3:x.kind=3
  ·rw[if_pos h3,List.length_cons,ms r,if_pos (dT h3)]; omega
  ·rw[if_neg h3,if_neg (c:=decide (x.kind=3)=true) (by rw[dF h3]; decide)]
   split <;> rw[ms r] <;> omega
theorem mu:∀(r:List HEv) (n:Nat) (e:Int) (d:Nat) (c:Nat),(cnts r n)[d]?=some c→c=(eraL r e).countP (fun x=>decide (x=e+d))+(if d=0 then n else 0)∧sumL ((cnts r n).take d)=(eraL r e).countP (fun x=>decide (x<e+d))+(if d=0 then 0 else n)
 | [],n,e,d,c,h=>by
  cases d with
  | zero=>simp[cnts]at h; subst h; simp[eraL,sumL]
  | succ d=>simp[cnts]at h
 | x::r,n,e,d,c,h=>by
  have hge:=kK r (e+1)
  unfold cnts at h ⊢
  unfold eraL
  by_cases h3:x.kind=3
  ·rw[if_pos h3]at h ⊢
   rw[if_pos h3]
   cases d with
   | zero =>
    simp at h; subst h
    have z1:(eraL r (e+1)).countP (fun x=>decide (x=e+((0:Nat):Int)))=0:=List.countP_eq_zero.2 fun y hy=>by
     have:=hge y hy
     simp only[decide_eq_true_eq]; omega
    have z2:(eraL r (e+1)).countP (fun x=>decide (x<e+((0:Nat):Int)))=0:=List.countP_eq_zero.2 fun y hy=>by
     have:=hge y hy
     simp only[decide_eq_true_eq]; omega
    rw[z1,z2]
    exact⟨by simp,by simp[sumL]⟩
   | succ d =>
    obtain⟨a1,a2⟩:=mu r 0 (e+1) d c (by simpa using h)
    have e1:e+1+(d:Int)=e+((d+1:Nat):Int):=by omega
    rw[e1]at a1 a2
    refine⟨by rw[a1]; simp,?_⟩
    rw[List.take_succ_cons,sumL,a2]
    simp
    omega
  ·rw[if_neg h3]at h ⊢
   rw[if_neg h3]
   by_cases h1:x.kind=1
   ·rw[if_pos h1]at h ⊢
    rw[if_pos h1]
    obtain⟨a1,a2⟩:=mu r (n+1) e d c h
    rw[List.countP_cons,List.countP_cons,a1,a2]
    cases d with
    | zero=>simp; omega
    | succ d =>
     have f1:decide (e=e+((d+1:Nat):Int))=false:=dF (by omega)
     have f2:decide (e<e+((d+1:Nat):Int))=true:=dT (by omega)
     rw[f1,f2]
     simp
     omega
   ·rw[if_neg h1]at h ⊢
    rw[if_neg h1]
    exact mu r n e d c h
theorem pZ:∀(ns:List Nat) (pre k:Nat) (c:Nat),ns[k]?=some c→totN pre (ns.take (k+1))=totN pre (ns.take k)+pre*2 ^ sumL (ns.take k)*Fn c
 | [],_,k,_,h=>by simp at h
 | n::ns,pre,k,c,h=>by
  cases k with
  | zero=>simp at h; subst h; simp[totN,sumL]
  | succ k =>
   have ih:=pZ ns (pre*2 ^ n) k c (by simpa using h)
   rw[List.take_succ_cons,totN,ih,List.take_succ_cons,totN,sumL,Nat.pow_add,Nat.add_assoc,Nat.mul_assoc pre]
theorem je (h:List HEv):∀(m i:Nat) (out:List HOp) (era:Int),(eS h m i out era).map HOp.era=out.map HOp.era++eraL ((h.drop i).take m) era
 | 0,i,out,era=>by rw[eS,List.take_zero]; simp[eraL]
 | m+1,i,out,era=>by
  rw[eS]
  cases hx:h[i]? with
  | none=>rw[List.drop_eq_nil_of_le (List.getElem?_eq_none_iff.1 hx)]; simp[eraL]
  | some x =>
   have hlt:=(List.getElem?_eq_some_iff.1 hx).1
   rw[List.drop_eq_getElem_cons hlt,(List.getElem?_eq_some_iff.1 hx).2,List.take_succ_cons,eraL]
   simp only
   split
   ·exact je h m (i+1) out (era+1)
   ·split
    ·rw[je h m (i+1) _ era,List.map_append]
     have:(mkOp h i x out era).era=era:=by
      unfold mkOp co bF
      split <;> rfl
     simp[this]
    ·exact je h m (i+1) out era
theorem mN (h:List HEv):(opsR h).map HOp.era=eraL h 0:=by
 rw[opsR,je,List.drop_zero,List.take_length]; rfl
theorem tS (h:List HEv) (n:Nat) (p:Prep):∀k,k≤ao h→(nc (opsR h) n p k).length≤totN 1 ((cnts h 0).take k)
 | 0,_=>Nat.zero_le _
 | k+1,hk=>by
  have ih:=tS h n p k (by omega)
  have hl:k<(cnts h 0).length:=by rw[ms]; unfold ao at hk; omega
  have hc:=List.getElem?_eq_getElem hl
  obtain⟨a1,a2⟩:=mu h 0 0 k _ hc
  rw[pZ _ 1 k _ hc,nc,List.length_append,List.length_map,pW]
  have h1:=BN (opsR h) (k:Nat)
  have h2:(opsR h).countP (fun o=>decide (o.era<((k:Nat):Int)))=sumL ((cnts h 0).take k):=by
   rw[a2,←mN,List.countP_map]
   simp
   rfl
  have h3:(opsR h).countP (fun o=>decide (o.era=((k:Nat):Int)))=(cnts h 0)[k]:=by
   rw[a1,←mN,List.countP_map]
   simp
   rfl
  rw[h2,h3]at h1
  rw[Nat.one_mul]
  omega
def g10 (k:Nat):Nat:=if k % 2=0 then 10*5 ^ (k/2) else 13*5 ^ (k/2)
def Vn (m c n:Nat):Nat:=if m=0 then 25*Fn n else 5 ^ n*g10 (m+3-c)
def chkV:Bool:=(List.range 16).all fun m=>(List.range 4).all fun c=>(List.range 17).all fun n=>decide (n<c)||(decide (16<n+m)||(decide (25*Fn n+2 ^ n*Vn m 0 0≤Vn (m+1) c n)&&((decide (3≤c)||decide (Vn m (c+1) (n+1)≤Vn (m+1) c n))&&(decide (c=0)||decide (Vn m (c-1) n≤Vn (m+1) c n)))))
theorem Cn:chkV=true:=by decide+kernel
theorem Co {m c n:Nat} (hm:m<16) (hc:c<4) (hn:n+m≤16) (hcn:c≤n):25*Fn n+2 ^ n*Vn m 0 0≤Vn (m+1) c n∧(c<3→Vn m (c+1) (n+1)≤Vn (m+1) c n)∧(c≠0→Vn m (c-1) n≤Vn (m+1) c n):=by
 have h:=List.all_eq_true.1 (List.all_eq_true.1 (List.all_eq_true.1 Cn m (List.mem_range.2 hm)) c (List.mem_range.2 hc)) n (List.mem_range.2 (by omega))
 rw[dF (by omega),dF (by omega)]at h
 simp only[Bool.false_or,Bool.and_eq_true,Bool.or_eq_true,decide_eq_true_eq]at h
 exact⟨h.1,fun h3=>h.2.1.resolve_left (by omega),fun h0=>h.2.2.resolve_left h0⟩
def bP (p:List HEv) (c:Int):Nat:=if pend p c<0 then 0 else 1
def cntP (p:List HEv):Nat:=bP p 0+bP p 1+bP p 2
def Cl3 (h:List HEv):Prop:=∀x∈h,x.kind≠3→0≤x.client∧x.client<3
theorem qX (p:List HEv) (c:Int):bP p c≤1:=by unfold bP; split <;> omega
theorem vM:∀(r p:List HEv) (n pre:Nat),bT (p++r)→Cl3 (p++r)→n+r.length≤16→cntP p≤n→25*totN pre (cnts r n)≤pre*Vn r.length (cntP p) n
 | [],p,n,pre,_,_,_,_=>by
  simp only[cnts,totN,List.length_nil,Vn,if_true,Nat.add_zero]
  rw[Nat.mul_left_comm]
  exact Nat.le_refl _
 | x::r,p,n,pre,hA,hC,hn,hc=>by
  have hf:fitB p x=true:=by
   have:=hA p.length x (by rw[List.getElem?_append_right (Nat.le_refl _),Nat.sub_self]; rfl)
   rwa [List.take_left' rfl]at this
  have hA':bT ((p++[x])++r):=by rw[List.append_assoc]; exact hA
  have hC':Cl3 ((p++[x])++r):=by rw[List.append_assoc]; exact hC
  have b0:=qX p 0
  have b1:=qX p 1
  have b2:=qX p 2
  have hc3:cntP p<4:=by unfold cntP; omega
  rw[List.length_cons]at hn ⊢
  have hK:=Co (m:=r.length) (c:=cntP p) (n:=n) (by omega) hc3 (by omega) hc
  rw[cnts]
  unfold fitB at hf
  by_cases k1:x.kind=1
  ·rw[if_pos k1]at hf
   rw[if_neg (by omega),if_pos k1]
   unfold fit1 at hf
   simp only[Bool.and_eq_true,decide_eq_true_eq]at hf
   have hp:=hf.1.1.1.2
   have hps:∀d:Int,bP (p++[x]) d=if x.client=d then 1 else bP p d:=fun d=>by
    unfold bP
    rw[cL,eo,if_neg (c:=x.kind=3) (by omega),if_pos k1]
    by_cases hd:x.client=d
    ·rw[if_pos hd,if_pos hd,if_neg (by omega)]
    ·rw[if_neg hd,if_neg hd]
   have hz:bP p x.client=0:=by unfold bP; rw[if_pos hp]
   obtain⟨c0,c1⟩:=hC x (by simp) (by omega)
   have hcnt:cntP (p++[x])=cntP p+1:=by
    unfold cntP
    rw[hps,hps,hps]
    rcases (by omega:x.client=0∨x.client=1∨x.client=2)with h | h | h <;> rw[h]at hz ⊢ <;> simp <;> omega
   have hlt:cntP p<3:=by
    have b0:=qX (p++[x]) 0
    have b1:=qX (p++[x]) 1
    have b2:=qX (p++[x]) 2
    have:cntP (p++[x])≤3:=by unfold cntP; omega
    omega
   have ih:=vM r (p++[x]) (n+1) pre hA' hC' (by omega) (by omega)
   rw[hcnt]at ih
   exact Nat.le_trans ih (Nat.mul_le_mul_left _ (hK.2.1 hlt))
  ·rw[if_neg k1]at hf
   by_cases k2:x.kind=2
   ·rw[if_pos k2]at hf
    rw[if_neg (by omega),if_neg k1]
    unfold fit2 at hf
    simp only[Bool.and_eq_true,decide_eq_true_eq]at hf
    have hp:¬pend p x.client<0:=by
     have:=hf.1.1.1.2
     simpa using this
    have hps:∀d:Int,bP (p++[x]) d=if x.client=d then 0 else bP p d:=fun d=>by
     unfold bP
     rw[cL,eo,if_neg (c:=x.kind=3) (by omega),if_neg (c:=x.kind=1) (by omega),if_pos k2]
     by_cases hd:x.client=d
     ·rw[if_pos hd,if_pos hd,if_pos (by omega)]
     ·rw[if_neg hd,if_neg hd]
    have hz:bP p x.client=1:=by unfold bP; rw[if_neg hp]
    obtain⟨c0,c1⟩:=hC x (by simp) (by omega)
    have hcnt:cntP (p++[x])+1=cntP p:=by
     unfold cntP
     rw[hps,hps,hps]
     rcases (by omega:x.client=0∨x.client=1∨x.client=2)with h | h | h <;> rw[h]at hz ⊢ <;> simp <;> omega
    have ih:=vM r (p++[x]) n pre hA' hC' (by omega) (by omega)
    rw[show cntP (p++[x])=cntP p-1 by omega]at ih
    exact Nat.le_trans ih (Nat.mul_le_mul_left _ (hK.2.2 (by omega)))
   ·rw[if_neg k2]at hf
    by_cases k3:x.kind=3
    ·rw[if_pos k3]
     have hps:∀d:Int,bP (p++[x]) d=0:=fun d=>by
      unfold bP
      rw[cL,eo,if_pos k3]; rfl
     have hcnt:cntP (p++[x])=0:=by unfold cntP; rw[hps,hps,hps]
     have ih:=vM r (p++[x]) 0 (pre*2 ^ n) hA' hC' (by omega) (by omega)
     rw[hcnt]at ih
     rw[totN,Nat.mul_add,Nat.mul_left_comm 25 pre]
     have h1:=Nat.mul_le_mul_left pre hK.1
     rw[Nat.mul_add,←Nat.mul_assoc pre (2 ^ n)]at h1
     omega
    ·rw[if_neg k3]at hf; cases hf
section
variable {n : Nat} {p : Prep} {ks : List Int} {kv : List (List UInt8)}
theorem Sc.count {h:List HEv} (S:Sc (opsR h) n (ao h) p ks kv) (he:0<ao h) (hA:bT h) (hC:Cl3 h) (hl:h.length≤16) {k:Nat} {q:QS} {sp:List (List aF)} (I:SI (opsR h) n (ao h) p ks kv k q sp):q.2.length≤1015625:=by
 have h1:q.2.length≤((nc (opsR h) n p (ao h)).map (encS p ks)).length:=by
  refine o5 _ _ ?_ fun x hx=>?_
  ·refine List.pairwise_iff_getElem.2 fun i j hi hj hij hne=>?_
   have a:=I.ok.uq i _ (List.getElem?_eq_getElem hi)
   have b:=I.ok.uq j _ (List.getElem?_eq_getElem hj)
   rw[hne,b]at a
   have:=Option.some.inj a
   omega
  ·obtain⟨s,hs,hR,rfl⟩:=I.al x hx
   obtain⟨w,hw,hd⟩:=S.word hs (hR.winv S he).2
   refine List.mem_map.2 ⟨s,?_,rfl⟩
   have e0:=hs.ok.e0
   have e1:=hs.era
   have key:∀k:Nat,s.era<k→s∈nc (opsR h) n p k:=by
    intro k
    induction k with
    | zero=>intro h; omega
    | succ k ih =>
     intro hk
     rw[nc,List.mem_append]
     by_cases h2:s.era<k
     ·exact .inl (ih h2)
     ·have h3:s.era=(k:Nat):=by omega
      rw[h3]at hw hd
      exact .inr (List.mem_map.2 ⟨w,hw,hd⟩)
   exact key _ e1
 rw[List.length_map]at h1
 have h2:=tS h n p (ao h) (Nat.le_refl _)
 rw[List.take_of_length_le (by rw[ms]; exact Nat.le_refl _)]at h2
 have h3:=vM h [] 0 1 hA hC (by omega) (by rw[show cntP []=0 from rfl]; exact Nat.le_refl _)
 rw[show cntP []=0 from rfl,Nat.one_mul]at h3
 have h4:Vn h.length 0 0≤25*1015625:=by
  have key:∀m,m≤16→Vn m 0 0≤25*1015625:=by
   intro m hm
   have:(List.range 17).all (fun m=>decide (Vn m 0 0≤25*1015625))=true:=by decide+kernel
   exact of_decide_eq_true (List.all_eq_true.1 this m (List.mem_range.2 (by omega)))
  exact key _ hl
 omega
end
end Go.Proofs.Ytmdgmolbamlicaa
namespace Go.Proofs.Ytmdgmolbamlicaa
open Go.Eng Go.Plain
set_option maxHeartbeats 32000000
set_option maxRecDepth 20000
inductive NowT (l:List HOp) (e:Int):RS→Prop
 | fin {s:RS}:bp s l 0=true→s.era=e-1→NowT l e s
 | step {s:RS}:bp s l 0=true→s.era<e-1→NowT l e (aI s)→NowT l e s
inductive CrP (l:List HOp) (e:Int):RS→RS→Prop
 | refl (s:RS):CrP l e s s
 | step {s t:RS}:bp s l 0=true→s.era<e-1→CrP l e (aI s) t→CrP l e s t
def crF (l:List HOp) (E:Int):Nat→RS→RS
 | 0,t=>t
 | N+1,t=>if decide (t.era<E)&&bp t l 0 then crF l E N (aI t) else t
def dB (f:Nat→HOp→Bool):List HOp→Nat→Int
 | [],_ => -1
 | o::r,i=>if f i o then (i:Int) else dB f r (i+1)
def eA (l:List HOp) (e M:Nat) (s:RS) (i:Nat) (o:HOp):Bool:=(aL (crF l o.era e s) l i o).2&&dU l e M (aL (crF l o.era e s) l i o).1
def e8 (l:List HOp) (n e M:Nat):Nat→RS→List Int→List Int×Bool
 | 0,_,_=>([],false)
 | N+1,s,out=>if fp n n l out=0 then (out,true) else
  match l[(dB (eA l e M s) l 0).toNat]? with
  | none=>([],false)
  | some o=>if dB (eA l e M s) l 0<0 then ([],false) else e8 l n e M N (aL (aP o.era s) l (dB (eA l e M s) l 0).toNat o).1 (out++[dB (eA l e M s) l 0])
theorem pu {s:RS}:∀(l:List HOp) (k:Nat),bp s l k=true ↔ ∀(j:Nat) (q:HOp),l[j]?=some q→q.era=s.era→bf q=true→hasB s.taken ((k+j:Nat):Int)=true:=by
 intro l
 induction l with
 | nil=>intro k; simp[bp]
 | cons a l ih =>
  intro k
  rw[bp,Bool.and_eq_true,ih]
  constructor
  ·rintro⟨h1,h2⟩ j q hj hq hm
   cases j with
   | zero =>
    simp at hj; subst hj
    rw[hm,dT hq]at h1
    simpa using h1
   | succ j=>rw[show k+(j+1)=k+1+j by omega]; exact h2 j q (by simpa using hj) hq hm
  ·intro h1
   refine⟨?_,fun j q hj hq hm=>by rw[show k+1+j=k+(j+1) by omega]; exact h1 (j+1) q (by simpa using hj) hq hm⟩
   cases ha:decide (a.era=s.era) with
   | false=>rfl
   | true =>
    cases hb:bf a with
    | false=>rfl
    | true =>
     have:=h1 0 a rfl (of_decide_eq_true ha) hb
     rw[Nat.add_zero]at this
     have h2:s.taken.any (fun y=>decide (y=(k:Int)))=true:=this
     rw[h2]; rfl
section
variable {l : List HOp} {n e : Nat} {p : Prep} {ks : List Int} {kv : List (List UInt8)}
theorem CrP.snoc {E:Int} {s t:RS} (h:CrP l E s t) (h1:bp t l 0=true) (h2:t.era<E-1):CrP l E s (aI t):=by
 induction h with
 | refl s=>exact .step h1 h2 (.refl _)
 | step a b _ ih=>exact .step a b (ih h1 h2)
theorem NowT.inv {E:Int} {s:RS} (h:NowT l E s):bp s l 0=true∧(s.era=E-1∨s.era<E-1∧NowT l E (aI s)):=by
 cases h with
 | fin h1 h2=>exact⟨h1,.inl h2⟩
 | step h1 h2 h3=>exact⟨h1,.inr ⟨h2,h3⟩⟩
theorem CrP.now {E:Int} {s t:RS} (h:CrP l E s t):NowT l E s↔NowT l E t:=by
 induction h with
 | refl s=>exact Iff.rfl
 | step a b _ ih =>
  rw[←ih]
  constructor
  ·intro h
   rcases h.inv.2 with h | h
   ·omega
   ·exact h.2
  ·exact fun h=>.step a b h
theorem CrP.era_le {E:Int} {s t:RS} (h:CrP l E s t):s.era≤t.era:=by
 induction h with
 | refl s=>exact Int.le_refl _
 | step a b _ ih=>simp only[aI]at ih; omega
theorem CrP.rg (S:Sc l n e p ks kv) {s t:RS} (h:CrP l e s t):RG l n e p ks kv s→RG l n e p ks kv t∧muR l e t≤muR l e s:=by
 induction h with
 | refl s=>exact fun h=>⟨h,Nat.le_refl _⟩
 | step a b _ ih =>
  intro hs
  obtain⟨h1,h2⟩:=S.rgSteps hs (x:=(-1,aI _)) (bd.2 (.inr ⟨b,a,rfl⟩))
  obtain⟨h3,h4⟩:=ih h1
  exact⟨h3,by simp only at h2; omega⟩
theorem CrP.must {E:Int} {s t:RS} (h:CrP l E s t):∀(j:Nat) (o:HOp),l[j]?=some o→bf o=true→s.era≤o.era→o.era<t.era→o.era=s.era∧hasB s.taken (j:Int)=true:=by
 induction h with
 | refl s=>exact fun j o _ _ h1 h2=>by omega
 | step a b _ ih =>
  intro j o ho hm h1 h2
  rename_i s t _
  by_cases he:o.era=s.era
  ·have:=(pu l 0).1 a j o ho he hm
   rw[Nat.zero_add]at this
   exact⟨he,this⟩
  ·have:=(ih j o ho hm (by simp only[aI]; omega) h2).2
   simp[aI]at this
theorem iQ {E:Int} {s:RS} (h:¬s.era<E) (N:Nat):crF l E N s=s:=by
 cases N with
 | zero=>rfl
 | succ N=>rw[crF,dF h,Bool.false_and,if_neg Bool.false_ne_true]
theorem pF {E:Int}:∀(N M:Nat) (s:RS),(E-s.era).toNat≤N→(E-s.era).toNat≤M→crF l E N s=crF l E M s
 | 0,M,s,h1,_=>by rw[iQ (by omega),iQ (by omega)]
 | N+1,0,s,_,h2=>by rw[iQ (by omega),iQ (by omega)]
 | N+1,M+1,s,h1,h2=>by
  rw[crF,crF]
  split
  ·rename_i hc
   simp only[Bool.and_eq_true,decide_eq_true_eq]at hc
   exact pF N M (aI s) (by simp only[aI]; omega) (by simp only[aI]; omega)
  ·rfl
theorem CrP.crF {E:Int} {N:Nat} {X:Int} {s t:RS} (h:CrP l X s t) (hE:t.era≤E) (h0:(E-s.era).toNat≤N):crF l E N s=crF l E N t:=by
 induction h with
 | refl s=>rfl
 | step a b hc ih =>
  rename_i s t
  have h1:=hc.era_le
  simp only[aI]at h1
  rw[←ih hE (by simp only[aI]; omega)]
  cases N with
  | zero=>omega
  | succ N =>
   rw[Go.Proofs.Ytmdgmolbamlicaa.crF,dT (by omega),a,Bool.true_and,if_pos rfl]
   exact pF N (N+1) (aI s) (by simp only[aI]; omega) (by simp only[aI]; omega)
theorem A4 {E:Int}:∀(N:Nat) (s:RS),s.era≤E→(crF l E N s).era=E→crF l E N s=aP E s
 | 0,s,h1,h2=>by
  rw[crF]at h2 ⊢
  rw[aP,if_neg (by omega)]
 | N+1,s,h1,h2=>by
  rw[crF]at h2 ⊢
  split at h2
  ·rename_i hc
   rw[if_pos hc]
   simp only[Bool.and_eq_true,decide_eq_true_eq]at hc
   have key:aP E (aI s)=⟨E,[],s.dur,s.dur⟩:=by
    unfold aP
    by_cases h3:(aI s).era<E
    ·rw[if_pos h3]; rfl
    ·rw[if_neg h3]
     have h4:E=s.era+1:=by simp only[aI]at h3; omega
     rw[h4]; rfl
   rw[A4 N (aI s) (by simp only[aI]; omega) h2,key,aP,if_pos hc.1]
  ·rename_i hc
   rw[if_neg hc,aP,if_neg (by omega)]
theorem qG {f:Nat→HOp→Bool} {j:Nat} {o:HOp}:∀(r:List HOp) (i:Nat),r[j]?=some o→f (i+j) o=true→(∀(k:Nat) (q:HOp),k<j→r[k]?=some q→f (i+k) q=false)→dB f r i=((i+j:Nat):Int)
 | [],i,h,_,_=>by simp at h
 | a::r,i,h,h1,h2=>by
  rw[dB]
  cases j with
  | zero =>
   simp at h; subst h
   rw[Nat.add_zero]at h1
   rw[h1,if_pos rfl,Nat.add_zero]
  | succ j =>
   have h3:=h2 0 a (by omega) rfl
   rw[Nat.add_zero]at h3
   rw[h3,if_neg Bool.false_ne_true,qG r (i+1) (j:=j) (by simpa using h) (by rw[show i+1+j=i+(j+1) by omega]; exact h1) fun k q hk hq=>by
    rw[show i+1+k=i+(k+1) by omega]; exact h2 (k+1) q (by omega) (by simpa using hq)]
   congr 1; omega
theorem Sc.nowG (S:Sc l n e p ks kv) {q:QS} {sp:List (List aF)} (I:SI l n e p ks kv q.2.length q sp):∀(N:Nat) (i:Int) (s:RS),RG l n e p ks kv s→(e:Int)-s.era≤N→0≤i→q.2[i.toNat]?=some (encS p ks s)→(mn p l e q.2 sp N i=true↔NowT l e s)
 | 0,_,s,h,hN,_,_=>by have:=h.era; omega
 | N+1,i,s,h,hN,hi0,hi=>by
  have hil:=(List.getElem?_eq_some_iff.1 hi).1
  obtain⟨ys,hys⟩:∃ys,sp[i.toNat]?=some ys:=⟨_,List.getElem?_eq_getElem (by rw[I.len]; exact hil)⟩
  obtain⟨m1,m2⟩:=(I.rel i.toNat s ys h hi hys).mem
  have hspN:spN sp i=ys:=by rw[spN,hys]; rfl
  have hstN:stN q.2 i=encS p ks s:=by rw[stN,hi]; rfl
  have he:(encS p ks s).era=s.era:=rfl
  rw[mn,hspN,hstN,he]
  by_cases h1:s.era=(e:Int)-1
  ·rw[if_pos (dT h1)]
   have:=S.full h
   rw[he]at *
   rw[show jH l p.lo (zOf p s.era) (encS p ks s)=bp s l 0 from S.full h]
   exact⟨fun h2=>.fin h2 h1,fun h2=>h2.inv.1⟩
  ·rw[if_neg (by rw[dF h1]; decide)]
   cases hf:ys.find? (fun y=>decide (y.op<0)) with
   | none =>
    simp only[Bool.false_eq_true,false_iff]
    intro h2
    rcases h2.inv with ⟨a,b | ⟨b,c⟩⟩
    ·exact h1 b
    ·obtain⟨y,hy,e1,_⟩:=m2 _ (bd.2 (.inr ⟨b,a,rfl⟩))
     have:=List.find?_eq_none.1 hf y hy
     rw[e1]at this
     exact this rfl
   | some y =>
    have hyn:y.op<0:=of_decide_eq_true (List.find?_some (p:=fun y:aF=>decide (y.op<0)) hf)
    obtain⟨x,hx,e1,e2,e3⟩:=m1 y (List.mem_of_find?_eq_some hf)
    rcases bd.1 hx with ⟨j,o,_,_,rfl⟩ | ⟨a,b,rfl⟩
    ·simp only at e1; omega
    ·obtain⟨c1,_⟩:=S.rgSteps h hx
     rw[S.nowG I N y.to (aI s) c1 (by simp only[aI]; omega) e2 e3]
     exact⟨fun h2=>.step b a h2,fun h2=>by
      rcases h2.inv.2 with h3 | h3
      ·omega
      ·exact h3.2⟩
theorem StL.find {a:List LSt} {g:List Bool} {f:RS→Bool}:∀ {ys:List aF} {xs:List (Int×RS)},StL p ks a ys xs→(∀y∈ys,∀x∈xs,a[y.to.toNat]?=some (encS p ks x.2)→gX g y=f x.2) →
  (ys.find? (gX g)=none∧xs.find? (fun x=>f x.2)=none)∨∃y x,ys.find? (gX g)=some y∧xs.find? (fun x=>f x.2)=some x∧y.op=x.1∧0≤y.to∧a[y.to.toNat]?=some (encS p ks x.2)
 | [],[],_,_=>.inl ⟨rfl,rfl⟩
 | y::ys,x::xs,⟨h1,h2⟩,hg=>by
  have hb:=hg y List.mem_cons_self x List.mem_cons_self h1.2.2
  rw[List.find?_cons,List.find?_cons,hb]
  cases f x.2 with
  | true=>exact .inr ⟨y,x,rfl,rfl,h1⟩
  | false=>exact StL.find h2 fun y hy x hx=>hg y (List.mem_cons_of_mem _ hy) x (List.mem_cons_of_mem _ hx)
 | [],_::_,h,_=>h.elim
 | _::_,[],h,_=>h.elim
theorem CJ {s:RS} {f:RS→Bool}:∀(r:List HOp) (i:Nat),l.drop i=r →
  (match (rStO l s r i).find? (fun x=>f x.2) with
  | none=>∀(j:Nat) (o:HOp),i≤j→l[j]?=some o→((aL s l j o).2&&f (aL s l j o).1)=false
  | some x=>∃(j:Nat) (o:HOp),i≤j∧l[j]?=some o∧(aL s l j o).2=true∧f (aL s l j o).1=true∧x=((j:Int),(aL s l j o).1)∧∀(k:Nat) (q:HOp),i≤k→k<j→l[k]?=some q→((aL s l k q).2&&f (aL s l k q).1)=false)
 | [],i,h=>by
  have hl:l.length≤i:=List.drop_eq_nil_iff.1 h
  intro j o h1 h2
  have:=(List.getElem?_eq_some_iff.1 h2).1
  omega
 | o::r,i,h=>by
  have ho:l[i]?=some o:=by
   have:=congrArg (fun x=>x[0]?) h
   simpa using this
  have hr:l.drop (i+1)=r:=by
   have:=congrArg List.tail h
   simpa using this
  have ih:=CJ (s:=s) (f:=f) r (i+1) hr
  rw[rStO,List.find?_append]
  have key:∀(b:Bool),((aL s l i o).2&&f (aL s l i o).1)=b→(rSt1 s l i o).find? (fun x=>f x.2)=if b then some ((i:Int),(aL s l i o).1) else none:=by
   intro b hb
   unfold rSt1
   cases h1:(aL s l i o).2 with
   | false =>
    rw[h1]at hb
    rw[←hb]; rfl
   | true =>
    rw[h1,Bool.true_and]at hb
    rw[if_pos rfl,List.find?_cons]
    simp only[hb]
    cases b <;> rfl
  cases hb:((aL s l i o).2&&f (aL s l i o).1) with
  | true =>
   rw[key true hb]
   simp only[Bool.and_eq_true]at hb
   exact⟨i,o,Nat.le_refl _,ho,hb.1,hb.2,rfl,fun k q h1 h2=>by omega⟩
  | false =>
   rw[key false hb]
   simp only[Bool.false_eq_true,if_false,Option.none_or]
   cases hf:(rStO l s r (i+1)).find? (fun x=>f x.2) with
   | none =>
    rw[hf]at ih
    simp only at ih ⊢
    intro j o' h1 h2
    by_cases hj:j=i
    ·subst hj
     rw[ho]at h2; cases h2
     exact hb
    ·exact ih j o' (by omega) h2
   | some x =>
    rw[hf]at ih
    simp only at ih ⊢
    obtain⟨j,o',h1,h2,h3,h4,h5,h6⟩:=ih
    refine⟨j,o',by omega,h2,h3,h4,h5,fun k q k1 k2 k3=>?_⟩
    by_cases hk:k=i
    ·subst hk
     rw[ho]at k3; cases k3
     exact hb
    ·exact h6 k q (by omega) k2 k3
end
end Go.Proofs.Ytmdgmolbamlicaa
namespace Go.Proofs.Ytmdgmolbamlicaa
open Go.Eng Go.Plain
set_option maxHeartbeats 32000000
set_option maxRecDepth 20000
def jF (l:List HOp):List Int→RS→RS
 | [],s=>s
 | i::os,s=>match l[i.toNat]? with
  | none=>s
  | some o=>jF l os (hapR (aP o.era s) o).1
def noTk (s:RS):RS := { s with taken:=[] }
structure AccI (l:List HOp) (n:Nat) (s:RS) (out:List Int):Prop where
 acc:dS n l out [] (am n)=0
 st:jF l out (am n)=noTk s
 now:∀(j:Nat) (o:HOp),l[j]?=some o→o.era=s.era→hasB out (j:Int)=hasB s.taken (j:Int)
 old:∀(j:Nat) (o:HOp),l[j]?=some o→o.era<s.era→bf o=true→hasB out (j:Int)=true
 new:∀(j:Nat) (o:HOp),l[j]?=some o→s.era<o.era→hasB out (j:Int)=false
 val:∀i∈out,∃(j:Nat) (o:HOp),i=j∧l[j]?=some o
section
variable {l : List HOp} {n e : Nat} {p : Prep} {ks : List Int} {kv : List (List UInt8)}
theorem qg {b:Int} {i:Int}:∀(os pre:List Int) (s:RS),dS b l os pre s=0→dS b l (os++[i]) pre s=dS b l [i] (pre++os) (jF l os s)
 | [],pre,s,_=>by rw[List.nil_append,List.append_nil]; rfl
 | a::os,pre,s,h=>by
  rw[dS]at h
  rw[List.cons_append,dS]
  split at h
  ·cases h
  ·rename_i h0
   rw[if_neg h0]
   cases ho:l[a.toNat]? with
   | none=>rw[ho]at h; cases h
   | some o =>
    rw[ho]at h
    simp only at h ⊢
    have h1:¬(pre.any (fun y=>decide (y=a))=true):=fun c=>by rw[if_pos c]at h; cases h
    rw[if_neg h1]at h ⊢
    have h2:¬(mayB o b=false):=fun c=>by rw[if_pos c]at h; cases h
    rw[if_neg h2]at h ⊢
    have h3:¬(pre.any (befA l o)=true):=fun c=>by rw[if_pos c]at h; cases h
    rw[if_neg h3]at h ⊢
    have h4:¬((hapR (aP o.era s) o).2=false):=fun c=>by rw[if_pos c]at h; cases h
    rw[if_neg h4]at h ⊢
    rw[qg os (pre++[a]) _ h,jF,ho,List.append_assoc]
    rfl
theorem qh {i:Int}:∀(os:List Int) (s:RS),(∀j∈os,∃(k:Nat) (o:HOp),j=k∧l[k]?=some o)→jF l (os++[i]) s=jF l [i] (jF l os s)
 | [],s,_=>rfl
 | a::os,s,h=>by
  obtain⟨k,o,rfl,ho⟩:=h a List.mem_cons_self
  have h1:∀os:List Int,jF l ((k:Int)::os) s=jF l os (hapR (aP o.era s) o).1:=fun os=>by rw[jF,Int.toNat_natCast,ho]
  rw[List.cons_append,h1,h1]
  exact qh os _ fun j hj=>h j (List.mem_cons_of_mem _ hj)
structure ScL (l:List HOp) (e:Nat):Prop where
 er:∀(j:Nat) (o:HOp),l[j]?=some o→0≤o.era∧o.era<e
 mono:∀(i j:Nat) (o q:HOp),i≤j→l[i]?=some o→l[j]?=some q→o.era≤q.era
theorem AccI.first (L:ScL l e) (n:Nat):AccI l n (am n) []:=
 ⟨rfl,rfl,fun _ _ _ _=>rfl,fun j o ho h1 _=>(by have:=(L.er j o ho).1; simp only[am]at h1; omega),fun _ _ _ _=>rfl,fun _ h=>(by cases h)⟩
theorem fy (s:RS):aP s.era s=s:=by rw[aP,if_neg (by omega)]
theorem CrP.to {E:Int} {s t:RS} (h:CrP l E s t):t=aP t.era s:=by
 induction h with
 | refl s=>rw[fy]
 | step a b hc ih =>
  rename_i s t
  have h1:=hc.era_le
  have h0:(aI s).era=s.era+1:=rfl
  rw[h0]at h1
  have key:aP t.era (aI s)=⟨t.era,[],s.dur,s.dur⟩:=by
   unfold aP
   by_cases h3:(aI s).era<t.era
   ·rw[if_pos h3]; rfl
   ·rw[if_neg h3]
    have h4:t.era=s.era+1:=by omega
    rw[h4]; rfl
  rw[aP,if_pos (by omega),←key]
  exact ih
theorem vw (E:Int) (s:RS):aP E (noTk s)=noTk (aP E s):=by
 unfold aP noTk
 by_cases h:s.era<E
 ·rw[if_pos h,if_pos h]
 ·rw[if_neg h,if_neg h]
theorem wx (s:RS) (o:HOp):hapR (noTk s) o=(noTk (hapR s o).1,(hapR s o).2):=by
 unfold hapR
 split
 ·rfl
 ·split <;> rfl
theorem po (T:List Int) (i j:Int):hasB (T++[i]) j=(hasB T j||decide (i=j)):=by
 simp[hasB]
theorem AccI.step (S:Sc l n e p ks kv) {s0 s':RS} {out:List Int} (h0:RG l n e p ks kv s0) (C:CrP l e s0 s') (A:AccI l n s0 out) {j:Nat} {o:HOp} (ho:l[j]?=some o) (ht:(aL s' l j o).2=true):AccI l n (aL s' l j o).1 (out++[(j:Int)]):=by
 have hs':=(C.rg S h0).1
 have hle:=C.era_le
 have hto:=C.to
 obtain⟨q1,q2,q3,q4⟩:=eR (bW ht)
 rw[hs'.ok.al]at q2
 have hsame:s'.era=s0.era→s'=s0:=fun h=>by rw[h,fy]at hto; exact hto
 have hfar:s0.era<s'.era→s'.taken=[]:=fun h=>by rw[hto,aP,if_pos h]
 have hout:hasB out (j:Int)=false:=by
  by_cases h:s'.era=s0.era
  ·rw[A.now j o ho (by omega),←hsame h]; exact q3
  ·exact A.new j o ho (by omega)
 have hbef:out.any (befA l o)=false:=by
  rw[Bool.eq_false_iff]
  intro h
  obtain⟨x,hx,hb⟩:=List.any_eq_true.1 h
  obtain⟨k,q,rfl,hq⟩:=A.val x hx
  have hk:hasB out (k:Int)=true:=tw.2 hx
  have hb:befB o q=true:=by rw[befA,Int.toNat_natCast,hq]at hb; exact hb
  by_cases h1:s0.era<q.era
  ·rw[A.new k q hq h1]at hk; cases hk
  ·by_cases h2:o.era=q.era
   ·have h3:s'.era=s0.era:=by omega
    have h4:=A.now k q hq (by omega)
    rw[hk,←hsame h3]at h4
    have:hitL s' o l 0=true:=(eU l 0).2 ⟨k,q,hq,by
     rw[Nat.zero_add,hitB,if_pos h4.symm]; exact hb⟩
    rw[q4]at this; cases this
   ·rw[befB,if_neg h2]at hb
    have:=of_decide_eq_true hb
    omega
 have htk:aL s' l j o=({ (hapR s' o).1 with taken:=cf s'.taken j },(hapR s' o).2):=by rw[aL,if_pos (bW ht)]
 have hfit:(hapR s' o).2=true:=by rw[htk]at ht; exact ht
 have hera:(aL s' l j o).1.era=s'.era:=eQ
 have htaken:(aL s' l j o).1.taken=cf s'.taken j:=by rw[htk]
 have hcr:aP o.era (noTk s0)=noTk s':=by rw[vw,q1,←hto]
 refine⟨?_,?_,fun k q hq he=>?_,fun k q hq he hm=>?_,fun k q hq he=>?_,fun i hi=>?_⟩
 ·rw[qg out [] _ A.acc,A.st,List.nil_append,dS,if_neg (by omega),Int.toNat_natCast,ho]
  simp only
  rw[if_neg (show ¬(out.any (fun y=>decide (y=(j:Int)))=true) by rw[show out.any (fun y=>decide (y=(j:Int)))=false from hout]; decide),if_neg (by rw[q2]; decide),if_neg (by rw[hbef]; decide),hcr,wx,hfit,if_neg (by decide)]
  rfl
 ·rw[qh out _ A.val,A.st,jF,Int.toNat_natCast,ho]
  simp only[jF]
  rw[hcr,wx,htk]
  rfl
 ·rw[hera]at he
  rw[po,htaken,cM]
  congr 1
  by_cases h:s'.era=s0.era
  ·rw[A.now k q hq (by omega),←hsame h]
  ·rw[A.new k q hq (by omega),hfar (by omega)]; rfl
 ·rw[hera]at he
  rw[po]
  have:hasB out (k:Int)=true:=by
   by_cases h:q.era<s0.era
   ·exact A.old k q hq h hm
   ·obtain⟨h1,h2⟩:=C.must k q hq hm (by omega) he
    rw[A.now k q hq h1]; exact h2
  rw[this]; rfl
 ·rw[hera]at he
  rw[po,A.new k q hq (by omega),Bool.false_or]
  refine dF fun h=>?_
  have:j=k:=by omega
  subst this
  rw[ho]at hq; cases hq
  omega
 ·rcases List.mem_append.1 hi with hi | hi
  ·exact A.val i hi
  ·exact⟨j,o,List.mem_singleton.1 hi,ho⟩
theorem sI {ord:List Int}:∀(l:List HOp) (k:Nat),eI ord l k=false ↔ ∀(j:Nat) (o:HOp),l[j]?=some o→bf o=true→hasB ord ((k+j:Nat):Int)=true
 | [],k=>by simp[eI]
 | a::l,k=>by
  rw[eI,Bool.or_eq_false_iff,sI l (k+1)]
  constructor
  ·rintro⟨h1,h2⟩ j o hj hm
   cases j with
   | zero =>
    simp at hj; subst hj
    rw[hm,Bool.true_and]at h1
    simpa using h1
   | succ j=>rw[show k+(j+1)=k+1+j by omega]; exact h2 j o (by simpa using hj) hm
  ·intro h1
   refine⟨?_,fun j o hj hm=>by rw[show k+1+j=k+(j+1) by omega]; exact h1 (j+1) o (by simpa using hj) hm⟩
   cases hm:bf a with
   | false=>rfl
   | true =>
    have:=h1 0 a rfl hm
    rw[Nat.add_zero]at this
    have h2:ord.any (fun y=>decide (y=(k:Int)))=true:=this
    rw[h2]; rfl
theorem rH (L:ScL l e):∀(d:Nat) (s:RS),s.era<e→(e:Int)-1-s.era≤d→(NowT l e s ↔ ∀(j:Nat) (o:HOp),l[j]?=some o→bf o=true→s.era≤o.era→o.era=s.era∧hasB s.taken (j:Int)=true)
 | d,s,he,hd=>by
  have key:(bp s l 0=true) ↔ ∀(j:Nat) (o:HOp),l[j]?=some o→o.era=s.era→bf o=true→hasB s.taken (j:Int)=true:=by
   rw[pu l 0]
   simp only[Nat.zero_add]
  constructor
  ·intro h j o ho hm h1
   obtain⟨h2,h3⟩:=h.inv
   have h2:=key.1 h2
   by_cases h4:o.era=s.era
   ·exact⟨h4,h2 j o ho h4 hm⟩
   ·have:=(L.er j o ho).2
    rcases h3 with h3 | ⟨h3,h5⟩
    ·omega
    ·cases d with
     | zero=>omega
     | succ d =>
      have h0:(aI s).era=s.era+1:=rfl
      have:=((rH L d (aI s) (by rw[h0]; omega) (by rw[h0]; omega)).1 h5 j o ho hm (by rw[h0]; omega)).2
      simp[aI]at this
  ·intro h
   have hf:=key.2 fun j o ho h1 hm=>(h j o ho hm (by omega)).2
   by_cases h3:s.era=(e:Int)-1
   ·exact .fin hf h3
   ·cases d with
    | zero=>omega
    | succ d =>
     have h0:(aI s).era=s.era+1:=rfl
     refine .step hf (by omega) ((rH L d (aI s) (by rw[h0]; omega) (by rw[h0]; omega)).2 fun j o ho hm h1=>?_)
     have:=(h j o ho hm (by rw[h0]at h1; omega)).1
     rw[h0]at h1
     omega
theorem AccI.done (L:ScL l e) {s:RS} {out:List Int} (he:s.era<e) (h0:0≤s.era) (A:AccI l n s out):fp n n l out=0↔NowT l e s:=by
 rw[fp,A.acc,if_pos rfl,rH L e s he (by omega)]
 have h1:((if eI out l 0=true then (15:Int) else 0)=0)↔eI out l 0=false:=by
  cases eI out l 0 <;> simp
 rw[h1,sI l 0]
 simp only[Nat.zero_add]
 constructor
 ·intro h j o ho hm h2
  have h3:=h j o ho hm
  by_cases h4:o.era=s.era
  ·exact⟨h4,by rw[←A.now j o ho h4]; exact h3⟩
  ·rw[A.new j o ho (by omega)]at h3; cases h3
 ·intro h j o ho hm
  by_cases h4:o.era<s.era
  ·exact A.old j o ho h4 hm
  ·obtain⟨h5,h6⟩:=h j o ho hm (by omega)
   rw[A.now j o ho h5]; exact h6
theorem Sc.least (S:Sc l n e p ks kv) (L:ScL l e) {q:QS} {sp:List (List aF)} (I:SI l n e p ks kv q.2.length q sp) (hsp:SpOk q.2 sp) {MM:Nat} (hMM:∀s,RG l n e p ks kv s→muR l e s<MM):∀(N:Nat) (i:Int) (s' s0:RS) (acc:List Int) (M:Nat),RG l n e p ks kv s0→CrP l e s0 s'→0≤i→q.2[i.toNat]?=some (encS p ks s')→EndT l e s' →
  (∀(j:Nat) (o:HOp),l[j]?=some o→o.era<s'.era→eA l e MM s0 j o=false)→AccI l n s0 acc→muR l e s'<N→muR l e s0<M→e8 l n e MM M s0 acc=(eO p l e q.2 sp (dV p l e q.2 sp) N i acc,true)
 | 0,_,_,_,_,_,_,_,_,_,_,_,_,hN,_=>by omega
 | N+1,i,s',s0,acc,0,_,_,_,_,_,_,_,_,hM=>by omega
 | N+1,i,s',s0,acc,M+1,h0,C,hi0,hi,hE,hno,A,hN,hM=>by
  obtain⟨hs,hmu⟩:=C.rg S h0
  have e0:=h0.ok.e0
  have e1:=hs.era
  have hle:=C.era_le
  have hil:=(List.getElem?_eq_some_iff.1 hi).1
  have hdone:=A.done L h0.era e0
  rw[C.now]at hdone
  have hgE:∀x,RG l n e p ks kv x→(dU l e MM x=true↔EndT l e x):=fun x hx=>S.endG MM x hx (hMM x hx)
  rw[eO,e8]
  by_cases hnow:NowT l e s'
  ·rw[if_pos ((S.nowG I e i s' hs (by have:=hs.ok.e0; omega) hi0 hi).2 hnow),if_pos (hdone.2 hnow)]
  have hcr:∀E:Int,s'.era=E→crF l E e s0=s':=fun E hE2=>by
   rw[C.crF (by omega) (by omega),iQ (by omega)]
  rw[if_neg (fun h=>hnow ((S.nowG I e i s' hs (by have:=hs.ok.e0; omega) hi0 hi).1 h)),if_neg (fun h=>hnow (hdone.1 h))]
  obtain⟨ys,hys⟩:∃ys,sp[i.toNat]?=some ys:=⟨_,List.getElem?_eq_getElem (by rw[I.len]; exact hil)⟩
  have hst:=I.rel i.toNat s' ys hs hi hys
  have hspN:spN sp i=ys:=by rw[spN,hys]; rfl
  rw[hspN]
  have hgood:∀y∈ys,∀x∈b9 l e s',q.2[y.to.toNat]?=some (encS p ks x.2)→gX (dV p l e q.2 sp) y=dU l e MM x.2:=fun y _ x hx hy=>by
   have hx2:=(S.rgSteps hs hx).1
   rw[Bool.eq_iff_iff,hgE x.2 hx2,←S.good I hsp (muR l e x.2+1) _ x.2 hx2 (Nat.lt_succ_self _) hy,gX]
   cases (dV p l e q.2 sp)[y.to.toNat]? with
   | none=>simp
   | some b=>simp
  rcases hst.find hgood with ⟨f1,f2⟩ | ⟨y,x,f1,f2,f3,f4,f5⟩
  ·exfalso
   rcases hE.inv with ⟨h1,h2⟩ | ⟨x,hx,h2⟩
   ·exact hnow (.fin h1 h2)
   ·have:=List.find?_eq_none.1 f2 x hx
    exact this ((hgE x.2 (S.rgSteps hs hx).1).2 h2)
  ·rw[f1]
   simp only
   have hxm:=List.mem_of_find?_eq_some f2
   obtain⟨hx1,hx2⟩:=S.rgSteps hs hxm
   have hxE:EndT l e x.2:=(hgE x.2 hx1).1 (List.find?_some (p:=fun x:Int×RS=>dU l e MM x.2) f2)
   have hO:=CJ (s:=s') (f:=dU l e MM) l 0 List.drop_zero
   rw[b9,List.find?_append]at f2
   cases hf:(rStO l s' l 0).find? (fun x=>dU l e MM x.2) with
   | some z =>
    rw[hf,Option.some_or]at f2
    cases f2
    rw[hf]at hO
    simp only at hO
    obtain⟨j,o,_,h2,h3,h4,h5,h6⟩:=hO
    have hoe:=(eR (bW h3)).1
    have hfst:dB (eA l e MM s0) l 0=(j:Int):=by
     have:=qG (f:=eA l e MM s0) l 0 (j:=j) h2 (by
      rw[Nat.zero_add,eA,hcr _ hoe.symm,h3,h4]; rfl) fun k r hk hr=>by
      rw[Nat.zero_add]
      have hm:=L.mono k j r o (by omega) hr h2
      by_cases hlt:r.era<s'.era
      ·exact hno k r hr hlt
      ·rw[eA,hcr _ (by omega)]
       exact h6 k r (Nat.zero_le _) hk hr
     rwa [Nat.zero_add]at this
    rw[hfst,Int.toNat_natCast,h2]
    simp only
    rw[if_neg (by omega)]
    have hop:y.op=(j:Int):=by rw[f3,h5]
    have hs0':aP o.era s0=s':=by rw[hoe]; exact C.to.symm
    rw[hop,if_pos (dT (by omega)),hs0']
    rw[h5]at hx1 hx2 hxE f5
    simp only at hx1 hx2 hxE f5
    refine S.least L I hsp hMM N y.to _ _ _ M hx1 (.refl _) f4 f5 hxE (fun k r hr hlt=>?_) (A.step S h0 C h2 h3) (by omega) (by omega)
    rw[eA,iQ (by omega)]
    cases ht:(aL (aL s' l j o).1 l k r).2 with
    | false=>rfl
    | true =>
     have:=(eR (bW ht)).1
     omega
   | none =>
    rw[hf,Option.none_or]at f2
    rw[hf]at hO
    simp only at hO
    unfold rStC at f2
    split at f2
    ·rename_i hc
     simp only[Bool.and_eq_true,decide_eq_true_eq]at hc
     have hxe:=List.mem_of_find?_eq_some f2
     have hxe:=List.mem_singleton.1 hxe
     subst hxe
     simp only at f3 f5 hx1 hx2 hxE
     have hw:e8 l n e MM (M+1) s0 acc=(eO p l e q.2 sp (dV p l e q.2 sp) N y.to acc,true):=by
      refine S.least L I hsp hMM N y.to (aI s') s0 acc (M+1) h0 (C.snoc hc.2 hc.1) f4 f5 hxE (fun k r hr hlt=>?_) A (by omega) hM
      have h0:(aI s').era=s'.era+1:=rfl
      rw[h0]at hlt
      by_cases h2:r.era<s'.era
      ·exact hno k r hr h2
      ·rw[eA,hcr _ (by omega)]
       exact hO k r (Nat.zero_le _) hr
     rw[e8,if_neg (fun h=>hnow (hdone.1 h))]at hw
     rw[hw,if_neg (by rw[f3]; decide)]
    ·cases f2
end
def cI (l:List HOp) (n e M:Nat):List Int×Bool:=if dU l e M (am n)=true then e8 l n e M M (am n) [] else ([],false)
theorem mS {l:List HOp} {n e:Nat} {p:Prep} {ks:List Int} {kv:List (List UInt8)} (S:Sc l n e p ks kv) (L:ScL l e) (he:0<e) {q:QS} {sp:List (List aF)} (I:SI l n e p ks kv q.2.length q sp) (hsp:SpOk q.2 sp) {μ:Nat→Nat} (dn:∀(i:Nat) ys,sp[i]?=some ys→∀y∈ys,μ y.to.toNat<μ i) {N M:Nat} (hN:μ 0<N) (hM:e*(l.length+1)<M) :
  ji p l e q.2 sp N=cI l n e M:=by
 have hMM:∀s,RG l n e p ks kv s→muR l e s<M:=fun s _=>by
  have:muR l e s≤e*(l.length+1):=Nat.le_trans (Nat.sub_le _ _) (Nat.mul_le_mul_right _ (Nat.sub_le _ _))
  omega
 have hf:=S.first he
 unfold ji cI
 have hg:=S.good I hsp (muR l e (am n)+1) 0 _ hf (Nat.lt_succ_self _) I.fst
 have hgE:=S.endG M _ hf (hMM _ hf)
 by_cases h:EndT l e (am n)
 ·rw[if_pos (hg.2 h),if_pos (hgE.2 h)]
  have h1:=gV (p:=p) (l:=l) (e:=e) (st:=q.2) (g:=dV p l e q.2 sp) dn N 0 [] (N+muR l e (am n)) hN (by show μ 0<_; omega)
  rw[h1]
  refine (S.least L I hsp hMM _ 0 (am n) (am n) [] M hf (.refl _) (Int.le_refl _) I.fst h (fun j o ho hlt=>?_) (.first L n) (by omega) (hMM _ hf)).symm
  have:=(L.er j o ho).1
  simp only[am]at hlt
  omega
 ·rw[if_neg (fun h2=>h (hg.1 h2)),if_neg (fun h2=>h (hgE.1 h2))]
end Go.Proofs.Ytmdgmolbamlicaa
namespace Go.Proofs.Ytmdgmolbamlicaa
open Go.Eng Go.Plain
set_option maxHeartbeats 32000000
set_option maxRecDepth 20000
theorem oa:∀(r:List HEv) (e x:Int),x∈eraL r e→x<e+1+((r.countP fun x=>decide (x.kind=3):Nat):Int)
 | [],_,_,h=>by cases h
 | y::r,e,x,h=>by
  rw[List.countP_cons]
  unfold eraL at h
  by_cases h3:y.kind=3
  ·rw[if_pos h3]at h
   have:=oa r (e+1) x h
   rw[if_pos (dT h3)]; omega
  ·rw[if_neg h3]at h
   split at h
   ·rcases List.mem_cons.1 h with rfl | h
    ·omega
    ·have:=oa r e x h; omega
   ·have:=oa r e x h; omega
theorem kJ:∀(r:List HEv) (e:Int),(eraL r e).Pairwise (· ≤ ·)
 | [],_=>.nil
 | y::r,e=>by
  unfold eraL
  split
  ·exact kJ r (e+1)
  ·split
   ·exact List.pairwise_cons.2 ⟨fun x hx=>kK r e x hx,kJ r e⟩
   ·exact kJ r e
theorem jW (h:List HEv):ScL (opsR h) (ao h):=by
 have hm:=mN h
 refine⟨fun j o ho=>?_,fun i j o q hij ho hq=>?_⟩
 ·have:o.era∈eraL h 0:=by rw[←hm]; exact List.mem_map.2 ⟨o,List.mem_of_getElem? ho,rfl⟩
  have h1:=kK h 0 _ this
  have h2:=oa h 0 _ this
  unfold ao
  omega
 ·by_cases he:i=j
  ·subst he; rw[ho]at hq; cases hq; exact Int.le_refl _
  ·have hp:=kJ h 0
   rw[←hm,List.pairwise_map,List.pairwise_iff_getElem]at hp
   have hi:=(List.getElem?_eq_some_iff.1 ho)
   have hj:=(List.getElem?_eq_some_iff.1 hq)
   have:=hp i j hi.1 hj.1 (by omega)
   rwa [hi.2,hj.2]at this
structure mG (h:List HEv):Prop where
 fit:bT h
 cl:Cl3 h
 len:h.length≤16
def bigM (h:List HEv):Nat:=ao h*((opsR h).length+1)+1
section
variable {l : List HOp} {n e : Nat} {p : Prep} {ks : List Int} {kv : List (List UInt8)}
theorem Sc.enough (S:Sc l n e p ks kv) {fuel:Int} {B:Nat} (hB:(B:Int)≤fuel) (hI:∀k q sp,SI l n e p ks kv k q sp→q.2.length≤B):∀(M k:Nat) (q:QS) (sp:List (List aF)),SI l n e p ks kv k q sp→fuel.toNat+2≤M+k→∃r,fc p l e fuel M k q sp=some r
 | 0,k,q,sp,I,hM=>by have:=hI k q sp I; have:=I.le; omega
 | M+1,k,q,sp,I,hM=>by
  have h1:=hI k q sp I
  rw[fc]
  cases hx:q.2[k]? with
  | none=>exact⟨(q,sp),by simp only; rw[if_neg (by omega)]⟩
  | some x =>
   simp only
   rw[if_neg (by omega)]
   exact S.enough hB hI M (k+1) _ _ (S.si1 I hx) (by omega)
end
theorem mG.go {h:List HEv} (H:mG h) {b:Nat} (h0:1≤b) (h1:b≤4096):fz h b 1048576∧bO h b 1048576=(cI (opsR h) b (ao h) (bigM h),0)∧opE h b=0∧lH h b=opsR h∧((cI (opsR h) b (ao h) (bigM h)).2=true↔EndT (opsR h) (ao h) (am b)):=by
 have hlen:=H.len
 have hchk:chkH h=(0,0):=ob H.fit (by omega)
 have hE:opE h b=0:=by rw[opE,hchk,if_pos rfl,if_neg (by omega)]
 have hL:lH h b=opsR h:=by rw[lH,opL,if_pos hE,opsH,hchk,if_pos rfl,jV (by rw[hchk])]
 have hol:(opsR h).length≤h.length:=ft h
 have hel:ao h≤17:=by have:=List.countP_le_length (p:=fun x:HEv=>decide (x.kind=3)) (l:=h); unfold ao; omega
 obtain⟨ks,kv,F⟩:=dP (opsR h) b (ao h)
 have S:=Sc.of F (by omega) (by omega) (by omega)
 have he:=dG h
 have hcount:∀k q sp,SI (opsR h) b (ao h) (cn (opsR h) b (ao h)) ks kv k q sp→q.2.length≤1015625:=fun k q sp I=>S.count he H.fit H.cl hlen I
 have hp:pH h b=cn (opsR h) b (ao h):=by rw[pH,hL]
 have hR:fz h b 1048576:=by
  refine yS h b 1048576 (by omega) (fun k q sp=>SI (opsR h) b (ao h) (cn (opsR h) b (ao h)) ks kv k q sp) (fun _=>?_) (fun i q sp x _ _ _ I hx _=>?_) (fun i q sp _ I=>?_) (fun r _ _ _ hr=>?_)
  ·rw[hp]; exact S.si0 he
  ·rw[hp,hL]; exact S.si1 I hx
  ·have:=hcount _ _ _ I; omega
  ·obtain⟨q,sp⟩:=r
   unfold gg at hr
   rw[hp,hL]at hr
   have h2:=hcount _ _ _ (S.si he hr)
   have h3:q.2.length*(h.length+1)≤1015625*17:=Nat.mul_le_mul h2 (by omega)
   show q.2.length*(h.length+1)+1≤_
   omega
 obtain⟨⟨q,sp⟩,hr⟩:=S.enough (fuel:=1048576) (B:=1015625) (by decide) hcount ((1048576:Int).toNat+2) 0 _ [] (S.si0 he) (Nat.le_refl _)
 have hr:kR (cn (opsR h) b (ao h)) (opsR h) (ao h) 1048576=some (q,sp):=hr
 have I:=S.si he hr
 have P:=F.ok (by omega:(opsR h).length≤8192)
 obtain⟨I2,_⟩:=gn P he hr
 have hsame:=mS S (jW h) he I I2.spOk (μ:=muS (cn (opsR h) b (ao h)) (ao h) q.2) (N:=ao h+sumM (opsR h) b (ao h)+1) (fun i ys hys y hy=>I2.dn i ys hys y hy) (by rw[mu0 F I2 he]; exact Nat.lt_succ_self _) (Nat.lt_succ_self (ao h*((opsR h).length+1)))
 have hleg:(cI (opsR h) b (ao h) (bigM h)).2=true↔EndT (opsR h) (ao h) (am b):=by
  rw[bigM,←hsame,←S.good I I2.spOk (muR (opsR h) (ao h) (am b)+1) 0 _ (S.first he) (Nat.lt_succ_self _) I.fst]
  unfold ji
  by_cases hg:(dV (cn (opsR h) b (ao h)) (opsR h) (ao h) q.2 sp)[0]?=some true
  ·rw[if_pos hg]; exact⟨fun _=>hg,fun _=>rfl⟩
  ·rw[if_neg hg]; exact⟨fun h=>(by cases h),fun h=>absurd h hg⟩
 refine⟨hR,?_,hE,hL,hleg⟩
 unfold bO gg
 rw[if_pos hE,if_neg (by decide),hp,hL,hr]
 simp only
 rw[hsame]
 rfl
theorem oS {l:List HOp} {n e M:Nat}:∀(N:Nat) (s:RS) (out:List Int),(e8 l n e M N s out).2=true→fp n n l (e8 l n e M N s out).1=0
 | 0,_,_,h=>by cases h
 | N+1,s,out,h=>by
  rw[e8]at h ⊢
  by_cases h1:fp n n l out=0
  ·rw[if_pos h1]; exact h1
  ·rw[if_neg h1]at h ⊢
   cases h2:l[(dB (eA l e M s) l 0).toNat]? with
   | none=>rw[h2]at h; cases h
   | some o =>
    rw[h2]at h
    simp only at h ⊢
    by_cases h3:dB (eA l e M s) l 0<0
    ·rw[if_pos h3]at h; cases h
    ·rw[if_neg h3]at h ⊢
     exact oS N _ _ h
theorem oQ {l:List HOp} {n e M:Nat} (h:(cI l n e M).2=true):fp n n l (cI l n e M).1=0:=by
 unfold cI at h ⊢
 split at h
 ·rename_i h1
  rw[if_pos h1]
  exact oS M _ _ h
 ·cases h
theorem oR {l:List HOp} {n e M:Nat}:∀(N:Nat) (s:RS) (out:List Int),(e8 l n e M N s out).1.length≤out.length+N
 | 0,_,_=>Nat.zero_le _
 | N+1,s,out=>by
  rw[e8]
  split
  ·simp only; omega
  ·split
   ·exact Nat.zero_le _
   ·split
    ·exact Nat.zero_le _
    ·refine Nat.le_trans (oR N _ _) ?_
     simp only[List.length_append,List.length_cons,List.length_nil]; omega
theorem uS {l:List HOp} {n e M:Nat}:(cI l n e M).1.length≤M:=by
 unfold cI
 split
 ·have:=oR (l:=l) (n:=n) (e:=e) (M:=M) M (am n) []
  simpa using this
 ·exact Nat.zero_le _
theorem yz {out:List HEv} (x:XE) (h:Cl3 out):Cl3 (bX out x):=by
 have key:∀ev:HEv,(ev.kind≠3→0≤ev.client∧ev.client<3)→Cl3 (out++[ev]):=fun ev hev y hy hk=>by
  rcases List.mem_append.1 hy with hy | hy
  ·exact h y hy hk
  ·rw[List.mem_singleton.1 hy]at hk ⊢; exact hev hk
 have hc:(0:Int)≤((x.who.toNat % 4 % 3:Nat):Int)∧((x.who.toNat % 4 % 3:Nat):Int)<3:=by omega
 unfold bX
 repeat' split
 all_goals first
  | exact h
  | exact key _ fun hk=>absurd rfl hk
  | exact key _ fun _=>hc
theorem tE:∀(l:List XE) (out:List HEv),Cl3 out→Cl3 (l.foldl bX out)
 | [],_,h=>h
 | x::l,_,h=>tE l _ (yz x h)
theorem qC {x:List XE} (h:x.length≤16):mG (hOf x):=by
 refine⟨wy x,tE _ [] (fun _ hy=>by cases hy),?_⟩
 have:=kG (x.take 24) []
 rw[List.length_take]at this
 unfold hOf
 simp at this
 omega
end Go.Proofs.Ytmdgmolbamlicaa
namespace Go.Proofs.Ytmdgmolbamlicaa
open Go.Eng Go.Plain
set_option maxHeartbeats 32000000
set_option maxRecDepth 20000
attribute [local irreducible] WC RegS RegD SeqQ BlkQ ScoQ RegK CutK Sat SatN FnIs LoopQ ab OpIs
theorem uT {f:RS→Bool} {s:RS} {l:List HOp} {k:Nat} {o:HOp} (h:l[k]?=some o):jP f l s (l.drop k) k=(((aL s l k o).2&&f (aL s l k o).1)||jP f l s (l.drop (k+1)) (k+1)):=by
 have hlt:=(List.getElem?_eq_some_iff.1 h).1
 rw[List.drop_eq_getElem_cons hlt,(List.getElem?_eq_some_iff.1 h).2,jP]
theorem oL (h:List HEv) {l:List HOp} {n:Nat} {p:Prep} {ks:List Int} {kv:List (List UInt8)} (S:Sc l n (ao h) p ks kv) (hh:h.length≤100000):∀(N:Nat) (s:RS),RG l n (ao h) p ks kv s→muR l (ao h) s<N→FnIs Try.prog 49 [.d (cP s),.d (encH h),.d (bS l)] [] (r01d (dU l (ao h) N s)) []:=by
 intro N
 induction N with
 | zero=>exact fun _ _ hN=>absurd hN (Nat.not_lt_zero _)
 | succ N ih =>
 intro s hs hN
 have hll:=S.ll
 have hnl:=S.nl
 have hel:=S.el
 have htl:=S.tlen hs
 have he0:=hs.ok.e0
 have he1:=hs.era
 have hfu:=oI s l (by omega) (by omega)
 have her:=sN h (by omega)
 have hsw:IntKind.i64.wrap (((ao h:Nat):Int)-1)=(ao h:Int)-1:=aH (by omega) (by omega)
 refine aq aa Try.func49 rfl rfl rfl ?_
 rw[dU]
 refine z6 ?_;refine yo (fun _:Unit=>⟨[(3,.ptr 64 []),(2,.d (bS l)),(1,.d (encH h))],[(64,some (fR s))],72,Try.f49.ntmps,64⟩) (fun _=>(bp s l 0&&(decide (s.era=(ao h:Int)-1)||dU l (ao h) N (aI s)))=false) ?_ ?_
 ·cases h1:bp s l 0 with
  | false =>
   have hp:(bp s l 0&&(decide (s.era=(ao h:Int)-1)||dU l (ao h) N (aI s)))=false:=by rw[h1]; rfl
   rw[h1]at hfu
   refine z10 ?_
   exact l9 () [(64,some 64)] rfl (lg zj ⟨zR,trivial⟩)
  | true =>
  rw[h1]at hfu
  cases h2:decide (s.era=(ao h:Int)-1) with
  | true =>
   rw[Bool.true_or,Bool.true_and,Bool.true_or]
   refine z12 ?_;refine dQ [14] [64] iB ?_;refine z21 ?_
   exact CG ⟨trivial,[],lg zV trivial⟩
  | false =>
   have hx:((-1:Int),aI s)∈b9 l (ao h) s:=bd.2 (.inr ⟨by have:=of_decide_eq_false h2; omega,h1,rfl⟩)
   obtain⟨hc1,hc2⟩:=S.rgSteps hs hx
   have hcr:=fe s (by rw[hs.ok.dl]; omega) (aH (by omega) (by omega))
   have hen:=ih (aI s) hc1 (by simp only at hc2; omega)
   cases h3:dU l (ao h) N (aI s) with
   | true =>
    rw[h3]at hen
    rw[Bool.or_true,Bool.true_and,Bool.true_or]
    refine z12 ?_;refine dQ [14] [64] iB ?_;refine z5 ?_;refine aD [20,3] [64] rfl rfl (by assumption) rfl (ay aa rfl rfl rfl rfl) ?_;refine z15 ?_
    exact CG ⟨trivial,[],lg zV trivial⟩
   | false =>
    have hp:(bp s l 0&&(decide (s.era=(ao h:Int)-1)||dU l (ao h) N (aI s)))=false:=by rw[h1,h2,h3]; rfl
    rw[h3]at hen
    refine z12 ?_;refine dQ [14] [64] iB ?_;refine z5 ?_;refine aD [20,3] [64] rfl rfl (by assumption) rfl (ay aa rfl rfl rfl rfl) ?_;refine z10 ?_
    exact l9 () [(64,some 64)] rfl (lg zj ⟨zR,trivial⟩)
 rintro _ hp
 refine bt ?_
 rw[hp,Bool.false_or]
 refine z7 ?_
 refine wc_inv (fun k:Nat=>⟨[(7,.int .i64 k),(3,.ptr 64 []),(2,.d (bS l)),(1,.d (encH h))],[(64,some (fR s))],72,Try.f49.ntmps,64⟩) (fun k=>k≤l.length∧jP (dU l (ao h) N) l s (l.drop k) k=jP (dU l (ao h) N) l s l 0) (fun k=>l.length-k) 0 [(64,some 64)] ⟨Nat.zero_le _,rfl⟩
  (lg zi ⟨zR,trivial⟩) ?_
 rintro k ⟨hk,hd⟩
 refine bt ?_
 by_cases hlt:k<l.length
 ·have d1:decide ((k:Int)<(l.length:Int))=true:=dT (by omega)
  obtain⟨o,ho⟩:∃x,l[k]?=some x:=⟨_,List.getElem?_eq_getElem hlt⟩
  rw[uT ho]at hd
  have htk:=lP s l k o n ho hs.ok (by omega) (by omega) (by omega)
  refine z33 ?_
  cases h4:(aL s l k o).2 with
  | false =>
   rw[h4,Bool.false_and,Bool.false_or]at hd
   refine z17 ?_
   exact an (k+1) [(64,some 64)] ⟨hlt,hd⟩ (by omega) (lg zi ⟨zR,trivial⟩)
  | true =>
  have hx:((k:Int),(aL s l k o).1)∈b9 l (ao h) s:=bd.2 (.inl ⟨k,o,ho,h4,rfl⟩)
  obtain⟨hc1,hc2⟩:=S.rgSteps hs hx
  have hen:=ih (aL s l k o).1 hc1 (by simp only at hc2; omega)
  cases h5:dU l (ao h) N (aL s l k o).1 with
  | false =>
   rw[h5]at hen
   rw[h5,Bool.and_false,Bool.false_or]at hd
   refine z22 ?_
   exact an (k+1) [(64,some 64)] ⟨hlt,hd⟩ (by omega) (lg zi ⟨zR,trivial⟩)
  | true =>
   rw[h5]at hen
   rw[h4,h5,Bool.and_true,Bool.true_or]at hd
   rw[←hd]
   refine z25 ?_
   exact⟨trivial,[],lf⟩
 ·have d1:decide ((k:Int)<(l.length:Int))=false:=dF (by omega)
  rw[List.drop_eq_nil_of_le (by omega),jP]at hd
  rw[←hd]
  refine z21 ?_
  exact⟨trivial,[],lf⟩
theorem tG {f:Nat→HOp→Bool} {l:List HOp} {k:Nat} {o:HOp} (h:l[k]?=some o):dB f (l.drop k) k=if f k o then (k:Int) else dB f (l.drop (k+1)) (k+1):=by
 have hlt:=(List.getElem?_eq_some_iff.1 h).1
 rw[List.drop_eq_getElem_cons hlt,(List.getElem?_eq_some_iff.1 h).2,dB]
theorem pz {f:Nat→HOp→Bool}:∀(r:List HOp) (i:Nat),dB f r i = -1∨∃(j:Nat) (o:HOp),r[j]?=some o∧dB f r i=((i+j:Nat):Int)∧f (i+j) o=true
 | [],i=>.inl rfl
 | a::r,i=>by
  rw[dB]
  cases h:f i a with
  | true=>exact .inr ⟨0,a,rfl,by rw[if_pos rfl]; rfl,h⟩
  | false =>
   rw[if_neg Bool.false_ne_true]
   rcases pz r (i+1)with h1 | ⟨j,o,h1,h2,h3⟩
   ·exact .inl h1
   ·exact .inr ⟨j+1,o,by simpa using h1,by rw[h2]; congr 1; omega,by rw[show i+(j+1)=i+1+j by omega]; exact h3⟩
theorem wL {l:List HOp} {E e:Int} (he:E≤e-1):∀(N:Nat) (s:RS),CrP l e s (crF l E N s)
 | 0,s=>.refl s
 | N+1,s=>by
  rw[crF]
  split
  ·rename_i hc
   simp only[Bool.and_eq_true,decide_eq_true_eq]at hc
   exact .step hc.2 (by omega) (wL he N (aI s))
  ·exact .refl s
theorem Cl {l:List HOp} {E:Int} {N:Nat} {t:RS} (h:t.era<E) (hf:bp t l 0=true) (hN:(E-t.era).toNat≤N):crF l E N t=crF l E N (aI t):=by
 cases N with
 | zero=>omega
 | succ N =>
  rw[crF,dT h,hf,Bool.true_and,if_pos rfl]
  exact pF N (N+1) (aI t) (by simp only[aI]; omega) (by simp only[aI]; omega)
theorem zr (h:List HEv) {l:List HOp} {n:Nat} {p:Prep} {ks:List Int} {kv:List (List UInt8)} (S:Sc l n (ao h) p ks kv) (L:ScL l (ao h)) (hop:FnIs Try.prog 28 [.d (encH h)] [] (.d (bS l)) []) (hh:h.length≤100000) {M:Nat} (hM:ao h*(l.length+1)<M) (hM2:M≤1000000) :
  FnIs Try.prog 25 [.d (encH h),.int .i64 n] [] (.tup (.acons (.d (fg (cI l n (ao h) M).1)) (.acons (r01d (cI l n (ao h) M).2) .anil))) []:=by
 have hll:=S.ll
 have hnl:=S.nl
 have hel:=S.el
 have hMM:∀s,RG l n (ao h) p ks kv s→muR l (ao h) s<M:=fun s _=>by
  have:muR l (ao h) s≤ao h*(l.length+1):=Nat.le_trans (Nat.sub_le _ _) (Nat.mul_le_mul_right _ (Nat.sub_le _ _))
  omega
 have hf:=S.first (dG h)
 have hfi:=kk n (by omega)
 have hen:=oL h S hh M (am n) hf (hMM _ hf)
 refine aq aa Try.func25 rfl rfl rfl ?_
 unfold cI
 cases h1:dU l (ao h) M (am n) with
 | false =>
  rw[h1]at hen
  rw[if_neg Bool.false_ne_true]
  refine z45 ?_
  exact⟨trivial,[],lg ⟨⟨_,rfl,AVLe.tup1 (AVLe.d (DLe.nil_arr 1 i6) rfl) rfl⟩,rfl,trivial⟩ trivial⟩
 | true =>
 rw[h1]at hen
 rw[if_pos rfl]
 refine z41 ?_
 refine wc_inv (fun q:RS×List Int×Nat=>⟨[(8,.own 65 0 q.2.1.length 1 none),(7,.ptr 64 []),(6,.d (bS l)),(1,.int .i64 n),(0,.d (encH h))],[(64,some (fR q.1)),(65,some (zRow q.2.1))],72,Try.f25.ntmps,64⟩) (fun q=>RG l n (ao h) p ks kv q.1∧muR l (ao h) q.1<q.2.2∧q.2.1.length+q.2.2=M∧e8 l n (ao h) M q.2.2 q.1 q.2.1=e8 l n (ao h) M M (am n) []) (fun q=>q.2.2) (am n,[],M) [(64,some _),(65,none)] ⟨hf,hMM _ hf,Nat.zero_add _,rfl⟩
  (lg zh ⟨zR,⟨rfl,rfl,rfl⟩,trivial⟩) ?_
 rintro⟨s,out,N⟩ ⟨hs,hmu,hlen,hg⟩
 simp only at hs hmu hlen hg
 obtain⟨N,rfl⟩:∃N',N=N'+1:=⟨N-1,by omega⟩
 rw[e8]at hg
 refine bt ?_
 have hE:∀o∈l,0≤o.era∧o.era≤1000000:=fun o ho=>by
  obtain⟨j,hj⟩:=List.mem_iff_getElem?.1 ho
  have:=L.er j o hj
  omega
 have hac:=oP h n out l hop (by omega) (by omega) (by omega) hE
 have hol:out.length+1≤1048576:=by omega
 by_cases hacc:fp n n l out=0
 ·have d0:(!decide (fp n n l out=0))=false:=by rw[dT hacc]; rfl
  rw[if_pos hacc]at hg
  rw[←hg]
  refine z6 ?_;refine rQ (ii hac rfl rfl (aE (aE (tW rfl rfl au))) (.inr (cr.sc _)) (fun _=>rfl)) ?_;refine z9 ?_;refine de (env':=[(8,_)]) (h':=[]) 65 _ rfl ⟨⟨_,rfl,Frz.own rfl⟩,trivial⟩ trivial ?_;refine z8 ?_
  exact⟨trivial,[],lf⟩
 have d0:(!decide (fp n n l out=0))=true:=by rw[dF hacc]; rfl
 rw[if_neg hacc]at hg
 have e0:=hs.ok.e0
 have e1:=hs.era
 refine z6 ?_;refine rQ (ii hac rfl rfl (aE (aE (tW rfl rfl au))) (.inr (cr.sc _)) (fun _=>rfl)) ?_;refine z17 ?_;refine rQ (cm (m:=(l.length:Int)-1) aa rfl rfl (aH (by omega) (by omega))) ?_;refine z4 ?_
 refine wc_inv (fun k:Nat=>⟨[(10,.int .i64 ((k:Int)-1)),(9,.int .i64 (dB (eA l (ao h) M s) (l.drop k) k)),(8,.own 65 0 out.length 1 none),(7,.ptr 64 []),(6,.d (bS l)),(1,.int .i64 n),(0,.d (encH h))],[(64,some (fR s)),(65,some (zRow out))],72,Try.f25.ntmps,64⟩) (fun k=>k≤l.length) (fun k=>k) l.length [(64,some 64),(65,some 65)] (Nat.le_refl _)
  (lg ⟨zE,rfl,⟨_,rfl,AVLe.of_eq (by rw[List.drop_length]; rfl)⟩,rfl,zE,rfl,zE,rfl,zE,rfl,zE,rfl,zE,rfl,trivial⟩ ⟨zR,zR,trivial⟩) ?_
 intro k hk
 refine bt ?_
 rcases k with _ | m
 ·have d1:decide (((0:Nat):Int)-1≥0)=false:=rfl
  rw[List.drop_zero]
  rcases pz (f:=eA l (ao h) M s) l 0 with hj | ⟨j,o,hj,hj1,hcd⟩
  ·rw[hj]
   have d2:decide ((-1:Int)<0)=true:=rfl
   have hR:e8 l n (ao h) M M (am n) []=([],false):=by
    rw[←hg,hj]
    cases l[(-1:Int).toNat]? with
    | none=>rfl
    | some o=>rfl
   rw[hR]
   refine z33 ?_
   exact⟨trivial,[],lg ⟨⟨_,rfl,AVLe.tup1 (AVLe.d (DLe.nil_arr 1 i6) rfl) rfl⟩,rfl,trivial⟩ trivial⟩
  ·rw[Nat.zero_add]at hj1 hcd
   rw[hj1,Int.toNat_natCast,hj]at hg
   simp only at hg
   rw[if_neg (by omega)]at hg
   rw[hj1]
   have d2:decide ((j:Int)<0)=false:=dF (by omega)
   have hj2:l[((j:Int)).toNat]?=some o:=by rw[Int.toNat_natCast]; exact hj
   obtain⟨er0,er1⟩:=L.er j o hj
   rw[eA,Bool.and_eq_true]at hcd
   have hcp:=wL (l:=l) (E:=o.era) (e:=(ao h:Int)) (by omega) (ao h) s
   obtain⟨hr1,hr2⟩:=hcp.rg S hs
   have hce:=(eR (bW hcd.1)).1
   have hto:=A4 (l:=l) (E:=o.era) (ao h) s (by have:=hcp.era_le; omega) hce.symm
   rw[hto]at hcd hr1 hr2
   refine z25 ?_
   refine wc_inv (fun t:RS=>⟨[(9,.int .i64 j),(8,.own 65 0 out.length 1 none),(7,.ptr 64 []),(6,.d (bS l)),(1,.int .i64 n),(0,.d (encH h))],[(64,some (fR t)),(65,some (zRow out))],72,Try.f25.ntmps,64⟩) (fun t=>RSOk n t∧t.era<ao h∧aP o.era t=aP o.era s) (fun t=>(o.era-t.era).toNat) s [(64,some 64),(65,some 65)] ⟨hs.ok,e1,rfl⟩
    (lg zg ⟨zR,zR,trivial⟩) ?_
   rintro t ⟨ht,hte,htc⟩
   refine bt ?_
   by_cases hlt:t.era<o.era
   ·have d3:decide (t.era<o.era)=true:=dT hlt
    have t0:=ht.e0
    have hcr:=fe t (by rw[ht.dl]; omega) (aH (by omega) (by omega))
    have hct:aP o.era (aI t)=aP o.era t:=by
     unfold aP
     have h0:(aI t).era=t.era+1:=rfl
     by_cases h3:(aI t).era<o.era
     ·rw[if_pos h3,if_pos hlt]; rfl
     ·rw[if_neg h3,if_pos hlt]
      have h4:o.era=t.era+1:=by omega
      rw[h4]; rfl
    refine z4 ?_;refine dQ [71] [64] iB ?_;refine z18 ?_
    exact an (aI t) [(64,some 64),(65,some 65)] ⟨ht.crash (by omega),by simp only[aI]; omega,by rw[hct]; exact htc⟩ (by simp only[aI]; omega) (lg zg ⟨zR,zR,trivial⟩)
   ·have d3:decide (t.era<o.era)=false:=dF hlt
    have htt:t=aP o.era s:=by rw[←htc,aP,if_neg hlt]
    subst htt
    have htk:=lP (aP o.era s) l j o n hj hr1.ok (by omega) (by omega) (by have:=S.tlen hr1; omega)
    obtain⟨hu1,hu2⟩:=S.rgSteps hr1 (bd.2 (.inl ⟨j,o,hj,hcd.1,rfl⟩))
    simp only at hu1 hu2
    have hl1:out.length+1=(out++[(j:Int)]).length:=by simp
    refine z4 ?_;refine dQ [71] [64] iB ?_;refine z29 ?_;refine aO (ae (s:=1) aa rfl rfl rfl rfl rfl rfl rfl rfl) rfl ?_;refine aC (aJ (enc:=i6) (s:=1) (xs:=out) aa ((j:Nat):Int) rfl rfl rfl rfl rfl rfl rfl rfl rfl hol rfl) rfl ?_;refine z3 ?_
    exact an ((aL (aP o.era s) l j o).1,out++[(j:Int)],N) [(64,some 64),(65,some _)] ⟨hu1,by simp only; omega,by simp only[List.length_append,List.length_cons,List.length_nil]; omega,hg⟩ (by simp only; omega) (lg ⟨⟨_,rfl,ownl hl1⟩,rfl,zE,rfl,zE,rfl,zE,rfl,zE,rfl,trivial⟩ ⟨zR,zR,trivial⟩)
 ·have d1:decide (((m+1:Nat):Int)-1≥0)=true:=dT (by omega)
  obtain⟨o,ho⟩:∃x,l[m]?=some x:=⟨_,List.getElem?_eq_getElem (by omega)⟩
  have ho2:l[(((m+1:Nat):Int)-1).toNat]?=some o:=by rw[show (((m+1:Nat):Int)-1).toNat=m by omega]; exact ho
  have hst:=tG (f:=eA l (ao h) M s) ho
  obtain⟨er0,er1⟩:=L.er m o ho
  refine z21 ?_
  refine wc_inv (fun t:RS=>⟨[(11,.ptr 66 []),(10,.int .i64 (((m+1:Nat):Int)-1)),(9,.int .i64 (dB (eA l (ao h) M s) (l.drop (m+1)) (m+1))),(8,.own 65 0 out.length 1 none),(7,.ptr 64 []),(6,.d (bS l)),(1,.int .i64 n),(0,.d (encH h))],[(64,some (fR s)),(65,some (zRow out)),(66,some (fR t))],80,Try.f25.ntmps,64⟩) (fun t=>RG l n (ao h) p ks kv t∧crF l o.era (ao h) t=crF l o.era (ao h) s) (fun t=>(o.era-t.era).toNat) s [(64,some 64),(65,some 65),(66,some _)] ⟨hs,rfl⟩
   (lg ze ⟨zR,zR,zR,trivial⟩) ?_
  rintro t ⟨ht,htc⟩
  refine bt ?_
  have t0:=ht.ok.e0
  have t1:=ht.era
  have htl:=S.tlen ht
  have hfu:=oI t l (by omega) (by omega)
  by_cases hlt:t.era<o.era∧bp t l 0=true
  ·have d3:decide (t.era<o.era)=true:=dT hlt.1
   rw[hlt.2]at hfu
   have hcr:=fe t (by rw[ht.ok.dl]; omega) (aH (by omega) (by omega))
   refine z4 ?_;refine dQ [36] [66] iB ?_;refine z7 ?_;refine aD [44,11] [66] rfl rfl (by assumption) rfl (ay aa rfl rfl rfl rfl) ?_;refine z16 ?_
   exact an (aI t) [(64,some 64),(65,some 65),(66,some 66)] ⟨ht.crash (by omega) hel,by rw[←Cl hlt.1 hlt.2 (by omega)]; exact htc⟩ (by simp only[aI]; omega) (lg ze ⟨zR,zR,zR,trivial⟩)
  ·have htt:crF l o.era (ao h) s=t:=by
    rw[←htc]
    obtain⟨e,he⟩:∃e,ao h=e+1:=⟨ao h-1,by have:=dG h; omega⟩
    rw[he,crF,if_neg]
    simp only[Bool.and_eq_true,decide_eq_true_eq]
    exact hlt
   have htk:=lP t l m o n ho ht.ok (by omega) (by omega) (by omega)
   rw[show (m:Int)=((m+1:Nat):Int)-1 by omega]at htk
   have hCC:m≤l.length:=by omega
   have cnd:∀b,((aL t l m o).2&&dU l (ao h) M (aL t l m o).1)=b→eA l (ao h) M s m o=b:=fun b hb=>by rw[eA,htt]; exact hb
   have leaf:∀b,eA l (ao h) M s m o=b→dB (eA l (ao h) M s) (l.drop m) m=if b then (m:Int) else dB (eA l (ao h) M s) (l.drop (m+1)) (m+1):=fun b hb=>by rw[hst,hb]
   have hways:decide (t.era<o.era)=false∨(decide (t.era<o.era)=true∧bp t l 0=false):=by
    cases h3:decide (t.era<o.era) with
    | false=>exact .inl rfl
    | true=>exact .inr ⟨rfl,Bool.eq_false_iff.2 fun h4=>hlt ⟨of_decide_eq_true h3,h4⟩⟩
   rcases hways with d3 | ⟨d3,h4⟩
   ·refine z4 ?_;refine dQ [36] [66] iB ?_;refine z39 ?_
    cases h5:(aL t l m o).2 with
    | false =>
     have hl:=leaf false (cnd false (by rw[h5]; rfl))
     refine z14 ?_;refine rQ (cm (m:=((m+1:Nat):Int)-1-1) aa rfl rfl (aH (by omega) (by omega))) ?_;refine z2 ?_
     exact an m [(64,some 64),(65,some 65)] (by omega) (by omega) (lg ⟨⟨_,rfl,AVLe.of_eq (by rw[show ((m+1:Nat):Int)-1-1=(m:Int)-1 by omega]; rfl)⟩,rfl,⟨_,rfl,AVLe.of_eq (by rw[hl]; rfl)⟩,rfl,zE,rfl,zE,rfl,zE,rfl,zE,rfl,zE,rfl,trivial⟩ ⟨zR,zR,trivial⟩)
    | true =>
    have hu:=S.rgTake ht ho h5
    have hen2:=oL h S hh M (aL t l m o).1 hu (hMM _ hu)
    cases h6:dU l (ao h) M (aL t l m o).1 with
    | false =>
     have hl:=leaf false (cnd false (by rw[h5,h6]; rfl))
     rw[h6]at hen2
     refine z19 ?_;refine rQ (cm (m:=((m+1:Nat):Int)-1-1) aa rfl rfl (aH (by omega) (by omega))) ?_;refine z2 ?_
     exact an m [(64,some 64),(65,some 65)] (by omega) (by omega) (lg ⟨⟨_,rfl,AVLe.of_eq (by rw[show ((m+1:Nat):Int)-1-1=(m:Int)-1 by omega]; rfl)⟩,rfl,⟨_,rfl,AVLe.of_eq (by rw[hl]; rfl)⟩,rfl,zE,rfl,zE,rfl,zE,rfl,zE,rfl,zE,rfl,trivial⟩ ⟨zR,zR,trivial⟩)
    | true =>
     have hl:=leaf true (cnd true (by rw[h5,h6]; rfl))
     rw[h6]at hen2
     refine z22 ?_;refine rQ (cm (m:=((m+1:Nat):Int)-1-1) aa rfl rfl (aH (by omega) (by omega))) ?_;refine z2 ?_
     exact an m [(64,some 64),(65,some 65)] (by omega) (by omega) (lg ⟨⟨_,rfl,AVLe.of_eq (by rw[show ((m+1:Nat):Int)-1-1=(m:Int)-1 by omega]; rfl)⟩,rfl,⟨_,rfl,AVLe.of_eq (by rw[hl]; rw[if_pos rfl]; show AV.int .i64 (((m+1:Nat):Int)-1)=AV.int .i64 (m:Int); congr 1; omega)⟩,rfl,zE,rfl,zE,rfl,zE,rfl,zE,rfl,zE,rfl,trivial⟩ ⟨zR,zR,trivial⟩)
   ·rw[h4]at hfu
    refine z4 ?_;refine dQ [36] [66] iB ?_;refine z7 ?_;refine aD [44,11] [66] rfl rfl (by assumption) rfl (ay aa rfl rfl rfl rfl) ?_;refine z31 ?_
    cases h5:(aL t l m o).2 with
    | false =>
     have hl:=leaf false (cnd false (by rw[h5]; rfl))
     refine z14 ?_;refine rQ (cm (m:=((m+1:Nat):Int)-1-1) aa rfl rfl (aH (by omega) (by omega))) ?_;refine z2 ?_
     exact an m [(64,some 64),(65,some 65)] (by omega) (by omega) (lg ⟨⟨_,rfl,AVLe.of_eq (by rw[show ((m+1:Nat):Int)-1-1=(m:Int)-1 by omega]; rfl)⟩,rfl,⟨_,rfl,AVLe.of_eq (by rw[hl]; rfl)⟩,rfl,zE,rfl,zE,rfl,zE,rfl,zE,rfl,zE,rfl,trivial⟩ ⟨zR,zR,trivial⟩)
    | true =>
    have hu:=S.rgTake ht ho h5
    have hen2:=oL h S hh M (aL t l m o).1 hu (hMM _ hu)
    cases h6:dU l (ao h) M (aL t l m o).1 with
    | false =>
     have hl:=leaf false (cnd false (by rw[h5,h6]; rfl))
     rw[h6]at hen2
     refine z19 ?_;refine rQ (cm (m:=((m+1:Nat):Int)-1-1) aa rfl rfl (aH (by omega) (by omega))) ?_;refine z2 ?_
     exact an m [(64,some 64),(65,some 65)] (by omega) (by omega) (lg ⟨⟨_,rfl,AVLe.of_eq (by rw[show ((m+1:Nat):Int)-1-1=(m:Int)-1 by omega]; rfl)⟩,rfl,⟨_,rfl,AVLe.of_eq (by rw[hl]; rfl)⟩,rfl,zE,rfl,zE,rfl,zE,rfl,zE,rfl,zE,rfl,trivial⟩ ⟨zR,zR,trivial⟩)
    | true =>
     have hl:=leaf true (cnd true (by rw[h5,h6]; rfl))
     rw[h6]at hen2
     refine z22 ?_;refine rQ (cm (m:=((m+1:Nat):Int)-1-1) aa rfl rfl (aH (by omega) (by omega))) ?_;refine z2 ?_
     exact an m [(64,some 64),(65,some 65)] (by omega) (by omega) (lg ⟨⟨_,rfl,AVLe.of_eq (by rw[show ((m+1:Nat):Int)-1-1=(m:Int)-1 by omega]; rfl)⟩,rfl,⟨_,rfl,AVLe.of_eq (by rw[hl]; rw[if_pos rfl]; show AV.int .i64 (((m+1:Nat):Int)-1)=AV.int .i64 (m:Int); congr 1; omega)⟩,rfl,zE,rfl,zE,rfl,zE,rfl,zE,rfl,zE,rfl,trivial⟩ ⟨zR,zR,trivial⟩)
theorem Fx {l:List Int}:DLe (lb l) (fg l):=fun w X cs h=>Enc.arx_arr (fun _ _ h=>h) cs h
theorem vb (x:List XE) (n:UInt8):FnIs Try.prog 12 [.d (j5 x),.int .u8 (n.toNat:Nat)] [] (.bool true) []:=by
 refine aq aa Try.func12 rfl rfl rfl ?_
 by_cases h14:14<x.length
 ·have d0:decide ((14:Int)<(x.length:Int))=true:=dT (by omega)
  refine z18 ?_;refine rQ (yK cZ) ?_;refine z5 ?_
  exact⟨trivial,[],lf⟩
 have d0:decide ((14:Int)<(x.length:Int))=false:=dF (by omega)
 have hm4:n.toNat % 4<4:=Nat.mod_lt _ (by decide)
 have hwc:IntKind.i64.wrap ((n.toNat % 4:Nat):Int)=((n.toNat % 4:Nat):Int):=aH (by omega) (by omega)
 have hwa:IntKind.i64.wrap (1+((n.toNat % 4:Nat):Int))=((1+n.toNat % 4:Nat):Int):=by rw[aH (by omega) (by omega)]; omega
 have hof:=n6 x
 have H:=qC (x:=x) (by omega)
 have hh:=H.len
 have hol:=ft (hOf x)
 obtain⟨N,hN⟩:∃N,N=1+n.toNat % 4:=⟨_,rfl⟩
 rw[←hN]at hwa
 obtain⟨hR,hF,hE,hL⟩:=H.go (b:=N) (by omega) (by omega)
 have hfi:=jp hR
 have hle:=iC hR
 have hel:ao (hOf x)≤17:=by have:=List.countP_le_length (p:=fun x:HEv=>decide (x.kind=3)) (l:=hOf x); unfold ao; omega
 have hEr:∀o∈opsR (hOf x),0≤o.era∧o.era≤1000000:=fun o ho=>by have:=s4 _ o ho; omega
 have hMl:bigM (hOf x)≤1000:=by
  have:ao (hOf x)*((opsR (hOf x)).length+1)≤17*17:=Nat.mul_le_mul (by omega) (by omega)
  unfold bigM; omega
 obtain⟨ks,kv,F⟩:=dP (opsR (hOf x)) N (ao (hOf x))
 have S:=Sc.of F (by omega) (by omega) (by omega)
 have hrf:=zr (hOf x) S (jW (hOf x)) (lQ _ (by omega)) (by omega) (M:=bigM (hOf x)) (Nat.lt_succ_self _) (by omega)
 have hfl:=uS (l:=opsR (hOf x)) (n:=N) (e:=ao (hOf x)) (M:=bigM (hOf x))
 have hacc:=oQ (l:=opsR (hOf x)) (n:=N) (e:=ao (hOf x)) (M:=bigM (hOf x))
 rw[hF]at hfi hle
 generalize cI (opsR (hOf x)) N (ao (hOf x)) (bigM (hOf x))=R at hfi hle hrf hfl hacc
 obtain⟨o,c⟩:=R
 simp only at hfl hacc
 have heq:=kL o (by omega)
 have hac:=nh (hOf x) (N:Int) o (by omega) (by have:=dM (hOf x); omega) (by omega)
 rw[if_pos hE,oZ,nG (by omega) hEr o]at hac
 generalize fp (N:Int) N (opsR (hOf x)) o=V at hac hacc
 generalize hOf x=h at hof hfi hle hrf hac
 cases c with
 | false =>
  refine z23 ?_;refine rQ (aZ (a:=n.toNat) (b:=4) aa rfl rfl rfl (by decide)) ?_;refine rQ (aR (m:=((n.toNat % 4:Nat):Int)) aa rfl rfl rfl hwc) ?_;refine rQ (bM (m:=(N:Int)) aa rfl rfl hwa) ?_;refine z60 ?_;refine z44 ?_;refine rQ (yK cZ) ?_;refine z4 ?_
  exact⟨trivial,[],lf⟩
 | true =>
  have hV:=hacc rfl
  rw[hV]at hac
  refine z23 ?_;refine rQ (aZ (a:=n.toNat) (b:=4) aa rfl rfl rfl (by decide)) ?_;refine rQ (aR (m:=((n.toNat % 4:Nat):Int)) aa rfl rfl rfl hwc) ?_;refine rQ (bM (m:=(N:Int)) aa rfl rfl hwa) ?_;refine z60 ?_;refine z38 ?_;refine rQ (ii hac rfl rfl (aE (aE (Bl rfl trivial Fx au))) (.inl rfl) (fun _=>rfl)) ?_;refine z10 ?_;refine rQ (yK cZ) ?_;refine z4 ?_
  exact⟨trivial,[],lf⟩
end Go.Proofs.Ytmdgmolbamlicaa
namespace Go.Proofs.Ytmdgmolbamlicaa
open Go.Eng Go.Plain
set_option maxHeartbeats 32000000
set_option maxRecDepth 20000
structure Fwd (n:Nat) (l l':List HOp) (m:Nat→Option Nat):Prop where
 map:∀(j':Nat) (o':HOp),l'[j']?=some o'→(m j'=none∧bf o'=false∧mayB o' n=false)∨∃(j:Nat) (o:HOp),m j'=some j∧l[j]?=some o∧o.era=o'.era∧o.op=o'.op∧(mayB o n=true→mayB o' n=true)∧(bf o'=true→bf o=true∧o.value=o'.value)
 inj:∀(j' k' j:Nat),j'<l'.length→k'<l'.length→m j'=some j→m k'=some j→j'=k'
 onto:∀(j:Nat) (o:HOp),l[j]?=some o→mayB o n=true→∃j',j'<l'.length∧m j'=some j
 bef:∀(j' k' j k:Nat) (o' q' o q:HOp),l'[j']?=some o'→l'[k']?=some q'→m j'=some j→m k'=some k→l[j]?=some o→l[k]?=some q→befB o' q'=true→befB o q=true
structure SimR (l':List HOp) (m:Nat→Option Nat) (s s':RS):Prop where
 era:s'.era=s.era
 arr:s'.arr=s.arr
 dur:s'.dur=s.dur
 tk:∀j',j'<l'.length→hasB s'.taken (j':Int)=match m j' with | some j=>hasB s.taken (j:Int) | none=>false
theorem SimR.crash {l':List HOp} {m:Nat→Option Nat} {s s':RS} (R:SimR l' m s s'):SimR l' m (aI s) (aI s'):=
 ⟨by simp only[aI,R.era],R.dur,R.dur,fun j' _=>by
  simp only[aI]
  cases m j' <;> rfl⟩
theorem AH {o o':HOp} {s s':RS} (ho:o.op=o'.op) (hv:bf o'=true→bf o=true∧o.value=o'.value) (ha:s'.arr=s.arr) (hd:s'.dur=s.dur) (hf:(hapR s o).2=true) :
  (hapR s' o').2=true∧(hapR s' o').1.arr=(hapR s o).1.arr∧(hapR s' o').1.dur=(hapR s o).1.dur:=by
 unfold hapR at hf ⊢
 rw[←ho,ha]
 by_cases k1:o.op.kind=1
 ·rw[if_pos k1]at hf ⊢
  rw[if_pos k1]
  refine⟨?_,ha,hd⟩
  cases hm:bf o' with
  | false=>rfl
  | true =>
   obtain⟨h1,h2⟩:=hv hm
   rw[h1,h2]at hf
   simpa using hf
 ·rw[if_neg k1]at hf ⊢
  rw[if_neg k1]
  by_cases k2:o.op.kind=2
  ·rw[if_pos k2,if_pos k2]; exact⟨rfl,rfl,hd⟩
  ·rw[if_neg k2,if_neg k2]; exact⟨rfl,rfl,rfl⟩
section
variable {l l' : List HOp} {n : Nat} {m : Nat → Option Nat}
theorem kF {s:RS} {l:List HOp}:bp s l 0=true ↔ ∀(j:Nat) (q:HOp),l[j]?=some q→q.era=s.era→bf q=true→hasB s.taken (j:Int)=true:=by
 have key:∀(l:List HOp) (k:Nat),bp s l k=true ↔ ∀(j:Nat) (q:HOp),l[j]?=some q→q.era=s.era→bf q=true→hasB s.taken ((k+j:Nat):Int)=true:=by
  intro l
  induction l with
  | nil=>intro k; simp[bp]
  | cons a l ih =>
   intro k
   rw[bp,Bool.and_eq_true,ih]
   constructor
   ·rintro⟨h1,h2⟩ j q hj hq hm
    cases j with
    | zero =>
     simp at hj; subst hj
     rw[hm,dT hq]at h1
     simpa using h1
    | succ j=>rw[show k+(j+1)=k+1+j by omega]; exact h2 j q (by simpa using hj) hq hm
   ·intro h1
    refine⟨?_,fun j q hj hq hm=>by rw[show k+1+j=k+(j+1) by omega]; exact h1 (j+1) q (by simpa using hj) hq hm⟩
    cases ha:decide (a.era=s.era) with
    | false=>rfl
    | true =>
     cases hb:bf a with
     | false=>rfl
     | true =>
      have:=h1 0 a rfl (of_decide_eq_true ha) hb
      rw[Nat.add_zero]at this
      have h2:s.taken.any (fun y=>decide (y=(k:Int)))=true:=this
      rw[h2]; rfl
 have:=key l 0
 simpa using this
theorem SimR.full (F:Fwd n l l' m) {s s':RS} (R:SimR l' m s s') (h:bp s l 0=true):bp s' l' 0=true:=by
 rw[kF]at h ⊢
 intro j' q' hj' he hm
 have hlt:=(List.getElem?_eq_some_iff.1 hj').1
 rcases F.map j' q' hj' with ⟨_,h2,_⟩ | ⟨j,o,h1,h2,h3,_,_,h6⟩
 ·rw[hm]at h2; cases h2
 ·rw[R.tk j' hlt,h1]
  exact h j o h2 (by rw[h3,he,R.era]) (h6 hm).1
theorem SimR.take (F:Fwd n l l' m) {s s':RS} (R:SimR l' m s s') (hn:s.arr.length=n) {j:Nat} {o:HOp} (ho:l[j]?=some o) (ht:(aL s l j o).2=true) :
  ∃(j':Nat) (o':HOp),l'[j']?=some o'∧(aL s' l' j' o').2=true∧SimR l' m (aL s l j o).1 (aL s' l' j' o').1:=by
 obtain⟨q1,q2,q3,q4⟩:=eR (bW ht)
 rw[hn]at q2
 obtain⟨j',hj',hmj⟩:=F.onto j o ho q2
 obtain⟨o',ho'⟩:∃o',l'[j']?=some o':=⟨_,List.getElem?_eq_getElem hj'⟩
 rcases F.map j' o' ho' with ⟨h1,_⟩ | ⟨j2,o2,h1,h2,h3,h4,h5,h6⟩
 ·rw[hmj]at h1; cases h1
 rw[hmj]at h1
 cases h1
 rw[ho]at h2
 cases h2
 have htk:aL s l j o=({ (hapR s o).1 with taken:=cf s.taken j },(hapR s o).2):=by rw[aL,if_pos (bW ht)]
 have hfit:(hapR s o).2=true:=by rw[htk]at ht; exact ht
 obtain⟨p1,p2,p3⟩:=AH h4 h6 R.arr R.dur hfit
 have hb:takB s' l' j' o'=true:=by
  have hh:hitL s' o' l' 0=false:=by
   rw[Bool.eq_false_iff]
   intro hc
   obtain⟨k',q',hk',hh⟩:=(eU l' 0).1 hc
   rw[Nat.zero_add]at hh
   have hlt:=(List.getElem?_eq_some_iff.1 hk').1
   unfold hitB at hh
   have hR:=R.tk k' hlt
   rcases F.map k' q' hk' with ⟨g1,g2,_⟩ | ⟨k,q,g1,g2,g3,_,_,g6⟩
   ·rw[g1]at hR
    have hR:s'.taken.any (fun y=>decide (y=(k':Int)))=false:=hR
    rw[hR,if_neg Bool.false_ne_true,g2]at hh
    simp at hh
   ·rw[g1]at hR
    simp only at hR
    have:hitL s o l 0=true:=by
     refine (eU l 0).2 ⟨k,q,g2,?_⟩
     rw[Nat.zero_add]
     unfold hitB
     cases hc2:hasB s.taken (k:Int) with
     | true =>
      rw[hc2]at hR
      have hR:s'.taken.any (fun y=>decide (y=(k':Int)))=true:=hR
      have hc2:s.taken.any (fun y=>decide (y=(k:Int)))=true:=hc2
      rw[hR,if_pos rfl]at hh
      rw[hc2,if_pos rfl]
      exact F.bef j' k' j k o' q' o q ho' hk' hmj g1 ho g2 hh
     | false =>
      rw[hc2]at hR
      have hR:s'.taken.any (fun y=>decide (y=(k':Int)))=false:=hR
      have hc2:s.taken.any (fun y=>decide (y=(k:Int)))=false:=hc2
      rw[hR,if_neg Bool.false_ne_true]at hh
      rw[hc2,if_neg Bool.false_ne_true]
      simp only[Bool.and_eq_true,decide_eq_true_eq]at hh ⊢
      exact⟨by rw[g3,hh.1,R.era],(g6 hh.2.1).1,F.bef k' j' k j q' o' q o hk' ho' g1 hmj g2 ho hh.2.2⟩
    rw[q4]at this; cases this
  have ht':hasB s'.taken (j':Int)=false:=by rw[R.tk j' hj',hmj]; exact q3
  unfold takB
  have ht2:s'.taken.any (fun y=>decide (y=(j':Int)))=false:=ht'
  rw[R.arr,hn,h5 q2,hh,ht2,dT (by rw[←h3,q1,R.era])]; rfl
 have htk':aL s' l' j' o'=({ (hapR s' o').1 with taken:=cf s'.taken j' },(hapR s' o').2):=by rw[aL,if_pos hb]
 refine⟨j',o',ho',by rw[htk']; exact p1,⟨by rw[eQ,eQ,R.era],?_,?_,fun k' hk'=>?_⟩⟩
 ·rw[htk,htk']; exact p2
 ·rw[htk,htk']; exact p3
 ·rw[htk,htk']
  simp only
  rw[cM,R.tk k' hk']
  cases hk:m k' with
  | none =>
   simp only[Bool.false_or]
   refine dF fun h=>?_
   have:j'=k':=by omega
   subst this
   rw[hmj]at hk; cases hk
  | some k =>
   simp only
   rw[cM]
   congr 1
   by_cases h:j=k
   ·subst h
    rw[F.inj j' k' j hj' hk' hmj hk,dT rfl,dT rfl]
   ·rw[dF (show ¬((j:Nat):Int)=k by omega),dF]
    intro h2
    have:j'=k':=by omega
    subst this
    rw[hmj]at hk; cases hk
    exact h rfl
theorem xf {s:RS} {j:Nat} {o:HOp} (hn:s.arr.length=n) (hd:s.dur.length=n):(aL s l j o).1.arr.length=n∧(aL s l j o).1.dur.length=n:=by
 unfold aL hapR
 split
 ·simp only
  split
  ·exact⟨hn,hd⟩
  ·split
   ·exact⟨by simp only[List.length_set]; exact hn,hd⟩
   ·exact⟨hn,hn⟩
 ·exact⟨hn,hd⟩
theorem Fwd.endT (F:Fwd n l l' m) {e:Int} {s:RS} (h:EndT l e s):∀s',SimR l' m s s'→s.arr.length=n→s.dur.length=n→EndT l' e s':=by
 induction h with
 | fin h1 h2=>exact fun s' R _ _=>.fin (R.full F h1) (by rw[R.era]; exact h2)
 | step x hx _ ih =>
  intro s' R hn hd
  rcases bd.1 hx with ⟨j,o,h1,h2,rfl⟩ | ⟨h1,h2,rfl⟩
  ·obtain⟨j',o',g1,g2,g3⟩:=R.take F hn h1 h2
   have hl:=xf (l:=l) (j:=j) (o:=o) hn hd
   exact .step _ (bd.2 (.inl ⟨j',o',g1,g2,rfl⟩)) (ih _ g3 hl.1 hl.2)
  ·exact .step _ (bd.2 (.inr ⟨by rw[R.era]; exact h1,R.full F h2,rfl⟩)) (ih _ R.crash hd hd)
theorem Fwd.first (F:Fwd n l l' m) {e:Int} (h:EndT l e (am n)):EndT l' e (am n):=
 F.endT h _ ⟨rfl,rfl,rfl,fun j' _=>by simp only[am]; cases m j' <;> rfl⟩ List.length_replicate List.length_replicate
end
end Go.Proofs.Ytmdgmolbamlicaa
namespace Go.Proofs.Ytmdgmolbamlicaa
open Go.Eng Go.Plain
set_option maxHeartbeats 32000000
set_option maxRecDepth 20000
def iw (o:HOp):HOp := { o with number:=0 }
def opsT:List HEv→Nat→Int→List HOp
 | [],_,_=>[]
 | x::r,i,era=>if x.kind=3 then opsT r (i+1) (era+1) else if x.kind=1 then co (bF x i era 0) (aW x.client r (i+1))::opsT r (i+1) era else opsT r (i+1) era
theorem n4 (h:List HEv):∀(n i:Nat) (out:List HOp) (era:Int),n+i=h.length→(eS h n i out era).map iw=out.map iw++opsT (h.drop i) i era
 | 0,i,out,era,hn=>by rw[eS,List.drop_eq_nil_of_le (by omega),opsT,List.append_nil]
 | n+1,i,out,era,hn=>by
  have hlt:i<h.length:=by omega
  rw[eS,List.getElem?_eq_getElem hlt,List.drop_eq_getElem_cons hlt,opsT]
  simp only
  split
  ·exact n4 h n (i+1) out (era+1) (by omega)
  ·split
   ·rw[n4 h n (i+1) _ era (by omega),List.map_append,List.append_assoc]
    congr 1
    simp only[List.map_cons,List.map_nil,List.cons_append,List.nil_append]
    congr 1
    unfold mkOp
    cases aW h[i].client (h.drop (i+1)) (i+1) with
    | none=>rfl
    | some v=>rfl
   ·exact n4 h n (i+1) out era (by omega)
theorem mO (h:List HEv):(opsR h).map iw=opsT h 0 0:=by
 rw[opsR,n4 h h.length 0 [] 0 (by omega)]; rfl
section
variable {l l' : List HOp} {n : Nat}
theorem Fwd.id (hl:l'.length=l.length) (h:∀(j:Nat) (o o':HOp),l[j]?=some o→l'[j]?=some o'→o.era=o'.era∧o.op=o'.op∧(mayB o n=true→mayB o' n=true)∧(bf o'=true→bf o=true∧o.value=o'.value))
  (hb:∀(j k:Nat) (o o' q q':HOp),l[j]?=some o→l'[j]?=some o'→l[k]?=some q→l'[k]?=some q'→befB o' q'=true→befB o q=true):Fwd n l l' some:=by
 refine⟨fun j o' ho'=>.inr ?_,fun j k i _ _ h1 h2=>by cases h1; cases h2; rfl,fun j o ho _=>⟨j,by rw[hl]; exact (List.getElem?_eq_some_iff.1 ho).1,rfl⟩,fun j' k' j k o' q' o q a b c d e f g=>?_⟩
 ·obtain⟨o,ho⟩:∃o,l[j]?=some o:=⟨_,List.getElem?_eq_getElem (by rw[←hl]; exact (List.getElem?_eq_some_iff.1 ho').1)⟩
  exact⟨j,o,rfl,ho,h j o o' ho ho'⟩
 ·cases c; cases d
  exact hb _ _ o o' q q' e a f b g
end
theorem pD {l:List HOp} {n:Nat} {e:Int}:EndT l e (am n)↔EndT (l.map iw) e (am n):=by
 have hg:∀(j:Nat) (o o':HOp),l[j]?=some o→(l.map iw)[j]?=some o'→o'=iw o:=fun j o o' h1 h2=>by
  rw[List.getElem?_map,h1]at h2
  exact (Option.some.inj h2).symm
 constructor
 ·refine (Fwd.id (n:=n) (l:=l) (l':=l.map iw) (by simp) (fun j o o' h1 h2=>?_) (fun j k o o' q q' h1 h2 h3 h4 h5=>?_)).first
  ·rw[hg j o o' h1 h2]; exact⟨rfl,rfl,fun h=>h,fun h=>⟨h,rfl⟩⟩
  ·rw[hg j o o' h1 h2,hg k q q' h3 h4]at h5; exact h5
 ·refine (Fwd.id (n:=n) (l:=l.map iw) (l':=l) (by simp) (fun j o' o h1 h2=>?_) (fun j k o' o q' q h1 h2 h3 h4 h5=>?_)).first
  ·rw[hg j o o' h2 h1]; exact⟨rfl,rfl,fun h=>h,fun h=>⟨h,rfl⟩⟩
  ·rw[hg j o o' h2 h1,hg k q q' h4 h3]; exact h5
def noCr (r:List HEv):Bool:=r.all fun x => !decide (x.kind=3)
theorem lU (c:Int) (x:HEv):∀(r:List HEv) (k:Nat),aW c (r++[x]) k=match aW c r k with
  | some v=>some v
  | none=>if noCr r=true∧x.kind≠3∧x.client=c then some (k+r.length,x) else none
 | [],k=>by
  show (if x.kind=3 then none else if x.client=c then some (k,x) else none)=_
  simp only[aW,noCr,List.all_nil,List.length_nil,Nat.add_zero,true_and]
  by_cases h3:x.kind=3
  ·simp[h3]
  ·by_cases hc:x.client=c <;> simp[h3,hc]
 | y::r,k=>by
  rw[List.cons_append,aW,aW]
  by_cases h3:y.kind=3
  ·simp[h3,noCr]
  ·rw[if_neg h3,if_neg h3]
   by_cases hc:y.client=c
   ·rw[if_pos hc,if_pos hc]
   ·rw[if_neg hc,if_neg hc,lU c x r (k+1)]
    cases aW c r (k+1) with
    | some v=>rfl
    | none =>
     have hn:noCr (y::r)=noCr r:=by simp[noCr,h3]
     simp only[hn,List.length_cons]
     rw[show k+1+r.length=k+(r.length+1) by omega]
theorem qs {c:Int}:∀(r p:List HEv) (k:Nat),0≤pend p c→aW c r k=none→noCr r=true→0≤pend (p++r) c
 | [],p,_,h,_,_=>by rw[List.append_nil]; exact h
 | x::r,p,k,h,h1,h2=>by
  rw[aW]at h1
  unfold noCr at h2
  rw[List.all_cons,Bool.and_eq_true]at h2
  have h3:¬x.kind=3:=by simpa using h2.1
  rw[if_neg h3]at h1
  by_cases hc:x.client=c
  ·rw[if_pos hc]at h1; cases h1
  ·rw[if_neg hc]at h1
   have:0≤pend (p++[x]) c:=by
    rw[cL,eo,if_neg h3]
    by_cases k1:x.kind=1
    ·rw[if_pos k1,if_neg hc]; exact h
    ·rw[if_neg k1]
     by_cases k2:x.kind=2
     ·rw[if_pos k2,if_neg hc]; exact h
     ·rw[if_neg k2]; exact h
   have:=qs r (p++[x]) (k+1) this h1 h2.2
   rwa [List.append_assoc]at this
theorem gE:∀(r:List HEv) (i:Nat) (era:Int) (o:HOp),o∈opsT r i era→(i:Int)≤o.invoked∧o.invoked<((i+r.length:Nat):Int)∧o.returned<((i+r.length:Nat):Int)∧era≤o.era
 | [],_,_,_,h=>by cases h
 | x::r,i,era,o,h=>by
  have hret:∀(c:Int) (r:List HEv) (k:Nat) (v:Nat×HEv),aW c r k=some v→k≤v.1∧v.1<k+r.length:=by
   intro c r
   induction r with
   | nil=>intro k v h; cases h
   | cons y r ih =>
    intro k v h
    rw[aW]at h
    split at h
    ·cases h
    ·split at h
     ·cases h; simp
     ·have:=ih (k+1) v h
      rw[List.length_cons]; omega
  rw[List.length_cons]
  rw[opsT]at h
  split at h
  ·have:=gE r (i+1) (era+1) o h; omega
  ·split at h
   ·rcases List.mem_cons.1 h with rfl | h
    ·cases hv:aW x.client r (i+1) with
     | none=>simp only[co,bF]; omega
     | some v =>
      obtain⟨h1,h2⟩:=hret _ _ _ v hv
      obtain⟨q,y⟩:=v
      simp only[co,bF]at h1 h2 ⊢; omega
    ·have:=gE r (i+1) era o h; omega
   ·have:=gE r (i+1) era o h; omega
def nCr (r:List HEv):Nat:=r.countP fun x=>decide (x.kind=3)
theorem lz (x:HEv) (h3:x.kind=3):∀(r:List HEv) (i:Nat) (era:Int),opsT (r++[x]) i era=opsT r i era
 | [],i,era=>by simp[opsT,h3]
 | y::r,i,era=>by
  rw[List.cons_append,opsT,opsT,lz x h3 r,lz x h3 r,lU]
  have:(match aW y.client r (i+1) with
   | some v=>some v
   | none=>if noCr r=true∧x.kind≠3∧x.client=y.client then some (i+1+r.length,x) else none)=aW y.client r (i+1):=by
   cases aW y.client r (i+1) with
   | some v=>rfl
   | none=>simp[h3]
  rw[this]
theorem oY (x:HEv) (h1:x.kind=1):∀(r p:List HEv) (i:Nat) (era:Int),pend (p++r) x.client<0→opsT (r++[x]) i era=opsT r i era++[bF x (i+r.length) (era+nCr r) 0]
 | [],p,i,era,_=>by
  have h3:¬x.kind=3:=by omega
  simp[opsT,h3,h1,aW,co,nCr]
 | y::r,p,i,era,hp=>by
  have hp2:pend ((p++[y])++r) x.client<0:=by rw[List.append_assoc]; exact hp
  have e1:era+1+(nCr r:Int)=era+((nCr r+1:Nat):Int):=by omega
  rw[List.cons_append,opsT,opsT,oY x h1 r (p++[y]) _ _ hp2,oY x h1 r (p++[y]) _ _ hp2,lU,List.length_cons,show i+1+r.length=i+(r.length+1) by omega]
  have hn:nCr (y::r)=nCr r+if y.kind=3 then 1 else 0:=by
   unfold nCr
   rw[List.countP_cons]
   by_cases h3:y.kind=3
   ·rw[if_pos (dT h3),if_pos h3]
   ·rw[if_neg (by rw[dF h3]; decide),if_neg h3]
  by_cases h3:y.kind=3
  ·rw[if_pos h3,if_pos h3,hn,if_pos h3,e1]
  ·rw[if_neg h3,if_neg h3,hn,if_neg h3,Nat.add_zero]
   by_cases k1:y.kind=1
   ·rw[if_pos k1,if_pos k1]
    have:(match aW y.client r (i+1) with
     | some v=>some v
     | none=>if noCr r=true∧x.kind≠3∧x.client=y.client then some (i+(r.length+1),x) else none)=aW y.client r (i+1):=by
     cases hv:aW y.client r (i+1) with
     | some v=>rfl
     | none =>
      simp only
      rw[if_neg]
      rintro⟨a,_,c⟩
      have h0:0≤pend (p++[y]) y.client:=by
       rw[cL,eo,if_neg h3,if_pos k1,if_pos rfl]; omega
      have:=qs r (p++[y]) (i+1) h0 hv a
      rw[c]at hp2
      omega
    rw[this]; rfl
   ·rw[if_neg k1,if_neg k1]
    rfl
def Answ (N:Nat) (o o':HOp):Prop:=o=o'∨(o'.returned = -1∧o'.err=0∧∃(v:List UInt8) (e:Int),o = { o' with returned:=N,value:=v,err:=e })
theorem oX (x:HEv) (h2:x.kind=2):∀(r:List HEv) (i:Nat) (era:Int),(opsT (r++[x]) i era).length=(opsT r i era).length∧∀(j:Nat) (o o':HOp),(opsT (r++[x]) i era)[j]?=some o→(opsT r i era)[j]?=some o'→Answ (i+r.length) o o'
 | [],i,era=>by
  have h3:¬x.kind=3:=by omega
  have h1:¬x.kind=1:=by omega
  have h0:opsT ([]++[x]) i era=[]:=by simp[opsT,h3,h1]
  rw[h0]
  exact⟨rfl,fun j o o' h=>by simp at h⟩
 | y::r,i,era=>by
  obtain⟨a1,a2⟩:=oX x h2 r (i+1) era
  obtain⟨b1,b2⟩:=oX x h2 r (i+1) (era+1)
  rw[show i+1+r.length=i+(r.length+1) by omega]at a2 b2
  rw[List.cons_append,opsT,opsT,List.length_cons]
  by_cases h3:y.kind=3
  ·rw[if_pos h3,if_pos h3]; exact⟨b1,b2⟩
  ·rw[if_neg h3,if_neg h3]
   by_cases k1:y.kind=1
   ·rw[if_pos k1,if_pos k1]
    refine⟨by rw[List.length_cons,List.length_cons,a1],fun j o o' ho ho'=>?_⟩
    cases j with
    | succ j=>exact a2 j o o' (by simpa using ho) (by simpa using ho')
    | zero =>
     simp only[List.getElem?_cons_zero,Option.some.injEq]at ho ho'
     subst ho ho'
     rw[lU]
     cases aW y.client r (i+1) with
     | some v=>exact .inl rfl
     | none =>
      simp only
      split
      ·refine .inr ⟨rfl,rfl,x.value,x.err,?_⟩
       simp only[co,bF]
       rw[show i+1+r.length=i+(r.length+1) by omega]
      ·exact .inl rfl
   ·rw[if_neg k1,if_neg k1]; exact⟨a1,a2⟩
theorem AW {n:Nat} {e:Int} {x:HEv} (h2:x.kind=2) (g:List HEv) (h:EndT (opsT (g++[x]) 0 0) e (am n)):EndT (opsT g 0 0) e (am n):=by
 obtain⟨a1,a2⟩:=oX x h2 g 0 0
 refine (Fwd.id (n:=n) a1.symm (fun j o o' h1 h2=>?_) (fun j k o o' q q' h1 h2 h3 h4 h5=>?_)).first h
 ·rcases a2 j o o' h1 h2 with rfl | ⟨c1,c2,v,e,rfl⟩
  ·exact⟨rfl,rfl,fun h=>h,fun h=>⟨h,rfl⟩⟩
  ·refine⟨rfl,rfl,fun hm=>?_,fun hm=>?_⟩
   ·unfold mayB at hm ⊢
    rw[Bool.and_eq_true]at hm ⊢
    exact⟨hm.1,by rw[c1]; rfl⟩
   ·unfold bf at hm
    rw[c1]at hm; cases hm
 ·have hq:q.invoked=q'.invoked∧q.era=q'.era:=by
   rcases a2 k q q' h3 h4 with rfl | ⟨_,_,v,e,rfl⟩ <;> exact⟨rfl,rfl⟩
  unfold befB at h5 ⊢
  rw[hq.1,hq.2]
  rcases a2 j o o' h1 h2 with rfl | ⟨c1,c2,v,e,rfl⟩
  ·exact h5
  ·by_cases he:o'.era=q'.era
   ·rw[if_pos he,c1]at h5; cases h5
   ·rw[if_neg he]at h5
    simp only
    rw[if_neg he]; exact h5
theorem vp {l:List HOp} {e:Int} {s:RS} (h:EndT l (e+1) s):s.era<e→EndT l e s:=by
 induction h with
 | fin h1 h2=>intro h3; omega
 | step x hx _ ih =>
  intro h3
  rcases bd.1 hx with ⟨j,o,h1,h2,rfl⟩ | ⟨h1,h2,rfl⟩
  ·exact .step _ (bd.2 (.inl ⟨j,o,h1,h2,rfl⟩)) (ih (by rw[eQ]; exact h3))
  ·rename_i s _
   by_cases h4:s.era=e-1
   ·exact .fin h2 h4
   ·exact .step _ (bd.2 (.inr ⟨by omega,h2,rfl⟩)) (ih (by simp only[aI]; omega))
section
variable {l : List HOp} {z : HOp} {e : Int}
theorem oC {j:Nat} {o:HOp} (h:(l++[z])[j]?=some o):(j<l.length∧l[j]?=some o)∨(j=l.length∧o=z):=by
 rw[List.getElem?_append]at h
 split at h
 ·rename_i hj; exact .inl ⟨hj,h⟩
 ·rcases hk:j-l.length with _ | k
  ·rw[hk]at h; cases h; exact .inr ⟨by omega,rfl⟩
  ·rw[hk]at h; simp at h
theorem jo {s:RS} (h:bp s (l++[z]) 0=true):bp s l 0=true:=by
 rw[kF]at h ⊢
 exact fun j q hj he hm=>h j q (iJ hj) he hm
theorem x6 (hz:z.era=e-1) (hb:∀o∈l,o.era=z.era→0≤o.returned→befB o z=true) (hm:bf z=false) {t:RS} (h:EndT (l++[z]) e t):t.era=z.era→hasB t.taken (l.length:Int)=true→bp t (l++[z]) 0=true:=by
 induction h with
 | fin h1 _=>exact fun _ _=>h1
 | step x hx _ ih =>
  rename_i t _
  intro he ht
  rcases bd.1 hx with ⟨j,o,h1,h2,rfl⟩ | ⟨h1,h2,rfl⟩
  ·obtain⟨q1,q2,q3,q4⟩:=eR (bW h2)
   have htk:(aL t (l++[z]) j o).1.taken=cf t.taken j:=by rw[aL,if_pos (bW h2)]
   have hf:=ih (by rw[eQ]; exact he) (by rw[htk,cM,ht]; rfl)
   rw[kF]at hf ⊢
   intro k q hk hq hqm
   have:=hf k q hk (by rw[eQ]; exact hq) hqm
   rw[htk,cM,Bool.or_eq_true,decide_eq_true_eq]at this
   rcases this with h3 | h3
   ·exact h3
   ·have:j=k:=by omega
    subst this
    have hqo:o=q:=by rw[hk]at h1; exact (Option.some.inj h1).symm
    subst hqo
    rcases oC hk with ⟨hj,hq2⟩ | ⟨hj,rfl⟩
    ·have hmr:0≤o.returned:=by
      unfold bf at hqm
      rw[Bool.and_eq_true]at hqm
      exact of_decide_eq_true hqm.1
     have hbz:=hb o (List.mem_of_getElem? hq2) (by omega) hmr
     have:hitL t o (l++[z]) 0=true:=(eU _ 0).2 ⟨l.length,z,by simp,by
      rw[Nat.zero_add]
      unfold hitB
      have ht:t.taken.any (fun y=>decide (y=(l.length:Int)))=true:=ht
      rw[ht,if_pos rfl]; exact hbz⟩
     rw[q4]at this; cases this
    ·rw[hm]at hqm; cases hqm
  ·omega
theorem AX (hz:z.era=e-1) (hb:∀o∈l,o.era=z.era→0≤o.returned→befB o z=true) (hm:bf z=false) {s:RS} (h:EndT (l++[z]) e s):hasB s.taken (l.length:Int)=false→EndT l e s:=by
 induction h with
 | fin h1 h2=>exact fun _=>.fin (jo h1) h2
 | step x hx hE ih =>
  rename_i s
  intro hn
  rcases bd.1 hx with ⟨j,o,h1,h2,rfl⟩ | ⟨h1,h2,rfl⟩
  ·obtain⟨q1,q2,q3,q4⟩:=eR (bW h2)
   have htk:(aL s (l++[z]) j o).1.taken=cf s.taken j:=by rw[aL,if_pos (bW h2)]
   rcases oC h1 with ⟨hj,ho⟩ | ⟨hj,rfl⟩
   ·have hit:hitL s o l 0=false:=by
     rw[Bool.eq_false_iff]
     intro hc
     obtain⟨k,q,hk,hh⟩:=(eU l 0).1 hc
     have:hitL s o (l++[z]) 0=true:=(eU _ 0).2 ⟨k,q,iJ hk,hh⟩
     rw[q4]at this; cases this
    have hb2:takB s l j o=true:=by
     unfold takB
     have q3:s.taken.any (fun y=>decide (y=(j:Int)))=false:=q3
     rw[dT q1,q2,q3,hit]; rfl
    have hsame:aL s (l++[z]) j o=aL s l j o:=by rw[aL,aL,if_pos (bW h2),if_pos hb2]
    rw[hsame]at ih h2
    refine .step _ (bd.2 (.inl ⟨j,o,ho,h2,rfl⟩)) (ih ?_)
    have htk2:(aL s l j o).1.taken=cf s.taken j:=by rw[aL,if_pos hb2]
    rw[htk2,cM,hn,dF (by omega)]; rfl
   ·subst hj
    have hera:s.era=e-1:=by rw[←q1]; exact hz
    have hf:=x6 hz hb hm hE (by rw[eQ]; exact q1.symm) (by rw[htk,cM,dT rfl,Bool.or_true])
    refine .fin (jo (z:=o) ?_) hera
    rw[kF]at hf ⊢
    intro k q hk hq hqm
    have:=hf k q hk (by rw[eQ]; exact hq) hqm
    rw[htk,cM,Bool.or_eq_true,decide_eq_true_eq]at this
    rcases this with h3 | h3
    ·exact h3
    ·have:k=l.length:=by omega
     subst this
     rcases oC hk with ⟨h5,_⟩ | ⟨_,rfl⟩
     ·omega
     ·rw[hm]at hqm; cases hqm
  ·exact .step _ (bd.2 (.inr ⟨h1,jo h2,rfl⟩)) (ih rfl)
end
theorem xI {n:Nat} {g:List HEv} {x:HEv} (hA:bT (g++[x])) (h:EndT (opsR (g++[x])) (ao (g++[x])) (am n)):EndT (opsR g) (ao g) (am n):=by
 rw[pD,mO]at h ⊢
 have hf:fitB g x=true:=by
  have:=hA g.length x (by rw[List.getElem?_append_right (Nat.le_refl _),Nat.sub_self]; rfl)
  rwa [List.take_left' rfl]at this
 have hE:ao (g++[x])=ao g+if x.kind=3 then 1 else 0:=by
  unfold ao
  rw[List.countP_append,List.countP_cons,List.countP_nil,Nat.zero_add]
  by_cases h3:x.kind=3
  ·rw[if_pos (dT h3),if_pos h3]; omega
  ·rw[if_neg (by rw[dF h3]; decide),if_neg h3]; rfl
 unfold fitB at hf
 by_cases k1:x.kind=1
 ·rw[if_pos k1]at hf
  unfold fit1 at hf
  simp only[Bool.and_eq_true,decide_eq_true_eq]at hf
  rw[hE,if_neg (by omega),Nat.add_zero,oY x k1 g [] 0 0 hf.1.1.1.2]at h
  refine AX (z:=bF x (0+g.length) (0+(nCr g:Int)) 0) ?_ (fun o ho he hr=>?_) rfl h rfl
  ·simp only[bF,nCr,ao]; omega
  ·have:=gE g 0 0 o ho
   rw[befB,if_pos he,dT hr]
   simp only[bF,Bool.true_and]
   exact dT (by omega)
 ·rw[if_neg k1]at hf
  by_cases k2:x.kind=2
  ·rw[hE,if_neg (by omega),Nat.add_zero]at h
   exact AW k2 g h
  ·rw[if_neg k2]at hf
   by_cases k3:x.kind=3
   ·rw[hE,if_pos k3,lz x k3]at h
    refine vp (e:=ao g) ?_ ?_
    ·have:((ao g+1:Nat):Int)=(ao g:Int)+1:=by omega
     rwa [this]at h
    ·have:=dG g
     show (0:Int)<_
     omega
   ·rw[if_neg k3]at hf; cases hf
end Go.Proofs.Ytmdgmolbamlicaa
namespace Go.Proofs.Ytmdgmolbamlicaa
open Go.Eng Go.Plain
set_option maxHeartbeats 32000000
set_option maxRecDepth 20000
def badE (y:HEv):Bool:=decide (y.err=1)||decide (y.err=8)
def badC (c:Int) (r:List HEv):Bool:=match aW c r 0 with
 | some v=>badE v.2
 | none=>false
def remE (x:HEv) (r:List HEv):Bool:=if x.kind=1 then badC x.client r else if x.kind=2 then badE x else false
def filt:List HEv→List HEv
 | []=>[]
 | x::r=>if remE x r then filt r else x::filt r
def eK:List HEv→List HEv→List HEv
 | [],_=>[]
 | x::p,r=>if remE x (p++r) then eK p r else x::eK p r
theorem mV:∀p:List HEv,eK p []=filt p
 | []=>rfl
 | x::p=>by rw[eK,filt,List.append_nil,mV p]
theorem js (x:HEv) (r:List HEv):∀p:List HEv,eK (p++[x]) r=eK p (x::r)++if remE x r then[] else[x]
 | []=>by
  show (if remE x ([]++r) then eK [] r else x::eK [] r)=_
  cases h:remE x r <;> simp[eK,h]
 | y::p=>by
  rw[List.cons_append,eK,eK,js x r p,List.append_assoc]
  simp only[List.cons_append,List.nil_append]
  split <;> rfl
theorem mM (c:Int):∀(r:List HEv) (k:Nat),aW c r (k+1)=(aW c r k).map fun v=>(v.1+1,v.2)
 | [],_=>rfl
 | x::r,k=>by
  rw[aW,aW]
  split
  ·rfl
  ·split
   ·rfl
   ·exact mM c r (k+1)
theorem fZ (c:Int) (r:List HEv):∀k:Nat,aW c r k=(aW c r 0).map fun v=>(v.1+k,v.2)
 | 0=>by cases aW c r 0 <;> rfl
 | k+1=>by
  rw[mM,fZ c r k,Option.map_map]
  congr 1
theorem kP {c:Int} {x:HEv} {r:List HEv} (h3:x.kind≠3) (hc:x.client≠c):badC c (x::r)=badC c r:=by
 unfold badC
 rw[aW,if_neg h3,if_neg hc,mM]
 cases aW c r 0 <;> rfl
theorem Bj {x:HEv} {r:List HEv} (h3:x.kind≠3):badC x.client (x::r)=badE x:=by
 unfold badC
 rw[aW,if_neg h3,if_pos rfl]
def FI (p r:List HEv):Prop:=∀c:Int,(pend p c<0→pend (eK p r) c<0)∧(0≤pend p c→(badC c r=true→pend (eK p r) c<0)∧(badC c r=false→0≤pend (eK p r) c∧(eK p r)[(pend (eK p r) c).toNat]?=p[(pend p c).toNat]?))
theorem fq (p:List HEv) (x:HEv) (c:Int):pend (p++[x]) c=if x.kind=3 then-1 else if x.kind=1 then (if x.client=c then (p.length:Int) else pend p c) else if x.kind=2 then (if x.client=c then-1 else pend p c) else pend p c:=by
 rw[cL,eo]
theorem iK {p:List HEv} {x:HEv} {c:Int} (h:0≤pend p c):(p++[x])[(pend p c).toNat]?=p[(pend p c).toNat]?:=by
 have:=rD p c
 rw[List.getElem?_append_left (by omega)]
theorem Cb {p r:List HEv} {x:HEv} (hf:fitB p x=true) (I:FI p (x::r)):FI (p++[x]) r∧(remE x r=false→fitB (eK p (x::r)) x=true):=by
 unfold FI
 obtain⟨Q,hQ⟩:∃Q,Q=eK p (x::r):=⟨_,rfl⟩
 have hQ':=js x r p
 unfold FI at I
 rw[←hQ]at hQ' I ⊢
 rw[hQ']
 unfold fitB at hf ⊢
 by_cases k1:x.kind=1
 ·rw[if_pos k1]at hf ⊢
  have h3:x.kind≠3:=by omega
  have hp:pend p x.client<0:=by
   unfold fit1 at hf
   simp only[Bool.and_eq_true,decide_eq_true_eq]at hf
   exact hf.1.1.1.2
  have hQp:=(I x.client).1 hp
  have hrm:remE x r=badC x.client r:=by rw[remE,if_pos k1]
  refine⟨fun c=>?_,fun _=>?_⟩
  ·rw[hrm]
   cases hb:badC x.client r with
   | true =>
    rw[if_pos rfl,List.append_nil,fq,if_neg h3,if_pos k1]
    by_cases hc:x.client=c
    ·subst hc
     rw[if_pos rfl]
     exact⟨fun h=>by omega,fun _=>⟨fun _=>hQp,fun h=>(by rw[hb]at h; cases h)⟩⟩
    ·rw[if_neg hc]
     obtain⟨i1,i2⟩:=I c
     rw[kP h3 hc]at i2
     refine⟨i1,fun h=>?_⟩
     rw[iK h]
     exact i2 h
   | false =>
    rw[if_neg Bool.false_ne_true,fq,fq,if_neg h3,if_neg h3,if_pos k1,if_pos k1]
    by_cases hc:x.client=c
    ·subst hc
     rw[if_pos rfl,if_pos rfl]
     refine⟨fun h=>by omega,fun _=>⟨fun h=>(by rw[hb]at h; cases h),fun _=>⟨by omega,?_⟩⟩⟩
     rw[Int.toNat_natCast,Int.toNat_natCast,List.getElem?_append_right (Nat.le_refl _),List.getElem?_append_right (Nat.le_refl _),Nat.sub_self,Nat.sub_self]
    ·rw[if_neg hc,if_neg hc]
     obtain⟨i1,i2⟩:=I c
     rw[kP h3 hc]at i2
     refine⟨i1,fun h=>⟨(i2 h).1,fun hb2=>?_⟩⟩
     obtain⟨j1,j2⟩:=(i2 h).2 hb2
     rw[iK h,iK j1]
     exact⟨j1,j2⟩
  ·unfold fit1 at hf ⊢
   simp only[Bool.and_eq_true,decide_eq_true_eq]at hf ⊢
   exact⟨⟨⟨⟨hf.1.1.1.1,hQp⟩,hf.1.1.2⟩,hf.1.2⟩,hf.2⟩
 ·rw[if_neg k1]at hf ⊢
  by_cases k2:x.kind=2
  ·rw[if_pos k2]at hf ⊢
   have h3:x.kind≠3:=by omega
   have hp:0≤pend p x.client:=by
    unfold fit2 at hf
    simp only[Bool.and_eq_true]at hf
    have:=hf.1.1.1.2
    simp at this
    exact this
   have hrm:remE x r=badE x:=by rw[remE,if_neg k1,if_pos k2]
   obtain⟨i1,i2⟩:=I x.client
   rw[Bj h3]at i2
   refine⟨fun c=>?_,fun hr=>?_⟩
   ·rw[hrm]
    cases hb:badE x with
    | true =>
     rw[if_pos rfl,List.append_nil,fq,if_neg h3,if_neg k1,if_pos k2]
     by_cases hc:x.client=c
     ·subst hc
      rw[if_pos rfl]
      exact⟨fun _=>(i2 hp).1 hb,fun h=>by omega⟩
     ·rw[if_neg hc]
      obtain⟨i1,i2⟩:=I c
      rw[kP h3 hc]at i2
      refine⟨i1,fun h=>?_⟩
      rw[iK h]
      exact i2 h
    | false =>
     rw[if_neg Bool.false_ne_true,fq,fq,if_neg h3,if_neg h3,if_neg k1,if_neg k1,if_pos k2,if_pos k2]
     by_cases hc:x.client=c
     ·rw[if_pos hc,if_pos hc]
      exact⟨fun h=>h,fun h=>by omega⟩
     ·rw[if_neg hc,if_neg hc]
      obtain⟨i1,i2⟩:=I c
      rw[kP h3 hc]at i2
      refine⟨i1,fun h=>⟨(i2 h).1,fun hb2=>?_⟩⟩
      obtain⟨j1,j2⟩:=(i2 h).2 hb2
      rw[iK h,iK j1]
      exact⟨j1,j2⟩
   ·rw[hrm]at hr
    obtain⟨j1,j2⟩:=(i2 hp).2 hr
    unfold fit2 at hf ⊢
    rw[j2]
    simp only[Bool.and_eq_true]at hf ⊢
    refine⟨⟨⟨⟨hf.1.1.1.1,?_⟩,hf.1.1.2⟩,hf.1.2⟩,hf.2⟩
    simp; exact j1
  ·rw[if_neg k2]at hf ⊢
   by_cases k3:x.kind=3
   ·rw[if_pos k3]at hf ⊢
    have hrm:remE x r=false:=by rw[remE,if_neg k1,if_neg k2]
    refine⟨fun c=>?_,fun _=>hf⟩
    rw[hrm,if_neg Bool.false_ne_true,fq,fq,if_pos k3,if_pos k3]
    exact⟨fun h=>h,fun h=>by omega⟩
   ·rw[if_neg k3]at hf; cases hf
theorem tJ:∀(r p:List HEv),bT (p++r)→FI p r→bT (eK p r)→bT (filt (p++r))
 | [],p,_,_,h=>by rw[List.append_nil,←mV]; exact h
 | x::r,p,hA,I,h=>by
  have hf:fitB p x=true:=by
   have:=hA p.length x (by rw[List.getElem?_append_right (Nat.le_refl _),Nat.sub_self]; rfl)
   rwa [List.take_left' rfl]at this
  obtain⟨h1,h2⟩:=Cb hf I
  have h3:bT (eK (p++[x]) r):=by
   rw[js]
   cases hr:remE x r with
   | true=>rw[if_pos rfl,List.append_nil]; exact h
   | false=>rw[if_neg Bool.false_ne_true]; exact h.snoc (h2 hr)
  have:=tJ r (p++[x]) (by rw[List.append_assoc]; exact hA) h1 h3
  rwa [List.append_assoc]at this
theorem pB:∀(r:List HEv) (x:HEv),x∈filt r→x∈r
 | [],_,h=>h
 | y::r,x,h=>by
  rw[filt]at h
  split at h
  ·exact List.mem_cons_of_mem _ (pB r x h)
  ·rcases List.mem_cons.1 h with rfl | h
   ·exact List.mem_cons_self
   ·exact List.mem_cons_of_mem _ (pB r x h)
theorem tH:∀r:List HEv,(filt r).length≤r.length
 | []=>Nat.le_refl _
 | y::r=>by
  have:=tH r
  rw[filt]
  split
  ·rw[List.length_cons]; omega
  ·rw[List.length_cons,List.length_cons]; omega
theorem vj {h:List HEv} (H:mG h):mG (filt h):=by
 have:=tJ h [] H.fit (fun c=>⟨fun h=>h,fun h=>absurd h (by rw[show pend [] c = -1 from rfl]; decide)⟩) jB
 refine⟨this,fun x hx=>H.cl x (pB h x hx),Nat.le_trans (tH h) H.len⟩
theorem wC:∀r:List HEv,(filt r).countP (fun x=>decide (x.kind=3))=r.countP fun x=>decide (x.kind=3)
 | []=>rfl
 | y::r=>by
  rw[filt,List.countP_cons,←wC r]
  cases hr:remE y r with
  | true =>
   have:¬y.kind=3:=by
    intro h3
    rw[remE,if_neg (by omega),if_neg (by omega)]at hr; cases hr
   rw[if_pos rfl,if_neg (by rw[dF this]; decide)]; rfl
  | false=>rw[if_neg Bool.false_ne_true,List.countP_cons]
def nI (r:List HEv):Prop:=∀(p r':List HEv) (x:HEv),r=p++x::r'→x.kind=1→∀v,aW x.client r' 0=some v→v.2.kind=2
theorem sL {c:Int}:∀(r p:List HEv) (k:Nat) (v:Nat×HEv),bT (p++r)→0≤pend p c→aW c r k=some v→v.2.kind=2
 | [],_,_,_,_,_,h=>by cases h
 | x::r,p,k,v,hA,hp,h=>by
  have hf:fitB p x=true:=by
   have:=hA p.length x (by rw[List.getElem?_append_right (Nat.le_refl _),Nat.sub_self]; rfl)
   rwa [List.take_left' rfl]at this
  rw[aW]at h
  by_cases h3:x.kind=3
  ·rw[if_pos h3]at h; cases h
  ·rw[if_neg h3]at h
   by_cases hc:x.client=c
   ·rw[if_pos hc]at h
    cases h
    unfold fitB at hf
    by_cases k1:x.kind=1
    ·rw[if_pos k1]at hf
     unfold fit1 at hf
     simp only[Bool.and_eq_true,decide_eq_true_eq]at hf
     have:=hf.1.1.1.2
     rw[hc]at this
     omega
    ·rw[if_neg k1]at hf
     by_cases k2:x.kind=2
     ·exact k2
     ·rw[if_neg k2,if_neg h3]at hf; cases hf
   ·rw[if_neg hc]at h
    refine sL r (p++[x]) (k+1) v (by rw[List.append_assoc]; exact hA) ?_ h
    rw[fq,if_neg h3]
    by_cases k1:x.kind=1
    ·rw[if_pos k1,if_neg hc]; exact hp
    ·rw[if_neg k1]
     by_cases k2:x.kind=2
     ·rw[if_pos k2,if_neg hc]; exact hp
     ·rw[if_neg k2]; exact hp
theorem CI {h:List HEv} (hA:bT h):nI h:=fun p r' x e k1 v hv=>by
 subst e
 refine sL r' (p++[x]) 0 v (by rw[List.append_assoc]; exact hA) ?_ hv
 rw[fq,if_neg (by omega),if_pos k1,if_pos rfl]; omega
theorem nI.tail {x:HEv} {r:List HEv} (h:nI (x::r)):nI r:=fun p r' y e=>h (x::p) r' y (by rw[e]; rfl)
end Go.Proofs.Ytmdgmolbamlicaa
namespace Go.Proofs.Ytmdgmolbamlicaa
open Go.Eng Go.Plain
set_option maxHeartbeats 32000000
set_option maxRecDepth 20000
def posF:List HEv→Nat→Nat→Nat→Nat
 | [],_,i',_=>i'
 | x::r,i,i',q=>if q≤i then i' else posF r (i+1) (if remE x r then i' else i'+1) q
def eT (o:HOp):Bool := !(decide (0≤o.returned)&&(decide (o.err=1)||decide (o.err=8)))
def renO (t:Nat→Nat) (o:HOp):HOp := { o with invoked:=t o.invoked.toNat,returned:=if o.returned<0 then o.returned else (t o.returned.toNat:Int) }
def ni (r:List HEv) (i q:Nat):Prop:=∃(a b:List HEv) (x:HEv),r=a++x::b∧q=i+a.length∧remE x b=false
theorem rA:∀(r:List HEv) (i i' q:Nat),i'≤posF r i i' q
 | [],_,_,_=>Nat.le_refl _
 | x::r,i,i',q=>by
  rw[posF]
  split
  ·exact Nat.le_refl _
  ·exact Nat.le_trans (by split <;> omega) (rA r (i+1) (if remE x r then i' else i'+1) q)
theorem qo:∀(r:List HEv) (i i' a b:Nat),a≤b→posF r i i' a≤posF r i i' b
 | [],_,_,_,_,_=>Nat.le_refl _
 | x::r,i,i',a,b,h=>by
  rw[posF,posF]
  by_cases ha:a≤i
  ·rw[if_pos ha]
   split
   ·exact Nat.le_refl _
   ·exact Nat.le_trans (by split <;> omega) (rA r (i+1) (if remE x r then i' else i'+1) b)
  ·rw[if_neg ha,if_neg (c:=b≤i) (by omega)]
   exact qo r (i+1) _ a b h
theorem we:∀(r:List HEv) (i i' a b:Nat),ni r i a→a<b→posF r i i' a<posF r i i' b
 | [],_,_,_,_,⟨p,q,x,h,_⟩,_=>by simp at h
 | x::r,i,i',a,b,⟨p,q,y,h,ha,hr⟩,hab=>by
  rw[posF,posF]
  cases p with
  | nil =>
   simp at h
   obtain⟨rfl,rfl⟩:=h
   simp at ha
   rw[if_pos (by omega),if_neg (by omega),hr,if_neg Bool.false_ne_true]
   have:=rA r (i+1) (i'+1) b
   omega
  | cons z p =>
   simp at h
   obtain⟨rfl,rfl⟩:=h
   simp at ha
   rw[if_neg (c:=a≤i) (by omega),if_neg (c:=b≤i) (by omega)]
   exact we _ (i+1) _ a b ⟨p,q,y,rfl,by omega,hr⟩ hab
theorem ni.tail {x:HEv} {r:List HEv} {i q:Nat} (h:ni r (i+1) q):ni (x::r) i q:=by
 obtain⟨a,b,y,rfl,h2,h3⟩:=h
 exact⟨x::a,b,y,rfl,by rw[List.length_cons]; omega,h3⟩
theorem retF (c:Int):∀(r:List HEv) (k k':Nat),(∀v,aW c r k=some v→v.2.kind=2∧badE v.2=false)→aW c (filt r) k'=(aW c r k).map fun v=>(posF r k k' v.1,v.2)
 | [],_,_,_=>rfl
 | x::r,k,k',hg=>by
  rw[aW]at hg ⊢
  by_cases h3:x.kind=3
  ·have hr:remE x r=false:=by rw[remE,if_neg (by omega),if_neg (by omega)]
   rw[if_pos h3,filt,hr,if_neg Bool.false_ne_true,aW,if_pos h3]; rfl
  ·rw[if_neg h3]at hg ⊢
   by_cases hc:x.client=c
   ·rw[if_pos hc]at hg ⊢
    obtain⟨g1,g2⟩:=hg _ rfl
    have hr:remE x r=false:=by rw[remE,if_neg (by simp only at g1; omega),if_pos g1]; exact g2
    rw[filt,hr,if_neg Bool.false_ne_true,aW,if_neg h3,if_pos hc,Option.map_some,posF,if_pos (Nat.le_refl _)]
   ·rw[if_neg hc]at hg ⊢
    have hpos:∀v,aW c r (k+1)=some v→posF (x::r) k k' v.1=posF r (k+1) (if remE x r then k' else k'+1) v.1:=fun v hv=>by
     have hk:k+1≤v.1:=by
      rw[fZ c r (k+1)]at hv
      cases h0:aW c r 0 with
      | none=>rw[h0]at hv; cases hv
      | some w=>rw[h0]at hv; cases hv; simp only; omega
     rw[posF,if_neg (by omega)]
    have hmap:(aW c r (k+1)).map (fun v=>(posF (x::r) k k' v.1,v.2))=(aW c r (k+1)).map fun v=>(posF r (k+1) (if remE x r then k' else k'+1) v.1,v.2):=by
     cases hv:aW c r (k+1) with
     | none=>rfl
     | some v=>rw[Option.map_some,Option.map_some,hpos v hv]
    rw[hmap,filt]
    cases hr:remE x r with
    | true =>
     rw[if_pos rfl,if_pos rfl]
     exact retF c r (k+1) k' hg
    | false =>
     rw[if_neg Bool.false_ne_true,if_neg Bool.false_ne_true,aW,if_neg h3,if_neg hc]
     exact retF c r (k+1) (k'+1) hg
theorem gr:∀(r:List HEv) (i i':Nat) (era:Int),nI r→opsT (filt r) i' era=((opsT r i era).filter eT).map (renO (posF r i i'))
 | [],_,_,_,_=>rfl
 | x::r,i,i',era,hG=>by
  have tail:∀(era2:Int) (L:List HOp),L=opsT r (i+1) era2→(L.filter eT).map (renO (posF (x::r) i i'))=(L.filter eT).map (renO (posF r (i+1) (if remE x r then i' else i'+1))):=fun era2 L hL=>by
   refine List.map_congr_left fun o ho=>?_
   have ho:=(List.mem_filter.1 ho).1
   rw[hL]at ho
   obtain⟨b1,_,b3,_⟩:=gE r (i+1) era2 o ho
   have hret:o.returned<0∨i+1≤o.returned.toNat:=by
    by_cases hr:o.returned<0
    ·exact .inl hr
    ·right
     have key:∀(r:List HEv) (i:Nat) (era:Int) (o:HOp),o∈opsT r i era→0≤o.returned→(i:Int)≤o.returned:=by
      intro r
      induction r with
      | nil=>intro i era o h; cases h
      | cons y r ih =>
       intro i era o h h0
       rw[opsT]at h
       split at h
       ·have:=ih (i+1) _ o h h0; omega
       ·split at h
        ·rcases List.mem_cons.1 h with rfl | h
         ·cases hv:aW y.client r (i+1) with
          | none=>rw[hv]at h0; simp[co,bF]at h0
          | some v =>
           rw[fZ]at hv
           cases hw:aW y.client r 0 with
           | none=>rw[hw]at hv; cases hv
           | some w=>rw[hw]at hv; cases hv; simp only[co]; omega
         ·have:=ih (i+1) _ o h h0; omega
        ·have:=ih (i+1) _ o h h0; omega
     have:=key r (i+1) era2 o ho (by omega)
     omega
   have e1:posF (x::r) i i' o.invoked.toNat=posF r (i+1) (if remE x r then i' else i'+1) o.invoked.toNat:=by rw[posF,if_neg (by omega)]
   unfold renO
   rw[e1]
   rcases hret with hr | hr
   ·rw[if_pos hr,if_pos hr]
   ·rw[show posF (x::r) i i' o.returned.toNat=posF r (i+1) (if remE x r then i' else i'+1) o.returned.toNat by rw[posF,if_neg (by omega)]]
  by_cases h3:x.kind=3
  ·have hr:remE x r=false:=by rw[remE,if_neg (by omega),if_neg (by omega)]
   rw[filt,hr,if_neg Bool.false_ne_true,opsT,if_pos h3,opsT,if_pos h3,gr r (i+1) (i'+1) (era+1) hG.tail,tail (era+1) _ rfl,hr,if_neg Bool.false_ne_true]
  ·by_cases k1:x.kind=1
   ·have hrm:remE x r=badC x.client r:=by rw[remE,if_pos k1]
    have hk:eT (co (bF x i era 0) (aW x.client r (i+1))) = !badC x.client r:=by
     unfold badC
     rw[fZ x.client r (i+1)]
     cases aW x.client r 0 with
     | none=>rfl
     | some v =>
      show (!(decide ((0:Int)≤((v.1+(i+1):Nat):Int))&&(decide (v.2.err=1)||decide (v.2.err=8)))) = !(decide (v.2.err=1)||decide (v.2.err=8))
      rw[dT (by omega),Bool.true_and]
    rw[opsT,if_neg h3,if_pos k1,filt]
    cases hb:badC x.client r with
    | true =>
     rw[hrm,hb,if_pos rfl,List.filter_cons_of_neg (by rw[hk,hb]; decide),tail era _ rfl,hrm,hb,if_pos rfl]
     exact gr r (i+1) i' era hG.tail
    | false =>
     rw[hrm,hb,if_neg Bool.false_ne_true,List.filter_cons_of_pos (by rw[hk,hb]; rfl),List.map_cons,opsT,if_neg h3,if_pos k1,tail era _ rfl,hrm,hb,if_neg Bool.false_ne_true,gr r (i+1) (i'+1) era hG.tail]
     congr 1
     have hgd:∀v,aW x.client r (i+1)=some v→v.2.kind=2∧badE v.2=false:=fun v hv=>by
      rw[fZ]at hv
      unfold badC at hb
      cases hw:aW x.client r 0 with
      | none=>rw[hw]at hv; cases hv
      | some w =>
       rw[hw]at hv hb
       cases hv
       exact⟨hG [] r x rfl k1 w hw,hb⟩
     rw[retF x.client r (i+1) (i'+1) hgd]
     have key:posF (x::r) i i' i=i':=by rw[posF,if_pos (Nat.le_refl _)]
     cases hv:aW x.client r (i+1) with
     | none=>simp[renO,co,bF,key]
     | some v =>
      have hv1:i+1≤v.1:=by
       rw[fZ]at hv
       cases hw:aW x.client r 0 with
       | none=>rw[hw]at hv; cases hv
       | some w=>rw[hw]at hv; cases hv; simp only; omega
      have key2:posF (x::r) i i' v.1=posF r (i+1) (i'+1) v.1:=by rw[posF,if_neg (by omega),hrm,hb,if_neg Bool.false_ne_true]
      obtain⟨q,y⟩:=v
      simp only at key2
      have hq:¬((q:Nat):Int)<0:=by omega
      simp[renO,co,bF,key,key2,hq]
   ·rw[opsT,if_neg h3,if_neg k1,filt,tail era _ rfl]
    cases hr:remE x r with
    | true =>
     rw[if_pos rfl,if_pos rfl]
     exact gr r (i+1) i' era hG.tail
    | false =>
     rw[if_neg Bool.false_ne_true,if_neg Bool.false_ne_true,opsT,if_neg h3,if_neg k1]
     exact gr r (i+1) (i'+1) era hG.tail
theorem fT:∀(r:List HEv) (i:Nat) (era:Int),(opsT r i era).Pairwise fun a b=>a.invoked<b.invoked
 | [],_,_=>.nil
 | x::r,i,era=>by
  rw[opsT]
  split
  ·exact fT r (i+1) (era+1)
  ·split
   ·refine List.pairwise_cons.2 ⟨fun o ho=>?_,fT r (i+1) era⟩
    have:=(gE r (i+1) era o ho).1
    have h2:(co (bF x i era 0) (aW x.client r (i+1))).invoked=i:=by
     cases aW x.client r (i+1) <;> rfl
    rw[h2]; omega
   ·exact fT r (i+1) era
theorem iv:∀(r:List HEv) (i:Nat) (era:Int),nI r→∀o∈opsT r i era,eT o=true→ni r i o.invoked.toNat∧(0≤o.returned→ni r i o.returned.toNat)
 | [],_,_,_,_,h,_=>by cases h
 | x::r,i,era,hG,o,h,hk=>by
  rw[opsT]at h
  split at h
  ·obtain⟨a,b⟩:=iv r (i+1) _ hG.tail o h hk
   exact⟨a.tail,fun h=>(b h).tail⟩
  ·rename_i h3
   split at h
   ·rename_i k1
    rcases List.mem_cons.1 h with rfl | h
    ·have hrm:remE x r=badC x.client r:=by rw[remE,if_pos k1]
     have hb:badC x.client r=false:=by
      unfold badC
      rw[fZ x.client r (i+1)]at hk
      cases hw:aW x.client r 0 with
      | none=>rfl
      | some v =>
       rw[hw]at hk
       have hk:(!(decide ((0:Int)≤((v.1+(i+1):Nat):Int))&&(decide (v.2.err=1)||decide (v.2.err=8))))=true:=hk
       rw[dT (by omega),Bool.true_and]at hk
       simpa[badE]using hk
     have hi:(co (bF x i era 0) (aW x.client r (i+1))).invoked=i:=by
      cases aW x.client r (i+1) <;> rfl
     refine⟨⟨[],r,x,rfl,by rw[hi]; simp,by rw[hrm]; exact hb⟩,fun h0=>?_⟩
     cases hw:aW x.client r 0 with
     | none =>
      rw[fZ,hw]at h0
      simp[co,bF]at h0
     | some v =>
      have hk2:=hG [] r x rfl k1 v hw
      have hbv:badE v.2=false:=by unfold badC at hb; rw[hw]at hb; exact hb
      have split:∀(c:Int) (r:List HEv) (k:Nat) (v:Nat×HEv),aW c r k=some v→∃a b,r=a++v.2::b∧v.1=k+a.length:=by
       intro c r
       induction r with
       | nil=>intro k v h; cases h
       | cons y r ih =>
        intro k v h
        rw[aW]at h
        by_cases h3:y.kind=3
        ·rw[if_pos h3]at h; cases h
        ·rw[if_neg h3]at h
         by_cases hc:y.client=c
         ·rw[if_pos hc]at h; cases h; exact⟨[],r,rfl,rfl⟩
         ·rw[if_neg hc]at h
          obtain⟨a,b,h1,h2⟩:=ih (k+1) v h
          exact⟨y::a,b,by rw[h1]; rfl,by rw[List.length_cons]; omega⟩
      obtain⟨a,b,h1,h2⟩:=split x.client r 0 v hw
      rw[fZ,hw]
      simp only[Option.map_some,co,Int.toNat_natCast]
      refine⟨x::a,b,v.2,by rw[h1]; rfl,by rw[List.length_cons]; omega,?_⟩
      rw[remE,if_neg (by omega),if_pos hk2]; exact hbv
    ·obtain⟨a,b⟩:=iv r (i+1) _ hG.tail o h hk
     exact⟨a.tail,fun h=>(b h).tail⟩
   ·obtain⟨a,b⟩:=iv r (i+1) _ hG.tail o h hk
    exact⟨a.tail,fun h=>(b h).tail⟩
theorem tI {α:Type} (k:α→Bool):∀L:List α,∃f:Nat→Nat,(∀j o,(L.filter k)[j]?=some o→L[f j]?=some o)∧(∀j o,L[j]?=some o→k o=true→∃j',(L.filter k)[j']?=some o∧f j'=j)
 | []=>⟨id,fun j o h=>by simp at h,fun j o h=>by simp at h⟩
 | a::L=>by
  obtain⟨f,h1,h2⟩:=tI k L
  cases ha:k a with
  | true =>
   rw[List.filter_cons_of_pos ha]
   refine⟨fun j=>match j with | 0=>0 | j+1=>f j+1,fun j o h=>?_,fun j o h hk=>?_⟩
   ·cases j with
    | zero=>simpa using h
    | succ j=>simpa using h1 j o (by simpa using h)
   ·cases j with
    | zero=>exact⟨0,by simpa using h,rfl⟩
    | succ j =>
     obtain⟨j',g1,g2⟩:=h2 j o (by simpa using h) hk
     exact⟨j'+1,by simpa using g1,by simp only; rw[g2]⟩
  | false =>
   rw[List.filter_cons_of_neg (by rw[ha]; decide)]
   refine⟨fun j=>f j+1,fun j o h=>by simpa using h1 j o h,fun j o h hk=>?_⟩
   cases j with
   | zero =>
    simp at h; subst h
    rw[ha]at hk; cases hk
   | succ j =>
    obtain⟨j',g1,g2⟩:=h2 j o (by simpa using h) hk
    exact⟨j',g1,by simp only; rw[g2]⟩
theorem uA {L:List HOp} (h:L.Pairwise fun a b=>a.invoked<b.invoked) {j k:Nat} {o q:HOp} (hj:L[j]?=some o) (hk:L[k]?=some q) (he:o.invoked=q.invoked):j=k:=by
 obtain⟨a1,a2⟩:=List.getElem?_eq_some_iff.1 hj
 obtain⟨b1,b2⟩:=List.getElem?_eq_some_iff.1 hk
 rw[List.pairwise_iff_getElem]at h
 rcases Nat.lt_trichotomy j k with hlt | rfl | hlt
 ·have:=h j k a1 b1 hlt; rw[a2,b2]at this; omega
 ·rfl
 ·have:=h k j b1 a1 hlt; rw[a2,b2]at this; omega
section
variable {n : Nat}
theorem vW {t:Nat→Nat} {o:HOp}:mayB (renO t o) n=mayB o n∧bf (renO t o)=bf o:=by
 unfold mayB bf renO
 by_cases h:o.returned<0
 ·simp only[if_pos h,and_self]
 ·simp only[if_neg h]
  have e1:decide (((t o.returned.toNat:Nat):Int)<0)=false:=dF (by omega)
  have e2:decide (o.returned<0)=false:=dF h
  have e3:decide (0≤((t o.returned.toNat:Nat):Int))=true:=dT (by omega)
  have e4:decide (0≤o.returned)=true:=dT (by omega)
  rw[e1,e2,e3,e4]; exact⟨rfl,rfl⟩
theorem gone {o:HOp} (h:eT o=false):bf o=false∧mayB o n=false:=by
 unfold eT at h
 simp only[Bool.not_eq_false',Bool.and_eq_true,Bool.or_eq_true,decide_eq_true_eq]at h
 obtain⟨h0,h1⟩:=h
 unfold bf mayB
 rw[dF (show ¬o.err=0 by omega),dF (show ¬o.returned<0 by omega),dF (show ¬o.err=9 by omega)]
 simp
theorem vX {r:List HEv} {o q:HOp} (hG:nI r) (ho:o∈opsT r 0 0) (hq:q∈opsT r 0 0) (hko:eT o=true) (hkq:eT q=true):befB (renO (posF r 0 0) o) (renO (posF r 0 0) q)=befB o q:=by
 obtain⟨_,a2⟩:=iv r 0 0 hG o ho hko
 obtain⟨b1,_⟩:=iv r 0 0 hG q hq hkq
 have hqi:=(gE r 0 0 q hq).1
 unfold befB renO
 simp only
 by_cases he:o.era=q.era
 ·rw[if_pos he,if_pos he]
  by_cases hr:o.returned<0
  ·rw[if_pos hr,dF (by omega)]; rfl
  ·rw[if_neg hr,dT (by omega),dT (by omega:0≤o.returned),Bool.true_and,Bool.true_and]
   by_cases hlt:o.returned<q.invoked
   ·have:=we r 0 0 _ q.invoked.toNat (a2 (by omega)) (by omega)
    rw[dT hlt,dT (by omega)]
   ·have:=qo r 0 0 q.invoked.toNat o.returned.toNat (by omega)
    rw[dF hlt,dF (by omega)]
 ·rw[if_neg he,if_neg he]
theorem x7 {e:Int} {r:List HEv} (hG:nI r):EndT (opsT r 0 0) e (am n)↔EndT (opsT (filt r) 0 0) e (am n):=by
 have hL:=gr r 0 0 0 hG
 obtain⟨f,f1,f2⟩:=tI eT (opsT r 0 0)
 have hs:=fT r 0 0
 have hs':=fT (filt r) 0 0
 have g1:∀(j':Nat) (o':HOp),(opsT (filt r) 0 0)[j']?=some o' → ∃o,(opsT r 0 0)[f j']?=some o∧eT o=true∧o'=renO (posF r 0 0) o:=fun j' o' h=>by
  rw[hL,List.getElem?_map]at h
  cases ho:((opsT r 0 0).filter eT)[j']? with
  | none=>rw[ho]at h; cases h
  | some o =>
   rw[ho]at h
   exact⟨o,f1 j' o ho,(List.mem_filter.1 (List.mem_of_getElem? ho)).2,(Option.some.inj h).symm⟩
 have g2:∀(j:Nat) (o:HOp),(opsT r 0 0)[j]?=some o→eT o=true→∃j',(opsT (filt r) 0 0)[j']?=some (renO (posF r 0 0) o)∧f j'=j:=fun j o ho hk=>by
  obtain⟨j',h1,h2⟩:=f2 j o ho hk
  exact⟨j',by rw[hL,List.getElem?_map,h1]; rfl,h2⟩
 have finj:∀j' k',j'<(opsT (filt r) 0 0).length→k'<(opsT (filt r) 0 0).length→f j'=f k'→j'=k':=fun j' k' hj hk he=>by
  obtain⟨o,h1,_,h3⟩:=g1 j' _ (List.getElem?_eq_getElem hj)
  obtain⟨q,h4,_,h6⟩:=g1 k' _ (List.getElem?_eq_getElem hk)
  rw[he,h4]at h1
  cases h1
  exact uA hs' (List.getElem?_eq_getElem hj) (List.getElem?_eq_getElem hk) (by rw[h3,h6])
 have hkeep:∀o:HOp,mayB o n=true→eT o=true:=fun o hm=>by
  cases hk:eT o with
  | true=>rfl
  | false=>rw[(gone hk).2]at hm; cases hm
 constructor
 ·refine (Fwd.first (n:=n) (m:=fun j'=>some (f j')) ⟨fun j' o' ho'=>.inr ?_,fun j' k' j hj hk h1 h2=>?_,fun j o ho hm=>?_,fun j' k' j k o' q' o q a b c d x y z=>?_⟩)
  ·obtain⟨o,h1,h2,rfl⟩:=g1 j' o' ho'
   obtain⟨m1,m2⟩:=vW (n:=n) (t:=posF r 0 0) (o:=o)
   exact⟨f j',o,rfl,h1,rfl,rfl,fun h=>by rw[m1]; exact h,fun h=>⟨by rw[←m2]; exact h,rfl⟩⟩
  ·simp only[Option.some.injEq]at h1 h2
   exact finj j' k' hj hk (by omega)
  ·obtain⟨j',h1,h2⟩:=g2 j o ho (hkeep o hm)
   exact⟨j',(List.getElem?_eq_some_iff.1 h1).1,by rw[h2]⟩
  ·simp only[Option.some.injEq]at c d
   subst c d
   obtain⟨o2,h1,h2,rfl⟩:=g1 j' o' a
   obtain⟨q2,h3,h4,rfl⟩:=g1 k' q' b
   rw[x]at h1; cases h1
   rw[y]at h3; cases h3
   rwa [vX hG (List.mem_of_getElem? x) (List.mem_of_getElem? y) h2 h4]at z
 ·have hm:∀j:Nat,∃y:Option Nat,∀o,(opsT r 0 0)[j]?=some o→(eT o=true→∃j',y=some j'∧(opsT (filt r) 0 0)[j']?=some (renO (posF r 0 0) o)∧f j'=j)∧(eT o=false→y=none):=fun j=>by
   cases ho:(opsT r 0 0)[j]? with
   | none=>exact⟨none,fun o h=>by cases h⟩
   | some o =>
    cases hk:eT o with
    | true =>
     obtain⟨j',h1,h2⟩:=g2 j o ho hk
     exact⟨some j',fun o2 h=>by cases h; exact⟨fun _=>⟨j',rfl,h1,h2⟩,fun h=>(by rw[hk]at h; cases h)⟩⟩
    | false=>exact⟨none,fun o2 h=>by cases h; exact⟨fun h=>(by rw[hk]at h; cases h),fun _=>rfl⟩⟩
  obtain⟨m,hm⟩:=Classical.skolem.1 hm
  have hms:∀(j j':Nat),j<(opsT r 0 0).length→m j=some j' → ∃o,(opsT r 0 0)[j]?=some o∧eT o=true∧(opsT (filt r) 0 0)[j']?=some (renO (posF r 0 0) o)∧f j'=j:=fun j j' hj h=>by
   have ho:=List.getElem?_eq_getElem hj
   obtain⟨a1,a2⟩:=hm j _ ho
   cases hk:eT (opsT r 0 0)[j] with
   | false=>rw[a2 hk]at h; cases h
   | true =>
    obtain⟨i,b1,b2,b3⟩:=a1 hk
    rw[b1]at h; cases h
    exact⟨_,ho,hk,b2,b3⟩
  refine (Fwd.first (n:=n) (m:=m) ⟨fun j o ho=>?_,fun j k i hj hk h1 h2=>?_,fun j' o' ho' hmay=>?_,fun j k j' k' o q o' q' a b c d x y z=>?_⟩)
  ·obtain⟨a1,a2⟩:=hm j o ho
   cases hk:eT o with
   | false=>exact .inl ⟨a2 hk,(gone (n:=n) hk).1,(gone hk).2⟩
   | true =>
    obtain⟨j',b1,b2,_⟩:=a1 hk
    obtain⟨m1,m2⟩:=vW (n:=n) (t:=posF r 0 0) (o:=o)
    exact .inr ⟨j',_,b1,b2,rfl,rfl,fun h=>by rw[←m1]; exact h,fun h=>⟨by rw[m2]; exact h,rfl⟩⟩
  ·obtain⟨_,_,_,_,h3⟩:=hms j i hj h1
   obtain⟨_,_,_,_,h4⟩:=hms k i hk h2
   omega
  ·obtain⟨o,h1,h2,rfl⟩:=g1 j' o' ho'
   have hlt:=(List.getElem?_eq_some_iff.1 h1).1
   obtain⟨a1,_⟩:=hm (f j') o h1
   obtain⟨i,b1,b2,b3⟩:=a1 h2
   exact⟨f j',hlt,by rw[b1,finj i j' (List.getElem?_eq_some_iff.1 b2).1 (List.getElem?_eq_some_iff.1 ho').1 b3]⟩
  ·obtain⟨o2,h1,h2,h3,_⟩:=hms j j' (List.getElem?_eq_some_iff.1 a).1 c
   obtain⟨q2,h4,h5,h6,_⟩:=hms k k' (List.getElem?_eq_some_iff.1 b).1 d
   rw[a]at h1; cases h1
   rw[b]at h4; cases h4
   rw[x]at h3; cases h3
   rw[y]at h6; cases h6
   rw[vX hG (List.mem_of_getElem? a) (List.mem_of_getElem? b) h2 h5]; exact z
end
theorem va {n:Nat} {h:List HEv} (hA:bT h):EndT (opsR h) (ao h) (am n)↔EndT (opsR (filt h)) (ao (filt h)) (am n):=by
 rw[pD,mO,pD (l:=opsR (filt h)),mO,x7 (CI hA)]
 unfold ao
 rw[wC]
end Go.Proofs.Ytmdgmolbamlicaa
namespace Go.Proofs.Ytmdgmolbamlicaa
open Go.Eng Go.Plain
set_option maxHeartbeats 32000000
set_option maxRecDepth 20000
def outB (i:Int) (o:HOp):Bool:=decide (o.returned≥0)&&((decide (o.err=1)||decide (o.err=8))&&(decide (o.invoked=i)||decide (o.returned=i)))
theorem iu {o:HOp}:∀(r:List HEv) (i:Nat) (era:Int),o∈opsT r i era ↔ ∃(p r':List HEv) (x:HEv) (e:Int),r=p++x::r'∧x.kind=1∧e=era+nCr p∧o=co (bF x (i+p.length) e 0) (aW x.client r' (i+p.length+1))
 | [],i,era=>by
  simp only[opsT,List.not_mem_nil,false_iff]
  rintro⟨p,r',x,e,h,_⟩
  simp at h
 | y::r,i,era=>by
  have hn:nCr (y::r)=nCr r+if y.kind=3 then 1 else 0:=by
   unfold nCr
   rw[List.countP_cons]
   by_cases h3:y.kind=3
   ·rw[if_pos (dT h3),if_pos h3]
   ·rw[if_neg (by rw[dF h3]; decide),if_neg h3]
  have step:∀era2:Int,(∀p:List HEv,era2+(nCr p:Int)=era+(nCr (y::p):Int))→((∃(p r':List HEv) (x:HEv) (e:Int),r=p++x::r'∧x.kind=1∧e=era2+nCr p∧o=co (bF x (i+1+p.length) e 0) (aW x.client r' (i+1+p.length+1))) ↔ ∃(p r':List HEv) (x:HEv) (e:Int),r=p++x::r'∧x.kind=1∧e=era+nCr (y::p)∧o=co (bF x (i+(p.length+1)) e 0) (aW x.client r' (i+(p.length+1)+1))):=fun era2 h=>by
   constructor
   ·rintro⟨p,r',x,e,h1,h2,h3,h4⟩
    exact⟨p,r',x,e,h1,h2,by rw[h3,h p],by rw[h4,show i+1+p.length=i+(p.length+1) by omega]⟩
   ·rintro⟨p,r',x,e,h1,h2,h3,h4⟩
    exact⟨p,r',x,e,h1,h2,by rw[h3,h p],by rw[h4,show i+1+p.length=i+(p.length+1) by omega]⟩
  have ncons:∀p:List HEv,nCr (y::p)=nCr p+if y.kind=3 then 1 else 0:=fun p=>by
   unfold nCr
   rw[List.countP_cons]
   by_cases h3:y.kind=3
   ·rw[if_pos (dT h3),if_pos h3]
   ·rw[if_neg (by rw[dF h3]; decide),if_neg h3]
  have out:(∃(p r':List HEv) (x:HEv) (e:Int),y::r=p++x::r'∧x.kind=1∧e=era+nCr p∧o=co (bF x (i+p.length) e 0) (aW x.client r' (i+p.length+1)))↔(y.kind=1∧o=co (bF y i era 0) (aW y.client r (i+1)))∨∃(p r':List HEv) (x:HEv) (e:Int),r=p++x::r'∧x.kind=1∧e=era+nCr (y::p)∧o=co (bF x (i+(p.length+1)) e 0) (aW x.client r' (i+(p.length+1)+1)):=by
   constructor
   ·rintro⟨p,r',x,e,h1,h2,h3,h4⟩
    cases p with
    | nil =>
     simp at h1
     obtain⟨rfl,rfl⟩:=h1
     refine .inl ⟨h2,?_⟩
     rw[h4,h3]
     simp[nCr]
    | cons z p =>
     simp at h1
     obtain⟨rfl,rfl⟩:=h1
     exact .inr ⟨p,r',x,e,rfl,h2,h3,by rw[h4,List.length_cons]⟩
   ·rintro (⟨h1,h2⟩ | ⟨p,r',x,e,h1,h2,h3,h4⟩)
    ·exact⟨[],r,y,era,rfl,h1,by simp[nCr],by rw[h2]; rfl⟩
    ·exact⟨y::p,r',x,e,by rw[h1]; rfl,h2,h3,by rw[h4,List.length_cons]⟩
  rw[out,opsT]
  by_cases h3:y.kind=3
  ·rw[if_pos h3,iu r (i+1) (era+1),step (era+1) fun p=>by rw[ncons p,if_pos h3]; omega]
   constructor
   ·exact .inr
   ·rintro (⟨h,_⟩ | h)
    ·omega
    ·exact h
  ·rw[if_neg h3]
   by_cases k1:y.kind=1
   ·rw[if_pos k1,List.mem_cons,iu r (i+1) era,step era fun p=>by rw[ncons p,if_neg h3]; omega]
    exact⟨fun h=>h.imp (fun h=>⟨k1,h⟩) id,fun h=>h.imp (fun h=>h.2) id⟩
   ·rw[if_neg k1,iu r (i+1) era,step era fun p=>by rw[ncons p,if_neg h3]; omega]
    constructor
    ·exact .inr
    ·rintro (⟨h,_⟩ | h)
     ·exact absurd h k1
     ·exact h
theorem qb {c:Int}:∀(r:List HEv) (k:Nat) (v:Nat×HEv),aW c r k=some v→∃a b,r=a++v.2::b∧v.1=k+a.length
 | [],_,_,h=>by cases h
 | y::r,k,v,h=>by
  rw[aW]at h
  by_cases h3:y.kind=3
  ·rw[if_pos h3]at h; cases h
  ·rw[if_neg h3]at h
   by_cases hc:y.client=c
   ·rw[if_pos hc]at h; cases h; exact⟨[],r,rfl,rfl⟩
   ·rw[if_neg hc]at h
    obtain⟨a,b,h1,h2⟩:=qb r (k+1) v h
    exact⟨y::a,b,by rw[h1]; rfl,by rw[List.length_cons]; omega⟩
theorem vV {c:Int} {x:HEv} {r:List HEv} (h3:x.kind≠3) (hc:x.client=c):∀(p:List HEv) (k:Nat),(∀y∈p,y.kind≠3∧y.client≠c)→aW c (p++x::r) k=some (k+p.length,x)
 | [],k,_=>by
  show (if x.kind=3 then none else if x.client=c then some (k,x) else aW c r (k+1))=_
  rw[if_neg h3,if_pos hc]; rfl
 | y::p,k,h=>by
  obtain⟨h1,h2⟩:=h y List.mem_cons_self
  rw[List.cons_append,aW,if_neg h1,if_neg h2,vV h3 hc p (k+1) fun z hz=>h z (List.mem_cons_of_mem _ hz),List.length_cons]
  congr 2; omega
theorem AP {p:List HEv} {x:HEv} (h:fitB p x=true):x.kind=1∨x.kind=2∨x.kind=3:=by
 unfold fitB at h
 by_cases k1:x.kind=1
 ·exact .inl k1
 ·by_cases k2:x.kind=2
  ·exact .inr (.inl k2)
  ·by_cases k3:x.kind=3
   ·exact .inr (.inr k3)
   ·rw[if_neg k1,if_neg k2,if_neg k3]at h; cases h
theorem qt {c:Int}:∀(m:Nat) (p:List HEv),p.length=m→(∀x∈p,x.kind=1∨x.kind=2∨x.kind=3)→0≤pend p c→∃(p1 p2:List HEv) (x:HEv),p=p1++x::p2∧x.kind=1∧x.client=c∧∀y∈p2,y.kind≠3∧y.client≠c
 | 0,p,hl,_,h=>by
  rw[List.eq_nil_of_length_eq_zero hl]at h
  exact absurd h (by rw[show pend [] c = -1 from rfl]; decide)
 | m+1,p,hl,hk,h=>by
  rcases List.eq_nil_or_concat p with rfl | ⟨q,y,rfl⟩
  ·simp at hl
  ·rw[List.concat_eq_append]at hl hk h ⊢
   rw[fq]at h
   have hy:=hk y (by simp)
   have rec_:y.kind≠3→y.client≠c→0≤pend q c→∃(p1 p2:List HEv) (x:HEv),q++[y]=p1++x::p2∧x.kind=1∧x.client=c∧∀y∈p2,y.kind≠3∧y.client≠c:=fun a b hq=>by
    obtain⟨p1,p2,x,h1,h2,h3,h4⟩:=qt m q (by simpa using hl) (fun x hx=>hk x (List.mem_append_left _ hx)) hq
    refine⟨p1,p2++[y],x,by rw[h1]; simp,h2,h3,fun z hz=>?_⟩
    rcases List.mem_append.1 hz with hz | hz
    ·exact h4 z hz
    ·rw[List.mem_singleton.1 hz]; exact⟨a,b⟩
   by_cases h3:y.kind=3
   ·rw[if_pos h3]at h; omega
   ·rw[if_neg h3]at h
    by_cases k1:y.kind=1
    ·rw[if_pos k1]at h
     by_cases hc:y.client=c
     ·exact⟨q,[],y,rfl,k1,hc,fun _ h=>by cases h⟩
     ·rw[if_neg hc]at h
      exact rec_ h3 hc h
    ·rw[if_neg k1,if_pos (show y.kind=2 from hy.elim (fun h=>absurd h k1) fun h=>h.elim id fun h=>absurd h h3)]at h
     by_cases hc:y.client=c
     ·rw[if_pos hc]at h; omega
     ·rw[if_neg hc]at h
      exact rec_ h3 hc h
theorem BP {h:List HEv} (hA:bT h) {i:Nat} {x:HEv} (hx:h[i]?=some x):(opsR h).any (outB i)=remE x (h.drop (i+1)):=by
 have hany:(opsR h).any (outB i)=(opsT h 0 0).any (outB i):=by
  rw[←mO,List.any_map]
  congr 1
 obtain⟨hlt,hxe⟩:=List.getElem?_eq_some_iff.1 hx
 have hsp:h=h.take i++x::h.drop (i+1):=by
  have:=List.take_append_drop i h
  rw[List.drop_eq_getElem_cons hlt,hxe]at this
  exact this.symm
 have hG:=CI hA
 have uniq:∀(p r':List HEv) (y:HEv),h=p++y::r'→p.length=i→y=x∧r'=h.drop (i+1):=fun p r' y e hl=>by
  have h1:h[i]?=some y:=by rw[e,List.getElem?_append_right (by omega),hl,Nat.sub_self]; rfl
  rw[hx]at h1
  refine⟨(Option.some.inj h1).symm,?_⟩
  have:h.drop (i+1)=r':=by
   rw[e,←hl]
   have:p++y::r'=(p++[y])++r':=by simp
   rw[this,List.drop_left' (by simp)]
  exact this.symm
 rw[hany,Bool.eq_iff_iff,List.any_eq_true]
 constructor
 ·rintro⟨o,ho,hb⟩
  obtain⟨p,r',y,e,h1,h2,_,h4⟩:=(iu h 0 0).1 ho
  unfold outB at hb
  simp only[Bool.and_eq_true,Bool.or_eq_true,decide_eq_true_eq]at hb
  obtain⟨b1,b2,b3⟩:=hb
  rw[Nat.zero_add]at h4
  cases hv:aW y.client r' (p.length+1) with
  | none =>
   rw[hv]at h4
   rw[h4]at b1
   simp[co,bF]at b1
  | some v =>
   obtain⟨q,z⟩:=v
   rw[hv]at h4
   have b2:z.err=1∨z.err=8:=by rw[h4]at b2; exact b2
   have hz:badE z=true:=by
    unfold badE
    rw[Bool.or_eq_true,decide_eq_true_eq,decide_eq_true_eq]; exact b2
   have b3:((p.length:Nat):Int)=i∨((q:Nat):Int)=i:=by rw[h4]at b3; exact b3
   rcases b3 with b3 | b3
   ·obtain⟨rfl,rfl⟩:=uniq p r' y h1 (by omega)
    rw[remE,if_pos h2]
    unfold badC
    rw[fZ]at hv
    cases hw:aW y.client (h.drop (i+1)) 0 with
    | none=>rw[hw]at hv; cases hv
    | some w=>rw[hw]at hv; cases hv; exact hz
   ·obtain⟨a,b,g1,g2⟩:=qb r' _ _ hv
    simp only at g1 g2
    have hk:z.kind=2:=by
     rw[fZ]at hv
     cases hw:aW y.client r' 0 with
     | none=>rw[hw]at hv; cases hv
     | some w =>
      rw[hw]at hv; cases hv
      exact hG p r' y h1 h2 w hw
    obtain⟨rfl,_⟩:=uniq (p++y::a) b z (by rw[h1,g1]; simp) (by simp; omega)
    rw[remE,if_neg (by omega),if_pos hk]; exact hz
 ·intro hr
  rw[remE]at hr
  by_cases k1:x.kind=1
  ·rw[if_pos k1]at hr
   unfold badC at hr
   cases hw:aW x.client (h.drop (i+1)) 0 with
   | none=>rw[hw]at hr; cases hr
   | some v =>
    rw[hw]at hr
    simp only at hr
    refine⟨_,(iu h 0 0).2 ⟨h.take i,h.drop (i+1),x,_,hsp,k1,rfl,rfl⟩,?_⟩
    have hti:(h.take i).length=i:=by rw[List.length_take]; omega
    rw[hti,Nat.zero_add,fZ,hw]
    unfold badE at hr
    show (decide (((v.1+(i+1):Nat):Int)≥0)&&((decide (v.2.err=1)||decide (v.2.err=8))&&(decide ((i:Int)=(i:Int))||decide (((v.1+(i+1):Nat):Int)=(i:Int)))))=true
    rw[hr,dT rfl,dT (by omega)]; rfl
  ·rw[if_neg k1]at hr
   by_cases k2:x.kind=2
   ·rw[if_pos k2]at hr
    have hf:=hA i x hx
    unfold fitB at hf
    rw[if_neg k1,if_pos k2]at hf
    have hp:0≤pend (h.take i) x.client:=by
     unfold fit2 at hf
     simp only[Bool.and_eq_true]at hf
     have:=hf.1.1.1.2
     simp at this
     exact this
    have hkk:∀y∈h.take i,y.kind=1∨y.kind=2∨y.kind=3:=fun y hy=>by
     obtain⟨j,hj⟩:=List.mem_iff_getElem?.1 (List.mem_of_mem_take hy)
     exact AP (hA j y hj)
    obtain⟨p1,p2,y,g1,g2,g3,g4⟩:=qt _ (h.take i) rfl hkk hp
    have hrf:=vV (r:=h.drop (i+1)) (show x.kind≠3 by omega) rfl p2 (p1.length+1) g4
    have hlen:p1.length+1+p2.length=i:=by
     have:=congrArg List.length g1
     rw[List.length_take,List.length_append,List.length_cons]at this
     omega
    refine⟨_,(iu h 0 0).2 ⟨p1,p2++x::h.drop (i+1),y,_,by
     conv=>lhs; rw[hsp,g1]
     simp,g2,rfl,rfl⟩,?_⟩
    rw[Nat.zero_add,g3,hrf,hlen]
    unfold badE at hr
    show (decide ((i:Int)≥0)&&((decide (x.err=1)||decide (x.err=8))&&(decide ((p1.length:Int)=(i:Int))||decide ((i:Int)=(i:Int)))))=true
    rw[hr,dT (by omega),dT (rfl:(i:Int)=i),Bool.or_true]; rfl
   ·rw[if_neg k2]at hr; cases hr
end Go.Proofs.Ytmdgmolbamlicaa
namespace Go.Proofs.Ytmdgmolbamlicaa
open Go.Eng Go.Plain
set_option maxHeartbeats 32000000
set_option maxRecDepth 20000
attribute [local irreducible] WC RegS RegD SeqQ BlkQ ScoQ RegK CutK Sat SatN FnIs LoopQ ab OpIs
abbrev CL (l:List HEv):Row :=.ds 42 38 false bu l
theorem ma (x:List XE) (n:UInt8) (N:Nat) (h:List HEv) (l:List HOp) (B1 B2:Bool) (hN:N=1+n.toNat % 4) (hlen:h.length≤24) (hol:l.length≤24) (hof:FnIs Try.prog 24 [.d (j5 x)] [] (.d (encH h)) []) (hop:FnIs Try.prog 28 [.d (encH h)] [] (.d (bS l)) [])
  (hrest:0<h.length→x.length≤16→(∀(i:Nat) (y:HEv),h[i]?=some y→l.any (outB i)=remE y (h.drop (i+1)))∧(B1=true→B2=true)∧FnIs Try.prog 10 [.d (encH h),.int .i64 N,.int .i64 1048576] [] (.tup (.acons (.bool B1) (.acons (.int .i64 0) .anil))) []∧FnIs Try.prog 10 [.d (encH (h.take (h.length-1))),.int .i64 N,.int .i64 1048576] [] (.tup (.acons (.bool B2) (.acons (.int .i64 0) .anil))) []∧FnIs Try.prog 10 [.d (encH (filt h)),.int .i64 N,.int .i64 1048576] [] (.tup (.acons (.bool B1) (.acons (.int .i64 0) .anil))) []) :
  FnIs Try.prog 14 [.d (j5 x),.int .u8 (n.toNat:Nat)] [] (.bool true) []:=by
 have hm4:n.toNat % 4<4:=Nat.mod_lt _ (by decide)
 have hwc:IntKind.i64.wrap ((n.toNat % 4:Nat):Int)=((n.toNat % 4:Nat):Int):=aH (by omega) (by omega)
 have hwa:IntKind.i64.wrap (1+((n.toNat % 4:Nat):Int))=(N:Int):=by rw[aH (by omega) (by omega)]; omega
 refine aq aa Try.func14 rfl rfl rfl ?_
 cases hc:(decide ((16:Int)<x.length)||decide ((h.length:Int)=0)) with
 | true =>
  refine z11 ?_;refine rQ (aZ (a:=n.toNat) (b:=4) aa rfl rfl rfl (by decide)) ?_;refine rQ (aR (m:=((n.toNat % 4:Nat):Int)) aa rfl rfl rfl hwc) ?_
  refine rQ (bM (m:=(N:Int)) aa rfl rfl hwa) ?_;refine z5 ?_;refine fC 32 (.bool (decide ((16:Int)<x.length)||decide ((h.length:Int)=0))) _ rfl ?_ ?_
  ·refine z5 ?_
   refine gp rfl rfl rfl (fun hb=>?_) (fun hb=>?_)
   refine z7 ?_
   rotate_left
   refine z4 ?_
   rotate_left
   all_goals refine ko 9 rfl rfl rfl rfl rfl rfl rfl rfl rfl (AVLe.of_eq ?_)
   all_goals (first | rfl | (clear q5; simp_all; done) | (simp_all; done) | (simp_all; omega))
  refine z3 ?_;refine rQ (yK cZ) ?_;refine z5 ?_
  exact⟨trivial,[],lf⟩
 | false =>
 rw[Bool.or_eq_false_iff]at hc
 have hc1:=of_decide_eq_false hc.1
 have hc2:=of_decide_eq_false hc.2
 have hcc:(decide ((16:Int)<x.length)||decide ((h.length:Int)=0))=false:=by rw[hc.1,hc.2]; rfl
 clear hc
 obtain⟨hout,himp,hl1,hl2,hl3⟩:=hrest (by omega) (by omega)
 rw[show h.length-1=((h.length:Int)-1).toNat by omega]at hl2
 refine z11 ?_;refine rQ (aZ (a:=n.toNat) (b:=4) aa rfl rfl rfl (by decide)) ?_;refine rQ (aR (m:=((n.toNat % 4:Nat):Int)) aa rfl rfl rfl hwc) ?_
 refine rQ (bM (m:=(N:Int)) aa rfl rfl hwa) ?_;refine z5 ?_;refine fC 32 (.bool (decide ((16:Int)<x.length)||decide ((h.length:Int)=0))) _ rfl ?_ ?_
 ·refine z5 ?_
  refine gp rfl rfl rfl (fun hb=>?_) (fun hb=>?_)
  refine z7 ?_
  rotate_left
  refine z4 ?_
  rotate_left
  all_goals refine ko 9 rfl rfl rfl rfl rfl rfl rfl rfl rfl (AVLe.of_eq ?_)
  all_goals (first | rfl | (clear q5; simp_all; done) | (simp_all; done) | (simp_all; omega))
 refine z21 ?_;refine rQ (jM (m:=(h.length:Int)-1) aa rfl rfl rfl rfl (by omega) (by omega)) ?_;refine z28 ?_
 refine wc_inv (fun q:Nat×List HEv=>⟨[(13,.int .i64 q.1),(12,.own 65 0 q.2.length 38 none),(11,.d (bS l)),(10,.int .i64 0),(9,.bool B2),(8,.int .i64 0),(7,.bool B1),(6,.int .i64 N),(5,.d (encH h))],[(65,some (CL q.2))],72,Try.f14.ntmps,64⟩) (fun q=>q.1≤h.length∧q.2.length≤q.1∧q.2=eK (h.take q.1) (h.drop q.1)) (fun q=>h.length-q.1) (0,[]) [(65,none)] ⟨Nat.zero_le _,Nat.zero_le _,by rw[List.take_zero]; rfl⟩
  (lg zd ⟨⟨rfl,rfl,rfl⟩,trivial⟩) ?_
 rintro⟨i,r⟩ ⟨hi,hrl0,hr⟩
 simp only at hi hrl0 hr
 refine bt ?_
 by_cases hlt:i<h.length
 ·have d1:decide ((i:Int)<(h.length:Int))=true:=dT (by omega)
  obtain⟨y,hx⟩:∃x,h[i]?=some x:=⟨_,List.getElem?_eq_getElem hlt⟩
  have hx2:h[((i:Int)).toNat]?=some y:=by rw[Int.toNat_natCast]; exact hx
  have hrl:r.length+1≤1048576:=by omega
  have hstep:eK (h.take (i+1)) (h.drop (i+1))=r++if l.any (outB i) then[] else[y]:=by
   have:h.drop i=y::h.drop (i+1):=by rw[List.drop_eq_getElem_cons hlt,(List.getElem?_eq_some_iff.1 hx).2]
   rw[List.take_add_one,hx,Option.toList_some,js,←this,←hr,hout i y hx]
  refine z26 ?_
  refine wc_inv (fun q:Nat×Bool=>⟨[(15,.int .i64 q.1),(14,.bool q.2),(13,.int .i64 i),(12,.own 65 0 r.length 38 none),(11,.d (bS l)),(10,.int .i64 0),(9,.bool B2),(8,.int .i64 0),(7,.bool B1),(6,.int .i64 N),(5,.d (encH h))],[(65,some (CL r))],72,Try.f14.ntmps,64⟩) (fun q=>q.1≤l.length∧(q.2||(l.drop q.1).any (outB i))=l.any (outB i)) (fun q=>l.length-q.1) (0,false) [(65,some 65)] ⟨Nat.zero_le _,rfl⟩
   (lg zb ⟨zR,trivial⟩) ?_
  rintro⟨k,b⟩ ⟨hk,hb⟩
  simp only at hk hb
  refine bt ?_
  by_cases hlt2:k<l.length
  ·have d2:decide ((k:Int)<(l.length:Int))=true:=dT (by omega)
   obtain⟨o,ho⟩:∃x,l[k]?=some x:=⟨_,List.getElem?_eq_getElem hlt2⟩
   have ho2:l[((k:Int)).toNat]?=some o:=by rw[Int.toNat_natCast]; exact ho
   have hb2:((b||outB i o)||(l.drop (k+1)).any (outB i))=l.any (outB i):=by
    rw[List.drop_eq_getElem_cons hlt2,(List.getElem?_eq_some_iff.1 ho).2,List.any_cons,←Bool.or_assoc]at hb
    exact hb
   clear hb hout hstep hr himp
   refine z17 ?_
   cases b with
   | true =>
    refine z50 ?_
    exact an (k+1,true) [(65,some 65)] ⟨hlt2,by rw[←hb2]; simp⟩ (by show l.length-(k+1)<l.length-k; omega) (lg zb ⟨zR,trivial⟩)
   | false =>
   refine z14 ?_
   cases c1:decide (o.returned≥0) with
   | false =>
    have hv:outB i o=false:=by rw[outB,c1]; rfl
    refine z46 ?_
    exact an (k+1,false) [(65,some 65)] ⟨hlt2,by rw[←hb2,hv]; simp⟩ (by show l.length-(k+1)<l.length-k; omega) (lg zb ⟨zR,trivial⟩)
   | true =>
   refine z14 ?_
   cases c2:decide (o.err=1) with
   | true =>
    refine z28 ?_
    cases c4:decide (o.invoked=(i:Int)) with
    | true =>
     have hv:outB i o=true:=by rw[outB,c1,c2,c4]; rfl
     refine z21 ?_
     exact an (k+1,true) [(65,some 65)] ⟨hlt2,by rw[←hb2,hv]; simp⟩ (by show l.length-(k+1)<l.length-k; omega) (lg zb ⟨zR,trivial⟩)
    | false =>
    refine z28 ?_
    cases c5:decide (o.returned=(i:Int)) with
    | true =>
     have hv:outB i o=true:=by rw[outB,c1,c2,c4,c5]; rfl
     skip
     exact an (k+1,true) [(65,some 65)] ⟨hlt2,by rw[←hb2,hv]; simp⟩ (by show l.length-(k+1)<l.length-k; omega) (lg zb ⟨zR,trivial⟩)
    | false =>
     have hv:outB i o=false:=by rw[outB,c1,c2,c4,c5]; rfl
     skip
     exact an (k+1,false) [(65,some 65)] ⟨hlt2,by rw[←hb2,hv]; simp⟩ (by show l.length-(k+1)<l.length-k; omega) (lg zb ⟨zR,trivial⟩)
   | false =>
   refine z18 ?_
   cases c3:decide (o.err=8) with
   | true =>
    refine z16 ?_
    cases c4:decide (o.invoked=(i:Int)) with
    | true =>
     have hv:outB i o=true:=by rw[outB,c1,c2,c3,c4]; rfl
     refine z21 ?_
     exact an (k+1,true) [(65,some 65)] ⟨hlt2,by rw[←hb2,hv]; simp⟩ (by show l.length-(k+1)<l.length-k; omega) (lg zb ⟨zR,trivial⟩)
    | false =>
    refine z28 ?_
    cases c5:decide (o.returned=(i:Int)) with
    | true =>
     have hv:outB i o=true:=by rw[outB,c1,c2,c3,c4,c5]; rfl
     skip
     exact an (k+1,true) [(65,some 65)] ⟨hlt2,by rw[←hb2,hv]; simp⟩ (by show l.length-(k+1)<l.length-k; omega) (lg zb ⟨zR,trivial⟩)
    | false =>
     have hv:outB i o=false:=by rw[outB,c1,c2,c3,c4,c5]; rfl
     skip
     exact an (k+1,false) [(65,some 65)] ⟨hlt2,by rw[←hb2,hv]; simp⟩ (by show l.length-(k+1)<l.length-k; omega) (lg zb ⟨zR,trivial⟩)
   | false =>
    have hv:outB i o=false:=by rw[outB,c1,c2,c3]; rfl
    refine z28 ?_
    exact an (k+1,false) [(65,some 65)] ⟨hlt2,by rw[←hb2,hv]; simp⟩ (by show l.length-(k+1)<l.length-k; omega) (lg zb ⟨zR,trivial⟩)
  ·have d2:decide ((k:Int)<(l.length:Int))=false:=dF (by omega)
   rw[List.drop_eq_nil_of_le (by omega),List.any_nil,Bool.or_false]at hb
   cases b with
   | true =>
    rw[←hb,if_pos rfl,List.append_nil]at hstep
    refine z30 ?_
    exact an (i+1,r) [(65,some 65)] ⟨hlt,by simp only; omega,hstep.symm⟩ (by show h.length-(i+1)<h.length-i; omega) (lg zd ⟨zR,trivial⟩)
   | false =>
    rw[←hb,if_neg Bool.false_ne_true]at hstep
    have hl4:r.length+1=(r++[y]).length:=by simp
    refine z28 ?_;refine aO (ae (s:=38) aa rfl rfl rfl rfl rfl rfl rfl rfl) rfl ?_;refine aC (aJ (enc:=bu) (s:=38) (xs:=r) aa y rfl rfl rfl rfl rfl rfl rfl rfl rfl hrl rfl) rfl ?_;refine z9 ?_
    exact an (i+1,r++[y]) [(65,some _)] ⟨hlt,by simp; omega,hstep.symm⟩ (by show h.length-(i+1)<h.length-i; omega) (lg ⟨zE,rfl,⟨_,rfl,ownl hl4⟩,rfl,zE,rfl,zE,rfl,zE,rfl,zE,rfl,zE,rfl,zE,rfl,zE,rfl,trivial⟩ ⟨zR,trivial⟩)
 ·have d1:decide ((i:Int)<(h.length:Int))=false:=dF (by omega)
  obtain rfl:i=h.length:=by omega
  rw[List.take_length,List.drop_length,mV]at hr
  rw[←hr]at hl3
  refine z15 ?_;refine de (env':=[(12,_),(6,_),(7,_),(8,_),(9,_),(10,_)]) (h':=[]) 65 _ rfl ⟨⟨_,rfl,Frz.own rfl⟩,zE,zE,zE,zE,zE,trivial⟩ trivial ?_
  have hee:(B1==B1)=true:=by simp
  cases B1 with
  | true =>
   have hB2:=himp rfl
   subst hB2
   refine z50 ?_;refine rQ (yK cZ) ?_;refine z5 ?_
   exact⟨trivial,[],lf⟩
  | false =>
   refine z49 ?_;refine rQ (yK cZ) ?_;refine z5 ?_
   exact⟨trivial,[],lf⟩
theorem xe {h:List HEv} (h0:0<h.length):∃y,h=h.take (h.length-1)++[y]:=by
 have hlt:h.length-1<h.length:=by omega
 refine⟨h[h.length-1],?_⟩
 have:=List.take_append_drop (h.length-1) h
 rw[List.drop_eq_getElem_cons hlt,List.drop_of_length_le (by omega)]at this
 exact this.symm
theorem mG.cut {h:List HEv} (H:mG h) (k:Nat):mG (h.take k):=
 ⟨H.fit.take k,fun x hx=>H.cl x (List.mem_of_mem_take hx),by have:=H.len; rw[List.length_take]; omega⟩
theorem jL {h:List HEv} (H:mG h) {b:Nat} (h0:1≤b) (h1:b≤4096):∃B,FnIs Try.prog 10 [.d (encH h),.int .i64 b,.int .i64 1048576] [] (.tup (.acons (.bool B) (.acons (.int .i64 0) .anil))) []∧(B=true↔EndT (opsR h) (ao h) (am b)):=by
 obtain⟨hR,hF,_,_,hE⟩:=H.go h0 h1
 have:=iC hR
 rw[hF]at this
 exact⟨_,this,hE⟩
theorem xK (x:List XE) (n:UInt8):FnIs Try.prog 14 [.d (j5 x),.int .u8 (n.toNat:Nat)] [] (.bool true) []:=by
 have hm4:n.toNat % 4<4:=Nat.mod_lt _ (by decide)
 have hh:=kD x
 have hol:=ft (hOf x)
 have hof:=n6 x
 have hop:=lQ (hOf x) (by omega)
 by_cases hx:x.length≤16
 ·have H:=qC hx
  have H2:=vj H
  have H1:=H.cut ((hOf x).length-1)
  obtain⟨B1,f1,e1⟩:=jL H (b:=1+n.toNat % 4) (by omega) (by omega)
  obtain⟨B2,f2,e2⟩:=jL H1 (b:=1+n.toNat % 4) (by omega) (by omega)
  obtain⟨B3,f3,e3⟩:=jL H2 (b:=1+n.toNat % 4) (by omega) (by omega)
  have h31:B3=B1:=by rw[Bool.eq_iff_iff,e3,e1,←va H.fit]
  rw[h31]at f3
  refine ma x n _ (hOf x) (opsR (hOf x)) B1 B2 rfl hh (by omega) hof hop fun h0 _=>⟨fun i y hy=>BP H.fit hy,fun hB=>?_,f1,f2,f3⟩
  rw[e2]
  rw[e1]at hB
  obtain⟨y,hy⟩:=xe h0
  have hA:=H.fit
  rw[hy]at hB hA
  exact xI hA hB
 ·exact ma x n _ (hOf x) (opsR (hOf x)) true true rfl hh (by omega) hof hop fun _ h=>absurd h hx
end Go.Proofs.Ytmdgmolbamlicaa
