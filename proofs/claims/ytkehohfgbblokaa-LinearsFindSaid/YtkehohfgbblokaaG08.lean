/- Texts of the proof: YG4, YK, Y38, Y41, Y42, Y34, Y43, YO. -/
import Derived.Test.YtkehohfgbblokaaG07
import Derived.Test.YtkehohfgbblokaaG06
import Derived.Test.YtkehohfgbblokaaG02

set_option linter.unusedVariables false
set_option linter.unusedSimpArgs false
set_option linter.unusedSectionVars false

namespace Go.Proofs.Ytkehohfgbblokaa
open Go.Eng Go.Plain
set_option maxHeartbeats 32000000
set_option maxRecDepth 20000
def iV (l:List HOp):List Int→RS→RS
 | [],s=>s
 | i::os,s=>match l[i.toNat]? with
  | none=>s
  | some o=>iV l os (hapR (bh o.era s) o).1
def noTk (s:RS):RS := { s with taken:=[] }
structure AccI (l:List HOp) (n:Nat) (s:RS) (out:List Int):Prop where
 acc:eL n l out [] (bD n)=0
 st:iV l out (bD n)=noTk s
 now:∀(j:Nat) (o:HOp),l[j]?=some o→o.era=s.era→hasB out (j:Int)=hasB s.taken (j:Int)
 old:∀(j:Nat) (o:HOp),l[j]?=some o→o.era<s.era→bT o=true→hasB out (j:Int)=true
 new:∀(j:Nat) (o:HOp),l[j]?=some o→s.era<o.era→hasB out (j:Int)=false
 val:∀i∈out,∃(j:Nat) (o:HOp),i=j∧l[j]?=some o
section
variable {l : List HOp} {n e : Nat} {p : Prep} {ks : List Int} {kv : List (List UInt8)}
theorem oC {b:Int} {i:Int}:∀(os pre:List Int) (s:RS),eL b l os pre s=0→eL b l (os++[i]) pre s=eL b l [i] (pre++os) (iV l os s)
 | [],pre,s,_=>by rw[List.nil_append,List.append_nil]; rfl
 | a::os,pre,s,h=>by
  rw[eL]at h
  rw[List.cons_append,eL]
  split at h
  ·cases h
  ·rename_i h0
   rw[if_neg h0]
   cases ho:l[a.toNat]? with
   | none=>rw[ho]at h; cases h
   | some o =>
    rw[ho]at h
    simp only at h ⊢
    have h1:¬(pre.any (fun y=>decide (y=a))=true):=fun c=>by rw[if_pos c]at h; cases h
    rw[if_neg h1]at h ⊢
    have h2:¬(mayB o b=false):=fun c=>by rw[if_pos c]at h; cases h
    rw[if_neg h2]at h ⊢
    have h3:¬(pre.any (befA l o)=true):=fun c=>by rw[if_pos c]at h; cases h
    rw[if_neg h3]at h ⊢
    have h4:¬((hapR (bh o.era s) o).2=false):=fun c=>by rw[if_pos c]at h; cases h
    rw[if_neg h4]at h ⊢
    rw[oC os (pre++[a]) _ h,iV,ho,List.append_assoc]
    rfl
theorem oD {i:Int}:∀(os:List Int) (s:RS),(∀j∈os,∃(k:Nat) (o:HOp),j=k∧l[k]?=some o)→iV l (os++[i]) s=iV l [i] (iV l os s)
 | [],s,_=>rfl
 | a::os,s,h=>by
  obtain⟨k,o,rfl,ho⟩:=h a List.mem_cons_self
  have h1:∀os:List Int,iV l ((k:Int)::os) s=iV l os (hapR (bh o.era s) o).1:=fun os=>by rw[iV,Int.toNat_natCast,ho]
  rw[List.cons_append,h1,h1]
  exact oD os _ fun j hj=>h j (List.mem_cons_of_mem _ hj)
structure ScL (l:List HOp) (e:Nat):Prop where
 er:∀(j:Nat) (o:HOp),l[j]?=some o→0≤o.era∧o.era<e
 mono:∀(i j:Nat) (o q:HOp),i≤j→l[i]?=some o→l[j]?=some q→o.era≤q.era
theorem AccI.first (L:ScL l e) (n:Nat):AccI l n (bD n) []:=
 ⟨rfl,rfl,fun _ _ _ _=>rfl,fun j o ho h1 _=>(by have:=(L.er j o ho).1; simp only[bD]at h1; omega),fun _ _ _ _=>rfl,fun _ h=>(by cases h)⟩
theorem k6 (s:RS):bh s.era s=s:=by rw[bh,if_neg (by omega)]
theorem CrP.to {E:Int} {s t:RS} (h:CrP l E s t):t=bh t.era s:=by
 induction h with
 | refl s=>rw[k6]
 | step a b hc ih =>
  rename_i s t
  have h1:=hc.era_le
  have h0:(aY s).era=s.era+1:=rfl
  rw[h0]at h1
  have key:bh t.era (aY s)=⟨t.era,[],s.dur,s.dur⟩:=by
   unfold bh
   by_cases h3:(aY s).era<t.era
   ·rw[if_pos h3]; rfl
   ·rw[if_neg h3]
    have h4:t.era=s.era+1:=by omega
    rw[h4]; rfl
  rw[bh,if_pos (by omega),←key]
  exact ih
theorem s8 (E:Int) (s:RS):bh E (noTk s)=noTk (bh E s):=by
 unfold bh noTk
 by_cases h:s.era<E
 ·rw[if_pos h,if_pos h]
 ·rw[if_neg h,if_neg h]
theorem tR (s:RS) (o:HOp):hapR (noTk s) o=(noTk (hapR s o).1,(hapR s o).2):=by
 unfold hapR
 split
 ·rfl
 ·split <;> rfl
theorem nD (T:List Int) (i j:Int):hasB (T++[i]) j=(hasB T j||decide (i=j)):=by
 simp[hasB]
theorem AccI.step (S:Sc l n e p ks kv) {s0 s':RS} {out:List Int} (h0:RG l n e p ks kv s0) (C:CrP l e s0 s') (A:AccI l n s0 out) {j:Nat} {o:HOp} (ho:l[j]?=some o) (ht:(bg s' l j o).2=true):AccI l n (bg s' l j o).1 (out++[(j:Int)]):=by
 have hs':=(C.rg S h0).1
 have hle:=C.era_le
 have hto:=C.to
 obtain⟨q1,q2,q3,q4⟩:=gW (ef ht)
 rw[hs'.ok.al]at q2
 have hsame:s'.era=s0.era→s'=s0:=fun h=>by rw[h,k6]at hto; exact hto
 have hfar:s0.era<s'.era→s'.taken=[]:=fun h=>by rw[hto,bh,if_pos h]
 have hout:hasB out (j:Int)=false:=by
  by_cases h:s'.era=s0.era
  ·rw[A.now j o ho (by omega),←hsame h]; exact q3
  ·exact A.new j o ho (by omega)
 have hbef:out.any (befA l o)=false:=by
  rw[Bool.eq_false_iff]
  intro h
  obtain⟨x,hx,hb⟩:=List.any_eq_true.1 h
  obtain⟨k,q,rfl,hq⟩:=A.val x hx
  have hk:hasB out (k:Int)=true:=q6.2 hx
  have hb:befB o q=true:=by rw[befA,Int.toNat_natCast,hq]at hb; exact hb
  by_cases h1:s0.era<q.era
  ·rw[A.new k q hq h1]at hk; cases hk
  ·by_cases h2:o.era=q.era
   ·have h3:s'.era=s0.era:=by omega
    have h4:=A.now k q hq (by omega)
    rw[hk,←hsame h3]at h4
    have:hitL s' o l 0=true:=(nC l 0).2 ⟨k,q,hq,by
     rw[Nat.zero_add,hitB,if_pos h4.symm]; exact hb⟩
    rw[q4]at this; cases this
   ·rw[befB,if_neg h2]at hb
    have:=of_decide_eq_true hb
    omega
 have htk:bg s' l j o=({ (hapR s' o).1 with taken:=da s'.taken j },(hapR s' o).2):=by rw[bg,if_pos (ef ht)]
 have hfit:(hapR s' o).2=true:=by rw[htk]at ht; exact ht
 have hera:(bg s' l j o).1.era=s'.era:=mK
 have htaken:(bg s' l j o).1.taken=da s'.taken j:=by rw[htk]
 have hcr:bh o.era (noTk s0)=noTk s':=by rw[s8,q1,←hto]
 refine⟨?_,?_,fun k q hq he=>?_,fun k q hq he hm=>?_,fun k q hq he=>?_,fun i hi=>?_⟩
 ·rw[oC out [] _ A.acc,A.st,List.nil_append,eL,if_neg (by omega),Int.toNat_natCast,ho]
  simp only
  rw[if_neg (show ¬(out.any (fun y=>decide (y=(j:Int)))=true) by rw[show out.any (fun y=>decide (y=(j:Int)))=false from hout]; decide),if_neg (by rw[q2]; decide),if_neg (by rw[hbef]; decide),hcr,tR,hfit,if_neg (by decide)]
  rfl
 ·rw[oD out _ A.val,A.st,iV,Int.toNat_natCast,ho]
  simp only[iV]
  rw[hcr,tR,htk]
  rfl
 ·rw[hera]at he
  rw[nD,htaken,ga]
  congr 1
  by_cases h:s'.era=s0.era
  ·rw[A.now k q hq (by omega),←hsame h]
  ·rw[A.new k q hq (by omega),hfar (by omega)]; rfl
 ·rw[hera]at he
  rw[nD]
  have:hasB out (k:Int)=true:=by
   by_cases h:q.era<s0.era
   ·exact A.old k q hq h hm
   ·obtain⟨h1,h2⟩:=C.must k q hq hm (by omega) he
    rw[A.now k q hq h1]; exact h2
  rw[this]; rfl
 ·rw[hera]at he
  rw[nD,A.new k q hq (by omega),Bool.false_or]
  refine dF fun h=>?_
  have:j=k:=by omega
  subst this
  rw[ho]at hq; cases hq
  omega
 ·rcases List.mem_append.1 hi with hi | hi
  ·exact A.val i hi
  ·exact⟨j,o,List.mem_singleton.1 hi,ho⟩
theorem qm {ord:List Int}:∀(l:List HOp) (k:Nat),fi ord l k=false ↔ ∀(j:Nat) (o:HOp),l[j]?=some o→bT o=true→hasB ord ((k+j:Nat):Int)=true
 | [],k=>by simp[fi]
 | a::l,k=>by
  rw[fi,Bool.or_eq_false_iff,qm l (k+1)]
  constructor
  ·rintro⟨h1,h2⟩ j o hj hm
   cases j with
   | zero =>
    simp at hj; subst hj
    rw[hm,Bool.true_and]at h1
    simpa using h1
   | succ j=>rw[show k+(j+1)=k+1+j by omega]; exact h2 j o (by simpa using hj) hm
  ·intro h1
   refine⟨?_,fun j o hj hm=>by rw[show k+1+j=k+(j+1) by omega]; exact h1 (j+1) o (by simpa using hj) hm⟩
   cases hm:bT a with
   | false=>rfl
   | true =>
    have:=h1 0 a rfl hm
    rw[Nat.add_zero]at this
    have h2:ord.any (fun y=>decide (y=(k:Int)))=true:=this
    rw[h2]; rfl
theorem pM (L:ScL l e):∀(d:Nat) (s:RS),s.era<e→(e:Int)-1-s.era≤d→(NowT l e s ↔ ∀(j:Nat) (o:HOp),l[j]?=some o→bT o=true→s.era≤o.era→o.era=s.era∧hasB s.taken (j:Int)=true)
 | d,s,he,hd=>by
  have key:(bR s l 0=true) ↔ ∀(j:Nat) (o:HOp),l[j]?=some o→o.era=s.era→bT o=true→hasB s.taken (j:Int)=true:=by
   rw[rc l 0]
   simp only[Nat.zero_add]
  constructor
  ·intro h j o ho hm h1
   obtain⟨h2,h3⟩:=h.inv
   have h2:=key.1 h2
   by_cases h4:o.era=s.era
   ·exact⟨h4,h2 j o ho h4 hm⟩
   ·have:=(L.er j o ho).2
    rcases h3 with h3 | ⟨h3,h5⟩
    ·omega
    ·cases d with
     | zero=>omega
     | succ d =>
      have h0:(aY s).era=s.era+1:=rfl
      have:=((pM L d (aY s) (by rw[h0]; omega) (by rw[h0]; omega)).1 h5 j o ho hm (by rw[h0]; omega)).2
      simp[aY]at this
  ·intro h
   have hf:=key.2 fun j o ho h1 hm=>(h j o ho hm (by omega)).2
   by_cases h3:s.era=(e:Int)-1
   ·exact .fin hf h3
   ·cases d with
    | zero=>omega
    | succ d =>
     have h0:(aY s).era=s.era+1:=rfl
     refine .step hf (by omega) ((pM L d (aY s) (by rw[h0]; omega) (by rw[h0]; omega)).2 fun j o ho hm h1=>?_)
     have:=(h j o ho hm (by rw[h0]at h1; omega)).1
     rw[h0]at h1
     omega
theorem AccI.done (L:ScL l e) {s:RS} {out:List Int} (he:s.era<e) (h0:0≤s.era) (A:AccI l n s out):fH n n l out=0↔NowT l e s:=by
 rw[fH,A.acc,if_pos rfl,pM L e s he (by omega)]
 have h1:((if fi out l 0=true then (15:Int) else 0)=0)↔fi out l 0=false:=by
  cases fi out l 0 <;> simp
 rw[h1,qm l 0]
 simp only[Nat.zero_add]
 constructor
 ·intro h j o ho hm h2
  have h3:=h j o ho hm
  by_cases h4:o.era=s.era
  ·exact⟨h4,by rw[←A.now j o ho h4]; exact h3⟩
  ·rw[A.new j o ho (by omega)]at h3; cases h3
 ·intro h j o ho hm
  by_cases h4:o.era<s.era
  ·exact A.old j o ho h4 hm
  ·obtain⟨h5,h6⟩:=h j o ho hm (by omega)
   rw[A.now j o ho h5]; exact h6
theorem Sc.least (S:Sc l n e p ks kv) (L:ScL l e) {q:QS} {sp:List (List aM)} (I:SI l n e p ks kv q.2.length q sp) (hsp:SpOk q.2 sp) {MM:Nat} (hMM:∀s,RG l n e p ks kv s→muR l e s<MM):∀(N:Nat) (i:Int) (s' s0:RS) (acc:List Int) (M:Nat),RG l n e p ks kv s0→CrP l e s0 s'→0≤i→q.2[i.toNat]?=some (encS p ks s')→EndT l e s' →
  (∀(j:Nat) (o:HOp),l[j]?=some o→o.era<s'.era→eo l e MM s0 j o=false)→AccI l n s0 acc→muR l e s'<N→muR l e s0<M→eT l n e MM M s0 acc=(eJ p l e q.2 sp (ei p l e q.2 sp) N i acc,true)
 | 0,_,_,_,_,_,_,_,_,_,_,_,_,hN,_=>by omega
 | N+1,i,s',s0,acc,0,_,_,_,_,_,_,_,_,hM=>by omega
 | N+1,i,s',s0,acc,M+1,h0,C,hi0,hi,hE,hno,A,hN,hM=>by
  obtain⟨hs,hmu⟩:=C.rg S h0
  have e0:=h0.ok.e0
  have e1:=hs.era
  have hle:=C.era_le
  have hil:=(List.getElem?_eq_some_iff.1 hi).1
  have hdone:=A.done L h0.era e0
  rw[C.now]at hdone
  have hgE:∀x,RG l n e p ks kv x→(dO l e MM x=true↔EndT l e x):=fun x hx=>S.endG MM x hx (hMM x hx)
  rw[eJ,eT]
  by_cases hnow:NowT l e s'
  ·rw[if_pos ((S.nowG I e i s' hs (by have:=hs.ok.e0; omega) hi0 hi).2 hnow),if_pos (hdone.2 hnow)]
  have hcr:∀E:Int,s'.era=E→crF l E e s0=s':=fun E hE2=>by
   rw[C.crF (by omega) (by omega),ia (by omega)]
  rw[if_neg (fun h=>hnow ((S.nowG I e i s' hs (by have:=hs.ok.e0; omega) hi0 hi).1 h)),if_neg (fun h=>hnow (hdone.1 h))]
  obtain⟨ys,hys⟩:∃ys,sp[i.toNat]?=some ys:=⟨_,List.getElem?_eq_getElem (by rw[I.len]; exact hil)⟩
  have hst:=I.rel i.toNat s' ys hs hi hys
  have hspN:spN sp i=ys:=by rw[spN,hys]; rfl
  rw[hspN]
  have hgood:∀y∈ys,∀x∈eF l e s',q.2[y.to.toNat]?=some (encS p ks x.2)→gJ (ei p l e q.2 sp) y=dO l e MM x.2:=fun y _ x hx hy=>by
   have hx2:=(S.rgSteps hs hx).1
   rw[Bool.eq_iff_iff,hgE x.2 hx2,←S.good I hsp (muR l e x.2+1) _ x.2 hx2 (Nat.lt_succ_self _) hy,gJ]
   cases (ei p l e q.2 sp)[y.to.toNat]? with
   | none=>simp
   | some b=>simp
  rcases hst.find hgood with ⟨f1,f2⟩ | ⟨y,x,f1,f2,f3,f4,f5⟩
  ·exfalso
   rcases hE.inv with ⟨h1,h2⟩ | ⟨x,hx,h2⟩
   ·exact hnow (.fin h1 h2)
   ·have:=List.find?_eq_none.1 f2 x hx
    exact this ((hgE x.2 (S.rgSteps hs hx).1).2 h2)
  ·rw[f1]
   simp only
   have hxm:=List.mem_of_find?_eq_some f2
   obtain⟨hx1,hx2⟩:=S.rgSteps hs hxm
   have hxE:EndT l e x.2:=(hgE x.2 hx1).1 (List.find?_some (p:=fun x:Int×RS=>dO l e MM x.2) f2)
   have hO:=zn (s:=s') (f:=dO l e MM) l 0 List.drop_zero
   rw[eF,List.find?_append]at f2
   cases hf:(rStO l s' l 0).find? (fun x=>dO l e MM x.2) with
   | some z =>
    rw[hf,Option.some_or]at f2
    cases f2
    rw[hf]at hO
    simp only at hO
    obtain⟨j,o,_,h2,h3,h4,h5,h6⟩:=hO
    have hoe:=(gW (ef h3)).1
    have hfst:dD (eo l e MM s0) l 0=(j:Int):=by
     have:=oX (f:=eo l e MM s0) l 0 (j:=j) h2 (by
      rw[Nat.zero_add,eo,hcr _ hoe.symm,h3,h4]; rfl) fun k r hk hr=>by
      rw[Nat.zero_add]
      have hm:=L.mono k j r o (by omega) hr h2
      by_cases hlt:r.era<s'.era
      ·exact hno k r hr hlt
      ·rw[eo,hcr _ (by omega)]
       exact h6 k r (Nat.zero_le _) hk hr
     rwa [Nat.zero_add]at this
    rw[hfst,Int.toNat_natCast,h2]
    simp only
    rw[if_neg (by omega)]
    have hop:y.op=(j:Int):=by rw[f3,h5]
    have hs0':bh o.era s0=s':=by rw[hoe]; exact C.to.symm
    rw[hop,if_pos (dT (by omega)),hs0']
    rw[h5]at hx1 hx2 hxE f5
    simp only at hx1 hx2 hxE f5
    refine S.least L I hsp hMM N y.to _ _ _ M hx1 (.refl _) f4 f5 hxE (fun k r hr hlt=>?_) (A.step S h0 C h2 h3) (by omega) (by omega)
    rw[eo,ia (by omega)]
    cases ht:(bg (bg s' l j o).1 l k r).2 with
    | false=>rfl
    | true =>
     have:=(gW (ef ht)).1
     omega
   | none =>
    rw[hf,Option.none_or]at f2
    rw[hf]at hO
    simp only at hO
    unfold rStC at f2
    split at f2
    ·rename_i hc
     simp only[Bool.and_eq_true,decide_eq_true_eq]at hc
     have hxe:=List.mem_of_find?_eq_some f2
     have hxe:=List.mem_singleton.1 hxe
     subst hxe
     simp only at f3 f5 hx1 hx2 hxE
     have hw:eT l n e MM (M+1) s0 acc=(eJ p l e q.2 sp (ei p l e q.2 sp) N y.to acc,true):=by
      refine S.least L I hsp hMM N y.to (aY s') s0 acc (M+1) h0 (C.snoc hc.2 hc.1) f4 f5 hxE (fun k r hr hlt=>?_) A (by omega) hM
      have h0:(aY s').era=s'.era+1:=rfl
      rw[h0]at hlt
      by_cases h2:r.era<s'.era
      ·exact hno k r hr h2
      ·rw[eo,hcr _ (by omega)]
       exact hO k r (Nat.zero_le _) hr
     rw[eT,if_neg (fun h=>hnow (hdone.1 h))]at hw
     rw[hw,if_neg (by rw[f3]; decide)]
    ·cases f2
end
def fL (l:List HOp) (n e M:Nat):List Int×Bool:=if dO l e M (bD n)=true then eT l n e M M (bD n) [] else ([],false)
theorem vq {l:List HOp} {n e:Nat} {p:Prep} {ks:List Int} {kv:List (List UInt8)} (S:Sc l n e p ks kv) (L:ScL l e) (he:0<e) {q:QS} {sp:List (List aM)} (I:SI l n e p ks kv q.2.length q sp) (hsp:SpOk q.2 sp) {μ:Nat→Nat} (dn:∀(i:Nat) ys,sp[i]?=some ys→∀y∈ys,μ y.to.toNat<μ i) {N M:Nat} (hN:μ 0<N) (hM:e*(l.length+1)<M) :
  lG p l e q.2 sp N=fL l n e M:=by
 have hMM:∀s,RG l n e p ks kv s→muR l e s<M:=fun s _=>by
  have:muR l e s≤e*(l.length+1):=Nat.le_trans (Nat.sub_le _ _) (Nat.mul_le_mul_right _ (Nat.sub_le _ _))
  omega
 have hf:=S.first he
 unfold lG fL
 have hg:=S.good I hsp (muR l e (bD n)+1) 0 _ hf (Nat.lt_succ_self _) I.fst
 have hgE:=S.endG M _ hf (hMM _ hf)
 by_cases h:EndT l e (bD n)
 ·rw[if_pos (hg.2 h),if_pos (hgE.2 h)]
  have h1:=gH (p:=p) (l:=l) (e:=e) (st:=q.2) (g:=ei p l e q.2 sp) dn N 0 [] (N+muR l e (bD n)) hN (by show μ 0<_; omega)
  rw[h1]
  refine (S.least L I hsp hMM _ 0 (bD n) (bD n) [] M hf (.refl _) (Int.le_refl _) I.fst h (fun j o ho hlt=>?_) (.first L n) (by omega) (hMM _ hf)).symm
  have:=(L.er j o ho).1
  simp only[bD]at hlt
  omega
 ·rw[if_neg (fun h2=>h (hg.1 h2)),if_neg (fun h2=>h (hgE.1 h2))]
end Go.Proofs.Ytkehohfgbblokaa
namespace Go.Proofs.Ytkehohfgbblokaa
open Go.Eng Go.Plain
set_option maxHeartbeats 32000000
set_option maxRecDepth 20000
theorem my:∀(r:List HEv) (e x:Int),x∈eraL r e→x<e+1+((r.countP fun x=>decide (x.kind=3):Nat):Int)
 | [],_,_,h=>by cases h
 | y::r,e,x,h=>by
  rw[List.countP_cons]
  unfold eraL at h
  by_cases h3:y.kind=3
  ·rw[if_pos h3]at h
   have:=my r (e+1) x h
   rw[if_pos (dT h3)]; omega
  ·rw[if_neg h3]at h
   split at h
   ·rcases List.mem_cons.1 h with rfl | h
    ·omega
    ·have:=my r e x h; omega
   ·have:=my r e x h; omega
theorem jM:∀(r:List HEv) (e:Int),(eraL r e).Pairwise (· ≤ ·)
 | [],_=>.nil
 | y::r,e=>by
  unfold eraL
  split
  ·exact jM r (e+1)
  ·split
   ·exact List.pairwise_cons.2 ⟨fun x hx=>jN r e x hx,jM r e⟩
   ·exact jM r e
theorem qB (h:List HEv):ScL (opsR h) (aU h):=by
 have hm:=lB h
 refine⟨fun j o ho=>?_,fun i j o q hij ho hq=>?_⟩
 ·have:o.era∈eraL h 0:=by rw[←hm]; exact List.mem_map.2 ⟨o,List.mem_of_getElem? ho,rfl⟩
  have h1:=jN h 0 _ this
  have h2:=my h 0 _ this
  unfold aU
  omega
 ·by_cases he:i=j
  ·subst he; rw[ho]at hq; cases hq; exact Int.le_refl _
  ·have hp:=jM h 0
   rw[←hm,List.pairwise_map,List.pairwise_iff_getElem]at hp
   have hi:=(List.getElem?_eq_some_iff.1 ho)
   have hj:=(List.getElem?_eq_some_iff.1 hq)
   have:=hp i j hi.1 hj.1 (by omega)
   rwa [hi.2,hj.2]at this
structure xR (h:List HEv):Prop where
 fit:eK h
 cl:Cl3 h
 len:h.length≤16
def bigM (h:List HEv):Nat:=aU h*((opsR h).length+1)+1
section
variable {l : List HOp} {n e : Nat} {p : Prep} {ks : List Int} {kv : List (List UInt8)}
theorem Sc.enough (S:Sc l n e p ks kv) {fuel:Int} {B:Nat} (hB:(B:Int)≤fuel) (hI:∀k q sp,SI l n e p ks kv k q sp→q.2.length≤B):∀(M k:Nat) (q:QS) (sp:List (List aM)),SI l n e p ks kv k q sp→fuel.toNat+2≤M+k→∃r,fP p l e fuel M k q sp=some r
 | 0,k,q,sp,I,hM=>by have:=hI k q sp I; have:=I.le; omega
 | M+1,k,q,sp,I,hM=>by
  have h1:=hI k q sp I
  rw[fP]
  cases hx:q.2[k]? with
  | none=>exact⟨(q,sp),by simp only; rw[if_neg (by omega)]⟩
  | some x =>
   simp only
   rw[if_neg (by omega)]
   exact S.enough hB hI M (k+1) _ _ (S.si1 I hx) (by omega)
end
theorem xR.go {h:List HEv} (H:xR h) {b:Nat} (h0:1≤b) (h1:b≤4096):n4 h b 1048576∧eN h b 1048576=(fL (opsR h) b (aU h) (bigM h),0)∧opE h b=0∧lH h b=opsR h:=by
 have hlen:=H.len
 have hchk:chkH h=(0,0):=ug H.fit (by omega)
 have hE:opE h b=0:=by rw[opE,hchk,if_pos rfl,if_neg (by omega)]
 have hL:lH h b=opsR h:=by rw[lH,opL,if_pos hE,opsH,hchk,if_pos rfl,qA (by rw[hchk])]
 have hol:(opsR h).length≤h.length:=qC h
 have hel:aU h≤17:=by have:=List.countP_le_length (p:=fun x:HEv=>decide (x.kind=3)) (l:=h); unfold aU; omega
 obtain⟨ks,kv,F⟩:=fp (opsR h) b (aU h)
 have S:=Sc.of F (by omega) (by omega) (by omega)
 have he:=fv h
 have hcount:∀k q sp,SI (opsR h) b (aU h) (cX (opsR h) b (aU h)) ks kv k q sp→q.2.length≤1015625:=fun k q sp I=>S.count he H.fit H.cl hlen I
 have hp:pH h b=cX (opsR h) b (aU h):=by rw[pH,hL]
 have hR:n4 h b 1048576:=by
  refine wa h b 1048576 (by omega) (fun k q sp=>SI (opsR h) b (aU h) (cX (opsR h) b (aU h)) ks kv k q sp) (fun _=>?_) (fun i q sp x _ _ _ I hx _=>?_) (fun i q sp _ I=>?_) (fun r _ _ _ hr=>?_)
  ·rw[hp]; exact S.si0 he
  ·rw[hp,hL]; exact S.si1 I hx
  ·have:=hcount _ _ _ I; omega
  ·obtain⟨q,sp⟩:=r
   unfold ky at hr
   rw[hp,hL]at hr
   have h2:=hcount _ _ _ (S.si he hr)
   have h3:q.2.length*(h.length+1)≤1015625*17:=Nat.mul_le_mul h2 (by omega)
   show q.2.length*(h.length+1)+1≤_
   omega
 refine⟨hR,?_,hE,hL⟩
 obtain⟨⟨q,sp⟩,hr⟩:=S.enough (fuel:=1048576) (B:=1015625) (by decide) hcount ((1048576:Int).toNat+2) 0 _ [] (S.si0 he) (Nat.le_refl _)
 have hr:ot (cX (opsR h) b (aU h)) (opsR h) (aU h) 1048576=some (q,sp):=hr
 have I:=S.si he hr
 have P:=F.ok (by omega:(opsR h).length≤8192)
 obtain⟨I2,_⟩:=jw P he hr
 unfold eN ky
 rw[if_pos hE,if_neg (by decide),hp,hL,hr]
 simp only
 rw[vq S (qB h) he I I2.spOk (μ:=muS (cX (opsR h) b (aU h)) (aU h) q.2) (fun i ys hys y hy=>I2.dn i ys hys y hy) (by rw[mu0 F I2 he]; exact Nat.lt_succ_self _) (Nat.lt_succ_self _)]
 rfl
theorem m6 {l:List HOp} {n e M:Nat}:∀(N:Nat) (s:RS) (out:List Int),(eT l n e M N s out).2=true→fH n n l (eT l n e M N s out).1=0
 | 0,_,_,h=>by cases h
 | N+1,s,out,h=>by
  rw[eT]at h ⊢
  by_cases h1:fH n n l out=0
  ·rw[if_pos h1]; exact h1
  ·rw[if_neg h1]at h ⊢
   cases h2:l[(dD (eo l e M s) l 0).toNat]? with
   | none=>rw[h2]at h; cases h
   | some o =>
    rw[h2]at h
    simp only at h ⊢
    by_cases h3:dD (eo l e M s) l 0<0
    ·rw[if_pos h3]at h; cases h
    ·rw[if_neg h3]at h ⊢
     exact m6 N _ _ h
theorem sK {l:List HOp} {n e M:Nat} (h:(fL l n e M).2=true):fH n n l (fL l n e M).1=0:=by
 unfold fL at h ⊢
 split at h
 ·rename_i h1
  rw[if_pos h1]
  exact m6 M _ _ h
 ·cases h
theorem mZ {l:List HOp} {n e M:Nat}:∀(N:Nat) (s:RS) (out:List Int),(eT l n e M N s out).1.length≤out.length+N
 | 0,_,_=>Nat.zero_le _
 | N+1,s,out=>by
  rw[eT]
  split
  ·simp only; omega
  ·split
   ·exact Nat.zero_le _
   ·split
    ·exact Nat.zero_le _
    ·refine Nat.le_trans (mZ N _ _) ?_
     simp only[List.length_append,List.length_cons,List.length_nil]; omega
theorem sJ {l:List HOp} {n e M:Nat}:(fL l n e M).1.length≤M:=by
 unfold fL
 split
 ·have:=mZ (l:=l) (n:=n) (e:=e) (M:=M) M (bD n) []
  simpa using this
 ·exact Nat.zero_le _
theorem vR {out:List HEv} (x:XE) (h:Cl3 out):Cl3 (b7 out x):=by
 have key:∀ev:HEv,(ev.kind≠3→0≤ev.client∧ev.client<3)→Cl3 (out++[ev]):=fun ev hev y hy hk=>by
  rcases List.mem_append.1 hy with hy | hy
  ·exact h y hy hk
  ·rw[List.mem_singleton.1 hy]at hk ⊢; exact hev hk
 have hc:(0:Int)≤((x.who.toNat % 4 % 3:Nat):Int)∧((x.who.toNat % 4 % 3:Nat):Int)<3:=by omega
 unfold b7
 repeat' split
 all_goals first
  | exact h
  | exact key _ fun hk=>absurd rfl hk
  | exact key _ fun _=>hc
theorem rh:∀(l:List XE) (out:List HEv),Cl3 out→Cl3 (l.foldl b7 out)
 | [],_,h=>h
 | x::l,_,h=>rh l _ (vR x h)
theorem vj {x:List XE} (h:x.length≤16):xR (hOf x):=by
 refine⟨tS x,rh _ [] (fun _ hy=>by cases hy),?_⟩
 have:=jK (x.take 24) []
 rw[List.length_take]at this
 unfold hOf
 simp at this
 omega
end Go.Proofs.Ytkehohfgbblokaa
namespace Go.Proofs.Ytkehohfgbblokaa
open Go.Eng Go.Plain
set_option maxHeartbeats 32000000
set_option maxRecDepth 20000
attribute [local irreducible] WC RegS RegD SeqQ BlkQ ScoQ RegK CutK Sat SatN FnIs LoopQ au OpIs
abbrev stR (L:List RS):Row :=.ds 100 4 false fS L
theorem sL {f:RS→Bool} {s:RS} {l:List HOp} {k:Nat} {o:HOp} (h:l[k]?=some o):jc f l s (l.drop k) k=(((bg s l k o).2&&f (bg s l k o).1)||jc f l s (l.drop (k+1)) (k+1)):=by
 have hlt:=(List.getElem?_eq_some_iff.1 h).1
 rw[List.drop_eq_getElem_cons hlt,(List.getElem?_eq_some_iff.1 h).2,jc]
theorem mX (h:List HEv) {l:List HOp} {n:Nat} {p:Prep} {ks:List Int} {kv:List (List UInt8)} (S:Sc l n (aU h) p ks kv) (hh:h.length≤100000):∀(N:Nat) (s:RS),RG l n (aU h) p ks kv s→muR l (aU h) s<N→FnIs Try.prog 58 [.d (fS s),.d (encH h),.d (cD l)] [] (r01d (dO l (aU h) N s)) []:=by
 intro N
 induction N with
 | zero=>exact fun _ _ hN=>absurd hN (Nat.not_lt_zero _)
 | succ N ih =>
 intro s hs hN
 have hll:=S.ll
 have hnl:=S.nl
 have hel:=S.el
 have htl:=S.tlen hs
 have he0:=hs.ok.e0
 have he1:=hs.era
 have hfu:=qo s l (by omega) (by omega)
 have her:=wm h (by omega)
 have hsw:IntKind.i64.wrap (((aU h:Nat):Int)-1)=(aU h:Int)-1:=aV (by omega) (by omega)
 refine aE aa Try.func58 rfl rfl rfl ?_
 rw[dO]
 refine sR<|rN ?_;refine rC<|nS ?_;refine vK (fun _:Unit=>⟨[(3,.ptr 64 []),(2,.d (cD l)),(1,.d (encH h))],[(64,some (iR s))],72,Try.f58.ntmps,64⟩) (fun _=>(bR s l 0&&(decide (s.era=(aU h:Int)-1)||dO l (aU h) N (aY s)))=false) ?_ ?_
 ·cases h1:bR s l 0 with
  | false =>
   have hp:(bR s l 0&&(decide (s.era=(aU h:Int)-1)||dO l (aU h) N (aY s)))=false:=by rw[h1]; rfl
   rw[h1]at hfu
   refine sR<|rQ iM ?_;refine rC ?_;refine rQ (aq hfu rfl rfl (ak (ak ai)) (.inl rfl) (fun _=>rfl)) ?_;refine rC ?_;refine zJ<|aN ?_
   exact kM () [(64,some 64)] rfl (lg zj ⟨zR,trivial⟩)
  | true =>
  rw[h1]at hfu
  cases h2:decide (s.era=(aU h:Int)-1) with
  | true =>
   rw[Bool.true_or,Bool.true_and,Bool.true_or]
   refine sR<|rQ iM ?_;refine rC ?_;refine rQ (aq hfu rfl rfl (ak (ak ai)) (.inl rfl) (fun _=>rfl)) ?_;refine rC ?_;refine zO<|aS ?_;refine aA (by kernel_rfl) ?_;refine dC [3] [] ?_;refine dQ [14] [64] iB ?_;refine dC [1] [] ?_;refine dQ [16] [] (aq her rfl rfl (ak ai) (.inl rfl) (fun _=>rfl)) ?_;refine dQ [17] [] (ce aa rfl rfl (aV (by omega) (by omega))) ?_;refine dC [15,18] [] ?_;refine dC [19] [] ?_;refine ae [20,3] rfl rfl (by assumption) rfl ?_;refine ae [20,21] rfl rfl (by assumption) rfl ?_;refine ae [20,1] rfl rfl (by assumption) rfl ?_;refine ae [20,2] rfl rfl (by assumption) rfl ?_;refine ae [20,22,23,24] rfl rfl (by assumption) rfl ?_;refine ae [20,25] rfl rfl (by assumption) rfl ?_;refine dQ [20,26] [] iT ?_;refine am (by kernel_rfl)<|aG ?_;refine wV<|sR ?_;refine rC<|zT ?_
   exact y8 ⟨trivial,[],lg zV trivial⟩
  | false =>
   have hx:((-1:Int),aY s)∈eF l (aU h) s:=cw.2 (.inr ⟨by have:=of_decide_eq_false h2; omega,h1,rfl⟩)
   obtain⟨hc1,hc2⟩:=S.rgSteps hs hx
   have hcr:=gz s (by rw[hs.ok.dl]; omega) (aV (by omega) (by omega))
   have hen:=ih (aY s) hc1 (by simp only at hc2; omega)
   cases h3:dO l (aU h) N (aY s) with
   | true =>
    rw[h3]at hen
    rw[Bool.or_true,Bool.true_and,Bool.true_or]
    refine sR<|rQ iM ?_;refine rC ?_;refine rQ (aq hfu rfl rfl (ak (ak ai)) (.inl rfl) (fun _=>rfl)) ?_;refine rC ?_;refine zO<|aS ?_;refine aA (by kernel_rfl) ?_;refine dC [3] [] ?_;refine dQ [14] [64] iB ?_;refine dC [1] [] ?_;refine dQ [16] [] (aq her rfl rfl (ak ai) (.inl rfl) (fun _=>rfl)) ?_;refine dQ [17] [] (ce aa rfl rfl (aV (by omega) (by omega))) ?_;refine dC [15,18] [] ?_;refine dC [19] [] ?_;refine ab [20,3] [64] rfl rfl (by assumption) rfl (aK aa rfl rfl rfl rfl) ?_;refine ab [20,21] [] rfl rfl (by assumption) rfl (aq hcr rfl rfl (ak ai) (.inl rfl) (fun _=>rfl)) ?_;refine ab [20,1] [] rfl rfl (by assumption) rfl (an aa (fun K hk=>hk)) ?_;refine ab [20,2] [] rfl rfl (by assumption) rfl (an aa (fun K hk=>hk)) ?_;refine ab [20,22,23,24] [] rfl rfl (by assumption) rfl (aq hen rfl rfl (ak (ak (ak ai))) (.inl rfl) (fun _=>rfl)) ?_;refine ab [20,25] [] rfl rfl (by assumption) rfl (an aa (fun K hk=>hk)) ?_;refine dQ [20,26] [] iF ?_;refine am (by kernel_rfl)<|aG ?_;refine wV<|sR ?_;refine rC<|zT ?_
    exact y8 ⟨trivial,[],lg zV trivial⟩
   | false =>
    have hp:(bR s l 0&&(decide (s.era=(aU h:Int)-1)||dO l (aU h) N (aY s)))=false:=by rw[h1,h2,h3]; rfl
    rw[h3]at hen
    refine sR<|rQ iM ?_;refine rC ?_;refine rQ (aq hfu rfl rfl (ak (ak ai)) (.inl rfl) (fun _=>rfl)) ?_;refine rC ?_;refine zO<|aS ?_;refine aA (by kernel_rfl) ?_;refine dC [3] [] ?_;refine dQ [14] [64] iB ?_;refine dC [1] [] ?_;refine dQ [16] [] (aq her rfl rfl (ak ai) (.inl rfl) (fun _=>rfl)) ?_;refine dQ [17] [] (ce aa rfl rfl (aV (by omega) (by omega))) ?_;refine dC [15,18] [] ?_;refine dC [19] [] ?_;refine ab [20,3] [64] rfl rfl (by assumption) rfl (aK aa rfl rfl rfl rfl) ?_;refine ab [20,21] [] rfl rfl (by assumption) rfl (aq hcr rfl rfl (ak ai) (.inl rfl) (fun _=>rfl)) ?_;refine ab [20,1] [] rfl rfl (by assumption) rfl (an aa (fun K hk=>hk)) ?_;refine ab [20,2] [] rfl rfl (by assumption) rfl (an aa (fun K hk=>hk)) ?_;refine ab [20,22,23,24] [] rfl rfl (by assumption) rfl (aq hen rfl rfl (ak (ak (ak ai))) (.inl rfl) (fun _=>rfl)) ?_;refine ab [20,25] [] rfl rfl (by assumption) rfl (an aa (fun K hk=>hk)) ?_;refine dQ [20,26] [] iF ?_;refine am (by kernel_rfl)<|aG ?_;refine wG<|aN ?_
    exact kM () [(64,some 64)] rfl (lg zj ⟨zR,trivial⟩)
 rintro _ hp
 refine bM ?_
 rw[hp,Bool.false_or]
 refine qR<|rC<|zP ?_
 refine wc_inv (fun k:Nat=>⟨[(7,.int .i64 k),(3,.ptr 64 []),(2,.d (cD l)),(1,.d (encH h))],[(64,some (iR s))],72,Try.f58.ntmps,64⟩) (fun k=>k≤l.length∧jc (dO l (aU h) N) l s (l.drop k) k=jc (dO l (aU h) N) l s l 0) (fun k=>l.length-k) 0 [(64,some 64)] ⟨Nat.zero_le _,rfl⟩
  (lg zi ⟨zR,trivial⟩) ?_
 rintro k ⟨hk,hd⟩
 refine bM ?_
 by_cases hlt:k<l.length
 ·have d1:decide ((k:Int)<(l.length:Int))=true:=dT (by omega)
  obtain⟨o,ho⟩:∃x,l[k]?=some x:=⟨_,List.getElem?_eq_getElem hlt⟩
  rw[sL ho]at hd
  have htk:=mR s l k o n ho hs.ok (by omega) (by omega) (by omega)
  refine qR<|zD ?_;refine rQ iE ?_;refine rC ?_;refine zI<|zQ<|zS ?_;refine rQ iM ?_;refine zD ?_;refine rQ (aq htk rfl rfl (ak (ak (ak ai))) (.inl rfl) (fun _=>rfl)) ?_;refine zU ?_;refine rN ?_;refine rW ?_;refine rC<|nR ?_;refine zU ?_
  cases h4:(bg s l k o).2 with
  | false =>
   rw[h4,Bool.false_and,Bool.false_or]at hd
   iterate 5 refine rT ?_
   refine rQ iG ?_;refine zJ<|aN<|zC<|aj ?_;refine rC ?_;refine rQ iD ?_;refine rC<|aw ?_
   exact aI (k+1) [(64,some 64)] ⟨hlt,hd⟩ (by omega) (lg zi ⟨zR,trivial⟩)
  | true =>
  have hx:((k:Int),(bg s l k o).1)∈eF l (aU h) s:=cw.2 (.inl ⟨k,o,ho,h4,rfl⟩)
  obtain⟨hc1,hc2⟩:=S.rgSteps hs hx
  have hen:=ih (bg s l k o).1 hc1 (by simp only at hc2; omega)
  cases h5:dO l (aU h) N (bg s l k o).1 with
  | false =>
   rw[h5]at hen
   rw[h5,Bool.and_false,Bool.false_or]at hd
   refine rP ?_;refine rQ iM ?_;refine rP ?_;refine rC ?_;refine rP ?_;refine rC ?_;refine rP ?_;refine rQ (aq hen rfl rfl (ak (ak (ak ai))) (.inl rfl) (fun _=>rfl)) ?_;refine rP ?_;refine rC ?_;refine rQ iU ?_;refine zJ<|aN<|zC<|aj ?_;refine rC ?_;refine rQ iD ?_;refine rC<|aw ?_
   exact aI (k+1) [(64,some 64)] ⟨hlt,hd⟩ (by omega) (lg zi ⟨zR,trivial⟩)
  | true =>
   rw[h5]at hen
   rw[h4,h5,Bool.and_true,Bool.true_or]at hd
   rw[←hd]
   refine rP ?_;refine rQ iM ?_;refine rP ?_;refine rC ?_;refine rP ?_;refine rC ?_;refine rP ?_;refine rQ (aq hen rfl rfl (ak (ak (ak ai))) (.inl rfl) (fun _=>rfl)) ?_;refine rP ?_;refine rC ?_;refine rQ iU ?_;refine zO<|sR ?_;refine rC<|zT<|zB<|ci<|zB ?_
   exact⟨trivial,[],lf⟩
 ·have d1:decide ((k:Int)<(l.length:Int))=false:=dF (by omega)
  rw[List.drop_eq_nil_of_le (by omega),jc]at hd
  rw[←hd]
  refine qR<|zD ?_;refine rQ iE ?_;refine rC ?_;refine zG<|zX<|sR ?_;refine rC<|zT ?_
  exact⟨trivial,[],lf⟩
theorem rj {f:Nat→HOp→Bool} {l:List HOp} {k:Nat} {o:HOp} (h:l[k]?=some o):dD f (l.drop k) k=if f k o then (k:Int) else dD f (l.drop (k+1)) (k+1):=by
 have hlt:=(List.getElem?_eq_some_iff.1 h).1
 rw[List.drop_eq_getElem_cons hlt,(List.getElem?_eq_some_iff.1 h).2,dD]
theorem nI {f:Nat→HOp→Bool}:∀(r:List HOp) (i:Nat),dD f r i = -1∨∃(j:Nat) (o:HOp),r[j]?=some o∧dD f r i=((i+j:Nat):Int)∧f (i+j) o=true
 | [],i=>.inl rfl
 | a::r,i=>by
  rw[dD]
  cases h:f i a with
  | true=>exact .inr ⟨0,a,rfl,by rw[if_pos rfl]; rfl,h⟩
  | false =>
   rw[if_neg Bool.false_ne_true]
   rcases nI r (i+1)with h1 | ⟨j,o,h1,h2,h3⟩
   ·exact .inl h1
   ·exact .inr ⟨j+1,o,by simpa using h1,by rw[h2]; congr 1; omega,by rw[show i+(j+1)=i+1+j by omega]; exact h3⟩
theorem ue {l:List HOp} {E e:Int} (he:E≤e-1):∀(N:Nat) (s:RS),CrP l e s (crF l E N s)
 | 0,s=>.refl s
 | N+1,s=>by
  rw[crF]
  split
  ·rename_i hc
   simp only[Bool.and_eq_true,decide_eq_true_eq]at hc
   exact .step hc.2 (by omega) (ue he N (aY s))
  ·exact .refl s
theorem yL {l:List HOp} {E:Int} {N:Nat} {t:RS} (h:t.era<E) (hf:bR t l 0=true) (hN:(E-t.era).toNat≤N):crF l E N t=crF l E N (aY t):=by
 cases N with
 | zero=>omega
 | succ N =>
  rw[crF,dT h,hf,Bool.true_and,if_pos rfl]
  exact nM N (N+1) (aY t) (by simp only[aY]; omega) (by simp only[aY]; omega)
theorem wl (h:List HEv) {l:List HOp} {n:Nat} {p:Prep} {ks:List Int} {kv:List (List UInt8)} (S:Sc l n (aU h) p ks kv) (L:ScL l (aU h)) (hop:FnIs Try.prog 26 [.d (encH h)] [] (.d (cD l)) []) (hh:h.length≤100000) {M:Nat} (hM:aU h*(l.length+1)<M) (hM2:M≤1000000) :
  FnIs Try.prog 24 [.d (encH h),.int .i64 n] [] (.tup (.acons (.d (ff (fL l n (aU h) M).1)) (.acons (r01d (fL l n (aU h) M).2) .anil))) []:=by
 have hll:=S.ll
 have hnl:=S.nl
 have hel:=S.el
 have hMM:∀s,RG l n (aU h) p ks kv s→muR l (aU h) s<M:=fun s _=>by
  have:muR l (aU h) s≤aU h*(l.length+1):=Nat.le_trans (Nat.sub_le _ _) (Nat.mul_le_mul_right _ (Nat.sub_le _ _))
  omega
 have hf:=S.first (fv h)
 have hfi:=ow n (by omega)
 have hen:=mX h S hh M (bD n) hf (hMM _ hf)
 refine aE aa Try.func24 rfl rfl rfl ?_
 unfold fL
 cases h1:dO l (aU h) M (bD n) with
 | false =>
  rw[h1]at hen
  rw[if_neg Bool.false_ne_true]
  refine sR<|zD<|nR ?_;refine rC ?_;refine rQ (aq hop rfl rfl (ak ai) (.inl rfl) (fun _=>rfl)) ?_;refine rC<|nR ?_;refine rC ?_;refine rQ (aq hfi rfl rfl (ak ai) (.inl rfl) (fun _=>rfl)) ?_;refine rN ?_;refine rW<|nR ?_;refine rC<|zW ?_;refine rQ iM ?_;refine zD ?_;refine rQ (aq hen rfl rfl (ak (ak (ak ai))) (.inl rfl) (fun _=>rfl)) ?_;refine rC ?_;refine zO<|sR ?_;refine zD<|zT<|bA ?_
  exact⟨trivial,[],lg ⟨⟨_,rfl,AVLe.tup1 (AVLe.d (DLe.nil_arr 1 i6) rfl) rfl⟩,rfl,trivial⟩ trivial⟩
 | true =>
 rw[h1]at hen
 rw[if_pos rfl]
 refine sR<|zD<|nR ?_;refine rC ?_;refine rQ (aq hop rfl rfl (ak ai) (.inl rfl) (fun _=>rfl)) ?_;refine rC<|nR ?_;refine rC ?_;refine rQ (aq hfi rfl rfl (ak ai) (.inl rfl) (fun _=>rfl)) ?_;refine rN ?_;refine rW<|nR ?_;refine rC<|zW ?_;refine rQ iM ?_;refine zD ?_;refine rQ (aq hen rfl rfl (ak (ak (ak ai))) (.inl rfl) (fun _=>rfl)) ?_;refine rC ?_;refine zJ<|zQ<|bn ?_
 refine wc_inv (fun q:RS×List Int×Nat=>⟨[(8,.own 65 0 q.2.1.length 1 none),(7,.ptr 64 []),(6,.d (cD l)),(1,.int .i64 n),(0,.d (encH h))],[(64,some (iR q.1)),(65,some (zRow q.2.1))],72,Try.f24.ntmps,64⟩) (fun q=>RG l n (aU h) p ks kv q.1∧muR l (aU h) q.1<q.2.2∧q.2.1.length+q.2.2=M∧eT l n (aU h) M q.2.2 q.1 q.2.1=eT l n (aU h) M M (bD n) []) (fun q=>q.2.2) (bD n,[],M) [(64,some _),(65,none)] ⟨hf,hMM _ hf,Nat.zero_add _,rfl⟩
  (lg zh ⟨zR,⟨rfl,rfl,rfl⟩,trivial⟩) ?_
 rintro⟨s,out,N⟩ ⟨hs,hmu,hlen,hg⟩
 simp only at hs hmu hlen hg
 obtain⟨N,rfl⟩:∃N',N=N'+1:=⟨N-1,by omega⟩
 rw[eT]at hg
 refine bM ?_
 have hE:∀o∈l,0≤o.era∧o.era≤1000000:=fun o ho=>by
  obtain⟨j,hj⟩:=List.mem_iff_getElem?.1 ho
  have:=L.er j o hj
  omega
 have hac:=sH h n out l hop (by omega) (by omega) (by omega) hE
 have hol:out.length+1≤1048576:=by omega
 by_cases hacc:fH n n l out=0
 ·have d0:(!decide (fH n n l out=0))=false:=by rw[dT hacc]; rfl
  rw[if_pos hacc]at hg
  rw[←hg]
  refine qR<|zU ?_;refine rQ (aq hac rfl rfl (ak (ak (rE rfl rfl ai))) (.inr (cN.sc _)) (fun _=>rfl)) ?_;refine rC ?_;refine zG<|bV<|db<|dY<|dj<|aG ?_;refine ez (env':=[(8,_)]) (h':=[]) 65 _ rfl ⟨⟨_,rfl,Frz.own rfl⟩,trivial⟩ trivial<|sR ?_;refine zU<|zT ?_
  exact⟨trivial,[],lf⟩
 have d0:(!decide (fH n n l out=0))=true:=by rw[dF hacc]; rfl
 rw[if_neg hacc]at hg
 have e0:=hs.ok.e0
 have e1:=hs.era
 refine qR<|zU ?_;refine rQ (aq hac rfl rfl (ak (ak (rE rfl rfl ai))) (.inr (cN.sc _)) (fun _=>rfl)) ?_;refine rC ?_;refine zI<|kS<|zS ?_;refine rC<|zW ?_;refine rC ?_;refine rQ iE ?_;refine rQ (ce (m:=(l.length:Int)-1) aa rfl rfl (aV (by omega) (by omega))) ?_;refine rC<|zP ?_
 refine wc_inv (fun k:Nat=>⟨[(10,.int .i64 ((k:Int)-1)),(9,.int .i64 (dD (eo l (aU h) M s) (l.drop k) k)),(8,.own 65 0 out.length 1 none),(7,.ptr 64 []),(6,.d (cD l)),(1,.int .i64 n),(0,.d (encH h))],[(64,some (iR s)),(65,some (zRow out))],72,Try.f24.ntmps,64⟩) (fun k=>k≤l.length) (fun k=>k) l.length [(64,some 64),(65,some 65)] (Nat.le_refl _)
  (lg ⟨zE,rfl,⟨_,rfl,AVLe.of_eq (by rw[List.drop_length]; rfl)⟩,rfl,zE,rfl,zE,rfl,zE,rfl,zE,rfl,zE,rfl,trivial⟩ ⟨zR,zR,trivial⟩) ?_
 intro k hk
 refine bM ?_
 rcases k with _ | m
 ·have d1:decide (((0:Nat):Int)-1≥0)=false:=rfl
  rw[List.drop_zero]
  rcases nI (f:=eo l (aU h) M s) l 0 with hj | ⟨j,o,hj,hj1,hcd⟩
  ·rw[hj]
   have d2:decide ((-1:Int)<0)=true:=rfl
   have hR:eT l n (aU h) M M (bD n) []=([],false):=by
    rw[←hg,hj]
    cases l[(-1:Int).toNat]? with
    | none=>rfl
    | some o=>rfl
   rw[hR]
   refine qR<|zD ?_;refine zJ<|zX<|qR ?_;refine zD ?_;refine zO<|sR ?_;refine zD<|zT<|bA<|nP<|ci<|zB ?_
   exact⟨trivial,[],lg ⟨⟨_,rfl,AVLe.tup1 (AVLe.d (DLe.nil_arr 1 i6) rfl) rfl⟩,rfl,trivial⟩ trivial⟩
  ·rw[Nat.zero_add]at hj1 hcd
   rw[hj1,Int.toNat_natCast,hj]at hg
   simp only at hg
   rw[if_neg (by omega)]at hg
   rw[hj1]
   have d2:decide ((j:Int)<0)=false:=dF (by omega)
   have hj2:l[((j:Int)).toNat]?=some o:=by rw[Int.toNat_natCast]; exact hj
   obtain⟨er0,er1⟩:=L.er j o hj
   rw[eo,Bool.and_eq_true]at hcd
   have hcp:=ue (l:=l) (E:=o.era) (e:=(aU h:Int)) (by omega) (aU h) s
   obtain⟨hr1,hr2⟩:=hcp.rg S hs
   have hce:=(gW (ef hcd.1)).1
   have hto:=xy (l:=l) (E:=o.era) (aU h) s (by have:=hcp.era_le; omega) hce.symm
   rw[hto]at hcd hr1 hr2
   refine qR<|zD ?_;refine zJ<|zX<|qR ?_;refine zD ?_;refine zJ<|zQ<|bn ?_
   refine wc_inv (fun t:RS=>⟨[(9,.int .i64 j),(8,.own 65 0 out.length 1 none),(7,.ptr 64 []),(6,.d (cD l)),(1,.int .i64 n),(0,.d (encH h))],[(64,some (iR t)),(65,some (zRow out))],72,Try.f24.ntmps,64⟩) (fun t=>RSOk n t∧t.era<aU h∧bh o.era t=bh o.era s) (fun t=>(o.era-t.era).toNat) s [(64,some 64),(65,some 65)] ⟨hs.ok,e1,rfl⟩
    (lg zg ⟨zR,zR,trivial⟩) ?_
   rintro t ⟨ht,hte,htc⟩
   refine bM ?_
   by_cases hlt:t.era<o.era
   ·have d3:decide (t.era<o.era)=true:=dT hlt
    have t0:=ht.e0
    have hcr:=gz t (by rw[ht.dl]; omega) (aV (by omega) (by omega))
    have hct:bh o.era (aY t)=bh o.era t:=by
     unfold bh
     have h0:(aY t).era=t.era+1:=rfl
     by_cases h3:(aY t).era<o.era
     ·rw[if_pos h3,if_pos hlt]; rfl
     ·rw[if_neg h3,if_pos hlt]
      have h4:o.era=t.era+1:=by omega
      rw[h4]; rfl
    iterate 2 refine aS ?_
    refine aA (by kernel_rfl) ?_;refine dC [7] [] ?_;refine dQ [71] [64] iB ?_;refine dC [6] [] ?_;refine dC [9] [] ?_;refine dQ [73,74] [] (ao aa rfl rfl rfl rfl rfl (by omega) hj2) ?_;refine dC [75] [] ?_;refine dQ [76] [] iL ?_;refine dC [72,77] [] ?_;refine am (by kernel_rfl)<|aG ?_;refine wT<|kS<|bn<|aj ?_;refine rQ iM ?_;refine rQ (aq hcr rfl rfl (ak ai) (.inl rfl) (fun _=>rfl)) ?_;refine rW<|aw<|ep ?_
    exact aI (aY t) [(64,some 64),(65,some 65)] ⟨ht.crash (by omega),by simp only[aY]; omega,by rw[hct]; exact htc⟩ (by simp only[aY]; omega) (lg zg ⟨zR,zR,trivial⟩)
   ·have d3:decide (t.era<o.era)=false:=dF hlt
    have htt:t=bh o.era s:=by rw[←htc,bh,if_neg hlt]
    subst htt
    have htk:=mR (bh o.era s) l j o n hj hr1.ok (by omega) (by omega) (by have:=S.tlen hr1; omega)
    obtain⟨hu1,hu2⟩:=S.rgSteps hr1 (cw.2 (.inl ⟨j,o,hj,hcd.1,rfl⟩))
    simp only at hu1 hu2
    have hl1:out.length+1=(out++[(j:Int)]).length:=by simp
    iterate 2 refine aS ?_
    refine aA (by kernel_rfl) ?_;refine dC [7] [] ?_;refine dQ [71] [64] iB ?_;refine dC [6] [] ?_;refine dC [9] [] ?_;refine dQ [73,74] [] (ao aa rfl rfl rfl rfl rfl (by omega) hj2) ?_;refine dC [75] [] ?_;refine dQ [76] [] iL ?_;refine dC [72,77] [] ?_;refine am (by kernel_rfl)<|aG ?_;refine wF<|bV<|db<|dY<|dj<|aG<|sR ?_;refine rQ iM ?_;refine zD ?_;refine rQ (aq htk rfl rfl (ak (ak (ak ai))) (.inl rfl) (fun _=>rfl)) ?_;refine zU ?_;refine rW<|nS<|aj ?_;refine zD ?_;refine aW (aD (s:=1) aa rfl rfl rfl rfl rfl rfl rfl rfl) rfl ?_;refine aO (aQ (enc:=i6) (s:=1) (xs:=out) aa ((j:Nat):Int) rfl rfl rfl rfl rfl rfl rfl rfl rfl hol rfl) rfl ?_;refine rC<|aw<|ep ?_
    exact aI ((bg (bh o.era s) l j o).1,out++[(j:Int)],N) [(64,some 64),(65,some _)] ⟨hu1,by simp only; omega,by simp only[List.length_append,List.length_cons,List.length_nil]; omega,hg⟩ (by simp only; omega) (lg ⟨⟨_,rfl,ownl hl1⟩,rfl,zE,rfl,zE,rfl,zE,rfl,zE,rfl,trivial⟩ ⟨zR,zR,trivial⟩)
 ·have d1:decide (((m+1:Nat):Int)-1≥0)=true:=dT (by omega)
  obtain⟨o,ho⟩:∃x,l[m]?=some x:=⟨_,List.getElem?_eq_getElem (by omega)⟩
  have ho2:l[(((m+1:Nat):Int)-1).toNat]?=some o:=by rw[show (((m+1:Nat):Int)-1).toNat=m by omega]; exact ho
  have hst:=rj (f:=eo l (aU h) M s) ho
  obtain⟨er0,er1⟩:=L.er m o ho
  refine qR<|zD ?_;refine zI<|zQ<|zS ?_;refine rQ iM ?_;refine rN ?_;refine rW<|nQ<|bn ?_
  refine wc_inv (fun t:RS=>⟨[(11,.ptr 66 []),(10,.int .i64 (((m+1:Nat):Int)-1)),(9,.int .i64 (dD (eo l (aU h) M s) (l.drop (m+1)) (m+1))),(8,.own 65 0 out.length 1 none),(7,.ptr 64 []),(6,.d (cD l)),(1,.int .i64 n),(0,.d (encH h))],[(64,some (iR s)),(65,some (zRow out)),(66,some (iR t))],80,Try.f24.ntmps,64⟩) (fun t=>RG l n (aU h) p ks kv t∧crF l o.era (aU h) t=crF l o.era (aU h) s) (fun t=>(o.era-t.era).toNat) s [(64,some 64),(65,some 65),(66,some _)] ⟨hs,rfl⟩
   (lg ze ⟨zR,zR,zR,trivial⟩) ?_
  rintro t ⟨ht,htc⟩
  refine bM ?_
  have t0:=ht.ok.e0
  have t1:=ht.era
  have htl:=S.tlen ht
  have hfu:=qo t l (by omega) (by omega)
  by_cases hlt:t.era<o.era∧bR t l 0=true
  ·have d3:decide (t.era<o.era)=true:=dT hlt.1
   rw[hlt.2]at hfu
   have hcr:=gz t (by rw[ht.ok.dl]; omega) (aV (by omega) (by omega))
   iterate 2 refine aS ?_
   refine aA (by kernel_rfl) ?_;refine dC [11] [] ?_;refine dQ [36] [66] iB ?_;refine dC [6] [] ?_;refine dC [10] [] ?_;refine dQ [38,39] [] (ao aa rfl rfl rfl rfl rfl (by omega) ho2) ?_;refine dC [40] [] ?_;refine dQ [41] [] iL ?_;refine dC [37,42] [] ?_;refine dC [43] [] ?_;refine ab [44,11] [66] rfl rfl (by assumption) rfl (aK aa rfl rfl rfl rfl) ?_;refine ab [44,6] [] rfl rfl (by assumption) rfl (an aa (fun K hk=>hk)) ?_;refine ab [44,45,46] [] rfl rfl (by assumption) rfl (aq hfu rfl rfl (ak (ak ai)) (.inl rfl) (fun _=>rfl)) ?_;refine ab [44,47] [] rfl rfl (by assumption) rfl (an aa (fun K hk=>hk)) ?_;refine dQ [44,48] [] iT ?_;refine am (by kernel_rfl)<|aG ?_;refine wV<|kS<|bn<|aj ?_;refine rQ iM ?_;refine rQ (aq hcr rfl rfl (ak ai) (.inl rfl) (fun _=>rfl)) ?_;refine rW<|aw<|ep ?_
   exact aI (aY t) [(64,some 64),(65,some 65),(66,some 66)] ⟨ht.crash (by omega) hel,by rw[←yL hlt.1 hlt.2 (by omega)]; exact htc⟩ (by simp only[aY]; omega) (lg ze ⟨zR,zR,zR,trivial⟩)
  ·have htt:crF l o.era (aU h) s=t:=by
    rw[←htc]
    obtain⟨e,he⟩:∃e,aU h=e+1:=⟨aU h-1,by have:=fv h; omega⟩
    rw[he,crF,if_neg]
    simp only[Bool.and_eq_true,decide_eq_true_eq]
    exact hlt
   have htk:=mR t l m o n ho ht.ok (by omega) (by omega) (by omega)
   rw[show (m:Int)=((m+1:Nat):Int)-1 by omega]at htk
   have hCC:m≤l.length:=by omega
   have cnd:∀b,((bg t l m o).2&&dO l (aU h) M (bg t l m o).1)=b→eo l (aU h) M s m o=b:=fun b hb=>by rw[eo,htt]; exact hb
   have leaf:∀b,eo l (aU h) M s m o=b→dD (eo l (aU h) M s) (l.drop m) m=if b then (m:Int) else dD (eo l (aU h) M s) (l.drop (m+1)) (m+1):=fun b hb=>by rw[hst,hb]
   have hways:decide (t.era<o.era)=false∨(decide (t.era<o.era)=true∧bR t l 0=false):=by
    cases h3:decide (t.era<o.era) with
    | false=>exact .inl rfl
    | true=>exact .inr ⟨rfl,Bool.eq_false_iff.2 fun h4=>hlt ⟨of_decide_eq_true h3,h4⟩⟩
   rcases hways with d3 | ⟨d3,h4⟩
   ·iterate 2 refine aS ?_
    refine aA (by kernel_rfl) ?_;refine dC [11] [] ?_;refine dQ [36] [66] iB ?_;refine dC [6] [] ?_;refine dC [10] [] ?_;refine dQ [38,39] [] (ao aa rfl rfl rfl rfl rfl (by omega) ho2) ?_;refine dC [40] [] ?_;refine dQ [41] [] iL ?_;refine dC [37,42] [] ?_;refine dC [43] [] ?_;refine ae [44,11] rfl rfl (by assumption) rfl ?_;refine ae [44,6] rfl rfl (by assumption) rfl ?_;refine ae [44,45,46] rfl rfl (by assumption) rfl ?_;refine ae [44,47] rfl rfl (by assumption) rfl ?_;refine dQ [44,48] [] iF ?_;refine am (by kernel_rfl)<|aG ?_;refine wG<|zX<|sR ?_;refine rQ iM ?_;refine zD ?_;refine rQ (aq htk rfl rfl (ak (ak (ak ai))) (.inl rfl) (fun _=>rfl)) ?_;refine zU ?_;refine rN ?_;refine rW ?_;refine rC<|nR ?_;refine zU ?_
    cases h5:(bg t l m o).2 with
    | false =>
     have hl:=leaf false (cnd false (by rw[h5]; rfl))
     iterate 5 refine rT ?_
     refine rQ iG ?_;refine zJ<|aN<|zC<|aj ?_;refine rC ?_;refine rQ (ce (m:=((m+1:Nat):Int)-1-1) aa rfl rfl (aV (by omega) (by omega))) ?_;refine rC<|aw ?_
     exact aI m [(64,some 64),(65,some 65)] (by omega) (by omega) (lg ⟨⟨_,rfl,AVLe.of_eq (by rw[show ((m+1:Nat):Int)-1-1=(m:Int)-1 by omega]; rfl)⟩,rfl,⟨_,rfl,AVLe.of_eq (by rw[hl]; rfl)⟩,rfl,zE,rfl,zE,rfl,zE,rfl,zE,rfl,zE,rfl,trivial⟩ ⟨zR,zR,trivial⟩)
    | true =>
    have hu:=S.rgTake ht ho h5
    have hen2:=mX h S hh M (bg t l m o).1 hu (hMM _ hu)
    cases h6:dO l (aU h) M (bg t l m o).1 with
    | false =>
     have hl:=leaf false (cnd false (by rw[h5,h6]; rfl))
     rw[h6]at hen2
     refine rP ?_;refine rQ iM ?_;refine rP ?_;refine rC ?_;refine rP ?_;refine rC ?_;refine rP ?_;refine rQ (aq hen2 rfl rfl (ak (ak (ak ai))) (.inl rfl) (fun _=>rfl)) ?_;refine rP ?_;refine rC ?_;refine rQ iU ?_;refine zJ<|aN<|zC<|aj ?_;refine rC ?_;refine rQ (ce (m:=((m+1:Nat):Int)-1-1) aa rfl rfl (aV (by omega) (by omega))) ?_;refine rC<|aw ?_
     exact aI m [(64,some 64),(65,some 65)] (by omega) (by omega) (lg ⟨⟨_,rfl,AVLe.of_eq (by rw[show ((m+1:Nat):Int)-1-1=(m:Int)-1 by omega]; rfl)⟩,rfl,⟨_,rfl,AVLe.of_eq (by rw[hl]; rfl)⟩,rfl,zE,rfl,zE,rfl,zE,rfl,zE,rfl,zE,rfl,trivial⟩ ⟨zR,zR,trivial⟩)
    | true =>
     have hl:=leaf true (cnd true (by rw[h5,h6]; rfl))
     rw[h6]at hen2
     refine rP ?_;refine rQ iM ?_;refine rP ?_;refine rC ?_;refine rP ?_;refine rC ?_;refine rP ?_;refine rQ (aq hen2 rfl rfl (ak (ak (ak ai))) (.inl rfl) (fun _=>rfl)) ?_;refine rP ?_;refine rC ?_;refine rQ iU ?_;refine zO<|aj ?_;refine zD<|aw<|zC<|aj ?_;refine rC ?_;refine rQ (ce (m:=((m+1:Nat):Int)-1-1) aa rfl rfl (aV (by omega) (by omega))) ?_;refine rC<|aw ?_
     exact aI m [(64,some 64),(65,some 65)] (by omega) (by omega) (lg ⟨⟨_,rfl,AVLe.of_eq (by rw[show ((m+1:Nat):Int)-1-1=(m:Int)-1 by omega]; rfl)⟩,rfl,⟨_,rfl,AVLe.of_eq (by rw[hl]; rw[if_pos rfl]; show AV.int .i64 (((m+1:Nat):Int)-1)=AV.int .i64 (m:Int); congr 1; omega)⟩,rfl,zE,rfl,zE,rfl,zE,rfl,zE,rfl,zE,rfl,trivial⟩ ⟨zR,zR,trivial⟩)
   ·rw[h4]at hfu
    iterate 2 refine aS ?_
    refine aA (by kernel_rfl) ?_;refine dC [11] [] ?_;refine dQ [36] [66] iB ?_;refine dC [6] [] ?_;refine dC [10] [] ?_;refine dQ [38,39] [] (ao aa rfl rfl rfl rfl rfl (by omega) ho2) ?_;refine dC [40] [] ?_;refine dQ [41] [] iL ?_;refine dC [37,42] [] ?_;refine dC [43] [] ?_;refine ab [44,11] [66] rfl rfl (by assumption) rfl (aK aa rfl rfl rfl rfl) ?_;refine ab [44,6] [] rfl rfl (by assumption) rfl (an aa (fun K hk=>hk)) ?_;refine ab [44,45,46] [] rfl rfl (by assumption) rfl (aq hfu rfl rfl (ak (ak ai)) (.inl rfl) (fun _=>rfl)) ?_;refine ab [44,47] [] rfl rfl (by assumption) rfl (an aa (fun K hk=>hk)) ?_;refine dQ [44,48] [] iT ?_;refine am (by kernel_rfl)<|aG ?_;refine wG<|zX<|sR ?_;refine rQ iM ?_;refine zD ?_;refine rQ (aq htk rfl rfl (ak (ak (ak ai))) (.inl rfl) (fun _=>rfl)) ?_;refine zU ?_;refine rN ?_;refine rW ?_;refine rC<|nR ?_;refine zU ?_
    cases h5:(bg t l m o).2 with
    | false =>
     have hl:=leaf false (cnd false (by rw[h5]; rfl))
     iterate 5 refine rT ?_
     refine rQ iG ?_;refine zJ<|aN<|zC<|aj ?_;refine rC ?_;refine rQ (ce (m:=((m+1:Nat):Int)-1-1) aa rfl rfl (aV (by omega) (by omega))) ?_;refine rC<|aw ?_
     exact aI m [(64,some 64),(65,some 65)] (by omega) (by omega) (lg ⟨⟨_,rfl,AVLe.of_eq (by rw[show ((m+1:Nat):Int)-1-1=(m:Int)-1 by omega]; rfl)⟩,rfl,⟨_,rfl,AVLe.of_eq (by rw[hl]; rfl)⟩,rfl,zE,rfl,zE,rfl,zE,rfl,zE,rfl,zE,rfl,trivial⟩ ⟨zR,zR,trivial⟩)
    | true =>
    have hu:=S.rgTake ht ho h5
    have hen2:=mX h S hh M (bg t l m o).1 hu (hMM _ hu)
    cases h6:dO l (aU h) M (bg t l m o).1 with
    | false =>
     have hl:=leaf false (cnd false (by rw[h5,h6]; rfl))
     rw[h6]at hen2
     refine rP ?_;refine rQ iM ?_;refine rP ?_;refine rC ?_;refine rP ?_;refine rC ?_;refine rP ?_;refine rQ (aq hen2 rfl rfl (ak (ak (ak ai))) (.inl rfl) (fun _=>rfl)) ?_;refine rP ?_;refine rC ?_;refine rQ iU ?_;refine zJ<|aN<|zC<|aj ?_;refine rC ?_;refine rQ (ce (m:=((m+1:Nat):Int)-1-1) aa rfl rfl (aV (by omega) (by omega))) ?_;refine rC<|aw ?_
     exact aI m [(64,some 64),(65,some 65)] (by omega) (by omega) (lg ⟨⟨_,rfl,AVLe.of_eq (by rw[show ((m+1:Nat):Int)-1-1=(m:Int)-1 by omega]; rfl)⟩,rfl,⟨_,rfl,AVLe.of_eq (by rw[hl]; rfl)⟩,rfl,zE,rfl,zE,rfl,zE,rfl,zE,rfl,zE,rfl,trivial⟩ ⟨zR,zR,trivial⟩)
    | true =>
     have hl:=leaf true (cnd true (by rw[h5,h6]; rfl))
     rw[h6]at hen2
     refine rP ?_;refine rQ iM ?_;refine rP ?_;refine rC ?_;refine rP ?_;refine rC ?_;refine rP ?_;refine rQ (aq hen2 rfl rfl (ak (ak (ak ai))) (.inl rfl) (fun _=>rfl)) ?_;refine rP ?_;refine rC ?_;refine rQ iU ?_;refine zO<|aj ?_;refine zD<|aw<|zC<|aj ?_;refine rC ?_;refine rQ (ce (m:=((m+1:Nat):Int)-1-1) aa rfl rfl (aV (by omega) (by omega))) ?_;refine rC<|aw ?_
     exact aI m [(64,some 64),(65,some 65)] (by omega) (by omega) (lg ⟨⟨_,rfl,AVLe.of_eq (by rw[show ((m+1:Nat):Int)-1-1=(m:Int)-1 by omega]; rfl)⟩,rfl,⟨_,rfl,AVLe.of_eq (by rw[hl]; rw[if_pos rfl]; show AV.int .i64 (((m+1:Nat):Int)-1)=AV.int .i64 (m:Int); congr 1; omega)⟩,rfl,zE,rfl,zE,rfl,zE,rfl,zE,rfl,zE,rfl,trivial⟩ ⟨zR,zR,trivial⟩)
theorem yy (x:List XE):FnIs Try.prog 17 [.d (nL x)] [] (.d (encH (hOf x))) []:=(yx x).freeze_out 64 _ rfl (Frz.own rfl) trivial
theorem wK (x:List XE):opsH (hOf x)=opsR (hOf x):=by
 rw[opsH,tT,if_pos rfl,qA (by rw[tT])]
theorem Cy {l:List Int}:DLe (kY l) (ff l):=fun w X cs h=>Enc.arx_arr (fun _ _ h=>h) cs h
theorem sU (x:List XE) (n:UInt8):FnIs Try.prog 6 [.d (nL x),.int .u8 (n.toNat:Nat)] [] (.bool true) []:=by
 refine aE aa Try.func6 rfl rfl rfl ?_
 by_cases h14:14<x.length
 ·have d0:decide ((14:Int)<(x.length:Int))=true:=dT (by omega)
  refine sR<|rN ?_;refine rC<|zW ?_;refine rC ?_;refine rQ iB ?_;refine rQ iE ?_;refine rC ?_;refine zI<|sR ?_;refine rQ (aq nj rfl rfl ai (.inl rfl) (fun _=>rfl)) ?_;refine rC<|zT<|bA ?_
  exact⟨trivial,[],lf⟩
 have d0:decide ((14:Int)<(x.length:Int))=false:=dF (by omega)
 have hm4:n.toNat % 4<4:=Nat.mod_lt _ (by decide)
 have hwc:IntKind.i64.wrap ((n.toNat % 4:Nat):Int)=((n.toNat % 4:Nat):Int):=aV (by omega) (by omega)
 have hwa:IntKind.i64.wrap (1+((n.toNat % 4:Nat):Int))=((1+n.toNat % 4:Nat):Int):=by rw[aV (by omega) (by omega)]; omega
 have hof:=yy x
 have H:=vj (x:=x) (by omega)
 have hh:=H.len
 have hol:=qC (hOf x)
 obtain⟨N,hN⟩:∃N,N=1+n.toNat % 4:=⟨_,rfl⟩
 rw[←hN]at hwa
 obtain⟨hR,hF,hE,hL⟩:=H.go (b:=N) (by omega) (by omega)
 have hfi:=pU hR
 have hle:=qQ hR
 have hel:aU (hOf x)≤17:=by have:=List.countP_le_length (p:=fun x:HEv=>decide (x.kind=3)) (l:=hOf x); unfold aU; omega
 have hEr:∀o∈opsR (hOf x),0≤o.era∧o.era≤1000000:=fun o ho=>by have:=wI _ o ho; omega
 have hMl:bigM (hOf x)≤1000:=by
  have:aU (hOf x)*((opsR (hOf x)).length+1)≤17*17:=Nat.mul_le_mul (by omega) (by omega)
  unfold bigM; omega
 obtain⟨ks,kv,F⟩:=fp (opsR (hOf x)) N (aU (hOf x))
 have S:=Sc.of F (by omega) (by omega) (by omega)
 have hrf:=wl (hOf x) S (qB (hOf x)) (x7 _ (by omega)) (by omega) (M:=bigM (hOf x)) (Nat.lt_succ_self _) (by omega)
 have hfl:=sJ (l:=opsR (hOf x)) (n:=N) (e:=aU (hOf x)) (M:=bigM (hOf x))
 have hacc:=sK (l:=opsR (hOf x)) (n:=N) (e:=aU (hOf x)) (M:=bigM (hOf x))
 rw[hF]at hfi hle
 generalize fL (opsR (hOf x)) N (aU (hOf x)) (bigM (hOf x))=R at hfi hle hrf hfl hacc
 obtain⟨o,c⟩:=R
 simp only at hfl hacc
 have heq:=kV o (by omega)
 have hac:=pm (hOf x) (N:Int) o (by omega) (by have:=eY (hOf x); omega) (by omega)
 rw[if_pos hE,wK,rR (by omega) hEr o]at hac
 generalize fH (N:Int) N (opsR (hOf x)) o=V at hac hacc
 generalize hOf x=h at hof hfi hle hrf hac
 cases c with
 | false =>
  refine sR<|rN ?_;refine rC<|zW ?_;refine rC ?_;refine rQ iB ?_;refine rQ iE ?_;refine rC ?_;refine zG<|kS<|sR ?_;refine rQ iM ?_;refine rQ (aq hof rfl rfl (ak ai) (.inl rfl) (fun _=>rfl)) ?_;refine rC ?_;refine rQ (cm (a:=n.toNat) (b:=4) aa rfl rfl rfl (by decide)) ?_;refine rQ (cM (m:=((n.toNat % 4:Nat):Int)) aa rfl rfl rfl hwc) ?_;refine rQ (dq (m:=(N:Int)) aa rfl rfl hwa) ?_;refine zD<|nR ?_;refine zD ?_;refine rQ (aq hrf rfl rfl (ak (ak ai)) (.inl rfl) (fun _=>rfl)) ?_;iterate 5 refine rC ?_
  refine nR<|zD ?_;refine rQ (aq hfi rfl rfl (ak (ak (ak ai))) (.inl rfl) (fun _=>rfl)) ?_;iterate 7 refine rC ?_
  refine nR<|zD ?_;refine rQ (aq hle rfl rfl (ak (ak (ak ai))) (.inl rfl) (fun _=>rfl)) ?_;iterate 5 refine rC ?_
  refine zW<|zU ?_;refine rP ?_;refine rC ?_;refine rP ?_;refine rC ?_;refine rQ iG ?_;refine rC ?_;refine rP ?_;refine rC ?_;refine rP ?_;refine rC ?_;refine rP ?_;refine rC ?_;refine rP ?_;refine rC ?_;refine rQ iG ?_;refine rC ?_;refine rP ?_;refine rC ?_;refine rP ?_;refine rC ?_;refine rP ?_;refine rC ?_;refine rQ iG ?_;refine rC ?_;refine rP ?_;refine rC ?_;refine rP ?_;refine rC ?_;refine rP ?_;refine rQ (aq heq rfl rfl (ak (ak ai)) (.inl rfl) (fun _=>rfl)) ?_;refine rP ?_;refine rC ?_;refine rQ iG ?_;refine zJ<|kS<|qR ?_;refine zD ?_
  iterate 5 refine rT ?_
  refine rQ iG ?_;refine zJ<|kS<|sR ?_;refine rQ (aq nj rfl rfl ai (.inl rfl) (fun _=>rfl)) ?_;refine rC<|nS<|dV ?_
  exact⟨trivial,[],lf⟩
 | true =>
  have hV:=hacc rfl
  rw[hV]at hac
  refine sR<|rN ?_;refine rC<|zW ?_;refine rC ?_;refine rQ iB ?_;refine rQ iE ?_;refine rC ?_;refine zG<|kS<|sR ?_;refine rQ iM ?_;refine rQ (aq hof rfl rfl (ak ai) (.inl rfl) (fun _=>rfl)) ?_;refine rC ?_;refine rQ (cm (a:=n.toNat) (b:=4) aa rfl rfl rfl (by decide)) ?_;refine rQ (cM (m:=((n.toNat % 4:Nat):Int)) aa rfl rfl rfl hwc) ?_;refine rQ (dq (m:=(N:Int)) aa rfl rfl hwa) ?_;refine zD<|nR ?_;refine zD ?_;refine rQ (aq hrf rfl rfl (ak (ak ai)) (.inl rfl) (fun _=>rfl)) ?_;iterate 5 refine rC ?_
  refine nR<|zD ?_;refine rQ (aq hfi rfl rfl (ak (ak (ak ai))) (.inl rfl) (fun _=>rfl)) ?_;iterate 7 refine rC ?_
  refine nR<|zD ?_;refine rQ (aq hle rfl rfl (ak (ak (ak ai))) (.inl rfl) (fun _=>rfl)) ?_;iterate 5 refine rC ?_
  refine zW<|zU ?_;refine rP ?_;refine rC ?_;refine rP ?_;refine rC ?_;refine rQ iG ?_;refine rC ?_;refine rP ?_;refine rC ?_;refine rP ?_;refine rC ?_;refine rP ?_;refine rC ?_;refine rP ?_;refine rC ?_;refine rQ iG ?_;refine rC ?_;refine rP ?_;refine rC ?_;refine rP ?_;refine rC ?_;refine rP ?_;refine rC ?_;refine rQ iG ?_;refine rC ?_;refine rP ?_;refine rC ?_;refine rP ?_;refine rC ?_;refine rP ?_;refine rQ (aq heq rfl rfl (ak (ak ai)) (.inl rfl) (fun _=>rfl)) ?_;refine rP ?_;refine rC ?_;refine rQ iG ?_;refine zJ<|kS<|qR ?_;refine zD ?_;refine rP ?_;refine rC ?_;refine rP ?_;refine rC ?_;refine rP ?_;refine rC ?_;refine rP ?_;refine rQ (aq hac rfl rfl (ak (ak (xO rfl trivial Cy ai))) (.inl rfl) (fun _=>rfl)) ?_;refine rP ?_;refine rC ?_;refine rQ iU ?_;refine zJ<|kS<|sR ?_;refine rQ (aq nj rfl rfl ai (.inl rfl) (fun _=>rfl)) ?_;refine rC<|zT ?_
  exact⟨trivial,[],lf⟩
end Go.Proofs.Ytkehohfgbblokaa
namespace Go.Proofs.Ytkehohfgbblokaa
open Go.Eng Go.Plain
set_option maxHeartbeats 32000000
set_option maxRecDepth 20000
theorem z4 {a:Int} (h:(Lit.int .u8 a).wf=true):0≤a∧a≤255:=by
 simp[Lit.wf,IntKind.min,IntKind.max,IntKind.bits,IntKind.signed]at h
 omega
def toB (l:List Int):List UInt8:=l.map fun z=>z.toNat.toUInt8
theorem mv {a:Int} (h:(Lit.int .u8 a).wf=true):((a.toNat.toUInt8.toNat:Nat):Int)=a:=by
 obtain⟨h1,h2⟩:=z4 h
 simp only[Nat.toUInt8_eq,UInt8.toNat_ofNat']
 omega
theorem yj:iY Try.prog 74 3 tY fun _=>True :=
 iY.map (kJ (P:=Try.prog) Try.underlying74 (by kernel_rfl) (fun _=>rfl) (gB rfl (by kernel_rfl) (jA (P:=Try.prog) Try.underlying5) (gB rfl (by kernel_rfl) (jA (P:=Try.prog) Try.underlying5) (gB rfl (by kernel_rfl) (jA (P:=Try.prog) Try.underlying5) nf))))
  (fun q=>⟨q.1.toNat.toUInt8,q.2.1.toNat.toUInt8,q.2.2.1.toNat.toUInt8⟩) (fun q h=>by simp only[tY,mv h.1,mv h.2.1,mv h.2.2.1]) (fun _ _=>trivial)
theorem wL:iY Try.prog 38 1 nL fun _=>True :=
 iY.map (kJ (P:=Try.prog) Try.underlying38 (by kernel_rfl) (fun _=>rfl) (gB rfl (by kernel_rfl)
  (qD (P:=Try.prog) Try.underlying36 (by kernel_rfl) yj) nf))
  (fun q=>q.1) (fun _ _=>rfl) (fun _ _=>trivial)
end Go.Proofs.Ytkehohfgbblokaa
