/- Texts of the proof: YZ1, YZ2, Eng112, YZ3, YZ4, YU1, YU2, Y45. -/
import Derived.Test.YtmdgmolbamlicaaG07
import Derived.Test.YtmdgmolbamlicaaG03
import Derived.Test.YtmdgmolbamlicaaG05
import Derived.Test.YtmdgmolbamlicaaG06

set_option linter.unusedVariables false
set_option linter.unusedSimpArgs false
set_option linter.unusedSectionVars false
set_option maxRecDepth 10000

namespace Go.Proofs.Ytmdgmolbamlicaa
open Go.Eng Go.Plain
set_option maxHeartbeats 32000000
set_option maxRecDepth 20000
structure Ch (l:List HOp) (n e:Nat):Prop where
 scl:ScL l e
 may:∀(j:Nat) (o:HOp),l[j]?=some o→mayB o n=true
 must:∀(j:Nat) (o:HOp),l[j]?=some o→bf o=true
 bef:∀(i j:Nat) (o q:HOp),i<j→l[i]?=some o→l[j]?=some q→befB o q=true
 nbef:∀(i j:Nat) (o q:HOp),i≤j→l[i]?=some o→l[j]?=some q→befB q o=false
structure ChI (l:List HOp) (n e:Nat) (k:Nat) (s:RS):Prop where
 kl:k≤l.length
 al:s.arr.length=n
 dl:s.dur.length=n
 e0:0≤s.era
 e1:s.era<e
 lo:∀(j:Nat) (o:HOp),j<k→l[j]?=some o→o.era≤s.era
 hi:∀(j:Nat) (o:HOp),k≤j→l[j]?=some o→s.era≤o.era
 tk:∀(j:Nat) (o:HOp),l[j]?=some o→(hasB s.taken (j:Int)=true↔j<k∧o.era=s.era)
section
variable {l : List HOp} {n e : Nat}
theorem ChI.first (he:0<e) (C:Ch l n e):ChI l n e 0 (am n):=
 ⟨Nat.zero_le _,List.length_replicate,List.length_replicate,Int.le_refl _,by show (0:Int)<e; omega,fun _ _ h=>by omega,fun j o _ ho=>(C.scl.er j o ho).1,fun j o _=>⟨fun h=>by simp[am,hasB]at h,fun h=>by omega⟩⟩
theorem ChI.take {k:Nat} {s:RS} (C:Ch l n e) (I:ChI l n e k s) {j:Nat} {o:HOp} (ho:l[j]?=some o):takB s l j o=true↔j=k∧o.era=s.era:=by
 constructor
 ·intro h
  obtain⟨h1,_,h3,h4⟩:=eR h
  refine⟨?_,h1⟩
  have hk:k≤j:=by
   by_cases hk:k≤j
   ·exact hk
   ·rw[(I.tk j o ho).2 ⟨by omega,h1⟩]at h3; cases h3
  by_cases hj:j=k
  ·exact hj
  ·exfalso
   have hlt:=(List.getElem?_eq_some_iff.1 ho).1
   obtain⟨q,hq⟩:∃q,l[k]?=some q:=⟨_,List.getElem?_eq_getElem (by omega)⟩
   have e1:=I.hi k q (Nat.le_refl _) hq
   have e2:=C.scl.mono k j q o hk hq ho
   have hn:hasB s.taken (k:Int)=false:=by
    cases ht:hasB s.taken (k:Int) with
    | false=>rfl
    | true=>have:=((I.tk k q hq).1 ht).1; omega
   have:hitL s o l 0=true:=(eU l 0).2 ⟨k,q,hq,by
    rw[Nat.zero_add,hitB,if_neg (by show ¬hasB s.taken (k:Int)=true; rw[hn]; decide),dT (by omega),C.must k q hq,C.bef k j q o (by omega) hq ho]; rfl⟩
   rw[this]at h4; cases h4
 ·rintro⟨rfl,h1⟩
  have hn:hasB s.taken (j:Int)=false:=by
   cases ht:hasB s.taken (j:Int) with
   | false=>rfl
   | true=>have:=((I.tk j o ho).1 ht).1; omega
  have hh:hitL s o l 0=false:=by
   cases hh:hitL s o l 0 with
   | false=>rfl
   | true =>
    obtain⟨m,q,hq,hb⟩:=(eU l 0).1 hh
    rw[Nat.zero_add,hitB]at hb
    by_cases ht:hasB s.taken (m:Int)=true
    ·rw[if_pos ht,C.nbef m j q o (by have:=((I.tk m q hq).1 ht).1; omega) hq ho]at hb; cases hb
    ·rw[if_neg ht]at hb
     simp only[Bool.and_eq_true,decide_eq_true_eq]at hb
     have hm:j≤m:=by
      by_cases hm:j≤m
      ·exact hm
      ·exact absurd ((I.tk m q hq).2 ⟨by omega,hb.1⟩) ht
     rw[C.nbef j m o q hm ho hq]at hb
     cases hb.2.2
  unfold takB
  rw[dT h1,I.al,C.may j o ho,hh]
  show (true&&(true&&(!hasB s.taken (j:Int) && !false)))=true
  rw[hn]; rfl
theorem ChI.full {k:Nat} {s:RS} (C:Ch l n e) (I:ChI l n e k s):bp s l 0=true ↔ ∀(o:HOp),l[k]?=some o→s.era<o.era:=by
 rw[pu]
 constructor
 ·intro h o ho
  have h1:=I.hi k o (Nat.le_refl _) ho
  by_cases he:o.era=s.era
  ·have:=h k o ho he (C.must k o ho)
   rw[Nat.zero_add]at this
   have:=((I.tk k o ho).1 this).1
   omega
  ·omega
 ·intro h j q hq he _
  rw[Nat.zero_add]
  refine (I.tk j q hq).2 ⟨?_,he⟩
  by_cases hj:j<k
  ·exact hj
  ·have hlt:=(List.getElem?_eq_some_iff.1 hq).1
   obtain⟨o,ho⟩:∃o,l[k]?=some o:=⟨_,List.getElem?_eq_getElem (by omega)⟩
   have:=h o ho
   have:=C.scl.mono k j o q (by omega) ho hq
   omega
theorem iH (s:RS) (o:HOp):(hapR s o).1.arr.length=s.arr.length∧((hapR s o).1.dur.length=s.dur.length∨(hapR s o).1.dur.length=s.arr.length)∧(hapR s o).1.era=s.era:=by
 unfold hapR
 split
 ·exact⟨rfl,.inl rfl,rfl⟩
 ·split
  ·exact⟨List.length_set,.inl rfl,rfl⟩
  ·exact⟨rfl,.inr rfl,rfl⟩
theorem ChI.step {k:Nat} {s:RS} (C:Ch l n e) (I:ChI l n e k s) {x:Int×RS} (hx:x∈b9 l e s) :
  (∃o,l[k]?=some o∧o.era=s.era∧(hapR s o).2=true∧x=((k:Int), { (hapR s o).1 with taken:=cf s.taken k })∧ChI l n e (k+1) x.2)∨((∀o,l[k]?=some o→s.era<o.era)∧s.era<e-1∧x=(-1,aI s)∧ChI l n e k x.2):=by
 rcases bd.1 hx with ⟨j,o,ho,ht,rfl⟩ | ⟨h1,h2,rfl⟩
 ·have hb:=bW ht
  obtain⟨rfl,he⟩:=(I.take C ho).1 hb
  have htk:aL s l j o=({ (hapR s o).1 with taken:=cf s.taken j },(hapR s o).2):=by rw[aL,if_pos hb]
  rw[htk]at ht ⊢
  obtain⟨a1,a2,a3⟩:=iH s o
  have hlt:=(List.getElem?_eq_some_iff.1 ho).1
  refine .inl ⟨o,ho,he,ht,rfl,⟨by omega,a1.trans I.al,?_,?_,?_,fun i q hi hq=>?_,fun i q hi hq=>?_,fun i q hq=>?_⟩⟩
  ·show (hapR s o).1.dur.length=n
   have:=I.al; have:=I.dl
   rcases a2 with h | h <;> omega
  ·show 0≤(hapR s o).1.era
   rw[a3]; exact I.e0
  ·show (hapR s o).1.era<e
   rw[a3]; exact I.e1
  ·show q.era≤(hapR s o).1.era
   rw[a3]
   by_cases h:i<j
   ·exact I.lo i q h hq
   ·have:i=j:=by omega
    subst this
    rw[ho]at hq; cases hq; omega
  ·show (hapR s o).1.era≤q.era
   rw[a3]; exact I.hi i q (by omega) hq
  ·show hasB (cf s.taken j) (i:Int)=true↔i<j+1∧q.era=(hapR s o).1.era
   rw[cM,a3,Bool.or_eq_true,I.tk i q hq,decide_eq_true_eq]
   constructor
   ·rintro (⟨h1,h2⟩ | h)
    ·exact⟨by omega,h2⟩
    ·have:i=j:=by omega
     subst this
     rw[ho]at hq; cases hq
     exact⟨by omega,he⟩
   ·rintro⟨h1,h2⟩
    by_cases h:i<j
    ·exact .inl ⟨h,h2⟩
    ·exact .inr (by omega)
 ·have hf:=(I.full C).1 h2
  refine .inr ⟨hf,h1,rfl,⟨I.kl,I.dl,I.dl,?_,?_,fun i q hi hq=>?_,fun i q hi hq=>?_,fun i q hq=>?_⟩⟩
  ·show 0≤s.era+1
   have:=I.e0; omega
  ·show s.era+1<e
   omega
  ·show q.era≤s.era+1
   have:=I.lo i q hi hq; omega
  ·show s.era+1≤q.era
   have hlt:=(List.getElem?_eq_some_iff.1 hq).1
   obtain⟨o,ho⟩:∃o,l[k]?=some o:=⟨_,List.getElem?_eq_getElem (by omega)⟩
   have:=hf o ho
   have:=C.scl.mono k i o q hi ho hq
   omega
  ·constructor
   ·intro h; simp[aI,hasB]at h
   ·rintro⟨h1,h2⟩
    have:=I.lo i q h1 hq
    have h2:q.era=s.era+1:=h2
    omega
theorem ChI.uniq {k:Nat} {s:RS} (C:Ch l n e) (I:ChI l n e k s) {x y:Int×RS} (hx:x∈b9 l e s) (hy:y∈b9 l e s):x=y:=by
 rcases I.step C hx with ⟨o,h1,h2,_,h4,_⟩ | ⟨h1,_,h3,_⟩ <;> rcases I.step C hy with ⟨q,g1,g2,_,g4,_⟩ | ⟨g1,_,g3,_⟩
 ·rw[h1]at g1; cases g1; rw[h4,g4]
 ·have:=g1 o h1; omega
 ·have:=h1 q g1; omega
 ·rw[h3,g3]
def chP (l:List HOp) (n e:Nat):Nat→RS
 | 0=>am n
 | m+1=>match b9 l e (chP l n e m) with
  | []=>chP l n e m
  | x::_=>x.2
theorem ke.path (he:0<e) (C:Ch l n e) {s:RS} (h:ke l n e s):∃k,ChI l n e k s∧s=chP l n e (k+s.era.toNat):=by
 induction h with
 | first=>exact⟨0,.first he C,rfl⟩
 | step x hr hx ih =>
  rename_i s
  obtain⟨k,I,hs⟩:=ih
  have key:x.2=chP l n e (k+s.era.toNat+1):=by
   rw[chP,←hs]
   cases hl:b9 l e s with
   | nil=>rw[hl]at hx; cases hx
   | cons y ys=>rw[I.uniq C hx (hl ▸ List.mem_cons_self:y∈b9 l e s)]
  rcases I.step C hx with ⟨o,_,_,_,h4,h5⟩ | ⟨_,_,h3,h5⟩
  ·refine⟨k+1,h5,?_⟩
   have:x.2.era=s.era:=by rw[h4]; exact (iH s o).2.2
   rw[this,show k+1+s.era.toNat=k+s.era.toNat+1 by omega]; exact key
  ·refine⟨k,h5,?_⟩
   have:x.2.era=s.era+1:=by rw[h3]; rfl
   have:=I.e0
   rw[‹x.2.era=s.era+1›, show k+(s.era+1).toNat=k+s.era.toNat+1 by omega]; exact key
theorem Sc.chain {p:Prep} {ks:List Int} {kv:List (List UInt8)} (S:Sc l n e p ks kv) (he:0<e) (C:Ch l n e) {k:Nat} {q:QS} {sp:List (List aF)} (I:SI l n e p ks kv k q sp):q.2.length≤l.length+e:=by
 have h1:q.2.length≤(((List.range (l.length+e)).map (chP l n e)).map (encS p ks)).length:=by
  refine o5 _ _ ?_ fun x hx=>?_
  ·refine List.pairwise_iff_getElem.2 fun i j hi hj hij hne=>?_
   have a:=I.ok.uq i _ (List.getElem?_eq_getElem hi)
   have b:=I.ok.uq j _ (List.getElem?_eq_getElem hj)
   rw[hne,b]at a
   have:=Option.some.inj a
   omega
  ·obtain⟨s,hs,hR,rfl⟩:=I.al x hx
   obtain⟨k,J,hp⟩:=hR.path he C
   refine List.mem_map.2 ⟨s,List.mem_map.2 ⟨k+s.era.toNat,List.mem_range.2 ?_,hp.symm⟩,rfl⟩
   have:=J.kl; have:=J.e0; have:=J.e1
   omega
 simpa using h1
def fitF:List HOp→RS→Bool
 | [],_=>true
 | o::r,s=>(hapR (aP o.era s) o).2&&fitF r (hapR (aP o.era s) o).1
theorem n9:∀(r:List HOp) (s t:RS),s.era=t.era→s.arr=t.arr→s.dur=t.dur→fitF r s=fitF r t
 | [],_,_,_,_,_=>rfl
 | o::r,s,t,h1,h2,h3=>by
  have hc:(aP o.era s).era=(aP o.era t).era∧(aP o.era s).arr=(aP o.era t).arr∧(aP o.era s).dur=(aP o.era t).dur:=by
   unfold aP
   rw[h1]
   split
   ·exact⟨rfl,h3,h3⟩
   ·exact⟨h1,h2,h3⟩
  obtain⟨c1,c2,c3⟩:=hc
  have hh:∀a b:RS,a.era=b.era→a.arr=b.arr→a.dur=b.dur→(hapR a o).2=(hapR b o).2∧(hapR a o).1.era=(hapR b o).1.era∧(hapR a o).1.arr=(hapR b o).1.arr∧(hapR a o).1.dur=(hapR b o).1.dur:=fun a b e1 e2 e3=>by
   unfold hapR
   rw[e2]
   split
   ·exact⟨rfl,e1,e2,e3⟩
   ·split
    ·exact⟨rfl,e1,rfl,e3⟩
    ·exact⟨rfl,e1,rfl,rfl⟩
  obtain⟨d1,d2,d3,d4⟩:=hh _ _ c1 c2 c3
  rw[fitF,fitF,d1,n9 r _ _ d2 d3 d4]
theorem py {r:List HOp} {s:RS} (h:∀o,r[0]?=some o→s.era<o.era):fitF r (aI s)=fitF r s:=by
 cases r with
 | nil=>rfl
 | cons o r =>
  have h:=h o rfl
  have:aP o.era (aI s)=aP o.era s:=by
   unfold aP aI
   rw[if_pos h]
   simp only
   split
   ·rfl
   ·rw[show s.era+1=o.era by omega]
  rw[fitF,fitF,this]
theorem ChI.endT (C:Ch l n e):∀(N k:Nat) (s:RS),ChI l n e k s→l.length-k+(e-s.era.toNat)<N→(EndT l e s↔fitF (l.drop k) s=true)
 | 0,_,_,_,h=>by omega
 | N+1,k,s,I,hN=>by
  have e0:=I.e0
  have e1:=I.e1
  cases ho:l[k]? with
  | none =>
   have hk:=List.getElem?_eq_none_iff.1 ho
   rw[List.drop_eq_nil_of_le hk]
   have hf:bp s l 0=true:=(I.full C).2 fun o h=>by rw[ho]at h; cases h
   refine⟨fun _=>rfl,fun _=>?_⟩
   by_cases he:s.era=(e:Int)-1
   ·exact .fin hf he
   ·have hx:((-1:Int),aI s)∈b9 l e s:=bd.2 (.inr ⟨by omega,hf,rfl⟩)
    rcases I.step C hx with ⟨o,h1,_⟩ | ⟨_,h2,_,h4⟩
    ·rw[ho]at h1; cases h1
    ·refine .step _ hx ((ChI.endT C N k (aI s) h4 (by simp only[aI]; omega)).2 ?_)
     rw[List.drop_eq_nil_of_le hk]; rfl
  | some o =>
   have hlt:=(List.getElem?_eq_some_iff.1 ho).1
   have hd:l.drop k=o::l.drop (k+1):=by rw[List.drop_eq_getElem_cons hlt,(List.getElem?_eq_some_iff.1 ho).2]
   have hge:=I.hi k o (Nat.le_refl _) ho
   by_cases he:o.era=s.era
   ·have hct:aP o.era s=s:=by rw[he,fy]
    have hnf:bp s l 0=false:=by
     cases hf:bp s l 0 with
     | false=>rfl
     | true=>have:=(I.full C).1 hf o ho; omega
    rw[hd,fitF,hct,Bool.and_eq_true]
    constructor
    ·intro hE
     rcases hE.inv with ⟨h1,_⟩ | ⟨x,hx,h2⟩
     ·rw[hnf]at h1; cases h1
     ·rcases I.step C hx with ⟨q,g1,_,g3,g4,g5⟩ | ⟨g1,_⟩
      ·rw[ho]at g1; cases g1
       have hxe:x.2.era=s.era:=by rw[g4]; exact (iH s o).2.2
       have:=(ChI.endT C N (k+1) x.2 g5 (by rw[hxe]; omega)).1 h2
       refine⟨g3,?_⟩
       rw[←this,g4]
       exact n9 _ _ _ rfl rfl rfl
      ·have:=g1 o ho; omega
    ·rintro⟨h1,h2⟩
     have hb:=(I.take C ho).2 ⟨rfl,he⟩
     have htk:aL s l k o=({ (hapR s o).1 with taken:=cf s.taken k },(hapR s o).2):=by rw[aL,if_pos hb]
     have hx:((k:Int),(aL s l k o).1)∈b9 l e s:=bd.2 (.inl ⟨k,o,ho,by rw[htk]; exact h1,rfl⟩)
     rcases I.step C hx with ⟨q,g1,_,g3,g4,g5⟩ | ⟨g1,_⟩
     ·rw[ho]at g1; cases g1
      have hxe:((k:Int),(aL s l k o).1).2.era=s.era:=by rw[g4]; exact (iH s o).2.2
      refine .step _ hx ((ChI.endT C N (k+1) _ g5 (by rw[hxe]; omega)).2 ?_)
      rw[←h2,g4]
      exact n9 _ _ _ rfl rfl rfl
     ·have:=g1 o ho; omega
   ·have hlt2:s.era<o.era:=by omega
    have hf:bp s l 0=true:=(I.full C).2 fun q hq=>by rw[ho]at hq; cases hq; exact hlt2
    have hoe:=(C.scl.er k o ho).2
    have hx:((-1:Int),aI s)∈b9 l e s:=bd.2 (.inr ⟨by omega,hf,rfl⟩)
    rcases I.step C hx with ⟨q,h1,h2,_⟩ | ⟨_,h2,_,h4⟩
    ·rw[ho]at h1; cases h1; omega
    have ih:=ChI.endT C N k (aI s) h4 (by simp only[aI]; omega)
    rw[py (fun q hq=>by
     rw[hd]at hq; cases hq; exact hlt2)]at ih
    rw[←ih]
    constructor
    ·intro hE
     rcases hE.inv with ⟨_,h1⟩ | ⟨y,hy,h1⟩
     ·omega
     ·rw[I.uniq C hy hx]at h1; exact h1
    ·exact fun h=>.step _ hx h
theorem Ch.endT (he:0<e) (C:Ch l n e):EndT l e (am n)↔fitF l (am n)=true:=by
 have:=ChI.endT C _ 0 (am n) (.first he C) (Nat.lt_succ_self _)
 rwa [List.drop_zero]at this
end
theorem wR:∀(L:List Int) (a b:Nat),L.Pairwise (· < ·)→(∀x:Int,x∈L↔(a:Int)≤x∧x<b)→L=zs (List.range' a (b-a))
 | [],a,b,_,h=>by
  have:b-a=0:=by
   by_cases hb:a<b
   ·have:=(h a).2 ⟨Int.le_refl _,by omega⟩; cases this
   ·omega
  rw[this]; rfl
 | x::L,a,b,hp,h=>by
  obtain⟨h1,h2⟩:=List.pairwise_cons.1 hp
  obtain⟨x1,x2⟩:=(h x).1 List.mem_cons_self
  have hab:a<b:=by omega
  have hxa:x=a:=by
   rcases List.mem_cons.1 ((h a).2 ⟨Int.le_refl _,by omega⟩)with h3 | h3
   ·exact h3.symm
   ·have:=h1 _ h3; omega
  obtain⟨d,hd⟩:∃d,b-a=d+1:=⟨b-a-1,by omega⟩
  rw[hd,List.range'_succ,zs,List.map_cons,hxa]
  congr 1
  have:=wR L (a+1) b h2 fun y=>by
   constructor
   ·intro hy
    have:=h1 y hy
    have:=(h y).1 (List.mem_cons_of_mem _ hy)
    omega
   ·rintro⟨y1,y2⟩
    rcases List.mem_cons.1 ((h y).2 ⟨by omega,y2⟩)with h3 | h3
    ·omega
    ·exact h3
  rw[this,zs,show b-(a+1)=d by omega]
theorem sQ {l:List HOp} {n e:Nat} (C:Ch l n e) {b:Int}:∀(os pre:List Int) (s:RS),dS b l os pre s=0→pre.Pairwise (· < ·)→(∀x∈pre,0≤x∧x<l.length)→(pre++os).Pairwise (· < ·)∧∀x∈pre++os,0≤x∧x<l.length
 | [],pre,s,_,h1,h2=>by rw[List.append_nil]; exact⟨h1,h2⟩
 | i::os,pre,s,h,h1,h2=>by
  rw[dS]at h
  by_cases hi:i<0
  ·rw[if_pos hi]at h; cases h
  ·rw[if_neg hi]at h
   cases ho:l[i.toNat]? with
   | none=>rw[ho]at h; cases h
   | some o =>
    rw[ho]at h
    simp only at h
    have hlt:=(List.getElem?_eq_some_iff.1 ho).1
    by_cases c1:pre.any (fun y=>decide (y=i))=true
    ·rw[if_pos c1]at h; cases h
    rw[if_neg c1]at h
    by_cases c2:mayB o b=false
    ·rw[if_pos c2]at h; cases h
    rw[if_neg c2]at h
    by_cases c3:pre.any (befA l o)=true
    ·rw[if_pos c3]at h; cases h
    rw[if_neg c3]at h
    by_cases c4:(hapR (aP o.era s) o).2=false
    ·rw[if_pos c4]at h; cases h
    rw[if_neg c4]at h
    have hlast:∀x∈pre,x<i:=fun x hx=>by
     obtain⟨x0,x1⟩:=h2 x hx
     by_cases hxi:x<i
     ·exact hxi
     ·exfalso
      by_cases hxe:x=i
      ·exact c1 (List.any_eq_true.2 ⟨x,hx,dT hxe⟩)
      ·obtain⟨q,hq⟩:∃q,l[x.toNat]?=some q:=⟨_,List.getElem?_eq_getElem (by omega)⟩
       exact c3 (List.any_eq_true.2 ⟨x,hx,by rw[befA,hq]; exact C.bef i.toNat x.toNat o q (by omega) ho hq⟩)
    have:=sQ C os (pre++[i]) _ h (List.pairwise_append.2 ⟨h1,List.pairwise_singleton _ _,fun x hx y hy=>by rw[List.mem_singleton.1 hy]; exact hlast x hx⟩) fun x hx=>by
     rcases List.mem_append.1 hx with hx | hx
     ·exact h2 x hx
     ·rw[List.mem_singleton.1 hx]; omega
    rwa [List.append_assoc]at this
theorem sJ {ord:List Int}:∀(l:List HOp) (k:Nat),eI ord l k=false→∀(j:Nat) (o:HOp),l[j]?=some o→bf o=true→((k+j:Nat):Int)∈ord
 | [],_,_,j,o,h,_=>by simp at h
 | a::l,k,h,j,o,ho,hm=>by
  rw[eI,Bool.or_eq_false_iff]at h
  cases j with
  | zero =>
   simp at ho; subst ho
   have h1:=h.1
   rw[hm,Bool.true_and,Bool.not_eq_false']at h1
   obtain⟨y,hy,he⟩:=List.any_eq_true.1 h1
   rw[Nat.add_zero,←of_decide_eq_true he]; exact hy
  | succ j =>
   have:=sJ l (k+1) h.2 j o (by simpa using ho) hm
   rwa [show k+1+j=k+(j+1) by omega]at this
theorem Ch.order {l:List HOp} {n e M:Nat} (C:Ch l n e) (h:(cI l n e M).2=true):(cI l n e M).1=zs (List.range l.length):=by
 have ha:=oQ h
 unfold fp at ha
 have h0:dS n l (cI l n e M).1 [] (am n)=0:=by
  by_cases hc:dS n l (cI l n e M).1 [] (am n)=0
  ·exact hc
  ·rw[if_neg hc]at ha; exact ha
 rw[if_pos h0]at ha
 have hm:eI (cI l n e M).1 l 0=false:=by
  cases hm:eI (cI l n e M).1 l 0 with
  | false=>rfl
  | true=>rw[if_pos hm]at ha; cases ha
 obtain⟨g1,g2⟩:=sQ C _ [] _ h0 .nil (fun _ h=>by cases h)
 rw[List.nil_append]at g1 g2
 have:=wR (cI l n e M).1 0 l.length g1 fun x=>⟨fun hx=>by have:=g2 x hx; omega,fun⟨x0,x1⟩=>by
  obtain⟨o,ho⟩:∃o,l[x.toNat]?=some o:=⟨_,List.getElem?_eq_getElem (by omega)⟩
  have:=sJ l 0 hm x.toNat o ho (C.must _ o ho)
  rwa [show ((0+x.toNat:Nat):Int)=x by omega]at this⟩
 rw[this,Nat.sub_zero,List.range_eq_range']
theorem Ch.go {h:List HEv} {b:Nat} {fuel:Int} (hA:bT h) (hl:h.length≤8192) (C:Ch (opsR h) b (ao h)) (h0:1≤b) (h1:b≤4096) (hf:((opsR h).length+ao h:Nat)≤fuel) (hf2:fuel≤1000) :
  fz h b fuel∧(∃c:Int,0≤c∧c≤((opsR h).length+ao h:Nat)∧cv h b fuel=(c,0))∧(bO h b fuel).2=0∧opE h b=0∧((bO h b fuel).1.2=true↔fitF (opsR h) (am b)=true)∧((bO h b fuel).1.2=true→(bO h b fuel).1.1=zs (List.range (opsR h).length)):=by
 have hchk:chkH h=(0,0):=ob hA (by omega)
 have hE:opE h b=0:=by rw[opE,hchk,if_pos rfl,if_neg (by omega)]
 have hL:lH h b=opsR h:=by rw[lH,opL,if_pos hE,opsH,hchk,if_pos rfl,jV (by rw[hchk])]
 have hol:(opsR h).length≤h.length:=ft h
 have hel:ao h≤h.length+1:=by have:=List.countP_le_length (p:=fun x:HEv=>decide (x.kind=3)) (l:=h); unfold ao; omega
 obtain⟨ks,kv,F⟩:=dP (opsR h) b (ao h)
 have S:=Sc.of F (by omega) (by omega) (by omega)
 have he:=dG h
 have hcount:∀k q sp,SI (opsR h) b (ao h) (cn (opsR h) b (ao h)) ks kv k q sp→q.2.length≤(opsR h).length+ao h:=fun k q sp I=>S.chain he C I
 have hp:pH h b=cn (opsR h) b (ao h):=by rw[pH,hL]
 have hR:fz h b fuel:=fE h b fuel hl (.inl (by omega)) fun _=>by
  have:fuel.toNat*(h.length+1)≤1000*8193:=Nat.mul_le_mul (by omega) (by omega)
  omega
 obtain⟨⟨q,sp⟩,hr⟩:=S.enough (fuel:=fuel) hf hcount (fuel.toNat+2) 0 _ [] (S.si0 he) (Nat.le_refl _)
 have hr:kR (cn (opsR h) b (ao h)) (opsR h) (ao h) fuel=some (q,sp):=hr
 have I:=S.si he hr
 have P:=F.ok (by omega:(opsR h).length≤8192)
 obtain⟨I2,_⟩:=gn P he hr
 have hsame:=mS S (jW h) he I I2.spOk (μ:=muS (cn (opsR h) b (ao h)) (ao h) q.2) (N:=ao h+sumM (opsR h) b (ao h)+1) (fun i ys hys y hy=>I2.dn i ys hys y hy) (by rw[mu0 F I2 he]; exact Nat.lt_succ_self _) (Nat.lt_succ_self (ao h*((opsR h).length+1)))
 have hleg:(cI (opsR h) b (ao h) (bigM h)).2=true↔EndT (opsR h) (ao h) (am b):=by
  rw[bigM,←hsame,←S.good I I2.spOk (muR (opsR h) (ao h) (am b)+1) 0 _ (S.first he) (Nat.lt_succ_self _) I.fst]
  unfold ji
  by_cases hg:(dV (cn (opsR h) b (ao h)) (opsR h) (ao h) q.2 sp)[0]?=some true
  ·rw[if_pos hg]; exact⟨fun _=>hg,fun _=>rfl⟩
  ·rw[if_neg hg]; exact⟨fun h=>(by cases h),fun h=>absurd h hg⟩
 have hfi:bO h b fuel=(cI (opsR h) b (ao h) (bigM h),0):=by
  unfold bO gg
  rw[if_pos hE,if_neg (by omega),hp,hL,hr]
  simp only
  rw[hsame]
  rfl
 have hst:cv h b fuel=((q.2.length:Int),0):=by
  unfold cv gg
  rw[if_pos hE,if_neg (by omega),hp,hL,hr]
 rw[hfi]
 exact⟨hR,⟨_,by omega,by have:=hcount _ _ _ I; omega,hst⟩,rfl,hE,hleg.trans (C.endT he),fun h=>C.order h⟩
end Go.Proofs.Ytmdgmolbamlicaa
namespace Go.Proofs.Ytmdgmolbamlicaa
open Go.Eng Go.Plain
set_option maxHeartbeats 32000000
set_option maxRecDepth 20000
abbrev blkS (d:UInt8):List UInt8:=List.replicate 32 (blkB d)
def srK (x:XE):Nat:=1+x.what.toNat % 3
def srAt (x:XE):Nat:=x.data.toNat/4 % 3
def srOp (x:XE):POp:=⟨srK x,if srK x=3 then 0 else (srAt x:Int),if srK x=2 then blkS x.data else[]⟩
abbrev srC (x:XE):Int:=((x.who.toNat % 8:Nat):Int)
abbrev srH (x:XE):HOp:=⟨0,0,0,srOp x,0,0,zBk,0⟩
abbrev crE:HEv:=⟨3,0,zOp,zBk,0⟩
def srS (x:XE) (s:RS):RS:=if 200<x.who.toNat then aI s else (hapR s (srH x)).1
section
variable (V : Nat → List UInt8 → List UInt8)
def srV (x:XE) (s:RS) (i:Nat):List UInt8:=if srK x=1 then V (i+1) (pgAt s.arr (srAt x)) else zBk
def srEv (x:XE) (s:RS) (i:Nat):List HEv:=if 200<x.who.toNat then[crE] else[⟨1,srC x,srOp x,zBk,0⟩,⟨2,srC x,zOp,srV V x s i,0⟩]
def srW (x:XE):Nat:=if 200<x.who.toNat then 1 else 2
def srE:List XE→RS→Nat→List HEv
 | [],_,_=>[]
 | x::r,s,i=>srEv V x s i++srE r (srS x s) (i+srW x)
def srO:List XE→RS→Nat→Int→List HOp
 | [],_,_,_=>[]
 | x::r,s,i,e=>if 200<x.who.toNat then srO r (srS x s) (i+srW x) (e+1) else⟨srC x,0,e,srOp x,i,((i+1:Nat):Int),srV V x s i,0⟩::srO r (srS x s) (i+srW x) e
end
def srL:List XE→Nat→Int→Int
 | [],_,a=>a
 | x::r,i,a=>srL r (i+srW x) (if 200<x.who.toNat then a else if srK x=1 then ((i+1:Nat):Int) else a)
def srR:List XE→RS→Nat→List (Nat×List UInt8)
 | [],_,_=>[]
 | x::r,s,i=>(if 200<x.who.toNat then[] else if srK x=1 then[(i+1,pgAt s.arr (srAt x))] else[])++srR r (srS x s) (i+srW x)
def srN (l:List XE):Nat:=l.countP fun x=>decide (200<x.who.toNat)
section
variable {V : Nat → List UInt8 → List UInt8}
theorem n3:∀(l:List XE) (s:RS) (i:Nat) (e:Int),opsT (srE V l s i) i e=srO V l s i e
 | [],_,_,_=>rfl
 | x::r,s,i,e=>by
  by_cases hw:200<x.who.toNat
  ·rw[srE,srO,srEv,if_pos hw,if_pos hw,List.singleton_append,opsT,if_pos rfl,show srW x=1 by rw[srW,if_pos hw]]
   exact n3 r _ _ _
  ·rw[srE,srO,srEv,if_neg hw,if_neg hw,show srW x=2 by rw[srW,if_neg hw]]
   show opsT (⟨1,srC x,srOp x,zBk,0⟩::⟨2,srC x,zOp,srV V x s i,0⟩::srE V r (srS x s) (i+2)) i e=_
   rw[opsT,if_neg (show ¬(1:Int)=3 by decide),if_pos rfl,aW,if_neg (show ¬(2:Int)=3 by decide),if_pos rfl,opsT,if_neg (show ¬(2:Int)=3 by decide),if_neg (show ¬(2:Int)=1 by decide)]
   congr 1
   exact n3 r _ (i+2) e
theorem uz:∀(l:List XE) (s:RS) (i:Nat),(srE V l s i).countP (fun x=>decide (x.kind=3))=srN l
 | [],_,_=>rfl
 | x::r,s,i=>by
  rw[srE,List.countP_append,uz r,srN,srN,List.countP_cons,srEv]
  by_cases hw:200<x.who.toNat
  ·rw[if_pos hw,if_pos (dT hw)]
   show 1+_=_
   omega
  ·rw[if_neg hw,if_neg (by simpa using hw)]
   show 0+_=_
   omega
theorem rj:∀(l:List XE) (s:RS) (i:Nat),(srE V l s i).length≤2*l.length
 | [],_,_=>Nat.zero_le _
 | x::r,s,i=>by
  rw[srE,List.length_append,List.length_cons]
  have:=rj r (srS x s) (i+srW x)
  have:(srEv V x s i).length≤2:=by unfold srEv; split <;> simp
  omega
theorem nP:∀(l:List XE) (s:RS) (i:Nat) (e:Int),(srO V l s i e).length+srN l=l.length
 | [],_,_,_=>rfl
 | x::r,s,i,e=>by
  rw[srO,srN,List.countP_cons]
  by_cases hw:200<x.who.toNat
  ·have:=nP r (srS x s) (i+srW x) (e+1)
   rw[if_pos hw,if_pos (dT hw),List.length_cons]
   unfold srN at this; omega
  ·have:=nP r (srS x s) (i+srW x) e
   rw[if_neg hw,if_neg (by simpa using hw),List.length_cons,List.length_cons]
   unfold srN at this; omega
theorem uy (x:XE):srK x=1∨srK x=2∨srK x=3:=by unfold srK; omega
theorem xj (x:XE):(srOp x).data.length≤64:=by
 unfold srOp
 simp only
 split <;> simp
theorem nW:∀(l:List XE) (s:RS) (i:Nat) (p:List HEv),bT p→(∀c,pend p c = -1)→bT (p++srE V l s i)
 | [],_,_,p,h,_=>by rw[srE,List.append_nil]; exact h
 | x::r,s,i,p,h,hp=>by
  rw[srE,←List.append_assoc]
  by_cases hw:200<x.who.toNat
  ·rw[srEv,if_pos hw]
   refine nW r _ _ _ (h.snoc ?_) fun c=>?_
   ·rfl
   ·rw[cL,eo,if_pos rfl]
  ·rw[srEv,if_neg hw,show p++[(⟨1,srC x,srOp x,zBk,0⟩:HEv),⟨2,srC x,zOp,srV V x s i,0⟩]=(p++[⟨1,srC x,srOp x,zBk,0⟩])++[⟨2,srC x,zOp,srV V x s i,0⟩] by simp]
   have hc:(0:Int)≤srC x∧srC x≤7:=by unfold srC; omega
   have h1:bT (p++[⟨1,srC x,srOp x,zBk,0⟩]):=h.snoc (by
    rw[fitB,if_pos rfl,fit1]
    simp only
    rw[hp,dT hc.1,dT hc.2,dT (xj x)]; rfl)
   have hpe:pend (p++[⟨1,srC x,srOp x,zBk,0⟩]) (srC x)=p.length:=by
    rw[cL,eo]
    simp only
    rw[if_neg (by decide),if_pos trivial,if_pos trivial]
   refine nW r _ _ _ (h1.snoc ?_) fun c=>?_
   ·rw[fitB,if_neg (show ¬(2:Int)=1 by decide),if_pos rfl,fit2]
    simp only
    rw[hpe,dT hc.1,dT hc.2,dF (by omega),Int.toNat_natCast,List.getElem?_append_right (Nat.le_refl _),Nat.sub_self]
    show (true&&true && !false&&true&&true&&((decide ((srOp x).kind=1)&&true)||decide (srV V x s i=zBk)))=true
    unfold srV srOp
    simp only
    by_cases hk:srK x=1
    ·rw[dT (by omega)]; rfl
    ·rw[if_neg hk,dT (rfl:zBk=zBk),Bool.or_true]; rfl
   ·rw[cL,eo,cL,eo,hp]
    by_cases h:srC x=c <;> simp[h]
structure SrO (i:Nat) (e:Int) (o:HOp):Prop where
 inv:(i:Int)≤o.invoked
 ret:o.returned=o.invoked+1
 era:e≤o.era
 err:o.err=0
 op:∃x,o.op=srOp x
theorem SrO.mono {i j:Nat} {e f:Int} {o:HOp} (h:SrO j f o) (hi:i≤j) (he:e≤f):SrO i e o:=⟨by have:=h.inv; omega,h.ret,by have:=h.era; omega,h.err,h.op⟩
theorem nU:∀(l:List XE) (s:RS) (i:Nat) (e:Int),(∀o∈srO V l s i e,SrO i e o)∧(srO V l s i e).Pairwise fun o q=>o.era≤q.era∧o.returned<q.invoked
 | [],_,_,_=>⟨fun _ h=>(by simp[srO]at h),by simp[srO]⟩
 | x::r,s,i,e=>by
  rw[srO]
  by_cases hw:200<x.who.toNat
  ·obtain⟨h1,h2⟩:=nU r (srS x s) (i+srW x) (e+1)
   rw[if_pos hw]
   exact⟨fun o ho=>(h1 o ho).mono (by omega) (by omega),h2⟩
  ·obtain⟨h1,h2⟩:=nU r (srS x s) (i+srW x) e
   rw[if_neg hw]
   have hw2:srW x=2:=by rw[srW,if_neg hw]
   refine⟨fun o ho=>?_,List.pairwise_cons.2 ⟨fun q hq=>?_,h2⟩⟩
   ·rcases List.mem_cons.1 ho with rfl | ho
    ·exact⟨Int.le_refl _,by show ((i+1:Nat):Int)=(i:Int)+1; omega,Int.le_refl _,rfl,x,rfl⟩
    ·exact (h1 o ho).mono (by omega) (Int.le_refl _)
   ·have:=h1 q hq
    have:=this.inv
    exact⟨(h1 q hq).era,by show ((i+1:Nat):Int)<q.invoked; omega⟩
theorem yL {h:List HEv} {n:Nat} {l:List XE} {s:RS} {i:Nat} {e:Int} (hn:3≤n) (hm:(opsR h).map iw=srO V l s i e):Ch (opsR h) n (ao h):=by
 obtain⟨h1,h2⟩:=nU (V:=V) l s i e
 rw[←hm]at h1 h2
 have hg:∀(j:Nat) (o:HOp),(opsR h)[j]?=some o→SrO i e (iw o):=fun j o ho=>h1 _ (List.mem_map.2 ⟨o,List.mem_of_getElem? ho,rfl⟩)
 have hp:∀(j k:Nat) (o q:HOp),j<k→(opsR h)[j]?=some o→(opsR h)[k]?=some q→o.era≤q.era∧o.returned<q.invoked:=fun j k o q hjk ho hq=>by
  rw[List.pairwise_map,List.pairwise_iff_getElem]at h2
  obtain⟨a1,a2⟩:=List.getElem?_eq_some_iff.1 ho
  obtain⟨b1,b2⟩:=List.getElem?_eq_some_iff.1 hq
  have:=h2 j k a1 b1 hjk
  rw[a2,b2]at this
  exact this
 refine⟨jW h,fun j o ho=>?_,fun j o ho=>?_,fun j k o q hjk ho hq=>?_,fun j k o q hjk ho hq=>?_⟩
 ·have g:=hg j o ho
  obtain⟨x,hx⟩:=g.op
  have hx:o.op=srOp x:=hx
  have he:o.err=0:=g.err
  unfold mayB
  rw[hx,he]
  have hb:badO (srOp x) n=false:=by
   unfold badO outO srOp
   simp only
   rcases uy x with hk | hk | hk
   ·have hat:srAt x<3:=by unfold srAt; omega
    rw[if_pos (by omega),if_neg (by omega),dF (by omega),dF (by omega)]; rfl
   ·have hat:srAt x<3:=by unfold srAt; omega
    rw[if_neg (by omega),if_pos (by omega),if_neg (by omega),if_pos hk,dF (by omega),dF (by omega)]; simp
   ·rw[if_neg (by omega),if_neg (by omega),dT (by omega)]; rfl
  rw[hb]; simp
 ·have g:=hg j o ho
  have he:o.err=0:=g.err
  have hr:o.returned=o.invoked+1:=g.ret
  have hi:(i:Int)≤o.invoked:=g.inv
  rw[bf,he,dT (by omega)]; rfl
 ·have g:=hg j o ho
  have hr:o.returned=o.invoked+1:=g.ret
  have hi:(i:Int)≤o.invoked:=g.inv
  obtain⟨a,b⟩:=hp j k o q hjk ho hq
  unfold befB
  split
  ·rw[dT (by omega),dT (by omega)]; rfl
  ·exact dT (by omega)
 ·have go:=hg j o ho
  have gq:=hg k q hq
  have hr:q.returned=q.invoked+1:=gq.ret
  have ho1:o.returned=o.invoked+1:=go.ret
  have hle:o.era≤q.era∧o.invoked≤q.invoked:=by
   by_cases he:j=k
   ·subst he
    rw[ho]at hq; cases hq
    exact⟨Int.le_refl _,Int.le_refl _⟩
   ·have:=hp j k o q (by omega) ho hq
    omega
  unfold befB
  split
  ·rw[dF (show ¬q.returned<o.invoked by omega),Bool.and_false]
  ·exact dF (by omega)
structure Sim3 (s t:RS):Prop where
 era:s.era=t.era
 ar:∀k:Nat,k<3→pgAt s.arr k=pgAt t.arr k
 du:∀k:Nat,k<3→pgAt s.dur k=pgAt t.dur k
 l1:3≤s.arr.length
 l2:3≤s.dur.length
 l3:3≤t.arr.length
 l4:3≤t.dur.length
theorem Sim3.crash {s t:RS} (h:Sim3 s t):Sim3 (aI s) (aI t):=⟨by show s.era+1=t.era+1; rw[h.era],h.du,h.du,h.l2,h.l2,h.l4,h.l4⟩
theorem Sim3.hap {s t:RS} (h:Sim3 s t) {o q:HOp} (x:XE) (ho:o.op=srOp x) (hq:q.op=srOp x):Sim3 (hapR s o).1 (hapR t q).1:=by
 unfold hapR
 rw[ho,hq]
 split
 ·exact h
 ·split
  ·rename_i h1 h2
   have hk:srK x=2:=by unfold srOp at h2; simp only at h2; omega
   have hat:srAt x<3:=by unfold srAt; omega
   have hi:(srOp x).index.toNat=srAt x:=by unfold srOp; simp only; rw[if_neg (by omega),Int.toNat_natCast]
   refine⟨h.era,fun k hk3=>?_,h.du,by rw[List.length_set]; exact h.l1,h.l2,by rw[List.length_set]; exact h.l3,h.l4⟩
   unfold pgAt
   rw[hi,Int.toNat_natCast]
   have hak:=h.ar k hk3
   unfold pgAt at hak
   rw[Int.toNat_natCast]at hak
   have:=h.l1
   have:=h.l3
   by_cases e:srAt x=k
   ·rw[e,List.getElem?_set_self (by omega),List.getElem?_set_self (by omega)]
   ·rw[List.getElem?_set_ne e,List.getElem?_set_ne e]; exact hak
  ·exact⟨h.era,h.ar,h.ar,h.l1,h.l1,h.l3,h.l3⟩
theorem xU {s:RS} {o:HOp}:(hapR s o).2=(if o.op.kind=1 then !bf o||decide (pgAt s.arr o.op.index=o.value) else true):=by
 unfold hapR
 split
 ·rfl
 ·split <;> rfl
theorem nT:∀(l:List XE) (s t:RS) (i:Nat),Sim3 s t→fitF (srO V l s i s.era) t=(srR l s i).all fun p=>decide (p.2=V p.1 p.2)
 | [],_,_,_,_=>rfl
 | x::r,s,t,i,h=>by
  rw[srO,srR]
  by_cases hw:200<x.who.toNat
  ·have hs:srS x s=aI s:=by rw[srS,if_pos hw]
   rw[if_pos hw,if_pos hw,hs,List.nil_append]
   have ih:=nT r (aI s) (aI t) (i+srW x) h.crash
   rw[←ih]
   symm
   refine py fun o ho=>?_
   have:=((nU (V:=V) r (aI s) (i+srW x) (aI s).era).1 o (List.mem_of_getElem? ho)).era
   have h1:(aI s).era=s.era+1:=rfl
   have:=h.era
   omega
  ·have hs:srS x s=(hapR s (srH x)).1:=by rw[srS,if_neg hw]
   rw[if_neg hw,if_neg hw,fitF,show aP (HOp.era ⟨srC x,0,s.era,srOp x,i,((i+1:Nat):Int),srV V x s i,0⟩) t=t by rw[show (HOp.era ⟨srC x,0,s.era,srOp x,i,((i+1:Nat):Int),srV V x s i,0⟩)=t.era from h.era]; exact fy t]
   have h2:=h.hap (o:=srH x) (q:=⟨srC x,0,s.era,srOp x,i,((i+1:Nat):Int),srV V x s i,0⟩) x rfl rfl
   have ih:=nT r (hapR s (srH x)).1 _ (i+srW x) h2
   have he:(hapR s (srH x)).1.era=s.era:=(iH s (srH x)).2.2
   rw[he]at ih
   rw[hs,ih,xU]
   have hk1:(srOp x).kind=(srK x:Int):=rfl
   by_cases hk:srK x=1
   ·have hat:srAt x<3:=by unfold srAt; omega
    have hi:(srOp x).index=(srAt x:Int):=by unfold srOp; simp only; rw[if_neg (by omega)]
    simp only
    rw[if_pos (show (srOp x).kind=1 by rw[hk1,hk]; rfl),hi,←h.ar _ hat,if_pos hk,srV,if_pos hk]
    have hm:bf ⟨srC x,0,s.era,srOp x,i,((i+1:Nat):Int),V (i+1) (pgAt s.arr (srAt x)),0⟩=true:=by
     unfold bf
     simp only
     rw[dT (by omega)]; rfl
    rw[hm,List.singleton_append,List.all_cons]; rfl
   ·simp only
    rw[if_neg (show ¬(srOp x).kind=1 by rw[hk1]; omega),if_neg hk]; rfl
end
def bmp (v:List UInt8):List UInt8:=v.set 31 ((v[31]?.getD 0)+1)
abbrev idV:Nat→List UInt8→List UInt8:=fun _ v=>v
def bmpV (m:Nat):Nat→List UInt8→List UInt8:=fun j v=>if j=m then bmp v else v
def bmpE (x:HEv):HEv := { x with value:=bmp x.value }
theorem px:∀(r:List HOp) (s:RS),fitF (r.map iw) s=fitF r s
 | [],_=>rfl
 | o::r,s=>by rw[List.map_cons,fitF,fitF,←px r]; rfl
theorem BD (x:XE) {n:Nat} (hn:3≤n):badO (srOp x) n=false:=by
 unfold badO outO srOp
 simp only
 rcases uy x with hk | hk | hk
 ·have hat:srAt x<3:=by unfold srAt; omega
  rw[if_pos (by omega),if_neg (by omega),dF (by omega),dF (by omega)]; rfl
 ·have hat:srAt x<3:=by unfold srAt; omega
  rw[if_neg (by omega),if_pos (by omega),if_neg (by omega),if_pos hk,dF (by omega),dF (by omega)]; simp
 ·rw[if_neg (by omega),if_neg (by omega),dT (by omega)]; rfl
theorem vS (x:XE):mayB (srH x) (3:Nat)=true:=by
 unfold mayB
 simp only
 rw[BD x (Nat.le_refl _)]; rfl
abbrev serH (l:List XE):List HEv:=srE idV l (am 3) 0
abbrev serB (l:List XE) (m:Nat):List HEv:=srE (bmpV m) l (am 3) 0
theorem C3 {V:Nat→List UInt8→List UInt8} {l:List XE} {b:Nat} {fuel:Int} (hl:l.length≤512) (h0:3≤b) (h1:b≤4096) (hf:l.length+1≤fuel) (hf2:fuel≤1000) :
  fz (srE V l (am 3) 0) b fuel∧(∃c:Int,0≤c∧c≤((opsR (srE V l (am 3) 0)).length+ao (srE V l (am 3) 0):Nat)∧cv (srE V l (am 3) 0) b fuel=(c,0))∧(bO (srE V l (am 3) 0) b fuel).2=0∧opE (srE V l (am 3) 0) b=0 ∧
   ((bO (srE V l (am 3) 0) b fuel).1.2=(srR l (am 3) 0).all fun p=>decide (p.2=V p.1 p.2))∧((bO (srE V l (am 3) 0) b fuel).1.2=true→(bO (srE V l (am 3) 0) b fuel).1.1=zs (List.range (opsR (srE V l (am 3) 0)).length))∧(opsR (srE V l (am 3) 0)).length≤l.length:=by
 obtain⟨h,hh⟩:∃h,h=srE V l (am 3) 0:=⟨_,rfl⟩
 have hm:(opsR h).map iw=srO V l (am 3) 0 0:=by rw[mO,hh]; exact n3 l _ 0 0
 have hA:bT h:=by
  have:=nW (V:=V) l (am 3) 0 [] jB (fun c=>rfl)
  rw[hh]; simpa using this
 have hlen:=rj (V:=V) l (am 3) 0
 rw[←hh]at hlen ⊢
 have hc:=yL (n:=b) h0 hm
 have hol:(opsR h).length+srN l=l.length:=by
  have:=nP (V:=V) l (am 3) 0 0
  rw[←hm,List.length_map]at this
  exact this
 have her:ao h=1+srN l:=by unfold ao; rw[hh,uz]
 obtain⟨g1,g2,g3,g4,g5,g6⟩:=Ch.go hA (by omega) hc (by omega) h1 (fuel:=fuel) (by omega) hf2
 refine⟨g1,g2,g3,g4,?_,g6,by omega⟩
 have hft:=nT (V:=V) l (am 3) (am b) 0 ⟨rfl,fun k _=>by rw[am,am]; simp only; rw[eM,eM],fun k _=>by rw[am,am]; simp only; rw[eM,eM],by simp[am],by simp[am],by simp[am]; omega,by simp[am]; omega⟩
 rw[show (am 3).era=0 from rfl,←hm,px]at hft
 rw[←hft,Bool.eq_iff_iff]
 exact g5
end Go.Proofs.Ytmdgmolbamlicaa
namespace Go.Eng
open Go.RowKit
theorem RelV.sl {σ:aB} {w:World} {X:Nat→Prop} {n:Nat} {u:Value}:RelV σ w X (.sl n) u ↔ ∃a c,u=.slice a n c:=by
 unfold RelV
 rw[if_neg (by simp[AV.isAgg])]
 simp only[Rel,List.cons.injEq,and_true]
theorem AVLe.sl_arx {α:Type} {s:Nat} {enc:α→D} {xs:List α} {n:Nat} (hn:xs.length=n):AVLe (.d (.arx s enc xs)) (.sl n):=by
 subst hn
 intro σ w X u h
 rw[RelV.sl]
 rcases RelV.arx.1 h with ⟨rfl,a,hu⟩ | ⟨a,hu,_⟩
 ·exact⟨a,0,hu⟩
 ·exact⟨some a,_,hu⟩
section
variable {P : Program} {T : Tab} {f : FuncId} {avs avs' : List AV} {h0 rows : List (Nat × Row)} {res res' : AV} {env : Env} {h : Upds} {n : Nat}
theorem Dg (hT:aj P T) {x:Operand} {t e:TypeId} {m:Nat} (hx:ai env x=some (.sl m)) (ht:bh T t=some (.slice e)) :
  ab P (.call { callee :=.builtin .len,args := #[x],argTypes := #[t] }) env h n (some (.int .i64 m)) []:=.len rfl hx fun C st σ w a ty hr=>by
 obtain⟨u,hu,hdu⟩:=bn hT ht
 cases hdu
 obtain⟨ad,c,hv⟩:=RelV.sl.1 hr
 simp[Builtin.len_,hv,run_underlying hu]
theorem FnIs.res_le (hl:AVLe res res') (hw:∀G:Nat→Prop,res'.within G) (h:FnIs P f avs h0 res rows):FnIs P f avs h0 res' rows:=by
 refine⟨h.1,fun C σ w vs hbs hB hw0 hσ hro hst=>(h.2 C σ w vs hbs hB hw0 hσ hro hst).mono ?_⟩
 rintro e w' ⟨v,σ',rfl,hr⟩
 refine⟨v,σ',rfl, { hr with env:=fun i x hi=>?_,envG:=fun i x hi=>?_ }⟩
 ·by_cases e:i=0
  ·subst e
   simp only[dm,aN,if_pos,Option.some.injEq]at hi
   subst hi
   obtain⟨u,hu,hv⟩:=hr.env 0 _ rfl
   exact⟨u,hu,hl _ _ _ _ hv⟩
  ·simp only[dm,aN,if_neg (Ne.symm e),lk]at hi
   cases hi
 ·by_cases e:i=0
  ·subst e
   simp only[dm,aN,if_pos,Option.some.injEq]at hi
   subst hi
   exact hw _
  ·simp only[dm,aN,if_neg (Ne.symm e),lk]at hi
   cases hi
def FO (res:AV) (row:Row):Prop:=(∀(σ:aB) (w:World) (X X':Nat→Prop) (v:Value),RelV σ w X res v→RelV σ w X' res v)∧(∀(σ:aB) (w:World) (X X':Nat→Prop),bx σ w X 64 row→bx σ w X' 64 row)∧res.within (fun r=>r<72)∧row.within (fun r=>r<72)
def AV.free:AV→Bool
 | .d (.sc _)=>true
 | .own .. => true
 | .sl _=>true
 | .anil=>true
 | .acons a r=>bif a.free then r.free else false
 | .tup q=>q.free
 | _=>false
end
end Go.Eng
namespace Go.Proofs.Ytmdgmolbamlicaa
open Go.Eng Go.Plain
set_option maxHeartbeats 32000000
set_option maxRecDepth 20000
attribute [local irreducible] WC RegS RegD SeqQ BlkQ ScoQ RegK CutK Sat SatN FnIs LoopQ ab OpIs
abbrev AY (l:List XE):D :=.arr 3 qN l
theorem uV (o:POp):DLe (.cons (i6 0) (.cons (i6 0) (.cons (i6 0) (.cons (ce o) (.cons (i6 0) (.cons (i6 0) (.cons (.vec 32 1 cN (List.replicate 32 0)) (.cons (i6 0) .nil)))))))) (a9 ⟨0,0,0,o,0,0,zBk,0⟩):=DLe.of_eq rfl
theorem qZ (o:POp) (c:Int):DLe (.cons (u8s 1) (.cons (i6 c) (.cons (ce o) (.cons (.vec 32 1 cN (List.replicate 32 0)) (.cons (i6 0) .nil))))) (bu ⟨1,c,o,zBk,0⟩):=DLe.of_eq rfl
structure SrI (l:List XE) (i:Nat) (out:List HEv) (s:RS) (last:Int):Prop where
 le:i≤l.length
 ok:RSOk 3 s
 er:s.era≤i
 ol:out.length≤2*i
 ev:out++srE idV (l.drop i) s out.length=serH l
 la:srL (l.drop i) out.length last=srL l 0 (-1)
theorem SrI.step {l:List XE} {i:Nat} {out:List HEv} {s:RS} {last:Int} (I:SrI l i out s last) {x:XE} (hx:l[i]?=some x) (hl:l.length≤512):SrI l (i+1) (out++srEv idV x s out.length) (srS x s) (if 200<x.who.toNat then last else if srK x=1 then ((out.length+1:Nat):Int) else last):=by
 have hlt:=(List.getElem?_eq_some_iff.1 hx).1
 have hd:l.drop i=x::l.drop (i+1):=by rw[List.drop_eq_getElem_cons hlt,(List.getElem?_eq_some_iff.1 hx).2]
 have hw:(srEv idV x s out.length).length=srW x:=by unfold srEv srW; split <;> rfl
 have hw2:srW x≤2:=by unfold srW; split <;> omega
 have hev:=I.ev
 have hla:=I.la
 rw[hd,srE,←List.append_assoc]at hev
 rw[hd,srL]at hla
 have hol:=I.ol
 have her:=I.er
 refine⟨hlt,?_,?_,by rw[List.length_append,hw]; omega,by rw[List.length_append,hw]; exact hev,by rw[List.length_append,hw]; exact hla⟩
 ·unfold srS
  split
  ·exact I.ok.crash (by omega)
  ·refine (I.ok.hap (by decide) ?_).2
   exact vS x
 ·unfold srS
  split
  ·show s.era+1≤_; omega
  ·rw[(iH s (srH x)).2.2]; omega
theorem xl (l:List XE) (hl:l.length≤512):FnIs Try.prog 4 [.d (AY l)] [] (.tup (.acons (.own 64 0 (serH l).length 38 none) (.acons (.int .i64 (srL l 0 (-1))) .anil))) [(64,.ds 42 38 false bu (serH l))]:=by
 refine aq aa Try.func4 rfl rfl rfl ?_;refine z8 ?_;refine rQ (yK (kk 3 (by decide))) ?_;refine z21 ?_
 refine wc_inv (fun q:Nat×List HEv×RS×Int=>⟨[(7,.int .i64 q.1),(6,.int .i64 q.2.2.2),(5,.own 65 0 q.2.1.length 38 none),(4,.ptr 64 []),(0,.d (AY l))],[(64,some (.box 59 (.d (cP q.2.2.1)))),(65,some (.ds 42 38 false bu q.2.1))],72,Try.f4.ntmps,64⟩) (fun q=>SrI l q.1 q.2.1 q.2.2.1 q.2.2.2) (fun q=>l.length-q.1) (0,[],am 3,-1) [(64,some 88),(65,none)] ⟨Nat.zero_le _,.first 3,Int.le_refl _,Nat.zero_le _,rfl,rfl⟩
  (lg zh ⟨zR,⟨rfl,rfl,rfl⟩,trivial⟩) ?_
 rintro⟨i,out,s,last⟩ I
 have I:SrI l i out s last:=I
 have hi:=I.le
 have hol:=I.ol
 have her:=I.er
 have he0:=I.ok.e0
 have hal:out.length+1≤1048576:=by omega
 refine bt ?_
 by_cases hlt:i<l.length
 ·have d1:decide ((i:Int)<(l.length:Int))=true:=dT (by omega)
  obtain⟨x,hx⟩:∃u,l[i]?=some u:=⟨_,List.getElem?_eq_getElem hlt⟩
  have hx2:l[((i:Int)).toNat]?=some x:=by rw[Int.toNat_natCast]; exact hx
  have hx0:=x.who.toNat_lt
  have hx1:=x.what.toNat_lt
  have hx3:=x.data.toNat_lt
  have hw1:IntKind.i64.wrap ((x.data.toNat/4:Nat):Int)=((x.data.toNat/4:Nat):Int):=aH (by omega) (by omega)
  have hw2:IntKind.i64.wrap ((x.who.toNat % 8:Nat):Int)=((x.who.toNat % 8:Nat):Int):=aH (by omega) (by omega)
  have hwe:IntKind.i64.wrap (s.era+1)=s.era+1:=aH (by omega) (by omega)
  have hw3:IntKind.u8.wrap (1+((x.what.toNat % 3:Nat):Int))=((srK x:Nat):Int):=by
   rw[show (1:Int)+((x.what.toNat % 3:Nat):Int)=((1+x.what.toNat % 3:Nat):Int) by omega,yl (by omega)]; rfl
  have hwl:IntKind.i64.wrap ((out.length:Int)+1)=((out.length+1:Nat):Int):=by rw[aH (by omega) (by omega)]; omega
  have S:=I.step hx hl
  by_cases hw:200<x.who.toNat
  ·have dw:decide ((200:Int)<(x.who.toNat:Int))=true:=dT (by omega)
   have hs:srS x s=aI s:=by rw[srS,if_pos hw]
   rw[if_pos hw,srEv,if_pos hw,hs]at S
   have hl1:out.length+1=(out++[crE]).length:=by simp
   refine z21 ?_;refine rQ (eX (a:=x.data.toNat) (s:=2) (m:=x.data.toNat/4) rfl rfl (by decide) rfl) ?_;refine rQ (aR (m:=((x.data.toNat/4:Nat):Int)) aa rfl rfl rfl hw1) ?_;refine rQ (aZ (a:=x.data.toNat/4) (b:=3) aa rfl rfl rfl (by decide)) ?_;refine z10 ?_;refine rQ (yK (gH x.data)) ?_;refine z11 ?_;refine rQ (aZ (a:=x.what.toNat) (b:=3) aa rfl rfl rfl (by decide)) ?_;refine rQ (bM (m:=((srK x:Nat):Int)) aa rfl rfl hw3) ?_;refine z23 ?_;refine rQ (ab.val_le (aK aa rfl rfl rfl rfl) (ld 3 0 0) rfl) ?_;refine aO (ae (s:=38) aa rfl rfl rfl rfl rfl rfl rfl rfl) rfl ?_;refine aC (aJ (enc:=bu) (s:=38) (xs:=out) aa crE rfl rfl rfl rfl rfl rfl rfl rfl rfl hal rfl) rfl ?_;refine z6 ?_;refine rQ (yK (fe s (by have:=I.ok.dl; omega) hwe)) ?_;refine z4 ?_;refine CR rfl ?_;refine z8 ?_
   exact an (i+1,out++[crE],aI s,last) [(64,some 64),(65,some _)] S (by show l.length-(i+1)<l.length-i; omega) (lg ⟨zE,rfl,zE,rfl,⟨_,rfl,AVLe.of_eq (congrArg (fun n=>AV.own _ 0 n 38 none) hl1)⟩,rfl,zE,rfl,zE,rfl,trivial⟩ ⟨zR,zR,trivial⟩)
  ·have dw:decide ((200:Int)<(x.who.toNat:Int))=false:=dF (by omega)
   have hs:srS x s=(hapR s (srH x)).1:=by rw[srS,if_neg hw]
   have hat:srAt x<3:=by unfold srAt; omega
   have hho:=(I.ok.hap (by decide) (vS x)).1
   have hal2:out.length+2≤1048576:=by omega
   rw[if_neg hw,srEv,if_neg hw,hs]at S
   have hl2:∀a b:HEv,out.length+2=(out++[a,b]).length:=fun a b=>by simp
   rcases uy x with hk | hk | hk
   ·have d2:decide (((srK x:Nat):Int)=2)=false:=dF (by omega)
    have d3:decide (((srK x:Nat):Int)=3)=false:=dF (by omega)
    have d4:decide (((srK x:Nat):Int)=1)=true:=dT (by omega)
    obtain⟨v,hv0⟩:∃v,s.arr[srAt x]?=some v:=⟨_,List.getElem?_eq_getElem (by rw[I.ok.al]; exact hat)⟩
    have hv:s.arr[((srAt x:Nat):Int).toNat]?=some v:=by rw[Int.toNat_natCast]; exact hv0
    have hsv:srV idV x s out.length=v:=by rw[srV,if_pos hk,pgAt,hv]; rfl
    have hop:srOp x=⟨(srK x:Nat),(srAt x:Nat),[]⟩:=by unfold srOp; rw[if_neg (by omega),if_neg (by omega)]
    rw[if_pos hk,hsv]at S
    unfold srH at S hho
    rw[hop]at S hho
    refine z21 ?_;refine rQ (eX (a:=x.data.toNat) (s:=2) (m:=x.data.toNat/4) rfl rfl (by decide) rfl) ?_;refine rQ (aR (m:=((x.data.toNat/4:Nat):Int)) aa rfl rfl rfl hw1) ?_;refine rQ (aZ (a:=x.data.toNat/4) (b:=3) aa rfl rfl rfl (by decide)) ?_;refine z10 ?_;refine rQ (yK (gH x.data)) ?_;refine z11 ?_;refine rQ (aZ (a:=x.what.toNat) (b:=3) aa rfl rfl rfl (by decide)) ?_;refine rQ (bM (m:=((srK x:Nat):Int)) aa rfl rfl hw3) ?_;refine z48 ?_;refine rQ (aZ (a:=x.who.toNat) (b:=8) aa rfl rfl rfl (by decide)) ?_;refine rQ (aR (m:=((x.who.toNat % 8:Nat):Int)) aa rfl rfl rfl hw2) ?_;refine rQ (ab.val_le (aK aa rfl rfl rfl rfl) (ld 2 ((x.who.toNat % 8:Nat):Int) 0) rfl) ?_;refine z21 ?_;refine rX ?_;refine z5 ?_;refine rQ (bM (m:=((out.length+1:Nat):Int)) aa rfl rfl hwl) ?_;refine z8 ?_;refine rQ (ab.val_le (ay aa rfl rfl rfl rfl) (ic (srK x:Nat) (srAt x:Nat)) rfl) ?_;refine rQ (ab.val_le (aK aa rfl rfl rfl rfl) (qZ ⟨(srK x:Nat),(srAt x:Nat),[]⟩ ((x.who.toNat % 8:Nat):Int)) rfl) ?_;refine z1 ?_;refine aO (ae (s:=38) aa rfl rfl rfl rfl rfl rfl rfl rfl) rfl ?_;refine aC (ka (enc:=bu) (s:=38) (xs:=out) aa [⟨1,srC x,⟨(srK x:Nat),(srAt x:Nat),[]⟩,zBk,0⟩,⟨2,srC x,zOp,v,0⟩] rfl rfl rfl rfl rfl rfl rfl rfl rfl (fun _ _=>rfl) (by decide) hal2 rfl) rfl ?_;refine z5 ?_;refine rQ (ab.val_le (ay aa rfl rfl rfl rfl) (ic (srK x:Nat) (srAt x:Nat)) rfl) ?_;refine rQ (ab.val_le (aK aa rfl rfl rfl rfl) (uV ⟨(srK x:Nat),(srAt x:Nat),[]⟩) rfl) ?_;refine rQ (yK (gz s ⟨0,0,0,⟨(srK x:Nat),(srAt x:Nat),[]⟩,0,0,zBk,0⟩ hho)) ?_;refine z12 ?_
    exact an (i+1,out++[⟨1,srC x,⟨(srK x:Nat),(srAt x:Nat),[]⟩,zBk,0⟩,⟨2,srC x,zOp,v,0⟩],(hapR s ⟨0,0,0,⟨(srK x:Nat),(srAt x:Nat),[]⟩,0,0,zBk,0⟩).1,((out.length+1:Nat):Int)) [(64,some 64),(65,some _)] S (by show l.length-(i+1)<l.length-i; omega) (lg ⟨zE,rfl,zE,rfl,⟨_,rfl,AVLe.of_eq (congrArg (fun n=>AV.own _ 0 n 38 none) (hl2 _ _))⟩,rfl,zE,rfl,zE,rfl,trivial⟩ ⟨zR,zR,trivial⟩)
   ·have d2:decide (((srK x:Nat):Int)=2)=true:=dT (by omega)
    have d3:decide (((srK x:Nat):Int)=3)=false:=dF (by omega)
    have d4:decide (((srK x:Nat):Int)=1)=false:=dF (by omega)
    have hsv:srV idV x s out.length=zBk:=by rw[srV,if_neg (by omega)]
    have hop:srOp x=⟨(srK x:Nat),(srAt x:Nat),blkS x.data⟩:=by unfold srOp; rw[if_neg (by omega),if_pos hk]
    rw[if_neg (by omega),hsv]at S
    unfold srH at S hho
    rw[hop]at S hho
    refine z21 ?_;refine rQ (eX (a:=x.data.toNat) (s:=2) (m:=x.data.toNat/4) rfl rfl (by decide) rfl) ?_;refine rQ (aR (m:=((x.data.toNat/4:Nat):Int)) aa rfl rfl rfl hw1) ?_;refine rQ (aZ (a:=x.data.toNat/4) (b:=3) aa rfl rfl rfl (by decide)) ?_;refine z10 ?_;refine rQ (yK (gH x.data)) ?_;refine z11 ?_;refine rQ (aZ (a:=x.what.toNat) (b:=3) aa rfl rfl rfl (by decide)) ?_;refine rQ (bM (m:=((srK x:Nat):Int)) aa rfl rfl hw3) ?_;refine z30 ?_;refine oO (env':=[(10,_),(9,_),(8,_),(7,_),(6,_),(5,_),(4,_),(0,_)]) (h':=[(312,some _),(64,some _),(65,some _)]) 224 _ rfl ⟨zE,⟨_,rfl,Frz.ptr⟩,zE,zE,zE,zE,zE,zE,trivial⟩ ⟨⟨rfl,_,rfl,.refl _⟩,⟨rfl,_,rfl,.refl _⟩,⟨rfl,_,rfl,.refl _⟩,trivial⟩ ?_;refine rQ (jN aa rfl rfl rfl rfl rfl) ?_;refine z1 ?_;refine rX ?_;refine z10 ?_;refine rQ (aZ (a:=x.who.toNat) (b:=8) aa rfl rfl rfl (by decide)) ?_;refine rQ (aR (m:=((x.who.toNat % 8:Nat):Int)) aa rfl rfl rfl hw2) ?_;refine rQ (ab.val_le (aK aa rfl rfl rfl rfl) (ld 2 ((x.who.toNat % 8:Nat):Int) 0) rfl) ?_;refine z21 ?_;refine rQ (ab.val_le (aK aa rfl rfl rfl rfl) (qZ ⟨(srK x:Nat),(srAt x:Nat),blkS x.data⟩ ((x.who.toNat % 8:Nat):Int)) rfl) ?_;refine z1 ?_;refine aO (ae (s:=38) aa rfl rfl rfl rfl rfl rfl rfl rfl) rfl ?_;refine aC (ka (enc:=bu) (s:=38) (xs:=out) aa [⟨1,srC x,⟨(srK x:Nat),(srAt x:Nat),blkS x.data⟩,zBk,0⟩,⟨2,srC x,zOp,zBk,0⟩] rfl rfl rfl rfl rfl rfl rfl rfl rfl (fun _ _=>rfl) (by decide) hal2 rfl) rfl ?_;refine z6 ?_;refine rQ (ab.val_le (aK aa rfl rfl rfl rfl) (uV ⟨(srK x:Nat),(srAt x:Nat),blkS x.data⟩) rfl) ?_;refine rQ (yK (gz s ⟨0,0,0,⟨(srK x:Nat),(srAt x:Nat),blkS x.data⟩,0,0,zBk,0⟩ hho)) ?_;refine z12 ?_
    exact an (i+1,out++[⟨1,srC x,⟨(srK x:Nat),(srAt x:Nat),blkS x.data⟩,zBk,0⟩,⟨2,srC x,zOp,zBk,0⟩],(hapR s ⟨0,0,0,⟨(srK x:Nat),(srAt x:Nat),blkS x.data⟩,0,0,zBk,0⟩).1,last) [(64,some 64),(65,some _)] S (by show l.length-(i+1)<l.length-i; omega) (lg ⟨zE,rfl,zE,rfl,⟨_,rfl,AVLe.of_eq (congrArg (fun n=>AV.own _ 0 n 38 none) (hl2 _ _))⟩,rfl,zE,rfl,zE,rfl,trivial⟩ ⟨zR,zR,trivial⟩)
   ·have d2:decide (((srK x:Nat):Int)=2)=false:=dF (by omega)
    have d3:decide (((srK x:Nat):Int)=3)=true:=dT (by omega)
    have d4:decide (((srK x:Nat):Int)=1)=false:=dF (by omega)
    have hsv:srV idV x s out.length=zBk:=by rw[srV,if_neg (by omega)]
    have hop:srOp x=⟨(srK x:Nat),0,[]⟩:=by unfold srOp; rw[if_pos hk,if_neg (by omega)]
    rw[if_neg (by omega),hsv]at S
    unfold srH at S hho
    rw[hop]at S hho
    refine z21 ?_;refine rQ (eX (a:=x.data.toNat) (s:=2) (m:=x.data.toNat/4) rfl rfl (by decide) rfl) ?_;refine rQ (aR (m:=((x.data.toNat/4:Nat):Int)) aa rfl rfl rfl hw1) ?_;refine rQ (aZ (a:=x.data.toNat/4) (b:=3) aa rfl rfl rfl (by decide)) ?_;refine z10 ?_;refine rQ (yK (gH x.data)) ?_;refine z11 ?_;refine rQ (aZ (a:=x.what.toNat) (b:=3) aa rfl rfl rfl (by decide)) ?_;refine rQ (bM (m:=((srK x:Nat):Int)) aa rfl rfl hw3) ?_;refine z40 ?_;refine rX ?_;refine z10 ?_;refine rQ (aZ (a:=x.who.toNat) (b:=8) aa rfl rfl rfl (by decide)) ?_;refine rQ (aR (m:=((x.who.toNat % 8:Nat):Int)) aa rfl rfl rfl hw2) ?_;refine rQ (ab.val_le (aK aa rfl rfl rfl rfl) (ld 2 ((x.who.toNat % 8:Nat):Int) 0) rfl) ?_;refine z20 ?_;refine rQ (ab.val_le (ay aa rfl rfl rfl rfl) (ic (srK x:Nat) 0) rfl) ?_;refine rQ (ab.val_le (aK aa rfl rfl rfl rfl) (qZ ⟨(srK x:Nat),0,[]⟩ ((x.who.toNat % 8:Nat):Int)) rfl) ?_;refine z1 ?_;refine aO (ae (s:=38) aa rfl rfl rfl rfl rfl rfl rfl rfl) rfl ?_;refine aC (ka (enc:=bu) (s:=38) (xs:=out) aa [⟨1,srC x,⟨(srK x:Nat),0,[]⟩,zBk,0⟩,⟨2,srC x,zOp,zBk,0⟩] rfl rfl rfl rfl rfl rfl rfl rfl rfl (fun _ _=>rfl) (by decide) hal2 rfl) rfl ?_;refine z5 ?_;refine rQ (ab.val_le (ay aa rfl rfl rfl rfl) (ic (srK x:Nat) 0) rfl) ?_;refine rQ (ab.val_le (aK aa rfl rfl rfl rfl) (uV ⟨(srK x:Nat),0,[]⟩) rfl) ?_;refine rQ (yK (gz s ⟨0,0,0,⟨(srK x:Nat),0,[]⟩,0,0,zBk,0⟩ hho)) ?_;refine z12 ?_
    exact an (i+1,out++[⟨1,srC x,⟨(srK x:Nat),0,[]⟩,zBk,0⟩,⟨2,srC x,zOp,zBk,0⟩],(hapR s ⟨0,0,0,⟨(srK x:Nat),0,[]⟩,0,0,zBk,0⟩).1,last) [(64,some 64),(65,some _)] S (by show l.length-(i+1)<l.length-i; omega) (lg ⟨zE,rfl,zE,rfl,⟨_,rfl,AVLe.of_eq (congrArg (fun n=>AV.own _ 0 n 38 none) (hl2 _ _))⟩,rfl,zE,rfl,zE,rfl,trivial⟩ ⟨zR,zR,trivial⟩)
 ·have d1:decide ((i:Int)<(l.length:Int))=false:=dF (by omega)
  have hil:i=l.length:=by omega
  subst hil
  have hev:=I.ev
  have hla:=I.la
  rw[List.drop_length,srE,List.append_nil]at hev
  rw[List.drop_length,srL]at hla
  subst hev
  rw[←hla]
  refine z24 ?_
  exact⟨trivial,[(64,some 65)],lg zV ⟨zR,trivial⟩⟩
abbrev evRo (h:List HEv):Row :=.ds 42 38 false bu h
theorem jE.sl2 (n:Nat) (a b:Value):jE (.tup (.acons (.sl n) (.acons (.d (.sc a)) (.acons (.d (.sc b)) .anil)))):=⟨fun _ _ _ _ _ _ _ h=>h,fun _=>⟨trivial,trivial,trivial,trivial⟩⟩
theorem CY {h:List HEv} {n:Nat} (hn:n=h.length) (a b:D):pR [.own 0 0 n 38 none,.d a,.d b] [(0,evRo h)] [.d (encH h),.d a,.d b] []:=
 .freeze (avs':=[.d (encH h),.d a,.d b]) (h0':=[]) 0 _ rfl ⟨⟨_,rfl,Frz.own hn⟩,zE,zE,trivial⟩ trivial rfl (.refl _ _)
end Go.Proofs.Ytmdgmolbamlicaa
namespace Go.Proofs.Ytmdgmolbamlicaa
open Go.Eng Go.Plain
set_option maxHeartbeats 32000000
set_option maxRecDepth 20000
section
variable {l : List HOp} {n : Nat}
theorem ChI.next {k:Nat} {s:RS} (C:Ch l n 1) (I:ChI l n 1 k s) {o:HOp} (ho:l[k]?=some o) (hf:fitF (l.drop k) s=true) :
  (aL s l k o).2=true∧ChI l n 1 (k+1) (aL s l k o).1∧fitF (l.drop (k+1)) (aL s l k o).1=true∧((k:Int),(aL s l k o).1)∈b9 l 1 s:=by
 have e0:=I.e0
 have e1:=I.e1
 obtain⟨o0,o1⟩:=C.scl.er k o ho
 have he:o.era=s.era:=by omega
 have hlt:=(List.getElem?_eq_some_iff.1 ho).1
 have hd:l.drop k=o::l.drop (k+1):=by rw[List.drop_eq_getElem_cons hlt,(List.getElem?_eq_some_iff.1 ho).2]
 rw[hd,fitF,show aP o.era s=s by rw[he,fy],Bool.and_eq_true]at hf
 have hb:=(I.take C ho).2 ⟨rfl,he⟩
 have htk:aL s l k o=({ (hapR s o).1 with taken:=cf s.taken k },(hapR s o).2):=by rw[aL,if_pos hb]
 have hx:((k:Int),(aL s l k o).1)∈b9 l 1 s:=bd.2 (.inl ⟨k,o,ho,by rw[htk]; exact hf.1,rfl⟩)
 refine⟨by rw[htk]; exact hf.1,?_,?_,hx⟩
 ·rcases I.step C hx with ⟨_,_,_,_,_,g5⟩ | ⟨_,h2,_⟩
  ·exact g5
  ·omega
 ·rw[←hf.2,htk]
  exact n9 _ _ _ rfl rfl rfl
theorem Ch.path (C:Ch l n 1) (hf:fitF l (am n)=true):∀k,k≤l.length→ChI l n 1 k (chP l n 1 k)∧fitF (l.drop k) (chP l n 1 k)=true
 | 0,_=>⟨.first (by decide) C,by rw[List.drop_zero]; exact hf⟩
 | k+1,hk=>by
  obtain⟨I,h⟩:=C.path hf k (by omega)
  obtain⟨o,ho⟩:∃o,l[k]?=some o:=⟨_,List.getElem?_eq_getElem (by omega)⟩
  obtain⟨_,g2,g3,g4⟩:=I.next C ho h
  have key:chP l n 1 (k+1)=(aL (chP l n 1 k) l k o).1:=by
   rw[chP]
   cases hl:b9 l ((1:Nat):Int) (chP l n 1 k) with
   | nil=>rw[show ((1:Nat):Int)=1 from rfl]at hl; rw[hl]at g4; cases g4
   | cons y ys=>exact congrArg (·.2) (I.uniq C (hl ▸ List.mem_cons_self:y∈b9 l ((1:Nat):Int) (chP l n 1 k)) g4)
  rw[key]
  exact⟨g2,g3⟩
theorem Ch.path_eq (C:Ch l n 1) (hf:fitF l (am n)=true) {k:Nat} {o:HOp} (ho:l[k]?=some o):(aL (chP l n 1 k) l k o).1=chP l n 1 (k+1):=by
 obtain⟨I,h⟩:=C.path hf k (by have:=(List.getElem?_eq_some_iff.1 ho).1; omega)
 obtain⟨_,_,_,g4⟩:=I.next C ho h
 rw[chP]
 cases hl:b9 l ((1:Nat):Int) (chP l n 1 k) with
 | nil=>rw[show ((1:Nat):Int)=1 from rfl]at hl; rw[hl]at g4; cases g4
 | cons y ys=>exact congrArg (·.2) (I.uniq C g4 (hl ▸ List.mem_cons_self:y∈b9 l ((1:Nat):Int) (chP l n 1 k)))
theorem Ch.ops {k most:Nat} (C:Ch l n 1) (hf:fitF l (am n)=true) (hk:k≤l.length):∀(r:List HOp) (i:Nat) (L:List RS),l.drop i=r→L.length+1≤most →
  ek most l (chP l n 1 k) r i L=if i≤k∧k<l.length then rAdd L (chP l n 1 (k+1)) else L
 | [],i,L,h,_=>by
  have:=List.drop_eq_nil_iff.1 h
  rw[if_neg (by omega)]; rfl
 | o::r,i,L,h,hL=>by
  have ho:l[i]?=some o:=by
   have:=congrArg (fun x=>x[0]?) h
   simpa using this
  have hr:l.drop (i+1)=r:=by
   have:=congrArg List.tail h
   simpa using this
  obtain⟨I,hfk⟩:=C.path hf k hk
  rw[ek,if_pos (by omega),jG]
  by_cases hik:i=k
  ·subst hik
   obtain⟨g1,_⟩:=I.next C ho hfk
   have hlt:=(List.getElem?_eq_some_iff.1 ho).1
   rw[if_pos g1,if_pos ⟨Nat.le_refl _,hlt⟩,C.path_eq hf ho]
   have h2:=(jQ L (chP l n 1 (i+1))).2
   by_cases hc:(rAdd L (chP l n 1 (i+1))).length+1≤most
   ·rw[C.ops hf hk r (i+1) _ hr hc,if_neg (by omega)]
   ·cases r with
    | nil=>rfl
    | cons p r =>
     have hp:l[i+1]?=some p:=by
      have:=congrArg (fun x=>x[0]?) hr
      simpa using this
     have hr2:∀(r:List HOp) (j:Nat) (M:List RS),i<j→l.drop j=r→ek most l (chP l n 1 i) r j M=M:=fun r=>by
      induction r with
      | nil=>intro j M _ _; rfl
      | cons q r ih =>
       intro j M hj hd
       have hq:l[j]?=some q:=by
        have:=congrArg (fun x=>x[0]?) hd
        simpa using this
       rw[ek]
       split
       ·rw[jG,if_neg (fun ht=>by have:=((I.take C hq).1 (bW ht)).1; omega)]
        exact ih (j+1) M (by omega) (by have:=congrArg List.tail hd; simpa using this)
       ·rfl
     exact hr2 _ (i+1) _ (by omega) hr
  ·rw[if_neg (fun ht=>hik ((I.take C ho).1 (bW ht)).1),C.ops hf hk r (i+1) L hr hL]
   by_cases hc:i≤k∧k<l.length
   ·rw[if_pos hc,if_pos (by omega)]
   ·rw[if_neg hc,if_neg (by omega)]
theorem Ch.new (C:Ch l n 1) (hf:fitF l (am n)=true) {k:Nat} (hk:k<l.length):rAdd ((List.range (k+1)).map (chP l n 1)) (chP l n 1 (k+1))=(List.range (k+2)).map (chP l n 1):=by
 have hn:¬((List.range (k+1)).map (chP l n 1)).any (fun x=>gy x (chP l n 1 (k+1)))=true:=by
  rw[List.any_eq_true]
  rintro⟨x,hx,hs⟩
  obtain⟨m,hm,rfl⟩:=List.mem_map.1 hx
  have hm:=List.mem_range.1 hm
  rw[iq]at hs
  obtain⟨o,ho⟩:∃o,l[k]?=some o:=⟨_,List.getElem?_eq_getElem hk⟩
  obtain⟨I,_⟩:=C.path hf m (by omega)
  obtain⟨J,_⟩:=C.path hf (k+1) (by omega)
  obtain⟨o0,o1⟩:=C.scl.er k o ho
  have j0:=J.e0; have j1:=J.e1
  have h1:=(J.tk k o ho).2 ⟨by omega,by omega⟩
  rw[←hs]at h1
  have:=((I.tk k o ho).1 h1).1
  omega
 rw[rAdd,if_neg hn,List.range_succ (n:=k+1),List.map_append]
 rfl
theorem Ch.stG {most:Nat} (C:Ch l n 1) (hf:fitF l (am n)=true) (hm:l.length+2≤most):∀(N k:Nat),k≤l.length→l.length+2≤N+k→rStG most l 1 N k ((List.range (k+1)).map (chP l n 1))=(List.range (l.length+1)).map (chP l n 1)
 | 0,k,hk,h=>by omega
 | N+1,k,hk,h=>by
  have hg:((List.range (k+1)).map (chP l n 1))[k]?=some (chP l n 1 k):=by rw[List.getElem?_map,List.getElem?_range (by omega)]; rfl
  have hlen:((List.range (k+1)).map (chP l n 1)).length=k+1:=by rw[List.length_map,List.length_range]
  obtain⟨I,_⟩:=C.path hf k hk
  have e0:=I.e0
  have hcr:∀L,rCra l 1 (chP l n 1 k) L=L:=fun L=>by
   unfold rCra
   rw[dF (by omega)]; rfl
  rw[rStG,hg]
  simp only
  rw[if_pos (by omega),lY,hcr,C.ops hf hk l 0 _ List.drop_zero (by omega)]
  by_cases hkl:k<l.length
  ·rw[if_pos ⟨Nat.zero_le _,hkl⟩,C.new hf hkl]
   exact C.stG hf hm N (k+1) (by omega) (by omega)
  ·rw[if_neg (by omega)]
   have:k=l.length:=by omega
   subst this
   cases N with
   | zero=>rfl
   | succ N =>
    rw[rStG,List.getElem?_eq_none_iff.2 (by omega)]
theorem Ch.states (C:Ch l n 1) (hf:fitF l (am n)=true):(cw (l.length+2) l n 1).length=l.length+1:=by
 have:=C.stG hf (most:=l.length+2) (Nat.le_refl _) (l.length+4) 0 (Nat.zero_le _) (by omega)
 unfold cw
 rw[show[am n]=(List.range (0+1)).map (chP l n 1) from rfl,this,List.length_map,List.length_range]
end
theorem sd {h:List HEv} {b:Nat} {fuel:Int} {most:Nat} (hchk:chkH h=(0,0)) (hl:h.length≤8192) (h0:1≤b) (h1:b≤4096) (hf:0≤fuel) (hf2:fuel≤1000) (hm:(cw most (opsR h) b (ao h)).length≤most) :
  fz h b fuel∧(fuel<((cw most (opsR h) b (ao h)).length:Nat)→cv h b fuel=(0,4))∧(((cw most (opsR h) b (ao h)).length:Nat)≤fuel→cv h b fuel=(((cw most (opsR h) b (ao h)).length:Int),0)∧bO h b fuel=(cI (opsR h) b (ao h) (bigM h),0)):=by
 have hE:opE h b=0:=by rw[opE,hchk,if_pos rfl,if_neg (by omega)]
 have hL:lH h b=opsR h:=by rw[lH,opL,if_pos hE,opsH,hchk,if_pos rfl,jV (by rw[hchk])]
 have hol:(opsR h).length≤h.length:=ft h
 have hel:ao h≤h.length+1:=by have:=List.countP_le_length (p:=fun x:HEv=>decide (x.kind=3)) (l:=h); unfold ao; omega
 obtain⟨ks,kv,F⟩:=dP (opsR h) b (ao h)
 have S:=Sc.of F (by omega) (by omega) (by omega)
 have hp:pH h b=cn (opsR h) b (ao h):=by rw[pH,hL]
 have hR:fz h b fuel:=fE h b fuel hl (.inl (by omega)) fun _=>by
  have:fuel.toNat*(h.length+1)≤1000*8193:=Nat.mul_le_mul (by omega) (by omega)
  omega
 have he:=dG h
 obtain⟨s1,s2⟩:=S.states (most:=most) he hm hf
 refine⟨hR,fun hlt=>?_,fun hge=>?_⟩
 ·unfold cv gg
  rw[if_pos hE,if_neg (by omega),hp,hL,s1 hlt]
 ·obtain⟨q,sp,hr,M⟩:=s2 hge
  have I:=S.si he hr
  have P:=F.ok (by omega:(opsR h).length≤8192)
  obtain⟨I2,_⟩:=gn P he hr
  have hsame:=mS S (jW h) he I I2.spOk (μ:=muS (cn (opsR h) b (ao h)) (ao h) q.2) (N:=ao h+sumM (opsR h) b (ao h)+1) (fun i ys hys y hy=>I2.dn i ys hys y hy) (by rw[mu0 F I2 he]; exact Nat.lt_succ_self _) (Nat.lt_succ_self (ao h*((opsR h).length+1)))
  constructor
  ·unfold cv gg
   rw[if_pos hE,if_neg (by omega),hp,hL,hr]
   simp only
   rw[M.len]
  ·unfold bO gg
   rw[if_pos hE,if_neg (by omega),hp,hL,hr]
   simp only
   rw[hsame]
   rfl
theorem C4 {V:Nat→List UInt8→List UInt8} {l:List XE} {b:Nat} (hl:l.length≤512) (h0:3≤b) :
  bT (srE V l (am 3) 0)∧(srE V l (am 3) 0).length≤1024∧Ch (opsR (srE V l (am 3) 0)) b (ao (srE V l (am 3) 0))∧(opsR (srE V l (am 3) 0)).length+srN l=l.length∧ao (srE V l (am 3) 0)=1+srN l ∧
   (fitF (opsR (srE V l (am 3) 0)) (am b)=(srR l (am 3) 0).all fun p=>decide (p.2=V p.1 p.2)):=by
 obtain⟨h,hh⟩:∃h,h=srE V l (am 3) 0:=⟨_,rfl⟩
 have hm:(opsR h).map iw=srO V l (am 3) 0 0:=by rw[mO,hh]; exact n3 l _ 0 0
 have hA:bT h:=by
  have:=nW (V:=V) l (am 3) 0 [] jB (fun c=>rfl)
  rw[hh]; simpa using this
 have hlen:=rj (V:=V) l (am 3) 0
 rw[←hh]at hlen ⊢
 have hc:=yL (n:=b) h0 hm
 have hol:(opsR h).length+srN l=l.length:=by
  have:=nP (V:=V) l (am 3) 0 0
  rw[←hm,List.length_map]at this
  exact this
 have her:ao h=1+srN l:=by unfold ao; rw[hh,uz]
 refine⟨hA,by omega,hc,hol,her,?_⟩
 have hft:=nT (V:=V) l (am 3) (am b) 0 ⟨rfl,fun k _=>by rw[am,am]; simp only; rw[eM,eM],fun k _=>by rw[am,am]; simp only; rw[eM,eM],by simp[am],by simp[am],by simp[am]; omega,by simp[am]; omega⟩
 rw[show (am 3).era=0 from rfl,←hm,px]at hft
 exact hft
def knX (n:Nat):List XE:=(List.range n).map fun i=>⟨UInt8.ofNat (i % 8),UInt8.ofNat (i % 3),UInt8.ofNat (i*5)⟩
theorem mc (n:Nat):(knX n).length=n:=by simp[knX]
theorem mb (n:Nat):knX (n+1)=knX n++[⟨UInt8.ofNat (n % 8),UInt8.ofNat (n % 3),UInt8.ofNat (n*5)⟩]:=by simp[knX,List.range_succ]
theorem rY (n:Nat):srN (knX n)=0:=by
 unfold srN
 refine List.countP_eq_zero.2 fun x hx=>?_
 obtain⟨i,_,rfl⟩:=List.mem_map.1 hx
 rw[decide_eq_true_eq]
 simp only[UInt8.toNat_ofNat']
 omega
theorem ri:∀(a b:List XE) (i:Nat) (r:Int),srN a=0→srL (a++b) i r=srL b (i+2*a.length) (srL a i r)
 | [],_,_,_,_=>rfl
 | x::a,b,i,r,h=>by
  rw[srN,List.countP_cons]at h
  have hw:¬200<x.who.toNat:=fun hw=>by rw[if_pos (dT hw)]at h; omega
  have h1:srN a=0:=by unfold srN; omega
  rw[List.cons_append,srL,srL,ri a b _ _ h1,show srW x=2 by rw[srW,if_neg hw],List.length_cons]
  congr 1
  omega
structure KnS (h:List HEv) (la:Int):Prop where
 len:h.length≤1024
 la:0≤la
 r1:fz h 4096 600
 r2:fz h 4096 513
 r3:fz h 4096 512
 s2:cv h 4096 513=(513,0)
 s3:cv h 4096 512=(0,4)
 f1:bO h 4096 600=((zs (List.range 512),true),0)
theorem Aw:KnS (serH (knX 512)) (srL (knX 512) 0 (-1)):=by
 have hl:(knX 512).length=512:=mc _
 have hw:=rY 512
 obtain⟨hA,hlen,C,hol,her,hft⟩:=C4 (V:=idV) (l:=knX 512) (b:=4096) (by omega) (by decide)
 obtain⟨g1,_,g4,_,g6,g7,_⟩:=C3 (V:=idV) (b:=4096) (fuel:=600) (l:=knX 512) (by omega) (by decide) (by decide) (by omega) (by decide)
 have hall:((srR (knX 512) (am 3) 0).all fun p=>decide (p.2=idV p.1 p.2))=true:=by
  rw[List.all_eq_true]; exact fun p _=>dT rfl
 rw[hall]at hft g6
 have hchk:=ob hA (by omega)
 have hw0:ao (serH (knX 512))=1:=by rw[her,hw]
 have hN:(opsR (serH (knX 512))).length=512:=by have h9:=hol; rw[hw,hl,Nat.add_zero]at h9; exact h9
 have hst:(cw 514 (opsR (serH (knX 512))) 4096 (ao (serH (knX 512)))).length=513:=by
  rw[hw0]at C ⊢
  have:=C.states hft
  rw[hN]at this
  exact this
 obtain⟨r2,_,s2⟩:=sd (most:=514) (b:=4096) (fuel:=513) hchk (by omega) (by decide) (by decide) (by decide) (by decide) (by rw[hst]; decide)
 obtain⟨r3,s3,_⟩:=sd (most:=514) (b:=4096) (fuel:=512) hchk (by omega) (by decide) (by decide) (by decide) (by decide) (by rw[hst]; decide)
 rw[hst]at s2 s3
 obtain⟨Z,hZ⟩:∃Z,Z=zs (List.range (opsR (serH (knX 512))).length):=⟨_,rfl⟩
 have g7:=g7 g6
 rw[←hZ]at g7
 have hf1:bO (serH (knX 512)) 4096 600=((Z,true),0):=by
  generalize bO (serH (knX 512)) 4096 600=r at *
  obtain⟨⟨r1,r2⟩,r3⟩:=r
  simp only at g7 g6 g4
  rw[g7,g6,g4]
 rw[hZ,hN]at hf1
 refine⟨hlen,?_,g1,r2,r3,(s2 (by decide)).1,s3 (by decide),hf1⟩
 obtain⟨N,hN9⟩:∃N:Nat,N=510:=⟨_,rfl⟩
 rw[show (512:Nat)=N+1+1 by omega,mb,mb,ri _ _ _ _ (by rw[←mb]; exact rY _),ri _ _ _ _ (rY _)]
 have h510:N % 3=0∧(N+1) % 3=1:=by omega
 simp only[srL,h510.1,h510.2]
 have e1:¬200<(UInt8.ofNat (N % 8)).toNat:=by simp only[UInt8.toNat_ofNat']; omega
 have e2:¬200<(UInt8.ofNat ((N+1) % 8)).toNat:=by simp only[UInt8.toNat_ofNat']; omega
 rw[if_neg e2,if_neg (show ¬srK ⟨UInt8.ofNat ((N+1) % 8),UInt8.ofNat 1,UInt8.ofNat ((N+1)*5)⟩=1 from (by decide:¬1+(UInt8.ofNat 1).toNat % 3=1)),if_neg e1,if_pos (show srK ⟨UInt8.ofNat (N % 8),UInt8.ofNat 0,UInt8.ofNat (N*5)⟩=1 from (by decide:1+(UInt8.ofNat 0).toNat % 3=1))]
 omega
end Go.Proofs.Ytmdgmolbamlicaa
namespace Go.Proofs.Ytmdgmolbamlicaa
open Go.Eng Go.Plain
set_option maxHeartbeats 32000000
set_option maxRecDepth 20000
def wdF (c:Nat):HEv:=⟨1,(c:Int),⟨3,0,[]⟩,zBk,0⟩
def wdB (c:Int):HEv:=⟨2,c,zOp,zBk,0⟩
def wdH (n:Nat):List HEv:=(List.range n).map wdF
def wdR (n:Nat):List HEv:=wdH 8++(List.range n).map fun i:Nat=>wdB (7-(i:Int))
structure Fl (l:List HOp):Prop where
 len:l.length=8
 bef:∀o∈l,∀p∈l,befB o p=false
 may:∀o∈l,o.era=0∧mayB o (1:Nat)=true∧o.op.kind=3
def stS (T:List Int):RS:=⟨0,T,List.replicate 1 zBk,List.replicate 1 zBk⟩
section
variable {l : List HOp}
theorem Fl.hit (H:Fl l) {o:HOp} (ho:o∈l) (T:List Int):∀(r:List HOp) (k:Nat),(∀p∈r,p∈l)→hitL (stS T) o r k=false
 | [],_,_=>rfl
 | p::r,k,hr=>by
  have hp:=hr p List.mem_cons_self
  rw[hitL,H.hit ho T r (k+1) (fun q hq=>hr q (List.mem_cons_of_mem _ hq)),Bool.or_false,hitB,H.bef o ho p hp,H.bef p hp o ho]
  split <;> simp
theorem Fl.take (H:Fl l) {i:Nat} {o:HOp} (ho:l[i]?=some o) (T:List Int):aL (stS T) l i o=if hasB T (i:Int) then (stS T,false) else (stS (cf T i),true):=by
 have hm:=List.mem_of_getElem? ho
 obtain⟨h1,h2,h3⟩:=H.may o hm
 have hb:takB (stS T) l i o = !hasB T (i:Int):=by
  unfold takB
  rw[H.hit hm T l 0 (fun _ h=>h),show (stS T).era=0 from rfl,show (stS T).arr.length=1 from rfl,dT h1,h2]
  simp[stS]
 rw[aL,hb]
 cases hasB T (i:Int) with
 | true=>rfl
 | false =>
  rw[if_pos (show (!false)=true from rfl),if_neg (show ¬false=true from fun h=>by cases h),hapR,if_neg (by omega),if_neg (by omega)]
  rfl
end
def tOf (m:Nat):List Int:=((List.range 8).filter fun i=>m.testBit i).map fun i:Nat=>(i:Int)
def unT (T:List Int):Nat:=T.foldl (fun a i=>a+2 ^ i.toNat) 0
theorem By:∀m<256,∀i<8,hasB (tOf m) ((i:Nat):Int)=m.testBit i:=by decide+kernel
theorem yw:∀m<256,∀i<8,m.testBit i=false→cf (tOf m) ((i:Nat):Int)=tOf (m ||| 2 ^ i)∧(m ||| 2 ^ i)<256:=by decide+kernel
theorem yx:∀m<256,unT (tOf m)=m:=by decide+kernel
def mAdd (L:List Nat) (m:Nat):List Nat:=if L.any (fun x=>Nat.beq x m) then L else L++[m]
def mOps (most m:Nat):Nat→Nat→List Nat→List Nat
 | 0,_,L=>L
 | n+1,i,L=>if L.length≤most then mOps most m n (i+1) (if m.testBit i then L else mAdd L (m ||| 2 ^ i)) else L
def mSt (most:Nat):Nat→Nat→List Nat→List Nat
 | 0,_,L=>L
 | n+1,a,L=>match L[a]? with
  | none=>L
  | some m=>if L.length≤most then mSt most n (a+1) (mOps most m 8 0 L) else L
abbrev fS (m:Nat):RS:=stS (tOf m)
theorem Dx {L:List Nat} {m:Nat} (hL:∀x∈L,x<256) (hm:m<256):rAdd (L.map fS) (fS m)=(mAdd L m).map fS:=by
 have h:(L.map fS).any (fun x=>gy x (fS m))=L.any (fun x=>Nat.beq x m):=by
  rw[Bool.eq_iff_iff,List.any_eq_true,List.any_eq_true]
  constructor
  ·rintro⟨y,hy,h⟩
   obtain⟨x,hx,rfl⟩:=List.mem_map.1 hy
   rw[iq]at h
   have h2:unT (tOf x)=unT (tOf m):=congrArg (fun s:RS=>unT s.taken) h
   rw[yx x (hL x hx),yx m hm]at h2
   subst h2
   exact⟨x,hx,Nat.beq_refl x⟩
  ·rintro⟨x,hx,h⟩
   have:x=m:=Nat.eq_of_beq_eq_true h
   subst this
   exact⟨fS x,List.mem_map.2 ⟨x,hx,rfl⟩,iq.2 rfl⟩
 unfold rAdd mAdd
 rw[h]
 split
 ·rfl
 ·rw[List.map_append]; rfl
theorem BX {L:List Nat} {m:Nat} (hL:∀x∈L,x<256) (hm:m<256):∀x∈mAdd L m,x<256:=by
 unfold mAdd
 split
 ·exact hL
 ·intro x hx
  rcases List.mem_append.1 hx with h | h
  ·exact hL x h
  ·rw[List.mem_singleton.1 h]; exact hm
theorem vm {l:List HOp} (H:Fl l) {most m:Nat} (hm:m<256):∀(n i:Nat) (r:List HOp) (L:List Nat),i+n=8→l.drop i=r→(∀x∈L,x<256) →
  ek most l (fS m) r i (L.map fS)=(mOps most m n i L).map fS∧∀x∈mOps most m n i L,x<256
 | 0,i,r,L,hn,hr,hL=>by
  have:r=[]:=by rw[←hr]; exact List.drop_eq_nil_iff.2 (by have:=H.len; omega)
  subst this
  exact⟨rfl,hL⟩
 | n+1,i,r,L,hn,hr,hL=>by
  have hlt:i<l.length:=by have:=H.len; omega
  obtain⟨o,ho⟩:∃o,l[i]?=some o:=⟨_,List.getElem?_eq_getElem hlt⟩
  have hd:r=o::l.drop (i+1):=by rw[←hr,List.drop_eq_getElem_cons hlt,(List.getElem?_eq_some_iff.1 ho).2]
  subst hd
  rw[ek,mOps,List.length_map]
  by_cases hc:L.length≤most
  ·rw[if_pos hc,if_pos hc,jG,H.take ho,By m hm i (by omega)]
   cases hb:m.testBit i with
   | true=>exact vm H hm n (i+1) _ L (by omega) rfl hL
   | false =>
    obtain⟨h1,h2⟩:=yw m hm i (by omega) hb
    have:=Dx hL h2
    simp only[Bool.false_eq_true,if_false,if_true,h1]
    rw[show stS (tOf (m ||| 2 ^ i))=fS (m ||| 2 ^ i) from rfl,this]
    exact vm H hm n (i+1) _ _ (by omega) rfl (BX hL h2)
  ·rw[if_neg hc,if_neg hc]
   exact⟨rfl,hL⟩
theorem CK {l:List HOp} (H:Fl l) {most:Nat}:∀(n a:Nat) (L:List Nat),(∀x∈L,x<256)→rStG most l 1 n a (L.map fS)=(mSt most n a L).map fS
 | 0,_,_,_=>rfl
 | n+1,a,L,hL=>by
  rw[rStG,mSt,List.getElem?_map]
  cases hx:L[a]? with
  | none=>rfl
  | some m =>
   simp only[Option.map_some,List.length_map]
   by_cases hc:L.length≤most
   ·rw[if_pos hc,if_pos hc]
    obtain⟨h1,h2⟩:=vm H (most:=most) (hL m (List.mem_of_getElem? hx)) 8 0 l L (by omega) List.drop_zero hL
    have hcr:∀M,rCra l 1 (fS m) M=M:=fun M=>by
     unfold rCra
     rw[show decide ((fS m).era<1-1)=false from rfl]; rfl
    rw[lY,hcr,h1]
    exact CK H n (a+1) _ h2
   ·rw[if_neg hc,if_neg hc]
theorem m256:(mSt 256 258 0 [0]).length=256:=by decide+kernel
theorem Fl.states {l:List HOp} (H:Fl l):(cw 256 l 1 1).length=256:=by
 have h:=CK H (most:=256) 258 0 [0] (fun x hx=>by rw[List.mem_singleton.1 hx]; decide)
 unfold cw
 rw[show[am 1]=[0].map fS from rfl,h,List.length_map,m256]
theorem fl1:Fl (opsR (wdH 8)):=⟨by decide+kernel,by decide+kernel,by decide+kernel⟩
theorem fl2:Fl (opsR (wdR 8)):=⟨by decide+kernel,by decide+kernel,by decide+kernel⟩
theorem wd1:fz (wdH 8) 1 256∧cv (wdH 8) 1 256=(256,0)∧bO (wdH 8) 1 256=(([],true),0):=by
 have he:ao (wdH 8)=1:=by decide+kernel
 have hs:(cw 256 (opsR (wdH 8)) 1 (ao (wdH 8))).length=256:=by rw[he]; exact fl1.states
 obtain⟨g1,_,g3⟩:=sd (h:=wdH 8) (b:=1) (fuel:=256) (most:=256) (by decide+kernel) (by decide) (by decide) (by decide) (by decide) (by decide) (by rw[hs]; decide)
 rw[hs]at g3
 obtain⟨g3,g4⟩:=g3 (by decide)
 refine⟨g1,g3,g4.trans ?_⟩
 rw[show cI (opsR (wdH 8)) 1 (ao (wdH 8)) (bigM (wdH 8))=([],true) by decide+kernel]
theorem wd2:fz (wdR 8) 1 256∧bO (wdR 8) 1 256=(([0,1,2,3,4,5,6,7],true),0):=by
 have he:ao (wdR 8)=1:=by decide+kernel
 have hs:(cw 256 (opsR (wdR 8)) 1 (ao (wdR 8))).length=256:=by rw[he]; exact fl2.states
 obtain⟨g1,_,g3⟩:=sd (h:=wdR 8) (b:=1) (fuel:=256) (most:=256) (by decide+kernel) (by decide) (by decide) (by decide) (by decide) (by decide) (by rw[hs]; decide)
 rw[hs]at g3
 obtain⟨_,g4⟩:=g3 (by decide)
 refine⟨g1,g4.trans ?_⟩
 rw[show cI (opsR (wdR 8)) 1 (ao (wdR 8)) (bigM (wdR 8))=([0,1,2,3,4,5,6,7],true) by decide+kernel]
def bd0:List HEv:=[⟨1,0,⟨1,1,[]⟩,zBk,0⟩,⟨2,0,zOp,zBk,0⟩]
def bdH:List HEv:=bd0++didL (wrO 1) zBk
theorem bd1:(bO bdH 1 9).1.2=false∧(bO bdH 1 9).2=0:=by decide+kernel
theorem bd2:cv bdH 1 9=(1,0):=by decide+kernel
theorem bd3:(bO bdH 2 9).1.2=true∧(bO bdH 2 9).2=0:=by decide+kernel
end Go.Proofs.Ytmdgmolbamlicaa
namespace Go.Proofs.Ytmdgmolbamlicaa
open Go.Eng Go.Plain
set_option maxHeartbeats 32000000
set_option maxRecDepth 20000
set_option linter.unusedVariables false
attribute [local irreducible] WC RegS RegD SeqQ BlkQ ScoQ RegK CutK Sat SatN FnIs LoopQ ab OpIs
theorem Ae (a b:Int):cr (stsE a b) []:=by
 intro σ w X X'
 refine⟨fun v hv=>?_,fun r row hr=>by simp[lk]at hr⟩
 unfold RelV at hv ⊢
 rw[if_neg (by simp[AV.isAgg])]at hv ⊢
 exact hv
theorem jm (i k:Nat) (h:i*k≤1000000000):IntKind.i64.wrap ((i:Int)*(k:Int))=((i*k:Nat):Int):=by rw[←Int.natCast_mul]; exact aH (by omega) (by omega)
structure KnR (X:List XE) (h:List HEv) (la:Int) (O:List Int) (el:Int):Prop where
 ser:FnIs Try.prog 4 [.d (AY X)] [] (.tup (.acons (.own 64 0 h.length 38 none) (.acons (.int .i64 la) .anil))) [(64,.ds 42 38 false bu h)]
 fnd:FnIs Try.prog 5 [.d (encH h),.int .i64 4096,.int .i64 600] [] (fndE O true 0) []
 st1:FnIs Try.prog 6 [.d (encH h),.int .i64 4096,.int .i64 513] [] (stsE 513 0) []
 st2:FnIs Try.prog 6 [.d (encH h),.int .i64 4096,.int .i64 512] [] (stsE 0 4) []
 ol:(!decide ((O.length:Int)=512))=false
 ol2:O.length=512
 oe:O[((511:Int)).toNat]?=some el
 ev:(!decide (el=511))=false
 lv:decide (la<0)=false
theorem B4 (i:Nat) (he:i=512):∃X h la O el,knX i=X∧KnR X h la O el:=by
 subst he
 have K:=Aw
 have hs:=xl (knX 512) (by rw[mc]; decide)
 have h1:=jp K.r1
 have h2:=gm K.r2
 have h3:=gm K.r3
 rw[K.f1]at h1
 rw[K.s2]at h2
 rw[K.s3]at h3
 have hz:(zs (List.range 512)).length=512:=by rw[fj,List.length_range]
 exact⟨_,_,_,_,511,rfl,hs,h1,h2,h3,by rw[hz]; rfl,hz,by rw[zs,List.getElem?_map,List.getElem?_range (by decide)]; rfl,rfl,dF (by have:=K.la; omega)⟩
abbrev kx (i:Nat):List XE:=[⟨0,UInt8.ofNat i,UInt8.ofNat (i*3)⟩,⟨1,UInt8.ofNat (i*7),UInt8.ofNat i⟩,⟨UInt8.ofNat (i % 2),UInt8.ofNat (i % 5),UInt8.ofNat i⟩,⟨2,UInt8.ofNat (i*5),1⟩,⟨UInt8.ofNat (i % 3),UInt8.ofNat (i*11),UInt8.ofNat i⟩,⟨3,UInt8.ofNat (i*2),0⟩,⟨UInt8.ofNat (i % 3),UInt8.ofNat i,1⟩,⟨UInt8.ofNat (i % 3),1,UInt8.ofNat (i*9)⟩]
theorem tg:FnIs Try.prog 3 [] [] (.bool true) []:=by
 refine aq aa Try.func3 rfl rfl rfl ?_;refine z17 ?_
 refine wc_inv (fun i:Nat=>⟨[(2,.int .i64 i),(1,.own 65 0 (knX i).length 3 none)],[(65,some (.ds 24 3 false qN (knX i)))],72,Try.f3.ntmps,64⟩) (fun i=>i≤512) (fun i=>512-i) 0 [(65,none)] (Nat.zero_le _)
  (lg zk ⟨⟨rfl,rfl,rfl⟩,trivial⟩) ?_
 intro i hi
 refine bt ?_;refine z7 ?_
 refine eW rfl (fun h3=>?_) (fun h3=>?_)
 ·have hlt:i<512:=by have:=of_decide_eq_true h3; omega
  clear h3
  have hbl:=mc i
  have hlen:(knX i).length+1≤1048576:=by omega
  have hsu:=mb i
  have hl1:(knX i).length+1=(knX (i+1)).length:=by rw[mc,mc]
  refine z7 ?_;refine rQ (aZ (a:=i) (b:=8) aa rfl rfl rfl (by decide)) ?_;refine rQ (aR (m:=((UInt8.ofNat (i % 8)).toNat:Int)) aa rfl rfl rfl (cj (i % 8))) ?_;refine z1 ?_;refine rQ (aZ (a:=i) (b:=3) aa rfl rfl rfl (by decide)) ?_;refine rQ (aR (m:=((UInt8.ofNat (i % 3)).toNat:Int)) aa rfl rfl rfl (cj (i % 3))) ?_;refine z1 ?_;refine rQ (ed (m:=((i*5:Nat):Int)) aa rfl rfl (jm i 5 (by omega))) ?_;refine rQ (aR (m:=((UInt8.ofNat (i*5)).toNat:Int)) aa rfl rfl rfl (cj (i*5))) ?_;refine z1 ?_;refine aO (ae (s:=3) aa rfl rfl rfl rfl rfl rfl rfl rfl) rfl ?_;refine aC (aJ (enc:=qN) (s:=3) (xs:=knX i) aa ⟨UInt8.ofNat (i % 8),UInt8.ofNat (i % 3),UInt8.ofNat (i*5)⟩ rfl rfl rfl rfl rfl rfl rfl rfl rfl hlen rfl) rfl ?_;refine z9 ?_
  exact an (i+1) [(65,some _)] hlt (by omega) (lg ⟨zE,rfl,⟨_,rfl,AVLe.of_eq (congrArg (fun n=>AV.own _ 0 n 3 none) hl1)⟩,rfl,trivial⟩ ⟨⟨rfl,rfl,_,rfl,aM.of_eq (by rw[hsu]; rfl)⟩,trivial⟩)
 have hge:i=512:=by have:=of_decide_eq_false h3; omega
 clear h3
 obtain⟨X,h,la,O,el,hX,B⟩:=B4 i hge
 rw[hX]
 clear hX
 have hoe:=B.oe
 have hol:=B.ol2
 have e3:=B.lv
 have e2:=B.ev
 have e1:=B.ol
 refine z5 ?_;refine de (env':=[(1,_)]) (h':=[]) 65 _ rfl ⟨⟨_,rfl,Frz.own rfl⟩,trivial⟩ trivial ?_;refine z3 ?_;refine aO (aS [] B.ser rfl rfl rfl (aE au) trivial rfl rfl (.inl rfl) rfl rfl) rfl ?_;refine z7 ?_;refine de (env':=[(3,_),(4,_)]) (h':=[]) 96 _ rfl ⟨⟨_,rfl,Frz.own rfl⟩,zE,trivial⟩ trivial ?_;refine z3 ?_;refine rQ (yK B.fnd) ?_;refine z12 ?_;refine rQ (yK B.st1) ?_;refine z10 ?_;refine rQ (yK B.st2) ?_;refine z48 ?_;refine rQ (mR (xs:=O) aa rfl rfl rfl rfl rfl (by omega) hoe) ?_;refine z28 ?_
 refine wc_inv (fun i:Nat=>⟨[(13,.int .i64 i),(12,.own 65 0 (wdH i).length 38 none)],[(65,some (.ds 42 38 false bu (wdH i)))],72,Try.f3.ntmps,64⟩) (fun i=>i≤8) (fun i=>8-i) 0 [(65,none)] (Nat.zero_le _)
  (lg zk ⟨⟨rfl,rfl,rfl⟩,trivial⟩) ?_
 clear hoe hol e1 e2 e3 B hge hi
 clear X h la O el i
 intro i hi
 refine bt ?_;refine z7 ?_
 refine eW rfl (fun h3=>?_) (fun h3=>?_)
 ·have hlt:i<8:=by have:=of_decide_eq_true h3; omega
  clear h3
  have hlw:∀n,(wdH n).length=n:=fun n=>by simp[wdH]
  have hbl:=hlw i
  have hlen:(wdH i).length+1≤1048576:=by omega
  have hsu:wdH (i+1)=wdH i++[wdF i]:=by simp[wdH,List.range_succ]
  have hl1:(wdH i).length+1=(wdH (i+1)).length:=by rw[hlw,hlw]
  refine z8 ?_;refine rQ (ab.val_le (aK aa rfl rfl rfl rfl) (eP 1 (i:Int) 3 0 0 zBk) rfl) ?_;refine aO (ae (s:=38) aa rfl rfl rfl rfl rfl rfl rfl rfl) rfl ?_;refine aC (aJ (enc:=bu) (s:=38) (xs:=wdH i) aa (wdF i) rfl rfl rfl rfl rfl rfl rfl rfl rfl hlen rfl) rfl ?_;refine z9 ?_
  exact an (i+1) [(65,some _)] hlt (by omega) (lg ⟨zE,rfl,⟨_,rfl,AVLe.of_eq (congrArg (fun n=>AV.own _ 0 n 38 none) hl1)⟩,rfl,trivial⟩ ⟨⟨rfl,rfl,_,rfl,aM.of_eq (by rw[hsu]; rfl)⟩,trivial⟩)
 have hge:i=8:=by have:=of_decide_eq_false h3; omega
 clear h3
 subst hge
 have hsm:∀(q:List HEv) (b fuel:Int),q.length≤100→fuel≤1000→fz q b fuel:=fun q b fuel h1 h2=>fE q b fuel (by omega) (.inl (by omega)) fun _=>by
  have:=Nat.mul_le_mul (show fuel.toNat≤1000 by omega) (show q.length+1≤101 by omega); omega
 have hw1:=gm wd1.1
 rw[wd1.2.1]at hw1
 have hw2:FnIs Try.prog 5 [.own 0 0 (wdH 8).length 38 none,.int .i64 1,.int .i64 256] [(0,evRo (wdH 8))] (.tup (.acons (.sl 0) (.acons (.bool true) (.acons (.int .i64 0) .anil)))) [(0,evRo (wdH 8))]:=by
  have:=jp wd1.1
  rw[wd1.2.2]at this
  exact FnIs.lend (CY rfl _ _) (jE.sl2 _ _ _) (FnIs.res_le (AVLe.tup1 (AVLe.sl_arx rfl) rfl) (fun _=>⟨trivial,trivial,trivial,trivial⟩) this)
 refine z8 ?_;refine rQ (ii hw1 rfl rfl (od rfl (aE (aE au))) (.inr (Ae _ _)) (fun _=>rfl)) ?_;refine z10 ?_;refine aC (aS [(0,some 65)] hw2 rfl rfl rfl (iV rfl rfl (aE (aE au))) ⟨zH,trivial⟩ rfl rfl (.inl rfl) rfl rfl) rfl ?_;refine z36 ?_;refine rQ (Dg aa rfl rfl) ?_;refine z15 ?_
 have hl0:(wdH 8).length=(wdR 0).length:=by simp[wdR]
 have hr0:wdH 8=wdR 0:=by simp[wdR]
 refine wc_inv (fun i:Nat=>⟨[(14,.int .i64 i),(12,.own 65 0 (wdR i).length 38 none)],[(65,some (.ds 42 38 false bu (wdR i)))],72,Try.f3.ntmps,64⟩) (fun i=>i≤8) (fun i=>8-i) 0 [(65,some 65)] (Nat.zero_le _)
  (lg ⟨zE,rfl,⟨_,rfl,AVLe.of_eq (congrArg (fun n=>AV.own _ 0 n 38 none) hl0)⟩,rfl,trivial⟩ ⟨⟨rfl,rfl,_,rfl,aM.of_eq (congrArg (fun l=>Row.ds 42 38 false bu l) hr0)⟩,trivial⟩) ?_
 clear hw1 hw2 hl0 hr0 hi
 intro i hi
 refine bt ?_;refine z7 ?_
 refine eW rfl (fun h3=>?_) (fun h3=>?_)
 ·have hlt:i<8:=by have:=of_decide_eq_true h3; omega
  clear h3
  have hlw:∀n,(wdR n).length=8+n:=fun n=>by simp[wdR,wdH]
  have hbl:=hlw i
  have hlen:(wdR i).length+1≤1048576:=by omega
  have hsu:wdR (i+1)=wdR i++[wdB (7-(i:Int))]:=by simp[wdR,List.range_succ]
  have hl1:(wdR i).length+1=(wdR (i+1)).length:=by rw[hlw,hlw]; omega
  have hw137:IntKind.i64.wrap (7-(i:Int))=7-(i:Int):=aH (by omega) (by omega)
  refine z7 ?_;refine rQ (cm (m:=7-(i:Int)) aa rfl rfl hw137) ?_;refine rQ (ab.val_le (aK aa rfl rfl rfl rfl) (eP 2 (7-(i:Int)) 0 0 0 zBk) rfl) ?_;refine aO (ae (s:=38) aa rfl rfl rfl rfl rfl rfl rfl rfl) rfl ?_;refine aC (aJ (enc:=bu) (s:=38) (xs:=wdR i) aa (wdB (7-(i:Int))) rfl rfl rfl rfl rfl rfl rfl rfl rfl hlen rfl) rfl ?_;refine z9 ?_
  exact an (i+1) [(65,some _)] hlt (by omega) (lg ⟨zE,rfl,⟨_,rfl,AVLe.of_eq (congrArg (fun n=>AV.own _ 0 n 38 none) hl1)⟩,rfl,trivial⟩ ⟨⟨rfl,rfl,_,rfl,aM.of_eq (by rw[hsu]; rfl)⟩,trivial⟩)
 have hge:i=8:=by have:=of_decide_eq_false h3; omega
 clear h3
 subst hge
 refine z5 ?_;refine de (env':=[(12,_)]) (h':=[]) 65 _ rfl ⟨⟨_,rfl,Frz.own rfl⟩,trivial⟩ trivial ?_
 have hw3:=jp wd2.1
 rw[wd2.2]at hw3
 have hb1:=iC (hsm bdH 1 9 (by decide) (by decide))
 rw[bd1.1,bd1.2]at hb1
 have hb2:=gm (hsm bdH 1 9 (by decide) (by decide))
 rw[bd2]at hb2
 have hb3:=iC (hsm bdH 2 9 (by decide) (by decide))
 rw[bd3.1,bd3.2]at hb3
 have hbb:FnIs Try.prog 11 [.d (ce ⟨1,1,[]⟩),.int .i64 1] [] (.d (i6 1)) []:=by
  have:=nZ ⟨1,1,[]⟩ 1
  rw[show badO ⟨1,1,[]⟩ 1=true by decide]at this
  exact this
 have hbg:(bd0++didL (wrO 1) zBk)[((0:Int)).toNat]?=some ⟨1,0,⟨1,1,[]⟩,zBk,0⟩:=rfl
 refine z28 ?_;refine rQ (ab.frozen (ae (s:=1) aa rfl rfl rfl rfl rfl rfl rfl rfl) (Frz.litsN (enc:=i6) [0,1,2,3,4,5,6,7] rfl (fun _ _=>rfl))) ?_;refine z1 ?_;refine rQ (yK (kL [0,1,2,3,4,5,6,7] (by decide))) ?_;refine z11 ?_;refine rQ (ab.val_le (aK aa rfl rfl rfl rfl) (eP 1 0 1 1 0 zBk) rfl) ?_;refine rQ (ab.val_le (aK aa rfl rfl rfl rfl) (eP 2 0 0 0 0 zBk) rfl) ?_;refine rQ (ab.frozen (ae (s:=38) aa rfl rfl rfl rfl rfl rfl rfl rfl) (Frz.litsX (enc:=bu) bd0 rfl (fun _=>rfl))) ?_;refine rQ (yK (fm 1)) ?_;refine rQ (bB aa rfl rfl rfl) ?_;refine rQ (yK (jx (wrO 1) zBk)) ?_;refine rQ (ab.frozen (dL (s:=38) (enc:=bu) (xs:=bd0) (ys:=didL (wrO 1) zBk) aa rfl rfl rfl rfl rfl rfl (by decide) (by decide) rfl) (Frz.own (by decide))) ?_;refine z60 ?_;refine z13 ?_;refine rQ (bK (xs:=bd0++didL (wrO 1) zBk) aa rfl rfl rfl rfl rfl (by decide) hbg) ?_;refine z21 ?_
 refine wc_inv (fun i:Nat=>⟨[(18,.int .i64 i)],[],72,Try.f3.ntmps,64⟩) (fun i=>i≤150) (fun i=>150-i) 0 [] (Nat.zero_le _)
  (lg zl trivial) ?_
 clear hw3 hb1 hb2 hb3 hbb hbg hsm hi
 intro i hi
 refine bt ?_;refine z7 ?_
 refine eW rfl (fun h3=>?_) (fun h3=>?_)
 ·have hlt:i<150:=by have:=of_decide_eq_true h3; omega
  clear h3
  have hw297:IntKind.i64.wrap ((i:Int)+1)=((i+1:Nat):Int):=by rw[aH (by omega) (by omega)]; omega
  have hw277:IntKind.i64.wrap (((i % 3:Nat):Int)-1)=((i % 3:Nat):Int)-1:=aH (by omega) (by omega)
  have hw278:IntKind.i8.wrap (((i % 3:Nat):Int)-1)=((i % 3:Nat):Int)-1:=by
   have:i % 3=0∨i % 3=1∨i % 3=2:=by omega
   rcases this with h | h | h <;> rw[h] <;> rfl
  refine z7 ?_;refine rQ (aR (m:=((UInt8.ofNat (i)).toNat:Int)) aa rfl rfl rfl (cj (i))) ?_;refine z1 ?_;refine rQ (ed (m:=((i*3:Nat):Int)) aa rfl rfl (jm i 3 (by omega))) ?_;refine rQ (aR (m:=((UInt8.ofNat (i*3)).toNat:Int)) aa rfl rfl rfl (cj (i*3))) ?_;refine z2 ?_;refine rQ (ed (m:=((i*7:Nat):Int)) aa rfl rfl (jm i 7 (by omega))) ?_;refine rQ (aR (m:=((UInt8.ofNat (i*7)).toNat:Int)) aa rfl rfl rfl (cj (i*7))) ?_;refine z1 ?_;refine rQ (aR (m:=((UInt8.ofNat (i)).toNat:Int)) aa rfl rfl rfl (cj (i))) ?_;refine z2 ?_;refine rQ (aZ (a:=i) (b:=2) aa rfl rfl rfl (by decide)) ?_;refine rQ (aR (m:=((UInt8.ofNat (i % 2)).toNat:Int)) aa rfl rfl rfl (cj (i % 2))) ?_;refine z1 ?_;refine rQ (aZ (a:=i) (b:=5) aa rfl rfl rfl (by decide)) ?_;refine rQ (aR (m:=((UInt8.ofNat (i % 5)).toNat:Int)) aa rfl rfl rfl (cj (i % 5))) ?_;refine z1 ?_;refine rQ (aR (m:=((UInt8.ofNat (i)).toNat:Int)) aa rfl rfl rfl (cj (i))) ?_;refine z2 ?_;refine rQ (ed (m:=((i*5:Nat):Int)) aa rfl rfl (jm i 5 (by omega))) ?_;refine rQ (aR (m:=((UInt8.ofNat (i*5)).toNat:Int)) aa rfl rfl rfl (cj (i*5))) ?_;refine z2 ?_;refine rQ (aZ (a:=i) (b:=3) aa rfl rfl rfl (by decide)) ?_;refine rQ (aR (m:=((UInt8.ofNat (i % 3)).toNat:Int)) aa rfl rfl rfl (cj (i % 3))) ?_;refine z1 ?_;refine rQ (ed (m:=((i*11:Nat):Int)) aa rfl rfl (jm i 11 (by omega))) ?_;refine rQ (aR (m:=((UInt8.ofNat (i*11)).toNat:Int)) aa rfl rfl rfl (cj (i*11))) ?_;refine z1 ?_;refine rQ (aR (m:=((UInt8.ofNat (i)).toNat:Int)) aa rfl rfl rfl (cj (i))) ?_;refine z2 ?_;refine rQ (ed (m:=((i*2:Nat):Int)) aa rfl rfl (jm i 2 (by omega))) ?_;refine rQ (aR (m:=((UInt8.ofNat (i*2)).toNat:Int)) aa rfl rfl rfl (cj (i*2))) ?_;refine z2 ?_;refine rQ (aZ (a:=i) (b:=3) aa rfl rfl rfl (by decide)) ?_;refine rQ (aR (m:=((UInt8.ofNat (i % 3)).toNat:Int)) aa rfl rfl rfl (cj (i % 3))) ?_;refine z1 ?_;refine rQ (aR (m:=((UInt8.ofNat (i)).toNat:Int)) aa rfl rfl rfl (cj (i))) ?_;refine z2 ?_;refine rQ (aZ (a:=i) (b:=3) aa rfl rfl rfl (by decide)) ?_;refine rQ (aR (m:=((UInt8.ofNat (i % 3)).toNat:Int)) aa rfl rfl rfl (cj (i % 3))) ?_;refine z1 ?_;refine rQ (ed (m:=((i*9:Nat):Int)) aa rfl rfl (jm i 9 (by omega))) ?_;refine rQ (aR (m:=((UInt8.ofNat (i*9)).toNat:Int)) aa rfl rfl rfl (cj (i*9))) ?_;refine z1 ?_;refine rQ (ab.frozen (ae (s:=3) aa rfl rfl rfl rfl rfl rfl rfl rfl) (Frz.litsN (enc:=qN) (kx i) rfl (fun _ _=>rfl))) ?_;refine z9 ?_;refine rQ (aR (m:=((UInt8.ofNat (i)).toNat:Int)) aa rfl rfl rfl (cj (i))) ?_;refine rQ (yK (vb (kx i) (UInt8.ofNat i))) ?_;refine z7 ?_;refine rQ (aZ (a:=i) (b:=3) aa rfl rfl rfl (by decide)) ?_;refine z1 ?_;refine rQ (cm (m:=((i % 3:Nat):Int)-1) aa rfl rfl hw277) ?_;refine z1 ?_;refine rQ (aR (m:=((i % 3:Nat):Int)-1) aa rfl rfl rfl hw278) ?_;refine z1 ?_;refine rQ (ii (rL (kx i) 2 (((i % 3:Nat):Int)-1) (by omega) (by omega)) rfl rfl (aE (aE (aE au))) (.inl rfl) (fun _=>rfl)) ?_;refine z7 ?_;refine rQ (yK (xK (kx i) 2)) ?_;refine z7 ?_;refine rQ (yK (rK (kx i))) ?_;refine z9 ?_;refine rQ (aZ (a:=i) (b:=3) aa rfl rfl rfl (by decide)) ?_;refine z3 ?_;refine rQ (bM (m:=((i+1:Nat):Int)) aa rfl rfl hw297) ?_;refine z1 ?_;refine rQ (aZ (a:=i+1) (b:=3) aa rfl rfl rfl (by decide)) ?_;refine z1 ?_;refine rQ (ab.frozen (ae (s:=1) aa rfl rfl rfl rfl rfl rfl rfl rfl) (Frz.litsN (enc:=i6) [((i % 3:Nat):Int),(((i+1) % 3:Nat):Int)] rfl (fun _ _=>rfl))) ?_;refine z1 ?_;refine rQ (ii (rM (kx i) [((i % 3:Nat):Int),(((i+1) % 3:Nat):Int)] 2) rfl rfl (aE (aE (aE au))) (.inl rfl) (fun _=>rfl)) ?_;refine z14 ?_
  exact an (i+1) [] hlt (by omega) (lg zl trivial)
 refine z7 ?_;refine rQ (yK cZ) ?_;refine z4 ?_
 exact⟨trivial,[],lf⟩
end Go.Proofs.Ytmdgmolbamlicaa
