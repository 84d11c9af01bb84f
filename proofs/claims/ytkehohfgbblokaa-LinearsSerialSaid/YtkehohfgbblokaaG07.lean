/- Texts of the proof: YQ2, YQ3, YQ4, YE, YF, YC, YC2, YG3, YG4, YK, YZ1, YX1, YX2, YZ2, Eng112, YZ3, YZ4, YO. -/
import Derived.Test.YtkehohfgbblokaaG06
import Derived.Test.YtkehohfgbblokaaG03
import Derived.Test.YtkehohfgbblokaaG05
import Derived.Test.YtkehohfgbblokaaG02

set_option linter.unusedVariables false
set_option linter.unusedSimpArgs false
set_option linter.unusedSectionVars false

namespace Go.Proofs.Ytkehohfgbblokaa
open Go.Eng Go.Plain
set_option maxHeartbeats 32000000
set_option maxRecDepth 20000
structure Sc (l:List HOp) (n e:Nat) (p:Prep) (ks:List Int) (kv:List (List UInt8)):Prop where
 F:fL l n e p ks kv
 ll:l.length≤8192
 nl:n≤1000000
 el:e≤8200
 kr:∀k∈ks,0≤k∧k<n
section
variable {l : List HOp} {n e : Nat} {p : Prep} {ks : List Int} {kv : List (List UInt8)}
theorem Sc.of (F:fL l n e (cP l n e) ks kv) (hl:l.length≤8192) (hn:n≤1000000) (he:e≤8200):Sc l n e (cP l n e) ks kv :=
 ⟨F,hl,hn,he,fun k hk=>by
  obtain⟨v,hv⟩:=oh ks 0 hk
  rw[←F.pl]at hv
  exact nY l n e _ hv⟩
theorem Sc.kvl (S:Sc l n e p ks kv):kv.length≤8193:=by have:=S.F.vl; have:=mn l (n:Int) e; have:=S.ll; omega
theorem Sc.val (S:Sc l n e p ks kv) {v:List UInt8} (h:v∈kv):∃j,kv[j]?=some v∧valN p.vs v=j∧j<8193:=by
 obtain⟨j,h1,_,h2⟩:=eH kv 0 h
 have hj:=(List.getElem?_eq_some_iff.1 h1).1
 have:=S.kvl
 refine⟨j,h1,?_,by omega⟩
 rw[valN,S.F.vs,h2,Option.getD_some]
 omega
theorem Sc.val_inj (S:Sc l n e p ks kv) {v w:List UInt8} (h1:v∈kv) (h2:w∈kv) (h:de (valN p.vs v)=de (valN p.vs w)):v=w:=by
 obtain⟨i,a1,a2,a3⟩:=S.val h1
 obtain⟨j,b1,b2,b3⟩:=S.val h2
 rw[a2,b2]at h
 have:=sy (by omega) (by omega) h
 subst this
 exact Option.some.inj (a1.symm.trans b1)
theorem Sc.z (S:Sc l n e p ks kv) {k:Int} (h0:0≤k) (h1:k<e):zOf p k=zs (mayI l n k.toNat):=by
 rw[zOf,S.F.opk _ (by omega)]; rfl
theorem Sc.zin (S:Sc l n e p ks kv) {k:Int} (h0:0≤k) (h1:k<e) {i:Int}:i∈zOf p k ↔ ∃(j:Nat) (o:HOp),i=j∧l[j]?=some o∧o.era=k∧mayB o n=true:=by
 rw[S.z h0 h1,zs,List.mem_map]
 constructor
 ·rintro⟨j,hj,rfl⟩
  obtain⟨o,a,b,c⟩:=cS.1 hj
  exact⟨j,o,rfl,a,by omega,c⟩
 ·rintro⟨j,o,rfl,a,b,c⟩
  exact⟨j,cS.2 ⟨o,a,by omega,c⟩,rfl⟩
theorem Sc.zsorted (S:Sc l n e p ks kv) {k:Int} (h0:0≤k) (h1:k<e):(zOf p k).Pairwise (· < ·):=by
 rw[S.z h0 h1]; exact tp (lC _ l 0).1
structure AG (n:Nat) (ks:List Int) (kv:List (List UInt8)) (A:List (List UInt8)):Prop where
 al:A.length=n
 av:∀k∈ks,pgAt A k∈kv
 az:∀k:Int,0≤k→k ∉ ks→pgAt A k=zBk
theorem Sc.zk (S:Sc l n e p ks kv):zBk∈kv:=List.mem_of_getElem? S.F.vz
theorem Sc.agz (S:Sc l n e p ks kv):AG n ks kv (List.replicate n zBk):=
 ⟨List.length_replicate,fun k _=>by rw[j3]; exact S.zk,fun k _ _=>j3 n k⟩
theorem rH {A:List (List UInt8)} {i k:Int} {v:List UInt8} (hi:0≤i) (hl:i<A.length) (hk:0≤k):pgAt (A.set i.toNat v) k=if k=i then v else pgAt A k:=by
 unfold pgAt
 by_cases h:k=i
 ·subst h
  rw[if_pos rfl,List.getElem?_set_self (by omega)]; rfl
 ·rw[if_neg h,List.getElem?_set_ne (by omega)]
theorem Sc.agset (S:Sc l n e p ks kv) {A:List (List UInt8)} (h:AG n ks kv A) {i:Int} {v:List UInt8} (hi:i∈ks) (hv:v∈kv):AG n ks kv (A.set i.toNat v):=by
 obtain⟨i0,i1⟩:=S.kr i hi
 have hl:i<A.length:=by rw[h.al]; exact i1
 refine⟨by rw[List.length_set]; exact h.al,fun k hk=>?_,fun k h0 hk=>?_⟩
 ·rw[rH i0 hl (S.kr k hk).1]
  split
  ·exact hv
  ·exact h.av k hk
 ·rw[rH i0 hl h0,if_neg (fun h2:k=i=>hk (h2 ▸ hi))]
  exact h.az k h0 hk
theorem oD (vs:BMap) (A:List (List UInt8)) (k:Int):(de (valN vs (pgAt A k))).length=2:=rfl
theorem th (vs:BMap) (ks:List Int) (A:List (List UInt8)):(arE vs ks A).length=2*ks.length:=we (oD vs A) ks
theorem Sc.arE_inj (S:Sc l n e p ks kv) {A B:List (List UInt8)} (hA:AG n ks kv A) (hB:AG n ks kv B) (h:arE p.vs ks A=arE p.vs ks B):A=B:=by
 have key:∀k:Int,0≤k→pgAt A k=pgAt B k:=fun k h0=>by
  by_cases hk:k∈ks
  ·exact S.val_inj (hA.av k hk) (hB.av k hk) (wg (oD p.vs A) (oD p.vs B) ks h k hk)
  ·rw[hA.az k h0 hk,hB.az k h0 hk]
 apply List.ext_getElem?
 intro j
 by_cases hj:j<n
 ·have:=key j (by omega)
  unfold pgAt at this
  rw[Int.toNat_natCast,List.getElem?_eq_getElem (by rw[hA.al]; exact hj),List.getElem?_eq_getElem (by rw[hB.al]; exact hj)]at this
  rw[List.getElem?_eq_getElem (by rw[hA.al]; exact hj),List.getElem?_eq_getElem (by rw[hB.al]; exact hj)]
  exact congrArg some this
 ·rw[List.getElem?_eq_none (by rw[hA.al]; omega),List.getElem?_eq_none (by rw[hB.al]; omega)]
structure RG (l:List HOp) (n e:Nat) (p:Prep) (ks:List Int) (kv:List (List UInt8)) (s:RS):Prop where
 ok:RSOk n s
 era:s.era<e
 tk:s.taken=(zOf p s.era).filter (hasB s.taken)
 ar:AG n ks kv s.arr
 du:AG n ks kv s.dur
theorem RG.tz {s:RS} (h:RG l n e p ks kv s) {i:Int} (hi:hasB s.taken i=true):i∈zOf p s.era:=by
 have:=qB.1 hi
 rw[h.tk]at this
 exact (List.mem_filter.1 this).1
theorem Sc.first (S:Sc l n e p ks kv) (he:0<e):RG l n e p ks kv (aN n):=
 ⟨.first n,by show (0:Int)<e; omega,by show[]=List.filter _ _; rw[List.filter_eq_nil_iff.2 (fun _ _=>by simp[aN])],S.agz,S.agz⟩
theorem RG.crash {s:RS} (h:RG l n e p ks kv s) (he:s.era+1<e) (h8:e≤8200):RG l n e p ks kv (aY s):=
 ⟨h.ok.crash (by omega),he,by show[]=List.filter _ _; rw[List.filter_eq_nil_iff.2 (fun _ _=>by simp[aY])],h.du,h.du⟩
theorem wO {z T U:List Int} (h:tkE z T=tkE z U):∀i∈z,hasB T i=hasB U i:=by
 intro i hi
 have:=List.map_inj_left.1 h i hi
 cases h1:hasB T i <;> cases h2:hasB U i <;> simp[h1,h2]at this <;> rfl
theorem Sc.enc_inj (S:Sc l n e p ks kv) {s t:RS} (hs:RG l n e p ks kv s) (ht:RG l n e p ks kv t) (h:encS p ks s=encS p ks t):s=t:=by
 have h1:=congrArg LSt.era h
 have h2:=congrArg LSt.taken h
 have h3:=S.arE_inj hs.ar ht.ar (congrArg LSt.array h)
 have h4:=S.arE_inj hs.du ht.du (congrArg LSt.durable h)
 simp only[encS]at h1 h2
 have h5:s.taken=t.taken:=by
  rw[hs.tk,ht.tk,←h1]
  rw[←h1]at h2
  exact List.filter_congr (wO h2)
 cases s; cases t
 simp only at h1 h3 h4 h5
 rw[h1,h3,h4,h5]
theorem sF (z:List Int):tkE z []=cz z.length:=by
 unfold tkE cz
 induction z with
 | nil=>rfl
 | cons a z ih=>rw[List.map_cons,ih,List.length_cons,List.replicate_succ]; rfl
theorem oo (s:RS):encS p ks (aY s)=⟨s.era+1,cz (zOf p (s.era+1)).length,(encS p ks s).durable,(encS p ks s).durable⟩:=by
 unfold encS aY
 simp only[sF]
theorem Sc.enc_first (S:Sc l n e p ks kv):encS p ks (aN n)=c6 p:=by
 obtain⟨j,h1,h2,_⟩:=S.val S.zk
 have hj:j=0:=by
  have h3:=S.F.vz
  exact (List.getElem?_inj (List.getElem?_eq_some_iff.1 h1).1 S.F.vnd).1 (h1.trans h3.symm)
 subst hj
 have ha:arE p.vs ks (List.replicate n zBk)=cz (2*p.pl.length):=by
  rw[S.F.pl,eK]
  have:∀ks:List Int,arE p.vs ks (List.replicate n zBk)=cz (2*ks.length):=by
   intro ks
   induction ks with
   | nil=>rfl
   | cons a ks ih =>
    unfold arE at ih ⊢
    rw[List.flatMap_cons,ih,j3,h2,List.length_cons,show 2*(ks.length+1)=2+2*ks.length by omega]
    unfold cz
    rw[←List.replicate_append_replicate]; rfl
  exact this ks
 unfold encS c6
 simp only[aN,ha,sF]
theorem Sc.place (S:Sc l n e p ks kv) {i:Int} (h:i∈ks):∃j,ks[j]?=some i∧plN p.pl i=j:=by
 obtain⟨j,h1,_,h2⟩:=eH ks 0 h
 refine⟨j,h1,?_⟩
 rw[plN,S.F.pl,h2,Option.getD_some]
 omega
theorem Sc.ar_get (S:Sc l n e p ks kv) {i:Int} (h:i∈ks) (A:List (List UInt8)):((arE p.vs ks A).drop (2*plN p.pl i)).take 2=de (valN p.vs (pgAt A i)):=by
 obtain⟨j,h1,h2⟩:=S.place h
 have hlt:=(List.getElem?_eq_some_iff.1 h1).1
 rw[h2,arE,pu (oD p.vs A),List.drop_eq_getElem_cons hlt,(List.getElem?_eq_some_iff.1 h1).2,List.flatMap_cons]
 exact List.take_left' rfl
theorem Sc.ar_set (S:Sc l n e p ks kv) {i:Int} (h:i∈ks) {A:List (List UInt8)} (hl:A.length=n) (v:List UInt8) :
  (arE p.vs ks A).take (2*plN p.pl i)++de (valN p.vs v)++(arE p.vs ks A).drop (2*plN p.pl i+2)=arE p.vs ks (A.set i.toNat v):=by
 obtain⟨j,h1,h2⟩:=S.place h
 obtain⟨i0,i1⟩:=S.kr i h
 have hlt:=(List.getElem?_eq_some_iff.1 h1).1
 have hn:=S.F.knd
 have hks:ks=ks.take j++i::ks.drop (j+1):=by
  have:=List.take_append_drop j ks
  rw[List.drop_eq_getElem_cons hlt,(List.getElem?_eq_some_iff.1 h1).2]at this
  exact this.symm
 have hni:i ∉ ks.take j∧i ∉ ks.drop (j+1):=by
  rw[hks,List.nodup_append,List.nodup_cons]at hn
  exact⟨fun h=>hn.2.2 i h i List.mem_cons_self rfl,hn.2.1.1⟩
 have hst:∀k:Int,0≤k→pgAt (A.set i.toNat v) k=if k=i then v else pgAt A k:=fun k hk=>rH i0 (by rw[hl]; exact i1) hk
 have hmem:∀k,(k∈ks.take j∨k∈ks.drop (j+1))→0≤k∧k≠i:=fun k hk=>by
  rcases hk with hk | hk
  ·exact⟨(S.kr k (List.mem_of_mem_take hk)).1,fun e=>hni.1 (e ▸ hk)⟩
  ·exact⟨(S.kr k (List.mem_of_mem_drop hk)).1,fun e=>hni.2 (e ▸ hk)⟩
 unfold arE
 rw[h2,show 2*j+2=2*(j+1) by omega,s2 (oD p.vs A),pu (oD p.vs A)]
 conv=>rhs; rw[hks]
 rw[List.flatMap_append,List.flatMap_cons,hst i i0,if_pos rfl,List.append_assoc]
 congr 1
 ·exact nc _ fun k hk=>by
   obtain⟨a,b⟩:=hmem k (.inl hk)
   rw[hst k a,if_neg b]
 ·congr 1
  exact nc _ fun k hk=>by
   obtain⟨a,b⟩:=hmem k (.inr hk)
   rw[hst k a,if_neg b]
theorem Sc.hap (S:Sc l n e p ks kv) {s:RS} (h:RG l n e p ks kv s) {o:HOp} (hm:mayB o n=true) (hk:o.op.kind≠3→o.op.index∈ks∧numB o∈kv) :
  (hapS p (encS p ks s) o).2=(hapR s o).2∧(hapS p (encS p ks s) o).1=⟨s.era,tkE (zOf p s.era) s.taken,arE p.vs ks (hapR s o).1.arr,arE p.vs ks (hapR s o).1.dur⟩∧AG n ks kv (hapR s o).1.arr∧AG n ks kv (hapR s o).1.dur∧(hapR s o).1.era=s.era:=by
 have hkd:=(jB hm).1
 unfold hapS hapR
 by_cases h3:o.op.kind=3
 ·rw[if_pos h3,if_neg (by omega),if_neg (by omega)]
  exact⟨rfl,rfl,h.ar,h.ar,rfl⟩
 obtain⟨k1,k2⟩:=hk h3
 rw[if_neg h3]
 by_cases h2:o.op.kind=2
 ·rw[if_pos h2,if_neg (by omega),if_pos h2]
  rw[numB,if_pos h2]at k2
  refine⟨rfl,?_,S.agset h.ar k1 k2,h.du,rfl⟩
  simp only[encS]
  rw[S.ar_set k1 h.ar.al]
 ·have h1:o.op.kind=1:=by omega
  rw[if_neg h2,if_pos h1]
  rw[numB,if_neg h2]at k2
  cases hmu:bL o with
  | false =>
   rw[if_neg (by decide)]
   exact⟨rfl,rfl,h.ar,h.du,rfl⟩
  | true =>
   rw[if_pos rfl]
   refine⟨?_,rfl,h.ar,h.du,rfl⟩
   have hg:=S.ar_get k1 s.arr
   rw[Bool.not_true,Bool.false_or]
   by_cases he:pgAt s.arr o.op.index=o.value
   ·rw[dT he]
    exact dT (show ((arE p.vs ks s.arr).drop (2*plN p.pl o.op.index)).take 2=_ by rw[hg,he])
   ·rw[dF he]
    exact dF fun h':((arE p.vs ks s.arr).drop (2*plN p.pl o.op.index)).take 2=_=>he (S.val_inj (h.ar.av _ k1) k2 (hg ▸ h'))
end
end Go.Proofs.Ytkehohfgbblokaa
namespace Go.Proofs.Ytkehohfgbblokaa
open Go.Eng Go.Plain
set_option maxHeartbeats 32000000
set_option maxRecDepth 20000
section
variable {l : List HOp} {n e : Nat} {p : Prep} {ks : List Int} {kv : List (List UInt8)}
theorem rk {z T:List Int} {k:Nat} {i:Int} (h:z[k]?=some i):tkB (tkE z T) (k:Int)=hasB T i∧msB (tkE z T) (k:Int) = !hasB T i:=by
 have h1:(tkE z T)[k]?=some (if hasB T i then 1 else 0):=by rw[tkE,List.getElem?_map,h]; rfl
 unfold tkB msB
 rw[Int.toNat_natCast,h1,Option.getD_some]
 cases hasB T i <;> exact⟨rfl,rfl⟩
theorem jh {s:RS} {o:HOp}:∀(l:List HOp) (k:Nat),hitL s o l k=true ↔ ∃(j:Nat) (q:HOp),l[j]?=some q∧hitB s o (k+j) q=true
 | [],k=>by simp[hitL]
 | a::l,k=>by
  rw[hitL,Bool.or_eq_true,jh l (k+1)]
  constructor
  ·rintro (h | ⟨j,q,h1,h2⟩)
   ·exact⟨0,a,rfl,h⟩
   ·exact⟨j+1,q,by simpa using h1,by rw[show k+(j+1)=k+1+j by omega]; exact h2⟩
  ·rintro⟨j,q,h1,h2⟩
   cases j with
   | zero=>simp at h1; subst h1; exact .inl h2
   | succ j=>exact .inr ⟨j,q,by simpa using h1,by rw[show k+1+j=k+(j+1) by omega]; exact h2⟩
theorem eG {l:List HOp} {i:Nat} {o:HOp} (h:l[i]?=some o):opN l i=o:=by rw[opN,h]; rfl
theorem sN {f:Nat→Bool} {M:List Nat} {z T:List Int} (hz:z=zs M) (g:List UInt8→Int→Bool) (b:Int→Bool) (hg:∀(k:Nat) (i:Int),z[k]?=some i→g (tkE z T) (k:Int)=b i) :
  (posN f M M.length).any (g (tkE z T))=true ↔ ∃m∈M,f m=true∧b (m:Int)=true:=by
 rw[List.any_eq_true]
 constructor
 ·rintro⟨j,h1,h2⟩
  obtain⟨k,rfl,h3,h4⟩:=(iW _).1 h1
  have hk:M[k]?=some M[k]:=List.getElem?_eq_getElem h3
  rw[hk,Option.getD_some]at h4
  rw[hg k (M[k]:Nat) (by rw[hz,zs,List.getElem?_map,hk]; rfl)]at h2
  exact⟨_,List.getElem_mem h3,h4,h2⟩
 ·rintro⟨m,hm,h1,h2⟩
  obtain⟨k,hk⟩:=List.mem_iff_getElem?.1 hm
  refine⟨(k:Int),(iW _).2 ⟨k,rfl,(List.getElem?_eq_some_iff.1 hk).1,by rw[hk]; exact h1⟩,?_⟩
  rw[hg k (m:Int) (by rw[hz,zs,List.getElem?_map,hk]; rfl)]
  exact h2
theorem Sc.skip (S:Sc l n e p ks kv) {s:RS} (h:RG l n e p ks kv s) {k i:Nat} {o:HOp} (hk:(zOf p s.era)[k]?=some (i:Int)) (ho:l[i]?=some o) (he:o.era=s.era) (hm:mayB o n=true) :
  takB s l i o = !jO p (encS p ks s) k i:=by
 have e0:=h.ok.e0
 have e1:=h.era
 obtain⟨E,hE⟩:∃E:Nat,s.era=E:=⟨s.era.toNat,by omega⟩
 have hz:zOf p s.era=zs (mayI l n E):=by rw[S.z e0 e1]; congr 2; omega
 have hEe:E<e:=by omega
 have hi:i∈mayI l n E:=cS.2 ⟨o,ho,by omega,hm⟩
 have hst:=S.F.st E hEe i hi
 have haf:=S.F.af E hEe i hi
 have hah:=S.F.ah E hEe i hi
 have ht:=rk (T:=s.taken) hk
 rw[eG ho]at hst
 have q1:((getA p.af (i:Int)).getD []).any (tkB (tkE (zOf p s.era) s.taken))=true ↔ ∃m∈mayI l n E,afB l i m=true∧hasB s.taken (m:Int)=true:=by
  rw[haf]
  exact sN hz tkB (hasB s.taken) fun k i hk=>(rk hk).1
 have q2:((getA p.ah (i:Int)).getD []).any (msB (tkE (zOf p s.era) s.taken))=true ↔ ∃m∈mayI l n E,ahB l i m=true∧(!hasB s.taken (m:Int))=true:=by
  rw[hah]
  exact sN hz msB (fun i => !hasB s.taken i) fun k i hk=>(rk hk).2
 have hL:hitL s o l 0=((getA p.st (i:Int)).getD false||(((getA p.af (i:Int)).getD []).any (tkB (tkE (zOf p s.era) s.taken))||((getA p.ah (i:Int)).getD []).any (msB (tkE (zOf p s.era) s.taken)))):=by
  rw[Bool.eq_iff_iff,Bool.or_eq_true,Bool.or_eq_true,q1,q2,hst,List.any_eq_true,jh]
  simp only[Nat.zero_add]
  constructor
  ·rintro⟨j,q,h1,h2⟩
   unfold hitB at h2
   cases hj:hasB s.taken (j:Int) with
   | true =>
    rw[if_pos hj]at h2
    have hjz:=h.tz hj
    rw[hz,zs,List.mem_map]at hjz
    obtain⟨j',hj',ej⟩:=hjz
    have:j'=j:=by omega
    subst this
    exact .inr (.inl ⟨j',hj',by rw[afB,eG ho,eG h1]; exact h2,hj⟩)
   | false =>
    rw[if_neg (by have h':(s.taken.any fun y=>decide (y=(j:Int)))=false:=hj; rw[h']; decide),Bool.and_eq_true,Bool.and_eq_true,decide_eq_true_eq]at h2
    obtain⟨h3,h4,h5⟩:=h2
    cases hq:mayB q n with
    | true=>exact .inr (.inr ⟨j,cS.2 ⟨q,h1,by omega,hq⟩,by rw[ahB,eG ho,eG h1,h4,h5]; rfl,by rw[hj]; rfl⟩)
    | false=>exact .inl ⟨j,kP.2 ⟨q,h1,by omega,h4,hq⟩,by rw[eG h1]; exact h5⟩
  ·rintro (⟨j,hj,h1⟩ | ⟨j,hj,h1,h2⟩ | ⟨j,hj,h1,h2⟩)
   ·obtain⟨q,a,b,c,d⟩:=kP.1 hj
    refine⟨j,q,a,?_⟩
    rw[eG a]at h1
    have hnt:hasB s.taken (j:Int)=false:=by
     rw[Bool.eq_false_iff]
     intro hj2
     obtain⟨j',q',e1,e2,e3,e4⟩:=(S.zin e0 h.era).1 (h.tz hj2)
     have:j'=j:=by omega
     subst this
     rw[a]at e2; cases e2
     rw[d]at e4; cases e4
    rw[hitB,if_neg (by have h':(s.taken.any fun y=>decide (y=(j:Int)))=false:=hnt; rw[h']; decide),dT (by omega),c,h1]; rfl
   ·obtain⟨q,a,b,c⟩:=cS.1 hj
    rw[afB,eG ho,eG a]at h1
    exact⟨j,q,a,by rw[hitB,if_pos h2]; exact h1⟩
   ·obtain⟨q,a,b,c⟩:=cS.1 hj
    rw[ahB,eG ho,eG a,Bool.and_eq_true]at h1
    rw[Bool.not_eq_true']at h2
    exact⟨j,q,a,by rw[hitB,if_neg (by have h':(s.taken.any fun y=>decide (y=(j:Int)))=false:=h2; rw[h']; decide),dT (by omega),h1.1,h1.2]; rfl⟩
 rw[takB,dT he,h.ok.al,hm,hL,jO]
 show (true&&(true&&(!hasB s.taken (i:Int)&&_)))=_
 rw[←ht.1]
 simp only[encS]
 cases (getA p.st (i:Int)).getD false <;> cases tkB (tkE (zOf p s.era) s.taken) (k:Int) <;> rfl
theorem wP {z T:List Int} {k:Nat} {i:Int} (hn:z.Nodup) (h:z[k]?=some i):gz (tkE z T) k=tkE z (eg T i):=by
 have hlt:=(List.getElem?_eq_some_iff.1 h).1
 have hz:z=z.take k++i::z.drop (k+1):=by
  have:=List.take_append_drop k z
  rw[List.drop_eq_getElem_cons hlt,(List.getElem?_eq_some_iff.1 h).2]at this
  exact this.symm
 have hni:i ∉ z.take k∧i ∉ z.drop (k+1):=by
  rw[hz,List.nodup_append,List.nodup_cons]at hn
  exact⟨fun h=>hn.2.2 i h i List.mem_cons_self rfl,hn.2.1.1⟩
 unfold gz tkE
 rw[←List.map_take,←List.map_drop]
 conv=>rhs; rw[hz]
 rw[List.map_append,List.map_cons,gG,dT rfl,Bool.or_true,if_pos rfl,List.append_assoc]
 have hc:∀m,m≠i→hasB (eg T i) m=hasB T m:=fun m hm=>by rw[gG,dF fun e=>hm e.symm,Bool.or_false]
 congr 1
 ·exact List.map_congr_left fun m hm=>by rw[hc m fun e=>hni.1 (e ▸ hm)]
 ·show 1::_=1::_
  congr 1
  exact List.map_congr_left fun m hm=>by rw[hc m fun e=>hni.2 (e ▸ hm)]
theorem Sc.kin (S:Sc l n e p ks kv) {i:Nat} {o:HOp} (h0:0≤o.era) (h1:o.era<e) (ho:l[i]?=some o) (hm:mayB o n=true):o.op.kind≠3→o.op.index∈ks∧numB o∈kv:=by
 have:=S.F.kin o.era.toNat (by omega) i (cS.2 ⟨o,ho,by omega,hm⟩)
 rwa [eG ho]at this
theorem Sc.take (S:Sc l n e p ks kv) {s:RS} (h:RG l n e p ks kv s) {k i:Nat} {o:HOp} (hk:(zOf p s.era)[k]?=some (i:Int)) (ho:l[i]?=some o) (he:o.era=s.era) (hm:mayB o n=true) (ht:takB s l i o=true) :
  (bB s l i o).2=(hapS p (encS p ks s) o).2∧encS p ks (bB s l i o).1 = { (hapS p (encS p ks s) o).1 with taken:=gz (encS p ks s).taken k }∧RG l n e p ks kv (bB s l i o).1:=by
 have e0:=h.ok.e0
 have e1:=h.era
 obtain⟨q1,q2,q3,q4,q5⟩:=S.hap h hm (S.kin (by omega) (by omega) ho hm)
 have hs:=S.zsorted e0 e1
 have hnt:hasB s.taken (i:Int)=false:=by
  unfold takB at ht
  simp only[Bool.and_eq_true,Bool.not_eq_true']at ht
  exact ht.2.2.1
 have hap:=(h.ok.hap (by have:=S.nl; omega) hm).2
 rw[bB,if_pos ht]
 refine⟨q1.symm,?_,⟨⟨hap.al,hap.dl,hap.ap,hap.dp,hap.e0,hap.e1⟩,by show (hapR s o).1.era<_; rw[q5]; exact e1,?_,q3,q4⟩⟩
 ·rw[q2]
  simp only[encS,q5]
  rw[wP (hs.imp fun h=>by omega) hk]
 ·show eg s.taken i=(zOf p (hapR s o).1.era).filter (hasB (eg s.taken i))
  rw[q5]
  have h2:((zOf p s.era).filter (hasB (eg s.taken i)))=(zOf p s.era).filter fun j=>hasB s.taken j||decide ((i:Int)=j):=List.filter_congr fun x _=>gG _ _ _
  rw[h2,←lz (hasB s.taken) i _ hs (List.mem_of_getElem? hk) hnt,←h.tk]
theorem Sc.full (S:Sc l n e p ks kv) {s:RS} (h:RG l n e p ks kv s):iJ l p.lo (zOf p s.era) (encS p ks s)=b9 s l 0:=by
 have e0:=h.ok.e0
 have e1:=h.era
 obtain⟨E,hE⟩:∃E:Nat,s.era=E:=⟨s.era.toNat,by omega⟩
 have hR:∀(l:List HOp) (k:Nat),b9 s l k=true ↔ ∀(j:Nat) (q:HOp),l[j]?=some q→q.era=s.era→bL q=true→hasB s.taken ((k+j:Nat):Int)=true:=by
  intro l
  induction l with
  | nil=>intro k; simp[b9]
  | cons a l ih =>
   intro k
   rw[b9,Bool.and_eq_true,ih]
   constructor
   ·rintro⟨h1,h2⟩ j q hj hq hm
    cases j with
    | zero =>
     simp at hj; subst hj
     rw[hm,dT hq]at h1
     simpa using h1
    | succ j=>rw[show k+(j+1)=k+1+j by omega]; exact h2 j q (by simpa using hj) hq hm
   ·intro h1
    refine⟨?_,fun j q hj hq hm=>by rw[show k+1+j=k+(j+1) by omega]; exact h1 (j+1) q (by simpa using hj) hq hm⟩
    cases ha:decide (a.era=s.era) with
    | false=>rfl
    | true =>
     cases hb:bL a with
     | false=>rfl
     | true =>
      have:=h1 0 a rfl (of_decide_eq_true ha) hb
      rw[Nat.add_zero]at this
      have h2:s.taken.any (fun y=>decide (y=(k:Int)))=true:=this
      rw[h2]; rfl
 have hG:∀(z:List Int),jS l z (tkE z s.taken)=true ↔ ∀i∈z,bL (opN l i.toNat)=true→hasB s.taken i=true:=by
  intro z
  induction z with
  | nil=>simp[jS,tkE]
  | cons a z ih =>
   show jS l (a::z) ((if hasB s.taken a then 1 else 0)::tkE z s.taken)=true↔_
   rw[jS]
   cases hb:bL (opN l a.toNat) with
   | false =>
    rw[Bool.false_and,if_neg (by decide),ih]
    simp only[List.mem_cons,forall_eq_or_imp,hb]
    simp
   | true =>
    cases ht:hasB s.taken a with
    | true =>
     have h1:(true&&decide ((((if (true:Bool)=true then 1 else 0:UInt8)).toNat:Int)=0))=false:=rfl
     rw[h1,if_neg (by decide),ih]
     simp only[List.mem_cons,forall_eq_or_imp,ht]
     simp
    | false =>
     have h1:(true&&decide ((((if (false:Bool)=true then 1 else 0:UInt8)).toNat:Int)=0))=true:=rfl
     rw[h1,if_pos rfl]
     simp only[List.mem_cons,forall_eq_or_imp,hb,ht]
     simp
 rw[Bool.eq_iff_iff,hR]
 have hlo:=S.F.lo E
 simp only[Nat.zero_add]
 unfold iJ
 have hx:(encS p ks s).era=(E:Int):=hE
 rw[hx,hlo,dT (by omega),Bool.true_and]
 have hb0:(badI l n E).isEmpty=true ↔ ∀(j:Nat) (q:HOp),l[j]?=some q→q.era=s.era→bL q=true→mayB q n=true:=by
  rw[List.isEmpty_iff]
  constructor
  ·intro h0 j q hj hq hm
   cases hq2:mayB q n with
   | true=>rfl
   | false =>
    have:j∈badI l n E:=kP.2 ⟨q,hj,by omega,hm,hq2⟩
    rw[h0]at this; cases this
  ·intro h0
   rw[List.eq_nil_iff_forall_not_mem]
   intro j hj
   obtain⟨q,a,b,c,d⟩:=kP.1 hj
   rw[h0 j q a (by omega) c]at d
   cases d
 constructor
 ·intro h1 j q hj hq hm
  split at h1
  ·cases h1
  ·rename_i h2
   simp only[Bool.not_eq_true',Bool.not_eq_false']at h2
   have h2:(badI l n E).isEmpty=true:=by simpa using h2
   have hmay:=hb0.1 h2 j q hj hq hm
   refine (hG (zOf p s.era)).1 h1 j ((S.zin e0 e1).2 ⟨j,q,rfl,hj,hq,hmay⟩) ?_
   rw[Int.toNat_natCast,eG hj]; exact hm
 ·intro h1
  have h2:(badI l n E).isEmpty=true:=hb0.2 fun j q hj hq hm=>by
   obtain⟨j',q',a,b,c,d⟩:=(S.zin e0 e1).1 (h.tz (h1 j q hj hq hm))
   have:j'=j:=by omega
   subst this
   rw[hj]at b; cases b
   exact d
  rw[h2,if_neg (by decide)]
  refine (hG (zOf p s.era)).2 fun i hi hm=>?_
  obtain⟨j,q,rfl,b,c,d⟩:=(S.zin e0 e1).1 hi
  rw[Int.toNat_natCast,eG b]at hm
  exact h1 j q b c hm
end
end Go.Proofs.Ytkehohfgbblokaa
namespace Go.Proofs.Ytkehohfgbblokaa
open Go.Eng Go.Plain
set_option maxHeartbeats 32000000
set_option maxRecDepth 20000
section
variable {l : List HOp} {n e : Nat} {p : Prep} {ks : List Int} {kv : List (List UInt8)}
theorem Sc.sok (S:Sc l n e p ks kv) {s:RS} (h:RG l n e p ks kv s):SOk p e (encS p ks s):=
 ⟨⟨h.ok.e0,h.era⟩,by simp[encS,tkE],by show (arE _ _ _).length=_; rw[th,S.F.pl,eK],by show (arE _ _ _).length=_; rw[th,S.F.pl,eK]⟩
structure Sim (l:List HOp) (n e:Nat) (p:Prep) (ks:List Int) (kv:List (List UInt8)) (L:List RS) (q:QS):Prop where
 map:q.2=L.map (encS p ks)
 ok:QOk p e q
 all:∀s∈L,RG l n e p ks kv s
theorem oO {s:RS} {l:List HOp} {i:Nat} {o:HOp} (h:takB s l i o=false):bB s l i o=(s,false):=by rw[bB,h]; rfl
end
end Go.Proofs.Ytkehohfgbblokaa
namespace Go.Proofs.Ytkehohfgbblokaa
open Go.Eng Go.Plain
set_option maxHeartbeats 32000000
set_option maxRecDepth 20000
def rSt1 (s:RS) (l:List HOp) (i:Nat) (o:HOp):List (Int×RS):=if (bB s l i o).2 then[((i:Int),(bB s l i o).1)] else[]
def rStO (l:List HOp) (s:RS):List HOp→Nat→List (Int×RS)
 | [],_=>[]
 | o::r,i=>rSt1 s l i o++rStO l s r (i+1)
def rStC (l:List HOp) (e:Int) (s:RS):List (Int×RS):=if decide (s.era<e-1)&&b9 s l 0 then[(-1,aY s)] else[]
def cN (l:List HOp) (e:Int) (s:RS):List (Int×RS):=rStO l s l 0++rStC l e s
theorem vr {s:RS} {l:List HOp} {i:Nat} {o:HOp} {x:Int×RS}:x∈rSt1 s l i o↔(bB s l i o).2=true∧x=((i:Int),(bB s l i o).1):=by
 unfold rSt1
 split
 ·rename_i h; simp[h]
 ·rename_i h; simp[h]
theorem p8 {s:RS} {l:List HOp} {x:Int×RS}:∀(r:List HOp) (i:Nat),l.drop i=r→(x∈rStO l s r i ↔ ∃(j:Nat) (o:HOp),i≤j∧l[j]?=some o∧(bB s l j o).2=true∧x=((j:Int),(bB s l j o).1))
 | [],i,h=>by
  have hl:l.length≤i:=List.drop_eq_nil_iff.1 h
  simp only[rStO,List.not_mem_nil,false_iff]
  rintro⟨j,o,h1,h2,_⟩
  have:=(List.getElem?_eq_some_iff.1 h2).1
  omega
 | o::r,i,h=>by
  have ho:l[i]?=some o:=by
   have:=congrArg (fun x=>x[0]?) h
   simpa using this
  have hr:l.drop (i+1)=r:=by
   have:=congrArg List.tail h
   simpa using this
  rw[rStO,List.mem_append,vr,p8 r (i+1) hr]
  constructor
  ·rintro (⟨h1,h2⟩ | ⟨j,o',h1,h2⟩)
   ·exact⟨i,o,Nat.le_refl _,ho,h1,h2⟩
   ·exact⟨j,o',by omega,h2⟩
  ·rintro⟨j,o',h1,h2,h3⟩
   by_cases hj:j=i
   ·subst hj
    rw[ho]at h2; cases h2
    exact .inl h3
   ·exact .inr ⟨j,o',by omega,h2,h3⟩
theorem cp {s:RS} {l:List HOp} {e:Int} {x:Int×RS}:x∈cN l e s↔(∃(j:Nat) (o:HOp),l[j]?=some o∧(bB s l j o).2=true∧x=((j:Int),(bB s l j o).1))∨(s.era<e-1∧b9 s l 0=true∧x=(-1,aY s)):=by
 unfold cN rStC
 rw[List.mem_append,p8 l 0 (List.drop_zero)]
 constructor
 ·rintro (⟨j,o,_,h⟩ | h)
  ·exact .inl ⟨j,o,h⟩
  ·split at h
   ·rename_i hc
    simp only[Bool.and_eq_true,decide_eq_true_eq]at hc
    exact .inr ⟨hc.1,hc.2,List.mem_singleton.1 h⟩
   ·cases h
 ·rintro (⟨j,o,h⟩ | ⟨h1,h2,h3⟩)
  ·exact .inl ⟨j,o,Nat.zero_le _,h⟩
  ·right
   rw[if_pos (by rw[dT h1,h2]; rfl),h3]
   exact List.mem_singleton.2 rfl
inductive kW (l:List HOp) (n:Nat) (e:Int):RS→Prop
 | first:kW l n e (aN n)
 | step {s:RS} (x:Int×RS):kW l n e s→x∈cN l e s→kW l n e x.2
def StL (p:Prep) (ks:List Int) (st:List LSt):List aI→List (Int×RS)→Prop
 | [],[]=>True
 | y::ys,x::xs=>(y.op=x.1∧0≤y.to∧st[y.to.toNat]?=some (encS p ks x.2))∧StL p ks st ys xs
 | _,_=>False
section
variable {l : List HOp} {n e : Nat} {p : Prep} {ks : List Int} {kv : List (List UInt8)}
theorem StL.ext {a b:List LSt} (h:Ext a b):∀ {ys:List aI} {xs:List (Int×RS)},StL p ks a ys xs→StL p ks b ys xs
 | [],[],_=>trivial
 | y::ys,x::xs,⟨⟨h1,h2,h3⟩,h4⟩=>⟨⟨h1,h2,h _ _ h3⟩,StL.ext h h4⟩
 | [],_::_,h=>h.elim
 | _::_,[],h=>h.elim
theorem StL.app {a:List LSt}:∀ {ys:List aI} {xs:List (Int×RS)} {ys':List aI} {xs':List (Int×RS)},StL p ks a ys xs→StL p ks a ys' xs'→StL p ks a (ys++ys') (xs++xs')
 | [],[],_,_,_,h=>h
 | y::ys,x::xs,_,_,⟨h1,h2⟩,h=>⟨h1,StL.app h2 h⟩
 | [],_::_,_,_,h,_=>h.elim
 | _::_,[],_,_,h,_=>h.elim
theorem StL.mem {a:List LSt}:∀ {ys:List aI} {xs:List (Int×RS)},StL p ks a ys xs→(∀y∈ys,∃x∈xs,y.op=x.1∧0≤y.to∧a[y.to.toNat]?=some (encS p ks x.2))∧(∀x∈xs,∃y∈ys,y.op=x.1∧0≤y.to∧a[y.to.toNat]?=some (encS p ks x.2))
 | [],[],_=>⟨fun _ h=>(by cases h),fun _ h=>(by cases h)⟩
 | y::ys,x::xs,⟨h1,h2⟩=>by
  obtain⟨a1,a2⟩:=StL.mem h2
  refine⟨fun z hz=>?_,fun z hz=>?_⟩
  ·rcases List.mem_cons.1 hz with rfl | hz
   ·exact⟨x,List.mem_cons_self,h1⟩
   ·obtain⟨w,b1,b2⟩:=a1 z hz
    exact⟨w,List.mem_cons_of_mem _ b1,b2⟩
  ·rcases List.mem_cons.1 hz with rfl | hz
   ·exact⟨y,List.mem_cons_self,h1⟩
   ·obtain⟨w,b1,b2⟩:=a2 z hz
    exact⟨w,List.mem_cons_of_mem _ b1,b2⟩
 | [],_::_,h=>h.elim
 | _::_,[],h=>h.elim
def AllE (l:List HOp) (n e:Nat) (p:Prep) (ks:List Int) (kv:List (List UInt8)) (q:QS):Prop:=∀x∈q.2,∃s,RG l n e p ks kv s∧kW l n e s∧encS p ks s=x
theorem nt (S:Sc l n e p ks kv) {q:QS} (Q:QOk p e q) (A:AllE l n e p ks kv q) {t:RS} (ht:RG l n e p ks kv t) (hr:kW l n e t) :
  QOk p e (addS q (encS p ks t)).1∧AllE l n e p ks kv (addS q (encS p ks t)).1∧Ext q.2 (addS q (encS p ks t)).1.2∧0≤(addS q (encS p ks t)).2∧(addS q (encS p ks t)).1.2[(addS q (encS p ks t)).2.toNat]?=some (encS p ks t):=by
 obtain⟨a1,a2,a3,a4⟩:=mc Q (S.sok ht)
 refine⟨a1,fun x hx=>?_,a2,a3,a4⟩
 rcases q6 hx with rfl | hx
 ·exact⟨t,ht,hr,rfl⟩
 ·exact A x hx
theorem Sc.ops2 (S:Sc l n e p ks kv) {s:RS} (h:RG l n e p ks kv s) (hR:kW l n e s):∀(r:List HOp) (i k:Nat) (a:QS×List aI),l.drop i=r→(zOf p s.era).drop k=zs (selI (eraB s.era.toNat (fun o=>mayB o n)) r i)→QOk p e a.1→AllE l n e p ks kv a.1 →
  QOk p e (c5 p l (encS p ks s) (zs (selI (eraB s.era.toNat (fun o=>mayB o n)) r i)) k a).1∧AllE l n e p ks kv (c5 p l (encS p ks s) (zs (selI (eraB s.era.toNat (fun o=>mayB o n)) r i)) k a).1∧Ext a.1.2 (c5 p l (encS p ks s) (zs (selI (eraB s.era.toNat (fun o=>mayB o n)) r i)) k a).1.2 ∧
  ∃ys,(c5 p l (encS p ks s) (zs (selI (eraB s.era.toNat (fun o=>mayB o n)) r i)) k a).2=a.2++ys∧StL p ks (c5 p l (encS p ks s) (zs (selI (eraB s.era.toNat (fun o=>mayB o n)) r i)) k a).1.2 ys (rStO l s r i)
 | [],i,k,a,_,_,Q,A=>⟨Q,A,Ext.refl _,[],(by simp[selI,zs,c5]),trivial⟩
 | o::r,i,k,a,hr,hz,Q,A=>by
  have e0:=h.ok.e0
  have ho:l[i]?=some o:=by
   have:=congrArg (fun x=>x[0]?) hr
   simpa using this
  have hr2:l.drop (i+1)=r:=by
   have:=congrArg List.tail hr
   simpa using this
  cases hP:eraB s.era.toNat (fun o=>mayB o n) o with
  | false =>
   have h1:rSt1 s l i o=[]:=by
    have:takB s l i o=false:=by
     rw[eraB,Bool.and_eq_false_iff]at hP
     unfold takB
     rw[h.ok.al]
     rcases hP with hP | hP
     ·rw[dF (by have:=of_decide_eq_false hP; omega)]; rfl
     ·rw[hP]; simp
    rw[rSt1,oO this]; exact if_neg Bool.false_ne_true
   have hs:selI (eraB s.era.toNat (fun o=>mayB o n)) (o::r) i=selI (eraB s.era.toNat (fun o=>mayB o n)) r (i+1):=by rw[selI,if_neg (by rw[hP]; decide)]
   rw[hs]at hz ⊢
   rw[rStO,h1,List.nil_append]
   exact S.ops2 h hR r (i+1) k a hr2 hz Q A
  | true =>
   have hs:selI (eraB s.era.toNat (fun o=>mayB o n)) (o::r) i=i::selI (eraB s.era.toNat (fun o=>mayB o n)) r (i+1):=by rw[selI,if_pos hP]
   rw[hs]at hz ⊢
   rw[eraB,Bool.and_eq_true,decide_eq_true_eq]at hP
   have he:o.era=s.era:=by omega
   have hk:(zOf p s.era)[k]?=some (i:Int):=by
    have:=congrArg (fun x=>x[0]?) hz
    simpa[zs]using this
   have hz2:(zOf p s.era).drop (k+1)=zs (selI (eraB s.era.toNat (fun o=>mayB o n)) r (i+1)):=by
    have:=congrArg List.tail hz
    simpa[zs]using this
   have hsk:=S.skip h hk ho he hP.2
   have key:QOk p e (opS p l (encS p ks s) k i a).1∧AllE l n e p ks kv (opS p l (encS p ks s) k i a).1∧Ext a.1.2 (opS p l (encS p ks s) k i a).1.2∧∃ys,(opS p l (encS p ks s) k i a).2=a.2++ys∧StL p ks (opS p l (encS p ks s) k i a).1.2 ys (rSt1 s l i o):=by
    unfold opS rSt1
    rw[Int.toNat_natCast,eG ho]
    cases ht:takB s l i o with
    | false =>
     rw[ht]at hsk
     have hsk:jO p (encS p ks s) k i=true:=by simpa using hsk.symm
     rw[if_pos hsk,oO ht]
     exact⟨Q,A,Ext.refl _,[],by simp,trivial⟩
    | true =>
     rw[ht]at hsk
     have hsk:jO p (encS p ks s) k i=false:=by simpa using hsk.symm
     obtain⟨t1,t2,t3⟩:=S.take h hk ho he hP.2 ht
     rw[if_neg (c:=jO p (encS p ks s) k (i:Int)=true) (by rw[hsk]; decide),←t2,←t1]
     cases h2:(bB s l i o).2 with
     | true =>
      obtain⟨b1,b2,b3,b4,b5⟩:=nt S Q A t3 (.step ((i:Int),(bB s l i o).1) hR (cp.2 (.inl ⟨i,o,ho,h2,rfl⟩)))
      exact⟨b1,b2,b3,[_],rfl,⟨⟨rfl,b4,b5⟩,trivial⟩⟩
     | false=>exact⟨Q,A,Ext.refl _,[],(by simp),trivial⟩
   obtain⟨k1,k2,k3,ys,k4,k5⟩:=key
   obtain⟨m1,m2,m3,zs',m4,m5⟩:=S.ops2 h hR r (i+1) (k+1) _ hr2 hz2 k1 k2
   have hn:c5 p l (encS p ks s) (zs (i::selI (eraB s.era.toNat (fun o=>mayB o n)) r (i+1))) k a=c5 p l (encS p ks s) (zs (selI (eraB s.era.toNat (fun o=>mayB o n)) r (i+1))) (k+1) (opS p l (encS p ks s) k i a):=rfl
   rw[hn]
   refine⟨m1,m2,k3.trans m3,ys++zs',by rw[m4,k4,List.append_assoc],?_⟩
   rw[rStO]
   exact (k5.ext m3).app m5
theorem Sc.next2 (S:Sc l n e p ks kv) {s:RS} (h:RG l n e p ks kv s) (hR:kW l n e s) {q:QS} (Q:QOk p e q) (A:AllE l n e p ks kv q) :
  QOk p e (cu p l e (encS p ks s) q).1∧AllE l n e p ks kv (cu p l e (encS p ks s) q).1∧Ext q.2 (cu p l e (encS p ks s) q).1.2∧StL p ks (cu p l e (encS p ks s) q).1.2 (cu p l e (encS p ks s) q).2 (cN l e s):=by
 have e0:=h.ok.e0
 have hz:zOf p s.era=zs (mayI l n s.era.toNat):=S.z e0 h.era
 have h2:=S.ops2 h hR l 0 0 (q,[]) (by simp) (by rw[List.drop_zero,hz]; rfl) Q A
 have hx:zOf p (encS p ks s).era=zs (selI (eraB s.era.toNat (fun o=>mayB o n)) l 0):=hz
 unfold cu mK cN rStC
 rw[hx,←show zOf p s.era=zs (selI (eraB s.era.toNat (fun o=>mayB o n)) l 0) from hz,S.full h,show zOf p s.era=zs (selI (eraB s.era.toNat (fun o=>mayB o n)) l 0) from hz]
 have hd:decide ((encS p ks s).era+1<(e:Int))=decide (s.era<(e:Int)-1):=by
  show decide (s.era+1<(e:Int))=_
  by_cases hc:s.era+1<(e:Int)
  ·rw[dT hc,dT (by omega)]
  ·rw[dF hc,dF (by omega)]
 rw[hd]
 obtain⟨k1,k2,k3,ys,k4,k5⟩:=h2
 simp only[List.nil_append]at k4
 have stay:StL p ks (c5 p l (encS p ks s) (zs (selI (eraB s.era.toNat (fun o=>mayB o n)) l 0)) 0 (q,[])).1.2 (c5 p l (encS p ks s) (zs (selI (eraB s.era.toNat (fun o=>mayB o n)) l 0)) 0 (q,[])).2 (rStO l s l 0++[]):=by rw[k4,List.append_nil]; exact k5
 cases hc:decide (s.era<(e:Int)-1) with
 | false=>exact⟨k1,k2,k3,stay⟩
 | true =>
  rw[Bool.true_and]
  cases hfu:b9 s l 0 with
  | true =>
   have hc:=of_decide_eq_true hc
   obtain⟨b1,b2,b3,b4,b5⟩:=nt S k1 k2 (h.crash (by omega) S.el) (.step (-1,aY s) hR (cp.2 (.inr ⟨hc,hfu,rfl⟩)))
   rw[oo]at b1 b2 b3 b4 b5
   refine⟨b1,b2,k3.trans b3,?_⟩
   have:StL p ks (addS (c5 p l (encS p ks s) (zs (selI (eraB s.era.toNat (fun o=>mayB o n)) l 0)) 0 (q,[])).1 ⟨s.era+1,cz (zOf p (s.era+1)).length,(encS p ks s).durable,(encS p ks s).durable⟩).1.2 ((c5 p l (encS p ks s) (zs (selI (eraB s.era.toNat (fun o=>mayB o n)) l 0)) 0 (q,[])).2++[⟨-1,(addS (c5 p l (encS p ks s) (zs (selI (eraB s.era.toNat (fun o=>mayB o n)) l 0)) 0 (q,[])).1 ⟨s.era+1,cz (zOf p (s.era+1)).length,(encS p ks s).durable,(encS p ks s).durable⟩).2⟩]) (rStO l s l 0++[(-1,aY s)]):=by
    rw[k4]
    exact (k5.ext b3).app ⟨⟨rfl,b4,by rw[oo]; exact b5⟩,trivial⟩
   exact this
  | false=>exact⟨k1,k2,k3,stay⟩
structure SI (l:List HOp) (n e:Nat) (p:Prep) (ks:List Int) (kv:List (List UInt8)) (k:Nat) (q:QS) (sp:List (List aI)):Prop where
 ok:QOk p e q
 al:AllE l n e p ks kv q
 len:sp.length=k
 le:k≤q.2.length
 fst:q.2[0]?=some (encS p ks (aN n))
 rel:∀(j:Nat) (s:RS) (ys:List aI),RG l n e p ks kv s→q.2[j]?=some (encS p ks s)→sp[j]?=some ys→StL p ks q.2 ys (cN l e s)
theorem Sc.si0 (S:Sc l n e p ks kv) (he:0<e):SI l n e p ks kv 0 (addS ([],[]) (c6 p)).1 []:=by
 have Q0:QOk p e ([],[]):=⟨fun _ h=>(by cases h),fun _ _ h=>(by cases h),fun _ _ h=>(by simp at h)⟩
 have h:=nt S Q0 (fun _ h=>(by cases h)) (S.first he) .first
 rw[S.enc_first]at h
 refine⟨h.1,h.2.1,rfl,Nat.zero_le _,?_,fun j s ys _ _ h=>by simp at h⟩
 rw[S.enc_first]; rfl
theorem Sc.si1 (S:Sc l n e p ks kv) {k:Nat} {q:QS} {sp:List (List aI)} (I:SI l n e p ks kv k q sp) {x:LSt} (hx:q.2[k]?=some x):SI l n e p ks kv (k+1) (cu p l e x q).1 (sp++[(cu p l e x q).2]):=by
 obtain⟨s,hs,hR,rfl⟩:=I.al x (List.mem_of_getElem? hx)
 obtain⟨a1,a2,a3,a4⟩:=S.next2 hs hR I.ok I.al
 have hk:=(List.getElem?_eq_some_iff.1 (a3 _ _ hx)).1
 refine⟨a1,a2,by simp[I.len],hk,a3 _ _ I.fst,fun j t ys ht hj hy=>?_⟩
 by_cases hjk:j<k
 ·rw[List.getElem?_append_left (by rw[I.len]; exact hjk)]at hy
  have hjq:j<q.2.length:=Nat.lt_of_lt_of_le hjk I.le
  have h1:=a3 _ _ (List.getElem?_eq_getElem hjq)
  rw[hj]at h1
  exact (I.rel j t ys ht (by rw[List.getElem?_eq_getElem hjq]; exact h1.symm) hy).ext a3
 ·have hjl:=(List.getElem?_eq_some_iff.1 hy).1
  rw[List.length_append,I.len]at hjl
  have hjk:j=k:=by simp at hjl; omega
  subst hjk
  rw[List.getElem?_append_right (by rw[I.len]; exact Nat.le_refl _),I.len,Nat.sub_self]at hy
  simp at hy
  subst hy
  rw[a3 _ _ hx]at hj
  have:=S.enc_inj hs ht (Option.some.inj hj)
  subst this
  exact a4
theorem Sc.siG (S:Sc l n e p ks kv) {fuel:Int}:∀(M k:Nat) (q:QS) (sp:List (List aI)) (q':QS) (sp':List (List aI)),SI l n e p ks kv k q sp→fw p l e fuel M k q sp=some (q',sp')→SI l n e p ks kv q'.2.length q' sp'
 | 0,_,_,_,_,_,_,h=>by cases h
 | M+1,k,q,sp,q',sp',I,h=>by
  rw[fw]at h
  cases hx:q.2[k]? with
  | none =>
   rw[hx]at h
   simp only at h
   split at h
   ·cases h
   ·cases h
    have h1:=List.getElem?_eq_none_iff.1 hx
    have h2:=I.le
    have:k=q.2.length:=by omega
    exact this ▸ I
  | some x =>
   rw[hx]at h
   simp only at h
   split at h
   ·cases h
   ·exact S.siG M (k+1) _ _ q' sp' (S.si1 I hx) h
theorem Sc.si (S:Sc l n e p ks kv) (he:0<e) {fuel:Int} {q:QS} {sp:List (List aI)} (h:nI p l e fuel=some (q,sp)):SI l n e p ks kv q.2.length q sp:=S.siG _ _ _ _ _ _ (S.si0 he) h
end
end Go.Proofs.Ytkehohfgbblokaa
namespace Go.Proofs.Ytkehohfgbblokaa
open Go.Eng Go.Plain
set_option maxHeartbeats 32000000
set_option maxRecDepth 20000
inductive EndT (l:List HOp) (e:Int):RS→Prop
 | fin {s:RS}:b9 s l 0=true→s.era=e-1→EndT l e s
 | step {s:RS} (x:Int×RS):x∈cN l e s→EndT l e x.2→EndT l e s
def p9 (f:RS→Bool) (l:List HOp) (s:RS):List HOp→Nat→Bool
 | [],_=>false
 | o::r,i=>((bB s l i o).2&&f (bB s l i o).1)||p9 f l s r (i+1)
def iH (l:List HOp) (e:Int):Nat→RS→Bool
 | 0,_=>false
 | N+1,s=>(b9 s l 0&&(decide (s.era=e-1)||iH l e N (aY s)))||p9 (iH l e N) l s l 0
def muR (l:List HOp) (e:Nat) (s:RS):Nat:=(e-s.era.toNat)*(l.length+1)-s.taken.length
theorem nU {f:RS→Bool} {s:RS} {l:List HOp}:∀(r:List HOp) (i:Nat),l.drop i=r→(p9 f l s r i=true ↔ ∃(j:Nat) (o:HOp),i≤j∧l[j]?=some o∧(bB s l j o).2=true∧f (bB s l j o).1=true)
 | [],i,h=>by
  have hl:l.length≤i:=List.drop_eq_nil_iff.1 h
  simp only[p9,Bool.false_eq_true,false_iff]
  rintro⟨j,o,h1,h2,_⟩
  have:=(List.getElem?_eq_some_iff.1 h2).1
  omega
 | o::r,i,h=>by
  have ho:l[i]?=some o:=by
   have:=congrArg (fun x=>x[0]?) h
   simpa using this
  have hr:l.drop (i+1)=r:=by
   have:=congrArg List.tail h
   simpa using this
  rw[p9,Bool.or_eq_true,Bool.and_eq_true,nU r (i+1) hr]
  constructor
  ·rintro (⟨h1,h2⟩ | ⟨j,o',h1,h2⟩)
   ·exact⟨i,o,Nat.le_refl _,ho,h1,h2⟩
   ·exact⟨j,o',by omega,h2⟩
  ·rintro⟨j,o',h1,h2,h3⟩
   by_cases hj:j=i
   ·subst hj
    rw[ho]at h2; cases h2
    exact .inl h3
   ·exact .inr ⟨j,o',by omega,h2,h3⟩
section
variable {l : List HOp} {n e : Nat} {p : Prep} {ks : List Int} {kv : List (List UInt8)}
theorem Sc.zlen (S:Sc l n e p ks kv) {k:Int} (h0:0≤k) (h1:k<e):(zOf p k).length≤l.length:=by
 rw[S.z h0 h1,eN,mayI]
 exact fi _ l 0
theorem Sc.tlen (S:Sc l n e p ks kv) {s:RS} (h:RG l n e p ks kv s):s.taken.length≤l.length:=by
 rw[h.tk]
 exact Nat.le_trans (List.length_filter_le _ _) (S.zlen h.ok.e0 h.era)
theorem fE {s:RS} {l:List HOp} {i:Nat} {o:HOp} (h:(bB s l i o).2=true):takB s l i o=true:=by
 cases ht:takB s l i o with
 | true=>rfl
 | false=>rw[oO ht]at h; cases h
theorem iP {s:RS} {l:List HOp} {i:Nat} {o:HOp} (h:takB s l i o=true):o.era=s.era∧mayB o s.arr.length=true∧hasB s.taken (i:Int)=false∧hitL s o l 0=false:=by
 unfold takB at h
 simp only[Bool.and_eq_true,Bool.not_eq_true',decide_eq_true_eq]at h
 exact h
theorem Sc.rgTake (S:Sc l n e p ks kv) {s:RS} (h:RG l n e p ks kv s) {i:Nat} {o:HOp} (ho:l[i]?=some o) (ht:(bB s l i o).2=true):RG l n e p ks kv (bB s l i o).1:=by
 have ht:=fE ht
 obtain⟨h1,h2,_,_⟩:=iP ht
 rw[h.ok.al]at h2
 obtain⟨k,hk⟩:=List.mem_iff_getElem?.1 ((S.zin h.ok.e0 h.era).2 ⟨i,o,rfl,ho,h1,h2⟩)
 exact (S.take h hk ho h1 h2 ht).2.2
theorem pN {s:RS} {l:List HOp} {i:Nat} {o:HOp}:(bB s l i o).1.era=s.era:=by
 unfold bB hapR
 split
 ·simp only
  split
  ·rfl
  ·split <;> rfl
 ·rfl
theorem uM {s:RS} {l:List HOp} {i:Nat} {o:HOp} (h:(bB s l i o).2=true):(bB s l i o).1.taken.length=s.taken.length+1:=by
 rw[bB,if_pos (fE h)]
 exact nB _ _
theorem Sc.rgSteps (S:Sc l n e p ks kv) {s:RS} (h:RG l n e p ks kv s) {x:Int×RS} (hx:x∈cN l e s):RG l n e p ks kv x.2∧muR l e x.2<muR l e s:=by
 have e0:=h.ok.e0
 have e1:=h.era
 have ht:=S.tlen h
 rcases cp.1 hx with ⟨j,o,h1,h2,rfl⟩ | ⟨h1,h2,rfl⟩
 ·refine⟨S.rgTake h h1 h2,?_⟩
  simp only[muR,pN,uM h2]
  have h3:l.length+1≤(e-s.era.toNat)*(l.length+1):=Nat.le_mul_of_pos_left _ (by omega)
  omega
 ·refine⟨h.crash (by omega) S.el,?_⟩
  simp only[muR,aY,List.length_nil]
  obtain⟨d,hd⟩:∃d,e-s.era.toNat=d+1:=⟨e-s.era.toNat-1,by omega⟩
  rw[show e-(s.era+1).toNat=d by omega,hd,Nat.add_mul]
  omega
theorem EndT.inv {s:RS} (h:EndT l e s):(b9 s l 0=true∧s.era=(e:Int)-1)∨∃x∈cN l e s,EndT l e x.2:=by
 cases h with
 | fin h1 h2=>exact .inl ⟨h1,h2⟩
 | step x h1 h2=>exact .inr ⟨x,h1,h2⟩
theorem Sc.endG (S:Sc l n e p ks kv):∀(N:Nat) (s:RS),RG l n e p ks kv s→muR l e s<N→(iH l e N s=true↔EndT l e s)
 | 0,s,_,h=>by omega
 | N+1,s,h,hN=>by
  have ih:∀x∈cN l e s,(iH l e N x.2=true↔EndT l e x.2):=fun x hx=>by
   obtain⟨h1,h2⟩:=S.rgSteps h hx
   exact S.endG N x.2 h1 (by omega)
  rw[iH,Bool.or_eq_true,Bool.and_eq_true,Bool.or_eq_true,decide_eq_true_eq,nU l 0 List.drop_zero]
  constructor
  ·rintro (⟨h1,h2 | h2⟩ | ⟨j,o,_,h2,h3,h4⟩)
   ·exact .fin h1 h2
   ·by_cases he:s.era=(e:Int)-1
    ·exact .fin h1 he
    ·have hx:((-1:Int),aY s)∈cN l e s:=cp.2 (.inr ⟨by have:=h.era; omega,h1,rfl⟩)
     exact .step _ hx ((ih _ hx).1 h2)
   ·have hx:((j:Int),(bB s l j o).1)∈cN l e s:=cp.2 (.inl ⟨j,o,h2,h3,rfl⟩)
    exact .step _ hx ((ih _ hx).1 h4)
  ·intro hE
   rcases hE.inv with ⟨h1,h2⟩ | ⟨x,hx,h2⟩
   ·exact .inl ⟨h1,.inl h2⟩
   ·have h3:=(ih x hx).2 h2
    rcases cp.1 hx with ⟨j,o,h4,h5,rfl⟩ | ⟨h4,h5,rfl⟩
    ·exact .inr ⟨j,o,Nat.zero_le _,h4,h5,h3⟩
    ·exact .inl ⟨h5,.inr h3⟩
theorem Sc.good (S:Sc l n e p ks kv) {q:QS} {sp:List (List aI)} (I:SI l n e p ks kv q.2.length q sp) (hsp:SpOk q.2 sp):∀(N:Nat) (i:Nat) (s:RS),RG l n e p ks kv s→muR l e s<N→q.2[i]?=some (encS p ks s)→((dJ p l e q.2 sp)[i]?=some true↔EndT l e s)
 | 0,_,_,_,h,_=>by omega
 | N+1,i,s,h,hN,hi=>by
  have hil:=(List.getElem?_eq_some_iff.1 hi).1
  obtain⟨ys,hys⟩:∃ys,sp[i]?=some ys:=⟨_,List.getElem?_eq_getElem (by rw[I.len]; exact hil)⟩
  have hst:=I.rel i s ys h hi hys
  obtain⟨m1,m2⟩:=hst.mem
  have hspN:spN sp (i:Int)=ys:=by rw[spN,Int.toNat_natCast,hys]; rfl
  have hstN:stN q.2 (i:Int)=encS p ks s:=by rw[stN,Int.toNat_natCast,hi]; rfl
  have hend:endB p l e (encS p ks s)=true↔(b9 s l 0=true∧s.era=(e:Int)-1):=by
   unfold endB
   rw[Bool.and_eq_true,decide_eq_true_eq]
   show s.era=(e:Int)-1∧iJ l p.lo (zOf p s.era) (encS p ks s)=true↔_
   rw[S.full h]
   exact⟨fun⟨a,b⟩=>⟨b,a⟩,fun⟨a,b⟩=>⟨b,a⟩⟩
  rw[qC hsp i hil,hspN,hstN,hend]
  constructor
  ·rintro (⟨h1,h2⟩ | ⟨y,hy,h1⟩)
   ·exact .fin h1 h2
   ·obtain⟨x,hx,a1,a2,a3⟩:=m1 y hy
    obtain⟨b1,b2⟩:=S.rgSteps h hx
    exact .step x hx ((S.good I hsp N _ x.2 b1 (by omega) a3).1 h1)
  ·intro hE
   rcases hE.inv with h1 | ⟨x,hx,h2⟩
   ·exact .inl h1
   ·obtain⟨y,hy,a1,a2,a3⟩:=m2 x hx
    obtain⟨b1,b2⟩:=S.rgSteps h hx
    exact .inr ⟨y,hy,(S.good I hsp N _ x.2 b1 (by omega) a3).2 h2⟩
end
end Go.Proofs.Ytkehohfgbblokaa
namespace Go.Proofs.Ytkehohfgbblokaa
open Go.Eng Go.Plain
set_option maxHeartbeats 32000000
set_option maxRecDepth 20000
def WInv (l:List HOp) (n:Nat) (s:RS):Prop:=∃st:Int→List UInt8,
 (∀j:Int,0≤j→j<n→st j=zBk∨∃(i:Nat) (o:HOp),l[i]?=some o∧o.era<s.era∧o.op.kind=2∧o.op.index=j∧o.op.data=st j) ∧
 (∀j:Int,0≤j→j<n→pgAt s.arr j=st j∨∃(i:Nat) (o:HOp),l[i]?=some o∧o.era=s.era∧hasB s.taken (i:Int)=true∧o.op.kind=2∧o.op.index=j∧o.op.data=pgAt s.arr j) ∧
 (∀j:Int,0≤j→j<n→pgAt s.dur j=st j∨∃(i:Nat) (o:HOp),l[i]?=some o∧o.era=s.era∧hasB s.taken (i:Int)=true∧o.op.kind=2∧o.op.index=j∧o.op.data=pgAt s.dur j) ∧
 ((∀(i:Nat) (o:HOp),l[i]?=some o→o.era=s.era→o.op.kind≠3)→∀j:Int,0≤j→j<n→pgAt s.dur j=st j)
section
variable {l : List HOp} {n e : Nat} {p : Prep} {ks : List Int} {kv : List (List UInt8)}
def Bt (l:List HOp) (E:Int):Bool:=l.any fun o=>decide (o.era=E)&&decide (o.op.kind=3)
def optO (l:List HOp) (E:Int) (o:HOp):List Nat :=
 if o.era=E then (if o.op.kind=2 then (if Bt l E then[0,1,2,3,4] else[0,1,2]) else[0,1])
 else if o.era<E then[0,1] else[0]
def uH:List (List Nat)→List (List Nat)
 | []=>[[]]
 | os::r=>os.flatMap fun x=>(uH r).map (x :: ·)
def Bj:List Nat→Nat
 | []=>1
 | a::r=>a*Bj r
def srcD (f:HOp→Nat→Bool):List HOp→List Nat→Option (List UInt8)
 | o::l,x::w=>if f o x then some o.op.data else srcD f l w
 | _,_=>none
def stW (l:List HOp) (E:Int) (w:List Nat) (j:Int):List UInt8:=(srcD (fun o x=>decide (o.era<E)&&(decide (o.op.kind=2)&&(decide (o.op.index=j)&&decide (x=1)))) l w).getD zBk
def arW (l:List HOp) (E:Int) (w:List Nat) (j:Int):List UInt8:=(srcD (fun o x=>decide (o.era=E)&&(decide (o.op.kind=2)&&(decide (o.op.index=j)&&(decide (x=2)||decide (x=4))))) l w).getD (stW l E w j)
def duW (l:List HOp) (E:Int) (w:List Nat) (j:Int):List UInt8:=(srcD (fun o x=>decide (o.era=E)&&(decide (o.op.kind=2)&&(decide (o.op.index=j)&&(decide (x=3)||decide (x=4))))) l w).getD (stW l E w j)
def decW (l:List HOp) (n:Nat) (p:Prep) (E:Int) (w:List Nat):RS :=
 ⟨E,(zOf p E).filter (fun i=>match w[i.toNat]? with | some x=>decide (x≠0) | none=>false),(List.range n).map fun j=>arW l E w (j:Nat),(List.range n).map fun j=>duW l E w (j:Nat)⟩
def symW (a d b:Int→Option Nat) (E:Int) (T:List Int) (i:Nat) (o:HOp):Nat :=
 if o.era=E then (if hasB T (i:Int)=false then 0 else if o.op.kind≠2 then 1
  else if a o.op.index=some i then (if d o.op.index=some i then 4 else 2) else (if d o.op.index=some i then 3 else 1))
 else if o.era<E then (if o.op.kind=2∧b o.op.index=some i then 1 else 0) else 0
end
end Go.Proofs.Ytkehohfgbblokaa
namespace Go.Proofs.Ytkehohfgbblokaa
open Go.Eng Go.Plain
set_option maxHeartbeats 32000000
set_option maxRecDepth 20000
def yW (l:List HOp) (n:Nat) (p:Prep):Nat→List RS
 | 0=>[]
 | k+1=>yW l n p k++(uH (l.map (optO l (k:Nat)))).map (decW l n p (k:Nat))
theorem qh {α:Type}:∀(xs ys:List α),xs.Nodup→(∀x∈xs,x∈ys)→xs.length≤ys.length
 | [],_,_,_=>Nat.zero_le _
 | x::xs,ys,hn,h=>by
  obtain⟨a,b,rfl⟩:=List.append_of_mem (h x List.mem_cons_self)
  obtain⟨h1,h2⟩:=List.nodup_cons.1 hn
  have:=qh xs (a++b) h2 fun y hy=>by
   have h3:=h y (List.mem_cons_of_mem _ hy)
   rcases List.mem_append.1 h3 with h3 | h3
   ·exact List.mem_append_left _ h3
   ·rcases List.mem_cons.1 h3 with rfl | h3
    ·exact absurd hy h1
    ·exact List.mem_append_right _ h3
  simp only[List.length_append,List.length_cons]at this ⊢
  omega
def Fn (n:Nat):Nat:=if n=0 then 1 else max (3 ^ n) (2*5 ^ (n-1))
def cnts:List HEv→Nat→List Nat
 | [],n=>[n]
 | x::r,n=>if x.kind=3 then n::cnts r 0 else if x.kind=1 then cnts r (n+1) else cnts r n
def eraL:List HEv→Int→List Int
 | [],_=>[]
 | x::r,e=>if x.kind=3 then eraL r (e+1) else if x.kind=1 then e::eraL r e else eraL r e
def totN:Nat→List Nat→Nat
 | _,[]=>0
 | pre,n::ns=>pre*Fn n+totN (pre*2 ^ n) ns
def sumL:List Nat→Nat
 | []=>0
 | a::r=>a+sumL r
theorem kF:∀(r:List HEv) (e x:Int),x∈eraL r e→e≤x
 | [],_,_,h=>by cases h
 | y::r,e,x,h=>by
  unfold eraL at h
  split at h
  ·have:=kF r (e+1) x h; omega
  ·split at h
   ·rcases List.mem_cons.1 h with rfl | h
    ·exact Int.le_refl _
    ·exact kF r e x h
   ·exact kF r e x h
theorem hU (h:List HEv):∀(m i:Nat) (out:List HOp) (era:Int),(eW h m i out era).map HOp.era=out.map HOp.era++eraL ((h.drop i).take m) era
 | 0,i,out,era=>by rw[eW,List.take_zero]; simp[eraL]
 | m+1,i,out,era=>by
  rw[eW]
  cases hx:h[i]? with
  | none=>rw[List.drop_eq_nil_of_le (List.getElem?_eq_none_iff.1 hx)]; simp[eraL]
  | some x =>
   have hlt:=(List.getElem?_eq_some_iff.1 hx).1
   rw[List.drop_eq_getElem_cons hlt,(List.getElem?_eq_some_iff.1 hx).2,List.take_succ_cons,eraL]
   simp only
   split
   ·exact hU h m (i+1) out (era+1)
   ·split
    ·rw[hU h m (i+1) _ era,List.map_append]
     have:(mkOp h i x out era).era=era:=by
      unfold mkOp eS cZ
      split <;> rfl
     simp[this]
    ·exact hU h m (i+1) out era
theorem tK (h:List HEv):(opsR h).map HOp.era=eraL h 0:=by
 rw[opsR,hU,List.drop_zero,List.take_length]; rfl
def g10 (k:Nat):Nat:=if k % 2=0 then 10*5 ^ (k/2) else 13*5 ^ (k/2)
def Vn (m c n:Nat):Nat:=if m=0 then 25*Fn n else 5 ^ n*g10 (m+3-c)
def chkV:Bool:=(List.range 16).all fun m=>(List.range 4).all fun c=>(List.range 17).all fun n=>decide (n<c)||(decide (16<n+m)||(decide (25*Fn n+2 ^ n*Vn m 0 0≤Vn (m+1) c n)&&((decide (3≤c)||decide (Vn m (c+1) (n+1)≤Vn (m+1) c n))&&(decide (c=0)||decide (Vn m (c-1) n≤Vn (m+1) c n)))))
def bP (p:List HEv) (c:Int):Nat:=if pend p c<0 then 0 else 1
def cntP (p:List HEv):Nat:=bP p 0+bP p 1+bP p 2
def Cl3 (h:List HEv):Prop:=∀x∈h,x.kind≠3→0≤x.client∧x.client<3
section
variable {n : Nat} {p : Prep} {ks : List Int} {kv : List (List UInt8)}
end
end Go.Proofs.Ytkehohfgbblokaa
namespace Go.Proofs.Ytkehohfgbblokaa
open Go.Eng Go.Plain
set_option maxHeartbeats 32000000
set_option maxRecDepth 20000
inductive NowT (l:List HOp) (e:Int):RS→Prop
 | fin {s:RS}:b9 s l 0=true→s.era=e-1→NowT l e s
 | step {s:RS}:b9 s l 0=true→s.era<e-1→NowT l e (aY s)→NowT l e s
inductive CrP (l:List HOp) (e:Int):RS→RS→Prop
 | refl (s:RS):CrP l e s s
 | step {s t:RS}:b9 s l 0=true→s.era<e-1→CrP l e (aY s) t→CrP l e s t
def crF (l:List HOp) (E:Int):Nat→RS→RS
 | 0,t=>t
 | N+1,t=>if decide (t.era<E)&&b9 t l 0 then crF l E N (aY t) else t
def gr (f:Nat→HOp→Bool):List HOp→Nat→Int
 | [],_ => -1
 | o::r,i=>if f i o then (i:Int) else gr f r (i+1)
def gQ (l:List HOp) (e M:Nat) (s:RS) (i:Nat) (o:HOp):Bool:=(bB (crF l o.era e s) l i o).2&&iH l e M (bB (crF l o.era e s) l i o).1
def gZ (l:List HOp) (n e M:Nat):Nat→RS→List Int→List Int×Bool
 | 0,_,_=>([],false)
 | N+1,s,out=>if mC n n l out=0 then (out,true) else
  match l[(gr (gQ l e M s) l 0).toNat]? with
  | none=>([],false)
  | some o=>if gr (gQ l e M s) l 0<0 then ([],false) else gZ l n e M N (bB (bJ o.era s) l (gr (gQ l e M s) l 0).toNat o).1 (out++[gr (gQ l e M s) l 0])
theorem m9 {s:RS}:∀(l:List HOp) (k:Nat),b9 s l k=true ↔ ∀(j:Nat) (q:HOp),l[j]?=some q→q.era=s.era→bL q=true→hasB s.taken ((k+j:Nat):Int)=true:=by
 intro l
 induction l with
 | nil=>intro k; simp[b9]
 | cons a l ih =>
  intro k
  rw[b9,Bool.and_eq_true,ih]
  constructor
  ·rintro⟨h1,h2⟩ j q hj hq hm
   cases j with
   | zero =>
    simp at hj; subst hj
    rw[hm,dT hq]at h1
    simpa using h1
   | succ j=>rw[show k+(j+1)=k+1+j by omega]; exact h2 j q (by simpa using hj) hq hm
  ·intro h1
   refine⟨?_,fun j q hj hq hm=>by rw[show k+1+j=k+(j+1) by omega]; exact h1 (j+1) q (by simpa using hj) hq hm⟩
   cases ha:decide (a.era=s.era) with
   | false=>rfl
   | true =>
    cases hb:bL a with
    | false=>rfl
    | true =>
     have:=h1 0 a rfl (of_decide_eq_true ha) hb
     rw[Nat.add_zero]at this
     have h2:s.taken.any (fun y=>decide (y=(k:Int)))=true:=this
     rw[h2]; rfl
section
variable {l : List HOp} {n e : Nat} {p : Prep} {ks : List Int} {kv : List (List UInt8)}
theorem CrP.snoc {E:Int} {s t:RS} (h:CrP l E s t) (h1:b9 t l 0=true) (h2:t.era<E-1):CrP l E s (aY t):=by
 induction h with
 | refl s=>exact .step h1 h2 (.refl _)
 | step a b _ ih=>exact .step a b (ih h1 h2)
theorem NowT.inv {E:Int} {s:RS} (h:NowT l E s):b9 s l 0=true∧(s.era=E-1∨s.era<E-1∧NowT l E (aY s)):=by
 cases h with
 | fin h1 h2=>exact⟨h1,.inl h2⟩
 | step h1 h2 h3=>exact⟨h1,.inr ⟨h2,h3⟩⟩
theorem CrP.now {E:Int} {s t:RS} (h:CrP l E s t):NowT l E s↔NowT l E t:=by
 induction h with
 | refl s=>exact Iff.rfl
 | step a b _ ih =>
  rw[←ih]
  constructor
  ·intro h
   rcases h.inv.2 with h | h
   ·omega
   ·exact h.2
  ·exact fun h=>.step a b h
theorem CrP.era_le {E:Int} {s t:RS} (h:CrP l E s t):s.era≤t.era:=by
 induction h with
 | refl s=>exact Int.le_refl _
 | step a b _ ih=>simp only[aY]at ih; omega
theorem CrP.rg (S:Sc l n e p ks kv) {s t:RS} (h:CrP l e s t):RG l n e p ks kv s→RG l n e p ks kv t∧muR l e t≤muR l e s:=by
 induction h with
 | refl s=>exact fun h=>⟨h,Nat.le_refl _⟩
 | step a b _ ih =>
  intro hs
  obtain⟨h1,h2⟩:=S.rgSteps hs (x:=(-1,aY _)) (cp.2 (.inr ⟨b,a,rfl⟩))
  obtain⟨h3,h4⟩:=ih h1
  exact⟨h3,by simp only at h2; omega⟩
theorem CrP.must {E:Int} {s t:RS} (h:CrP l E s t):∀(j:Nat) (o:HOp),l[j]?=some o→bL o=true→s.era≤o.era→o.era<t.era→o.era=s.era∧hasB s.taken (j:Int)=true:=by
 induction h with
 | refl s=>exact fun j o _ _ h1 h2=>by omega
 | step a b _ ih =>
  intro j o ho hm h1 h2
  rename_i s t _
  by_cases he:o.era=s.era
  ·have:=(m9 l 0).1 a j o ho he hm
   rw[Nat.zero_add]at this
   exact⟨he,this⟩
  ·have:=(ih j o ho hm (by simp only[aY]; omega) h2).2
   simp[aY]at this
theorem gP {E:Int} {s:RS} (h:¬s.era<E) (N:Nat):crF l E N s=s:=by
 cases N with
 | zero=>rfl
 | succ N=>rw[crF,dF h,Bool.false_and,if_neg Bool.false_ne_true]
theorem qO {E:Int}:∀(N M:Nat) (s:RS),(E-s.era).toNat≤N→(E-s.era).toNat≤M→crF l E N s=crF l E M s
 | 0,M,s,h1,_=>by rw[gP (by omega),gP (by omega)]
 | N+1,0,s,_,h2=>by rw[gP (by omega),gP (by omega)]
 | N+1,M+1,s,h1,h2=>by
  rw[crF,crF]
  split
  ·rename_i hc
   simp only[Bool.and_eq_true,decide_eq_true_eq]at hc
   exact qO N M (aY s) (by simp only[aY]; omega) (by simp only[aY]; omega)
  ·rfl
theorem CrP.crF {E:Int} {N:Nat} {X:Int} {s t:RS} (h:CrP l X s t) (hE:t.era≤E) (h0:(E-s.era).toNat≤N):crF l E N s=crF l E N t:=by
 induction h with
 | refl s=>rfl
 | step a b hc ih =>
  rename_i s t
  have h1:=hc.era_le
  simp only[aY]at h1
  rw[←ih hE (by simp only[aY]; omega)]
  cases N with
  | zero=>omega
  | succ N =>
   rw[Go.Proofs.Ytkehohfgbblokaa.crF,dT (by omega),a,Bool.true_and,if_pos rfl]
   exact qO N (N+1) (aY s) (by simp only[aY]; omega) (by simp only[aY]; omega)
theorem og {f:Nat→HOp→Bool} {j:Nat} {o:HOp}:∀(r:List HOp) (i:Nat),r[j]?=some o→f (i+j) o=true→(∀(k:Nat) (q:HOp),k<j→r[k]?=some q→f (i+k) q=false)→gr f r i=((i+j:Nat):Int)
 | [],i,h,_,_=>by simp at h
 | a::r,i,h,h1,h2=>by
  rw[gr]
  cases j with
  | zero =>
   simp at h; subst h
   rw[Nat.add_zero]at h1
   rw[h1,if_pos rfl,Nat.add_zero]
  | succ j =>
   have h3:=h2 0 a (by omega) rfl
   rw[Nat.add_zero]at h3
   rw[h3,if_neg Bool.false_ne_true,og r (i+1) (j:=j) (by simpa using h) (by rw[show i+1+j=i+(j+1) by omega]; exact h1) fun k q hk hq=>by
    rw[show i+1+k=i+(k+1) by omega]; exact h2 (k+1) q (by omega) (by simpa using hq)]
   congr 1; omega
theorem Sc.nowG (S:Sc l n e p ks kv) {q:QS} {sp:List (List aI)} (I:SI l n e p ks kv q.2.length q sp):∀(N:Nat) (i:Int) (s:RS),RG l n e p ks kv s→(e:Int)-s.era≤N→0≤i→q.2[i.toNat]?=some (encS p ks s)→(kH p l e q.2 sp N i=true↔NowT l e s)
 | 0,_,s,h,hN,_,_=>by have:=h.era; omega
 | N+1,i,s,h,hN,hi0,hi=>by
  have hil:=(List.getElem?_eq_some_iff.1 hi).1
  obtain⟨ys,hys⟩:∃ys,sp[i.toNat]?=some ys:=⟨_,List.getElem?_eq_getElem (by rw[I.len]; exact hil)⟩
  obtain⟨m1,m2⟩:=(I.rel i.toNat s ys h hi hys).mem
  have hspN:spN sp i=ys:=by rw[spN,hys]; rfl
  have hstN:stN q.2 i=encS p ks s:=by rw[stN,hi]; rfl
  have he:(encS p ks s).era=s.era:=rfl
  rw[kH,hspN,hstN,he]
  by_cases h1:s.era=(e:Int)-1
  ·rw[if_pos (dT h1)]
   have:=S.full h
   rw[he]at *
   rw[show iJ l p.lo (zOf p s.era) (encS p ks s)=b9 s l 0 from S.full h]
   exact⟨fun h2=>.fin h2 h1,fun h2=>h2.inv.1⟩
  ·rw[if_neg (by rw[dF h1]; decide)]
   cases hf:ys.find? (fun y=>decide (y.op<0)) with
   | none =>
    simp only[Bool.false_eq_true,false_iff]
    intro h2
    rcases h2.inv with ⟨a,b | ⟨b,c⟩⟩
    ·exact h1 b
    ·obtain⟨y,hy,e1,_⟩:=m2 _ (cp.2 (.inr ⟨b,a,rfl⟩))
     have:=List.find?_eq_none.1 hf y hy
     rw[e1]at this
     exact this rfl
   | some y =>
    have hyn:y.op<0:=of_decide_eq_true (List.find?_some (p:=fun y:aI=>decide (y.op<0)) hf)
    obtain⟨x,hx,e1,e2,e3⟩:=m1 y (List.mem_of_find?_eq_some hf)
    rcases cp.1 hx with ⟨j,o,_,_,rfl⟩ | ⟨a,b,rfl⟩
    ·simp only at e1; omega
    ·obtain⟨c1,_⟩:=S.rgSteps h hx
     rw[S.nowG I N y.to (aY s) c1 (by simp only[aY]; omega) e2 e3]
     exact⟨fun h2=>.step b a h2,fun h2=>by
      rcases h2.inv.2 with h3 | h3
      ·omega
      ·exact h3.2⟩
theorem StL.find {a:List LSt} {g:List Bool} {f:RS→Bool}:∀ {ys:List aI} {xs:List (Int×RS)},StL p ks a ys xs→(∀y∈ys,∀x∈xs,a[y.to.toNat]?=some (encS p ks x.2)→ga g y=f x.2) →
  (ys.find? (ga g)=none∧xs.find? (fun x=>f x.2)=none)∨∃y x,ys.find? (ga g)=some y∧xs.find? (fun x=>f x.2)=some x∧y.op=x.1∧0≤y.to∧a[y.to.toNat]?=some (encS p ks x.2)
 | [],[],_,_=>.inl ⟨rfl,rfl⟩
 | y::ys,x::xs,⟨h1,h2⟩,hg=>by
  have hb:=hg y List.mem_cons_self x List.mem_cons_self h1.2.2
  rw[List.find?_cons,List.find?_cons,hb]
  cases f x.2 with
  | true=>exact .inr ⟨y,x,rfl,rfl,h1⟩
  | false=>exact StL.find h2 fun y hy x hx=>hg y (List.mem_cons_of_mem _ hy) x (List.mem_cons_of_mem _ hx)
 | [],_::_,h,_=>h.elim
 | _::_,[],h,_=>h.elim
theorem x4 {s:RS} {f:RS→Bool}:∀(r:List HOp) (i:Nat),l.drop i=r →
  (match (rStO l s r i).find? (fun x=>f x.2) with
  | none=>∀(j:Nat) (o:HOp),i≤j→l[j]?=some o→((bB s l j o).2&&f (bB s l j o).1)=false
  | some x=>∃(j:Nat) (o:HOp),i≤j∧l[j]?=some o∧(bB s l j o).2=true∧f (bB s l j o).1=true∧x=((j:Int),(bB s l j o).1)∧∀(k:Nat) (q:HOp),i≤k→k<j→l[k]?=some q→((bB s l k q).2&&f (bB s l k q).1)=false)
 | [],i,h=>by
  have hl:l.length≤i:=List.drop_eq_nil_iff.1 h
  intro j o h1 h2
  have:=(List.getElem?_eq_some_iff.1 h2).1
  omega
 | o::r,i,h=>by
  have ho:l[i]?=some o:=by
   have:=congrArg (fun x=>x[0]?) h
   simpa using this
  have hr:l.drop (i+1)=r:=by
   have:=congrArg List.tail h
   simpa using this
  have ih:=x4 (s:=s) (f:=f) r (i+1) hr
  rw[rStO,List.find?_append]
  have key:∀(b:Bool),((bB s l i o).2&&f (bB s l i o).1)=b→(rSt1 s l i o).find? (fun x=>f x.2)=if b then some ((i:Int),(bB s l i o).1) else none:=by
   intro b hb
   unfold rSt1
   cases h1:(bB s l i o).2 with
   | false =>
    rw[h1]at hb
    rw[←hb]; rfl
   | true =>
    rw[h1,Bool.true_and]at hb
    rw[if_pos rfl,List.find?_cons]
    simp only[hb]
    cases b <;> rfl
  cases hb:((bB s l i o).2&&f (bB s l i o).1) with
  | true =>
   rw[key true hb]
   simp only[Bool.and_eq_true]at hb
   exact⟨i,o,Nat.le_refl _,ho,hb.1,hb.2,rfl,fun k q h1 h2=>by omega⟩
  | false =>
   rw[key false hb]
   simp only[Bool.false_eq_true,if_false,Option.none_or]
   cases hf:(rStO l s r (i+1)).find? (fun x=>f x.2) with
   | none =>
    rw[hf]at ih
    simp only at ih ⊢
    intro j o' h1 h2
    by_cases hj:j=i
    ·subst hj
     rw[ho]at h2; cases h2
     exact hb
    ·exact ih j o' (by omega) h2
   | some x =>
    rw[hf]at ih
    simp only at ih ⊢
    obtain⟨j,o',h1,h2,h3,h4,h5,h6⟩:=ih
    refine⟨j,o',by omega,h2,h3,h4,h5,fun k q k1 k2 k3=>?_⟩
    by_cases hk:k=i
    ·subst hk
     rw[ho]at k3; cases k3
     exact hb
    ·exact h6 k q (by omega) k2 k3
end
end Go.Proofs.Ytkehohfgbblokaa
namespace Go.Proofs.Ytkehohfgbblokaa
open Go.Eng Go.Plain
set_option maxHeartbeats 32000000
set_option maxRecDepth 20000
def iC (l:List HOp):List Int→RS→RS
 | [],s=>s
 | i::os,s=>match l[i.toNat]? with
  | none=>s
  | some o=>iC l os (hapR (bJ o.era s) o).1
def noTk (s:RS):RS := { s with taken:=[] }
structure AccI (l:List HOp) (n:Nat) (s:RS) (out:List Int):Prop where
 acc:fS n l out [] (aN n)=0
 st:iC l out (aN n)=noTk s
 now:∀(j:Nat) (o:HOp),l[j]?=some o→o.era=s.era→hasB out (j:Int)=hasB s.taken (j:Int)
 old:∀(j:Nat) (o:HOp),l[j]?=some o→o.era<s.era→bL o=true→hasB out (j:Int)=true
 new:∀(j:Nat) (o:HOp),l[j]?=some o→s.era<o.era→hasB out (j:Int)=false
 val:∀i∈out,∃(j:Nat) (o:HOp),i=j∧l[j]?=some o
section
variable {l : List HOp} {n e : Nat} {p : Prep} {ks : List Int} {kv : List (List UInt8)}
theorem nP {b:Int} {i:Int}:∀(os pre:List Int) (s:RS),fS b l os pre s=0→fS b l (os++[i]) pre s=fS b l [i] (pre++os) (iC l os s)
 | [],pre,s,_=>by rw[List.nil_append,List.append_nil]; rfl
 | a::os,pre,s,h=>by
  rw[fS]at h
  rw[List.cons_append,fS]
  split at h
  ·cases h
  ·rename_i h0
   rw[if_neg h0]
   cases ho:l[a.toNat]? with
   | none=>rw[ho]at h; cases h
   | some o =>
    rw[ho]at h
    simp only at h ⊢
    have h1:¬(pre.any (fun y=>decide (y=a))=true):=fun c=>by rw[if_pos c]at h; cases h
    rw[if_neg h1]at h ⊢
    have h2:¬(mayB o b=false):=fun c=>by rw[if_pos c]at h; cases h
    rw[if_neg h2]at h ⊢
    have h3:¬(pre.any (befA l o)=true):=fun c=>by rw[if_pos c]at h; cases h
    rw[if_neg h3]at h ⊢
    have h4:¬((hapR (bJ o.era s) o).2=false):=fun c=>by rw[if_pos c]at h; cases h
    rw[if_neg h4]at h ⊢
    rw[nP os (pre++[a]) _ h,iC,ho,List.append_assoc]
    rfl
theorem nT {i:Int}:∀(os:List Int) (s:RS),(∀j∈os,∃(k:Nat) (o:HOp),j=k∧l[k]?=some o)→iC l (os++[i]) s=iC l [i] (iC l os s)
 | [],s,_=>rfl
 | a::os,s,h=>by
  obtain⟨k,o,rfl,ho⟩:=h a List.mem_cons_self
  have h1:∀os:List Int,iC l ((k:Int)::os) s=iC l os (hapR (bJ o.era s) o).1:=fun os=>by rw[iC,Int.toNat_natCast,ho]
  rw[List.cons_append,h1,h1]
  exact nT os _ fun j hj=>h j (List.mem_cons_of_mem _ hj)
structure ScL (l:List HOp) (e:Nat):Prop where
 er:∀(j:Nat) (o:HOp),l[j]?=some o→0≤o.era∧o.era<e
 mono:∀(i j:Nat) (o q:HOp),i≤j→l[i]?=some o→l[j]?=some q→o.era≤q.era
theorem AccI.first (L:ScL l e) (n:Nat):AccI l n (aN n) []:=
 ⟨rfl,rfl,fun _ _ _ _=>rfl,fun j o ho h1 _=>(by have:=(L.er j o ho).1; simp only[aN]at h1; omega),fun _ _ _ _=>rfl,fun _ h=>(by cases h)⟩
theorem fz (s:RS):bJ s.era s=s:=by rw[bJ,if_neg (by omega)]
theorem CrP.to {E:Int} {s t:RS} (h:CrP l E s t):t=bJ t.era s:=by
 induction h with
 | refl s=>rw[fz]
 | step a b hc ih =>
  rename_i s t
  have h1:=hc.era_le
  have h0:(aY s).era=s.era+1:=rfl
  rw[h0]at h1
  have key:bJ t.era (aY s)=⟨t.era,[],s.dur,s.dur⟩:=by
   unfold bJ
   by_cases h3:(aY s).era<t.era
   ·rw[if_pos h3]; rfl
   ·rw[if_neg h3]
    have h4:t.era=s.era+1:=by omega
    rw[h4]; rfl
  rw[bJ,if_pos (by omega),←key]
  exact ih
theorem sq (E:Int) (s:RS):bJ E (noTk s)=noTk (bJ E s):=by
 unfold bJ noTk
 by_cases h:s.era<E
 ·rw[if_pos h,if_pos h]
 ·rw[if_neg h,if_neg h]
theorem sZ (s:RS) (o:HOp):hapR (noTk s) o=(noTk (hapR s o).1,(hapR s o).2):=by
 unfold hapR
 split
 ·rfl
 ·split <;> rfl
theorem m6 (T:List Int) (i j:Int):hasB (T++[i]) j=(hasB T j||decide (i=j)):=by
 simp[hasB]
theorem AccI.step (S:Sc l n e p ks kv) {s0 s':RS} {out:List Int} (h0:RG l n e p ks kv s0) (C:CrP l e s0 s') (A:AccI l n s0 out) {j:Nat} {o:HOp} (ho:l[j]?=some o) (ht:(bB s' l j o).2=true):AccI l n (bB s' l j o).1 (out++[(j:Int)]):=by
 have hs':=(C.rg S h0).1
 have hle:=C.era_le
 have hto:=C.to
 obtain⟨q1,q2,q3,q4⟩:=iP (fE ht)
 rw[hs'.ok.al]at q2
 have hsame:s'.era=s0.era→s'=s0:=fun h=>by rw[h,fz]at hto; exact hto
 have hfar:s0.era<s'.era→s'.taken=[]:=fun h=>by rw[hto,bJ,if_pos h]
 have hout:hasB out (j:Int)=false:=by
  by_cases h:s'.era=s0.era
  ·rw[A.now j o ho (by omega),←hsame h]; exact q3
  ·exact A.new j o ho (by omega)
 have hbef:out.any (befA l o)=false:=by
  rw[Bool.eq_false_iff]
  intro h
  obtain⟨x,hx,hb⟩:=List.any_eq_true.1 h
  obtain⟨k,q,rfl,hq⟩:=A.val x hx
  have hk:hasB out (k:Int)=true:=qB.2 hx
  have hb:befB o q=true:=by rw[befA,Int.toNat_natCast,hq]at hb; exact hb
  by_cases h1:s0.era<q.era
  ·rw[A.new k q hq h1]at hk; cases hk
  ·by_cases h2:o.era=q.era
   ·have h3:s'.era=s0.era:=by omega
    have h4:=A.now k q hq (by omega)
    rw[hk,←hsame h3]at h4
    have:hitL s' o l 0=true:=(jh l 0).2 ⟨k,q,hq,by
     rw[Nat.zero_add,hitB,if_pos h4.symm]; exact hb⟩
    rw[q4]at this; cases this
   ·rw[befB,if_neg h2]at hb
    have:=of_decide_eq_true hb
    omega
 have htk:bB s' l j o=({ (hapR s' o).1 with taken:=eg s'.taken j },(hapR s' o).2):=by rw[bB,if_pos (fE ht)]
 have hfit:(hapR s' o).2=true:=by rw[htk]at ht; exact ht
 have hera:(bB s' l j o).1.era=s'.era:=pN
 have htaken:(bB s' l j o).1.taken=eg s'.taken j:=by rw[htk]
 have hcr:bJ o.era (noTk s0)=noTk s':=by rw[sq,q1,←hto]
 refine⟨?_,?_,fun k q hq he=>?_,fun k q hq he hm=>?_,fun k q hq he=>?_,fun i hi=>?_⟩
 ·rw[nP out [] _ A.acc,A.st,List.nil_append,fS,if_neg (by omega),Int.toNat_natCast,ho]
  simp only
  rw[if_neg (show ¬(out.any (fun y=>decide (y=(j:Int)))=true) by rw[show out.any (fun y=>decide (y=(j:Int)))=false from hout]; decide),if_neg (by rw[q2]; decide),if_neg (by rw[hbef]; decide),hcr,sZ,hfit,if_neg (by decide)]
  rfl
 ·rw[nT out _ A.val,A.st,iC,Int.toNat_natCast,ho]
  simp only[iC]
  rw[hcr,sZ,htk]
  rfl
 ·rw[hera]at he
  rw[m6,htaken,gG]
  congr 1
  by_cases h:s'.era=s0.era
  ·rw[A.now k q hq (by omega),←hsame h]
  ·rw[A.new k q hq (by omega),hfar (by omega)]; rfl
 ·rw[hera]at he
  rw[m6]
  have:hasB out (k:Int)=true:=by
   by_cases h:q.era<s0.era
   ·exact A.old k q hq h hm
   ·obtain⟨h1,h2⟩:=C.must k q hq hm (by omega) he
    rw[A.now k q hq h1]; exact h2
  rw[this]; rfl
 ·rw[hera]at he
  rw[m6,A.new k q hq (by omega),Bool.false_or]
  refine dF fun h=>?_
  have:j=k:=by omega
  subst this
  rw[ho]at hq; cases hq
  omega
 ·rcases List.mem_append.1 hi with hi | hi
  ·exact A.val i hi
  ·exact⟨j,o,List.mem_singleton.1 hi,ho⟩
theorem pV {ord:List Int}:∀(l:List HOp) (k:Nat),iz ord l k=false ↔ ∀(j:Nat) (o:HOp),l[j]?=some o→bL o=true→hasB ord ((k+j:Nat):Int)=true
 | [],k=>by simp[iz]
 | a::l,k=>by
  rw[iz,Bool.or_eq_false_iff,pV l (k+1)]
  constructor
  ·rintro⟨h1,h2⟩ j o hj hm
   cases j with
   | zero =>
    simp at hj; subst hj
    rw[hm,Bool.true_and]at h1
    simpa using h1
   | succ j=>rw[show k+(j+1)=k+1+j by omega]; exact h2 j o (by simpa using hj) hm
  ·intro h1
   refine⟨?_,fun j o hj hm=>by rw[show k+1+j=k+(j+1) by omega]; exact h1 (j+1) o (by simpa using hj) hm⟩
   cases hm:bL a with
   | false=>rfl
   | true =>
    have:=h1 0 a rfl hm
    rw[Nat.add_zero]at this
    have h2:ord.any (fun y=>decide (y=(k:Int)))=true:=this
    rw[h2]; rfl
theorem ph (L:ScL l e):∀(d:Nat) (s:RS),s.era<e→(e:Int)-1-s.era≤d→(NowT l e s ↔ ∀(j:Nat) (o:HOp),l[j]?=some o→bL o=true→s.era≤o.era→o.era=s.era∧hasB s.taken (j:Int)=true)
 | d,s,he,hd=>by
  have key:(b9 s l 0=true) ↔ ∀(j:Nat) (o:HOp),l[j]?=some o→o.era=s.era→bL o=true→hasB s.taken (j:Int)=true:=by
   rw[m9 l 0]
   simp only[Nat.zero_add]
  constructor
  ·intro h j o ho hm h1
   obtain⟨h2,h3⟩:=h.inv
   have h2:=key.1 h2
   by_cases h4:o.era=s.era
   ·exact⟨h4,h2 j o ho h4 hm⟩
   ·have:=(L.er j o ho).2
    rcases h3 with h3 | ⟨h3,h5⟩
    ·omega
    ·cases d with
     | zero=>omega
     | succ d =>
      have h0:(aY s).era=s.era+1:=rfl
      have:=((ph L d (aY s) (by rw[h0]; omega) (by rw[h0]; omega)).1 h5 j o ho hm (by rw[h0]; omega)).2
      simp[aY]at this
  ·intro h
   have hf:=key.2 fun j o ho h1 hm=>(h j o ho hm (by omega)).2
   by_cases h3:s.era=(e:Int)-1
   ·exact .fin hf h3
   ·cases d with
    | zero=>omega
    | succ d =>
     have h0:(aY s).era=s.era+1:=rfl
     refine .step hf (by omega) ((ph L d (aY s) (by rw[h0]; omega) (by rw[h0]; omega)).2 fun j o ho hm h1=>?_)
     have:=(h j o ho hm (by rw[h0]at h1; omega)).1
     rw[h0]at h1
     omega
theorem AccI.done (L:ScL l e) {s:RS} {out:List Int} (he:s.era<e) (h0:0≤s.era) (A:AccI l n s out):mC n n l out=0↔NowT l e s:=by
 rw[mC,A.acc,if_pos rfl,ph L e s he (by omega)]
 have h1:((if iz out l 0=true then (15:Int) else 0)=0)↔iz out l 0=false:=by
  cases iz out l 0 <;> simp
 rw[h1,pV l 0]
 simp only[Nat.zero_add]
 constructor
 ·intro h j o ho hm h2
  have h3:=h j o ho hm
  by_cases h4:o.era=s.era
  ·exact⟨h4,by rw[←A.now j o ho h4]; exact h3⟩
  ·rw[A.new j o ho (by omega)]at h3; cases h3
 ·intro h j o ho hm
  by_cases h4:o.era<s.era
  ·exact A.old j o ho h4 hm
  ·obtain⟨h5,h6⟩:=h j o ho hm (by omega)
   rw[A.now j o ho h5]; exact h6
theorem Sc.least (S:Sc l n e p ks kv) (L:ScL l e) {q:QS} {sp:List (List aI)} (I:SI l n e p ks kv q.2.length q sp) (hsp:SpOk q.2 sp) {MM:Nat} (hMM:∀s,RG l n e p ks kv s→muR l e s<MM):∀(N:Nat) (i:Int) (s' s0:RS) (acc:List Int) (M:Nat),RG l n e p ks kv s0→CrP l e s0 s'→0≤i→q.2[i.toNat]?=some (encS p ks s')→EndT l e s' →
  (∀(j:Nat) (o:HOp),l[j]?=some o→o.era<s'.era→gQ l e MM s0 j o=false)→AccI l n s0 acc→muR l e s'<N→muR l e s0<M→gZ l n e MM M s0 acc=(eo p l e q.2 sp (dJ p l e q.2 sp) N i acc,true)
 | 0,_,_,_,_,_,_,_,_,_,_,_,_,hN,_=>by omega
 | N+1,i,s',s0,acc,0,_,_,_,_,_,_,_,_,hM=>by omega
 | N+1,i,s',s0,acc,M+1,h0,C,hi0,hi,hE,hno,A,hN,hM=>by
  obtain⟨hs,hmu⟩:=C.rg S h0
  have e0:=h0.ok.e0
  have e1:=hs.era
  have hle:=C.era_le
  have hil:=(List.getElem?_eq_some_iff.1 hi).1
  have hdone:=A.done L h0.era e0
  rw[C.now]at hdone
  have hgE:∀x,RG l n e p ks kv x→(iH l e MM x=true↔EndT l e x):=fun x hx=>S.endG MM x hx (hMM x hx)
  rw[eo,gZ]
  by_cases hnow:NowT l e s'
  ·rw[if_pos ((S.nowG I e i s' hs (by have:=hs.ok.e0; omega) hi0 hi).2 hnow),if_pos (hdone.2 hnow)]
  have hcr:∀E:Int,s'.era=E→crF l E e s0=s':=fun E hE2=>by
   rw[C.crF (by omega) (by omega),gP (by omega)]
  rw[if_neg (fun h=>hnow ((S.nowG I e i s' hs (by have:=hs.ok.e0; omega) hi0 hi).1 h)),if_neg (fun h=>hnow (hdone.1 h))]
  obtain⟨ys,hys⟩:∃ys,sp[i.toNat]?=some ys:=⟨_,List.getElem?_eq_getElem (by rw[I.len]; exact hil)⟩
  have hst:=I.rel i.toNat s' ys hs hi hys
  have hspN:spN sp i=ys:=by rw[spN,hys]; rfl
  rw[hspN]
  have hgood:∀y∈ys,∀x∈cN l e s',q.2[y.to.toNat]?=some (encS p ks x.2)→ga (dJ p l e q.2 sp) y=iH l e MM x.2:=fun y _ x hx hy=>by
   have hx2:=(S.rgSteps hs hx).1
   rw[Bool.eq_iff_iff,hgE x.2 hx2,←S.good I hsp (muR l e x.2+1) _ x.2 hx2 (Nat.lt_succ_self _) hy,ga]
   cases (dJ p l e q.2 sp)[y.to.toNat]? with
   | none=>simp
   | some b=>simp
  rcases hst.find hgood with ⟨f1,f2⟩ | ⟨y,x,f1,f2,f3,f4,f5⟩
  ·exfalso
   rcases hE.inv with ⟨h1,h2⟩ | ⟨x,hx,h2⟩
   ·exact hnow (.fin h1 h2)
   ·have:=List.find?_eq_none.1 f2 x hx
    exact this ((hgE x.2 (S.rgSteps hs hx).1).2 h2)
  ·rw[f1]
   simp only
   have hxm:=List.mem_of_find?_eq_some f2
   obtain⟨hx1,hx2⟩:=S.rgSteps hs hxm
   have hxE:EndT l e x.2:=(hgE x.2 hx1).1 (List.find?_some (p:=fun x:Int×RS=>iH l e MM x.2) f2)
   have hO:=x4 (s:=s') (f:=iH l e MM) l 0 List.drop_zero
   rw[cN,List.find?_append]at f2
   cases hf:(rStO l s' l 0).find? (fun x=>iH l e MM x.2) with
   | some z =>
    rw[hf,Option.some_or]at f2
    cases f2
    rw[hf]at hO
    simp only at hO
    obtain⟨j,o,_,h2,h3,h4,h5,h6⟩:=hO
    have hoe:=(iP (fE h3)).1
    have hfst:gr (gQ l e MM s0) l 0=(j:Int):=by
     have:=og (f:=gQ l e MM s0) l 0 (j:=j) h2 (by
      rw[Nat.zero_add,gQ,hcr _ hoe.symm,h3,h4]; rfl) fun k r hk hr=>by
      rw[Nat.zero_add]
      have hm:=L.mono k j r o (by omega) hr h2
      by_cases hlt:r.era<s'.era
      ·exact hno k r hr hlt
      ·rw[gQ,hcr _ (by omega)]
       exact h6 k r (Nat.zero_le _) hk hr
     rwa [Nat.zero_add]at this
    rw[hfst,Int.toNat_natCast,h2]
    simp only
    rw[if_neg (by omega)]
    have hop:y.op=(j:Int):=by rw[f3,h5]
    have hs0':bJ o.era s0=s':=by rw[hoe]; exact C.to.symm
    rw[hop,if_pos (dT (by omega)),hs0']
    rw[h5]at hx1 hx2 hxE f5
    simp only at hx1 hx2 hxE f5
    refine S.least L I hsp hMM N y.to _ _ _ M hx1 (.refl _) f4 f5 hxE (fun k r hr hlt=>?_) (A.step S h0 C h2 h3) (by omega) (by omega)
    rw[gQ,gP (by omega)]
    cases ht:(bB (bB s' l j o).1 l k r).2 with
    | false=>rfl
    | true =>
     have:=(iP (fE ht)).1
     omega
   | none =>
    rw[hf,Option.none_or]at f2
    rw[hf]at hO
    simp only at hO
    unfold rStC at f2
    split at f2
    ·rename_i hc
     simp only[Bool.and_eq_true,decide_eq_true_eq]at hc
     have hxe:=List.mem_of_find?_eq_some f2
     have hxe:=List.mem_singleton.1 hxe
     subst hxe
     simp only at f3 f5 hx1 hx2 hxE
     have hw:gZ l n e MM (M+1) s0 acc=(eo p l e q.2 sp (dJ p l e q.2 sp) N y.to acc,true):=by
      refine S.least L I hsp hMM N y.to (aY s') s0 acc (M+1) h0 (C.snoc hc.2 hc.1) f4 f5 hxE (fun k r hr hlt=>?_) A (by omega) hM
      have h0:(aY s').era=s'.era+1:=rfl
      rw[h0]at hlt
      by_cases h2:r.era<s'.era
      ·exact hno k r hr h2
      ·rw[gQ,hcr _ (by omega)]
       exact hO k r (Nat.zero_le _) hr
     rw[gZ,if_neg (fun h=>hnow (hdone.1 h))]at hw
     rw[hw,if_neg (by rw[f3]; decide)]
    ·cases f2
end
def eR (l:List HOp) (n e M:Nat):List Int×Bool:=if iH l e M (aN n)=true then gZ l n e M M (aN n) [] else ([],false)
theorem uj {l:List HOp} {n e:Nat} {p:Prep} {ks:List Int} {kv:List (List UInt8)} (S:Sc l n e p ks kv) (L:ScL l e) (he:0<e) {q:QS} {sp:List (List aI)} (I:SI l n e p ks kv q.2.length q sp) (hsp:SpOk q.2 sp) {μ:Nat→Nat} (dn:∀(i:Nat) ys,sp[i]?=some ys→∀y∈ys,μ y.to.toNat<μ i) {N M:Nat} (hN:μ 0<N) (hM:e*(l.length+1)<M) :
  je p l e q.2 sp N=eR l n e M:=by
 have hMM:∀s,RG l n e p ks kv s→muR l e s<M:=fun s _=>by
  have:muR l e s≤e*(l.length+1):=Nat.le_trans (Nat.sub_le _ _) (Nat.mul_le_mul_right _ (Nat.sub_le _ _))
  omega
 have hf:=S.first he
 unfold je eR
 have hg:=S.good I hsp (muR l e (aN n)+1) 0 _ hf (Nat.lt_succ_self _) I.fst
 have hgE:=S.endG M _ hf (hMM _ hf)
 by_cases h:EndT l e (aN n)
 ·rw[if_pos (hg.2 h),if_pos (hgE.2 h)]
  have h1:=fY (p:=p) (l:=l) (e:=e) (st:=q.2) (g:=dJ p l e q.2 sp) dn N 0 [] (N+muR l e (aN n)) hN (by show μ 0<_; omega)
  rw[h1]
  refine (S.least L I hsp hMM _ 0 (aN n) (aN n) [] M hf (.refl _) (Int.le_refl _) I.fst h (fun j o ho hlt=>?_) (.first L n) (by omega) (hMM _ hf)).symm
  have:=(L.er j o ho).1
  simp only[aN]at hlt
  omega
 ·rw[if_neg (fun h2=>h (hg.1 h2)),if_neg (fun h2=>h (hgE.1 h2))]
end Go.Proofs.Ytkehohfgbblokaa
namespace Go.Proofs.Ytkehohfgbblokaa
open Go.Eng Go.Plain
set_option maxHeartbeats 32000000
set_option maxRecDepth 20000
theorem l6:∀(r:List HEv) (e x:Int),x∈eraL r e→x<e+1+((r.countP fun x=>decide (x.kind=3):Nat):Int)
 | [],_,_,h=>by cases h
 | y::r,e,x,h=>by
  rw[List.countP_cons]
  unfold eraL at h
  by_cases h3:y.kind=3
  ·rw[if_pos h3]at h
   have:=l6 r (e+1) x h
   rw[if_pos (dT h3)]; omega
  ·rw[if_neg h3]at h
   split at h
   ·rcases List.mem_cons.1 h with rfl | h
    ·omega
    ·have:=l6 r e x h; omega
   ·have:=l6 r e x h; omega
theorem jJ:∀(r:List HEv) (e:Int),(eraL r e).Pairwise (· ≤ ·)
 | [],_=>.nil
 | y::r,e=>by
  unfold eraL
  split
  ·exact jJ r (e+1)
  ·split
   ·exact List.pairwise_cons.2 ⟨fun x hx=>kF r e x hx,jJ r e⟩
   ·exact jJ r e
theorem qe (h:List HEv):ScL (opsR h) (bA h):=by
 have hm:=tK h
 refine⟨fun j o ho=>?_,fun i j o q hij ho hq=>?_⟩
 ·have:o.era∈eraL h 0:=by rw[←hm]; exact List.mem_map.2 ⟨o,List.mem_of_getElem? ho,rfl⟩
  have h1:=kF h 0 _ this
  have h2:=l6 h 0 _ this
  unfold bA
  omega
 ·by_cases he:i=j
  ·subst he; rw[ho]at hq; cases hq; exact Int.le_refl _
  ·have hp:=jJ h 0
   rw[←hm,List.pairwise_map,List.pairwise_iff_getElem]at hp
   have hi:=(List.getElem?_eq_some_iff.1 ho)
   have hj:=(List.getElem?_eq_some_iff.1 hq)
   have:=hp i j hi.1 hj.1 (by omega)
   rwa [hi.2,hj.2]at this
structure Small (h:List HEv):Prop where
 fit:fv h
 cl:Cl3 h
 len:h.length≤16
def bigM (h:List HEv):Nat:=bA h*((opsR h).length+1)+1
section
variable {l : List HOp} {n e : Nat} {p : Prep} {ks : List Int} {kv : List (List UInt8)}
theorem Sc.enough (S:Sc l n e p ks kv) {fuel:Int} {B:Nat} (hB:(B:Int)≤fuel) (hI:∀k q sp,SI l n e p ks kv k q sp→q.2.length≤B):∀(M k:Nat) (q:QS) (sp:List (List aI)),SI l n e p ks kv k q sp→fuel.toNat+2≤M+k→∃r,fw p l e fuel M k q sp=some r
 | 0,k,q,sp,I,hM=>by have:=hI k q sp I; have:=I.le; omega
 | M+1,k,q,sp,I,hM=>by
  have h1:=hI k q sp I
  rw[fw]
  cases hx:q.2[k]? with
  | none=>exact⟨(q,sp),by simp only; rw[if_neg (by omega)]⟩
  | some x =>
   simp only
   rw[if_neg (by omega)]
   exact S.enough hB hI M (k+1) _ _ (S.si1 I hx) (by omega)
end
theorem mB {l:List HOp} {n e M:Nat}:∀(N:Nat) (s:RS) (out:List Int),(gZ l n e M N s out).2=true→mC n n l (gZ l n e M N s out).1=0
 | 0,_,_,h=>by cases h
 | N+1,s,out,h=>by
  rw[gZ]at h ⊢
  by_cases h1:mC n n l out=0
  ·rw[if_pos h1]; exact h1
  ·rw[if_neg h1]at h ⊢
   cases h2:l[(gr (gQ l e M s) l 0).toNat]? with
   | none=>rw[h2]at h; cases h
   | some o =>
    rw[h2]at h
    simp only at h ⊢
    by_cases h3:gr (gQ l e M s) l 0<0
    ·rw[if_pos h3]at h; cases h
    ·rw[if_neg h3]at h ⊢
     exact mB N _ _ h
theorem rG {l:List HOp} {n e M:Nat} (h:(eR l n e M).2=true):mC n n l (eR l n e M).1=0:=by
 unfold eR at h ⊢
 split at h
 ·rename_i h1
  rw[if_pos h1]
  exact mB M _ _ h
 ·cases h
end Go.Proofs.Ytkehohfgbblokaa
namespace Go.Proofs.Ytkehohfgbblokaa
open Go.Eng Go.Plain
set_option maxHeartbeats 32000000
set_option maxRecDepth 20000
structure Ch (l:List HOp) (n e:Nat):Prop where
 scl:ScL l e
 may:∀(j:Nat) (o:HOp),l[j]?=some o→mayB o n=true
 must:∀(j:Nat) (o:HOp),l[j]?=some o→bL o=true
 bef:∀(i j:Nat) (o q:HOp),i<j→l[i]?=some o→l[j]?=some q→befB o q=true
 nbef:∀(i j:Nat) (o q:HOp),i≤j→l[i]?=some o→l[j]?=some q→befB q o=false
structure ChI (l:List HOp) (n e:Nat) (k:Nat) (s:RS):Prop where
 kl:k≤l.length
 al:s.arr.length=n
 dl:s.dur.length=n
 e0:0≤s.era
 e1:s.era<e
 lo:∀(j:Nat) (o:HOp),j<k→l[j]?=some o→o.era≤s.era
 hi:∀(j:Nat) (o:HOp),k≤j→l[j]?=some o→s.era≤o.era
 tk:∀(j:Nat) (o:HOp),l[j]?=some o→(hasB s.taken (j:Int)=true↔j<k∧o.era=s.era)
section
variable {l : List HOp} {n e : Nat}
theorem ChI.first (he:0<e) (C:Ch l n e):ChI l n e 0 (aN n):=
 ⟨Nat.zero_le _,List.length_replicate,List.length_replicate,Int.le_refl _,by show (0:Int)<e; omega,fun _ _ h=>by omega,fun j o _ ho=>(C.scl.er j o ho).1,fun j o _=>⟨fun h=>by simp[aN,hasB]at h,fun h=>by omega⟩⟩
theorem ChI.take {k:Nat} {s:RS} (C:Ch l n e) (I:ChI l n e k s) {j:Nat} {o:HOp} (ho:l[j]?=some o):takB s l j o=true↔j=k∧o.era=s.era:=by
 constructor
 ·intro h
  obtain⟨h1,_,h3,h4⟩:=iP h
  refine⟨?_,h1⟩
  have hk:k≤j:=by
   by_cases hk:k≤j
   ·exact hk
   ·rw[(I.tk j o ho).2 ⟨by omega,h1⟩]at h3; cases h3
  by_cases hj:j=k
  ·exact hj
  ·exfalso
   have hlt:=(List.getElem?_eq_some_iff.1 ho).1
   obtain⟨q,hq⟩:∃q,l[k]?=some q:=⟨_,List.getElem?_eq_getElem (by omega)⟩
   have e1:=I.hi k q (Nat.le_refl _) hq
   have e2:=C.scl.mono k j q o hk hq ho
   have hn:hasB s.taken (k:Int)=false:=by
    cases ht:hasB s.taken (k:Int) with
    | false=>rfl
    | true=>have:=((I.tk k q hq).1 ht).1; omega
   have:hitL s o l 0=true:=(jh l 0).2 ⟨k,q,hq,by
    rw[Nat.zero_add,hitB,if_neg (by show ¬hasB s.taken (k:Int)=true; rw[hn]; decide),dT (by omega),C.must k q hq,C.bef k j q o (by omega) hq ho]; rfl⟩
   rw[this]at h4; cases h4
 ·rintro⟨rfl,h1⟩
  have hn:hasB s.taken (j:Int)=false:=by
   cases ht:hasB s.taken (j:Int) with
   | false=>rfl
   | true=>have:=((I.tk j o ho).1 ht).1; omega
  have hh:hitL s o l 0=false:=by
   cases hh:hitL s o l 0 with
   | false=>rfl
   | true =>
    obtain⟨m,q,hq,hb⟩:=(jh l 0).1 hh
    rw[Nat.zero_add,hitB]at hb
    by_cases ht:hasB s.taken (m:Int)=true
    ·rw[if_pos ht,C.nbef m j q o (by have:=((I.tk m q hq).1 ht).1; omega) hq ho]at hb; cases hb
    ·rw[if_neg ht]at hb
     simp only[Bool.and_eq_true,decide_eq_true_eq]at hb
     have hm:j≤m:=by
      by_cases hm:j≤m
      ·exact hm
      ·exact absurd ((I.tk m q hq).2 ⟨by omega,hb.1⟩) ht
     rw[C.nbef j m o q hm ho hq]at hb
     cases hb.2.2
  unfold takB
  rw[dT h1,I.al,C.may j o ho,hh]
  show (true&&(true&&(!hasB s.taken (j:Int) && !false)))=true
  rw[hn]; rfl
theorem ChI.full {k:Nat} {s:RS} (C:Ch l n e) (I:ChI l n e k s):b9 s l 0=true ↔ ∀(o:HOp),l[k]?=some o→s.era<o.era:=by
 rw[m9]
 constructor
 ·intro h o ho
  have h1:=I.hi k o (Nat.le_refl _) ho
  by_cases he:o.era=s.era
  ·have:=h k o ho he (C.must k o ho)
   rw[Nat.zero_add]at this
   have:=((I.tk k o ho).1 this).1
   omega
  ·omega
 ·intro h j q hq he _
  rw[Nat.zero_add]
  refine (I.tk j q hq).2 ⟨?_,he⟩
  by_cases hj:j<k
  ·exact hj
  ·have hlt:=(List.getElem?_eq_some_iff.1 hq).1
   obtain⟨o,ho⟩:∃o,l[k]?=some o:=⟨_,List.getElem?_eq_getElem (by omega)⟩
   have:=h o ho
   have:=C.scl.mono k j o q (by omega) ho hq
   omega
theorem gH (s:RS) (o:HOp):(hapR s o).1.arr.length=s.arr.length∧((hapR s o).1.dur.length=s.dur.length∨(hapR s o).1.dur.length=s.arr.length)∧(hapR s o).1.era=s.era:=by
 unfold hapR
 split
 ·exact⟨rfl,.inl rfl,rfl⟩
 ·split
  ·exact⟨List.length_set,.inl rfl,rfl⟩
  ·exact⟨rfl,.inr rfl,rfl⟩
theorem ChI.step {k:Nat} {s:RS} (C:Ch l n e) (I:ChI l n e k s) {x:Int×RS} (hx:x∈cN l e s) :
  (∃o,l[k]?=some o∧o.era=s.era∧(hapR s o).2=true∧x=((k:Int), { (hapR s o).1 with taken:=eg s.taken k })∧ChI l n e (k+1) x.2)∨((∀o,l[k]?=some o→s.era<o.era)∧s.era<e-1∧x=(-1,aY s)∧ChI l n e k x.2):=by
 rcases cp.1 hx with ⟨j,o,ho,ht,rfl⟩ | ⟨h1,h2,rfl⟩
 ·have hb:=fE ht
  obtain⟨rfl,he⟩:=(I.take C ho).1 hb
  have htk:bB s l j o=({ (hapR s o).1 with taken:=eg s.taken j },(hapR s o).2):=by rw[bB,if_pos hb]
  rw[htk]at ht ⊢
  obtain⟨a1,a2,a3⟩:=gH s o
  have hlt:=(List.getElem?_eq_some_iff.1 ho).1
  refine .inl ⟨o,ho,he,ht,rfl,⟨by omega,a1.trans I.al,?_,?_,?_,fun i q hi hq=>?_,fun i q hi hq=>?_,fun i q hq=>?_⟩⟩
  ·show (hapR s o).1.dur.length=n
   have:=I.al; have:=I.dl
   rcases a2 with h | h <;> omega
  ·show 0≤(hapR s o).1.era
   rw[a3]; exact I.e0
  ·show (hapR s o).1.era<e
   rw[a3]; exact I.e1
  ·show q.era≤(hapR s o).1.era
   rw[a3]
   by_cases h:i<j
   ·exact I.lo i q h hq
   ·have:i=j:=by omega
    subst this
    rw[ho]at hq; cases hq; omega
  ·show (hapR s o).1.era≤q.era
   rw[a3]; exact I.hi i q (by omega) hq
  ·show hasB (eg s.taken j) (i:Int)=true↔i<j+1∧q.era=(hapR s o).1.era
   rw[gG,a3,Bool.or_eq_true,I.tk i q hq,decide_eq_true_eq]
   constructor
   ·rintro (⟨h1,h2⟩ | h)
    ·exact⟨by omega,h2⟩
    ·have:i=j:=by omega
     subst this
     rw[ho]at hq; cases hq
     exact⟨by omega,he⟩
   ·rintro⟨h1,h2⟩
    by_cases h:i<j
    ·exact .inl ⟨h,h2⟩
    ·exact .inr (by omega)
 ·have hf:=(I.full C).1 h2
  refine .inr ⟨hf,h1,rfl,⟨I.kl,I.dl,I.dl,?_,?_,fun i q hi hq=>?_,fun i q hi hq=>?_,fun i q hq=>?_⟩⟩
  ·show 0≤s.era+1
   have:=I.e0; omega
  ·show s.era+1<e
   omega
  ·show q.era≤s.era+1
   have:=I.lo i q hi hq; omega
  ·show s.era+1≤q.era
   have hlt:=(List.getElem?_eq_some_iff.1 hq).1
   obtain⟨o,ho⟩:∃o,l[k]?=some o:=⟨_,List.getElem?_eq_getElem (by omega)⟩
   have:=hf o ho
   have:=C.scl.mono k i o q hi ho hq
   omega
  ·constructor
   ·intro h; simp[aY,hasB]at h
   ·rintro⟨h1,h2⟩
    have:=I.lo i q h1 hq
    have h2:q.era=s.era+1:=h2
    omega
theorem ChI.uniq {k:Nat} {s:RS} (C:Ch l n e) (I:ChI l n e k s) {x y:Int×RS} (hx:x∈cN l e s) (hy:y∈cN l e s):x=y:=by
 rcases I.step C hx with ⟨o,h1,h2,_,h4,_⟩ | ⟨h1,_,h3,_⟩ <;> rcases I.step C hy with ⟨q,g1,g2,_,g4,_⟩ | ⟨g1,_,g3,_⟩
 ·rw[h1]at g1; cases g1; rw[h4,g4]
 ·have:=g1 o h1; omega
 ·have:=h1 q g1; omega
 ·rw[h3,g3]
def chP (l:List HOp) (n e:Nat):Nat→RS
 | 0=>aN n
 | m+1=>match cN l e (chP l n e m) with
  | []=>chP l n e m
  | x::_=>x.2
theorem kW.path (he:0<e) (C:Ch l n e) {s:RS} (h:kW l n e s):∃k,ChI l n e k s∧s=chP l n e (k+s.era.toNat):=by
 induction h with
 | first=>exact⟨0,.first he C,rfl⟩
 | step x hr hx ih =>
  rename_i s
  obtain⟨k,I,hs⟩:=ih
  have key:x.2=chP l n e (k+s.era.toNat+1):=by
   rw[chP,←hs]
   cases hl:cN l e s with
   | nil=>rw[hl]at hx; cases hx
   | cons y ys=>rw[I.uniq C hx (hl ▸ List.mem_cons_self:y∈cN l e s)]
  rcases I.step C hx with ⟨o,_,_,_,h4,h5⟩ | ⟨_,_,h3,h5⟩
  ·refine⟨k+1,h5,?_⟩
   have:x.2.era=s.era:=by rw[h4]; exact (gH s o).2.2
   rw[this,show k+1+s.era.toNat=k+s.era.toNat+1 by omega]; exact key
  ·refine⟨k,h5,?_⟩
   have:x.2.era=s.era+1:=by rw[h3]; rfl
   have:=I.e0
   rw[‹x.2.era=s.era+1›, show k+(s.era+1).toNat=k+s.era.toNat+1 by omega]; exact key
theorem Sc.chain {p:Prep} {ks:List Int} {kv:List (List UInt8)} (S:Sc l n e p ks kv) (he:0<e) (C:Ch l n e) {k:Nat} {q:QS} {sp:List (List aI)} (I:SI l n e p ks kv k q sp):q.2.length≤l.length+e:=by
 have h1:q.2.length≤(((List.range (l.length+e)).map (chP l n e)).map (encS p ks)).length:=by
  refine qh _ _ ?_ fun x hx=>?_
  ·refine List.pairwise_iff_getElem.2 fun i j hi hj hij hne=>?_
   have a:=I.ok.uq i _ (List.getElem?_eq_getElem hi)
   have b:=I.ok.uq j _ (List.getElem?_eq_getElem hj)
   rw[hne,b]at a
   have:=Option.some.inj a
   omega
  ·obtain⟨s,hs,hR,rfl⟩:=I.al x hx
   obtain⟨k,J,hp⟩:=hR.path he C
   refine List.mem_map.2 ⟨s,List.mem_map.2 ⟨k+s.era.toNat,List.mem_range.2 ?_,hp.symm⟩,rfl⟩
   have:=J.kl; have:=J.e0; have:=J.e1
   omega
 simpa using h1
def fitF:List HOp→RS→Bool
 | [],_=>true
 | o::r,s=>(hapR (bJ o.era s) o).2&&fitF r (hapR (bJ o.era s) o).1
theorem pv:∀(r:List HOp) (s t:RS),s.era=t.era→s.arr=t.arr→s.dur=t.dur→fitF r s=fitF r t
 | [],_,_,_,_,_=>rfl
 | o::r,s,t,h1,h2,h3=>by
  have hc:(bJ o.era s).era=(bJ o.era t).era∧(bJ o.era s).arr=(bJ o.era t).arr∧(bJ o.era s).dur=(bJ o.era t).dur:=by
   unfold bJ
   rw[h1]
   split
   ·exact⟨rfl,h3,h3⟩
   ·exact⟨h1,h2,h3⟩
  obtain⟨c1,c2,c3⟩:=hc
  have hh:∀a b:RS,a.era=b.era→a.arr=b.arr→a.dur=b.dur→(hapR a o).2=(hapR b o).2∧(hapR a o).1.era=(hapR b o).1.era∧(hapR a o).1.arr=(hapR b o).1.arr∧(hapR a o).1.dur=(hapR b o).1.dur:=fun a b e1 e2 e3=>by
   unfold hapR
   rw[e2]
   split
   ·exact⟨rfl,e1,e2,e3⟩
   ·split
    ·exact⟨rfl,e1,rfl,e3⟩
    ·exact⟨rfl,e1,rfl,rfl⟩
  obtain⟨d1,d2,d3,d4⟩:=hh _ _ c1 c2 c3
  rw[fitF,fitF,d1,pv r _ _ d2 d3 d4]
theorem nf {r:List HOp} {s:RS} (h:∀o,r[0]?=some o→s.era<o.era):fitF r (aY s)=fitF r s:=by
 cases r with
 | nil=>rfl
 | cons o r =>
  have h:=h o rfl
  have:bJ o.era (aY s)=bJ o.era s:=by
   unfold bJ aY
   rw[if_pos h]
   simp only
   split
   ·rfl
   ·rw[show s.era+1=o.era by omega]
  rw[fitF,fitF,this]
theorem ChI.endT (C:Ch l n e):∀(N k:Nat) (s:RS),ChI l n e k s→l.length-k+(e-s.era.toNat)<N→(EndT l e s↔fitF (l.drop k) s=true)
 | 0,_,_,_,h=>by omega
 | N+1,k,s,I,hN=>by
  have e0:=I.e0
  have e1:=I.e1
  cases ho:l[k]? with
  | none =>
   have hk:=List.getElem?_eq_none_iff.1 ho
   rw[List.drop_eq_nil_of_le hk]
   have hf:b9 s l 0=true:=(I.full C).2 fun o h=>by rw[ho]at h; cases h
   refine⟨fun _=>rfl,fun _=>?_⟩
   by_cases he:s.era=(e:Int)-1
   ·exact .fin hf he
   ·have hx:((-1:Int),aY s)∈cN l e s:=cp.2 (.inr ⟨by omega,hf,rfl⟩)
    rcases I.step C hx with ⟨o,h1,_⟩ | ⟨_,h2,_,h4⟩
    ·rw[ho]at h1; cases h1
    ·refine .step _ hx ((ChI.endT C N k (aY s) h4 (by simp only[aY]; omega)).2 ?_)
     rw[List.drop_eq_nil_of_le hk]; rfl
  | some o =>
   have hlt:=(List.getElem?_eq_some_iff.1 ho).1
   have hd:l.drop k=o::l.drop (k+1):=by rw[List.drop_eq_getElem_cons hlt,(List.getElem?_eq_some_iff.1 ho).2]
   have hge:=I.hi k o (Nat.le_refl _) ho
   by_cases he:o.era=s.era
   ·have hct:bJ o.era s=s:=by rw[he,fz]
    have hnf:b9 s l 0=false:=by
     cases hf:b9 s l 0 with
     | false=>rfl
     | true=>have:=(I.full C).1 hf o ho; omega
    rw[hd,fitF,hct,Bool.and_eq_true]
    constructor
    ·intro hE
     rcases hE.inv with ⟨h1,_⟩ | ⟨x,hx,h2⟩
     ·rw[hnf]at h1; cases h1
     ·rcases I.step C hx with ⟨q,g1,_,g3,g4,g5⟩ | ⟨g1,_⟩
      ·rw[ho]at g1; cases g1
       have hxe:x.2.era=s.era:=by rw[g4]; exact (gH s o).2.2
       have:=(ChI.endT C N (k+1) x.2 g5 (by rw[hxe]; omega)).1 h2
       refine⟨g3,?_⟩
       rw[←this,g4]
       exact pv _ _ _ rfl rfl rfl
      ·have:=g1 o ho; omega
    ·rintro⟨h1,h2⟩
     have hb:=(I.take C ho).2 ⟨rfl,he⟩
     have htk:bB s l k o=({ (hapR s o).1 with taken:=eg s.taken k },(hapR s o).2):=by rw[bB,if_pos hb]
     have hx:((k:Int),(bB s l k o).1)∈cN l e s:=cp.2 (.inl ⟨k,o,ho,by rw[htk]; exact h1,rfl⟩)
     rcases I.step C hx with ⟨q,g1,_,g3,g4,g5⟩ | ⟨g1,_⟩
     ·rw[ho]at g1; cases g1
      have hxe:((k:Int),(bB s l k o).1).2.era=s.era:=by rw[g4]; exact (gH s o).2.2
      refine .step _ hx ((ChI.endT C N (k+1) _ g5 (by rw[hxe]; omega)).2 ?_)
      rw[←h2,g4]
      exact pv _ _ _ rfl rfl rfl
     ·have:=g1 o ho; omega
   ·have hlt2:s.era<o.era:=by omega
    have hf:b9 s l 0=true:=(I.full C).2 fun q hq=>by rw[ho]at hq; cases hq; exact hlt2
    have hoe:=(C.scl.er k o ho).2
    have hx:((-1:Int),aY s)∈cN l e s:=cp.2 (.inr ⟨by omega,hf,rfl⟩)
    rcases I.step C hx with ⟨q,h1,h2,_⟩ | ⟨_,h2,_,h4⟩
    ·rw[ho]at h1; cases h1; omega
    have ih:=ChI.endT C N k (aY s) h4 (by simp only[aY]; omega)
    rw[nf (fun q hq=>by
     rw[hd]at hq; cases hq; exact hlt2)]at ih
    rw[←ih]
    constructor
    ·intro hE
     rcases hE.inv with ⟨_,h1⟩ | ⟨y,hy,h1⟩
     ·omega
     ·rw[I.uniq C hy hx]at h1; exact h1
    ·exact fun h=>.step _ hx h
theorem Ch.endT (he:0<e) (C:Ch l n e):EndT l e (aN n)↔fitF l (aN n)=true:=by
 have:=ChI.endT C _ 0 (aN n) (.first he C) (Nat.lt_succ_self _)
 rwa [List.drop_zero]at this
end
theorem tf:∀(L:List Int) (a b:Nat),L.Pairwise (· < ·)→(∀x:Int,x∈L↔(a:Int)≤x∧x<b)→L=zs (List.range' a (b-a))
 | [],a,b,_,h=>by
  have:b-a=0:=by
   by_cases hb:a<b
   ·have:=(h a).2 ⟨Int.le_refl _,by omega⟩; cases this
   ·omega
  rw[this]; rfl
 | x::L,a,b,hp,h=>by
  obtain⟨h1,h2⟩:=List.pairwise_cons.1 hp
  obtain⟨x1,x2⟩:=(h x).1 List.mem_cons_self
  have hab:a<b:=by omega
  have hxa:x=a:=by
   rcases List.mem_cons.1 ((h a).2 ⟨Int.le_refl _,by omega⟩)with h3 | h3
   ·exact h3.symm
   ·have:=h1 _ h3; omega
  obtain⟨d,hd⟩:∃d,b-a=d+1:=⟨b-a-1,by omega⟩
  rw[hd,List.range'_succ,zs,List.map_cons,hxa]
  congr 1
  have:=tf L (a+1) b h2 fun y=>by
   constructor
   ·intro hy
    have:=h1 y hy
    have:=(h y).1 (List.mem_cons_of_mem _ hy)
    omega
   ·rintro⟨y1,y2⟩
    rcases List.mem_cons.1 ((h y).2 ⟨by omega,y2⟩)with h3 | h3
    ·omega
    ·exact h3
  rw[this,zs,show b-(a+1)=d by omega]
theorem p7 {l:List HOp} {n e:Nat} (C:Ch l n e) {b:Int}:∀(os pre:List Int) (s:RS),fS b l os pre s=0→pre.Pairwise (· < ·)→(∀x∈pre,0≤x∧x<l.length)→(pre++os).Pairwise (· < ·)∧∀x∈pre++os,0≤x∧x<l.length
 | [],pre,s,_,h1,h2=>by rw[List.append_nil]; exact⟨h1,h2⟩
 | i::os,pre,s,h,h1,h2=>by
  rw[fS]at h
  by_cases hi:i<0
  ·rw[if_pos hi]at h; cases h
  ·rw[if_neg hi]at h
   cases ho:l[i.toNat]? with
   | none=>rw[ho]at h; cases h
   | some o =>
    rw[ho]at h
    simp only at h
    have hlt:=(List.getElem?_eq_some_iff.1 ho).1
    by_cases c1:pre.any (fun y=>decide (y=i))=true
    ·rw[if_pos c1]at h; cases h
    rw[if_neg c1]at h
    by_cases c2:mayB o b=false
    ·rw[if_pos c2]at h; cases h
    rw[if_neg c2]at h
    by_cases c3:pre.any (befA l o)=true
    ·rw[if_pos c3]at h; cases h
    rw[if_neg c3]at h
    by_cases c4:(hapR (bJ o.era s) o).2=false
    ·rw[if_pos c4]at h; cases h
    rw[if_neg c4]at h
    have hlast:∀x∈pre,x<i:=fun x hx=>by
     obtain⟨x0,x1⟩:=h2 x hx
     by_cases hxi:x<i
     ·exact hxi
     ·exfalso
      by_cases hxe:x=i
      ·exact c1 (List.any_eq_true.2 ⟨x,hx,dT hxe⟩)
      ·obtain⟨q,hq⟩:∃q,l[x.toNat]?=some q:=⟨_,List.getElem?_eq_getElem (by omega)⟩
       exact c3 (List.any_eq_true.2 ⟨x,hx,by rw[befA,hq]; exact C.bef i.toNat x.toNat o q (by omega) ho hq⟩)
    have:=p7 C os (pre++[i]) _ h (List.pairwise_append.2 ⟨h1,List.pairwise_singleton _ _,fun x hx y hy=>by rw[List.mem_singleton.1 hy]; exact hlast x hx⟩) fun x hx=>by
     rcases List.mem_append.1 hx with hx | hx
     ·exact h2 x hx
     ·rw[List.mem_singleton.1 hx]; omega
    rwa [List.append_assoc]at this
theorem pW {ord:List Int}:∀(l:List HOp) (k:Nat),iz ord l k=false→∀(j:Nat) (o:HOp),l[j]?=some o→bL o=true→((k+j:Nat):Int)∈ord
 | [],_,_,j,o,h,_=>by simp at h
 | a::l,k,h,j,o,ho,hm=>by
  rw[iz,Bool.or_eq_false_iff]at h
  cases j with
  | zero =>
   simp at ho; subst ho
   have h1:=h.1
   rw[hm,Bool.true_and,Bool.not_eq_false']at h1
   obtain⟨y,hy,he⟩:=List.any_eq_true.1 h1
   rw[Nat.add_zero,←of_decide_eq_true he]; exact hy
  | succ j =>
   have:=pW l (k+1) h.2 j o (by simpa using ho) hm
   rwa [show k+1+j=k+(j+1) by omega]at this
theorem Ch.order {l:List HOp} {n e M:Nat} (C:Ch l n e) (h:(eR l n e M).2=true):(eR l n e M).1=zs (List.range l.length):=by
 have ha:=rG h
 unfold mC at ha
 have h0:fS n l (eR l n e M).1 [] (aN n)=0:=by
  by_cases hc:fS n l (eR l n e M).1 [] (aN n)=0
  ·exact hc
  ·rw[if_neg hc]at ha; exact ha
 rw[if_pos h0]at ha
 have hm:iz (eR l n e M).1 l 0=false:=by
  cases hm:iz (eR l n e M).1 l 0 with
  | false=>rfl
  | true=>rw[if_pos hm]at ha; cases ha
 obtain⟨g1,g2⟩:=p7 C _ [] _ h0 .nil (fun _ h=>by cases h)
 rw[List.nil_append]at g1 g2
 have:=tf (eR l n e M).1 0 l.length g1 fun x=>⟨fun hx=>by have:=g2 x hx; omega,fun⟨x0,x1⟩=>by
  obtain⟨o,ho⟩:∃o,l[x.toNat]?=some o:=⟨_,List.getElem?_eq_getElem (by omega)⟩
  have:=pW l 0 hm x.toNat o ho (C.must _ o ho)
  rwa [show ((0+x.toNat:Nat):Int)=x by omega]at this⟩
 rw[this,Nat.sub_zero,List.range_eq_range']
theorem Ch.go {h:List HEv} {b:Nat} {fuel:Int} (hA:fv h) (hl:h.length≤8192) (C:Ch (opsR h) b (bA h)) (h0:1≤b) (h1:b≤4096) (hf:((opsR h).length+bA h:Nat)≤fuel) (hf2:fuel≤1000) :
  jq h b fuel∧(∃c:Int,0≤c∧c≤((opsR h).length+bA h:Nat)∧ez h b fuel=(c,0))∧(ci h b fuel).2=0∧opE h b=0∧((ci h b fuel).1.2=true↔fitF (opsR h) (aN b)=true)∧((ci h b fuel).1.2=true→(ci h b fuel).1.1=zs (List.range (opsR h).length)):=by
 have hchk:chkH h=(0,0):=xH hA (by omega)
 have hE:opE h b=0:=by rw[opE,hchk,if_pos rfl,if_neg (by omega)]
 have hL:lH h b=opsR h:=by rw[lH,opL,if_pos hE,opsH,hchk,if_pos rfl,vE (by rw[hchk])]
 have hol:(opsR h).length≤h.length:=vF h
 have hel:bA h≤h.length+1:=by have:=List.countP_le_length (p:=fun x:HEv=>decide (x.kind=3)) (l:=h); unfold bA; omega
 obtain⟨ks,kv,F⟩:=fH (opsR h) b (bA h)
 have S:=Sc.of F (by omega) (by omega) (by omega)
 have he:=gM h
 have hcount:∀k q sp,SI (opsR h) b (bA h) (cP (opsR h) b (bA h)) ks kv k q sp→q.2.length≤(opsR h).length+bA h:=fun k q sp I=>S.chain he C I
 have hp:pH h b=cP (opsR h) b (bA h):=by rw[pH,hL]
 have hR:jq h b fuel:=jx h b fuel hl (.inl (by omega)) fun _=>by
  have:fuel.toNat*(h.length+1)≤1000*8193:=Nat.mul_le_mul (by omega) (by omega)
  omega
 obtain⟨⟨q,sp⟩,hr⟩:=S.enough (fuel:=fuel) hf hcount (fuel.toNat+2) 0 _ [] (S.si0 he) (Nat.le_refl _)
 have hr:nI (cP (opsR h) b (bA h)) (opsR h) (bA h) fuel=some (q,sp):=hr
 have I:=S.si he hr
 have P:=F.ok (by omega:(opsR h).length≤8192)
 obtain⟨I2,_⟩:=jv P he hr
 have hsame:=uj S (qe h) he I I2.spOk (μ:=muS (cP (opsR h) b (bA h)) (bA h) q.2) (N:=bA h+sumM (opsR h) b (bA h)+1) (fun i ys hys y hy=>I2.dn i ys hys y hy) (by rw[mu0 F I2 he]; exact Nat.lt_succ_self _) (Nat.lt_succ_self (bA h*((opsR h).length+1)))
 have hleg:(eR (opsR h) b (bA h) (bigM h)).2=true↔EndT (opsR h) (bA h) (aN b):=by
  rw[bigM,←hsame,←S.good I I2.spOk (muR (opsR h) (bA h) (aN b)+1) 0 _ (S.first he) (Nat.lt_succ_self _) I.fst]
  unfold je
  by_cases hg:(dJ (cP (opsR h) b (bA h)) (opsR h) (bA h) q.2 sp)[0]?=some true
  ·rw[if_pos hg]; exact⟨fun _=>hg,fun _=>rfl⟩
  ·rw[if_neg hg]; exact⟨fun h=>(by cases h),fun h=>absurd h hg⟩
 have hfi:ci h b fuel=(eR (opsR h) b (bA h) (bigM h),0):=by
  unfold ci kk
  rw[if_pos hE,if_neg (by omega),hp,hL,hr]
  simp only
  rw[hsame]
  rfl
 have hst:ez h b fuel=((q.2.length:Int),0):=by
  unfold ez kk
  rw[if_pos hE,if_neg (by omega),hp,hL,hr]
 rw[hfi]
 exact⟨hR,⟨_,by omega,by have:=hcount _ _ _ I; omega,hst⟩,rfl,hE,hleg.trans (C.endT he),fun h=>C.order h⟩
end Go.Proofs.Ytkehohfgbblokaa
namespace Go.Proofs.Ytkehohfgbblokaa
open Go.Eng Go.Plain
set_option maxHeartbeats 32000000
set_option maxRecDepth 20000
structure Fwd (n:Nat) (l l':List HOp) (m:Nat→Option Nat):Prop where
 map:∀(j':Nat) (o':HOp),l'[j']?=some o'→(m j'=none∧bL o'=false∧mayB o' n=false)∨∃(j:Nat) (o:HOp),m j'=some j∧l[j]?=some o∧o.era=o'.era∧o.op=o'.op∧(mayB o n=true→mayB o' n=true)∧(bL o'=true→bL o=true∧o.value=o'.value)
 inj:∀(j' k' j:Nat),j'<l'.length→k'<l'.length→m j'=some j→m k'=some j→j'=k'
 onto:∀(j:Nat) (o:HOp),l[j]?=some o→mayB o n=true→∃j',j'<l'.length∧m j'=some j
 bef:∀(j' k' j k:Nat) (o' q' o q:HOp),l'[j']?=some o'→l'[k']?=some q'→m j'=some j→m k'=some k→l[j]?=some o→l[k]?=some q→befB o' q'=true→befB o q=true
structure SimR (l':List HOp) (m:Nat→Option Nat) (s s':RS):Prop where
 era:s'.era=s.era
 arr:s'.arr=s.arr
 dur:s'.dur=s.dur
 tk:∀j',j'<l'.length→hasB s'.taken (j':Int)=match m j' with | some j=>hasB s.taken (j:Int) | none=>false
section
variable {l l' : List HOp} {n : Nat} {m : Nat → Option Nat}
end
end Go.Proofs.Ytkehohfgbblokaa
namespace Go.Proofs.Ytkehohfgbblokaa
open Go.Eng Go.Plain
set_option maxHeartbeats 32000000
set_option maxRecDepth 20000
def mJ (o:HOp):HOp := { o with number:=0 }
def opsT:List HEv→Nat→Int→List HOp
 | [],_,_=>[]
 | x::r,i,era=>if x.kind=3 then opsT r (i+1) (era+1) else if x.kind=1 then eS (cZ x i era 0) (iR x.client r (i+1))::opsT r (i+1) era else opsT r (i+1) era
theorem l5 (h:List HEv):∀(n i:Nat) (out:List HOp) (era:Int),n+i=h.length→(eW h n i out era).map mJ=out.map mJ++opsT (h.drop i) i era
 | 0,i,out,era,hn=>by rw[eW,List.drop_eq_nil_of_le (by omega),opsT,List.append_nil]
 | n+1,i,out,era,hn=>by
  have hlt:i<h.length:=by omega
  rw[eW,List.getElem?_eq_getElem hlt,List.drop_eq_getElem_cons hlt,opsT]
  simp only
  split
  ·exact l5 h n (i+1) out (era+1) (by omega)
  ·split
   ·rw[l5 h n (i+1) _ era (by omega),List.map_append,List.append_assoc]
    congr 1
    simp only[List.map_cons,List.map_nil,List.cons_append,List.nil_append]
    congr 1
    unfold mkOp
    cases iR h[i].client (h.drop (i+1)) (i+1) with
    | none=>rfl
    | some v=>rfl
   ·exact l5 h n (i+1) out era (by omega)
theorem yr (h:List HEv):(opsR h).map mJ=opsT h 0 0:=by
 rw[opsR,l5 h h.length 0 [] 0 (by omega)]; rfl
section
variable {l l' : List HOp} {n : Nat}
end
def noCr (r:List HEv):Bool:=r.all fun x => !decide (x.kind=3)
def nCr (r:List HEv):Nat:=r.countP fun x=>decide (x.kind=3)
def Answ (N:Nat) (o o':HOp):Prop:=o=o'∨(o'.returned = -1∧o'.err=0∧∃(v:List UInt8) (e:Int),o = { o' with returned:=N,value:=v,err:=e })
section
variable {l : List HOp} {z : HOp} {e : Int}
end
end Go.Proofs.Ytkehohfgbblokaa
namespace Go.Proofs.Ytkehohfgbblokaa
open Go.Eng Go.Plain
set_option maxHeartbeats 32000000
set_option maxRecDepth 20000
abbrev blkS (d:UInt8):List UInt8:=List.replicate 32 (blkB d)
def srK (x:XE):Nat:=1+x.what.toNat % 3
def srAt (x:XE):Nat:=x.data.toNat/4 % 3
def srOp (x:XE):POp:=⟨srK x,if srK x=3 then 0 else (srAt x:Int),if srK x=2 then blkS x.data else[]⟩
abbrev srC (x:XE):Int:=((x.who.toNat % 8:Nat):Int)
abbrev srH (x:XE):HOp:=⟨0,0,0,srOp x,0,0,zBk,0⟩
abbrev crE:HEv:=⟨3,0,zOp,zBk,0⟩
def srS (x:XE) (s:RS):RS:=if 200<x.who.toNat then aY s else (hapR s (srH x)).1
section
variable (V : Nat → List UInt8 → List UInt8)
def srV (x:XE) (s:RS) (i:Nat):List UInt8:=if srK x=1 then V (i+1) (pgAt s.arr (srAt x)) else zBk
def srEv (x:XE) (s:RS) (i:Nat):List HEv:=if 200<x.who.toNat then[crE] else[⟨1,srC x,srOp x,zBk,0⟩,⟨2,srC x,zOp,srV V x s i,0⟩]
def srW (x:XE):Nat:=if 200<x.who.toNat then 1 else 2
def srE:List XE→RS→Nat→List HEv
 | [],_,_=>[]
 | x::r,s,i=>srEv V x s i++srE r (srS x s) (i+srW x)
def srO:List XE→RS→Nat→Int→List HOp
 | [],_,_,_=>[]
 | x::r,s,i,e=>if 200<x.who.toNat then srO r (srS x s) (i+srW x) (e+1) else⟨srC x,0,e,srOp x,i,((i+1:Nat):Int),srV V x s i,0⟩::srO r (srS x s) (i+srW x) e
end
def srL:List XE→Nat→Int→Int
 | [],_,a=>a
 | x::r,i,a=>srL r (i+srW x) (if 200<x.who.toNat then a else if srK x=1 then ((i+1:Nat):Int) else a)
def srR:List XE→RS→Nat→List (Nat×List UInt8)
 | [],_,_=>[]
 | x::r,s,i=>(if 200<x.who.toNat then[] else if srK x=1 then[(i+1,pgAt s.arr (srAt x))] else[])++srR r (srS x s) (i+srW x)
def srN (l:List XE):Nat:=l.countP fun x=>decide (200<x.who.toNat)
section
variable {V : Nat → List UInt8 → List UInt8}
theorem pc:∀(l:List XE) (s:RS) (i:Nat) (e:Int),opsT (srE V l s i) i e=srO V l s i e
 | [],_,_,_=>rfl
 | x::r,s,i,e=>by
  by_cases hw:200<x.who.toNat
  ·rw[srE,srO,srEv,if_pos hw,if_pos hw,List.singleton_append,opsT,if_pos rfl,show srW x=1 by rw[srW,if_pos hw]]
   exact pc r _ _ _
  ·rw[srE,srO,srEv,if_neg hw,if_neg hw,show srW x=2 by rw[srW,if_neg hw]]
   show opsT (⟨1,srC x,srOp x,zBk,0⟩::⟨2,srC x,zOp,srV V x s i,0⟩::srE V r (srS x s) (i+2)) i e=_
   rw[opsT,if_neg (show ¬(1:Int)=3 by decide),if_pos rfl,iR,if_neg (show ¬(2:Int)=3 by decide),if_pos rfl,opsT,if_neg (show ¬(2:Int)=3 by decide),if_neg (show ¬(2:Int)=1 by decide)]
   congr 1
   exact pc r _ (i+2) e
theorem uY:∀(l:List XE) (s:RS) (i:Nat),(srE V l s i).countP (fun x=>decide (x.kind=3))=srN l
 | [],_,_=>rfl
 | x::r,s,i=>by
  rw[srE,List.countP_append,uY r,srN,srN,List.countP_cons,srEv]
  by_cases hw:200<x.who.toNat
  ·rw[if_pos hw,if_pos (dT hw)]
   show 1+_=_
   omega
  ·rw[if_neg hw,if_neg (by simpa using hw)]
   show 0+_=_
   omega
theorem oT:∀(l:List XE) (s:RS) (i:Nat),(srE V l s i).length≤2*l.length
 | [],_,_=>Nat.zero_le _
 | x::r,s,i=>by
  rw[srE,List.length_append,List.length_cons]
  have:=oT r (srS x s) (i+srW x)
  have:(srEv V x s i).length≤2:=by unfold srEv; split <;> simp
  omega
theorem oQ:∀(l:List XE) (s:RS) (i:Nat) (e:Int),(srO V l s i e).length+srN l=l.length
 | [],_,_,_=>rfl
 | x::r,s,i,e=>by
  rw[srO,srN,List.countP_cons]
  by_cases hw:200<x.who.toNat
  ·have:=oQ r (srS x s) (i+srW x) (e+1)
   rw[if_pos hw,if_pos (dT hw),List.length_cons]
   unfold srN at this; omega
  ·have:=oQ r (srS x s) (i+srW x) e
   rw[if_neg hw,if_neg (by simpa using hw),List.length_cons,List.length_cons]
   unfold srN at this; omega
theorem rv (x:XE):srK x=1∨srK x=2∨srK x=3:=by unfold srK; omega
theorem tw (x:XE):(srOp x).data.length≤64:=by
 unfold srOp
 simp only
 split <;> simp
theorem oU:∀(l:List XE) (s:RS) (i:Nat) (p:List HEv),fv p→(∀c,pend p c = -1)→fv (p++srE V l s i)
 | [],_,_,p,h,_=>by rw[srE,List.append_nil]; exact h
 | x::r,s,i,p,h,hp=>by
  rw[srE,←List.append_assoc]
  by_cases hw:200<x.who.toNat
  ·rw[srEv,if_pos hw]
   refine oU r _ _ _ (h.snoc ?_) fun c=>?_
   ·rfl
   ·rw[e6,jP,if_pos rfl]
  ·rw[srEv,if_neg hw,show p++[(⟨1,srC x,srOp x,zBk,0⟩:HEv),⟨2,srC x,zOp,srV V x s i,0⟩]=(p++[⟨1,srC x,srOp x,zBk,0⟩])++[⟨2,srC x,zOp,srV V x s i,0⟩] by simp]
   have hc:(0:Int)≤srC x∧srC x≤7:=by unfold srC; omega
   have h1:fv (p++[⟨1,srC x,srOp x,zBk,0⟩]):=h.snoc (by
    rw[fitB,if_pos rfl,fit1]
    simp only
    rw[hp,dT hc.1,dT hc.2,dT (tw x)]; rfl)
   have hpe:pend (p++[⟨1,srC x,srOp x,zBk,0⟩]) (srC x)=p.length:=by
    rw[e6,jP]
    simp only
    rw[if_neg (by decide),if_pos trivial,if_pos trivial]
   refine oU r _ _ _ (h1.snoc ?_) fun c=>?_
   ·rw[fitB,if_neg (show ¬(2:Int)=1 by decide),if_pos rfl,fit2]
    simp only
    rw[hpe,dT hc.1,dT hc.2,dF (by omega),Int.toNat_natCast,List.getElem?_append_right (Nat.le_refl _),Nat.sub_self]
    show (true&&true && !false&&true&&true&&((decide ((srOp x).kind=1)&&true)||decide (srV V x s i=zBk)))=true
    unfold srV srOp
    simp only
    by_cases hk:srK x=1
    ·rw[dT (by omega)]; rfl
    ·rw[if_neg hk,dT (rfl:zBk=zBk),Bool.or_true]; rfl
   ·rw[e6,jP,e6,jP,hp]
    by_cases h:srC x=c <;> simp[h]
structure SrO (i:Nat) (e:Int) (o:HOp):Prop where
 inv:(i:Int)≤o.invoked
 ret:o.returned=o.invoked+1
 era:e≤o.era
 err:o.err=0
 op:∃x,o.op=srOp x
theorem SrO.mono {i j:Nat} {e f:Int} {o:HOp} (h:SrO j f o) (hi:i≤j) (he:e≤f):SrO i e o:=⟨by have:=h.inv; omega,h.ret,by have:=h.era; omega,h.err,h.op⟩
theorem lY:∀(l:List XE) (s:RS) (i:Nat) (e:Int),(∀o∈srO V l s i e,SrO i e o)∧(srO V l s i e).Pairwise fun o q=>o.era≤q.era∧o.returned<q.invoked
 | [],_,_,_=>⟨fun _ h=>(by simp[srO]at h),by simp[srO]⟩
 | x::r,s,i,e=>by
  rw[srO]
  by_cases hw:200<x.who.toNat
  ·obtain⟨h1,h2⟩:=lY r (srS x s) (i+srW x) (e+1)
   rw[if_pos hw]
   exact⟨fun o ho=>(h1 o ho).mono (by omega) (by omega),h2⟩
  ·obtain⟨h1,h2⟩:=lY r (srS x s) (i+srW x) e
   rw[if_neg hw]
   have hw2:srW x=2:=by rw[srW,if_neg hw]
   refine⟨fun o ho=>?_,List.pairwise_cons.2 ⟨fun q hq=>?_,h2⟩⟩
   ·rcases List.mem_cons.1 ho with rfl | ho
    ·exact⟨Int.le_refl _,by show ((i+1:Nat):Int)=(i:Int)+1; omega,Int.le_refl _,rfl,x,rfl⟩
    ·exact (h1 o ho).mono (by omega) (Int.le_refl _)
   ·have:=h1 q hq
    have:=this.inv
    exact⟨(h1 q hq).era,by show ((i+1:Nat):Int)<q.invoked; omega⟩
theorem yl {h:List HEv} {n:Nat} {l:List XE} {s:RS} {i:Nat} {e:Int} (hn:3≤n) (hm:(opsR h).map mJ=srO V l s i e):Ch (opsR h) n (bA h):=by
 obtain⟨h1,h2⟩:=lY (V:=V) l s i e
 rw[←hm]at h1 h2
 have hg:∀(j:Nat) (o:HOp),(opsR h)[j]?=some o→SrO i e (mJ o):=fun j o ho=>h1 _ (List.mem_map.2 ⟨o,List.mem_of_getElem? ho,rfl⟩)
 have hp:∀(j k:Nat) (o q:HOp),j<k→(opsR h)[j]?=some o→(opsR h)[k]?=some q→o.era≤q.era∧o.returned<q.invoked:=fun j k o q hjk ho hq=>by
  rw[List.pairwise_map,List.pairwise_iff_getElem]at h2
  obtain⟨a1,a2⟩:=List.getElem?_eq_some_iff.1 ho
  obtain⟨b1,b2⟩:=List.getElem?_eq_some_iff.1 hq
  have:=h2 j k a1 b1 hjk
  rw[a2,b2]at this
  exact this
 refine⟨qe h,fun j o ho=>?_,fun j o ho=>?_,fun j k o q hjk ho hq=>?_,fun j k o q hjk ho hq=>?_⟩
 ·have g:=hg j o ho
  obtain⟨x,hx⟩:=g.op
  have hx:o.op=srOp x:=hx
  have he:o.err=0:=g.err
  unfold mayB
  rw[hx,he]
  have hb:badO (srOp x) n=false:=by
   unfold badO outO srOp
   simp only
   rcases rv x with hk | hk | hk
   ·have hat:srAt x<3:=by unfold srAt; omega
    rw[if_pos (by omega),if_neg (by omega),dF (by omega),dF (by omega)]; rfl
   ·have hat:srAt x<3:=by unfold srAt; omega
    rw[if_neg (by omega),if_pos (by omega),if_neg (by omega),if_pos hk,dF (by omega),dF (by omega)]; simp
   ·rw[if_neg (by omega),if_neg (by omega),dT (by omega)]; rfl
  rw[hb]; simp
 ·have g:=hg j o ho
  have he:o.err=0:=g.err
  have hr:o.returned=o.invoked+1:=g.ret
  have hi:(i:Int)≤o.invoked:=g.inv
  rw[bL,he,dT (by omega)]; rfl
 ·have g:=hg j o ho
  have hr:o.returned=o.invoked+1:=g.ret
  have hi:(i:Int)≤o.invoked:=g.inv
  obtain⟨a,b⟩:=hp j k o q hjk ho hq
  unfold befB
  split
  ·rw[dT (by omega),dT (by omega)]; rfl
  ·exact dT (by omega)
 ·have go:=hg j o ho
  have gq:=hg k q hq
  have hr:q.returned=q.invoked+1:=gq.ret
  have ho1:o.returned=o.invoked+1:=go.ret
  have hle:o.era≤q.era∧o.invoked≤q.invoked:=by
   by_cases he:j=k
   ·subst he
    rw[ho]at hq; cases hq
    exact⟨Int.le_refl _,Int.le_refl _⟩
   ·have:=hp j k o q (by omega) ho hq
    omega
  unfold befB
  split
  ·rw[dF (show ¬q.returned<o.invoked by omega),Bool.and_false]
  ·exact dF (by omega)
structure Sim3 (s t:RS):Prop where
 era:s.era=t.era
 ar:∀k:Nat,k<3→pgAt s.arr k=pgAt t.arr k
 du:∀k:Nat,k<3→pgAt s.dur k=pgAt t.dur k
 l1:3≤s.arr.length
 l2:3≤s.dur.length
 l3:3≤t.arr.length
 l4:3≤t.dur.length
theorem Sim3.crash {s t:RS} (h:Sim3 s t):Sim3 (aY s) (aY t):=⟨by show s.era+1=t.era+1; rw[h.era],h.du,h.du,h.l2,h.l2,h.l4,h.l4⟩
theorem Sim3.hap {s t:RS} (h:Sim3 s t) {o q:HOp} (x:XE) (ho:o.op=srOp x) (hq:q.op=srOp x):Sim3 (hapR s o).1 (hapR t q).1:=by
 unfold hapR
 rw[ho,hq]
 split
 ·exact h
 ·split
  ·rename_i h1 h2
   have hk:srK x=2:=by unfold srOp at h2; simp only at h2; omega
   have hat:srAt x<3:=by unfold srAt; omega
   have hi:(srOp x).index.toNat=srAt x:=by unfold srOp; simp only; rw[if_neg (by omega),Int.toNat_natCast]
   refine⟨h.era,fun k hk3=>?_,h.du,by rw[List.length_set]; exact h.l1,h.l2,by rw[List.length_set]; exact h.l3,h.l4⟩
   unfold pgAt
   rw[hi,Int.toNat_natCast]
   have hak:=h.ar k hk3
   unfold pgAt at hak
   rw[Int.toNat_natCast]at hak
   have:=h.l1
   have:=h.l3
   by_cases e:srAt x=k
   ·rw[e,List.getElem?_set_self (by omega),List.getElem?_set_self (by omega)]
   ·rw[List.getElem?_set_ne e,List.getElem?_set_ne e]; exact hak
  ·exact⟨h.era,h.ar,h.ar,h.l1,h.l1,h.l3,h.l3⟩
theorem uc {s:RS} {o:HOp}:(hapR s o).2=(if o.op.kind=1 then !bL o||decide (pgAt s.arr o.op.index=o.value) else true):=by
 unfold hapR
 split
 ·rfl
 ·split <;> rfl
theorem oR:∀(l:List XE) (s t:RS) (i:Nat),Sim3 s t→fitF (srO V l s i s.era) t=(srR l s i).all fun p=>decide (p.2=V p.1 p.2)
 | [],_,_,_,_=>rfl
 | x::r,s,t,i,h=>by
  rw[srO,srR]
  by_cases hw:200<x.who.toNat
  ·have hs:srS x s=aY s:=by rw[srS,if_pos hw]
   rw[if_pos hw,if_pos hw,hs,List.nil_append]
   have ih:=oR r (aY s) (aY t) (i+srW x) h.crash
   rw[←ih]
   symm
   refine nf fun o ho=>?_
   have:=((lY (V:=V) r (aY s) (i+srW x) (aY s).era).1 o (List.mem_of_getElem? ho)).era
   have h1:(aY s).era=s.era+1:=rfl
   have:=h.era
   omega
  ·have hs:srS x s=(hapR s (srH x)).1:=by rw[srS,if_neg hw]
   rw[if_neg hw,if_neg hw,fitF,show bJ (HOp.era ⟨srC x,0,s.era,srOp x,i,((i+1:Nat):Int),srV V x s i,0⟩) t=t by rw[show (HOp.era ⟨srC x,0,s.era,srOp x,i,((i+1:Nat):Int),srV V x s i,0⟩)=t.era from h.era]; exact fz t]
   have h2:=h.hap (o:=srH x) (q:=⟨srC x,0,s.era,srOp x,i,((i+1:Nat):Int),srV V x s i,0⟩) x rfl rfl
   have ih:=oR r (hapR s (srH x)).1 _ (i+srW x) h2
   have he:(hapR s (srH x)).1.era=s.era:=(gH s (srH x)).2.2
   rw[he]at ih
   rw[hs,ih,uc]
   have hk1:(srOp x).kind=(srK x:Int):=rfl
   by_cases hk:srK x=1
   ·have hat:srAt x<3:=by unfold srAt; omega
    have hi:(srOp x).index=(srAt x:Int):=by unfold srOp; simp only; rw[if_neg (by omega)]
    simp only
    rw[if_pos (show (srOp x).kind=1 by rw[hk1,hk]; rfl),hi,←h.ar _ hat,if_pos hk,srV,if_pos hk]
    have hm:bL ⟨srC x,0,s.era,srOp x,i,((i+1:Nat):Int),V (i+1) (pgAt s.arr (srAt x)),0⟩=true:=by
     unfold bL
     simp only
     rw[dT (by omega)]; rfl
    rw[hm,List.singleton_append,List.all_cons]; rfl
   ·simp only
    rw[if_neg (show ¬(srOp x).kind=1 by rw[hk1]; omega),if_neg hk]; rfl
end
theorem ru:∀(l:List XE) (s:RS) (i:Nat),∀p∈srR l s i,i+1≤p.1
 | [],_,_,_,h=>by cases h
 | x::r,s,i,p,h=>by
  have hw:1≤srW x:=by unfold srW; split <;> omega
  rw[srR]at h
  rcases List.mem_append.1 h with h | h
  ·split at h
   ·cases h
   ·split at h
    ·rw[List.mem_singleton.1 h]; exact Nat.le_refl _
    ·cases h
  ·have:=ru r _ _ p h; omega
theorem uV:∀(l:List XE) (s:RS) (i:Nat) (a:Int),srL l i a=a∨∃(m:Nat) (v:List UInt8),srL l i a=m∧(m,v)∈srR l s i
 | [],_,_,a=>.inl rfl
 | x::r,s,i,a=>by
  rw[srL,srR]
  rcases uV r (srS x s) (i+srW x) (if 200<x.who.toNat then a else if srK x=1 then ((i+1:Nat):Int) else a)with h | ⟨m,v,h1,h2⟩
  ·rw[h]
   by_cases hw:200<x.who.toNat
   ·rw[if_pos hw]; exact .inl rfl
   ·rw[if_neg hw]
    by_cases hk:srK x=1
    ·rw[if_pos hk]
     refine .inr ⟨i+1,pgAt s.arr (srAt x),rfl,List.mem_append_left _ ?_⟩
     rw[if_neg hw,if_pos hk]; exact List.mem_singleton.2 rfl
    ·rw[if_neg hk]; exact .inl rfl
  ·exact .inr ⟨m,v,h1,List.mem_append_right _ h2⟩
def bmp (v:List UInt8):List UInt8:=v.set 31 ((v[31]?.getD 0)+1)
theorem yY {v:List UInt8} (h:v.length=32):v≠bmp v:=by
 intro e
 have h31:v[31]?=some (v[31]'(by omega)):=List.getElem?_eq_getElem (by omega)
 have h1:v[31]?=(bmp v)[31]?:=congrArg (fun l=>l[31]?) e
 rw[bmp,List.getElem?_set_self (by omega),h31]at h1
 simp only[Option.getD_some,Option.some.injEq]at h1
 have h2:=congrArg UInt8.toNat h1
 rw[UInt8.toNat_add]at h2
 have h3:=(v[31]'(by omega)).toNat_lt
 have h4:(1:UInt8).toNat=1:=rfl
 omega
abbrev idV:Nat→List UInt8→List UInt8:=fun _ v=>v
def bmpV (m:Nat):Nat→List UInt8→List UInt8:=fun j v=>if j=m then bmp v else v
def bmpE (x:HEv):HEv := { x with value:=bmp x.value }
theorem uU {x:XE} {s:RS} {i m:Nat} (h:i+1≠m):srV (bmpV m) x s i=srV idV x s i:=by
 unfold srV bmpV
 rw[if_neg h]
theorem uW:∀(l:List XE) (s:RS) (i m:Nat),m≤i→srE (bmpV m) l s i=srE idV l s i
 | [],_,_,_,_=>rfl
 | x::r,s,i,m,h=>by
  rw[srE,srE,uW r _ _ m (by omega)]
  unfold srEv
  rw[uU (by omega)]
theorem oS:∀(l:List XE) (s:RS) (i m:Nat) (v:List UInt8),(m,v)∈srR l s i→∃x,(srE idV l s i)[m-i]?=some x∧x.value=v∧(srE idV l s i).set (m-i) (bmpE x)=srE (bmpV m) l s i
 | [],_,_,_,_,h=>by cases h
 | x::r,s,i,m,v,h=>by
  rw[srR]at h
  rw[srE,srE]
  by_cases hw:200<x.who.toNat
  ·rw[if_pos hw,List.nil_append]at h
   have hW:srW x=1:=by rw[srW,if_pos hw]
   have:=ru _ _ _ _ h
   obtain⟨y,h1,h2,h3⟩:=oS r _ _ m v h
   have hE:∀V,srEv V x s i=[crE]:=fun V=>by rw[srEv,if_pos hw]
   simp only at this
   obtain⟨d,hd⟩:∃d,m-i=d+1:=⟨m-i-1,by omega⟩
   rw[hW,show m-(i+1)=d by omega]at h1 h3
   rw[hE,hE,hd,hW]
   refine⟨y,by simpa using h1,h2,?_⟩
   rw[List.singleton_append,List.set_cons_succ,h3]; rfl
  ·rw[if_neg hw]at h
   have hW:srW x=2:=by rw[srW,if_neg hw]
   have hE:∀V,srEv V x s i=[⟨1,srC x,srOp x,zBk,0⟩,⟨2,srC x,zOp,srV V x s i,0⟩]:=fun V=>by rw[srEv,if_neg hw]
   rw[hE,hE,hW]
   rcases List.mem_append.1 h with h | h
   ·by_cases hk:srK x=1
    ·rw[if_pos hk]at h
     have h:=List.mem_singleton.1 h
     cases h
     rw[show i+1-i=1 by omega]
     refine⟨⟨2,srC x,zOp,srV idV x s i,0⟩,rfl,by show srV idV x s i=_; rw[srV,if_pos hk],?_⟩
     rw[uW r _ _ (i+1) (by omega)]
     have:bmpE ⟨2,srC x,zOp,srV idV x s i,0⟩=⟨2,srC x,zOp,srV (bmpV (i+1)) x s i,0⟩:=by
      unfold bmpE srV bmpV
      rw[if_pos hk,if_pos hk,if_pos rfl]
     rw[←this]; rfl
    ·rw[if_neg hk]at h; cases h
   ·have:=ru _ _ _ _ h
    obtain⟨y,h1,h2,h3⟩:=oS r _ _ m v h
    simp only at this
    obtain⟨d,hd⟩:∃d,m-i=d+2:=⟨m-i-2,by omega⟩
    rw[hW,show m-(i+2)=d by omega]at h1 h3
    rw[hd,uU (by omega)]
    refine⟨y,by simpa using h1,h2,?_⟩
    show (⟨1,srC x,srOp x,zBk,0⟩:HEv)::⟨2,srC x,zOp,srV idV x s i,0⟩::(srE idV r (srS x s) (i+2)).set d (bmpE y)=_
    rw[h3]; rfl
theorem xV:∀(l:List XE) (s:RS) (i:Nat),(∀p∈s.arr,p.length=32)→(∀p∈s.dur,p.length=32)→∀p∈srR l s i,p.2.length=32
 | [],_,_,_,_,_,h=>by cases h
 | x::r,s,i,h1,h2,p,h=>by
  have hs:(∀p∈(srS x s).arr,p.length=32)∧(∀p∈(srS x s).dur,p.length=32):=by
   unfold srS
   split
   ·exact⟨h2,h2⟩
   ·unfold hapR
    split
    ·exact⟨h1,h2⟩
    ·split
     ·rename_i _ _ hk
      refine⟨fun p hp=>?_,h2⟩
      rcases List.mem_or_eq_of_mem_set hp with hp | hp
      ·exact h1 p hp
      ·rw[hp]
       have hk:srK x=2:=by
        have:(srOp x).kind=2:=hk
        unfold srOp at this
        simp only at this
        omega
       show (srOp x).data.length=32
       unfold srOp
       simp only
       rw[if_pos hk]; simp
     ·exact⟨h1,h1⟩
  rw[srR]at h
  rcases List.mem_append.1 h with h | h
  ·split at h
   ·cases h
   ·split at h
    ·rw[List.mem_singleton.1 h]
     unfold pgAt
     cases hg:s.arr[((srAt x:Nat):Int).toNat]? with
     | none=>rfl
     | some v=>exact h1 v (List.mem_of_getElem? hg)
    ·cases h
  ·exact xV r _ _ hs.1 hs.2 p h
theorem qG:∀(r:List HOp) (s:RS),fitF (r.map mJ) s=fitF r s
 | [],_=>rfl
 | o::r,s=>by rw[List.map_cons,fitF,fitF,←qG r]; rfl
theorem wX (x:XE) {n:Nat} (hn:3≤n):badO (srOp x) n=false:=by
 unfold badO outO srOp
 simp only
 rcases rv x with hk | hk | hk
 ·have hat:srAt x<3:=by unfold srAt; omega
  rw[if_pos (by omega),if_neg (by omega),dF (by omega),dF (by omega)]; rfl
 ·have hat:srAt x<3:=by unfold srAt; omega
  rw[if_neg (by omega),if_pos (by omega),if_neg (by omega),if_pos hk,dF (by omega),dF (by omega)]; simp
 ·rw[if_neg (by omega),if_neg (by omega),dT (by omega)]; rfl
theorem sL (x:XE):mayB (srH x) (3:Nat)=true:=by
 unfold mayB
 simp only
 rw[wX x (Nat.le_refl _)]; rfl
abbrev serH (l:List XE):List HEv:=srE idV l (aN 3) 0
abbrev serB (l:List XE) (m:Nat):List HEv:=srE (bmpV m) l (aN 3) 0
theorem u7 {V:Nat→List UInt8→List UInt8} {l:List XE} {b:Nat} {fuel:Int} (hl:l.length≤512) (h0:3≤b) (h1:b≤4096) (hf:l.length+1≤fuel) (hf2:fuel≤1000) :
  jq (srE V l (aN 3) 0) b fuel∧(∃c:Int,0≤c∧c≤((opsR (srE V l (aN 3) 0)).length+bA (srE V l (aN 3) 0):Nat)∧ez (srE V l (aN 3) 0) b fuel=(c,0))∧(ci (srE V l (aN 3) 0) b fuel).2=0∧opE (srE V l (aN 3) 0) b=0 ∧
   ((ci (srE V l (aN 3) 0) b fuel).1.2=(srR l (aN 3) 0).all fun p=>decide (p.2=V p.1 p.2))∧((ci (srE V l (aN 3) 0) b fuel).1.2=true→(ci (srE V l (aN 3) 0) b fuel).1.1=zs (List.range (opsR (srE V l (aN 3) 0)).length))∧(opsR (srE V l (aN 3) 0)).length≤l.length:=by
 obtain⟨h,hh⟩:∃h,h=srE V l (aN 3) 0:=⟨_,rfl⟩
 have hm:(opsR h).map mJ=srO V l (aN 3) 0 0:=by rw[yr,hh]; exact pc l _ 0 0
 have hA:fv h:=by
  have:=oU (V:=V) l (aN 3) 0 [] sC (fun c=>rfl)
  rw[hh]; simpa using this
 have hlen:=oT (V:=V) l (aN 3) 0
 rw[←hh]at hlen ⊢
 have hc:=yl (n:=b) h0 hm
 have hol:(opsR h).length+srN l=l.length:=by
  have:=oQ (V:=V) l (aN 3) 0 0
  rw[←hm,List.length_map]at this
  exact this
 have her:bA h=1+srN l:=by unfold bA; rw[hh,uY]
 obtain⟨g1,g2,g3,g4,g5,g6⟩:=Ch.go hA (by omega) hc (by omega) h1 (fuel:=fuel) (by omega) hf2
 refine⟨g1,g2,g3,g4,?_,g6,by omega⟩
 have hft:=oR (V:=V) l (aN 3) (aN b) 0 ⟨rfl,fun k _=>by rw[aN,aN]; simp only; rw[j3,j3],fun k _=>by rw[aN,aN]; simp only; rw[j3,j3],by simp[aN],by simp[aN],by simp[aN]; omega,by simp[aN]; omega⟩
 rw[show (aN 3).era=0 from rfl,←hm,qG]at hft
 rw[←hft,Bool.eq_iff_iff]
 exact g5
end Go.Proofs.Ytkehohfgbblokaa
namespace Go.Eng
open Go.RowKit
theorem RelV.sl {σ:aF} {w:World} {X:Nat→Prop} {n:Nat} {u:Value}:RelV σ w X (.sl n) u ↔ ∃a c,u=.slice a n c:=by
 unfold RelV
 rw[if_neg (by simp[AV.isAgg])]
 simp only[Rel,List.cons.injEq,and_true]
theorem AVLe.sl_arx {α:Type} {s:Nat} {enc:α→D} {xs:List α} {n:Nat} (hn:xs.length=n):AVLe (.d (.arx s enc xs)) (.sl n):=by
 subst hn
 intro σ w X u h
 rw[RelV.sl]
 rcases RelV.arx.1 h with ⟨rfl,a,hu⟩ | ⟨a,hu,_⟩
 ·exact⟨a,0,hu⟩
 ·exact⟨some a,_,hu⟩
theorem dq.sl (n:Nat):dq (.sl n):=⟨fun _ _ _ _ _ _ _ h=>RelV.sl.2 (RelV.sl.1 h),fun _=>trivial⟩
section
variable {P : Program} {T : Tab} {f : FuncId} {avs avs' : List AV} {h0 rows : List (Nat × Row)} {res res' : AV} {env : Env} {h : Upds} {n : Nat}
theorem lc (hT:an P T) {x:Operand} {t e:TypeId} {m:Nat} (hx:aq env x=some (.sl m)) (ht:bq T t=some (.slice e)) :
  aj P (.call { callee :=.builtin .len,args := #[x],argTypes := #[t] }) env h n (some (.int .i64 m)) []:=.len rfl hx fun C st σ w a ty hr=>by
 obtain⟨u,hu,hdu⟩:=bj hT ht
 cases hdu
 obtain⟨ad,c,hv⟩:=RelV.sl.1 hr
 simp[Builtin.len_,hv,run_underlying hu]
theorem FnIs.res_le (hl:AVLe res res') (hw:∀G:Nat→Prop,res'.within G) (h:FnIs P f avs h0 res rows):FnIs P f avs h0 res' rows:=by
 refine⟨h.1,fun C σ w vs hbs hB hw0 hσ hro hst=>(h.2 C σ w vs hbs hB hw0 hσ hro hst).mono ?_⟩
 rintro e w' ⟨v,σ',rfl,hr⟩
 refine⟨v,σ',rfl, { hr with env:=fun i x hi=>?_,envG:=fun i x hi=>?_ }⟩
 ·by_cases e:i=0
  ·subst e
   simp only[cn,aM,if_pos,Option.some.injEq]at hi
   subst hi
   obtain⟨u,hu,hv⟩:=hr.env 0 _ rfl
   exact⟨u,hu,hl _ _ _ _ hv⟩
  ·simp only[cn,aM,if_neg (Ne.symm e),lk]at hi
   cases hi
 ·by_cases e:i=0
  ·subst e
   simp only[cn,aM,if_pos,Option.some.injEq]at hi
   subst hi
   exact hw _
  ·simp only[cn,aM,if_neg (Ne.symm e),lk]at hi
   cases hi
def pF (res:AV) (row:Row):Prop:=(∀(σ:aF) (w:World) (X X':Nat→Prop) (v:Value),RelV σ w X res v→RelV σ w X' res v)∧(∀(σ:aF) (w:World) (X X':Nat→Prop),bw σ w X 64 row→bw σ w X' 64 row)∧res.within (fun r=>r<72)∧row.within (fun r=>r<72)
def AV.free:AV→Bool
 | .d (.sc _)=>true
 | .own .. => true
 | .sl _=>true
 | .anil=>true
 | .acons a r=>bif a.free then r.free else false
 | .tup q=>q.free
 | _=>false
theorem Rel.free {σ:aF} {w w':World} {X X':Nat→Prop}:∀(a:AV) (m:Bool) (cs:List Value),a.free=true→Rel σ w X a m cs→Rel σ w' X' a m cs:=by
 intro a
 induction a with
 | d x =>
  intro m cs hf h
  cases x with
  | sc v=>exact h
  | _=>simp[AV.free]at hf
 | anil=>intro m cs _ h; exact h
 | acons a r iha ihr =>
  intro m cs hf h
  have hf2:a.free=true∧r.free=true:=by
   simp only[AV.free]at hf
   cases ha:a.free with
   | false=>rw[ha]at hf; cases hf
   | true=>rw[ha]at hf; exact⟨rfl,hf⟩
  cases m with
  | false =>
   obtain⟨c1,c2,rfl,h1,h2⟩:=h
   exact⟨c1,c2,rfl,iha _ _ hf2.1 h1,ihr _ _ hf2.2 h2⟩
  | true =>
   obtain⟨v,us,rfl,h1,h2⟩:=h
   refine⟨v,us,rfl,?_,ihr _ _ hf2.2 h2⟩
   split at h1 <;> rename_i hag
   ·obtain⟨c,rfl,hc⟩:=h1
    rw[if_pos hag]
    exact⟨c,rfl,iha _ _ hf2.1 hc⟩
   ·rw[if_neg hag]
    exact iha _ _ hf2.1 h1
 | own=>intro m cs _ h; exact h
 | sl n=>intro m cs _ h; exact h
 | tup q ih =>
  rintro m cs hf ⟨vs,rfl,h1⟩
  exact⟨vs,rfl,ih _ _ hf h1⟩
 | _=>intro m cs hf; simp[AV.free]at hf
theorem RelV.free {σ:aF} {w w':World} {X X':Nat→Prop} {a:AV} {v:Value} (hf:a.free=true) (h:RelV σ w X a v):RelV σ w' X' a v:=by
 unfold RelV at h ⊢
 split at h <;> rename_i hag
 ·obtain⟨c,rfl,hc⟩:=h
  rw[if_pos hag]
  exact⟨c,rfl,Rel.free a _ _ hf hc⟩
 ·rw[if_neg hag]
  exact Rel.free a _ _ hf h
theorem pF.ints {res:AV} {t:TypeId} {ex:Bool} {f:Int→Value} {xs:List Int} (hf:res.free=true) (hw:res.within (fun r=>r<72)):pF res (.ds t 1 ex (fun i=>.sc (f i)) xs):=
 ⟨fun _ _ _ _ _ h=>RelV.free hf h,fun _ _ _ _ h=>h,hw,trivial⟩
theorem FnIs.lend_new {row:Row} (ht:kV avs h0 avs' []) (hf:pF res row) (h:FnIs P f avs' [] res [(64,row)]):FnIs P f avs h0 res ((64,row)::h0):=by
  obtain⟨f1,f2,f3,f4⟩:=hf
  refine⟨h.1,fun C σ w vs hbs hB hw hσ hro hst=>?_⟩
  have h1:=ht _ _ _ _ _ hst
  have hc:aD { C with M:=fun _=>False } (fun r=>r<64) (inSt avs' []) σ w ⟨vs.toArray,[]⟩:=
    { env:=h1.env
      envG:=h1.envG
      rows:=h1.rows
      rowsG:=h1.rowsG
      inj:=h1.inj
      high:=fun r row b c hr=>by simp[inSt,aB,St.row,lk]at hr
      size:=h1.size
      below:=by show eb C.B _ C.w0 w; rw[hw]; exact eb.refl _ _ _
      defers:=trivial
      sz:=h1.sz
      x0:=fun b hb=>⟨(h1.x0 b hb).1,id⟩
      agree:=h1.agree
      baseG:=h1.baseG
      bs:=h1.bs
      rok:=h1.rok
      glob:=fun x hx=>⟨(h1.glob x hx).1,(h1.glob x hx).2.1,id⟩ }
  refine (h.2 { C with M:=fun _=>False } σ w vs hbs hB hw hσ hro hc).mono ?_
  rintro e w' ⟨v,σ',rfl,hr⟩
  refine⟨v,σ',rfl,?_⟩
  have hbm:eb C.B (fun _=>False) w w':=by have:=hr.below; rw[←hw]; exact this
  have hheap:∀k,k<w.heap.size→w'.heap[k]?=w.heap[k]?:=fun k hk=>hbm.block k (by omega) id
  have hag:∀r,r<64→σ' r=σ r:=fun r hr64=>by
    have:=hr.agree r (by show r<C.bs; omega)
    rw[this]; show C.σ0 r=σ r; rw[hσ]
  have hrow64:(cn res ((64,row)::h0)).row 64=some row:=rfl
  have hrowN:∀r,r≠64→(cn res ((64,row)::h0)).row r=(inSt avs h0).row r:=fun r hne=>by
    simp only[cn,inSt,aB,St.row,List.map_cons,aM]
    rw[if_neg (fun h=>hne h.symm)]
  have hnew:∀b c,σ' 64=some (b,c)→w.heap.size≤b:=fun b c hb=>by
    rcases hr.high 64 row b c rfl hb with h | h
    · have h:C.B≤b:=h
      omega
    · exact h.elim
  have hXs:∀b,(cn res ((64,row)::h0)).X C.X0 σ' b→b<w.heap.size→(inSt avs h0).X C.X0 σ b:=fun b hx hb=>by
    rcases hx with hx | ⟨r,ro,c,g1,g2⟩
    · exact .inl hx
    · by_cases hne:r=64
      · subst hne
        have:=hnew b c g2; omega
      · rw[hrowN r hne]at g1
        have:=(hst.rowsG r ro g1).1
        rw[hag r this]at g2
        exact .inr ⟨r,ro,c,g1,g2⟩
  have hk:∀(a:Addr) (u:Value),w.cell? a=some u→¬(inSt avs h0).X C.X0 σ a.block→w'.cell? a=some u∧¬(cn res ((64,row)::h0)).X C.X0 σ' a.block:=fun a u hc hx =>
    ⟨by rw[World.cell?_of_block (hheap _ (World.block_lt_of_cell? w a hc))]; exact hc,fun h=>hx (hXs _ h (World.block_lt_of_cell? w a hc))⟩
  obtain⟨u,hu,hv⟩:=hr.env 0 _ rfl
  exact
    { env:=fun i x hi=>by
        by_cases e:i=0
        · subst e
          simp only[cn,aM,if_pos,Option.some.injEq]at hi
          subst hi
          refine⟨v,rfl,?_⟩
          have hu':v=u:=by simpa using hu
          subst hu'
          exact f1 _ _ _ _ _ hv
        · simp only[cn,aM,if_neg (Ne.symm e),lk]at hi
          cases hi
      envG:=fun i x hi=>by
        by_cases e:i=0
        · subst e
          simp only[cn,aM,if_pos,Option.some.injEq]at hi
          subst hi
          exact f3
        · simp only[cn,aM,if_neg (Ne.symm e),lk]at hi
          cases hi
      rows:=fun r ro hr'=>by
        by_cases hne:r=64
        · subst hne
          rw[hrow64]at hr'; cases hr'
          exact f2 _ _ _ _ (hr.rows 64 row rfl)
        · rw[hrowN r hne]at hr'
          exact bw.mono hag hk (hst.rowsG r ro hr').1 (hst.rowsG r ro hr').2 (fun b c hs=>hheap b (hst.lt hr' hs)) (hst.rows r ro hr')
      rowsG:=fun r ro hr'=>by
        by_cases hne:r=64
        · subst hne
          rw[hrow64]at hr'; cases hr'
          exact⟨by decide,f4⟩
        · rw[hrowN r hne]at hr'
          obtain⟨g1,g2⟩:=hst.rowsG r ro hr'
          refine⟨Nat.lt_of_lt_of_le g1 (by decide),?_⟩
          cases ro with
          | box t x=>exact AV.within.mono (fun r hr=>Nat.lt_of_lt_of_le hr (by decide)) x g2
          | ds=>trivial
          | lits t s n ex x=>exact AV.within.mono (fun r hr=>Nat.lt_of_lt_of_le hr (by decide)) x g2
          | mo x=>exact AV.within.mono (fun r hr=>Nat.lt_of_lt_of_le hr (by decide)) x g2
          | si=>trivial
          | mq=>trivial
          | mi x=>exact AV.within.mono (fun r hr=>Nat.lt_of_lt_of_le hr (by decide)) x g2
      inj:=fun r r' ro ro' b c c' g1 g2 g3 g4=>by
        by_cases hne:r=64 <;> by_cases hne':r'=64
        · omega
        · subst hne
          rw[hrowN r' hne']at g2
          rw[hag r' (hst.rowsG r' ro' g2).1]at g4
          have:=hnew b c g3
          have:=hst.lt g2 g4
          omega
        · subst hne'
          rw[hrowN r hne]at g1
          rw[hag r (hst.rowsG r ro g1).1]at g3
          have:=hnew b c' g4
          have:=hst.lt g1 g3
          omega
        · rw[hrowN r hne]at g1
          rw[hrowN r' hne']at g2
          rw[hag r (hst.rowsG r ro g1).1]at g3
          rw[hag r' (hst.rowsG r' ro' g2).1]at g4
          exact hst.inj r r' ro ro' b c c' g1 g2 g3 g4
      high:=fun r ro b c g1 g2=>by
        by_cases hne:r=64
        · subst hne
          have:=hnew b c g2
          exact .inl (by omega)
        · rw[hrowN r hne]at g1
          rw[hag r (hst.rowsG r ro g1).1]at g2
          exact hst.high r ro b c g1 g2
      size:=hr.size
      below:=by rw[hw]; exact⟨hbm.os,hbm.tape,hbm.output,hbm.size,fun k hk _=>hbm.block k hk id,hbm.book⟩
      defers:=trivial
      sz:=rfl
      x0:=hst.x0
      agree:=fun r hr2=>hr.agree r hr2
      baseG:=fun r hr=>by have:=hst.baseG r hr; exact Nat.lt_of_lt_of_le this (by decide)
      bs:=hst.bs
      rok:=fun l hl=>by rw[hro]at hl; cases hl
      glob:=hst.glob }
end
end Go.Eng
namespace Go.Proofs.Ytkehohfgbblokaa
open Go.Eng Go.Plain
set_option maxHeartbeats 32000000
set_option maxRecDepth 20000
attribute [local irreducible] WC RegS RegD SeqQ BlkQ ScoQ RegK CutK Sat SatN FnIs LoopQ aj OpIs
abbrev qK (l:List XE):D :=.arr 3 qL l
theorem rJ (o:POp):DLe (.cons (i6 0) (.cons (i6 0) (.cons (i6 0) (.cons (cW o) (.cons (i6 0) (.cons (i6 0) (.cons (.vec 32 1 cD (List.replicate 32 0)) (.cons (i6 0) .nil)))))))) (bh ⟨0,0,0,o,0,0,zBk,0⟩):=DLe.of_eq rfl
theorem oG (o:POp) (c:Int):DLe (.cons (u8s 1) (.cons (i6 c) (.cons (cW o) (.cons (.vec 32 1 cD (List.replicate 32 0)) (.cons (i6 0) .nil))))) (cv ⟨1,c,o,zBk,0⟩):=DLe.of_eq rfl
structure SrI (l:List XE) (i:Nat) (out:List HEv) (s:RS) (last:Int):Prop where
 le:i≤l.length
 ok:RSOk 3 s
 er:s.era≤i
 ol:out.length≤2*i
 ev:out++srE idV (l.drop i) s out.length=serH l
 la:srL (l.drop i) out.length last=srL l 0 (-1)
theorem SrI.step {l:List XE} {i:Nat} {out:List HEv} {s:RS} {last:Int} (I:SrI l i out s last) {x:XE} (hx:l[i]?=some x) (hl:l.length≤512):SrI l (i+1) (out++srEv idV x s out.length) (srS x s) (if 200<x.who.toNat then last else if srK x=1 then ((out.length+1:Nat):Int) else last):=by
 have hlt:=(List.getElem?_eq_some_iff.1 hx).1
 have hd:l.drop i=x::l.drop (i+1):=by rw[List.drop_eq_getElem_cons hlt,(List.getElem?_eq_some_iff.1 hx).2]
 have hw:(srEv idV x s out.length).length=srW x:=by unfold srEv srW; split <;> rfl
 have hw2:srW x≤2:=by unfold srW; split <;> omega
 have hev:=I.ev
 have hla:=I.la
 rw[hd,srE,←List.append_assoc]at hev
 rw[hd,srL]at hla
 have hol:=I.ol
 have her:=I.er
 refine⟨hlt,?_,?_,by rw[List.length_append,hw]; omega,by rw[List.length_append,hw]; exact hev,by rw[List.length_append,hw]; exact hla⟩
 ·unfold srS
  split
  ·exact I.ok.crash (by omega)
  ·refine (I.ok.hap (by decide) ?_).2
   exact sL x
 ·unfold srS
  split
  ·show s.era+1≤_; omega
  ·rw[(gH s (srH x)).2.2]; omega
theorem tA (l:List XE) (hl:l.length≤512):FnIs Try.prog 29 [.d (qK l)] [] (.tup (.acons (.own 64 0 (serH l).length 38 none) (.acons (.int .i64 (srL l 0 (-1))) .anil))) [(64,.ds 63 38 false cv (serH l))]:=by
 refine aG aa Try.func29 rfl rfl rfl ?_;refine sR<|zD<|nR ?_;refine rQ (aA (tD 3 (by decide)) rfl rfl (ak ai) (.inl rfl) (fun _=>rfl)) ?_;refine rN ?_;refine rW<|nR ?_;refine rC<|nR ?_;refine rC<|zW ?_;refine rC<|zP ?_
 refine wc_inv (fun q:Nat×List HEv×RS×Int=>⟨[(7,.int .i64 q.1),(6,.int .i64 q.2.2.2),(5,.own 65 0 q.2.1.length 38 none),(4,.ptr 64 []),(0,.d (qK l))],[(64,some (.box 100 (.d (gN q.2.2.1)))),(65,some (.ds 63 38 false cv q.2.1))],72,Try.f29.ntmps,64⟩) (fun q=>SrI l q.1 q.2.1 q.2.2.1 q.2.2.2) (fun q=>l.length-q.1) (0,[],aN 3,-1) [(64,some 88),(65,none)] ⟨Nat.zero_le _,.first 3,Int.le_refl _,Nat.zero_le _,rfl,rfl⟩
  (lg zh ⟨zR,⟨rfl,rfl,rfl⟩,trivial⟩) ?_
 rintro⟨i,out,s,last⟩ I
 have I:SrI l i out s last:=I
 have hi:=I.le
 have hol:=I.ol
 have her:=I.er
 have he0:=I.ok.e0
 have hal:out.length+1≤1048576:=by omega
 refine cf ?_
 by_cases hlt:i<l.length
 ·have d1:decide ((i:Int)<(l.length:Int))=true:=dT (by omega)
  obtain⟨x,hx⟩:∃u,l[i]?=some u:=⟨_,List.getElem?_eq_getElem hlt⟩
  have hx2:l[((i:Int)).toNat]?=some x:=by rw[Int.toNat_natCast]; exact hx
  have hx0:=x.who.toNat_lt
  have hx1:=x.what.toNat_lt
  have hx3:=x.data.toNat_lt
  have hw1:IntKind.i64.wrap ((x.data.toNat/4:Nat):Int)=((x.data.toNat/4:Nat):Int):=bp (by omega) (by omega)
  have hw2:IntKind.i64.wrap ((x.who.toNat % 8:Nat):Int)=((x.who.toNat % 8:Nat):Int):=bp (by omega) (by omega)
  have hwe:IntKind.i64.wrap (s.era+1)=s.era+1:=bp (by omega) (by omega)
  have hw3:IntKind.u8.wrap (1+((x.what.toNat % 3:Nat):Int))=((srK x:Nat):Int):=by
   rw[show (1:Int)+((x.what.toNat % 3:Nat):Int)=((1+x.what.toNat % 3:Nat):Int) by omega,uG (by omega)]; rfl
  have hwl:IntKind.i64.wrap ((out.length:Int)+1)=((out.length+1:Nat):Int):=by rw[bp (by omega) (by omega)]; omega
  have S:=I.step hx hl
  by_cases hw:200<x.who.toNat
  ·have dw:decide ((200:Int)<(x.who.toNat:Int))=true:=dT (by omega)
   have hs:srS x s=aY s:=by rw[srS,if_pos hw]
   rw[if_pos hw,srEv,if_pos hw,hs]at S
   have hl1:out.length+1=(out++[crE]).length:=by simp
   refine qR<|zD ?_;refine rQ iE ?_;refine rC ?_;refine zI<|zQ<|zS ?_;refine zD ?_;refine rQ (aC aa rfl rfl rfl rfl rfl (by omega) hx2) ?_;refine rC ?_;refine rQ iL ?_;refine rQ (jw (a:=x.data.toNat) (s:=2) (m:=x.data.toNat/4) rfl rfl (by decide) rfl) ?_;refine rQ (dV (m:=((x.data.toNat/4:Nat):Int)) aa rfl rfl rfl hw1) ?_;refine rQ (eA (a:=x.data.toNat/4) (b:=3) aa rfl rfl rfl (by decide)) ?_;refine rC<|nR ?_;refine zD ?_;refine rQ (aC aa rfl rfl rfl rfl rfl (by omega) hx2) ?_;refine rC ?_;refine rQ iL ?_;refine rQ (aA (lx x.data) rfl rfl (ak ai) (.inl rfl) (fun _=>rfl)) ?_;refine rN ?_;refine rW<|nR ?_;refine zD ?_;refine rQ (aC aa rfl rfl rfl rfl rfl (by omega) hx2) ?_;refine rC ?_;refine rQ iL ?_;refine rQ (eA (a:=x.what.toNat) (b:=3) aa rfl rfl rfl (by decide)) ?_;refine rQ (ce (m:=((srK x:Nat):Int)) aa rfl rfl hw3) ?_;refine rC ?_;refine rQ iS ?_;refine rN ?_;refine rW<|nQ<|zS ?_;refine zD ?_;refine rQ (aC aa rfl rfl rfl rfl rfl (by omega) hx2) ?_;refine rC ?_;refine rQ iL ?_;refine zD ?_;refine zI<|sR ?_;refine rC ?_;refine rQ (aj.val_le (aR aa rfl rfl rfl rfl) (oF 3 0 0) rfl) ?_;refine bt (aH (s:=38) aa rfl rfl rfl rfl rfl rfl rfl rfl) rfl ?_;refine aS (bG (enc:=cv) (s:=38) (xs:=out) aa crE rfl rfl rfl rfl rfl rfl rfl rfl rfl hal rfl) rfl ?_;refine rC<|nR ?_;refine rQ iM ?_;refine rQ (aA (p5 s (by have:=I.ok.dl; omega) hwe) rfl rfl (ak ai) (.inl rfl) (fun _=>rfl)) ?_;refine rW<|nS<|b8 ?_;refine ya rfl<|dO<|dW<|aL<|ao ?_;refine rC ?_;refine rQ iD ?_;refine rC<|aE ?_
   exact aU (i+1,out++[crE],aY s,last) [(64,some 64),(65,some _)] S (by show l.length-(i+1)<l.length-i; omega) (lg ⟨zE,rfl,zE,rfl,⟨_,rfl,AVLe.of_eq (congrArg (fun n=>AV.own _ 0 n 38 none) hl1)⟩,rfl,zE,rfl,zE,rfl,trivial⟩ ⟨zR,zR,trivial⟩)
  ·have dw:decide ((200:Int)<(x.who.toNat:Int))=false:=dF (by omega)
   have hs:srS x s=(hapR s (srH x)).1:=by rw[srS,if_neg hw]
   have hat:srAt x<3:=by unfold srAt; omega
   have hho:=(I.ok.hap (by decide) (sL x)).1
   have hal2:out.length+2≤1048576:=by omega
   rw[if_neg hw,srEv,if_neg hw,hs]at S
   have hl2:∀a b:HEv,out.length+2=(out++[a,b]).length:=fun a b=>by simp
   rcases rv x with hk | hk | hk
   ·have d2:decide (((srK x:Nat):Int)=2)=false:=dF (by omega)
    have d3:decide (((srK x:Nat):Int)=3)=false:=dF (by omega)
    have d4:decide (((srK x:Nat):Int)=1)=true:=dT (by omega)
    obtain⟨v,hv0⟩:∃v,s.arr[srAt x]?=some v:=⟨_,List.getElem?_eq_getElem (by rw[I.ok.al]; exact hat)⟩
    have hv:s.arr[((srAt x:Nat):Int).toNat]?=some v:=by rw[Int.toNat_natCast]; exact hv0
    have hsv:srV idV x s out.length=v:=by rw[srV,if_pos hk,pgAt,hv]; rfl
    have hop:srOp x=⟨(srK x:Nat),(srAt x:Nat),[]⟩:=by unfold srOp; rw[if_neg (by omega),if_neg (by omega)]
    rw[if_pos hk,hsv]at S
    unfold srH at S hho
    rw[hop]at S hho
    refine qR<|zD ?_;refine rQ iE ?_;refine rC ?_;refine zI<|zQ<|zS ?_;refine zD ?_;refine rQ (aC aa rfl rfl rfl rfl rfl (by omega) hx2) ?_;refine rC ?_;refine rQ iL ?_;refine rQ (jw (a:=x.data.toNat) (s:=2) (m:=x.data.toNat/4) rfl rfl (by decide) rfl) ?_;refine rQ (dV (m:=((x.data.toNat/4:Nat):Int)) aa rfl rfl rfl hw1) ?_;refine rQ (eA (a:=x.data.toNat/4) (b:=3) aa rfl rfl rfl (by decide)) ?_;refine rC<|nR ?_;refine zD ?_;refine rQ (aC aa rfl rfl rfl rfl rfl (by omega) hx2) ?_;refine rC ?_;refine rQ iL ?_;refine rQ (aA (lx x.data) rfl rfl (ak ai) (.inl rfl) (fun _=>rfl)) ?_;refine rN ?_;refine rW<|nR ?_;refine zD ?_;refine rQ (aC aa rfl rfl rfl rfl rfl (by omega) hx2) ?_;refine rC ?_;refine rQ iL ?_;refine rQ (eA (a:=x.what.toNat) (b:=3) aa rfl rfl rfl (by decide)) ?_;refine rQ (ce (m:=((srK x:Nat):Int)) aa rfl rfl hw3) ?_;refine rC ?_;refine rQ iS ?_;refine rN ?_;refine rW<|nQ<|zS ?_;refine zD ?_;refine rQ (aC aa rfl rfl rfl rfl rfl (by omega) hx2) ?_;refine rC ?_;refine rQ iL ?_;refine zD ?_;refine zG<|sR ?_;refine rC ?_;refine rQ iB ?_;refine zD ?_;refine zG<|sR ?_;refine rC ?_;refine rQ iB ?_;refine zD ?_;refine zG<|bg<|zC<|sR ?_;refine zD ?_;refine rQ (aC aa rfl rfl rfl rfl rfl (by omega) hx2) ?_;refine rC ?_;refine rQ iL ?_;refine rQ (eA (a:=x.who.toNat) (b:=8) aa rfl rfl rfl (by decide)) ?_;refine rQ (dV (m:=((x.who.toNat % 8:Nat):Int)) aa rfl rfl rfl hw2) ?_;refine rQ (aj.val_le (aR aa rfl rfl rfl rfl) (oF 2 ((x.who.toNat % 8:Nat):Int) 0) rfl) ?_;refine rN ?_;refine rW<|zW ?_;refine rC ?_;refine rQ iB ?_;refine rC ?_;refine zI<|sR ?_;refine rC ?_;refine rQ iB ?_;refine rC ?_;refine rQ (aC aa rfl rfl rfl rfl rfl (by omega) hv) ?_;refine rQ iL ?_;refine rC ?_;refine rX<|nS<|ao ?_;refine rC ?_;refine rQ (bz aa rfl rfl) ?_;refine rQ (ce (m:=((out.length+1:Nat):Int)) aa rfl rfl hwl) ?_;refine rC<|nR ?_;refine zD ?_;refine rQ iB ?_;refine rQ (aj.val_le (aJ aa rfl rfl rfl rfl) (gn (srK x:Nat) (srAt x:Nat)) rfl) ?_;refine rQ (aj.val_le (aR aa rfl rfl rfl rfl) (oG ⟨(srK x:Nat),(srAt x:Nat),[]⟩ ((x.who.toNat % 8:Nat):Int)) rfl) ?_;refine rQ iM ?_;refine bt (aH (s:=38) aa rfl rfl rfl rfl rfl rfl rfl rfl) rfl ?_;refine aS (jo (enc:=cv) (s:=38) (xs:=out) aa [⟨1,srC x,⟨(srK x:Nat),(srAt x:Nat),[]⟩,zBk,0⟩,⟨2,srC x,zOp,v,0⟩] rfl rfl rfl rfl rfl rfl rfl rfl rfl (fun _ _=>rfl) (by decide) hal2 rfl) rfl ?_;refine rC<|nS<|ao ?_;refine rQ iM ?_;refine rQ (aj.val_le (aJ aa rfl rfl rfl rfl) (gn (srK x:Nat) (srAt x:Nat)) rfl) ?_;refine rQ (aj.val_le (aR aa rfl rfl rfl rfl) (rJ ⟨(srK x:Nat),(srAt x:Nat),[]⟩) rfl) ?_;refine rQ (aA (jX s ⟨0,0,0,⟨(srK x:Nat),(srAt x:Nat),[]⟩,0,0,zBk,0⟩ hho) rfl rfl (ak (ak ai)) (.inl rfl) (fun _=>rfl)) ?_;refine zU ?_;refine rW<|aE<|zC<|ao ?_;refine rC ?_;refine rQ iD ?_;refine rC<|aE ?_
    exact aU (i+1,out++[⟨1,srC x,⟨(srK x:Nat),(srAt x:Nat),[]⟩,zBk,0⟩,⟨2,srC x,zOp,v,0⟩],(hapR s ⟨0,0,0,⟨(srK x:Nat),(srAt x:Nat),[]⟩,0,0,zBk,0⟩).1,((out.length+1:Nat):Int)) [(64,some 64),(65,some _)] S (by show l.length-(i+1)<l.length-i; omega) (lg ⟨zE,rfl,zE,rfl,⟨_,rfl,AVLe.of_eq (congrArg (fun n=>AV.own _ 0 n 38 none) (hl2 _ _))⟩,rfl,zE,rfl,zE,rfl,trivial⟩ ⟨zR,zR,trivial⟩)
   ·have d2:decide (((srK x:Nat):Int)=2)=true:=dT (by omega)
    have d3:decide (((srK x:Nat):Int)=3)=false:=dF (by omega)
    have d4:decide (((srK x:Nat):Int)=1)=false:=dF (by omega)
    have hsv:srV idV x s out.length=zBk:=by rw[srV,if_neg (by omega)]
    have hop:srOp x=⟨(srK x:Nat),(srAt x:Nat),blkS x.data⟩:=by unfold srOp; rw[if_neg (by omega),if_pos hk]
    rw[if_neg (by omega),hsv]at S
    unfold srH at S hho
    rw[hop]at S hho
    refine qR<|zD ?_;refine rQ iE ?_;refine rC ?_;refine zI<|zQ<|zS ?_;refine zD ?_;refine rQ (aC aa rfl rfl rfl rfl rfl (by omega) hx2) ?_;refine rC ?_;refine rQ iL ?_;refine rQ (jw (a:=x.data.toNat) (s:=2) (m:=x.data.toNat/4) rfl rfl (by decide) rfl) ?_;refine rQ (dV (m:=((x.data.toNat/4:Nat):Int)) aa rfl rfl rfl hw1) ?_;refine rQ (eA (a:=x.data.toNat/4) (b:=3) aa rfl rfl rfl (by decide)) ?_;refine rC<|nR ?_;refine zD ?_;refine rQ (aC aa rfl rfl rfl rfl rfl (by omega) hx2) ?_;refine rC ?_;refine rQ iL ?_;refine rQ (aA (lx x.data) rfl rfl (ak ai) (.inl rfl) (fun _=>rfl)) ?_;refine rN ?_;refine rW<|nR ?_;refine zD ?_;refine rQ (aC aa rfl rfl rfl rfl rfl (by omega) hx2) ?_;refine rC ?_;refine rQ iL ?_;refine rQ (eA (a:=x.what.toNat) (b:=3) aa rfl rfl rfl (by decide)) ?_;refine rQ (ce (m:=((srK x:Nat):Int)) aa rfl rfl hw3) ?_;refine rC ?_;refine rQ iS ?_;refine rN ?_;refine rW<|nQ<|zS ?_;refine zD ?_;refine rQ (aC aa rfl rfl rfl rfl rfl (by omega) hx2) ?_;refine rC ?_;refine rQ iL ?_;refine zD ?_;refine zG<|sR ?_;refine rC ?_;refine rQ iB ?_;refine zD ?_;refine zI<|ao ?_;refine mA (env':=[(10,_),(9,_),(8,_),(7,_),(6,_),(5,_),(4,_),(0,_)]) (h':=[(312,some _),(64,some _),(65,some _)]) 224 _ rfl ⟨zE,⟨_,rfl,Frz.ptr⟩,zE,zE,zE,zE,zE,zE,trivial⟩ ⟨⟨rfl,_,rfl,.refl _⟩,⟨rfl,_,rfl,.refl _⟩,⟨rfl,_,rfl,.refl _⟩,trivial⟩ ?_;refine rQ (pQ aa rfl rfl rfl rfl rfl) ?_;refine rC ?_;refine rX<|aE<|zC<|sR ?_;refine zD ?_;refine rQ (aC aa rfl rfl rfl rfl rfl (by omega) hx2) ?_;refine rC ?_;refine rQ iL ?_;refine rQ (eA (a:=x.who.toNat) (b:=8) aa rfl rfl rfl (by decide)) ?_;refine rQ (dV (m:=((x.who.toNat % 8:Nat):Int)) aa rfl rfl rfl hw2) ?_;refine rQ (aj.val_le (aR aa rfl rfl rfl rfl) (oF 2 ((x.who.toNat % 8:Nat):Int) 0) rfl) ?_;refine rN ?_;refine rW<|zW ?_;refine rC ?_;refine rQ iB ?_;refine rC ?_;refine zG<|kS<|sR ?_;refine zD ?_;refine rQ iB ?_;refine rQ iM ?_;refine rQ (aj.val_le (aR aa rfl rfl rfl rfl) (oG ⟨(srK x:Nat),(srAt x:Nat),blkS x.data⟩ ((x.who.toNat % 8:Nat):Int)) rfl) ?_;refine rQ iM ?_;refine bt (aH (s:=38) aa rfl rfl rfl rfl rfl rfl rfl rfl) rfl ?_;refine aS (jo (enc:=cv) (s:=38) (xs:=out) aa [⟨1,srC x,⟨(srK x:Nat),(srAt x:Nat),blkS x.data⟩,zBk,0⟩,⟨2,srC x,zOp,zBk,0⟩] rfl rfl rfl rfl rfl rfl rfl rfl rfl (fun _ _=>rfl) (by decide) hal2 rfl) rfl ?_;refine rC<|nS<|ao ?_;iterate 2 refine rQ iM ?_
    refine rQ (aj.val_le (aR aa rfl rfl rfl rfl) (rJ ⟨(srK x:Nat),(srAt x:Nat),blkS x.data⟩) rfl) ?_;refine rQ (aA (jX s ⟨0,0,0,⟨(srK x:Nat),(srAt x:Nat),blkS x.data⟩,0,0,zBk,0⟩ hho) rfl rfl (ak (ak ai)) (.inl rfl) (fun _=>rfl)) ?_;refine zU ?_;refine rW<|aE<|zC<|ao ?_;refine rC ?_;refine rQ iD ?_;refine rC<|aE ?_
    exact aU (i+1,out++[⟨1,srC x,⟨(srK x:Nat),(srAt x:Nat),blkS x.data⟩,zBk,0⟩,⟨2,srC x,zOp,zBk,0⟩],(hapR s ⟨0,0,0,⟨(srK x:Nat),(srAt x:Nat),blkS x.data⟩,0,0,zBk,0⟩).1,last) [(64,some 64),(65,some _)] S (by show l.length-(i+1)<l.length-i; omega) (lg ⟨zE,rfl,zE,rfl,⟨_,rfl,AVLe.of_eq (congrArg (fun n=>AV.own _ 0 n 38 none) (hl2 _ _))⟩,rfl,zE,rfl,zE,rfl,trivial⟩ ⟨zR,zR,trivial⟩)
   ·have d2:decide (((srK x:Nat):Int)=2)=false:=dF (by omega)
    have d3:decide (((srK x:Nat):Int)=3)=true:=dT (by omega)
    have d4:decide (((srK x:Nat):Int)=1)=false:=dF (by omega)
    have hsv:srV idV x s out.length=zBk:=by rw[srV,if_neg (by omega)]
    have hop:srOp x=⟨(srK x:Nat),0,[]⟩:=by unfold srOp; rw[if_pos hk,if_neg (by omega)]
    rw[if_neg (by omega),hsv]at S
    unfold srH at S hho
    rw[hop]at S hho
    refine qR<|zD ?_;refine rQ iE ?_;refine rC ?_;refine zI<|zQ<|zS ?_;refine zD ?_;refine rQ (aC aa rfl rfl rfl rfl rfl (by omega) hx2) ?_;refine rC ?_;refine rQ iL ?_;refine rQ (jw (a:=x.data.toNat) (s:=2) (m:=x.data.toNat/4) rfl rfl (by decide) rfl) ?_;refine rQ (dV (m:=((x.data.toNat/4:Nat):Int)) aa rfl rfl rfl hw1) ?_;refine rQ (eA (a:=x.data.toNat/4) (b:=3) aa rfl rfl rfl (by decide)) ?_;refine rC<|nR ?_;refine zD ?_;refine rQ (aC aa rfl rfl rfl rfl rfl (by omega) hx2) ?_;refine rC ?_;refine rQ iL ?_;refine rQ (aA (lx x.data) rfl rfl (ak ai) (.inl rfl) (fun _=>rfl)) ?_;refine rN ?_;refine rW<|nR ?_;refine zD ?_;refine rQ (aC aa rfl rfl rfl rfl rfl (by omega) hx2) ?_;refine rC ?_;refine rQ iL ?_;refine rQ (eA (a:=x.what.toNat) (b:=3) aa rfl rfl rfl (by decide)) ?_;refine rQ (ce (m:=((srK x:Nat):Int)) aa rfl rfl hw3) ?_;refine rC ?_;refine rQ iS ?_;refine rN ?_;refine rW<|nQ<|zS ?_;refine zD ?_;refine rQ (aC aa rfl rfl rfl rfl rfl (by omega) hx2) ?_;refine rC ?_;refine rQ iL ?_;refine zD ?_;refine zG<|sR ?_;refine rC ?_;refine rQ iB ?_;refine zD ?_;refine zG<|sR ?_;refine rC ?_;refine rQ iB ?_;refine zD ?_;refine zI<|ao ?_;refine rC ?_;refine rX<|aE<|zC<|sR ?_;refine zD ?_;refine rQ (aC aa rfl rfl rfl rfl rfl (by omega) hx2) ?_;refine rC ?_;refine rQ iL ?_;refine rQ (eA (a:=x.who.toNat) (b:=8) aa rfl rfl rfl (by decide)) ?_;refine rQ (dV (m:=((x.who.toNat % 8:Nat):Int)) aa rfl rfl rfl hw2) ?_;refine rQ (aj.val_le (aR aa rfl rfl rfl rfl) (oF 2 ((x.who.toNat % 8:Nat):Int) 0) rfl) ?_;refine rN ?_;refine rW<|zW ?_;refine rC ?_;refine rQ iB ?_;refine rC ?_;refine zG<|kS<|sR ?_;refine zD ?_;refine rQ iB ?_;refine rQ (aj.val_le (aJ aa rfl rfl rfl rfl) (gn (srK x:Nat) 0) rfl) ?_;refine rQ (aj.val_le (aR aa rfl rfl rfl rfl) (oG ⟨(srK x:Nat),0,[]⟩ ((x.who.toNat % 8:Nat):Int)) rfl) ?_;refine rQ iM ?_;refine bt (aH (s:=38) aa rfl rfl rfl rfl rfl rfl rfl rfl) rfl ?_;refine aS (jo (enc:=cv) (s:=38) (xs:=out) aa [⟨1,srC x,⟨(srK x:Nat),0,[]⟩,zBk,0⟩,⟨2,srC x,zOp,zBk,0⟩] rfl rfl rfl rfl rfl rfl rfl rfl rfl (fun _ _=>rfl) (by decide) hal2 rfl) rfl ?_;refine rC<|nS<|ao ?_;refine rQ iM ?_;refine rQ (aj.val_le (aJ aa rfl rfl rfl rfl) (gn (srK x:Nat) 0) rfl) ?_;refine rQ (aj.val_le (aR aa rfl rfl rfl rfl) (rJ ⟨(srK x:Nat),0,[]⟩) rfl) ?_;refine rQ (aA (jX s ⟨0,0,0,⟨(srK x:Nat),0,[]⟩,0,0,zBk,0⟩ hho) rfl rfl (ak (ak ai)) (.inl rfl) (fun _=>rfl)) ?_;refine zU ?_;refine rW<|aE<|zC<|ao ?_;refine rC ?_;refine rQ iD ?_;refine rC<|aE ?_
    exact aU (i+1,out++[⟨1,srC x,⟨(srK x:Nat),0,[]⟩,zBk,0⟩,⟨2,srC x,zOp,zBk,0⟩],(hapR s ⟨0,0,0,⟨(srK x:Nat),0,[]⟩,0,0,zBk,0⟩).1,last) [(64,some 64),(65,some _)] S (by show l.length-(i+1)<l.length-i; omega) (lg ⟨zE,rfl,zE,rfl,⟨_,rfl,AVLe.of_eq (congrArg (fun n=>AV.own _ 0 n 38 none) (hl2 _ _))⟩,rfl,zE,rfl,zE,rfl,trivial⟩ ⟨zR,zR,trivial⟩)
 ·have d1:decide ((i:Int)<(l.length:Int))=false:=dF (by omega)
  have hil:i=l.length:=by omega
  subst hil
  have hev:=I.ev
  have hla:=I.la
  rw[List.drop_length,srE,List.append_nil]at hev
  rw[List.drop_length,srL]at hla
  subst hev
  rw[←hla]
  refine qR<|zD ?_;refine rQ iE ?_;refine rC ?_;refine zG<|zX<|sR ?_;iterate 4 refine rC ?_
  refine zT ?_
  exact⟨trivial,[(64,some 65)],lg zV ⟨zR,trivial⟩⟩
theorem ym {α:Type} {s:Nat} {enc:α→D} {xs:List α} {n:Nat} (hn:xs.length=n):AVLe (.d (.arr s enc xs)) (.sl n):=by
 subst hn
 intro σ w X u h
 rw[RelV.sl]
 rcases RelV.arr.1 h with ⟨rfl,hu⟩ | ⟨a,c,hu,_⟩
 ·exact⟨none,0,hu⟩
 ·exact⟨some a,c,hu⟩
abbrev gL (h:List HEv):Row :=.ds 63 38 false cv h
theorem dq.sl2 (n:Nat) (a b:Value):dq (.tup (.acons (.sl n) (.acons (.d (.sc a)) (.acons (.d (.sc b)) .anil)))):=⟨fun _ _ _ _ _ _ _ h=>h,fun _=>⟨trivial,trivial,trivial,trivial⟩⟩
theorem dq.sc2 (a b:Value):dq (.tup (.acons (.d (.sc a)) (.acons (.d (.sc b)) .anil))):=⟨fun _ _ _ _ _ _ _ h=>h,fun _=>⟨trivial,trivial,trivial⟩⟩
theorem uL {h:List HEv} {n:Nat} (hn:n=h.length):kV [.own 0 0 n 38 none] [(0,gL h)] [.d (encH h)] []:=
 .freeze (avs':=[.d (encH h)]) (h0':=[]) 0 _ rfl ⟨⟨_,rfl,Frz.own hn⟩,trivial⟩ trivial rfl (.refl _ _)
theorem oN {h:List HEv} {n:Nat} (hn:n=h.length) (a b:D):kV [.own 0 0 n 38 none,.d a,.d b] [(0,gL h)] [.d (encH h),.d a,.d b] []:=
 .freeze (avs':=[.d (encH h),.d a,.d b]) (h0':=[]) 0 _ rfl ⟨⟨_,rfl,Frz.own hn⟩,zE,zE,trivial⟩ trivial rfl (.refl _ _)
theorem oX {x:List XE} (hx:x.length≤60):∃(c:Int) (o:List Int),jq (serH x) 3 200∧ez (serH x) 3 200=(c,0)∧c≤((o.length+bA (serH x):Nat):Int)∧ci (serH x) 3 200=((o,true),0)∧o=zs (List.range o.length)∧(opsR (serH x)).length=o.length∧o.length≤60:=by
 obtain⟨g1,⟨c,_,g2,g3⟩,g4,g5,g6,g7,g8⟩:=u7 (V:=idV) (b:=3) (fuel:=200) (l:=x) (by omega) (by decide) (by decide) (by omega) (by decide)
 have ht:(ci (serH x) 3 200).1.2=true:=by
  rw[show (3:Int)=((3:Nat):Int) from rfl,g6,List.all_eq_true]
  exact fun p _=>dT rfl
 have ho:=g7 ht
 have hl:(zs (List.range (opsR (serH x)).length)).length=(opsR (serH x)).length:=by rw[eN,List.length_range]
 refine⟨c,zs (List.range (opsR (serH x)).length),g1,g3,by rw[hl]; exact g2,?_,by rw[hl],hl.symm,by rw[hl]; have h8:(opsR (serH x)).length≤x.length:=g8; omega⟩
 exact Prod.ext (Prod.ext ho ht) g4
theorem sA {x:List XE} (hx:x.length≤60) {m:Nat} (hm:srL x 0 (-1)=m):∃y,(serH x)[m]?=some y∧y.value.length=32∧(serH x).set m (bmpE y)=serB x m∧jq (serB x m) 3 200∧(ci (serB x m) 3 200).1.2=false∧(ci (serB x m) 3 200).2=0:=by
 obtain⟨v,hv⟩:∃v,(m,v)∈srR x (aN 3) 0:=by
  rcases uV x (aN 3) 0 (-1)with h | ⟨k,v,h1,h2⟩
  ·omega
  ·have:k=m:=by omega
   subst this; exact⟨v,h2⟩
 obtain⟨y,h1,h2,h3⟩:=oS x (aN 3) 0 m v hv
 rw[Nat.sub_zero]at h1 h3
 have hl:v.length=32:=xV x (aN 3) 0 (RSOk.first 3).ap (RSOk.first 3).dp _ hv
 obtain⟨g1,_,g4,_,g6,_⟩:=u7 (V:=bmpV m) (b:=3) (fuel:=200) (l:=x) (by omega) (by decide) (by decide) (by omega) (by decide)
 refine⟨y,h1,by rw[h2]; exact hl,h3,g1,?_,g4⟩
 rw[show (3:Int)=((3:Nat):Int) from rfl,g6]
 refine Bool.eq_false_iff.2 fun h=>?_
 have:=List.all_eq_true.1 h _ hv
 simp only[bmpV,if_true,decide_eq_true_eq]at this
 exact yY hl this
theorem pk (x:List XE):FnIs Try.prog 9 [.d (qK x)] [] (.bool true) []:=by
 refine aG aa Try.func9 rfl rfl rfl ?_
 by_cases h60:60<x.length
 ·have d0:decide ((60:Int)<(x.length:Int))=true:=dT (by omega)
  refine sR<|rC<|zW ?_;refine rC ?_;refine rQ iE ?_;refine rC ?_;refine zI<|sR ?_;refine rQ (aA jd rfl rfl ai (.inl rfl) (fun _=>rfl)) ?_;refine rC<|zT<|bQ ?_
  exact⟨trivial,[],lf⟩
 have d0:decide ((60:Int)<(x.length:Int))=false:=dF (by omega)
 obtain⟨c,o,hR,hst,hc,hfi,ho,hn,hol⟩:=oX (x:=x) (by omega)
 have hser:=tA x (by omega)
 have hlen:(serH x).length≤120:=by have:(serH x).length≤2*x.length:=oT (V:=idV) x (aN 3) 0; omega
 have hops:=FnIs.lend (uL rfl) (dq.sl _) (FnIs.res_le (ym hn) (fun _=>trivial) (wZ (serH x) (by omega)))
 have hera:=FnIs.lend (uL rfl) (dq.sc _) (vk (serH x) (by omega))
 have hsta:=FnIs.lend (oN rfl _ _) (dq.sc2 _ _) (nH hR)
 rw[hst]at hsta
 simp only at hsta
 have hfo:=qI hR
 rw[hfi]at hfo
 simp only at hfo
 have hbu:∀m:Nat,srL x 0 (-1)=m→∃y,(serH x)[m]?=some y∧y.value.length=32∧FnIs Try.prog 22 [.own 0 0 (serH x).length 38 none,.int .i64 3,.int .i64 200] [(0,gL ((serH x).set m (bmpE y)))] (.tup (.acons (.bool false) (.acons (.int .i64 0) .anil))) [(0,gL ((serH x).set m (bmpE y)))]:=fun m hm=>by
  obtain⟨y,g1,g2,g3,g4,g5,g6⟩:=sA (x:=x) (by omega) hm
  have:=FnIs.lend (oN (h:=serB x m) (n:=(serH x).length) (by rw[←g3,List.length_set]) _ _) (dq.sc2 _ _) (qs g4)
  rw[g5,g6]at this
  exact⟨y,g1,g2,by rw[g3]; exact this⟩
 have hcw:IntKind.i64.wrap ((o.length:Int)+(bA (serH x):Int))=((o.length+bA (serH x):Nat):Int):=by
  have:bA (serH x)≤121:=by have:=List.countP_le_length (p:=fun x:HEv=>decide (x.kind=3)) (l:=serH x); unfold bA; omega
  rw[bp (by omega) (by omega)]; omega
 have dc:decide (((o.length+bA (serH x):Nat):Int)<c)=false:=dF (by omega)
 have dn:decide ((o.length:Int)=(o.length:Int))=true:=dT rfl
 clear hR hst hfi hn hc
 generalize bA (serH x)=E at *
 generalize srL x 0 (-1)=la at *
 generalize serH x=h at *
 cases o with
 | nil =>
  have hfo:FnIs Try.prog 23 [.own 0 0 h.length 38 none,.int .i64 3,.int .i64 200] [(0,gL h)] (.tup (.acons (.sl 0) (.acons (.bool true) (.acons (.int .i64 0) .anil)))) [(0,gL h)]:=
   FnIs.lend (oN rfl _ _) (dq.sl2 _ _ _) (FnIs.res_le (AVLe.tup1 (AVLe.sl_arx rfl) rfl) (fun _=>⟨trivial,trivial,trivial,trivial⟩) hfo)
  refine sR<|rC<|zW ?_;refine rC ?_;refine rQ iE ?_;refine rC ?_;refine zG<|kS<|sR ?_;refine rC ?_;refine bt (aQ [] hser rfl rfl rfl (ak ai) trivial rfl rfl (.inl rfl) rfl rfl) rfl ?_
  iterate 5 refine rC ?_
  refine nR<|rC ?_;refine aS (aQ [(0,some 104)] hops rfl rfl rfl (dh rfl rfl ai) ⟨zH,trivial⟩ rfl rfl (.inl rfl) rfl rfl) rfl ?_;refine rC<|nR ?_;refine rC ?_;refine aS (aQ [(0,some 104)] hfo rfl rfl rfl (dh rfl rfl (ak (ak ai))) ⟨zH,trivial⟩ rfl rfl (.inl rfl) rfl rfl) rfl ?_
  iterate 7 refine rC ?_
  refine nR<|rC ?_;refine aS (aQ [(0,some 104)] hsta rfl rfl rfl (dh rfl rfl (ak (ak ai))) ⟨zH,trivial⟩ rfl rfl (.inl rfl) rfl rfl) rfl ?_
  iterate 5 refine rC ?_
  refine zW<|zU ?_;refine rP ?_;refine rC ?_;refine rP ?_;refine rC ?_;refine rQ iG ?_;refine rC ?_;refine rP ?_;refine rC ?_;refine rP ?_;refine rC ?_;refine rQ iG ?_;refine rC ?_;refine rP ?_;refine rC ?_;refine rP ?_;refine rC ?_;refine rP ?_;refine rQ (lc aa rfl rfl) ?_;refine rP ?_;refine rC ?_;refine rP ?_;refine aS (aQ [(0,some 104)] hera rfl rfl rfl (dh rfl rfl ai) ⟨zH,trivial⟩ rfl rfl (.inl rfl) rfl rfl) rfl ?_;refine rP ?_;refine rQ (ce (m:=((([]:List Int).length+E:Nat):Int)) aa rfl rfl hcw) ?_;refine rP ?_;refine rC ?_;refine rQ iG ?_;refine rC ?_;refine rO ?_;refine rC ?_;refine rO ?_;refine rQ (lc aa rfl rfl) ?_;refine rO ?_;refine rC ?_;refine rO ?_;refine rQ (lc aa rfl rfl) ?_;refine rO ?_;refine rC ?_;refine rQ iF ?_;refine zJ<|kS<|qR ?_;refine rC<|zP ?_;refine wM<|qR ?_;refine zD ?_;refine rQ (lc aa rfl rfl) ?_;refine rC ?_;refine zJ<|zX<|qR ?_;refine zD<|nS ?_
  by_cases hla:la<0
  ·have d5:decide (la<0)=true:=dT hla
   refine wT<|sR ?_;refine rQ (aA jd rfl rfl ai (.inl rfl) (fun _=>rfl)) ?_;refine rC<|zT<|bQ ?_
   exact⟨trivial,[],lf⟩
  ·have d5:decide (la<0)=false:=dF hla
   obtain⟨m,hm⟩:∃m:Nat,la=m:=⟨la.toNat,by omega⟩
   obtain⟨y,hy,hyl,hle⟩:=hbu m hm
   subst hm
   have hml:=(List.getElem?_eq_some_iff.1 hy).1
   have hm0:(0:Int)≤(m:Int):=by omega
   have hm1:(m:Int)<(h.length:Int):=by omega
   have hy2:h[((m:Nat):Int).toNat]?=some y:=by rw[Int.toNat_natCast]; exact hy
   have hle2:FnIs Try.prog 22 [.own 0 0 h.length 38 none,.int .i64 3,.int .i64 200] [(0,gL (h.set ((m:Nat):Int).toNat (bmpE y)))] (.tup (.acons (.bool false) (.acons (.int .i64 0) .anil))) [(0,gL (h.set ((m:Nat):Int).toNat (bmpE y)))]:=by rw[Int.toNat_natCast]; exact hle
   obtain⟨u,hu⟩:∃u,y.value[31]?=some u:=⟨_,List.getElem?_eq_getElem (by omega)⟩
   have hu2:(byI y.value)[((31:Int)).toNat]?=some ((u.toNat:Nat):Int):=l9 hu
   have huw:IntKind.u8.wrap ((u.toNat:Int)+1)=(((u+1).toNat:Nat):Int):=by
    rw[show (u.toNat:Int)+1=((u.toNat+1:Nat):Int) by omega,jt,show UInt8.ofNat (u.toNat+1)=u+1 from UInt8.toNat_inj.1 (by rw[UInt8.toNat_add]; simp)]
   have hset:(byI y.value).set ((31:Int)).toNat (((u+1).toNat:Nat):Int)=byI (bmp y.value):=by
    unfold byI bmp
    rw[hu,←List.map_set]; rfl
   refine wG<|zQ ?_;refine aw (by kernel_rfl) ?_;refine dC [3] [] ?_;refine dC [4] [] ?_;refine dQ [75,76] [] (aP aa rfl rfl rfl rfl rfl hm0 hm1) ?_;refine dC [77] [] ?_;refine dQ [78] [] (ay aa (fun K hk=>⟨by omega,by omega,hk⟩)) ?_;refine dQ [79] [104] (bf (v :=.int .u8 ((u.toNat:Nat):Int)) aa rfl rfl ⟨rfl,y,hy2,_,⟨rfl,_,hu2,rfl⟩,rfl⟩ rfl) ?_;refine dQ [80] [] (ce (m:=(((u+1).toNat:Nat):Int)) aa rfl rfl huw) ?_;refine dQ [75,76] [] (aP aa rfl rfl rfl rfl rfl hm0 hm1) ?_;refine dC [82] [] ?_;refine dQ [83] [] (ay aa (fun K hk=>⟨by omega,by omega,hk⟩)) ?_;refine br [84,81] [104] (aK aa rfl rfl rfl ⟨rfl,y,bmpE y,hy2,⟨_,⟨rfl,_,_,hu2,⟨rfl,rfl,rfl⟩,congrArg (D.vec 32 1 cD) hset.symm⟩,rfl⟩,rfl⟩ rfl) ?_;refine am (by kernel_rfl)<|aL<|sR ?_;refine rC ?_;refine aS (aQ [(0,some 104)] hle2 rfl rfl rfl (dh rfl rfl (ak (ak ai))) ⟨zH,trivial⟩ rfl rfl (.inl rfl) rfl rfl) rfl ?_
   iterate 5 refine rC ?_
   refine nR<|zU ?_;refine rP ?_;refine rC ?_;refine rP ?_;refine rC ?_;refine rQ iU ?_;refine rC ?_;refine rP ?_;refine rQ (aA jd rfl rfl ai (.inl rfl) (fun _=>rfl)) ?_;refine rQ iU ?_;refine rC<|zT ?_
   exact⟨trivial,[],lf⟩
 | cons a0 o0 =>
  generalize hoo:a0::o0=o at *
  have dn2:(!decide ((o.length:Int)=(o.length:Int)))=false:=by rw[dn]; rfl
  have hfo:FnIs Try.prog 23 [.own 0 0 h.length 38 none,.int .i64 3,.int .i64 200] [(0,gL h)] (.tup (.acons (.own 64 0 o.length 1 (some o.length)) (.acons (.bool true) (.acons (.int .i64 0) .anil)))) [(64,zRow o),(0,gL h)]:=by
   subst hoo
   exact FnIs.lend_new (oN rfl _ _) (pF.ints rfl ⟨(show (64:Nat)<72 by decide),trivial,trivial,trivial⟩) hfo
  refine sR<|rC<|zW ?_;refine rC ?_;refine rQ iE ?_;refine rC ?_;refine zG<|kS<|sR ?_;refine rC ?_;refine bt (aQ [] hser rfl rfl rfl (ak ai) trivial rfl rfl (.inl rfl) rfl rfl) rfl ?_
  iterate 5 refine rC ?_
  refine nR<|rC ?_;refine aS (aQ [(0,some 104)] hops rfl rfl rfl (dh rfl rfl ai) ⟨zH,trivial⟩ rfl rfl (.inl rfl) rfl rfl) rfl ?_;refine rC<|nR ?_;refine rC ?_;refine bF rfl (aQ [(0,some 104)] hfo rfl rfl rfl (dh rfl rfl (ak (ak ai))) ⟨zH,trivial⟩ rfl rfl (.inl rfl) rfl rfl) rfl rfl ?_
  iterate 7 refine rC ?_
  refine nR<|rC ?_;refine aS (aQ [(0,some 104)] hsta rfl rfl rfl (dh rfl rfl (ak (ak ai))) ⟨zH,trivial⟩ rfl rfl (.inl rfl) rfl rfl) rfl ?_
  iterate 5 refine rC ?_
  refine zW<|zU ?_;refine rP ?_;refine rC ?_;refine rP ?_;refine rC ?_;refine rQ iG ?_;refine rC ?_;refine rP ?_;refine rC ?_;refine rP ?_;refine rC ?_;refine rQ iG ?_;refine rC ?_;refine rP ?_;refine rC ?_;refine rP ?_;refine rC ?_;refine rP ?_;refine rQ (lc aa rfl rfl) ?_;refine rP ?_;refine rC ?_;refine rP ?_;refine aS (aQ [(0,some 104)] hera rfl rfl rfl (dh rfl rfl ai) ⟨zH,trivial⟩ rfl rfl (.inl rfl) rfl rfl) rfl ?_;refine rP ?_;refine rQ (ce (m:=((o.length+E:Nat):Int)) aa rfl rfl hcw) ?_;refine rP ?_;refine rC ?_;refine rQ iG ?_;refine rC ?_;refine rO ?_;refine rC ?_;refine rO ?_;refine rQ (bz aa rfl rfl) ?_;refine rO ?_;refine rC ?_;refine rO ?_;refine rQ (lc aa rfl rfl) ?_;refine rO ?_;refine rC ?_;refine rQ iF ?_;refine zG<|kS<|qR ?_;refine rC<|zP ?_
  refine wc_inv (fun k:Nat=>⟨[(11,.int .i64 k),(6,.own 66 0 o.length 1 (some o.length)),(4,.int .i64 la),(3,.own 65 0 h.length 38 none)],[(65,some (gL h)),(66,some (zRow o))],72,Try.f9.ntmps,64⟩) (fun k=>k≤o.length) (fun k=>o.length-k) 0 [(65,some 104),(66,some 184)] (Nat.zero_le _)
   (lg zi ⟨zR,zR,trivial⟩) ?_
  intro k hk
  refine cf ?_
  by_cases hlt:k<o.length
  ·have d1:decide ((k:Int)<(o.length:Int))=true:=dT (by omega)
   have dk:(!decide ((k:Int)=(k:Int)))=false:=by rw[dT (rfl:(k:Int)=k)]; rfl
   have hk1:o[((k:Nat):Int).toNat]?=some (k:Int):=by
    rw[Int.toNat_natCast]
    have h1:(zs (List.range o.length))[k]?=some (k:Int):=by rw[zs,List.getElem?_map,List.getElem?_range hlt]; rfl
    rwa [←ho]at h1
   refine qR<|zD ?_;refine rQ (bz aa rfl rfl) ?_;refine rC ?_;refine zI<|zQ<|zS ?_;refine zD ?_;refine rQ (aP aa rfl rfl rfl rfl rfl (by omega) (by omega)) ?_;refine rQ (bf aa rfl rfl ⟨rfl,_,hk1,_,rfl,rfl⟩ rfl) ?_;refine zD ?_;refine zG<|bg<|zC<|ao ?_;refine rC ?_;refine rQ iD ?_;refine rC<|aE ?_
   exact aU (k+1) [(65,some 65),(66,some 66)] hlt (by show o.length-(k+1)<o.length-k; omega) (lg zi ⟨zR,zR,trivial⟩)
  ·have d1:decide ((k:Int)<(o.length:Int))=false:=dF (by omega)
   refine qR<|zD ?_;refine rQ (bz aa rfl rfl) ?_;refine rC ?_;refine zG<|zX<|qR ?_;refine zD<|nS ?_
   by_cases hla:la<0
   ·have d5:decide (la<0)=true:=dT hla
    refine wT<|sR ?_;refine rQ (aA jd rfl rfl ai (.inl rfl) (fun _=>rfl)) ?_;refine rC<|zT<|bQ ?_
    exact⟨trivial,[],lf⟩
   ·have d5:decide (la<0)=false:=dF hla
    obtain⟨m,hm⟩:∃m:Nat,la=m:=⟨la.toNat,by omega⟩
    obtain⟨y,hy,hyl,hle⟩:=hbu m hm
    subst hm
    have hml:=(List.getElem?_eq_some_iff.1 hy).1
    have hm0:(0:Int)≤(m:Int):=by omega
    have hm1:(m:Int)<(h.length:Int):=by omega
    have hy2:h[((m:Nat):Int).toNat]?=some y:=by rw[Int.toNat_natCast]; exact hy
    have hle2:FnIs Try.prog 22 [.own 0 0 h.length 38 none,.int .i64 3,.int .i64 200] [(0,gL (h.set ((m:Nat):Int).toNat (bmpE y)))] (.tup (.acons (.bool false) (.acons (.int .i64 0) .anil))) [(0,gL (h.set ((m:Nat):Int).toNat (bmpE y)))]:=by rw[Int.toNat_natCast]; exact hle
    obtain⟨u,hu⟩:∃u,y.value[31]?=some u:=⟨_,List.getElem?_eq_getElem (by omega)⟩
    have hu2:(byI y.value)[((31:Int)).toNat]?=some ((u.toNat:Nat):Int):=l9 hu
    have huw:IntKind.u8.wrap ((u.toNat:Int)+1)=(((u+1).toNat:Nat):Int):=by
     rw[show (u.toNat:Int)+1=((u.toNat+1:Nat):Int) by omega,jt,show UInt8.ofNat (u.toNat+1)=u+1 from UInt8.toNat_inj.1 (by rw[UInt8.toNat_add]; simp)]
    have hset:(byI y.value).set ((31:Int)).toNat (((u+1).toNat:Nat):Int)=byI (bmp y.value):=by
     unfold byI bmp
     rw[hu,←List.map_set]; rfl
    refine wG<|zQ ?_;refine aw (by kernel_rfl) ?_;refine dC [3] [] ?_;refine dC [4] [] ?_;refine dQ [75,76] [] (aP aa rfl rfl rfl rfl rfl hm0 hm1) ?_;refine dC [77] [] ?_;refine dQ [78] [] (ay aa (fun K hk=>⟨by omega,by omega,hk⟩)) ?_;refine dQ [79] [65] (bf (v :=.int .u8 ((u.toNat:Nat):Int)) aa rfl rfl ⟨rfl,y,hy2,_,⟨rfl,_,hu2,rfl⟩,rfl⟩ rfl) ?_;refine dQ [80] [] (ce (m:=(((u+1).toNat:Nat):Int)) aa rfl rfl huw) ?_;refine dQ [75,76] [] (aP aa rfl rfl rfl rfl rfl hm0 hm1) ?_;refine dC [82] [] ?_;refine dQ [83] [] (ay aa (fun K hk=>⟨by omega,by omega,hk⟩)) ?_;refine br [84,81] [65] (aK aa rfl rfl rfl ⟨rfl,y,bmpE y,hy2,⟨_,⟨rfl,_,_,hu2,⟨rfl,rfl,rfl⟩,congrArg (D.vec 32 1 cD) hset.symm⟩,rfl⟩,rfl⟩ rfl) ?_;refine am (by kernel_rfl)<|aL<|sR ?_;refine rC ?_;refine aS (aQ [(0,some 65)] hle2 rfl rfl rfl (dh rfl rfl (ak (ak ai))) ⟨zH,trivial⟩ rfl rfl (.inl rfl) rfl rfl) rfl ?_
    iterate 5 refine rC ?_
    refine nR<|zU ?_;refine rP ?_;refine rC ?_;refine rP ?_;refine rC ?_;refine rQ iU ?_;refine rC ?_;refine rP ?_;refine rQ (aA jd rfl rfl ai (.inl rfl) (fun _=>rfl)) ?_;refine rQ iU ?_;refine rC<|zT ?_
    exact⟨trivial,[],lf⟩
end Go.Proofs.Ytkehohfgbblokaa
namespace Go.Proofs.Ytkehohfgbblokaa
open Go.Eng Go.Plain
set_option maxHeartbeats 32000000
set_option maxRecDepth 20000
theorem yp {a:Int} (h:(Lit.int .u8 a).wf=true):0≤a∧a≤255:=by
 simp[Lit.wf,IntKind.min,IntKind.max,IntKind.bits,IntKind.signed]at h
 omega
def toB (l:List Int):List UInt8:=l.map fun z=>z.toNat.toUInt8
theorem oL {a:Int} (h:(Lit.int .u8 a).wf=true):((a.toNat.toUInt8.toNat:Nat):Int)=a:=by
 obtain⟨h1,h2⟩:=yp h
 simp only[Nat.toUInt8_eq,UInt8.toNat_ofNat']
 omega
theorem xj:iN Try.prog 74 3 qL fun _=>True :=
 iN.map (pd (P:=Try.prog) Try.underlying74 (by kernel_rfl) (fun _=>rfl) (iZ rfl (by kernel_rfl) (kZ (P:=Try.prog) Try.underlying5) (iZ rfl (by kernel_rfl) (kZ (P:=Try.prog) Try.underlying5) (iZ rfl (by kernel_rfl) (kZ (P:=Try.prog) Try.underlying5) rK))))
  (fun q=>⟨q.1.toNat.toUInt8,q.2.1.toNat.toUInt8,q.2.2.1.toNat.toUInt8⟩) (fun q h=>by simp only[qL,oL h.1,oL h.2.1,oL h.2.2.1]) (fun _ _=>trivial)
theorem vH:iN Try.prog 36 1 (fun l:List XE=>.arr 3 qL l) fun _=>True :=
 iN.map (qf (P:=Try.prog) Try.underlying36 (by kernel_rfl) xj) id (fun _ _=>rfl) (fun _ _=>trivial)
end Go.Proofs.Ytkehohfgbblokaa
