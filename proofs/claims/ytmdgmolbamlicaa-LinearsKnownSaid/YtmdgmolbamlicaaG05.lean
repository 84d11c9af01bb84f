/- Texts of the proof: Y20, YP, Eng106, Eng107, Y21, Eng111, YG, YG2, Eng104, Eng105, Y22, Y23, Eng108, Y24, YS, YS2, Eng109. -/
import Derived.Test.YtmdgmolbamlicaaG04
import Derived.Test.YtmdgmolbamlicaaG02
import Derived.Test.YtmdgmolbamlicaaG03

set_option linter.unusedVariables false
set_option linter.unusedSimpArgs false
set_option linter.unusedSectionVars false
set_option maxRecDepth 10000

namespace Go.Proofs.Ytmdgmolbamlicaa
open Go.Eng Go.Plain
set_option maxHeartbeats 32000000
set_option maxRecDepth 20000
attribute [local irreducible] WC RegS RegD SeqQ BlkQ ScoQ RegK CutK Sat SatN FnIs LoopQ ab OpIs
theorem Fq {x y:D} (h:DLe x y) (hg:x.isAgg=y.isAgg):AVLe (.d x) (.d y):=by
 intro σ w X u hu
 unfold RelV at hu ⊢
 by_cases hy:y.isAgg=true
 ·rw[if_pos (show (AV.d x).isAgg=true from hg.trans hy)]at hu
  rw[if_pos (show (AV.d y).isAgg=true from hy)]
  obtain⟨c,rfl,hc⟩:=hu
  exact⟨c,rfl,h _ _ _ hc⟩
 ·rw[if_neg (show ¬(AV.d x).isAgg=true from fun e=>hy (hg.symm.trans e))]at hu
  rw[if_neg (show ¬(AV.d y).isAgg=true from hy)]
  exact h _ _ _ hu
theorem lh:fb Try.prog 28 (encL []):=by
 obtain⟨i,z,h1,h2,h3⟩:=yk
 exact⟨i,z,h1,h2,fun σ w X=>Fq (DLe.nil_arr 1 i6) rfl σ w X z (h3 σ w X)⟩
abbrev oRow (o:List aF):Row :=.ds 113 2 false qO o
abbrev xEnv (z:List Int) (k:Nat) (o:List aF):Env:=[(21,.int .i64 k),(20,.int .i64 z.length),(19,.d (encL z)),(0,.ptr 0 []),(3,.ptr 64 []),(5,.own 65 0 o.length 2 none)]
abbrev CA (l:List HOp) (b e:Int) (p:Prep) (sp:List (List aF)) (x:LSt) (a:QS×List aF):List (Nat×Row):=(64,.box 105 (.d (bQ x)))::(cg l b e p sp a.1 66++[(65,oRow a.2)])
theorem uY {p:Prep} {l:List HOp} {x:LSt} {z:List Int} {k:Nat} {i:Int} {a:QS×List aF} (h:z[k]?=some i):da p l x (z.drop k) k a=da p l x (z.drop (k+1)) (k+1) (opS p l x k i a):=by
 rw[List.drop_eq_getElem_cons (List.getElem?_eq_some_iff.1 h).1,(List.getElem?_eq_some_iff.1 h).2]
 rfl
theorem An (l:List HOp) (b:Int) (e:Nat) (p:Prep) (sp:List (List aF)) (q:QS) (x:LSt) (P:POk l e p) (S:SOk p e x) (hS:∀y∈q.2,SOk p e y) (he:e≤1048576) (hq:q.2.length+8200≤1048576):FnIs Try.prog 41 [.ptr 0 [],.d (bQ x)] (cg l b e p sp q 9) (.own 65 0 (cC p l e x q).2.length 2 none) (cg l b e p sp (cC p l e x q).1 64++[(65,oRow (cC p l e x q).2)]):=by
 obtain⟨e0,e1⟩:=S.era
 obtain⟨n,hn⟩:∃n:Nat,x.era=n:=⟨x.era.toNat,by omega⟩
 have hne:n<e:=by omega
 have hzm:=P.zm hne
 obtain⟨z,hzd⟩:∃z,z=zOf p x.era:=⟨_,rfl⟩
 have hz:p.ops[x.era.toNat]?=some z:=by rw[hn,Int.toNat_natCast,hzd,hn]; exact P.z hne
 have hkl:x.era.toNat<p.ops.length:=(List.getElem?_eq_some_iff.1 hz).1
 rw[←hn]at hzm
 rw[←hzd]at hzm
 have hzl:=P.zl z hzm
 have htl:x.taken.length=z.length:=by rw[S.tk,hzd]
 refine aq aa Try.func41 rfl rfl rfl ?_;refine z17 ?_;refine dQ [14] [0] iM ?_;refine z1 ?_;refine dQ [16] [64] iB ?_;refine z1 ?_;refine dQ [18] [3] (aX (v :=.d (encL z)) aa rfl rfl ⟨rfl,z,hz,encL z,rfl,rfl⟩ rfl) ?_;refine z5 ?_
 refine wc_inv (fun s:Nat×(QS×List aF)=>⟨xEnv z s.1 s.2.2,aw (CA l b e p sp x s.2),72,Try.f41.ntmps,64⟩) (fun s=>s.1≤z.length∧da p l x (z.drop s.1) s.1 s.2=da p l x z 0 (q,[])∧s.2.1.2.length≤q.2.length+s.1∧s.2.2.length≤s.1) (fun s=>z.length-s.1) (0,(q,[])) [(64,some 64),(65,none),(66,some 9)] ⟨Nat.zero_le _,rfl,Nat.le_refl _,Nat.le_refl _⟩
  (lg zg ⟨zR,zR,zM,zM,zR,zM,zM,zM,zM,zM,zR,zR,⟨rfl,rfl,rfl⟩,trivial⟩) ?_
 rintro⟨k,a⟩ ⟨hk,hinv,hql,hol⟩
 simp only at hk hinv hql hol
 refine bt ?_
 show WC _ _ _ _ (xEnv z k a.2) (aw (CA l b e p sp x a)) _
 by_cases hkz:k<z.length
 ·have d1:decide ((k:Int)<(z.length:Int))=true:=dT (by omega)
  obtain⟨i,hi⟩:∃i,z[k]?=some i:=⟨_,List.getElem?_eq_getElem hkz⟩
  have hi2:z[((k:Int)).toNat]?=some i:=by rw[Int.toNat_natCast]; exact hi
  have him:=List.mem_of_getElem? hi
  obtain⟨hi0,o,ho,hO⟩:=P.row z hzm i him
  have hli:l[i.toNat]?=some o:=ho
  have hopi:opN l i.toNat=o:=by rw[opN,ho]; rfl
  rw[uY hi]at hinv
  have htk:=CB x k (by omega) (by rw[htl]; omega)
  have haf:=Bb ((getA p.af i).getD []) 70 x (tkB x.taken) (by have:=P.afl z hzm i him; omega) (fun j hj=>CB x j (P.af z hzm i him j hj).1 (by rw[htl]; exact (P.af z hzm i him j hj).2))
  have hah:=Bb ((getA p.ah i).getD []) 71 x (msB x.taken) (by have:=P.ahl z hzm i him; omega) (fun j hj=>Fc x j (P.ah z hzm i him j hj).1 (by rw[htl]; exact (P.ah z hzm i him j hj).2))
  cases hsk:im p x k i with
  | true =>
   have hopS:opS p l x k i a=a:=by rw[opS,if_pos hsk]
   rw[hopS]at hinv
   unfold im at hsk
   cases hst:(getA p.st i).getD false with
   | true =>
    refine z40 ?_;refine rQ (dq (κ:=Int) (ν:=Bool) (enc:=i6) (encV:=ef) (m:=p.st) hst keyI Try.underlying78 ia rfl rfl rfl) ?_;refine z36 ?_
    exact an (k+1,a) [(64,some 64),(65,some 65),(66,some 66)] ⟨hkz,hinv,by simp only; omega,by simp only; omega⟩ (by simp only; omega) (lg zg ⟨zR,zR,zM,zM,zR,zM,zM,zM,zM,zM,zR,zR,zR,trivial⟩)
   | false =>
    rw[hst,Bool.false_or]at hsk
    cases hb1:tkB x.taken k with
    | true =>
     rw[hb1]at htk
     refine z40 ?_;refine rQ (dq (κ:=Int) (ν:=Bool) (enc:=i6) (encV:=ef) (m:=p.st) hst keyI Try.underlying78 ia rfl rfl rfl) ?_;refine z6 ?_;refine aC (aS [(0,some 64)] htk rfl rfl rfl (aE (aT rfl rfl au)) ⟨zH,trivial⟩ rfl rfl (.inl rfl) rfl rfl) rfl ?_;refine z32 ?_
     exact an (k+1,a) [(64,some 64),(65,some 65),(66,some 66)] ⟨hkz,hinv,by simp only; omega,by simp only; omega⟩ (by simp only; omega) (lg zg ⟨zR,zR,zM,zM,zR,zM,zM,zM,zM,zM,zR,zR,zR,trivial⟩)
    | false =>
     rw[hb1,Bool.false_or]at hsk
     rw[hb1]at htk
     cases hb2:((getA p.af i).getD []).any (tkB x.taken) with
     | true =>
      rw[hb2]at haf
      refine z40 ?_;refine rQ (dq (κ:=Int) (ν:=Bool) (enc:=i6) (encV:=ef) (m:=p.st) hst keyI Try.underlying78 ia rfl rfl rfl) ?_;refine z6 ?_;refine aC (aS [(0,some 64)] htk rfl rfl rfl (aE (aT rfl rfl au)) ⟨zH,trivial⟩ rfl rfl (.inl rfl) rfl rfl) rfl ?_;refine z13 ?_;refine rQ (gi (κ:=Int) (ν:=List Int) (enc:=i6) (encV:=encL) (m:=p.af) (k:=i) [] keyI Try.underlying77 lh rfl rfl rfl) ?_;refine z3 ?_;refine aC (aS [(0,some 64)] haf rfl rfl rfl (aE (cU rfl rfl au)) ⟨zH,trivial⟩ rfl rfl (.inl rfl) rfl rfl) rfl ?_;refine z22 ?_
      exact an (k+1,a) [(64,some 64),(65,some 65),(66,some 66)] ⟨hkz,hinv,by simp only; omega,by simp only; omega⟩ (by simp only; omega) (lg zg ⟨zR,zR,zM,zM,zR,zM,zM,zM,zM,zM,zR,zR,zR,trivial⟩)
     | false =>
      rw[hb2,Bool.false_or]at hsk
      rw[hb2]at haf
      rw[hsk]at hah
      refine z40 ?_;refine rQ (dq (κ:=Int) (ν:=Bool) (enc:=i6) (encV:=ef) (m:=p.st) hst keyI Try.underlying78 ia rfl rfl rfl) ?_;refine z6 ?_;refine aC (aS [(0,some 64)] htk rfl rfl rfl (aE (aT rfl rfl au)) ⟨zH,trivial⟩ rfl rfl (.inl rfl) rfl rfl) rfl ?_;refine z13 ?_;refine rQ (gi (κ:=Int) (ν:=List Int) (enc:=i6) (encV:=encL) (m:=p.af) (k:=i) [] keyI Try.underlying77 lh rfl rfl rfl) ?_;refine z3 ?_;refine aC (aS [(0,some 64)] haf rfl rfl rfl (aE (cU rfl rfl au)) ⟨zH,trivial⟩ rfl rfl (.inl rfl) rfl rfl) rfl ?_;refine z13 ?_;refine rQ (gi (κ:=Int) (ν:=List Int) (enc:=i6) (encV:=encL) (m:=p.ah) (k:=i) [] keyI Try.underlying77 lh rfl rfl rfl) ?_;refine z3 ?_;refine aC (aS [(0,some 64)] hah rfl rfl rfl (aE (cU rfl rfl au)) ⟨zH,trivial⟩ rfl rfl (.inl rfl) rfl rfl) rfl ?_;refine z12 ?_
      exact an (k+1,a) [(64,some 64),(65,some 65),(66,some 66)] ⟨hkz,hinv,by simp only; omega,by simp only; omega⟩ (by simp only; omega) (lg zg ⟨zR,zR,zM,zM,zR,zM,zM,zM,zM,zM,zR,zR,zR,trivial⟩)
  | false =>
   have hsk2:=hsk
   unfold im at hsk
   simp only[Bool.or_eq_false_iff]at hsk
   obtain⟨hst,hb1,hb2,hb3⟩:=hsk
   rw[hb1]at htk
   rw[hb2]at haf
   rw[hb3]at hah
   have hap:=Dr l b e p sp a.1 x o P S hO
   cases hf:(hapS p x o).2 with
   | false =>
    have hopS:opS p l x k i a=a:=by rw[opS,if_neg (by rw[hsk2]; decide),hopi,if_neg (by rw[hf]; decide)]
    rw[hopS]at hinv
    rw[hf]at hap
    refine z40 ?_;refine rQ (dq (κ:=Int) (ν:=Bool) (enc:=i6) (encV:=ef) (m:=p.st) hst keyI Try.underlying78 ia rfl rfl rfl) ?_;refine z6 ?_;refine aC (aS [(0,some 64)] htk rfl rfl rfl (aE (aT rfl rfl au)) ⟨zH,trivial⟩ rfl rfl (.inl rfl) rfl rfl) rfl ?_;refine z13 ?_;refine rQ (gi (κ:=Int) (ν:=List Int) (enc:=i6) (encV:=encL) (m:=p.af) (k:=i) [] keyI Try.underlying77 lh rfl rfl rfl) ?_;refine z3 ?_;refine aC (aS [(0,some 64)] haf rfl rfl rfl (aE (cU rfl rfl au)) ⟨zH,trivial⟩ rfl rfl (.inl rfl) rfl rfl) rfl ?_;refine z13 ?_;refine rQ (gi (κ:=Int) (ν:=List Int) (enc:=i6) (encV:=encL) (m:=p.ah) (k:=i) [] keyI Try.underlying77 lh rfl rfl rfl) ?_;refine z3 ?_;refine aC (aS [(0,some 64)] hah rfl rfl rfl (aE (cU rfl rfl au)) ⟨zH,trivial⟩ rfl rfl (.inl rfl) rfl rfl) rfl ?_;refine z9 ?_;refine dQ [3] [64] iM ?_;refine z3 ?_;refine dQ [64] [0] iM ?_;refine z3 ?_;refine cT [60,61,68] [0,1,2,3,4,5,6,7,8,66,10] rfl (.plain (aS [(0,some 0),(1,some 1),(2,some 2),(3,some 3),(4,some 4),(5,some 5),(6,some 6),(7,some 7),(8,some 8),(9,some 66),(10,some 10)] hap rfl rfl rfl (aT rfl rfl (aE (aE au))) ⟨zH,zN,zN,zH,zN,zN,zN,zN,zN,zH,zH,trivial⟩ rfl rfl (.inl rfl) rfl rfl)) rfl rfl ?_;refine z3 ?_;refine c9 [] [] rfl (bD aa (fun K hk=>hk)) ?_;refine bj [10,70] [504] (aG aa rfl rfl rfl ⟨_,⟨rfl,rfl,rfl⟩,rfl⟩ rfl) ?_;refine z19 ?_
    exact an (k+1,a) [(64,some 64),(65,some 65),(66,some 66)] ⟨hkz,hinv,by simp only; omega,by simp only; omega⟩ (by simp only; omega) (lg zg ⟨zR,zR,zM,zM,zR,zM,zM,zM,zM,zM,zR,zR,zR,trivial⟩)
   | true =>
    obtain⟨y,hy⟩:∃y,y = { (hapS p x o).1 with taken:=il x.taken k }:=⟨_,rfl⟩
    have hopS:opS p l x k i a=((addS a.1 y).1,a.2++[⟨i,(addS a.1 y).2⟩]):=by rw[opS,if_neg (by rw[hsk2]; decide),hopi,if_pos hf,hy]
    rw[hopS]at hinv
    rw[hf]at hap
    have hlS:a.1.2.length+1≤1048576:=by omega
    have hlO:a.2.length+1≤1048576:=by omega
    have had:FnIs Try.prog 39 [.ptr 0 [],.d (bQ { (hapS p x o).1 with taken:=il x.taken k })] (cg l b e p sp a.1 9) (.int .i64 (addS a.1 y).2) (cg l b e p sp (addS a.1 y).1 64):=by subst hy; exact sq l b e p sp a.1 _ hlS
    have hwk:IntKind.i64.wrap ((k:Int)+1)=((k+1:Nat):Int):=by rw[aH (by omega) (by omega)]; omega
    refine z40 ?_;refine rQ (dq (κ:=Int) (ν:=Bool) (enc:=i6) (encV:=ef) (m:=p.st) hst keyI Try.underlying78 ia rfl rfl rfl) ?_;refine z6 ?_;refine aC (aS [(0,some 64)] htk rfl rfl rfl (aE (aT rfl rfl au)) ⟨zH,trivial⟩ rfl rfl (.inl rfl) rfl rfl) rfl ?_;refine z13 ?_;refine rQ (gi (κ:=Int) (ν:=List Int) (enc:=i6) (encV:=encL) (m:=p.af) (k:=i) [] keyI Try.underlying77 lh rfl rfl rfl) ?_;refine z3 ?_;refine aC (aS [(0,some 64)] haf rfl rfl rfl (aE (cU rfl rfl au)) ⟨zH,trivial⟩ rfl rfl (.inl rfl) rfl rfl) rfl ?_;refine z13 ?_;refine rQ (gi (κ:=Int) (ν:=List Int) (enc:=i6) (encV:=encL) (m:=p.ah) (k:=i) [] keyI Try.underlying77 lh rfl rfl rfl) ?_;refine z3 ?_;refine aC (aS [(0,some 64)] hah rfl rfl rfl (aE (cU rfl rfl au)) ⟨zH,trivial⟩ rfl rfl (.inl rfl) rfl rfl) rfl ?_;refine z9 ?_;refine dQ [3] [64] iM ?_;refine z3 ?_;refine dQ [64] [0] iM ?_;refine z3 ?_;refine cT [60,61,68] [0,1,2,3,4,5,6,7,8,66,10] rfl (.plain (aS [(0,some 0),(1,some 1),(2,some 2),(3,some 3),(4,some 4),(5,some 5),(6,some 6),(7,some 7),(8,some 8),(9,some 66),(10,some 10)] hap rfl rfl rfl (aT rfl rfl (aE (aE au))) ⟨zH,zN,zN,zH,zN,zN,zN,zN,zN,zH,zH,trivial⟩ rfl rfl (.inl rfl) rfl rfl)) rfl rfl ?_;refine z3 ?_;refine c9 [] [] rfl (bD aa (fun K hk=>hk)) ?_;refine bj [10,70] [504] (aG aa rfl rfl rfl ⟨_,⟨rfl,rfl,rfl⟩,rfl⟩ rfl) ?_;refine z16 ?_;refine dQ [74] [64] iB ?_;refine z1 ?_;refine yA (yy (hi:=k) (m:=x.taken.take k) aa rfl rfl rfl (by omega) rfl) ?_;refine yA (og (m:=x.taken.take k++[1]) rfl rfl (by simp; omega) rfl) ?_;refine z1 ?_;refine dQ [79] [64] iB ?_;refine z1 ?_;refine yA (bM (m:=((k+1:Nat):Int)) aa rfl rfl hwk) ?_;refine yA (sB (lo:=k+1) (m:=x.taken.drop (k+1)) aa rfl rfl rfl (by omega) rfl) ?_;refine yA (og (m:=il x.taken k) rfl rfl (by simp; omega) rfl) ?_;refine z1 ?_;refine bj [85,84] [504] (aG aa rfl rfl rfl ⟨_,⟨_,⟨_,⟨rfl,rfl,rfl⟩,rfl⟩,rfl⟩,rfl⟩ rfl) ?_;refine z7 ?_;refine bE rfl (aS [(0,some 0),(1,some 1),(2,some 2),(3,some 3),(4,some 4),(5,some 5),(6,some 6),(7,some 7),(8,some 8),(9,some 66),(10,some 10)] had rfl rfl rfl (aT rfl rfl (aE au)) ⟨zH,zN,zN,zH,zN,zN,zN,zN,zN,zH,zH,trivial⟩ rfl rfl (.inl rfl) rfl rfl) rfl rfl ?_;refine z1 ?_;refine aO (ae aa rfl rfl rfl rfl rfl rfl rfl rfl) rfl ?_;refine aC (aJ (s:=2) (enc:=qO) (xs:=a.2) aa (⟨i,(addS a.1 y).2⟩:aF) rfl rfl rfl rfl rfl rfl rfl rfl rfl hlO rfl) rfl ?_;refine z8 ?_
    exact an (k+1,((addS a.1 y).1,a.2++[⟨i,(addS a.1 y).2⟩])) [(64,some 64),(65,some 704),(66,some 680)] ⟨hkz,hinv,by have:=mD a.1 y; simp only; omega,by simp only[List.length_append,List.length_singleton]; omega⟩ (by simp only; omega) (lg ⟨zE,rfl,zE,rfl,zE,rfl,zE,rfl,zE,rfl,⟨_,rfl,AVLe.of_eq (by simp only[List.length_append,List.length_singleton]; rfl)⟩,rfl,trivial⟩ ⟨zR,zR,zM,zM,zR,zM,zM,zM,zM,zM,zR,zR,zR,trivial⟩)
 ·have d1:decide ((k:Int)<(z.length:Int))=false:=dF (by omega)
  obtain rfl:k=z.length:=by omega
  rw[List.drop_length]at hinv
  have hnx:cC p l e x q=ny p l e x a:=by rw[cC,←hzd,←hinv]; rfl
  rw[hnx]
  have hwe:IntKind.i64.wrap (x.era+1)=x.era+1:=aH (by omega) (by omega)
  unfold ny
  cases d2:decide (x.era+1<(e:Int)) with
  | false =>
   rw[if_neg (by decide)]
   refine z16 ?_;refine dQ [95] [64] iB ?_;refine yA (bM (m:=x.era+1) aa rfl rfl hwe) ?_;refine z3 ?_;refine dQ [100] [0] iM ?_;refine z18 ?_
   exact⟨trivial,[(64,some 66),(65,some 65)],lg zV ⟨zR,zM,zM,zR,zM,zM,zM,zM,zM,zR,zR,zR,trivial⟩⟩
  | true =>
   rw[if_pos rfl]
   have hfu:=pv l b e p sp a.1 x P S
   cases hf:jH l p.lo (zOf p x.era) x with
   | false =>
    rw[if_neg (by decide)]
    rw[hf]at hfu
    refine z16 ?_;refine dQ [95] [64] iB ?_;refine yA (bM (m:=x.era+1) aa rfl rfl hwe) ?_;refine z3 ?_;refine dQ [100] [0] iM ?_;refine z3 ?_;refine aD [103,3] [64] rfl rfl (by assumption) rfl (ay aa rfl rfl rfl rfl) ?_;refine cT [103,104,105] [0,1,2,3,4,5,6,7,8,66,10] rfl (.on rfl rfl d2 (aS [(0,some 0),(1,some 1),(2,some 2),(3,some 3),(4,some 4),(5,some 5),(6,some 6),(7,some 7),(8,some 8),(9,some 66),(10,some 10)] hfu rfl rfl rfl (aT rfl rfl (aE au)) ⟨zH,zN,zN,zH,zN,zN,zN,zN,zN,zH,zH,trivial⟩ rfl rfl (.inl rfl) rfl rfl)) rfl rfl ?_;refine z13 ?_
    exact⟨trivial,[(64,some 66),(65,some 65)],lg zV ⟨zR,zM,zM,zR,zM,zM,zM,zM,zM,zR,zR,zR,trivial⟩⟩
   | true =>
    rw[if_pos rfl]
    rw[hf]at hfu
    have hlt:=of_decide_eq_true d2
    obtain⟨y,hy⟩:∃y:LSt,y=⟨x.era+1,cQ (zOf p (x.era+1)).length,x.durable,x.durable⟩:=⟨_,rfl⟩
    have hno:=s5 l b e p sp a.1 P (n+1) (by omega)
    have hn1:((n+1:Nat):Int)=x.era+1:=by omega
    rw[hn1]at hno
    have hlS:a.1.2.length+1≤1048576:=by omega
    have hlO:a.2.length+1≤1048576:=by omega
    have had:FnIs Try.prog 39 [.ptr 0 [],.d (bQ ⟨x.era+1,cQ (zOf p (x.era+1)).length,x.durable,x.durable⟩)] (cg l b e p sp a.1 9) (.int .i64 (addS a.1 y).2) (cg l b e p sp (addS a.1 y).1 64):=by subst hy; exact sq l b e p sp a.1 _ hlS
    rw[←hy]
    refine z16 ?_;refine dQ [95] [64] iB ?_;refine yA (bM (m:=x.era+1) aa rfl rfl hwe) ?_;refine z3 ?_;refine dQ [100] [0] iM ?_;refine z3 ?_;refine aD [103,3] [64] rfl rfl (by assumption) rfl (ay aa rfl rfl rfl rfl) ?_;refine cT [103,104,105] [0,1,2,3,4,5,6,7,8,66,10] rfl (.on rfl rfl d2 (aS [(0,some 0),(1,some 1),(2,some 2),(3,some 3),(4,some 4),(5,some 5),(6,some 6),(7,some 7),(8,some 8),(9,some 66),(10,some 10)] hfu rfl rfl rfl (aT rfl rfl (aE au)) ⟨zH,zN,zN,zH,zN,zN,zN,zN,zN,zH,zH,trivial⟩ rfl rfl (.inl rfl) rfl rfl)) rfl rfl ?_;refine z8 ?_;refine dQ [110] [64] iB ?_;refine yA (bM (m:=x.era+1) aa rfl rfl hwe) ?_;refine z2 ?_;refine dQ [114] [64] iB ?_;refine yA (bM (m:=x.era+1) aa rfl rfl hwe) ?_;refine cT [113,116] [0,1,2,3,4,5,6,7,8,66,10] rfl (.plain (aS [(0,some 0),(1,some 1),(2,some 2),(3,some 3),(4,some 4),(5,some 5),(6,some 6),(7,some 7),(8,some 8),(9,some 66),(10,some 10)] hno rfl rfl rfl (aT rfl rfl (aE au)) ⟨zH,zN,zN,zH,zN,zN,zN,zN,zN,zH,zH,trivial⟩ rfl rfl (.inl rfl) rfl rfl)) rfl rfl ?_;refine z1 ?_;refine dQ [118] [64] iB ?_;refine z1 ?_;refine dQ [120] [64] iB ?_;refine z1 ?_;refine cT [109,122] [0,1,2,3,4,5,6,7,8,66,10] rfl (.plain (aS [(0,some 0),(1,some 1),(2,some 2),(3,some 3),(4,some 4),(5,some 5),(6,some 6),(7,some 7),(8,some 8),(9,some 66),(10,some 10)] had rfl rfl rfl (aT rfl rfl (aE au)) ⟨zH,zN,zN,zH,zN,zN,zN,zN,zN,zH,zH,trivial⟩ rfl rfl (.inl rfl) rfl rfl)) rfl rfl ?_;refine z1 ?_;refine c9 [124] [] rfl (ae aa rfl rfl rfl rfl rfl rfl rfl rfl) ?_;refine jv [108,125] [65,320] rfl (aJ (s:=2) (enc:=qO) (xs:=a.2) aa (⟨-1,(addS a.1 y).2⟩:aF) rfl rfl rfl rfl rfl rfl rfl rfl rfl hlO rfl) ?_;refine z10 ?_
    exact⟨trivial,[(64,some 304),(65,some 328)],lg ⟨⟨_,rfl,AVLe.of_eq (by simp only[List.length_append,List.length_singleton]; rfl)⟩,rfl,trivial⟩ ⟨zR,zM,zM,zR,zM,zM,zM,zM,zM,zR,zR,zR,trivial⟩⟩
theorem BV (l:List HOp) (b:Int) (e:Nat) (p:Prep) (sp:List (List aF)) (q:QS) (x:LSt) (P:POk l e p) (S:SOk p e x) (hS:∀y∈q.2,SOk p e y) (he:e≤1048576) (hq:q.2.length+8200≤1048576):FnIs Try.prog 41 [.ptr 0 [],.d (bQ x)] (cg l b e p sp q 9) (.d (cF (cC p l e x q).2)) (cg l b e p sp (cC p l e x q).1 64):=
 (An l b e p sp q x P S hS he hq).freeze_out 65 _ rfl (Frz.own rfl) ⟨zF,zF,zF,zF,zF,zF,zF,zF,zF,zF,zF,trivial⟩
end Go.Proofs.Ytmdgmolbamlicaa
namespace Go.Proofs.Ytmdgmolbamlicaa
open Go.Eng Go.Plain
set_option maxHeartbeats 32000000
set_option maxRecDepth 20000
section
variable {κ : Type} [DecidableEq κ]
def dH:List κ→Nat→List (κ×Int)
 | [],_=>[]
 | k::ks,i=>(k,(i:Int))::dH ks (i+1)
def addK (ks:List κ) (k:κ):List κ:=if k∈ks then ks else ks++[k]
theorem ff:∀(ks:List κ) (i:Nat),(dH ks i).length=ks.length
 | [],_=>rfl
 | _::ks,i=>by simp[dH,ff ks]
theorem jt {k:κ}:∀(ks:List κ) (i:Nat),k ∉ ks→getA (dH ks i) k=none
 | [],_,_=>rfl
 | a::ks,i,h=>by
  simp only[List.mem_cons,not_or]at h
  simp only[dH,getA,if_neg h.1]
  exact jt ks (i+1) h.2
theorem e9 {k:κ}:∀(ks:List κ) (i:Nat),k∈ks→∃j,ks[j]?=some k∧(∀j',j'<j→ks[j']?≠some k)∧getA (dH ks i) k=some ((i+j:Nat):Int)
 | [],_,h=>by cases h
 | a::ks,i,h=>by
  by_cases e:k=a
  ·subst e
   exact⟨0,rfl,fun j' h=>by omega,by simp[dH,getA]⟩
  ·obtain⟨j,h1,h2,h3⟩:=e9 ks (i+1) (by rcases List.mem_cons.1 h with h | h; exact absurd h e; exact h)
   refine⟨j+1,by simpa using h1,fun j' hj'=>?_,?_⟩
   ·cases j' with
    | zero=>simp; exact fun e'=>e e'.symm
    | succ j'=>simpa using h2 j' (by omega)
   ·simp only[dH,getA,if_neg e]
    rw[h3]; congr 1; omega
theorem mY {k:κ}:∀(ks:List κ) (i:Nat),k ∉ ks→putA (dH ks i) k ((i+ks.length:Nat):Int)=dH (ks++[k]) i
 | [],i,_=>by simp[dH,putA]
 | a::ks,i,h=>by
  simp only[List.mem_cons,not_or]at h
  have:=mY ks (i+1) h.2
  simp only[dH,putA,if_neg h.1,List.cons_append,List.length_cons]
  rw[←this]
  congr 3
  omega
theorem pP {ks:List κ} (k:κ) (h:ks.Nodup):(addK ks k).Nodup:=by
 unfold addK
 split
 ·exact h
 ·rename_i hn
  exact List.nodup_append.2 ⟨h,by simp,fun a ha b hb=>by simp at hb; subst hb; exact fun e=>hn (e ▸ ha)⟩
theorem mF {ks:List κ} {k a:κ}:a∈addK ks k↔a∈ks∨a=k:=by
 unfold addK
 split
 ·rename_i h; exact⟨.inl,fun h'=>h'.elim id (fun e=>e ▸ h)⟩
 ·simp
theorem uc (ks:List κ) (k:κ):ks.length≤(addK ks k).length∧(addK ks k).length≤ks.length+1:=by
 unfold addK
 split <;> simp
end
theorem xE {ks:List Int} {o:HOp}:numP (dH ks 0) o=dH (if o.op.kind=3 then ks else addK ks o.op.index) 0:=by
 unfold numP addK
 split
 ·rfl
 ·by_cases h:o.op.index∈ks
  ·obtain⟨j,_,_,h3⟩:=e9 ks 0 h
   rw[h3,if_pos h]
  ·rw[jt ks 0 h,if_neg h,←mY ks 0 h,ff]
   simp
theorem xD {ks:List (List UInt8)} {o:HOp}:numV (dH ks 0) o=dH (if o.op.kind=3 then ks else addK ks (numB o)) 0:=by
 unfold numV addK
 split
 ·rfl
 ·by_cases h:numB o∈ks
  ·obtain⟨j,_,_,h3⟩:=e9 ks 0 h
   rw[h3,if_pos h]
  ·rw[jt ks 0 h,if_neg h,←mY ks 0 h,ff]
   simp
def keyP (l:List HOp) (idx:List Nat) (ks:List Int):List Int:=idx.foldl (fun ks i=>if (opN l i).op.kind=3 then ks else addK ks (opN l i).op.index) ks
def keyV (l:List HOp) (idx:List Nat) (ks:List (List UInt8)):List (List UInt8):=idx.foldl (fun ks i=>if (opN l i).op.kind=3 then ks else addK ks (numB (opN l i))) ks
theorem nw (l:List HOp):∀(idx:List Nat) (ks:List Int) (vs:List (List UInt8)),cE l idx (dH ks 0,dH vs 0)=(dH (keyP l idx ks) 0,dH (keyV l idx vs) 0)
 | [],_,_=>rfl
 | i::idx,ks,vs=>by
  show cE l idx (numP (dH ks 0) (opN l i),numV (dH vs 0) (opN l i))=_
  rw[xE,xD,nw l idx]
  rfl
theorem tm (l:List HOp):∀(idx:List Nat) (ks:List Int),ks.Nodup→(keyP l idx ks).Nodup∧(∀k∈ks,k∈keyP l idx ks)∧(∀i∈idx,(opN l i).op.kind≠3→(opN l i).op.index∈keyP l idx ks)∧(keyP l idx ks).length≤ks.length+idx.length
 | [],ks,h=>⟨h,fun _ h=>h,(fun _ h=>by cases h),Nat.le_refl _⟩
 | i::idx,ks,h=>by
  have h0:(if (opN l i).op.kind=3 then ks else addK ks (opN l i).op.index).Nodup:=by split; exact h; exact pP _ h
  obtain⟨h1,h2,h3,h4⟩:=tm l idx _ h0
  refine⟨h1,fun k hk=>h2 k (by split; exact hk; exact mF.2 (.inl hk)),fun j hj hk=>?_,?_⟩
  ·rcases List.mem_cons.1 hj with rfl | hj
   ·exact h2 _ (by rw[if_neg hk]; exact mF.2 (.inr rfl))
   ·exact h3 j hj hk
  ·refine Nat.le_trans h4 ?_
   have:=uc ks (opN l i).op.index
   rw[List.length_cons]
   split <;> omega
theorem tj (l:List HOp):∀(idx:List Nat) (ks:List (List UInt8)),ks.Nodup→(keyV l idx ks).Nodup∧(∀k∈ks,k∈keyV l idx ks)∧(∀i∈idx,(opN l i).op.kind≠3→numB (opN l i)∈keyV l idx ks)∧(keyV l idx ks).length≤ks.length+idx.length∧(∀k0:List UInt8,ks[0]?=some k0→(keyV l idx ks)[0]?=some k0)
 | [],ks,h=>⟨h,fun _ h=>h,(fun _ h=>by cases h),Nat.le_refl _,fun _ h=>h⟩
 | i::idx,ks,h=>by
  have h0:(if (opN l i).op.kind=3 then ks else addK ks (numB (opN l i))).Nodup:=by split; exact h; exact pP _ h
  obtain⟨h1,h2,h3,h4,h5⟩:=tj l idx _ h0
  refine⟨h1,fun k hk=>h2 k (by split; exact hk; exact mF.2 (.inl hk)),fun j hj hk=>?_,?_,fun k0 hk0=>h5 k0 ?_⟩
  ·rcases List.mem_cons.1 hj with rfl | hj
   ·exact h2 _ (by rw[if_neg hk]; exact mF.2 (.inr rfl))
   ·exact h3 j hj hk
  ·refine Nat.le_trans h4 ?_
   have:=uc ks (numB (opN l i))
   rw[List.length_cons]
   split <;> omega
  ·split
   ·exact hk0
   ·unfold addK
    split
    ·exact hk0
    ·rw[List.getElem?_append_left (List.getElem?_eq_some_iff.1 hk0).1]; exact hk0
theorem oF (p:HOp→Bool):∀(l:List HOp) (i:Nat),(selI p l i).length=l.countP p
 | [],_=>rfl
 | o::l,i=>by
  unfold selI
  rw[List.countP_cons]
  split
  ·rename_i h; rw[List.length_cons,oF p l]
  ·rename_i h; rw[oF p l]; rfl
theorem oD {p:HOp→Bool} {x:Nat}:∀(l:List HOp) (i:Nat),x∈selI p l i↔i≤x∧∃o,l[x-i]?=some o∧p o=true
 | [],i=>by simp[selI]
 | o::l,i=>by
  have ih:=oD (p:=p) (x:=x) l (i+1)
  have key:(i≤x∧∃o',(o::l)[x-i]?=some o'∧p o'=true)↔(x=i∧p o=true)∨(i+1≤x∧∃o',l[x-(i+1)]?=some o'∧p o'=true):=by
   by_cases e:x=i
   ·subst e
    simp
    omega
   ·constructor
    ·rintro⟨h,o',h1,h2⟩
     refine .inr ⟨by omega,o',?_,h2⟩
     rwa [show x-i=(x-(i+1))+1 by omega,List.getElem?_cons_succ]at h1
    ·rintro (⟨h,_⟩ | ⟨h,o',h1,h2⟩)
     ·exact absurd h e
     ·refine⟨by omega,o',?_,h2⟩
      rwa [show x-i=(x-(i+1))+1 by omega,List.getElem?_cons_succ]
  rw[key]
  unfold selI
  split
  ·rename_i h
   rw[List.mem_cons,ih]
   constructor
   ·rintro (h' | h'); exact .inl ⟨h',h⟩; exact .inr h'
   ·rintro (⟨h',_⟩ | h'); exact .inl h'; exact .inr h'
  ·rename_i h
   rw[ih]
   constructor
   ·exact .inr
   ·rintro (⟨_,h'⟩ | h'); exact absurd h' h; exact h'
theorem df {l:List HOp} {b:Int} {k i:Nat}:i∈mayI l b k ↔ ∃o,l[i]?=some o∧o.era=(k:Int)∧mayB o b=true:=by
 rw[mayI,oD]
 simp only[Nat.zero_le,true_and,Nat.sub_zero,eraB,Bool.and_eq_true,decide_eq_true_eq]
theorem mz {l:List HOp} {b:Int} {k i:Nat}:i∈badI l b k ↔ ∃o,l[i]?=some o∧o.era=(k:Int)∧bf o=true∧mayB o b=false:=by
 rw[badI,oD]
 simp only[Nat.zero_le,true_and,Nat.sub_zero,eraB,Bool.and_eq_true,decide_eq_true_eq,Bool.not_eq_true',and_assoc]
def sumM (l:List HOp) (b:Int):Nat→Nat
 | 0=>0
 | k+1=>sumM l b k+(mayI l b k).length
theorem vO (l:List HOp) (b:Int):∀e,sumM l b e≤l.countP fun o=>decide (o.era<(e:Int))
 | 0=>Nat.zero_le _
 | k+1=>by
  have ih:=vO l b k
  have h1:(mayI l b k).length≤l.countP fun o=>decide (o.era=(k:Int)):=by
   rw[mayI,oF]
   exact List.countP_mono_left fun o _ h=>by
    simp only[eraB,Bool.and_eq_true]at h
    exact h.1
  have h2:∀l:List HOp,(l.countP fun o=>decide (o.era<(k:Int)))+(l.countP fun o=>decide (o.era=(k:Int)))=l.countP fun o=>decide (o.era<((k+1:Nat):Int)):=by
   intro l
   induction l with
   | nil=>rfl
   | cons o l ih =>
    simp only[List.countP_cons,decide_eq_true_eq]
    rw[←ih]
    by_cases h1:o.era<(k:Int)
    ·rw[if_pos h1,if_neg (by omega),if_pos (by omega)]; omega
    ·by_cases h2:o.era=(k:Int)
     ·rw[if_neg h1,if_pos h2,if_pos (by omega)]; omega
     ·rw[if_neg h1,if_neg h2,if_neg (by omega)]; omega
  have:=h2 l
  unfold sumM
  omega
theorem oz (l:List HOp) (b:Int) (e:Nat):sumM l b e≤l.length:=Nat.le_trans (vO l b e) List.countP_le_length
theorem iN {κ ν:Type} [DecidableEq κ] (k:κ) (v:ν) (i:κ):∀(l:List (κ×ν)),getA (putA l k v) i=if i=k then some v else getA l i
 | []=>by by_cases h:i=k <;> simp[putA,getA,h]
 | (k',v')::l=>by
  by_cases h:k=k'
  ·subst h
   by_cases h2:i=k <;> simp[putA,getA,h2]
  ·have ih:=iN k v i l
   simp only[putA,if_neg h,getA]
   by_cases h2:i=k'
   ·have:¬i=k:=fun e=>h (e.symm.trans h2)
    rw[if_pos h2,if_neg this,if_pos h2]
   ·rw[if_neg h2,ih,if_neg h2]
theorem jn {m:cD} {i i':Int} (hne:i'≠i) (c:List Int):getA (addL m i c) i'=getA m i':=by
 cases c with
 | nil=>rfl
 | cons c cs =>
  unfold addL
  induction m with
  | nil=>simp[getA,hne]
  | cons q m ih =>
   obtain⟨k,v⟩:=q
   simp only[List.cons_append,getA]
   split
   ·rfl
   ·exact ih
theorem pq {m:cD} {i:Int} (h:getA m i=none) (c:List Int):(getA (addL m i c) i).getD []=c:=by
 cases c with
 | nil=>rw[addL,h]; rfl
 | cons c cs =>
  unfold addL
  induction m with
  | nil=>simp[getA]
  | cons q m ih =>
   obtain⟨k,v⟩:=q
   simp only[getA]at h
   split at h
   ·cases h
   ·rename_i hne
    simp only[List.cons_append,getA,if_neg hne]
    exact ih h
theorem oW (l:List HOp) (M:List Nat):∀(idx:List Nat) (q:cD×cD) (i:Nat),idx.Nodup→(∀j∈idx,getA q.1 (j:Int)=none∧getA q.2 (j:Int)=none) →
  (i∈idx→(getA (eN l M idx q).1 (i:Int)).getD []=posN (afB l i) M M.length∧(getA (eN l M idx q).2 (i:Int)).getD []=posN (ahB l i) M M.length) ∧
  (i ∉ idx→getA (eN l M idx q).1 (i:Int)=getA q.1 (i:Int)∧getA (eN l M idx q).2 (i:Int)=getA q.2 (i:Int))
 | [],q,i,_,_=>⟨fun h=>(by cases h),fun _=>⟨rfl,rfl⟩⟩
 | x::idx,q,i,hn,hf=>by
  obtain⟨hx,hn⟩:=List.nodup_cons.1 hn
  have hne:∀j∈idx,(j:Int)≠(x:Int):=fun j hj e=>hx ((show j=x by omega) ▸ hj)
  have hf':∀j∈idx,getA (ordF l M q x).1 (j:Int)=none∧getA (ordF l M q x).2 (j:Int)=none:=fun j hj=>by
   have:=hf j (List.mem_cons_of_mem _ hj)
   exact⟨by rw[ordF,jn (hne j hj)]; exact this.1,by rw[ordF,jn (hne j hj)]; exact this.2⟩
  obtain⟨h1,h2⟩:=oW l M idx (ordF l M q x) i hn hf'
  refine⟨fun hi=>?_,fun hi=>?_⟩
  ·rcases List.mem_cons.1 hi with rfl | hi
   ·obtain⟨h3,h4⟩:=h2 hx
    have h5:=hf i List.mem_cons_self
    show (getA (eN l M idx (ordF l M q i)).1 _).getD []=_∧(getA (eN l M idx (ordF l M q i)).2 _).getD []=_
    rw[h3,h4]
    exact⟨pq h5.1 _,pq h5.2 _⟩
   ·exact h1 hi
  ·simp only[List.mem_cons,not_or]at hi
   obtain⟨h3,h4⟩:=h2 hi.2
   have hxi:(i:Int)≠(x:Int):=fun e=>hi.1 (by omega)
   show getA (eN l M idx (ordF l M q x)).1 _=_∧getA (eN l M idx (ordF l M q x)).2 _=_
   rw[h3,h4,ordF]
   exact⟨jn hxi _,jn hxi _⟩
theorem vQ (l:List HOp) (x:Nat):∀(M:List Nat) (s:dO) (i:Nat),(getA (M.foldl (stF l x) s) (i:Int)).getD false=((getA s (i:Int)).getD false||(decide (i∈M)&&befB (opN l x) (opN l i)))
 | [],s,i=>by simp
 | m::M,s,i=>by
  rw[List.foldl_cons,vQ l x M _ i]
  unfold stF
  rw[iN]
  by_cases e:i=m
  ·subst e
   rw[if_pos rfl]
   simp only[Option.getD_some,List.mem_cons,true_or,decide_true,Bool.true_and]
   cases (getA s (i:Int)).getD false <;> cases befB (opN l x) (opN l i) <;> simp
  ·rw[if_neg (by omega)]
   simp only[List.mem_cons,e,false_or]
theorem pL (l:List HOp) (M:List Nat) (k:Nat):∀(idx:List Nat) (q:dO×dO) (i:Int) (j:Nat),
  (getA (db l M k idx q).1 i).getD false=((getA q.1 i).getD false||(decide (i=(k:Int)) && !idx.isEmpty)) ∧
  (getA (db l M k idx q).2 (j:Int)).getD false=((getA q.2 (j:Int)).getD false||(decide (j∈M)&&idx.any fun x=>befB (opN l x) (opN l j)))
 | [],q,i,j=>by simp[db]
 | x::idx,q,i,j=>by
  obtain⟨h1,h2⟩:=pL l M k idx (badF l M k q x) i j
  show (getA (db l M k idx (badF l M k q x)).1 i).getD false=_∧(getA (db l M k idx (badF l M k q x)).2 (j:Int)).getD false=_
  rw[h1,h2,badF]
  simp only
  rw[iN,vQ]
  constructor
  ·by_cases e:i=(k:Int)
   ·simp[e]
   ·simp[e]
  ·simp only[List.any_cons]
   cases (getA q.2 (j:Int)).getD false <;> cases decide (j∈M) <;> cases befB (opN l x) (opN l j) <;> simp
structure gJ (l:List HOp) (b:Int) (e:Nat) (p:Prep) (ks:List Int) (kv:List (List UInt8)):Prop where
 ops:p.ops.length=e
 opk:∀k,k<e→p.ops[k]?=some (zs (mayI l b k))
 pl:p.pl=dH ks 0
 vs:p.vs=dH kv 0
 knd:ks.Nodup
 vnd:kv.Nodup
 vz:kv[0]?=some zBk
 kl:ks.length≤sumM l b e
 vl:kv.length≤sumM l b e+1
 kin:∀k,k<e→∀i∈mayI l b k,(opN l i).op.kind≠3→(opN l i).op.index∈ks∧numB (opN l i)∈kv
 af:∀k,k<e→∀i∈mayI l b k,(getA p.af (i:Int)).getD []=posN (afB l i) (mayI l b k) (mayI l b k).length
 ah:∀k,k<e→∀i∈mayI l b k,(getA p.ah (i:Int)).getD []=posN (ahB l i) (mayI l b k) (mayI l b k).length
 lo:∀k:Nat,(getA p.lo (k:Int)).getD false=(decide (k<e) && !(badI l b k).isEmpty)
 st:∀k,k<e→∀i∈mayI l b k,(getA p.st (i:Int)).getD false=(badI l b k).any fun x=>befB (opN l x) (opN l i)
 fresh:∀(i:Nat) (o:HOp),l[i]?=some o→(e:Int)≤o.era→getA p.af (i:Int)=none∧getA p.ah (i:Int)=none∧(getA p.st (i:Int)).getD false=false
theorem u6 (l:List HOp) (b:Int) (k:Nat):(mayI l b k).Nodup:=lO l 0
theorem dP (l:List HOp) (b:Int):∀e,∃ks vs,gJ l b e (cn l b e) ks vs
 | 0=>⟨[],[zBk],rfl,fun k h=>by omega,rfl,rfl,List.nodup_nil,by simp,rfl,Nat.le_refl _,Nat.le_refl _,fun k h=>by omega,fun k h=>by omega,fun k h=>by omega,fun k=>by simp[cn,lZ,getA],fun k h=>by omega,fun _ _ _ _=>⟨rfl,rfl,rfl⟩⟩
 | e+1=>by
  obtain⟨ks,vs,F⟩:=dP l b e
  have hK:=tm l (mayI l b e) ks F.knd
  have hV:=tj l (mayI l b e) vs F.vnd
  have hN:=nw l (mayI l b e) ks vs
  have hfr:∀j∈mayI l b e,getA (cn l b e).af (j:Int)=none∧getA (cn l b e).ah (j:Int)=none:=fun j hj=>by
   obtain⟨o,h1,h2,_⟩:=df.1 hj
   have:=F.fresh j o h1 (by omega)
   exact⟨this.1,this.2.1⟩
  have hO:=fun i=>oW l (mayI l b e) (mayI l b e) ((cn l b e).af,(cn l b e).ah) i (u6 l b e) hfr
  have hB:=fun i j=>pL l (mayI l b e) e (badI l b e) ((cn l b e).lo,(cn l b e).st) i j
  have hdis:∀k,k<e→∀i∈mayI l b k,i ∉ mayI l b e:=fun k hk i hi hi'=>by
   obtain⟨o,h1,h2,_⟩:=df.1 hi
   obtain⟨o',h1',h2',_⟩:=df.1 hi'
   rw[h1]at h1'
   cases h1'
   omega
  refine⟨keyP l (mayI l b e) ks,keyV l (mayI l b e) vs,?_,fun k hk=>?_,?_,?_,hK.1,hV.1,hV.2.2.2.2 _ F.vz,?_,?_,fun k hk i hi h3=>?_,fun k hk i hi=>?_,fun k hk i hi=>?_,fun k=>?_,fun k hk i hi=>?_,fun i o hi hle=>?_⟩
  ·simp[cn,eraP,F.ops]
  ·show ((cn l b e).ops++[zs (mayI l b e)])[k]?=_
   by_cases h:k<e
   ·rw[List.getElem?_append_left (by rw[F.ops]; exact h),F.opk k h]
   ·have:k=e:=by omega
    subst this
    rw[List.getElem?_append_right (by rw[F.ops]; exact Nat.le_refl _),F.ops,Nat.sub_self]; rfl
  ·show (cE l (mayI l b e) ((cn l b e).pl,(cn l b e).vs)).1=_
   rw[F.pl,F.vs,hN]
  ·show (cE l (mayI l b e) ((cn l b e).pl,(cn l b e).vs)).2=_
   rw[F.pl,F.vs,hN]
  ·have:=hK.2.2.2; have:=F.kl; unfold sumM; omega
  ·have:=hV.2.2.2.1; have:=F.vl; unfold sumM; omega
  ·by_cases h:k<e
   ·have:=F.kin k h i hi h3
    exact⟨hK.2.1 _ this.1,hV.2.1 _ this.2⟩
   ·have:k=e:=by omega
    subst this
    exact⟨hK.2.2.1 i hi h3,hV.2.2.1 i hi h3⟩
  ·by_cases h:k<e
   ·exact (congrArg (·.getD []) ((hO i).2 (hdis k h i hi)).1).trans (F.af k h i hi)
   ·have:k=e:=by omega
    subst this
    exact ((hO i).1 hi).1
  ·by_cases h:k<e
   ·exact (congrArg (·.getD []) ((hO i).2 (hdis k h i hi)).2).trans (F.ah k h i hi)
   ·have:k=e:=by omega
    subst this
    exact ((hO i).1 hi).2
  ·refine (hB k 0).1.trans ?_
   simp only
   rw[F.lo]
   by_cases h:k=e
   ·subst h
    simp
   ·have h2:decide (((k:Nat):Int)=(e:Int))=false:=dF (by omega)
    rw[h2]
    by_cases h3:k<e
    ·rw[dT h3,dT (by omega:k<e+1)]; simp
    ·rw[dF h3,dF (by omega:¬k<e+1)]; simp
  ·refine (hB 0 i).2.trans ?_
   simp only
   by_cases h:k<e
   ·rw[F.st k h i hi,dF (hdis k h i hi)]; simp
   ·have:k=e:=by omega
    subst this
    obtain⟨o,h1,h2,_⟩:=df.1 hi
    rw[(F.fresh i o h1 (by omega)).2.2,dT hi]; simp
  ·have hni:i ∉ mayI l b e:=fun h=>by
    obtain⟨o',h1,h2,_⟩:=df.1 h
    rw[hi]at h1
    cases h1
    omega
   have h4:=F.fresh i o hi (by omega)
   refine⟨((hO i).2 hni).1.trans h4.1,((hO i).2 hni).2.trans h4.2.1,?_⟩
   refine (hB 0 i).2.trans ?_
   simp only
   rw[h4.2.2,dF hni]; simp
theorem jS {p:Nat→Bool} {M:List Nat} {j:Int}:∀s,j∈posN p M s ↔ ∃k:Nat,j=k∧k<s∧p ((M[k]?).getD 0)=true
 | 0=>by simp[posN]
 | s+1=>by
  have ih:=jS (p:=p) (M:=M) (j:=j) s
  unfold posN
  split
  ·rename_i h
   rw[List.mem_append,ih,List.mem_singleton]
   constructor
   ·rintro (⟨k,h1,h2,h3⟩ | h')
    ·exact⟨k,h1,by omega,h3⟩
    ·exact⟨s,h',by omega,h⟩
   ·rintro⟨k,h1,h2,h3⟩
    by_cases e:k=s
    ·exact .inr (e ▸ h1)
    ·exact .inl ⟨k,h1,by omega,h3⟩
  ·rename_i h
   rw[ih]
   constructor
   ·rintro⟨k,h1,h2,h3⟩; exact⟨k,h1,by omega,h3⟩
   ·rintro⟨k,h1,h2,h3⟩
    by_cases e:k=s
    ·subst e; exact absurd h3 h
    ·exact⟨k,h1,by omega,h3⟩
theorem iy {o:HOp} {b:Int} (h:mayB o b=true):(o.op.kind=1∨o.op.kind=2∨o.op.kind=3)∧(o.op.kind=2→o.op.data.length=32)∧(o.op.kind≠3→0≤o.op.index∧o.op.index<b):=by
 simp only[mayB,Bool.and_eq_true,Bool.not_eq_true']at h
 have h:=h.1
 unfold badO outO at h
 split at h
 ·rename_i h1
  simp only[Bool.or_eq_false_iff,decide_eq_false_iff_not]at h
  exact⟨.inl h1,fun e=>by omega,fun _=>by omega⟩
 ·split at h
  ·rename_i h2
   simp only[Bool.or_eq_false_iff,decide_eq_false_iff_not,Bool.not_eq_false',decide_eq_true_eq]at h
   exact⟨.inr (.inl h2),fun _=>h.2,fun _=>by omega⟩
  ·simp only[Bool.not_eq_false',decide_eq_true_eq]at h
   exact⟨.inr (.inr h),fun e=>by omega,fun e=>absurd h e⟩
theorem gJ.ok {l:List HOp} {b:Int} {e:Nat} {p:Prep} {ks:List Int} {vs:List (List UInt8)} (F:gJ l b e p ks vs) (hl:l.length≤8192):POk l e p:=by
 have hs:=oz l b e
 have hkl:=F.kl
 have hvl:=F.vl
 have getE:∀ {κ:Type} [DecidableEq κ] (ks:List κ) (k:κ),0≤(getA (dH ks 0) k).getD 0∧(getA (dH ks 0) k).getD 0≤ks.length:=fun ks k=>by
  by_cases h:k∈ks
  ·obtain⟨j,h1,_,h3⟩:=e9 ks 0 h
   have:=(List.getElem?_eq_some_iff.1 h1).1
   rw[h3]; simp only[Option.getD_some]; omega
  ·rw[jt ks 0 h]; simp
 have hz:∀z∈p.ops,∃k,k<e∧z=zs (mayI l b k):=fun z hz=>by
  obtain⟨k,hk⟩:=List.mem_iff_getElem?.1 hz
  have hlt:=(List.getElem?_eq_some_iff.1 hk).1
  rw[F.ops]at hlt
  rw[F.opk k hlt]at hk
  exact⟨k,hlt,(Option.some.inj hk).symm⟩
 have hmem:∀z∈p.ops,∀i∈z,∃(k:Nat) (j:Nat),k<e∧z=zs (mayI l b k)∧i=(j:Int)∧j∈mayI l b k:=fun z hzz i hi=>by
  obtain⟨k,hk,rfl⟩:=hz z hzz
  obtain⟨j,hj,rfl⟩:=List.mem_map.1 hi
  exact⟨k,j,hk,rfl,rfl,hj⟩
 refine⟨F.ops,by rw[F.pl,ff]; omega,fun k=>by have:=getE ks k; rw[F.pl]; omega,fun k=>by rw[F.vs]; exact (getE vs k).1,fun z hzz=>?_,fun z hzz i hi=>?_,fun z hzz i hi j hj=>?_,fun z hzz i hi j hj=>?_,fun z hzz i hi=>?_,fun z hzz i hi=>?_⟩
 ·obtain⟨k,hk,rfl⟩:=hz z hzz
  have:=fP (eraB k (fun o=>mayB o b)) l 0
  rw[fj,mayI]; omega
 ·obtain⟨k,j,hk,rfl,rfl,hj⟩:=hmem z hzz i hi
  obtain⟨o,h1,h2,h3⟩:=df.1 hj
  have hop:opN l j=o:=by rw[opN,h1]; rfl
  obtain⟨m1,m2,m3⟩:=iy h3
  refine⟨by omega,o,by rw[Int.toNat_natCast]; exact h1,m1,fun hk3=>?_,m2⟩
  have:=(F.kin k hk j hj (by rw[hop]; exact hk3)).1
  rw[hop]at this
  obtain⟨j',h4,_,h5⟩:=e9 ks 0 this
  have:=(List.getElem?_eq_some_iff.1 h4).1
  rw[F.pl,ff,plN,h5]
  simp only[Option.getD_some]; omega
 ·obtain⟨k,i',hk,rfl,rfl,hi'⟩:=hmem z hzz i hi
  rw[F.af k hk i' hi',jS]at hj
  obtain⟨j',rfl,h2,_⟩:=hj
  rw[fj]; omega
 ·obtain⟨k,i',hk,rfl,rfl,hi'⟩:=hmem z hzz i hi
  rw[F.ah k hk i' hi',jS]at hj
  obtain⟨j',rfl,h2,_⟩:=hj
  rw[fj]; omega
 ·obtain⟨k,i',hk,rfl,rfl,hi'⟩:=hmem z hzz i hi
  have h1:=jR (afB l i') (mayI l b k) (mayI l b k).length
  have h2:=fP (eraB k (fun o=>mayB o b)) l 0
  rw[F.af k hk i' hi']
  rw[mayI]at h1 ⊢
  omega
 ·obtain⟨k,i',hk,rfl,rfl,hi'⟩:=hmem z hzz i hi
  have h1:=jR (ahB l i') (mayI l b k) (mayI l b k).length
  have h2:=fP (eraB k (fun o=>mayB o b)) l 0
  rw[F.ah k hk i' hi']
  rw[mayI]at h1 ⊢
  omega
end Go.Proofs.Ytmdgmolbamlicaa
namespace Go.Eng
open Go.RowKit
def RegT (T:List br→Prop) (P:Program) (all:List Oper) (sz:Nat) (l:List Oper) (n:Nat) (env:Env) (h:Upds) (acc:List br) (K:Env→Upds→Nat→Prop):Prop :=
 ∃fs:List br,fs.map (·.op)=l∧T (acc.reverse++fs)∧dx P all sz fs n env h K
def Fy (P:Program) (all:List Oper) (i0 j0 n:Nat) (env:Env) (h:Upds) (fs:List br):Prop :=
 ∃f g,fs[i0]?=some f∧fs[j0]?=some g∧i0<j0∧f.u=[]∧mp [] [] (fs.set i0 { f with rows:=[] })=true∧mp [] [] (fs.set j0 { g with u:=[] })=true ∧
  OpIs P all f.op (only f.looks (accS (fun j=>Nat.blt j i0) 0 (fs.map (·.envU)) env)) (only f.rows (g.u++accS (fun j=>Nat.blt j i0) 0 (fs.map (·.u)) h)) (n+8*i0) f.v []
section
variable {P : Program} {sz : Nat} {env : Env} {h : Upds} {n : Nat} {all l : List Oper} {acc : List br} {K : Env → Upds → Nat → Prop} {T : List br → Prop} {Q : Exit → St → Prop}
theorem DB (hd:T acc.reverse) (hk:Q .normal ⟨env,h,n,sz,64⟩):RegT T P all sz [] n env h acc (RegK Q sz):=⟨[],rfl,by simpa using hd,hk⟩
theorem Fp {o:Oper} (f:br) (hop:f.op=o) (hd:ez o.dst sz=true) (ho:OpIs P all o (only f.looks env) (only f.rows h) n f.v f.u) (h1:RegT T P all sz l (n+8) (f.envU++env) (f.u++h) (f::acc) K):RegT T P all sz (o::l) n env h acc K:=by
 subst hop
 obtain⟨fs,rfl,h2,h3⟩:=h1
 exact⟨f::fs,rfl,by simpa using h2,⟨hd,ho⟩,h3⟩
theorem tL {d:Option Tmp} {op:Op} {ty:TypeId} {pos:String} {af:Array Edge} {gd:Option (Nat×Bool)} {v:Option AV} {u:Upds} {env':Env} {h':Upds} (looks rows:List Nat) (hd:ez d sz=true) (ho:OpIs P all ⟨d,op,ty,pos,af,gd⟩ (only looks env) (only rows h) n v u)
  (he:putE d v env=env') (hh:u++h=h') (h1:RegT T P all sz l (n+8) env' h' (⟨⟨d,op,ty,pos,af,gd⟩,looks,rows,v,u⟩::acc) K):RegT T P all sz (⟨d,op,ty,pos,af,gd⟩::l) n env h acc K:=by
 refine Fp ⟨⟨d,op,ty,pos,af,gd⟩,looks,rows,v,u⟩ rfl hd ho ?_
 have:br.envU ⟨⟨d,op,ty,pos,af,gd⟩,looks,rows,v,u⟩++env=env':=by rw[←he]; cases d <;> rfl
 rw[this,hh]
 exact h1
theorem dt_q (ks rs:List Nat) {d:Tmp} {op:Op} {ty:TypeId} {pos:String} {af:Array Edge} {v:AV} (hd:Nat.blt d sz=true)
  (hs:ab P op (only ks env) (only rs h) n (some v) [])
  (h1:RegT T P all sz l (n+8) ((d,v)::env) h (⟨⟨some d,op,ty,pos,af,none⟩,ks,rs,some v,[]⟩::acc) K):RegT T P all sz (⟨some d,op,ty,pos,af,none⟩::l) n env h acc K :=
 tL _ _ hd (.plain hs) rfl rfl h1
theorem dt_w (ks rs:List Nat) {d:Tmp} {op:Op} {ty:TypeId} {pos:String} {af:Array Edge} {v:AV} {x:Nat×Option Row} (hd:Nat.blt d sz=true)
  (hs:ab P op (only ks env) (only rs h) n (some v) [x])
  (h1:RegT T P all sz l (n+8) ((d,v)::env) (x::h) (⟨⟨some d,op,ty,pos,af,none⟩,ks,rs,some v,[x]⟩::acc) K):RegT T P all sz (⟨some d,op,ty,pos,af,none⟩::l) n env h acc K :=
 tL _ _ hd (.plain hs) rfl rfl h1
theorem Fo (ks rs:List Nat) {d:Tmp} {op:Op} {ty:TypeId} {pos:String} {af:Array Edge} {v:AV} {x y:Nat×Option Row} (hd:Nat.blt d sz=true)
  (hs:ab P op (only ks env) (only rs h) n (some v) [x,y])
  (h1:RegT T P all sz l (n+8) ((d,v)::env) (x::y::h) (⟨⟨some d,op,ty,pos,af,none⟩,ks,rs,some v,[x,y]⟩::acc) K):RegT T P all sz (⟨some d,op,ty,pos,af,none⟩::l) n env h acc K :=
 tL _ _ hd (.plain hs) rfl rfl h1
theorem dt_s (ks rs:List Nat) {op:Op} {ty:TypeId} {pos:String} {af:Array Edge} {x:Nat×Option Row}
  (hs:ab P op (only ks env) (only rs h) n none [x])
  (h1:RegT T P all sz l (n+8) env (x::h) (⟨⟨none,op,ty,pos,af,none⟩,ks,rs,none,[x]⟩::acc) K):RegT T P all sz (⟨none,op,ty,pos,af,none⟩::l) n env h acc K :=
 tL _ _ rfl (.plain hs) rfl rfl h1
theorem yp (i0 j0:Nat) (hm:P.follows .mixedOrders=true) {id n:Nat} {ops:Array Oper} {Q:Exit→St→Prop} {env:Env} {h:Upds} (hd:RegT (Fy P ops.toList i0 j0 n env h) P ops.toList sz ops.toList n env h [] (RegK Q sz)):WC P sz (.region id ops true) Q env h n:=by
 intro C σ w a hst
 obtain⟨gs,hgs,hTol,hok⟩:=hd
 simp only[List.reverse_nil,List.nil_append]at hTol
 obtain⟨f0,g0,hf0,hg0,hij0,hu0,hdr,hdB,hT⟩:=hTol
 obtain⟨prB,hDB⟩:=kM _ [] [] rfl (by simpa using hdB) ⟨fun j g hj=>by simp at hj,fun j g hj=>by simp at hj,fun i j f g hi=>by simp at hi⟩
 simp only[List.nil_append]at hDB
 have hi0l:=(List.getElem?_eq_some_iff.1 hf0).1
 have hj0l:=(List.getElem?_eq_some_iff.1 hg0).1
 obtain⟨fs,hfsd⟩:∃fs,fs=gs.set i0 { f0 with rows:=[] }:=⟨_,rfl⟩
 have hset:∀ {β:Type 1} (q:br→β),q { f0 with rows:=[] }=q f0→(gs.set i0 { f0 with rows:=[] }).map q=gs.map q:=fun q hq=>by
  rw[List.map_set,hq]
  refine List.ext_getElem? fun i=>?_
  by_cases e:i0=i
  ·subst e
   rw[List.getElem?_set_self (by simpa using hi0l),List.getElem?_map,hf0]; rfl
  ·rw[List.getElem?_set_ne e]
 have hmE:fs.map (·.envU)=gs.map (·.envU):=by rw[hfsd]; exact hset (·.envU) rfl
 have hmU:fs.map (·.u)=gs.map (·.u):=by rw[hfsd]; exact hset (·.u) rfl
 have hfs:fs.map (·.op)=ops.toList:=by
  rw[←hgs,hfsd,List.map_set]
  refine List.ext_getElem? fun i=>?_
  by_cases e:i0=i
  ·subst e
   rw[List.getElem?_set_self (by simpa using hi0l),List.getElem?_map,hf0]; rfl
  ·rw[List.getElem?_set_ne e]
 have hBop:(gs.set j0 { g0 with u:=[] }).map (·.op)=ops.toList:=by
  rw[←hgs,List.map_set]
  refine List.ext_getElem? fun i=>?_
  by_cases e:j0=i
  ·subst e
   rw[List.getElem?_set_self (by simpa using hj0l),List.getElem?_map,hg0]; rfl
  ·rw[List.getElem?_set_ne e]
 rw[←hfsd]at hdr
 have hfg:∀i f,fs[i]?=some f→i≠i0→gs[i]?=some f:=fun i f hi hne=>by
  rw[hfsd,List.getElem?_set_ne (Ne.symm hne)]at hi; exact hi
 have hfi:fs[i0]?=some { f0 with rows:=[] }:=by rw[hfsd,List.getElem?_set_self hi0l]
 obtain⟨pr,hD⟩:=kM fs [] [] rfl (by simpa using hdr) ⟨fun j g hj=>by simp at hj,fun j g hj=>by simp at hj,fun i j f g hi=>by simp at hi⟩
 simp only[List.nil_append]at hD
 have hop:∀(i:Nat) (o:Oper),ops[i]?=some o→∃f:br,fs[i]?=some f∧f.op=o:=fun i o hi=>by
  have h1:(fs.map (·.op))[i]?=some o:=by rw[hfs]; simpa using hi
  simpa using h1
 have hlen:fs.length=ops.size:=by have:=congrArg List.length hfs; simpa using this
 have hop':∀(i:Nat) (f:br),fs[i]?=some f→ops[i]?=some f.op:=fun i f hi=>by
  have h1:(fs.map (·.op))[i]?=some f.op:=by simp[hi]
  rw[hfs]at h1; simpa using h1
 refine wpIn_region_any hm ?_
 let S (listed:Array Bool):Nat→Bool:=fun i=>listed.getD i false
 let stOf (listed:Array Bool):St:=⟨accS (S listed) 0 (fs.map (·.envU)) env,accS (S listed) 0 (fs.map (·.u)) h,0,sz,64⟩
 have key:∀(fuel:Nat) (listed:Array Bool) (a:Act) (w:World) (σ:aB) (G:Nat→Prop),listed.size=ops.size→(∀j g,fs[j]?=some g→S listed j=true→∀e∈g.op.after.toList,fI e=true→S listed e.on=true) →
   aA C G (stOf listed) σ w a→(∀r,G r→r<n∨∃i,S listed i=true∧n+8*i≤r∧r<n+8*i+8)→((List.range ops.size).filter fun i => !S listed i).length≤fuel →
   wpAnyIn (fen C.ro) 0 P .any ops (Lift C Q) fuel listed a w:=by
  have hdone:∀(listed:Array Bool) (a:Act) (w:World) (σ:aB) (G:Nat→Prop),listed.size=ops.size→aA C G (stOf listed) σ w a→(∀r,G r→r<n∨∃i,S listed i=true∧n+8*i≤r∧r<n+8*i+8) →
    (∀i,i<ops.size→S listed i=true)→Lift C Q .normal a w:=by
   intro listed a w σ G hsz hst hG hall
   refine⟨_,σ,(by have:=dx.end gs 0 n env h hok; rw[←hmE,←hmU,show gs.length=fs.length by rw[hfsd,List.length_set]]at this; exact this),?_⟩
   have hcong:∀ {β:Type 1} (g:br→List (Nat×β)) (e:List (Nat×β)) (t:Nat),lk (accS (fun _=>true) 0 (fs.map g) e) t=lk (accS (S listed) 0 (fs.map g) e) t:=fun g e t =>
    ea _ 0 _ _ rfl fun j u hj _=>by
     have hlt:=(List.getElem?_eq_some_iff.1 hj).1
     simp at hlt
     rw[Nat.zero_add,hall j (by omega)]
   have h2:=(hst.grow (G':=fun r=>r<n+8*fs.length) fun r hr=>by
    rcases hG r hr with h1 | ⟨i,h1,h2,h3⟩
    ·omega
    ·have:i<listed.size:=by
      rcases Nat.lt_or_ge i listed.size with h4 | h4
      ·exact h4
      ·simp[S,h4]at h1
     omega)
   exact h2.congr (fun t=>hcong _ env t) (fun t=>hcong _ h t) rfl rfl
  have hready:∀(listed:Array Bool),listed.size=ops.size→Region.ready .any ops listed=[] → ∀i,i<ops.size→S listed i=true:=by
   intro listed hsz hr i
   induction i using Nat.strongRecOn with
   | _ i ih =>
    intro hi
    cases hS:S listed i
    ·exfalso
     have:i∈Region.ready .any ops listed:=by
      refine mem_ready.2 ⟨?_,ops[i],by simp[hi],fun e he hb=>?_⟩
      ·simp only[S,Array.getD_eq_getD_getElem?]at hS ⊢
       have:i<listed.size:=by omega
       simp[this]at hS ⊢
       exact hS
      ·obtain⟨f,hf,hfo⟩:=hop i ops[i] (by simp[hi])
       have hlt:=hD.back i f hf e (by rw[hfo]; simpa using he) hb
       exact ih e.on hlt (by omega)
     rw[hr]at this
     simp at this
    ·rfl
  intro fuel
  induction fuel with
  | zero =>
   intro listed a w σ G hsz hcl hst hG hcnt
   have hall:∀i,i<ops.size→S listed i=true:=fun i hi=>by
    have h0:((List.range ops.size).filter fun i => !S listed i)=[]:=List.eq_nil_of_length_eq_zero (by omega)
    have:=List.filter_eq_nil_iff.1 h0 i (List.mem_range.2 hi)
    simpa using this
   refine⟨?_,hdone listed a w σ G hsz hst hG hall⟩
   refine List.eq_nil_iff_forall_not_mem.2 fun i hi=>?_
   obtain⟨h0,o,ho,_⟩:=mem_ready.1 hi
   have hlt:i<ops.size:=(Array.getElem?_eq_some_iff.1 ho).1
   have:=hall i hlt
   have hlt':i<listed.size:=by omega
   simp only[S,Array.getD_eq_getD_getElem?]at this h0
   simp[hlt']at this h0
   rw[this]at h0; cases h0
  | succ fuel ih =>
   intro listed a w σ G hsz hcl hst hG hcnt
   refine⟨fun hr=>hdone listed a w σ G hsz hst hG (hready listed hsz hr),fun i hi=>?_⟩
   obtain⟨h0,o,ho,hpre⟩:=mem_ready.1 hi
   have hlt:i<ops.size:=(Array.getElem?_eq_some_iff.1 ho).1
   have hSi:S listed i=false:=by
    have hlt':i<listed.size:=by omega
    simp only[S,Array.getD_eq_getD_getElem?]at h0 ⊢
    simp[hlt']at h0 ⊢
    exact h0
   obtain⟨f,hf,hfo⟩:=hop i o ho
   subst hfo
   have hdst:ez f.op.dst sz=true:=by
    by_cases e:i=i0
    ·subst e
     rw[hfi]at hf
     cases hf
     exact (dx.at gs 0 n env h hok i f0 hf0).1
    ·exact (dx.at gs 0 n env h hok i f (hfg i f hf e)).1
   have hapG:∀(X:List br) (pr:Nat→List Nat),ss X pr→X.map (·.op)=ops.toList→∀fX,X[i]?=some fX→∀(j:Nat) (g:br),X[j]?=some g→S listed j≠Nat.blt j i→(j<i∧fa g fX=true)∨(i<j∧S listed j=true∧fa fX g=true):=by
    intro X pr hD hX fX hfX
    have hXop:∀(j:Nat) (g:br),X[j]?=some g→ops[j]?=some g.op:=fun j g hj=>by
     have h1:(X.map (·.op))[j]?=some g.op:=by simp[hj]
     rw[hX]at h1; simpa using h1
    have hfX2:fX.op=f.op:=by
     have h1:=hXop i fX hfX
     rw[ho]at h1
     exact (Option.some.inj h1).symm
    have hXlen:X.length=ops.size:=by have:=congrArg List.length hX; simpa using this
    have hclX:∀(j:Nat) (g:br),X[j]?=some g→S listed j=true→∀e∈g.op.after.toList,fI e=true→S listed e.on=true:=fun j g hj hSj e he hb=>by
     obtain⟨q,hq,hqo⟩:=hop j g.op (hXop j g hj)
     exact hcl j q hq hSj e (by rw[hqo]; exact he) hb
    have hclos:∀(j:Nat) (g:br),X[j]?=some g→S listed j=true→∀k,k∈pr j→S listed k=true:=by
     intro j
     induction j using Nat.strongRecOn with
     | _ j ihj =>
      intro g hg hSj k hk
      obtain⟨e,he,hb,hor⟩:=hD.pred j g hg k hk
      have h1:=hclX j g hg hSj e he hb
      rcases hor with rfl | hk'
      ·exact h1
      ·have hlt:=hD.back j g hg e he hb
       have hjl:=(List.getElem?_eq_some_iff.1 hg).1
       exact ihj e.on hlt _ (List.getElem?_eq_getElem (by omega)) h1 k hk'
    have hpri:∀k,k∈pr i→S listed k=true:=fun k hk=>by
     obtain⟨e,he,hb,hor⟩:=hD.pred i fX hfX k hk
     have h1:S listed e.on=true:=hpre e (by rw[hfX2]at he; simpa using he) hb
     rcases hor with rfl | hk'
     ·exact h1
     ·have hlt:=hD.back i fX hfX e he hb
      exact hclos e.on _ (List.getElem?_eq_getElem (by omega)) h1 k hk'
    intro j g hg hne
    rcases Nat.lt_trichotomy j i with hji | rfl | hij
    ·refine .inl ⟨hji,?_⟩
     rcases hD.pair j i g fX hg hfX hji with h1 | h1
     ·exfalso
      have:=hpri j h1
      rw[this,show Nat.blt j i=true from Nat.ble_eq_true_of_le hji]at hne
      exact hne rfl
     ·exact h1
    ·exfalso
     apply hne
     rw[hSi]
     cases hb:Nat.blt j j
     ·rfl
     ·have:=Nat.le_of_ble_eq_true hb; omega
    ·refine .inr ⟨hij,?_⟩
     have hSj:S listed j=true:=by
      cases hs:S listed j
      ·exfalso
       apply hne
       rw[hs]
       cases hb:Nat.blt j i
       ·rfl
       ·have:=Nat.le_of_ble_eq_true hb; omega
      ·rfl
     refine⟨hSj,?_⟩
     rcases hD.pair i j fX g hfX hg hij with h1 | h1
     ·have:=hclos j g hg hSj i h1
      rw[hSi]at this; cases this
     ·exact h1
   have hap:=hapG fs pr hD hfs f hf
   have hget:∀ {β:Type 1} (q:br→List (Nat×β)) j u,(fs.map q)[j]?=some u→∃g,fs[j]?=some g∧q g=u:=fun q j u hj=>by
    rw[List.getElem?_map]at hj
    cases hg:fs[j]? with
    | none=>rw[hg]at hj; cases hj
    | some g=>rw[hg]at hj; exact⟨g,by first | exact hg | rfl,by simpa using hj⟩
   have henv:∀t,t∈f.looks→lk (accS (fun j=>Nat.blt j (0+i)) 0 (fs.map (·.envU)) env) t=lk (accS (S listed) 0 (fs.map (·.envU)) env) t:=fun t ht =>
    ea _ 0 _ _ rfl fun j u hj hne=>by
     obtain⟨g,hg,rfl⟩:=hget _ j u hj
     simp only[Nat.zero_add]
     by_cases hs:S listed j=Nat.blt j i
     ·exact hs.symm
     ·exfalso
      have hmem:=ky hne
      rcases hap j g hg hs with ⟨_,h1⟩ | ⟨_,_,h1⟩
      ·exact cG (cq h1).1 t hmem ht
      ·exact cG (cq h1).2.1 t hmem ht
   have hrow:∀t,t∈f.rows→lk (accS (fun j=>Nat.blt j (0+i)) 0 (fs.map (·.u)) h) t=lk (accS (S listed) 0 (fs.map (·.u)) h) t:=fun t ht =>
    ea _ 0 _ _ rfl fun j u hj hne=>by
     obtain⟨g,hg,rfl⟩:=hget _ j u hj
     simp only[Nat.zero_add]
     by_cases hs:S listed j=Nat.blt j i
     ·exact hs.symm
     ·exfalso
      have hmem:=lk_keys' hne
      rcases hap j g hg hs with ⟨_,h1⟩ | ⟨_,_,h1⟩
      ·exact cG (cq h1).2.2.2.1 t hmem ht
      ·exact cG (cq h1).2.2.2.2.1 t hmem ht
   have hOpA:∃E H,OpIs P ops.toList f.op E H (n+8*i) f.v f.u∧fY E H (stOf listed):=by
    by_cases e:i=i0
    ·subst e
     rw[hfi]at hf
     cases hf
     obtain⟨_,hOp⟩:=dx.at gs 0 n env h hok i f0 hf0
     have hapB:=hapG _ prB hDB hBop f0 (by rw[List.getElem?_set_ne (by omega)]; exact hf0)
     have hotherB:∀(j:Nat) (g:br),gs[j]?=some g→j≠j0→∀t,t∈f0.rows→lk g.u t≠none→S listed j=Nat.blt j i:=fun j g hg hne t ht hl=>by
      by_cases hs:S listed j=Nat.blt j i
      ·exact hs
      ·exfalso
       have hmem:=lk_keys' hl
       rcases hapB j g (by rw[List.getElem?_set_ne (Ne.symm hne)]; exact hg) hs with ⟨_,h1⟩ | ⟨_,_,h1⟩
       ·exact cG (cq h1).2.2.2.1 t hmem ht
       ·exact cG (cq h1).2.2.2.2.1 t hmem ht
     have hgetg:∀(j:Nat) (u:Upds),(gs.map (·.u))[j]?=some u→∃g:br,gs[j]?=some g∧g.u=u:=fun j u hj=>by
      rw[List.getElem?_map]at hj
      cases hg:gs[j]? with
      | none=>rw[hg]at hj; cases hj
      | some g=>rw[hg]at hj; exact⟨g,by first | exact hg | rfl,by simpa using hj⟩
     have hbl:Nat.blt j0 i=false:=nf hij0
     have hul:(gs.map (·.u))[j0]?=some g0.u:=by rw[List.getElem?_map,hg0]; rfl
     have fin:∀(H0:Upds),OpIs P ops.toList f0.op (only f0.looks (accS (fun j=>Nat.blt j i) 0 (fs.map (·.envU)) env)) (only f0.rows H0) (n+8*i) f0.v f0.u→(∀t,t∈f0.rows→lk H0 t=lk (accS (S listed) 0 (fs.map (·.u)) h) t)→∃E H,OpIs P ops.toList f0.op E H (n+8*i) f0.v f0.u∧fY E H (stOf listed):=fun H0 hO hrow=>by
      refine⟨_,_,hO,fun t v ht=>?_,fun r row hr=>?_⟩
      ·obtain⟨h1,h2⟩:=gU _ t v ht
       have:=henv t h1
       simp only[Nat.zero_add]at this
       rw[this]at h2
       exact h2
      ·simp only[aQ]at hr
       split at hr <;> try (cases hr; done)
       rename_i row' hl
       simp only[Option.some.injEq]at hr
       subst hr
       obtain⟨h1,h2⟩:=gU _ r _ hl
       rw[hrow r h1]at h2
       simp only[St.row,stOf,h2]
       rfl
     cases hs0:S listed j0 with
     | false =>
      refine fin (accS (fun j=>Nat.blt j i) 0 (gs.map (·.u)) h) (by rw[hmE]; simp only[Nat.zero_add]at hOp; exact hOp) fun t ht=>?_
      rw[hmU]
      refine ea _ 0 _ _ rfl fun j u hj hne=>?_
      obtain⟨g,hg,rfl⟩:=hgetg j u hj
      simp only[Nat.zero_add]
      by_cases e2:j=j0
      ·subst e2; rw[hs0,hbl]
      ·exact (hotherB j g hg e2 t ht hne).symm
     | true =>
      refine fin (g0.u++accS (fun j=>Nat.blt j i) 0 (gs.map (·.u)) h) (by rw[hmE,hu0]; exact hT) fun t ht=>?_
      rw[hmU,dX]
      cases hx:lk g0.u t with
      | some x =>
       refine (pQ _ j0 0 h hul hx (by simpa using hs0) fun j u hj hij hSj=>?_).symm
       obtain⟨g,hg,rfl⟩:=hgetg j u hj
       rw[Nat.zero_add]at hSj
       cases hn:lk g.u t with
       | none=>rfl
       | some z =>
        exfalso
        have:=hotherB j g hg (by omega) t ht (by rw[hn]; exact fun e=>by cases e)
        rw[hSj,nf (by omega)]at this
        cases this
      | none =>
       refine ea _ 0 _ _ rfl fun j u hj hne=>?_
       obtain⟨g,hg,rfl⟩:=hgetg j u hj
       simp only[Nat.zero_add]
       by_cases e2:j=j0
       ·subst e2
        rw[hg0]at hg
        cases hg
        exact absurd hx hne
       ·exact (hotherB j g hg e2 t ht hne).symm
    ·obtain⟨_,hOp⟩:=dx.at gs 0 n env h hok i f (hfg i f hf e)
     rw[←hmE,←hmU]at hOp
     refine⟨_,_,hOp,fun t v ht=>?_,fun r row hr=>?_⟩
     ·obtain⟨h1,h2⟩:=gU _ t v ht
      rw[henv t h1]at h2
      exact h2
     ·simp only[aQ]at hr
      split at hr <;> try (cases hr; done)
      rename_i row' hl
      simp only[Option.some.injEq]at hr
      subst hr
      obtain⟨h1,h2⟩:=gU _ r _ hl
      rw[hrow r h1]at h2
      simp only[St.row,stOf,h2]
      rfl
   obtain⟨E1,H1,hOp,hagree⟩:=hOpA
   have hfresh:∀r,n+8*i≤r→r<n+8*i+8→¬G r:=fun r h1 h2 h3=>by
    rcases hG r h3 with h4 | ⟨k,h4,h5,h6⟩
    ·omega
    ·have:k=i:=by omega
     subst this
     rw[hSi]at h4; cases h4
   have hS':∀j,j≠i→S (listed.setIfInBounds i true) j=S listed j:=fun j hj=>getD_set_ne false (Ne.symm hj)
   have hSi':S (listed.setIfInBounds i true) i=true:=by
    have hlt':i<listed.size:=by omega
    simp only[S,Array.getD_eq_getD_getElem?]
    simp[hlt']
   have hmono:∀j,S listed j=true→S (listed.setIfInBounds i true) j=true:=fun j hj=>getD_set_true hj
   have hrest:=hOp C G (stOf listed) σ w a hagree (eG hdst) hst hfresh rfl (wpAnyIn (fen C.ro) 0 P .any ops (Lift C Q) fuel (listed.setIfInBounds i true)) (Lift C Q) (by
    intro x w' σ' G' hst' _ hG'
    refine ih (listed.setIfInBounds i true) (a.put f.op.dst x) w' σ' G' (by simpa using hsz) ?_ ?_ ?_ ?_
    ·intro j g hg hSj e he hb
     by_cases hji:j=i
     ·subst hji
      rw[hf]at hg
      cases hg
      exact hmono _ (hpre e (by simpa using he) hb)
     ·rw[hS' j hji]at hSj
      exact hmono _ (hcl j g hg hSj e he hb)
    ·refine hst'.congr (fun t=>?_) (fun t=>?_) ?_ ?_
     ·have hput:lk ((stOf listed).put f.op.dst f.v f.u).env t=lk (f.envU++(stOf listed).env) t:=by
       unfold br.envU
       cases f.op.dst <;> cases f.v <;> rfl
      rw[hput]
      refine oj (u:=f.envU) (i:=i) (by simp[hf]) hS' hSi' fun j u hj hij hSj hne=>?_
      obtain⟨g,hg,rfl⟩:=hget _ j u hj
      cases hn:lk g.envU t with
      | none=>rfl
      | some z =>
       exfalso
       rcases hap j g hg (by rw[hSj,nf hij]; exact fun e=>by cases e)with ⟨h1,_⟩ | ⟨_,_,h1⟩
       ·omega
       ·exact cG (cq h1).2.2.1 t (ky hne) (ky (by rw[hn]; exact fun e=>by cases e))
     ·have hput:((stOf listed).put f.op.dst f.v f.u).heap=f.u++(stOf listed).heap:=by
       cases f.op.dst <;> cases f.v <;> rfl
      rw[hput]
      refine oj (u:=f.u) (i:=i) (by simp[hf]) hS' hSi' fun j u hj hij hSj hne=>?_
      obtain⟨g,hg,rfl⟩:=hget _ j u hj
      cases hn:lk g.u t with
      | none=>rfl
      | some z =>
       exfalso
       rcases hap j g hg (by rw[hSj,nf hij]; exact fun e=>by cases e)with ⟨h1,_⟩ | ⟨_,_,h1⟩
       ·omega
       ·exact cG (cq h1).2.2.2.2.2 t (lk_keys' hne) (lk_keys' (by rw[hn]; exact fun e=>by cases e))
     ·cases f.op.dst <;> cases f.v <;> rfl
     ·cases f.op.dst <;> cases f.v <;> rfl
    ·intro r hr
     rcases hG' r hr with h1 | h1
     ·rcases hG r h1 with h2 | ⟨k,h2,h3⟩
      ·exact .inl h2
      ·exact .inr ⟨k,hmono k h2,h3⟩
     ·exact .inr ⟨i,hSi',h1.1,h1.2⟩
    ·have:=mU (p:=fun i => !S listed i) (q:=fun j => !S (listed.setIfInBounds i true) j) (fun x hx=>by
      simp only[Bool.not_eq_true']at hx ⊢
      cases hs:S listed x
      ·rfl
      ·rw[hmono x hs]at hx; cases hx) (List.range ops.size) i (List.mem_range.2 hlt) (by simp[hSi]) (by simp[hSi'])
     omega)
   unfold wpOpIn
   rw[ho]
   have hall:ops.toList.toArray=ops:=by simp
   rw[hall]at hrest
   by_cases hw:Region.wanted f.op (yielded ops a.tmps)=true
   ·simp only[hw,if_true]at hrest ⊢
    exact hrest
   ·simp only[hw]at hrest ⊢
    exact⟨fun _ _=>trivial,hrest⟩
 have hrep:∀i,S (Array.replicate ops.size false) i=false:=fun i=>by
  simp only[S,Array.getD_eq_getD_getElem?]
  rcases Nat.lt_or_ge i ops.size with h1 | h1
  ·simp[h1]
  ·simp[h1]
 refine key ops.size _ a _ σ (fun r=>r<n) (by simp) ?_ ?_ ?_ ?_
 ·intro j g _ hSj
  rw[hrep]at hSj; cases hSj
 ·have h0:∀ {β:Type 1} (us:List (List (Nat×β))) (e:List (Nat×β)),accS (S (Array.replicate ops.size false)) 0 us e=e:=fun us e=>kb us 0 e fun j _=>hrep j
  have h1:=hst.drew
  exact h1.congr (fun t=>by simp only[stOf,h0]) (fun t=>by simp only[stOf,h0]) rfl rfl
 ·intro r hr; exact .inl hr
 ·have:=List.length_filter_le (fun i => !S (Array.replicate ops.size false) i) (List.range ops.size)
  simpa using this
end
end Go.Eng
namespace Go.Eng
open Go.RowKit
def e7 (W:Nat) (res:AV) (rows:List (Nat×Row)):St:=⟨[(0,res)],aw rows,64+W,1,64⟩
def kg (W:Nat) (P:Program) (f:FuncId) (avs:List AV) (h0:List (Nat×Row)) (res:AV) (rows:List (Nat×Row)):Prop :=
 (∃ fn, P.funcs[f]? = some fn ∧ (fn.name == "runtime.NumGoroutine") = false ∧ fn.body.isNone = false) ∧
 ∀(C:Ctx) (σ:aB) (w:World) (vs:List Value),C.bs=64→C.B=w.heap.size→C.w0=w→C.σ0=σ→C.ro=none→aA C (fun r=>r<64) (inSt avs h0) σ w ⟨vs.toArray,[]⟩ →
  Calls P f vs.toArray w fun e w'=>∃v σ',e=.returned v∧aA C (fun r=>r<64+W) (e7 W res rows) σ' w' ⟨#[v],[]⟩
def RetW (W:Nat) (T:Tab) (fn:Func) (res:AV) (rows:List (Nat×Row)) (e:Exit) (st:St):Prop :=
 (match e with | .normal=>True | .ret=>True | _=>False)∧ja T st fn.results.toList fun q=>∃l,Le l { st with env:=[(0,jO q)],sz:=1 } (e7 W res rows)
section
variable {P : Program} {T : Tab} {C : Ctx} {w : World} {G : Nat → Prop} {st st' : St} {σ : aB} {a : Act}
theorem AM {W : Nat} (hT : aj P T) {f : FuncId} {fn : Func} {c : Code} {avs : List AV} {h0 rows : List (Nat × Row)} {res : AV} (hf : P.funcs[f]? = some fn) (hname : (fn.name == "runtime.NumGoroutine") = false) (hb : fn.body = some c)
    (hn:Nat.ble avs.length fn.ntmps=true) (h:WC P fn.ntmps c (RetW W T fn res rows) (eg 0 avs) (aw h0) 64):kg W P f avs h0 res rows:=by
  have hn:=Nat.le_of_ble_eq_true hn
  refine⟨⟨fn,hf,hname,by simp[hb]⟩,fun C σ w vs hbs hB hw hσ hro hst=>?_⟩
  have hl:vs.length=avs.length:=by simpa[inSt]using hst.sz
  have hst0:aA C (fun r=>r<64) ⟨eg 0 avs,aw h0,64,fn.ntmps,64⟩ σ w { tmps:=vs.toArray++Array.replicate (fn.ntmps-vs.toArray.size) undef,defers:=[] }:=
    { hst with
      env:=fun i v hi=>by
        obtain⟨u,hu,hv⟩:=hst.env i v hi
        refine⟨u,?_,hv⟩
        have:=(Array.getElem?_eq_some_iff.1 hu).1
        rw[Array.getElem?_append_left this]
        exact hu
      defers:=trivial
      sz:=by simp; omega }
  have hwp:=h C σ w _ hst0
  rw[show fen C.ro=Fence.wide by rw[hro]; rfl]at hwp
  refine callsIn_wide.1 (callsIn_of_wp_marks (n:=0) hf hb trivial (wpIn_mono hwp ?_))
  rintro e a' w₁ ⟨st',σ',⟨he,hr⟩,h1⟩
  have hleave:LeavesInM Fence.wide 0 P fn a'.tmps (fun e w'=>∃v σ',e=.returned v∧aA C (fun r=>r<64+W) (e7 W res rows) σ' w' ⟨#[v],[]⟩) a'.defers .returning w₁:=by
    refine jh hro _ w₁ h1 fun w' h2=>?_
    obtain⟨q,vs',⟨l,hle⟩,hrun,hrel,hqw,hc⟩:=fK hT h2 _ _ hr
    have hres:(results fn a'.tmps).run P w' = .ok (if h:vs'.toArray.size=1 then vs'.toArray[0] else .tuple vs'.toArray) w':=by
      rw[oK,Array.mapM_eq_mapM_toList]
      simp only[Sem.run_bind,Sem.run_map,hrun,Result.andThen_ok,Sem.run_pure]
    have hone:aA C (fun r=>r<st'.next) { st' with env:=[(0,jO q)],sz:=1 } σ' w' ⟨#[if h:vs'.toArray.size=1 then vs'.toArray[0] else .tuple vs'.toArray],[]⟩:=
      { h2 with
        env:=fun i v hi=>by
          simp only[aN]at hi
          split at hi
          · rename_i e
            subst e
            simp only[Option.some.injEq]at hi
            subst hi
            exact⟨_,rfl,oJ hc hrel⟩
          · simp[lk]at hi
        envG:=fun i v hi=>by
          simp only[aN]at hi
          split at hi
          · simp only[Option.some.injEq]at hi
            subst hi
            cases q with
            | acons v r=>cases r <;> first | exact hqw.1 | exact hqw
            | _=>exact hqw
          · simp[lk]at hi
        sz:=rfl
        defers:=trivial }
    exact⟨_,hres,_,_,rfl,hone.le hle⟩
  cases e with
  | normal=>exact hleave
  | ret=>exact hleave
  | _=>exact he.elim
end
section
variable {P : Program} {C : Ctx} {w w' : World} {G : Nat → Prop} {st : St} {σ : aB} {a : Act}
theorem aA.leaveW {W:Nat} (hW:0<W) (h:aA C G st σ w a) {l:bC} {h0 rows:List (Nat×Row)} {res:AV} {n:Nat} (hn:∀r,n≤r→r<n+W→¬G r) (hb64:st.bs=64) {X1:Nat→Prop} {σ2:aB} {v:Value}
  (hr:RowsIn st.row l h0) (hkeys:ga l h0=true) (hX1:(∀b,st.X C.X0 σ b→¬b6 (σ.via (rho l)) h0 b→X1 b)∨cr res rows)
  (h2:aA { B:=w.heap.size,w0:=w,X0:=X1,M:=b6 (σ.via (rho l)) h0,bs:=64,σ0:=σ.via (rho l) } (fun r=>r<(64+W)) (e7 W res rows) σ2 w' ⟨#[v],[]⟩) :
  ∃σ',aA C (fun r=>G r∨n≤r∧r<n+W) (st.upd (bA l n h0 rows)) σ' w' a∧RelV σ' w' ((st.upd (bA l n h0 rows)).X C.X0 σ') (res.ren (eb l n)) v ∧
   (res.ren (eb l n)).within (fun r=>G r∨n≤r∧r<n+W):=by
 have hbs:C.bs=64:=h.bs.symm.trans hb64
 have hn64:64≤n:=by
  rcases Nat.lt_or_ge n 64 with hlt | hge
  ·exact absurd (h.baseG n (by omega)) (hn n (Nat.le_refl _) (by omega))
  ·exact hge
 let σ':aB:=fun r=>if n≤r∧r<n+W then σ2 (64+(r-n)) else σ r
 have hσG:∀r,G r→σ' r=σ r:=fun r hg=>by
  show (if n≤r∧r<n+W then σ2 (64+(r-n)) else σ r)=σ r
  rw[if_neg (fun e=>hn r e.1 e.2 hg)]
 have hlow:∀k,k<64→∃k',rho l k=some k'∧G k':=by
  intro k hk
  by_cases hkk:k∈aU h0
  ·obtain⟨row,hrow⟩:=rZ h0 k hkk
   obtain⟨_,_,k',x,h3,h4,_⟩:=RowsIn.out h0 hr k row hrow
   exact⟨k',h3,(h.rowsG k' x h4).1⟩
  ·exact⟨k,lF l hkeys k hkk,h.baseG k (by omega)⟩
 have hout:∀k,k<(64+W)→σ' (bG l n k)=σ2 k∧(G (bG l n k)∨n≤bG l n k∧bG l n k<n+W):=by
  intro k hk
  rcases Nat.lt_or_ge k 64 with hlt | hge
  ·obtain⟨k',h3,h4⟩:=hlow k hlt
   have e:bG l n k=k':=by
    have:Nat.blt k 64=true:=Nat.ble_eq_true_of_le hlt
    simp only[bG,this,cond_true,h3]
   rw[e]
   refine⟨?_,.inl h4⟩
   rw[hσG k' h4,h2.agree k hlt]
   simp only[aB.via,h3]
  ·have e:bG l n k=n+(k-64):=by
    have:Nat.blt k 64=false:=by
     cases hb:Nat.blt k 64 with
     | false=>rfl
     | true=>have:=Nat.le_of_ble_eq_true hb; omega
    simp only[bG,this,cond_false]
   rw[e]
   refine⟨?_,.inr ⟨by omega,by omega⟩⟩
   show (if n≤n+(k-64)∧n+(k-64)<n+W then σ2 (64+(n+(k-64)-n)) else _)=_
   rw[if_pos ⟨by omega,by omega⟩]
   congr 1; omega
 have hres0:∀r,(e7 W res rows).row r=lk rows r:=fun r=>ew rows r
 have hrow:∀r row,(st.upd (bA l n h0 rows)).row r=some row→(∃k row0,lk rows k=some row0∧r=bG l n k∧row=row0.ren (eb l n))∨(st.row r=some row∧∀k row0,lk h0 k=some row0→r≠bG l n k):=by
  intro r row h1
  simp only[St.row,St.upd,bA,dX]at h1
  cases hc:lk (jd l n rows) r with
  | some x =>
   simp only[hc,Option.bind_some,id]at h1
   subst h1
   obtain⟨k,row0,h3,h4,h5⟩:=lD rows r _ hc
   simp only[Option.some.injEq]at h5
   exact .inl ⟨k,row0,h3,h4,h5⟩
  | none =>
   simp only[hc]at h1
   cases hd:lk (fw l n h0) r with
   | some x =>
    simp only[hd,Option.bind_some,id]at h1
    rw[jZ h0 r x hd]at h1
    cases h1
   | none =>
    simp only[hd]at h1
    exact .inr ⟨h1,fun k row0 hk=>fG h0 r hd k row0 hk⟩
 have hMX:∀b,b6 (σ.via (rho l)) h0 b→∃k k' row0 x c,lk h0 k=some row0∧bG l n k=k'∧st.row k'=some x∧σ k'=some (b,c):=by
  rintro b ⟨k,row0,c,h3,h4⟩
  obtain⟨hk64,_,k',x,h5,h6,_⟩:=RowsIn.out h0 hr k row0 h3
  simp only[aB.via,h5]at h4
  refine⟨k,k',row0,x,c,h3,?_,h6,h4⟩
  have:Nat.blt k 64=true:=Nat.ble_eq_true_of_le hk64
  simp only[bG,this,cond_true,h5]
 have hkept:∀r row b c,st.row r=some row→(∀k row0,lk h0 k=some row0→r≠bG l n k)→σ r=some (b,c)→¬b6 (σ.via (rho l)) h0 b:=by
  intro r row b c h3 h4 h5 hM
  obtain⟨k,k',row0,x,c',h6,h7,h8,h9⟩:=hMX b hM
  exact h4 k row0 h6 ((h.inj _ _ _ _ _ _ _ h3 h8 h5 h9).trans h7.symm)
 have hXnew:∀b,(st.upd (bA l n h0 rows)).X C.X0 σ' b→(st.X C.X0 σ b∧¬b6 (σ.via (rho l)) h0 b)∨∃k row0 c,(e7 W res rows).row k=some row0∧σ2 k=some (b,c):=by
  rintro b (hx | ⟨r,row,c,h1,h3⟩)
  ·refine .inl ⟨.inl hx,fun hM=>?_⟩
   obtain⟨k,k',row0,x,c',_,_,h8,h9⟩:=hMX b hM
   obtain⟨h10,h11⟩:=h.x0 b hx
   rcases h.high _ _ _ _ h8 h9 with h12 | h12
   ·omega
   ·exact h11 h12
  ·rcases hrow r row h1 with ⟨k,row0,h4,rfl,rfl⟩ | ⟨h4,h5⟩
   ·have h6:(e7 W res rows).row k=some row0:=(hres0 k).trans h4
    rw[(hout k (h2.rowsG k row0 h6).1).1]at h3
    exact .inr ⟨k,row0,c,h6,h3⟩
   ·rw[hσG r (h.rowsG r row h4).1]at h3
    exact .inl ⟨.inr ⟨r,row,c,h4,h3⟩,hkept r row b c h4 h5 h3⟩
 have hlt:∀b,st.X C.X0 σ b→b<w.heap.size:=by
  rintro b (hx | ⟨r,row,c,h3,h4⟩)
  ·have:=(h.x0 b hx).1; have:=h.size; omega
  ·exact h.lt h3 h4
 have hkeep:∀b,b<w.heap.size→¬b6 (σ.via (rho l)) h0 b→w'.heap[b]?=w.heap[b]?:=fun b h3 h4=>h2.below.block b h3 h4
 have hk1:∀(a:Addr) (u:Value),w.cell? a=some u→¬st.X C.X0 σ a.block→Kp w w' a u∧¬(st.upd (bA l n h0 rows)).X C.X0 σ' a.block:=by
  intro ad u h3 h4
  have hl:=World.block_lt_of_cell? w ad h3
  have hnM:¬b6 (σ.via (rho l)) h0 ad.block:=fun hM=>by
   obtain⟨k,k',row0,x,c',_,_,h8,h9⟩:=hMX _ hM
   exact h4 (.inr ⟨k',x,c',h8,h9⟩)
  refine⟨.of_block (hkeep _ hl hnM) h3,fun hx=>?_⟩
  rcases hXnew _ hx with hx | ⟨k,row0,c,h5,h6⟩
  ·exact h4 hx.1
  ·rcases h2.high k row0 _ c h5 h6 with h7 | h7
   ·simp only at h7; omega
   ·exact hnM h7
 have hsub:(∀b,st.X C.X0 σ b→¬b6 (σ.via (rho l)) h0 b→X1 b)→∀b,(st.upd (bA l n h0 rows)).X C.X0 σ' b→(e7 W res rows).X X1 σ2 b:=fun hX b hx=>by
  rcases hXnew b hx with ⟨h3,h4⟩ | ⟨k,row0,c,h3,h4⟩
  ·exact .inl (hX b h3 h4)
  ·exact .inr ⟨k,row0,c,h3,h4⟩
 obtain⟨v',hv1,hv2⟩:=h2.env 0 res rfl
 have hv':v'=v:=by simpa using hv1.symm
 subst hv'
 have hresG:=h2.envG 0 res rfl
 have hres:RelV σ2 w' ((st.upd (bA l n h0 rows)).X C.X0 σ') res v':=by
  rcases hX1 with hX | hpl
  ·exact RelV.mono (G:=fun r=>r<(64+W)) (fun _ _=>rfl) (fun _ _ h3 h4=>⟨.rfl' h3,fun hx=>h4 (hsub hX _ hx)⟩) hresG hv2
  ·exact (hpl σ2 w' _ _).1 v' hv2
 have hrows':∀k row0,(e7 W res rows).row k=some row0→bx σ2 w' ((st.upd (bA l n h0 rows)).X C.X0 σ') k row0:=by
  intro k row0 h3
  have h4:=h2.rows k row0 h3
  rcases hX1 with hX | hpl
  ·exact bx.mono (G:=fun r=>r<(64+W)) (fun _ _=>rfl) (fun _ _ h5 h6=>⟨.rfl' h5,fun hx=>h6 (hsub hX _ hx)⟩) (Nat.le_refl _) (h2.rowsG k row0 h3).1 (h2.rowsG k row0 h3).2 (fun _ _ _=>rfl) h4
  ·rw[hres0]at h3
   exact (hpl σ2 w' _ _).2 k row0 h3 h4
 have hG72:∀k,k<(64+W)→(fun r=>G r∨n≤r∧r<n+W) (bG l n k):=fun k hk=>(hout k hk).2
 refine⟨σ',h.core (fun r hr=>.inl hr) hσG hk1 rfl rfl rfl ?_ ?_ ?_ (by have h9:w.heap.size≤w'.heap.size:=h2.below.size; have:=h.size; omega) ?_,?_,?_⟩
 ·intro r row h1
  rcases hrow r row h1 with ⟨k,row0,h3,rfl,rfl⟩ | ⟨h3,h4⟩
  ·have h5:(e7 W res rows).row k=some row0:=(hres0 k).trans h3
   have hg:=h2.rowsG k row0 h5
   exact .inr ⟨hG72 k hg.1,Row.within.out (G:=fun r=>r<(64+W)) hG72 hg.2,bx.out (G:=fun r=>r<(64+W)) (fun r hr=>(hout r hr).1) hg.1 hg.2 (hrows' k row0 h5)⟩
  ·exact .inl ⟨h3,fun b c h5=>hkeep b (h.lt h3 h5) (hkept r row b c h3 h4 h5)⟩
 ·intro r r' row row' b c c' h1 h3 h5 h6
  rcases hrow r row h1 with ⟨k,row0,h7,rfl,rfl⟩ | ⟨h7,h8⟩ <;> rcases hrow r' row' h3 with ⟨k',row0',h9,rfl,rfl⟩ | ⟨h9,h10⟩
  ·have e1:(e7 W res rows).row k=some row0:=(hres0 k).trans h7
   have e2:(e7 W res rows).row k'=some row0':=(hres0 k').trans h9
   rw[(hout k (h2.rowsG k row0 e1).1).1]at h5
   rw[(hout k' (h2.rowsG k' row0' e2).1).1]at h6
   rw[h2.inj _ _ _ _ _ _ _ e1 e2 h5 h6]
  ·have e1:(e7 W res rows).row k=some row0:=(hres0 k).trans h7
   rw[(hout k (h2.rowsG k row0 e1).1).1]at h5
   rw[hσG r' (h.rowsG r' row' h9).1]at h6
   exfalso
   rcases h2.high _ _ _ _ e1 h5 with h11 | h11
   ·have:=h.lt h9 h6; simp only at h11; omega
   ·exact hkept _ _ _ _ h9 h10 h6 h11
  ·have e2:(e7 W res rows).row k'=some row0':=(hres0 k').trans h9
   rw[(hout k' (h2.rowsG k' row0' e2).1).1]at h6
   rw[hσG r (h.rowsG r row h7).1]at h5
   exfalso
   rcases h2.high _ _ _ _ e2 h6 with h11 | h11
   ·have:=h.lt h7 h5; simp only at h11; omega
   ·exact hkept _ _ _ _ h7 h8 h5 h11
  ·rw[hσG r (h.rowsG r row h7).1]at h5
   rw[hσG r' (h.rowsG r' row' h9).1]at h6
   exact h.inj _ _ _ _ _ _ _ h7 h9 h5 h6
 ·intro r row b c h1 h3
  rcases hrow r row h1 with ⟨k,row0,h7,rfl,rfl⟩ | ⟨h7,h8⟩
  ·have e1:(e7 W res rows).row k=some row0:=(hres0 k).trans h7
   rw[(hout k (h2.rowsG k row0 e1).1).1]at h3
   rcases h2.high _ _ _ _ e1 h3 with h11 | h11
   ·simp only at h11; have:=h.size; exact .inl (by omega)
   ·obtain⟨_,k',_,x,c',_,_,h8,h9⟩:=hMX b h11
    exact h.high _ _ _ _ h8 h9
  ·rw[hσG r (h.rowsG r row h7).1]at h3
   exact h.high _ _ _ _ h7 h3
 ·have hb:=h2.below
  refine⟨hb.os,hb.tape,hb.output,hb.size,fun k hk hm=>hb.block k (show k<w.heap.size by have:=h.size; omega) (fun hM=>?_),hb.book⟩
  obtain⟨_,k',_,x,c',_,_,h8,h9⟩:=hMX k hM
  rcases h.high _ _ _ _ h8 h9 with h12 | h12
  ·omega
  ·exact hm h12
 ·unfold RelV at hres ⊢
  rw[show (res.ren (eb l n)).isAgg=res.isAgg from AV.out_agg _ _]
  split at hres <;> rename_i hag
  ·obtain⟨c,rfl,hc⟩:=hres
   rw[if_pos hag]
   exact⟨c,rfl,Rel.out (G:=fun r=>r<(64+W)) (fun r hr=>(hout r hr).1) res _ _ hresG hc⟩
  ·rw[if_neg hag]
   exact Rel.out (G:=fun r=>r<(64+W)) (fun r hr=>(hout r hr).1) res _ _ hresG hres
 ·exact AV.within.out (G:=fun r=>r<(64+W)) hG72 res hresG
end
def ot (W:Nat) (P:Program) (op:Op) (env:Env) (h:Upds) (n:Nat) (v:Option AV) (u:Upds):Prop :=
 ∀(C:Ctx) (G:Nat→Prop) (st:St) (σ:aB) (w:World) (a:Act) (o:Oper),o.op=op→fY env h st→(∀d,o.dst=some d→d<st.sz)→aA C G st σ w a →
  (∀r,n≤r→r<n+W→¬G r)→st.bs=64→∀(next:Act→World→Prop) (Q:Exit→Act→World→Prop),
   (∀x w' σ' G',aA C G' (st.put o.dst v u) σ' w' (a.put o.dst x)→(∀r,G r→G' r)→(∀r,G' r→G r∨n≤r∧r<n+W)→next (a.put o.dst x) w')→o.wpIn (fen C.ro) 0 P a w next Q
section
variable {P : Program} {T : Tab} {C : Ctx} {w : World} {G : Nat → Prop} {st : St} {σ : aB} {a : Act} {o : Oper} {n : Nat} {env : Env} {h : Upds}
theorem ot.call {W:Nat} (hW:0<W) {f:Operand} {args:Array Operand} {ts:Array TypeId} {g:FuncId} {first caps:AV} {bs9 avs:List AV} {h0 rows:List (Nat×Row)} {res:AV} (l:bC)
  (hfn:kg W P g avs h0 res rows) (hf:ai env f=some (.fn (.func g) first caps)) (hl:evL (ai env) args.toList=some bs9) (hc1:first.chain=true) (hc2:caps.chain=true)
  (ha:bU (aQ h) (rho l) (bw first++(bs9++bw caps)) avs) (hr:RowsIn (aQ h) l h0) (hi:ey (rho l) (aU h0)=true) (hk:ga l h0=true)
  (hm:bY (bw first++(bs9++bw caps)) avs=true∨h0=[]∧cr res rows) :
  ot W P (.call { callee :=.value f,args:=args,argTypes:=ts }) env h n (some (res.ren (eb l n))) (bA l n h0 rows):=by
 intro C G st σ w a o ho hA hd hst hn hbs next Q hnext
 have hf:=hA.ev hf
 have hl':=kH (ev':=ai st.env) (fun x v=>hA.ev) _ _ hl
 have ha:=bU.agree hA.row _ _ ha
 have hr:=RowsIn.agree hA.row _ hr
 obtain⟨h1,h2⟩:=ak hst hf
 obtain⟨vs,us,hu,hr1,hr2⟩:∃vs us:List Value,a.eval f=.func (.func g) vs.toArray us.toArray∧Rel σ w (st.X C.X0 σ) first true vs∧Rel σ w (st.X C.X0 σ) caps true us:=by
  unfold RelV at h1
  simp only[AV.isAgg]at h1
  obtain⟨vs,us,he,h3,h4⟩:=h1
  exact⟨vs,us,by simpa using he,h3,h4⟩
 obtain⟨l1,l2,l3⟩:=fH first vs hc1 hr1 h2.1
 obtain⟨m1,m2,m3⟩:=fH caps us hc2 hr2 h2.2
 obtain⟨e1,e2,e3⟩:=mh hst _ bs9 hl'
 have hrel:=gI (bw first) (bs9++bw caps) vs (args.toList.map a.eval++us) l1 l3 (gI bs9 (bw caps) (args.toList.map a.eval) us (by simpa using e1) e3 m3)
 have hg:∀v∈bw first++(bs9++bw caps),v.within G:=fun v hv=>by
  rcases List.mem_append.1 hv with hv | hv
  ·exact l2 v hv
  ·rcases List.mem_append.1 hv with hv | hv
   ·exact e2 v hv
   ·exact m2 v hv
 have hrun:(execOp a.eval o).run P w=.ok (.enter g (vs++(args.toList.map a.eval++us)).toArray) w:=by
  have harr:vs.toArray++args.map a.eval++us.toArray=(vs++(args.toList.map a.eval++us)).toArray:=Array.ext' (by simp)
  simp only[execOp,ho,resolve,hu,Deferred.ofValue,Sem.run_bind,Sem.run_pure,Result.andThen_ok,invoke,iZ hfn.1,harr]
 refine⟨fun _ _=>trivial,?_⟩
 rw[io hrun (fun c hc=>by rw[ho]at hc; cases hc),Oper.uponIn_enter]
 refine⟨fun h=>(by cases h),j6 ?_⟩
 have fin:∀(X1:Nat→Prop),(∀b,X1 b→b<w.heap.size∧¬b6 (σ.via (rho l)) h0 b)→(∀b,X1 b→st.X C.X0 σ b)→(bY (bw first++(bs9++bw caps)) avs=true∨h0=[] ∧ ∀b,X1 b↔C.X0 b) →
   ((∀b,st.X C.X0 σ b→¬b6 (σ.via (rho l)) h0 b→X1 b)∨cr res rows)→Calls P g (vs++(args.toList.map a.eval++us)).toArray w fun
   | .returned v,w''=>next (a.put o.dst v) w''
   | .panicked chain,w''=>Q (.panic chain) a w''
   | .outgrown,_=>LetsOut Q:=by
  intro X1 hX hsub hm' hX1
  have hent:=hst.enter X1 (by simp at e1 ⊢; omega) hrel hg ha hr hi hX hsub hm'
  refine (hfn.2 _ _ w _ rfl rfl rfl rfl rfl hent).mono ?_
  rintro e w' ⟨v,σ2,rfl,h2⟩
  obtain⟨σ',h5,h6,h7⟩:=hst.leaveW hW hn hbs hr hk hX1 h2
  exact hnext v w' σ' _ (by rw[St.put_upd]; exact h5.set hd h6 h7) (fun r hr=>.inl hr) (fun r hr=>hr)
 have hXlt:∀b,st.X C.X0 σ b→b<w.heap.size:=by
  rintro b (hx | ⟨r,row,c,h3,h4⟩)
  ·have:=(hst.x0 b hx).1; have:=hst.size; omega
  ·exact hst.lt h3 h4
 rcases hm with hm | ⟨rfl,hpl⟩
 ·exact fin (fun b=>st.X C.X0 σ b∧¬b6 (σ.via (rho l)) h0 b) (fun b hb=>⟨hXlt b hb.1,hb.2⟩) (fun b hb=>hb.1) (.inl hm) (.inl fun b h1 h2=>⟨h1,h2⟩)
 ·exact fin C.X0 (fun b hb=>⟨hXlt b (.inl hb),fun⟨r,row,c,h3,_⟩=>by simp[lk]at h3⟩) (fun b hb=>.inl hb) (.inr ⟨rfl,fun _=>Iff.rfl⟩) (.inr hpl)
end
section
variable {P : Program} {sz : Nat} {env : Env} {h : Upds} {n : Nat} {all l : List Oper} {K : Env → Upds → Nat → Prop}
theorem BI {W:Nat} {o:Oper} {v:Option AV} {u:Upds} (hw:∀(C:Ctx) (σ:aB) (w:World) (a:Act),aA C (fun r=>r<n) ⟨env,h,n,sz,64⟩ σ w a→Region.wanted o (yielded all.toArray a.tmps)=true) (hd:ez o.dst sz=true) (hs:ot W P o.op env h n v u)
  (h1:RegS P all sz l (n+W) (putE o.dst v env) (u++h) K):RegS P all sz (o::l) n env h K:=by
 intro C σ w a hst Q hQ
 unfold wpListIn
 rw[if_pos (hw C σ w a hst)]
 refine (hs C _ ⟨env,h,n,sz,64⟩ σ w a o rfl ⟨fun i v hi=>hi,fun r row hr=>by rw[←hr,←ba]⟩ (eG hd) hst (fun r h1 h2 h3=>Nat.not_lt.2 h1 h3) rfl _ _ ?_)
 intro x w' σ' G' hst' _ h2
 rw[lu]at hst'
 refine h1 C σ' w' _ ?_ Q hQ
 have:=hst'.grow (G':=fun r=>r<n+W) (fun r hr=>by rcases h2 r hr with hr | hr <;> (try simp only at hr) <;> omega)
 exact { this with }
theorem ir {W:Nat} (hW:0<W) {d:Tmp} {f:Operand} {args:Array Operand} {ts:Array TypeId} {ty:TypeId} {pos:String} {af:Array Edge} {g:FuncId} {caps:AV} {bs9 avs:List AV} {h0 rows:List (Nat×Row)} {res v:AV} {u h':Upds} (l0:bC) (hd:Nat.blt d sz=true)
  (hfn:kg W P g avs h0 res rows) (hf:ai env f=some (.fn (.func g) .anil caps)) (hl:evL (ai env) args.toList=some bs9) (hc2:caps.chain=true)
  (ha:bU (aQ h) (rho l0) (bs9++bw caps) avs) (hr:RowsIn (aQ h) l0 h0) (hi:ey (rho l0) (aU h0)=true) (hk:ga l0 h0=true)
  (hm:bY (bs9++bw caps) avs=true∨h0=[]∧cr res rows) (hv:res.ren (eb l0 n)=v) (hu:bA l0 n h0 rows=u) (hh:u++h=h')
  (h1:RegS P all sz l (n+W) ((d,v)::env) h' K):RegS P all sz (⟨some d,.call { callee :=.value f,args:=args,argTypes:=ts },ty,pos,af,none⟩::l) n env h K:=by
 refine BI (W:=W) (v:=some v) (u:=u) (fun _ _ _ _ _=>rfl) hd ?_ (by rw[hh]; exact h1)
 have:=ot.call (n:=n) (ts:=ts) (h0:=h0) (rows:=rows) (res:=res) hW l0 hfn hf hl rfl hc2 ha hr hi hk hm
 rw[hv,hu]at this
 exact this
end
end Go.Eng
namespace Go.Proofs.Ytmdgmolbamlicaa
open Go.Eng Go.Plain
set_option maxHeartbeats 32000000
set_option maxRecDepth 20000
attribute [local irreducible] WC RegS RegD SeqQ BlkQ ScoQ RegK CutK Sat SatN FnIs LoopQ ab OpIs
def ao (h:List HEv):Nat:=1+h.countP fun x=>decide (x.kind=3)
abbrev ptrE (e:Int):AV :=.tup (.acons (.d (.sc (.pointer none))) (.acons (.int .i64 e) .anil))
abbrev CE (l:List HOp) (b e:Int) (ops st sp:AV):Row :=.box 83 (.acons (.d (fv l)) (.acons (.int .i64 b) (.acons (.int .i64 e) (.acons (.mapr 65) (.acons (.mapr 66) (.acons ops (.acons (.mapr 68) (.acons (.mapr 69) (.acons (.mapr 70) (.acons (.mapr 71) (.acons (.mapr 72) (.acons st (.acons sp .anil)))))))))))))
abbrev lA (l:List HOp) (b e:Int) (p:Prep) (sp:List (List aF)) (q:QS):List (Nat×Row):=[(64,CE l b e (.own 67 0 p.ops.length 1 none) (.own 73 0 q.2.length 4 none) (.own 74 0 sp.length 1 none)),(65,fV p.pl),(66,g8 p.vs),(67,fF p.ops),(68,cR p.af),(69,cR p.ah),(70,eu p.lo),(71,eu p.st),(72,kRow q.1),(73,yC q.2),(74,yM sp)]
abbrev BE (l:List HOp) (b:Int) (c:Nat):List (Nat×Row):=[(64,CE l b (c:Int) sNil sNil sNil),(65,fV []),(66,g8 [(zBk,0)]),(68,cR []),(69,cR []),(70,eu []),(71,eu []),(72,kRow [])]
theorem A7 {h:List HEv} {i:Nat} {x:HEv} (hx:h[i]?=some x):(h.take (i+1)).countP (fun x=>decide (x.kind=3))=(h.take i).countP (fun x=>decide (x.kind=3))+if x.kind=3 then 1 else 0:=by
 have hlt:=(List.getElem?_eq_some_iff.1 hx).1
 rw[List.take_succ_eq_append_getElem hlt,(List.getElem?_eq_some_iff.1 hx).2,List.countP_append,List.countP_cons,List.countP_nil]
 simp
theorem sE (h:List HEv) (b fuel:Int) (hh:h.length≤9223372036854775807) (hal:(rdH h).all.length≤1048576) (hE:opE h b≠0):FnIs Try.prog 22 [.d (encH h),.int .i64 b,.int .i64 fuel] [] (ptrE (opE h b)) []:=by
 have ho:=fL h b hh hal
 have d0:(!decide (opE h b=0))=true:=by rw[dF hE]; rfl
 refine aq aa Try.func22 rfl rfl rfl ?_;refine z35 ?_
 exact⟨trivial,[],lf⟩
theorem sD (h:List HEv) (b fuel:Int) (hh:h.length≤9223372036854775807) (hal:(rdH h).all.length≤1048576) (hE:opE h b=0) (hf:fuel<0∨1048576<fuel):FnIs Try.prog 22 [.d (encH h),.int .i64 b,.int .i64 fuel] [] (ptrE 1) []:=by
 have ho:=fL h b hh hal
 rw[hE]at ho
 refine aq aa Try.func22 rfl rfl rfl ?_
 by_cases h0:fuel<0
 ·have d1:decide (fuel<0)=true:=dT h0
  refine z48 ?_
  exact⟨trivial,[],lf⟩
 ·have d1:decide (fuel<0)=false:=dF h0
  have d2:decide (1048576<fuel)=true:=dT (by omega)
  refine z50 ?_
  exact⟨trivial,[],lf⟩
def vH (h:List HEv) (b fuel:Int) (p:Prep) (l:List HOp) (e:Nat):Option (QS×List (List aF))→Prop
 | none=>kg 16 Try.prog 22 [.d (encH h),.int .i64 b,.int .i64 fuel] [] (ptrE 4) []
 | some (q,sp)=>kg 16 Try.prog 22 [.d (encH h),.int .i64 b,.int .i64 fuel] [] (.tup (.acons (.ptr 64 []) (.acons (.int .i64 0) .anil))) (lA l b e p sp q)
theorem ux {p:Prep} {l:List HOp} {e:Nat} {fuel:Int} {n i:Nat} {q:QS} {sp:List (List aF)} {x:LSt} (hx:q.2[i]?=some x) (hf:¬fuel<(q.2.length:Int)):fc p l e fuel (n+1) i q sp=fc p l e fuel n (i+1) (cC p l e x q).1 (sp++[(cC p l e x q).2]):=by
 rw[fc,hx]
 simp only[if_neg hf]
theorem xn (h:List HEv) (b fuel:Int) (hh:h.length≤8192) (hal:(rdH h).all.length≤8192) (hE:opE h b=0) (h0:0≤fuel) (h1:fuel≤1048576) (l:List HOp) (hl:l=opL h b) (e:Nat) (he:e=ao h) (p:Prep) (hp:p=cn l b e)
  (P:POk l e p) (h32:∀o∈l,mayB o b=true→o.op.kind=2→o.op.data.length=32) (Inv:Nat→QS→List (List aF)→Prop) (hI0:Inv 0 (addS ([],[]) (dD p)).1 []) (hIs:∀i q sp x,Inv i q sp→q.2[i]?=some x→(q.2.length:Int)≤fuel→Inv (i+1) (cC p l e x q).1 (sp++[(cC p l e x q).2])) (hIb:∀i q sp,Inv i q sp→q.2.length+8200≤1048576):vH h b fuel p l e (kR p l e fuel):=by
 have ho:=fL h b (by omega) (by omega)
 rw[hE,←hl]at ho
 have d1:decide (fuel<0)=false:=dF (by omega)
 have d2:decide (1048576<fuel)=false:=dF (by omega)
 have hcl:h.countP (fun x=>decide (x.kind=3))≤h.length:=List.countP_le_length
 have hel:e≤8193:=by rw[he,ao]; omega
 have he0:0<e:=by rw[he,ao]; omega
 have hll:l.length≤8192:=by rw[hl,opL,if_pos hE]; unfold opsH; split <;> first | exact hal | exact Nat.zero_le _
 have hprep:=BO l b e [] (by omega) (by omega) h32
 rw[←hp]at hprep
 have hw2:IntKind.i64.wrap (2*((asC i6 p.pl).length:Int))=((2*p.pl.length:Nat):Int):=by have:=P.pln; rw[gl,aH (by omega) (by omega)]; omega
 have hlz:2*p.pl.length≤1048576:=by have:=P.pln; omega
 have hno:FnIs Try.prog 40 [.ptr 0 [],.int .i64 0] (cg l b e p [] ([],[]) 9) (.d (strD (cQ (zOf p 0).length))) (cg l b e p [] ([],[]) 9):=s5 l b e p [] ([],[]) P 0 he0
 obtain⟨q1,hq1⟩:∃q1,q1=(addS ([],[]) (dD p)).1:=⟨_,rfl⟩
 have had:FnIs Try.prog 39 [.ptr 0 [],.d (bQ ⟨0,cQ (zOf p 0).length,cQ (2*p.pl.length),cQ (2*p.pl.length)⟩)] (cg l b e p [] ([],[]) 9) (.int .i64 (addS ([],[]) (dD p)).2) (cg l b e p [] q1 64):=by subst hq1; exact sq l b e p [] ([],[]) (dD p) (by decide)
 have hS1:∀y∈q1.2,SOk p e y:=by
  subst hq1
  exact oh (fun y hy=>by cases hy) ⟨⟨Int.le_refl _,by show (0:Int)<e; omega⟩,by simp[dD,cQ],by simp[dD,cQ],by simp[dD,cQ]⟩
 have goal:∀r,r=kR p l e fuel→vH h b fuel p l e r:=fun r hr=>by
  have main:∀(Res:AV) (rows:List (Nat×Row)),(match r with | none=>Res=ptrE 4∧rows=[] | some (q,sp)=>Res=.tup (.acons (.ptr 64 []) (.acons (.int .i64 0) .anil))∧rows=lA l b e p sp q)→kg 16 Try.prog 22 [.d (encH h),.int .i64 b,.int .i64 fuel] [] Res rows:=by
   intro Res rows hRes
   refine AM (W:=16) aa Try.func22 rfl rfl rfl ?_;refine z48 ?_;iterate 2 refine aO (iz) rfl ?_
   refine rQ (bB aa rfl rfl rfl) ?_;refine bE rfl (vd (κ:=List UInt8) (enc:=bc) (l:=[]) (k:=zBk) keyB Try.underlying75 rfl rfl rfl rfl rfl) rfl rfl ?_;refine z1 ?_;iterate 5 refine aO (iz) rfl ?_
   refine z14 ?_
   refine wc_inv (fun i:Nat=>⟨[(45,.int .i64 i),(44,.int .i64 h.length),(43,.d (encH h)),(10,.ptr 64 []),(2,.int .i64 fuel)],aw (BE l b (1+(h.take i).countP (fun x=>decide (x.kind=3)))),80,Try.f22.ntmps,64⟩) (fun i=>i≤h.length) (fun i=>h.length-i) 0 [(64,some 312),(65,some 224),(66,some 232),(68,some 264),(69,some 272),(70,some 280),(71,some 288),(72,some 296)] (Nat.zero_le _)
    (lg zh ⟨zR,⟨rfl,bq _,_,rfl,aM.of_eq (by show _=Row.mo ((mapC _ (asC _ _)).ren _); rw[aY]; rfl)⟩,⟨rfl,bq _,_,rfl,aM.of_eq (by show _=Row.mo ((mapC _ (asC _ _)).ren _); rw[aY]; rfl)⟩,⟨rfl,bq _,_,rfl,aM.of_eq (by show _=Row.mo ((mapC _ (asC _ _)).ren _); rw[aY]; rfl)⟩,⟨rfl,bq _,_,rfl,aM.of_eq (by show _=Row.mo ((mapC _ (asC _ _)).ren _); rw[aY]; rfl)⟩,⟨rfl,bq _,_,rfl,aM.of_eq (by show _=Row.mo ((mapC _ (asC _ _)).ren _); rw[aY]; rfl)⟩,⟨rfl,bq _,_,rfl,aM.of_eq (by show _=Row.mo ((mapC _ (asC _ _)).ren _); rw[aY]; rfl)⟩,⟨rfl,bq _,_,rfl,aM.of_eq (by show _=Row.mo ((mapC _ (asC _ _)).ren _); rw[aY]; rfl)⟩,trivial⟩) ?_
   intro i hi
   refine bt ?_
   by_cases hlt:i<h.length
   ·have d3:decide ((i:Int)<(h.length:Int))=true:=dT (by omega)
    obtain⟨x,hx⟩:∃x,h[i]?=some x:=⟨_,List.getElem?_eq_getElem hlt⟩
    have hx2:h[((i:Int)).toNat]?=some x:=by rw[Int.toNat_natCast]; exact hx
    have hst:=A7 hx
    have hc2:(h.take i).countP (fun x=>decide (x.kind=3))≤(h.take i).length:=List.countP_le_length
    rw[List.length_take]at hc2
    generalize (h.take i).countP (fun x=>decide (x.kind=3))=c at *
    by_cases hk:x.kind=3
    ·have d4:decide (x.kind=3)=true:=dT hk
     rw[if_pos hk]at hst
     have hwc:IntKind.i64.wrap (((1+c:Nat):Int)+1)=((1+(c+1):Nat):Int):=by rw[aH (by omega) (by omega)]; omega
     refine z32 ?_;refine rQ (bM (m:=((1+(c+1):Nat):Int)) aa rfl rfl hwc) ?_;refine z2 ?_;refine bH (aG aa rfl rfl rfl ⟨_,⟨_,⟨rfl,rfl,rfl⟩,rfl⟩,rfl⟩ rfl) ?_;refine z7 ?_
     exact an (i+1) [(64,some 64),(65,some 65),(66,some 66),(68,some 68),(69,some 69),(70,some 70),(71,some 71),(72,some 72)] hlt (by omega) (by rw[hst]; exact lg zh ⟨zR,zM,zM,zM,zM,zM,zM,zM,trivial⟩)
    ·have d4:decide (x.kind=3)=false:=dF hk
     rw[if_neg hk,Nat.add_zero]at hst
     refine z34 ?_
     exact an (i+1) [(64,some 64),(65,some 65),(66,some 66),(68,some 68),(69,some 69),(70,some 70),(71,some 71),(72,some 72)] hlt (by omega) (by rw[hst]; exact lg zh ⟨zR,zM,zM,zM,zM,zM,zM,zM,trivial⟩)
   ·have d3:decide ((i:Int)<(h.length:Int))=false:=dF (by omega)
    obtain rfl:i=h.length:=by omega
    rw[List.take_length]
    have hee:1+h.countP (fun x=>decide (x.kind=3))=e:=he.symm
    rw[hee]
    refine z15 ?_;refine bE rfl (aS [(0,some 64),(1,some 65),(2,some 66),(4,some 68),(5,some 69),(6,some 70),(7,some 71),(8,some 72)] hprep rfl rfl rfl (aT rfl rfl au) ⟨zH,zN,zN,zN,zN,zN,zN,zN,trivial⟩ rfl rfl (.inl rfl) rfl rfl) rfl rfl ?_;refine z2 ?_;refine gM 104 [(67,some 96),(73,none),(74,none)] (env':=[(10,.ptr 64 []),(2,.int .i64 fuel)]) (h':=aw (lA l b e p [] ([],[]))) (lg zk ⟨zR,zM,zM,zR,zM,zM,zM,zM,zM,⟨rfl,rfl,rfl⟩,⟨rfl,rfl,rfl⟩,trivial⟩) ?_;refine z6 ?_;refine rQ (gj (κ:=Int) (enc:=i6) (l:=asC i6 p.pl) Try.underlying74 rfl rfl) ?_;refine rQ (ed (m:=((2*p.pl.length:Nat):Int)) aa rfl rfl hw2) ?_;refine rQ (ab.frozen (dA (enc:=cN) (s:=1) (N:=2*p.pl.length) aa (0:Int) rfl rfl rfl rfl rfl rfl rfl hlz rfl) qE) ?_;refine rQ (gZ aa rfl rfl rfl rfl) ?_;refine z7 ?_;refine bE rfl (aS [(0,some 64),(1,some 65),(2,some 66),(3,some 67),(4,some 68),(5,some 69),(6,some 70),(7,some 71),(8,some 72),(9,some 73),(10,some 74)] hno rfl rfl rfl (aT rfl rfl (aE au)) ⟨zH,zN,zN,zH,zN,zN,zN,zN,zN,zH,zH,trivial⟩ rfl rfl (.inl rfl) rfl rfl) rfl rfl ?_;refine z3 ?_;refine bE rfl (aS [(0,some 64),(1,some 65),(2,some 66),(3,some 67),(4,some 68),(5,some 69),(6,some 70),(7,some 71),(8,some 72),(9,some 73),(10,some 74)] had rfl rfl rfl (aT rfl rfl (aE au)) ⟨zH,zN,zN,zH,zN,zN,zN,zN,zN,zH,zH,trivial⟩ rfl rfl (.inl rfl) rfl rfl) rfl rfl ?_;refine z9 ?_
    refine wc_inv (fun s:Nat×QS×List (List aF)=>⟨[(10,.ptr 64 []),(14,.int .i64 s.1),(2,.int .i64 fuel)],aw (lA l b e p s.2.2 s.2.1),80,Try.f22.ntmps,64⟩) (fun s=>fc p l e fuel (fuel.toNat+2-s.1) s.1 s.2.1 s.2.2=r∧Inv s.1 s.2.1 s.2.2∧(∀y∈s.2.1.2,SOk p e y)∧s.2.2.length=s.1∧s.1≤fuel.toNat+1) (fun s=>fuel.toNat+2-s.1) (0,q1,[]) [(73,some 224)] ⟨by rw[hr,hq1]; rfl,hq1 ▸ hI0,hS1,rfl,Nat.zero_le _⟩
     (lg zj ⟨zR,zM,zM,zR,zM,zM,zM,zM,zM,zR,zR,trivial⟩) ?_
    rintro⟨i,q,sp⟩ ⟨hg,hInv,hS,hspl,hif⟩
    simp only at hg hInv hS hspl hif
    refine bt ?_
    show WC _ _ _ _ [(10,.ptr 64 []),(14,.int .i64 i),(2,.int .i64 fuel)] (aw (lA l b e p sp q)) _
    have hqb:=hIb _ _ _ hInv
    cases hx0:q.2[i]? with
    | none =>
     have d5:decide ((i:Int)<(q.2.length:Int))=false:=dF (by have:=List.getElem?_eq_none_iff.1 hx0; omega)
     by_cases hf:fuel<(q.2.length:Int)
     ·have d6:decide (fuel<(q.2.length:Int))=true:=dT hf
      have hfe:fuel.toNat+2-i=(fuel.toNat+1-i)+1:=by omega
      rw[hfe,fc,hx0]at hg
      simp only[if_pos hf]at hg
      subst hg
      obtain⟨rfl,rfl⟩:=hRes
      refine z39 ?_
      exact⟨trivial,[],lf⟩
     ·have d6:decide (fuel<(q.2.length:Int))=false:=dF hf
      have hfe:fuel.toNat+2-i=(fuel.toNat+1-i)+1:=by omega
      rw[hfe,fc,hx0]at hg
      simp only[if_neg hf]at hg
      subst hg
      obtain⟨rfl,rfl⟩:=hRes
      refine z41 ?_
      exact⟨trivial,[],lg zV ⟨zR,zM,zM,zR,zM,zM,zM,zM,zM,zR,zR,trivial⟩⟩
    | some x =>
     have hil:=(List.getElem?_eq_some_iff.1 hx0).1
     have hx:q.2[((i:Int)).toNat]?=some x:=by rw[Int.toNat_natCast]; exact hx0
     have d5:decide ((i:Int)<(q.2.length:Int))=true:=dT (by omega)
     by_cases hf:fuel<(q.2.length:Int)
     ·have d6:decide (fuel<(q.2.length:Int))=true:=dT hf
      have hfe:fuel.toNat+2-i=(fuel.toNat+1-i)+1:=by omega
      rw[hfe,fc,hx0]at hg
      simp only[if_pos hf]at hg
      subst hg
      obtain⟨rfl,rfl⟩:=hRes
      refine z43 ?_
      exact⟨trivial,[],lf⟩
     ·have d6:decide (fuel<(q.2.length:Int))=false:=dF hf
      have hfe:fuel.toNat+2-i=(fuel.toNat+1-i)+1:=by omega
      rw[hfe,ux hx0 hf]at hg
      have hxS:=hS x (List.mem_of_getElem? hx0)
      have hnext:=BV l b e p sp q x P hxS hS (by omega) hqb
      have hlsp:sp.length+1≤1048576:=by omega
      refine z32 ?_;refine yp 4 13 (by kernel_rfl) ?_;iterate 2 refine dt_q [10] [] rfl (bD aa (fun K hk=>hk)) ?_
      refine dt_q [94] [] rfl (bD aa (fun K hk=>hk)) ?_;refine dt_q [95] [] rfl (bD aa (fun K hk=>hk)) ?_;refine dt_q [96] [64] rfl (ay aa rfl rfl rfl rfl) ?_
      iterate 2 refine dt_q [10] [] rfl (bD aa (fun K hk=>hk)) ?_
      refine dt_q [99] [] rfl (bD aa (fun K hk=>hk)) ?_;refine dt_q [100] [] rfl (bD aa (fun K hk=>hk)) ?_;refine dt_q [101] [64] rfl (ay aa rfl rfl rfl rfl) ?_;refine dt_q [14] [] rfl (bD aa (fun K hk=>hk)) ?_;refine dt_q [102,103] [] rfl (bg aa rfl rfl rfl rfl rfl (by omega) (by omega)) ?_;refine dt_q [104] [73] rfl (aX (v :=.d (bQ x)) aa rfl rfl ⟨rfl,x,hx,bQ x,rfl,rfl⟩ rfl) ?_;refine tL [98,105] [64,65,66,67,68,69,70,71,72,73,74] rfl (.plain (aS [(0,some 64),(1,some 65),(2,some 66),(3,some 67),(4,some 68),(5,some 69),(6,some 70),(7,some 71),(8,some 72),(9,some 73),(10,some 74)] hnext rfl rfl rfl (aT rfl rfl (aE au)) ⟨zH,zN,zN,zH,zN,zN,zN,zN,zN,zH,zH,trivial⟩ rfl rfl (.inl rfl) rfl rfl)) rfl rfl ?_;refine dt_w [106] [] rfl (ae aa rfl rfl rfl rfl rfl rfl rfl rfl) ?_;refine Fo [97,107] [74,304] rfl (aJ (s:=1) (enc:=cF) (xs:=sp) aa (cC p l e x q).2 rfl rfl rfl rfl rfl rfl rfl rfl rfl hlsp rfl) ?_;refine dt_q [93] [] rfl (bD aa (fun K hk=>hk)) ?_;refine dt_q [109] [] rfl (bD aa (fun K hk=>hk)) ?_;refine dt_s [110,108] [64] (aG aa rfl rfl rfl ⟨_,⟨_,⟨rfl,rfl,rfl⟩,rfl⟩,rfl⟩ rfl) ?_;refine DB ⟨_,_,rfl,rfl,by decide,rfl,gY _ [] [] rfl (by kernel_rfl),gY _ [] [] rfl (by kernel_rfl),.plain (ay aa rfl rfl rfl rfl)⟩ ?_;refine z7 ?_
      exact an (i+1,(cC p l e x q).1,sp++[(cC p l e x q).2]) [(73,some 296),(74,some 312)] ⟨by simp only; rw[show fuel.toNat+2-(i+1)=fuel.toNat+1-i by omega]; exact hg,hIs _ _ _ _ hInv hx0 (by omega),s6 P hxS hS,by simp only[List.length_append,List.length_singleton]; omega,by simp only; omega⟩ (by simp only; omega) (lg zj ⟨⟨rfl,rfl,_,rfl,aM.of_eq (by simp only[List.length_append,List.length_singleton]; rfl)⟩,zM,zM,zR,zM,zM,zM,zM,zM,zR,zR,trivial⟩)
  cases r with
  | none=>exact main _ _ ⟨rfl,rfl⟩
  | some a=>obtain⟨q,sp⟩:=a; exact main _ _ ⟨rfl,rfl⟩
 exact goal _ rfl
end Go.Proofs.Ytmdgmolbamlicaa
namespace Go.Eng
open Go.RowKit
section
variable {P : Program} {T : Tab} {sz : Nat} {env : Env} {h : Upds} {n : Nat}
theorem tX (hT:aj P T) {t e r r2:Nat} {re:TyR} {s:Nat} {ex ex2:Bool} {cap2:Option Nat} {α:Type} {enc:α→D} {xs:List α} {x y:Operand} {d:D} (el:α) (ht:bh T t=some (.slice e)) (he:lk T e=some re) (hs:Nat.beq re.size s=true) (hs0:Nat.blt 0 s=true)
  (hx:ai env x=some (.own r 0 xs.length s none)) (hrow:aQ h r=some (.ds e s ex enc xs)) (hy:ai env y=some (.own r2 0 1 s cap2)) (hrow2:aQ h r2=some (.lits e s 1 ex2 (.acons (.d d) .anil))) (hd:d=enc el)
  (hlen:xs.length+1≤134217728) (hbytes:Nat.ble re.bytes 1048576=true) :
  ab P (.call { callee :=.builtin .append,args := #[x,y],argTypes := #[t,t] }) env h n (some (.own n 0 (xs.length+1) s none)) [(n,some (.ds e s false enc (xs++[el]))),(r,none)]:=by
 have hs0:=Nat.le_of_ble_eq_true hs0
 have hb:=Nat.le_of_ble_eq_true hbytes
 refine g9 hT (ty:=0) (ys:=[el]) (ex:=ex) ht he (Nat.eq_of_beq_eq_true hs) hs0 hx hrow hy (by simp) (by simp only[maxLen,List.length_cons,List.length_nil]; omega) ?_ ?_
 ·have:(xs.length+[el].length)*re.bytes≤134217728*1048576:=Nat.mul_le_mul (by simpa using hlen) hb
  omega
 ·intro C G st σ w a hA hst
  obtain⟨hy1,_⟩:=ak hst (hA.ev hy)
  have hr2:=hst.rows r2 _ (hA.row _ _ hrow2)
  rcases RelV.own.1 hy1 with ⟨_,_,h0,_⟩ | ⟨b,c,ad,hb,hv,hle,_,_,had⟩
  ·omega
  ·have:ad=⟨b,0,none⟩:=by have:=had (by omega); simpa using this
   subst this
   rcases hr2 with ⟨_,⟨hn,_⟩ | ⟨b',c',cur,cs,hb',_,hh,hcs,_,_,hcl,hrel,htk⟩⟩
   ·rw[hb]at hn; cases hn
   ·rw[hb]at hb'
    cases hb'
    obtain⟨c1,c2,rfl,h1,h2⟩:=hrel
    obtain rfl:c2=[]:=h2
    rw[List.append_nil]at hcl htk
    have h1:Enc w (st.X C.X0 σ) d c1:=h1
    refine⟨⟨b,0,none⟩,_,fun _=>c1,hv,fun i hi=>?_,fun j u hj=>?_⟩
    ·have:i=0:=by simp at hi; exact hi
     subst this
     exact⟨by simpa[←hd]using h1,by simpa using hcl⟩
    ·simp only[List.length_cons,List.length_nil,cat,List.nil_append]at hj
     have hjl:=(List.getElem?_eq_some_iff.1 hj).1
     rw[eB,cell_of_row w b _ cur e (0,0) hh,Nat.zero_add,←Array.getElem?_toList]
     rw[←htk,List.getElem?_take,if_pos (by omega)]at hj
     exact hj
end
end Go.Eng
namespace Go.Proofs.Ytmdgmolbamlicaa
open Go.Eng Go.Plain
set_option maxHeartbeats 32000000
set_option maxRecDepth 20000
def dSt:LSt:=⟨0,[],[],[]⟩
def stN (st:List LSt) (i:Int):LSt:=(st[i.toNat]?).getD dSt
def spN (sp:List (List aF)) (i:Int):List aF:=(sp[i.toNat]?).getD []
def endB (p:Prep) (l:List HOp) (e:Nat) (x:LSt):Bool:=decide (x.era=(e:Int)-1)&&jH l p.lo (zOf p x.era) x
def bkF (i:Nat) (B:List (List Int)) (y:aF):List (List Int):=B.set y.to.toNat (((B[y.to.toNat]?).getD [])++[(i:Int)])
structure GSt where
 B:List (List Int)
 out:List Bool
 opn:List Int
def gd1 (p:Prep) (l:List HOp) (e:Nat) (st:List LSt) (sp:List (List aF)) (g:GSt) (i:Nat):GSt :=
 if endB p l e (stN st i)=true then⟨(spN sp i).foldl (bkF i) g.B,g.out.set i true,g.opn++[(i:Int)]⟩
 else⟨(spN sp i).foldl (bkF i) g.B,g.out,g.opn⟩
def gd0 (n:Nat):GSt:=⟨List.replicate n [],List.replicate n false,[]⟩
def gdA (p:Prep) (l:List HOp) (e:Nat) (st:List LSt) (sp:List (List aF)):Nat→GSt
 | 0=>gd0 st.length
 | i+1=>gd1 p l e st sp (gdA p l e st sp i) i
def pshF (a:List Bool×List Int) (k:Int):List Bool×List Int:=if (a.1[k.toNat]?).getD false=true then a else (a.1.set k.toNat true,a.2++[k])
def popG (B:List (List Int)):Nat→List Bool→List Int→List Bool
 | 0,out,_=>out
 | n+1,out,opn=>match opn.getLast? with
  | none=>out
  | some i=>popG B n (((B[i.toNat]?).getD []).foldl pshF (out,opn.dropLast)).1 (((B[i.toNat]?).getD []).foldl pshF (out,opn.dropLast)).2
def dV (p:Prep) (l:List HOp) (e:Nat) (st:List LSt) (sp:List (List aF)):List Bool :=
 popG (gdA p l e st sp st.length).B (st.length+1) (gdA p l e st sp st.length).out (gdA p l e st sp st.length).opn
def mn (p:Prep) (l:List HOp) (e:Nat) (st:List LSt) (sp:List (List aF)):Nat→Int→Bool
 | 0,_=>false
 | n+1,i=>if decide ((stN st i).era=(e:Int)-1)=true then jH l p.lo (zOf p (stN st i).era) (stN st i) else
  match (spN sp i).find? (fun y=>decide (y.op<0)) with
  | none=>false
  | some y=>mn p l e st sp n y.to
def gX (g:List Bool) (y:aF):Bool:=(g[y.to.toNat]?).getD false
def eO (p:Prep) (l:List HOp) (e:Nat) (st:List LSt) (sp:List (List aF)) (g:List Bool):Nat→Int→List Int→List Int
 | 0,_,acc=>acc
 | n+1,i,acc=>if mn p l e st sp e i=true then acc else
  match (spN sp i).find? (gX g) with
  | none=>acc
  | some y=>eO p l e st sp g n y.to (if decide (0≤y.op)=true then acc++[y.op] else acc)
def cntF (o:List Bool):Nat:=o.countP (!·)
theorem mv {o:List Bool} {i:Nat} (h:o[i]?=some false):cntF (o.set i true)+1=cntF o:=by
 induction o generalizing i with
 | nil=>simp at h
 | cons a o ih =>
  cases i with
  | zero =>
   simp only[List.getElem?_cons_zero,Option.some.injEq]at h
   subst h
   simp[cntF]
  | succ i =>
   have:=ih (i:=i) (by simpa using h)
   simp only[cntF,List.set_cons_succ,List.countP_cons]at this ⊢
   omega
theorem tP (n:Nat):cntF (List.replicate n false)=n:=by
 unfold cntF
 induction n with
 | zero=>rfl
 | succ n ih=>rw[List.replicate_succ,List.countP_cons,ih]; rfl
structure BOk (n c:Nat) (B:List (List Int)):Prop where
 bl:B.length=n
 be:∀b∈B,b.length≤c∧∀k∈b,0≤k∧k<(n:Int)
theorem BOk.get {n c:Nat} {B:List (List Int)} (h:BOk n c B) {j:Nat} (hj:j<n):∃b,B[j]?=some b∧b.length≤c∧∀k∈b,0≤k∧k<(n:Int):=by
 have hl:j<B.length:=by rw[h.bl]; exact hj
 exact⟨_,List.getElem?_eq_getElem hl,h.be _ (List.getElem_mem hl)⟩
theorem Bg {n c i:Nat} {B:List (List Int)} {y:aF} {xs:List Int} (hx:B[y.to.toNat]?=some xs):bkF i B y=B.set y.to.toNat (xs++[(i:Int)]):=by
 rw[bkF,hx]; rfl
theorem DI {n c i:Nat} {B:List (List Int)} {y:aF} (h:BOk n c B) (hi:i<n) (h0:0≤y.to) (h1:y.to<(n:Int)):BOk n (c+1) (bkF i B y):=by
 obtain⟨b,hb,hbl,hbe⟩:=h.get (j:=y.to.toNat) (by omega)
 rw[Bg (n:=n) (c:=c) hb]
 refine⟨by rw[List.length_set]; exact h.bl,fun z hz=>?_⟩
 rcases List.mem_or_eq_of_mem_set hz with hz | rfl
 ·exact⟨Nat.le_succ_of_le (h.be z hz).1,(h.be z hz).2⟩
 ·refine⟨by rw[List.length_append,List.length_singleton]; omega,fun k hk=>?_⟩
  rcases List.mem_append.1 hk with hk | hk
  ·exact hbe k hk
  ·rw[List.mem_singleton.1 hk]; omega
structure SpOk (st:List LSt) (sp:List (List aF)):Prop where
 len:sp.length=st.length
 to:∀ys∈sp,∀y∈ys,0≤y.to∧y.to<(st.length:Int)
def totS:List (List aF)→Nat
 | []=>0
 | ys::l=>ys.length+totS l
theorem mI {sp:List (List aF)} {i:Nat} {ys:List aF} (h:sp[i]?=some ys):totS (sp.take (i+1))=totS (sp.take i)+ys.length:=by
 induction sp generalizing i with
 | nil=>simp at h
 | cons a sp ih =>
  cases i with
  | zero =>
   simp only[List.getElem?_cons_zero,Option.some.injEq]at h
   subst h
   simp[totS]
  | succ i =>
   have:=ih (i:=i) (by simpa using h)
   simp only[List.take_succ_cons,totS]
   omega
theorem nO (sp:List (List aF)) (i:Nat):totS (sp.take i)≤totS sp:=by
 induction sp generalizing i with
 | nil=>simp[totS]
 | cons a sp ih =>
  cases i with
  | zero=>simp[totS]
  | succ i=>have:=ih i; simp only[List.take_succ_cons,totS]; omega
structure OOk (n:Nat) (out:List Bool) (opn:List Int):Prop where
 ol:out.length=n
 oe:∀k∈opn,0≤k∧k<(n:Int)
 cnt:opn.length+cntF out≤n
theorem OOk.get {n:Nat} {out:List Bool} {opn:List Int} (h:OOk n out opn) {k:Int} (h0:0≤k) (h1:k<(n:Int)):∃c,out[k.toNat]?=some c :=
 ⟨_,List.getElem?_eq_getElem (by rw[h.ol]; omega)⟩
theorem Aa {out:List Bool} {opn:List Int} {k:Int} (h:out[k.toNat]?=some true):pshF (out,opn) k=(out,opn):=by
 simp[pshF,h]
theorem Ab {out:List Bool} {opn:List Int} {k:Int} (h:out[k.toNat]?=some false):pshF (out,opn) k=(out.set k.toNat true,opn++[k]):=by
 simp[pshF,h]
theorem OOk.psh {n:Nat} {out:List Bool} {opn:List Int} (h:OOk n out opn) {k:Int} (h0:0≤k) (h1:k<(n:Int)) (hk:out[k.toNat]?=some false):OOk n (out.set k.toNat true) (opn++[k])∧(opn++[k]).length+cntF (out.set k.toNat true)=opn.length+cntF out:=by
 have hc:=mv hk
 have hcnt:=h.cnt
 refine⟨⟨by rw[List.length_set]; exact h.ol,fun j hj=>?_,?_⟩,?_⟩
 ·rcases List.mem_append.1 hj with hj | hj
  ·exact h.oe j hj
  ·rw[List.mem_singleton.1 hj]; exact⟨h0,h1⟩
 ·rw[List.length_append,List.length_singleton]; omega
 ·rw[List.length_append,List.length_singleton]; omega
theorem OOk.pop {n:Nat} {out:List Bool} {opn:List Int} (h:OOk n out opn):OOk n out opn.dropLast :=
 ⟨h.ol,fun k hk=>h.oe k (List.dropLast_subset _ hk),by have:=h.cnt; rw[List.length_dropLast]; omega⟩
theorem p4 {α β:Type} {f:β→α→β} {l:List α} {j:Nat} {a:α} (h:l[j]?=some a) (b:β):(l.take (j+1)).foldl f b=f ((l.take j).foldl f b) a:=by
 have hlt:=(List.getElem?_eq_some_iff.1 h).1
 rw[List.take_succ_eq_append_getElem hlt,(List.getElem?_eq_some_iff.1 h).2,List.foldl_append]
 rfl
end Go.Proofs.Ytmdgmolbamlicaa
namespace Go.Eng
open Go.RowKit
def farQ (a:Nat):Bool:=bif Nat.blt a 1000 then true else Nat.ble 10000000 a
theorem iP {a:Nat} (h:farQ a=true):a<1000∨10000000≤a:=by
 simp only[farQ]at h
 cases h1:Nat.blt a 1000 with
 | true=>exact .inl (Nat.le_of_ble_eq_true h1)
 | false=>rw[h1]at h; exact .inr (Nat.le_of_ble_eq_true h)
def jl:Upds→Bool
 | []=>true
 | (r,_)::l=>bif farQ r then jl l else false
theorem ti:∀(l:Upds),jl l=true→∀r∈aU l,farQ r=true
 | [],_,r,h=>by simp[aU]at h
 | (a,x)::l,h,r,hr=>by
  simp only[jl]at h
  cases hf:farQ a <;> simp only[hf,cond_true,cond_false]at h
  ·cases h
  simp only[aU,List.mem_cons]at hr
  rcases hr with rfl | hr
  ·exact hf
  ·exact ti l h r hr
theorem Le.list {l:bC} {st:St} {env':Env} {h':Upds} {R':List Row} {n' sz' bs':Nat} (τ:Nat→Option Nat) (hsz:sz'=st.sz) (hbs:bs'=st.bs) (hnx:Nat.ble bs' n'=true) (hn':Nat.ble 10000000 n'=true)
  (hnm:cX bs' l=true) (hkf:jl h'=true) (hinj:ey (rho l) (aU h')=true) (hR:R'.length≤9000000)
  (hτ:∀i,i<R'.length→rho l (1000+i)=τ i) (hτi:∀i i' k,i<R'.length→i'<R'.length→τ i=some k→τ i'=some k→i=i') (hτc:∀i k,i<R'.length→τ i=some k→∀r∈aU h',rho l r≠some k)
  (henv:jJ (rho l) st.env n' env') (hrows:gb (rho l) st n' h')
  (htail:∀i row,R'[i]?=some row→row.lt n'=true∧match τ i with
   | some k=>∃x,st.row k=some x∧aM x (row.ren (rho l))
   | none=>row.isNil) :
  Le l st ⟨env',h'++bV 1000 R',n',sz',bs'⟩:=by
 have hn2:=Nat.le_of_ble_eq_true hn'
 refine⟨?_,hsz,hbs,hnx,hnm,fun i v hi=>jJ.out _ henv i v hi,?_⟩
 ·have tl:∀a,a∈aU (bV 1000 R')→∃i,a=1000+i∧i<R'.length:=fun a ha=>by
   have:=th _ _ _ ha
   exact⟨a-1000,by omega,by omega⟩
  refine j3 _ fun a b k ha hb h1 h2=>?_
  rcases pb _ _ _ ha with ha | ha <;> rcases pb _ _ _ hb with hb | hb
  ·exact kA _ hinj a b k ha hb h1 h2
  ·obtain⟨i,rfl,hi⟩:=tl b hb
   rw[hτ i hi]at h2
   exact absurd h1 (hτc i k hi h2 a ha)
  ·obtain⟨i,rfl,hi⟩:=tl a ha
   rw[hτ i hi]at h1
   exact absurd h2 (hτc i k hi h1 b hb)
  ·obtain⟨i,rfl,hi⟩:=tl a ha
   obtain⟨i',rfl,hi'⟩:=tl b hb
   rw[hτ i hi]at h1
   rw[hτ i' hi']at h2
   rw[hτi i i' k hi hi' h1 h2]
 ·intro r row hr
  rw[Ar]at hr
  cases hc:lk h' r with
  | some x =>
   rw[hc]at hr
   exact gb.out _ hrows r row (by rw[hc]; exact hr)
  | none =>
   rw[hc]at hr
   simp only[u9]at hr
   split at hr
   ·rename_i hle
    cases hg:R'[r-1000]? with
    | none=>rw[hg]at hr; cases hr
    | some row' =>
     rw[hg]at hr
     simp only[Option.map_some,Option.bind_some,id]at hr
     cases hr
     obtain⟨h1,h2⟩:=htail _ _ hg
     have hlt:=(List.getElem?_eq_some_iff.1 hg).1
     refine⟨show r<n' by omega,h1,?_⟩
     have h3:=hτ (r-1000) hlt
     rw[show 1000+(r-1000)=r by omega]at h3
     rw[h3]
     cases hq:τ (r-1000) with
     | some k=>rw[hq]at h2; exact h2
     | none=>rw[hq]at h2; exact h2
   ·cases hr
section
variable {α : Type}
def chB (s:Nat) (τ:Nat→Nat):Nat→List (List α)→AV
 | _,[]=>.anil
 | i,xs::l=>.acons (.own (τ i) 0 xs.length s none) (chB s τ (i+1) l)
def fi (t s:Nat) (enc:α→D) (S:List (List α)):List Row:=S.map fun xs=>.ds t s false enc xs
theorem fJ {t s:Nat} {enc:α→D} (S:List (List α)) (i:Nat):(fi t s enc S)[i]?=(S[i]?).map fun xs=>.ds t s false enc xs:=by simp[fi]
theorem ci {t s:Nat} {enc:α→D} (S:List (List α)):(fi t s enc S).length=S.length:=by simp[fi]
theorem m9 {s:Nat} {τ:Nat→Nat} {n:Nat}:∀(S:List (List α)) (i:Nat),(∀j,j<S.length→τ (i+j)<n)→(chB s τ i S).lt n=true
 | [],_,_=>rfl
 | _::S,i,h=>by
  have h0:Nat.blt (τ i) n=true:=Nat.ble_eq_true_of_le (h 0 (by simp))
  simp only[chB,AV.lt,h0,cond_true]
  exact m9 S (i+1) fun j hj=>by have:=h (j+1) (by simp; omega); rwa [show i+(j+1)=i+1+j by omega]at this
theorem oc {s:Nat} {τ τ':Nat→Nat} {ρ:Nat→Option Nat}:∀(S:List (List α)) (i:Nat),(∀j,j<S.length→ρ (τ (i+j))=some (τ' (i+j)))→(chB s τ i S).ren ρ=chB s τ' i S
 | [],_,_=>rfl
 | _::S,i,h=>by
  have h0:=h 0 (by simp)
  simp only[Nat.add_zero]at h0
  simp only[chB,AV.ren,h0]
  rw[oc S (i+1) fun j hj=>by have:=h (j+1) (by simp; omega); rwa [show i+(j+1)=i+1+j by omega]at this]
theorem vE {s:Nat} {τ:Nat→Nat}:∀(S:List (List α)) (i j:Nat) (xs:List α),S[j]?=some xs→(chB s τ i S).chainAt j (j*1)=some (.own (τ (i+j)) 0 xs.length s none)
 | [],_,j,xs,h=>by simp at h
 | ys::S,i,0,xs,h=>by
  simp only[List.getElem?_cons_zero,Option.some.injEq]at h
  subst h
  rfl
 | ys::S,i,j+1,xs,h=>by
  have ih:=vE (s:=s) (τ:=τ) S (i+1) j xs (by simpa using h)
  have e:Nat.ble 1 ((j+1)*1)=true:=Nat.ble_eq_true_of_le (by omega)
  simp only[chB,AV.chainAt,AV.size,e]
  rw[show (j+1)*1-1=j*1 by omega,show i+(j+1)=i+1+j by omega]
  exact ih
theorem wN {s:Nat} {τ τ':Nat→Nat}:∀(S:List (List α)) (i j m:Nat) (xs:List α),j<S.length→xs.length=m→(∀k,k<S.length→k≠j→τ' (i+k)=τ (i+k))→AV.chainSet (.own (τ' (i+j)) 0 m s none) j (chB s τ i S)=chB s τ' i (S.set j xs)
 | [],_,j,m,xs,h,_,_=>by simp at h
 | ys::S,i,0,m,xs,_,hm,h=>by
  have:∀(S:List (List α)) (i:Nat),(∀k,k<S.length→τ' (i+k)=τ (i+k))→chB s τ i S=chB s τ' i S:=by
   intro S
   induction S with
   | nil=>intro _ _; rfl
   | cons ys S ih =>
    intro i h
    have h0:=h 0 (by simp)
    simp only[Nat.add_zero]at h0
    simp only[chB,h0]
    rw[ih (i+1) fun k hk=>by have:=h (k+1) (by simp; omega); rwa [show i+(k+1)=i+1+k by omega]at this]
  subst hm
  simp only[chB,AV.chainSet,List.set_cons_zero,Nat.add_zero]
  rw[this S (i+1) fun k hk=>by have:=h (k+1) (by simp; omega) (by omega); rwa [show i+(k+1)=i+1+k by omega]at this]
 | ys::S,i,j+1,m,xs,hj,hm,h=>by
  have h0:=h 0 (by simp) (by omega)
  simp only[Nat.add_zero]at h0
  have ih:=wN (s:=s) (τ:=τ) (τ':=τ') S (i+1) j m xs (by simpa using hj) hm fun k hk hne=>by have:=h (k+1) (by simp; omega) (by omega); rwa [show i+(k+1)=i+1+k by omega]at this
  simp only[chB,AV.chainSet,List.set_cons_succ,h0]
  rw[show i+(j+1)=i+1+j by omega,ih]
theorem yT {t:TypeId} {s m i:Nat} {ex:Bool} {τ:Nat→Nat} {S:List (List α)} {xs:List α} (hm:m=S.length) (h:S[i]?=some xs):RSub (.lits t 1 m ex (chB s τ 0 S)) [.idx i 1] (.own (τ i) 0 xs.length s none):=by
 subst hm
 refine⟨rfl,(List.getElem?_eq_some_iff.1 h).1,?_⟩
 rw[vE S 0 i xs h,Nat.zero_add]
 rfl
theorem yQ {t:TypeId} {s m i:Nat} {ex:Bool} {τ τ':Nat→Nat} {S:List (List α)} {xs ys:List α} {k len:Nat} (hm:m=S.length) (h:S[i]?=some xs) (hk:τ' i=k) (hl:ys.length=len) (hτ:∀j,j<S.length→j≠i→τ' j=τ j):RUpd (.lits t 1 m ex (chB s τ 0 S)) [.idx i 1] (.own k 0 len s none) (.lits t 1 m ex (chB s τ' 0 (S.set i ys))):=by
 subst hm
 have hi:=(List.getElem?_eq_some_iff.1 h).1
 refine⟨rfl,hi,?_⟩
 rw[vE S 0 i xs h]
 refine⟨_,⟨rfl,rfl,rfl⟩,?_⟩
 have:=wN (s:=s) (τ:=τ) (τ':=τ') S 0 i len ys hi hl (fun k hk hne=>by rw[Nat.zero_add]; exact hτ k hk hne)
 rw[Nat.zero_add,hk]at this
 rw[this]
theorem tQ {s:Nat} {τ:Nat→Nat} {ρ:Nat→Option Nat}:∀(n i:Nat),(∀j,j<n→ρ (τ (i+j))=none)→(chB s τ i (List.replicate n ([]:List α))).ren ρ=dsAV (List.replicate n (.sc nil_))
 | 0,_,_=>rfl
 | n+1,i,h=>by
  have h0:=h 0 (by omega)
  simp only[Nat.add_zero]at h0
  have ih:=tQ (s:=s) (τ:=τ) (ρ:=ρ) n (i+1) fun j hj=>by have:=h (j+1) (by omega); rwa [show i+(j+1)=i+1+j by omega]at this
  simp only[List.replicate_succ,chB,AV.ren,h0,dsAV,ih]
  rfl
theorem aM.nils {t:TypeId} {s n:Nat} {ex:Bool} {β:Type} {enc:β→D} {z:β} (hz:enc z=.sc nil_):aM (.ds t s ex enc (List.replicate n z)) (.lits t s n ex (dsAV (List.replicate n (.sc nil_)))):=by
 rintro σ w X r (⟨h1,h2⟩ | ⟨b,c,cur,h1,h2,h3,h4,h5,h6,f,h7,h8⟩)
 ·have:n=0:=by simpa using h2
  exact⟨m6 _,.inl ⟨h1,this⟩⟩
 ·simp only[List.length_replicate]at h2 h5 h7 h8
  refine⟨m6 _,.inr ⟨b,c,cur,cat f n,h1,h2,h3,h4,h5,h6,cz n fun i hi=>(h7 i hi).2,?_,h8⟩⟩
  have:=wH (σ:=σ) (w:=w) (X:=X) (enc:=enc) (List.replicate n z) f fun i hi=>by
   have:=(h7 i (by simpa using hi)).1
   simpa using this
  rw[List.length_replicate,List.map_replicate,hz]at this
  exact this
end
def fM:Nat→Nat→bC
 | _,0=>[]
 | b,n+1=>(b,none)::fM (b+1) n
theorem uI:∀(n b i:Nat),i<n→rho (fM b n) (b+i)=none
 | 0,_,_,h=>by omega
 | n+1,b,0,_=>by simp[fM,rho]
 | n+1,b,i+1,h=>by
  have:Nat.beq b (b+(i+1))=false:=by
   cases hc:Nat.beq b (b+(i+1)) with
   | true=>have:=Nat.eq_of_beq_eq_true hc; omega
   | false=>rfl
  simp only[fM,rho,this,cond_false]
  rw[show b+(i+1)=b+1+i by omega]
  exact uI n (b+1) i (by omega)
theorem oH:∀(n b r:Nat),(r<b∨b+n≤r)→rho (fM b n) r=some r
 | 0,_,_,_=>rfl
 | n+1,b,r,h=>by
  have:Nat.beq b r=false:=by
   cases hc:Nat.beq b r with
   | true=>have:=Nat.eq_of_beq_eq_true hc; omega
   | false=>rfl
  simp only[fM,rho,this,cond_false]
  exact oH n (b+1) r (by omega)
theorem l8 {bs:Nat}:∀(n b:Nat),bs≤b→cX bs (fM b n)=true
 | 0,_,_=>rfl
 | n+1,b,h=>by
  simp only[fM,cX,Nat.ble_eq_true_of_le h,cond_true]
  exact l8 n (b+1) (by omega)
def jw:bC→Bool
 | []=>true
 | (r,_)::l=>bif farQ r then jw l else false
theorem nC:∀(l:bC),jw l=true→∀p∈l,p.1<1000∨10000000≤p.1
 | [],_,p,h=>by simp at h
 | (r,k)::l,h,p,hp=>by
  simp only[jw]at h
  cases hf:farQ r <;> simp only[hf,cond_true,cond_false]at h
  ·cases h
  simp only[List.mem_cons]at hp
  rcases hp with rfl | hp
  ·exact iP hf
  ·exact nC l h p hp
theorem sK:∀(l0:bC) (l:bC) (r:Nat),(∀p∈l0,p.1≠r)→rho (l0++l) r=rho l r
 | [],_,_,_=>rfl
 | (j,k)::l0,l,r,h=>by
  have:Nat.beq j r=false:=by
   cases hc:Nat.beq j r with
   | true=>exact absurd (Nat.eq_of_beq_eq_true hc) (h (j,k) List.mem_cons_self)
   | false=>rfl
  simp only[List.cons_append,rho,this,cond_false]
  exact sK l0 l r fun p hp=>h p (List.mem_cons_of_mem _ hp)
theorem rn {l0:bC} (hd:jw l0=true) (l:bC) {i:Nat} (hi:i<9000000):rho (l0++l) (1000+i)=rho l (1000+i):=
 sK l0 l _ fun p hp=>by have:=nC l0 hd p hp; omega
end Go.Eng
namespace Go.Eng
open Go.RowKit
def okn (m r:Nat):Bool:=bif farQ r then !Nat.beq r m else false
theorem dR {m r:Nat} (h:okn m r=true):(r<1000∨10000000≤r)∧r≠m:=by
 simp only[okn]at h
 cases hf:farQ r <;> simp only[hf,cond_true,cond_false]at h
 ·cases h
 exact⟨iP hf,fun e=>by subst e; rw[Nat.beq_refl]at h; cases h⟩
def AV.okm (m:Nat):AV→Bool
 | .acons a r=>bif a.okm m then r.okm m else false
 | .own r _ _ _ _=>okn m r
 | .ptr r _=>okn m r
 | .asl r _ _ _=>okn m r
 | .mapr r=>okn m r
 | .fn _ p q=>bif p.okm m then q.okm m else false
 | .tup q=>q.okm m
 | _=>true
def Row.okm (m:Nat):Row→Bool
 | .box _ a=>a.okm m
 | .lits _ _ _ _ a=>a.okm m
 | .mo a=>a.okm m
 | .mi a _ _ _=>a.okm m
 | _=>true
theorem AV.okm_ren {m:Nat} {ρ:Nat→Option Nat} (hρ:∀r,okn m r=true→ρ r=some r):∀(v:AV),v.okm m=true→v.ren ρ=v:=by
 intro v
 induction v with
 | acons a r iha ihr =>
  intro h
  simp only[AV.okm]at h
  cases ha:a.okm m <;> simp only[ha,cond_true,cond_false]at h
  ·cases h
  simp only[AV.ren,iha ha,ihr h]
 | own r=>intro h; simp only[AV.ren,hρ r h]
 | ptr r=>intro h; simp only[AV.ren,hρ r h]
 | asl r=>intro h; simp only[AV.ren,hρ r h]
 | mapr r=>intro h; simp only[AV.ren,hρ r h]
 | fn f p q ihp ihq =>
  intro h
  simp only[AV.okm]at h
  cases ha:p.okm m <;> simp only[ha,cond_true,cond_false]at h
  ·cases h
  simp only[AV.ren,ihp ha,ihq h]
 | tup q ih=>intro h; simp only[AV.ren,ih h]
 | _=>intro _; rfl
theorem Row.okm_ren {m:Nat} {ρ:Nat→Option Nat} (hρ:∀r,okn m r=true→ρ r=some r) (row:Row) (h:row.okm m=true):row.ren ρ=row:=by
 cases row with
 | box t a=>simp only[Row.ren,AV.okm_ren hρ a h]
 | lits t s k ex a=>simp only[Row.ren,AV.okm_ren hρ a h]
 | mo a=>simp only[Row.ren,AV.okm_ren hρ a h]
 | mi a=>simp only[Row.ren,AV.okm_ren hρ a h]
 | _=>rfl
theorem ta {κ ν:Type} {enc:κ→D} {encV:ν→D} {m:Nat}:∀(l:List (κ×ν)),(mapC enc (asC encV l)).okm m=true
 | []=>rfl
 | (k,v)::l=>by
  have:=ta (enc:=enc) (encV:=encV) (m:=m) l
  simp only[asC,List.map_cons,mapC,AV.okm,cond_true]at this ⊢
  exact this
def lc (m:Nat) (env0:Env) (n:Nat):Env→Prop
 | []=>True
 | (i,v)::l=>lk env0 i=some v∧v.lt n=true∧v.okm m=true∧lc m env0 n l
def eC (m:Nat) (h0:Upds) (n:Nat):Upds→Prop
 | []=>True
 | (r,row)::l=>okn m r=true∧(match row with
   | none=>True
   | some row=>Nat.blt r n=true∧row.lt n=true∧row.okm m=true∧aQ h0 r=some row)∧eC m h0 n l
theorem lc.le {m n:Nat} {env0:Env} {ρ:Nat→Option Nat} (hρ:∀r,okn m r=true→ρ r=some r):∀(env:Env),lc m env0 n env→jJ ρ env0 n env
 | [],_=>trivial
 | (i,v)::l,⟨h1,h2,h3,h4⟩=>⟨⟨v,h1,AVLe.of_eq (AV.okm_ren hρ v h3).symm⟩,h2,lc.le hρ l h4⟩
theorem eC.le {m n:Nat} {st:St} {ρ:Nat→Option Nat} (hρ:∀r,okn m r=true→ρ r=some r):∀(h:Upds),eC m st.heap n h→gb ρ st n h
 | [],_=>trivial
 | (r,none)::l,⟨_,_,h3⟩=>⟨trivial,eC.le hρ l h3⟩
 | (r,some row)::l,⟨h1,⟨h2,h3,h4,h5⟩,h6⟩=>⟨⟨h2,h3,by rw[hρ r h1]; exact⟨row,by rw[←ba]; exact h5,aM.of_eq (Row.okm_ren hρ row h4).symm⟩⟩,eC.le hρ l h6⟩
theorem eC.keys {m n:Nat} {h0:Upds}:∀(h:Upds),eC m h0 n h→∀r∈aU h,okn m r=true
 | [],_,r,hr=>by simp[aU]at hr
 | (a,x)::l,⟨h1,_,h3⟩,r,hr=>by
  simp only[aU,List.mem_cons]at hr
  rcases hr with rfl | hr
  ·exact h1
  ·exact eC.keys l h3 r hr
theorem jj:∀(l:Upds),(∀r∈aU l,farQ r=true)→jl l=true
 | [],_=>rfl
 | (a,x)::l,h=>by
  simp only[jl]
  rw[h a (by simp[aU]),cond_true]
  exact jj l fun r hr=>h r (by simp[aU,hr])
theorem sf {a:Nat} (h:a<1000∨10000000≤a):farQ a=true:=by
 unfold farQ
 rcases h with h | h
 ·rw[show Nat.blt a 1000=true from Nat.ble_eq_true_of_le h]; rfl
 ·rw[Nat.ble_eq_true_of_le h]; cases Nat.blt a 1000 <;> rfl
theorem lC:∀(B:Upds) (R:List Row) (i:Nat) (row:Row),i<9000000→(∀r∈aU B,r<1000∨10000000≤r)→R[i]?=some row→aQ (B++bV 1000 R) (1000+i)=some row
 | [],R,i,row,_,_,h=>dh h
 | (a,x)::B,R,i,row,hi,hf,h=>by
  have:=hf a (by simp[aU])
  exact qB (by omega) (lC B R i row hi (fun r hr=>hf r (by simp[aU,hr])) h)
theorem farl {a i:Nat} {y:Option Row} {l:Upds} {x:Option Row} (ha:farQ a=true) (hi:i<9000000) (h:aQ l (1000+i)=x):aQ ((a,y)::l) (1000+i)=x:=by
 have:=iP ha
 exact qB (by omega) h
section
variable {P : Program} {sz n : Nat} {env : Env} {Q : Exit → St → Prop} {c : Code} {α : Type} {t tt s : Nat} {ex : Bool} {enc : α → D} {S : List (List α)}
theorem Le.stayL {l0:bC} {st:St} {env':Env} {h':Upds} {n' sz' bs':Nat} (hsz:sz'=st.sz) (hbs:bs'=st.bs) (hnx:Nat.ble bs' n'=true) (hn':Nat.ble 10000000 n'=true)
  (hnm:cX bs' l0=true) (hkf:jl h'=true) (hinj:ey (rho l0) (aU h')=true) (hdom:jw l0=true) (him:∀r∈aU h',∀k,rho l0 r=some k→k<1000∨10000000≤k) (hR:S.length≤9000000)
  (henv:jJ (rho l0) st.env n' env') (hrows:gb (rho l0) st n' h')
  (hlk:∀i row,(fi t s enc S)[i]?=some row→aQ st.heap (1000+i)=some row) :
  Le l0 st ⟨env',h'++bV 1000 (fi t s enc S),n',sz',bs'⟩:=by
 refine Le.list (fun i=>some (1000+i)) hsz hbs hnx hn' hnm hkf hinj (by rw[ci]; exact hR) (fun i hi=>?_) (fun i i' k _ _ h1 h2=>by simp only[Option.some.injEq]at h1 h2; omega) (fun i k hi h1 r hr h2=>by cases h1; rw[ci]at hi; have:=him r hr _ h2; omega) henv hrows (fun i row hr=>?_)
 ·rw[ci]at hi
  have:=rn hdom [] (i:=i) (by omega)
  rw[List.append_nil]at this
  exact this
 ·have hlt:=(List.getElem?_eq_some_iff.1 hr).1
  have h2:=hlk i row hr
  rw[fJ]at hr
  cases hc:S[i]? with
  | none=>rw[hc]at hr; cases hr
  | some xs =>
   rw[hc]at hr
   cases hr
   exact⟨rfl,_,by rw[←ba]; exact h2,aM.refl _⟩
theorem cY {l0:bC} {h':Upds} (h:(aU h').all (fun r=>match rho l0 r with | some k=>farQ k | none=>true)=true):∀r∈aU h',∀k,rho l0 r=some k→k<1000∨10000000≤k:=fun r hr k hk=>by
 have:=List.all_eq_true.1 h r hr
 simp only[hk]at this
 exact iP this
theorem dI {l0:bC} {τ τ':Nat→Nat} {m:Nat} (h:∀i,i<S.length→rho l0 (τ' i)=some (τ i)):aM (.lits tt 1 m ex (chB s τ 0 S)) ((Row.lits tt 1 m ex (chB s τ' 0 S)).ren (rho l0)):=by
 refine aM.of_eq ?_
 simp only[Row.ren]
 rw[oc (τ':=τ) S 0 fun j hj=>by rw[Nat.zero_add]; exact h j hj]
theorem iY {l0:bC} (hdom:jw l0=true) (hS:S.length≤9000000):∀i,i<S.length→rho l0 ((fun i=>1000+i) i)=some ((fun i=>1000+i) i):=fun i hi=>by
 have:=rn hdom [] (i:=i) (by omega)
 rw[List.append_nil]at this
 exact this
theorem kh {l0:bC} {j m N:Nat} (hdom:jw l0=true) (hS:S.length≤9000000) (hm:rho l0 m=some N):∀i,i<S.length→rho l0 (cS j m i)=some (cS j N i):=fun i hi=>by
 unfold cS
 split
 ·exact hm
 ·have:=rn hdom [] (i:=i) (by omega)
  rw[List.append_nil]at this
  exact this
theorem Le.openL (A:Upds) (j m r0 n0:Nat) (xs:List α) (hS:S[j]?=some xs) (hl:S.length≤9000000) (hm:Nat.ble 64 m=true) (hmf:farQ m=true) (hmn:Nat.blt m n=true) (hr:okn m r0=true) (hrn:Nat.blt r0 n=true) (hn:Nat.ble 10000000 n=true)
  (he:lc m env n env) (hA:eC m ((r0,some (.lits tt 1 n0 ex (chB s (fun i=>1000+i) 0 S)))::A++bV 1000 (fi t s enc S)) n A)
  :
  Le [(m,some (1000+j)),(1000+j,none)] ⟨env,((r0,some (.lits tt 1 n0 ex (chB s (fun i=>1000+i) 0 S)))::A++bV 1000 (fi t s enc S)),n,sz,64⟩ ⟨env,((m,some (.ds t s false enc xs))::(r0,some (.lits tt 1 n0 ex (chB s (cS j m) 0 S)))::A++bV 1000 (fi t s enc (S.set j []))),n,sz,64⟩:=by
 have hjl:=(List.getElem?_eq_some_iff.1 hS).1
 have hm2:=Nat.le_of_ble_eq_true hm
 have hn2:=Nat.le_of_ble_eq_true hn
 have hmf2:=iP hmf
 obtain⟨hr1,hr2⟩:=dR hr
 have hρ:∀r,okn m r=true→rho [(m,some (1000+j)),(1000+j,none)] r=some r:=fun r h=>by
  obtain⟨h1,h2⟩:=dR h
  have e1:Nat.beq m r=false:=by
   cases hc:Nat.beq m r with
   | true=>exact absurd (Nat.eq_of_beq_eq_true hc).symm h2
   | false=>rfl
  have e2:Nat.beq (1000+j) r=false:=by
   cases hc:Nat.beq (1000+j) r with
   | true=>have:=Nat.eq_of_beq_eq_true hc; omega
   | false=>rfl
  simp[rho,e1,e2]
 have hρm:rho [(m,some (1000+j)),(1000+j,none)] m=some (1000+j):=by simp[rho,Nat.beq_refl]
 have hρl:∀i,i<S.length→rho [(m,some (1000+j)),(1000+j,none)] (1000+i)=if i=j then none else some (1000+i):=fun i hi=>by
  have e1:Nat.beq m (1000+i)=false:=by
   cases hc:Nat.beq m (1000+i) with
   | true=>have:=Nat.eq_of_beq_eq_true hc; omega
   | false=>rfl
  by_cases h:i=j
  ·subst h; simp[rho,e1,Nat.beq_refl]
  ·have e2:Nat.beq (1000+j) (1000+i)=false:=by
    cases hc:Nat.beq (1000+j) (1000+i) with
    | true=>have:=Nat.eq_of_beq_eq_true hc; omega
    | false=>rfl
   simp[rho,e1,e2,h]
 have hkA:=eC.keys A hA
 have hkall:∀r∈aU ((m,some (.ds t s false enc xs))::(r0,some (.lits tt 1 n0 ex (chB s (cS j m) 0 S)))::A),r=m∨okn m r=true:=fun r hr'=>by
  simp only[aU,List.mem_cons]at hr'
  rcases hr' with rfl | rfl | hr'
  ·exact .inl rfl
  ·exact .inr hr
  ·exact .inr (hkA r hr')
 have hlk:∀i row,(fi t s enc S)[i]?=some row→aQ ((r0,some (.lits tt 1 n0 ex (chB s (fun i=>1000+i) 0 S)))::A++bV 1000 (fi t s enc S)) (1000+i)=some row:=fun i row h=>by
  have hi:=(List.getElem?_eq_some_iff.1 h).1
  rw[ci]at hi
  refine lC _ _ i row (by omega) (fun r hr'=>?_) h
  simp only[aU,List.mem_cons]at hr'
  rcases hr' with rfl | hr'
  ·exact hr1
  ·exact (dR (hkA r hr')).1
 refine (Le.list (h':=(m,some (.ds t s false enc xs))::(r0,some (.lits tt 1 n0 ex (chB s (cS j m) 0 S)))::A) (fun i=>if i=j then none else some (1000+i)) rfl rfl (Nat.ble_eq_true_of_le (by omega)) hn ?_ (jj _ fun r hr'=>?_) (j3 _ fun a b k ha hb h1 h2=>?_) (by rw[ci,List.length_set]; exact hl) (fun i hi=>hρl i (by rw[ci,List.length_set]at hi; exact hi)) (fun i i' k _ _ h1 h2=>?_) (fun i k hi h1 r hr' h2=>?_) (lc.le hρ _ he) ⟨⟨hmn,rfl,?_⟩,⟨hrn,?_,?_⟩,eC.le hρ A hA⟩ (fun i row hrow=>?_))
 ·simp only[cX,hm,cond_true]
  rw[Nat.ble_eq_true_of_le (by omega:64≤1000+j)]; rfl
 ·rcases hkall r hr' with rfl | h
  ·exact hmf
  ·exact sf (dR h).1
 ·rcases hkall a ha with rfl | h3 <;> rcases hkall b hb with rfl | h4
  ·rfl
  ·rw[hρm]at h1
   rw[hρ b h4]at h2
   cases h1
   cases h2
   have:=(dR h4).1; omega
  ·rw[hρm]at h2
   rw[hρ a h3]at h1
   cases h1
   cases h2
   have:=(dR h3).1; omega
  ·rw[hρ a h3]at h1
   rw[hρ b h4]at h2
   cases h1
   cases h2
   rfl
 ·split at h1
  ·cases h1
  ·split at h2
   ·cases h2
   ·simp only[Option.some.injEq]at h1 h2; omega
 ·rw[ci,List.length_set]at hi
  split at h1
  ·cases h1
  ·rename_i hne
   cases h1
   rcases hkall r hr' with rfl | h
   ·rw[hρm]at h2; simp only[Option.some.injEq]at h2; omega
   ·rw[hρ r h]at h2
    cases h2
    have:=(dR h).1; omega
 ·rw[hρm]
  exact⟨_,by rw[←ba]; exact hlk j _ (by rw[fJ,hS]; rfl),aM.refl _⟩
 ·have:=Nat.le_of_ble_eq_true hmn
  refine m9 S 0 fun i hi=>?_
  rw[Nat.zero_add]
  unfold cS
  split <;> omega
 ·rw[hρ r0 hr]
  refine⟨.lits tt 1 n0 ex (chB s (fun i=>1000+i) 0 S),by rw[←ba]; simp only[aQ,List.cons_append,aN,if_pos],aM.of_eq ?_⟩
  simp only[Row.ren]
  rw[oc (τ':=fun i=>1000+i) S 0 fun i hi=>?_]
  rw[Nat.zero_add]
  unfold cS
  split
  ·rename_i e; subst e; exact hρm
  ·rename_i e; rw[hρl i hi,if_neg e]
 ·have hi:=(List.getElem?_eq_some_iff.1 hrow).1
  rw[fJ]at hrow
  rw[ci,List.length_set]at hi
  by_cases h:i=j
  ·subst h
   rw[List.getElem?_set_self hjl]at hrow
   cases hrow
   refine⟨rfl,?_⟩
   rw[if_pos rfl]
   exact rfl
  ·rw[List.getElem?_set_ne (Ne.symm h)]at hrow
   cases hc:S[i]? with
   | none=>rw[hc]at hrow; cases hrow
   | some ys =>
    rw[hc]at hrow
    cases hrow
    refine⟨rfl,?_⟩
    rw[if_neg h]
    exact⟨_,by rw[←ba]; exact hlk i _ (by rw[fJ,hc]; rfl),aM.refl _⟩
theorem Le.closeL (A:Upds) (j N r0 n0:Nat) (ys:List α) (hS:S[j]?=some ys) (hl:S.length≤9000000) (hNf:farQ N=true) (hr:okn N r0=true) (hrn:Nat.blt r0 n=true) (hn:Nat.ble 10000000 n=true)
  (he:lc N env n env) (hA:eC N ((N,some (.ds t s false enc ys))::(r0,some (.lits tt 1 n0 ex (chB s (cS j N) 0 S)))::A++bV 1000 (fi t s enc (S.set j []))) n A)
  :
  Le [(1000+j,some N)] ⟨env,((N,some (.ds t s false enc ys))::(r0,some (.lits tt 1 n0 ex (chB s (cS j N) 0 S)))::A++bV 1000 (fi t s enc (S.set j []))),n,sz,64⟩ ⟨env,((r0,some (.lits tt 1 n0 ex (chB s (fun i=>1000+i) 0 S)))::A++bV 1000 (fi t s enc S)),n,sz,64⟩:=by
 have hjl:=(List.getElem?_eq_some_iff.1 hS).1
 have hn2:=Nat.le_of_ble_eq_true hn
 have hNf2:=iP hNf
 obtain⟨hr1,hr2⟩:=dR hr
 have hρ:∀r,okn N r=true→rho [(1000+j,some N)] r=some r:=fun r h=>by
  obtain⟨h1,h2⟩:=dR h
  have e2:Nat.beq (1000+j) r=false:=by
   cases hc:Nat.beq (1000+j) r with
   | true=>have:=Nat.eq_of_beq_eq_true hc; omega
   | false=>rfl
  simp[rho,e2]
 have hρl:∀i,i<S.length→rho [(1000+j,some N)] (1000+i)=some (cS j N i):=fun i hi=>by
  unfold cS
  by_cases h:i=j
  ·subst h; simp[rho,Nat.beq_refl]
  ·have e2:Nat.beq (1000+j) (1000+i)=false:=by
    cases hc:Nat.beq (1000+j) (1000+i) with
    | true=>have:=Nat.eq_of_beq_eq_true hc; omega
    | false=>rfl
   simp[rho,e2,h]
 have hkA:=eC.keys A hA
 have hlk:∀i row,(fi t s enc (S.set j []))[i]?=some row→aQ ((N,some (.ds t s false enc ys))::(r0,some (.lits tt 1 n0 ex (chB s (cS j N) 0 S)))::A++bV 1000 (fi t s enc (S.set j []))) (1000+i)=some row:=fun i row h=>by
  have hi:=(List.getElem?_eq_some_iff.1 h).1
  rw[ci,List.length_set]at hi
  refine lC _ _ i row (by omega) (fun r hr'=>?_) h
  simp only[aU,List.mem_cons]at hr'
  rcases hr' with rfl | rfl | hr'
  ·exact hNf2
  ·exact hr1
  ·exact (dR (hkA r hr')).1
 have hkall:∀r∈aU ((r0,some (.lits tt 1 n0 ex (chB s (fun i=>1000+i) 0 S)))::A),okn N r=true:=fun r hr'=>by
  simp only[aU,List.mem_cons]at hr'
  rcases hr' with rfl | hr'
  ·exact hr
  ·exact hkA r hr'
 refine (Le.list (h':=(r0,some (.lits tt 1 n0 ex (chB s (fun i=>1000+i) 0 S)))::A) (fun i=>some (cS j N i)) rfl rfl (Nat.ble_eq_true_of_le (by omega)) hn ?_ (jj _ fun r hr'=>?_) (j3 _ fun a b k ha hb h1 h2=>?_) (by rw[ci]; exact hl) (fun i hi=>hρl i (by rw[ci]at hi; exact hi)) (fun i i' k hi hi' h1 h2=>?_) (fun i k hi h1 r hr' h2=>?_) (lc.le hρ _ he) ⟨⟨hrn,?_,?_⟩,eC.le hρ A hA⟩ (fun i row hrow=>?_))
 ·simp only[cX]
  rw[Nat.ble_eq_true_of_le (by omega:64≤1000+j)]; rfl
 ·exact sf (dR (hkall r hr')).1
 ·rw[hρ a (hkall a ha)]at h1
  rw[hρ b (hkall b hb)]at h2
  cases h1
  cases h2
  rfl
 ·rw[ci]at hi hi'
  cases h1
  simp only[Option.some.injEq]at h2
  unfold cS at h2
  split at h2 <;> split at h2 <;> omega
 ·rw[ci]at hi
  cases h1
  have h3:=hkall r hr'
  rw[hρ r h3]at h2
  simp only[Option.some.injEq]at h2
  obtain⟨h4,h5⟩:=dR h3
  unfold cS at h2
  split at h2
  ·exact h5 h2
  ·omega
 ·refine m9 S 0 fun i hi=>?_
  omega
 ·rw[hρ r0 hr]
  refine⟨.lits tt 1 n0 ex (chB s (cS j N) 0 S),?_,aM.of_eq ?_⟩
  ·rw[←ba]
   simp only[aQ,List.cons_append,aN]
   rw[if_neg (Ne.symm hr2)]
   simp
  ·simp only[Row.ren]
   rw[oc (τ':=cS j N) S 0 fun i hi=>by rw[Nat.zero_add]; exact hρl i hi]
 ·have hi:=(List.getElem?_eq_some_iff.1 hrow).1
  rw[fJ]at hrow
  rw[ci]at hi
  cases hc:S[i]? with
  | none=>rw[hc]at hrow; cases hrow
  | some zs =>
   rw[hc]at hrow
   cases hrow
   refine⟨rfl,?_⟩
   by_cases h:i=j
   ·subst h
    rw[hS]at hc
    cases hc
    refine⟨.ds t s false enc ys,?_,aM.refl _⟩
    rw[kw,←ba]
    simp only[aQ,List.cons_append,aN,if_pos]
   ·refine⟨.ds t s false enc zs,?_,aM.refl _⟩
    rw[mQ h,←ba]
    exact hlk i _ (by rw[fJ,List.getElem?_set_ne (Ne.symm h),hc]; rfl)
theorem Le.nilsL (A:Upds) (r0 k:Nat) (hk:k≤9000000) (hr:okn 999 r0=true) (hrn:Nat.blt r0 n=true) (hn:Nat.ble 10000000 n=true)
  (he:lc 999 env n env) (hA:eC 999 ((r0,some (.lits tt 1 k ex (dsAV (List.replicate k (.sc nil_)))))::A) n A)
  :
  Le (fM 1000 k) ⟨env,((r0,some (.lits tt 1 k ex (dsAV (List.replicate k (.sc nil_)))))::A),n,sz,64⟩ ⟨env,((r0,some (.lits tt 1 k ex (chB s (fun i=>1000+i) 0 (List.replicate k ([]:List α)))))::A++bV 1000 (fi t s enc (List.replicate k []))),n,sz,64⟩:=by
 have hn2:=Nat.le_of_ble_eq_true hn
 obtain⟨hr1,hr2⟩:=dR hr
 have hρ:∀r,okn 999 r=true→rho (fM 1000 k) r=some r:=fun r h=>by
  obtain⟨h1,h2⟩:=dR h
  exact oH k 1000 r (by omega)
 have hkA:=eC.keys A hA
 have hkall:∀r∈aU ((r0,some (.lits tt 1 k ex (chB s (fun i=>1000+i) 0 (List.replicate k ([]:List α)))))::A),okn 999 r=true:=fun r hr'=>by
  simp only[aU,List.mem_cons]at hr'
  rcases hr' with rfl | hr'
  ·exact hr
  ·exact hkA r hr'
 refine (Le.list (h':=(r0,some (.lits tt 1 k ex (chB s (fun i=>1000+i) 0 (List.replicate k ([]:List α)))))::A) (fun _=>none) rfl rfl (Nat.ble_eq_true_of_le (by omega)) hn (l8 _ _ (by decide)) (jj _ fun r hr'=>sf (dR (hkall r hr')).1) (j3 _ fun a b k ha hb h1 h2=>?_) (by rw[ci,List.length_replicate]; exact hk) (fun i hi=>by rw[ci,List.length_replicate]at hi; exact uI k 1000 i hi) (fun i i' k _ _ h1=>by cases h1) (fun i k hi h1=>by cases h1) (lc.le hρ _ he) ⟨⟨hrn,?_,?_⟩,eC.le hρ A hA⟩ (fun i row hrow=>?_))
 ·rw[hρ a (hkall a ha)]at h1
  rw[hρ b (hkall b hb)]at h2
  cases h1
  cases h2
  rfl
 ·refine m9 _ 0 fun i hi=>?_
  rw[List.length_replicate]at hi
  omega
 ·rw[hρ r0 hr]
  refine⟨.lits tt 1 k ex (dsAV (List.replicate k (.sc nil_))),?_,aM.of_eq ?_⟩
  ·rw[←ba]
   simp only[aQ,aN,if_pos]
  ·simp only[Row.ren]
   rw[tQ k 0 fun i hi=>by rw[Nat.zero_add]; exact uI k 1000 i hi]
 ·rw[fJ]at hrow
  cases hc:(List.replicate k ([]:List α))[i]? with
  | none=>rw[hc]at hrow; cases hrow
  | some zs =>
   rw[hc]at hrow
   cases hrow
   have:zs=[]:=(List.mem_replicate.1 (List.mem_of_getElem? hc)).2
   subst this
   exact⟨rfl,rfl⟩
end
end Go.Eng
namespace Go.Proofs.Ytmdgmolbamlicaa
open Go.Eng Go.Plain
set_option maxHeartbeats 32000000
set_option maxRecDepth 20000
attribute [local irreducible] WC RegS RegD SeqQ BlkQ ScoQ RegK CutK Sat SatN FnIs LoopQ ab OpIs
theorem dK {α:Type} {t s:Nat} {enc:α→D} {S:List (List α)} {i:Nat} {row:Row} (h:(fi t s enc S)[i]?=some row):i<S.length:=by
 have:=(List.getElem?_eq_some_iff.1 h).1
 rwa [ci]at this
theorem jA {α:Type} {B:List (List α)} {t m n:Nat} {ex:Bool} (h:B.length≤9000000) (hn:10000000≤n):(Row.lits t 1 m ex (chB 1 (fun i=>1000+i) 0 B)).lt n=true :=
 m9 B 0 fun i hi=>by omega
theorem iR {α:Type} {B:List (List α)} {t m n j N:Nat} {ex:Bool} (h:B.length≤9000000) (hn:10000000≤n) (hN:N<n):(Row.lits t 1 m ex (chB 1 (cS j N) 0 B)).lt n=true :=
 m9 B 0 fun i hi=>by rw[Nat.zero_add]; unfold cS; split <;> omega
theorem qa {α:Type} {t s m i k:Nat} {ex:Bool} {τ:Nat→Nat} {S:List (List α)} {xs:List α} (hm:m=S.length) (h:S[i]?=some xs) (hk:τ i=k):RSub (.lits t 1 m ex (chB s τ 0 S)) [.idx i 1] (.own k 0 xs.length s none):=hk ▸ yT hm h
abbrev gA (l:List HOp) (b e:Int) (p:Prep) (sp:List (List aF)) (q:QS) (out:List Bool) (opn:List Int) (ext:List (Nat×Row)):List (Nat×Row):=[(65,.ds 4 1 true ef out),(67,zRow opn)]++ext++cg l b e p sp q 9
abbrev gC (n:Nat) (B:List (List Int)) (A:List (Nat×Row)):Upds:=(66,some (.lits 28 1 n true (chB 1 (fun i=>1000+i) 0 B)))::aw A++Go.Eng.bV 1000 (fi 3 1 i6 B)
abbrev gO (n:Nat) (B:List (List Int)) (j m:Nat) (xs:List Int) (A:List (Nat×Row)):Upds:=(m,some (.ds 3 1 false i6 xs))::(66,some (.lits 28 1 n true (chB 1 (cS j m) 0 B)))::aw A++Go.Eng.bV 1000 (fi 3 1 i6 (B.set j []))
abbrev gE1 (n i:Nat) (opn:List Int):Env:=[(30,.int .i64 i),(29,.int .i64 n),(28,.own 9 0 n 4 none),(0,.ptr 0 []),(3,.own 65 0 n 1 none),(4,.own 66 0 n 1 none),(5,.own 67 0 opn.length 1 none)]
abbrev gE2 (n i j:Nat) (ys:List aF) (opn:List Int):Env:=[(43,.int .i64 j),(42,.int .i64 ys.length),(41,.d (cF ys)),(6,.int .i64 i),(7,.ptr 68 [])]++gE1 n i opn
abbrev gE3 (n:Nat) (opn:List Int):Env:=[(0,.ptr 0 []),(3,.own 65 0 n 1 none),(4,.own 66 0 n 1 none),(5,.own 67 0 opn.length 1 none)]
abbrev gE4 (n j:Nat) (bk:List Int) (opn:List Int):Env:=[(100,.int .i64 j),(99,.int .i64 bk.length),(98,.own 69 0 bk.length 1 none)]++gE3 n opn
theorem AI (l:List HOp) (b:Int) (e:Nat) (p:Prep) (sp:List (List aF)) (q:QS) (P:POk l e p) (hS:∀y∈q.2,SOk p e y) (he:e≤1048576) (hsp:SpOk q.2 sp) (hN:q.2.length≤1048576) (h0:0<q.2.length) (hT:totS sp+1≤67108864):FnIs Try.prog 42 [.ptr 0 []] (cg l b e p sp q 9) (.own 64 0 q.2.length 1 none) ((64,.ds 4 1 true ef (dV p l e q.2 sp))::cg l b e p sp q 9):=by
 obtain⟨n,hn⟩:∃n,n=q.2.length:=⟨_,rfl⟩
 have hwe:IntKind.i64.wrap ((e:Int)-1)=(e:Int)-1:=aH (by omega) (by omega)
 refine aq aa Try.func42 rfl rfl rfl ?_;refine z12 ?_;refine aO (dA (s:=1) (enc:=ef) (N:=q.2.length) aa false rfl rfl rfl rfl rfl rfl rfl hN rfl) rfl ?_;refine z10 ?_;refine aO (dA (s:=1) (enc:=fun _:Unit=>.sc nil_) (N:=q.2.length) aa () rfl rfl rfl rfl rfl rfl rfl hN rfl) rfl ?_;refine z20 ?_
 refine gM 10000000 [(65,some 112),(66,some 168),(67,none)] (env':=gE1 q.2.length 0 []) (h':=(66,some (.lits 28 1 q.2.length true (dsAV (List.replicate q.2.length (.sc nil_)))))::aw (gA l b e p sp q (List.replicate q.2.length false) [] []))
  (lg zf ⟨⟨rfl,wI _,_,rfl,(by simp only[Row.ren,tM]; exact aM.nils rfl)⟩,zR,⟨rfl,rfl,rfl⟩,zR,zM,zM,zR,zM,zM,zM,zM,zM,zR,zR,trivial⟩) ?_
 refine gM 10000000 _ (Le.nilsL (s:=1) (t:=3) (enc:=i6) (aw (gA l b e p sp q (List.replicate q.2.length false) [] [])) 66 q.2.length (by omega) rfl rfl rfl ⟨rfl,rfl,rfl,rfl,rfl,rfl,rfl,rfl,rfl,rfl,rfl,rfl,rfl,rfl,rfl,rfl,rfl,rfl,rfl,rfl,rfl,trivial⟩ ⟨rfl,⟨rfl,rfl,rfl,rfl⟩,rfl,⟨rfl,rfl,rfl,rfl⟩,rfl,⟨rfl,rfl,rfl,rfl⟩,rfl,zK,rfl,zK,rfl,⟨rfl,rfl,rfl,rfl⟩,rfl,zK,rfl,zK,rfl,zK,rfl,zK,rfl,zK,rfl,⟨rfl,rfl,rfl,rfl⟩,rfl,⟨rfl,rfl,rfl,rfl⟩,trivial⟩) ?_
 refine wc_inv (fun s:Nat×GSt=>⟨gE1 q.2.length s.1 s.2.opn,gC q.2.length s.2.B (gA l b e p sp q s.2.out s.2.opn []),10000000,Try.f42.ntmps,64⟩) (fun s=>s.1≤n∧s.2=gdA p l e q.2 sp s.1∧BOk n (totS (sp.take s.1)) s.2.B∧OOk n s.2.out s.2.opn∧∀j,s.1≤j→j<n→s.2.out[j]?=some false) (fun s=>n-s.1) (0,gd0 q.2.length) [] ⟨Nat.zero_le _,rfl,⟨by simp[gd0,hn],fun b hb=>by rw[(List.mem_replicate.1 hb).2]; exact⟨Nat.zero_le _,fun k hk=>by cases hk⟩⟩,⟨by simp[gd0,hn],(fun k hk=>by cases hk),by show 0+cntF (List.replicate _ _)≤n; rw[tP]; omega⟩,fun j _ hj=>by show (List.replicate _ _)[j]?=_; rw[List.getElem?_replicate,if_pos (by omega)]⟩
  (Le.stayL rfl rfl rfl rfl rfl rfl rfl rfl (cY rfl) (show (List.replicate q.2.length ([]:List Int)).length≤9000000 by rw[List.length_replicate]; omega) zf ⟨⟨rfl,jA (show (List.replicate q.2.length ([]:List Int)).length≤9000000 by rw[List.length_replicate]; omega) (by decide),_,rfl,dI (iY rfl (show (List.replicate q.2.length ([]:List Int)).length≤9000000 by rw[List.length_replicate]; omega))⟩,zR,zR,zR,zM,zM,zR,zM,zM,zM,zM,zM,zR,zR,trivial⟩ (fun i9 row hr=>by have hi9:=dK hr; have hi8:=(show (List.replicate q.2.length ([]:List Int)).length≤9000000 by rw[List.length_replicate]; omega); repeat (first | exact dh hr | refine farl rfl (Nat.lt_of_lt_of_le hi9 hi8) ?_))) ?_
 rintro⟨i,g⟩ ⟨hi,hg,hB,hO,hfr⟩
 simp only at hi hg hB hO hfr
 refine bt ?_
 show WC _ _ _ _ (gE1 q.2.length i g.opn) (gC q.2.length g.B (gA l b e p sp q g.out g.opn [])) _
 have hBl:g.B.length≤9000000:=by rw[hB.bl]; omega
 by_cases hlt:i<n
 ·have d1:decide ((i:Int)<(q.2.length:Int))=true:=dT (by omega)
  obtain⟨x,hx0⟩:∃x,q.2[i]?=some x:=⟨_,List.getElem?_eq_getElem (by omega)⟩
  have hx:q.2[((i:Int)).toNat]?=some x:=by rw[Int.toNat_natCast]; exact hx0
  obtain⟨ys,hys0⟩:∃ys,sp[i]?=some ys:=⟨_,List.getElem?_eq_getElem (by rw[hsp.len]; omega)⟩
  have hys:sp[((i:Int)).toNat]?=some ys:=by rw[Int.toNat_natCast]; exact hys0
  have hspl:i<sp.length:=by rw[hsp.len]; omega
  have hto:=hsp.to ys (List.mem_of_getElem? hys0)
  have htt:=mI hys0
  have htl:=nO sp (i+1)
  have hxS:=hS x (List.mem_of_getElem? hx0)
  have hfu:=pv l b e p sp q x P hxS
  have hstn:stN q.2 (i:Int)=x:=by rw[stN,hx]; rfl
  have hspn:spN sp (i:Int)=ys:=by rw[spN,hys]; rfl
  refine z15 ?_;refine rQ (aX (v :=.d (bQ x)) aa rfl rfl ⟨rfl,x,hx,bQ x,rfl,rfl⟩ rfl) ?_;refine z14 ?_;refine rQ (aX (v :=.d (cF ys)) aa rfl rfl ⟨rfl,ys,hys,cF ys,rfl,rfl⟩ rfl) ?_;refine z5 ?_
  refine wc_inv (fun s:Nat×List (List Int)=>⟨gE2 q.2.length i s.1 ys g.opn,gC q.2.length s.2 (gA l b e p sp q g.out g.opn [(68,.box 105 (.d (bQ x)))]),10000000,Try.f42.ntmps,64⟩) (fun s=>s.1≤ys.length∧s.2=(ys.take s.1).foldl (bkF i) g.B∧BOk n (totS (sp.take i)+s.1) s.2) (fun s=>ys.length-s.1) (0,g.B) [(65,some 65),(66,some 66),(67,some 67),(68,some 10000032)] ⟨Nat.zero_le _,rfl,hB⟩
   (Le.stayL rfl rfl rfl rfl rfl rfl rfl rfl (cY rfl) hBl za ⟨⟨rfl,jA hBl (by decide),_,rfl,dI (iY rfl hBl)⟩,zR,zR,zR,zR,zM,zM,zR,zM,zM,zM,zM,zM,zR,zR,trivial⟩ (fun i9 row hr=>by have hi9:=dK hr; have hi8:=hBl; repeat (first | exact dh hr | refine farl rfl (Nat.lt_of_lt_of_le hi9 hi8) ?_))) ?_
  rintro⟨j,B⟩ ⟨hj,hBe,hB2⟩
  simp only at hj hBe hB2
  refine bt ?_
  show WC _ _ _ _ (gE2 q.2.length i j ys g.opn) (gC q.2.length B (gA l b e p sp q g.out g.opn [(68,.box 105 (.d (bQ x)))])) _
  have hBl2:B.length≤9000000:=by rw[hB2.bl]; omega
  by_cases hjl:j<ys.length
  ·have d2:decide ((j:Int)<(ys.length:Int))=true:=dT (by omega)
   obtain⟨y,hy⟩:∃y,ys[j]?=some y:=⟨_,List.getElem?_eq_getElem hjl⟩
   have hy2:ys[((j:Int)).toNat]?=some y:=by rw[Int.toNat_natCast]; exact hy
   obtain⟨hy0,hy1⟩:=hto y (List.mem_of_getElem? hy)
   obtain⟨xs,hxs,hxl0,hxe⟩:=hB2.get (j:=y.to.toNat) (by omega)
   have hxl:xs.length+1≤134217728:=by omega
   have hBn:q.2.length=B.length:=by rw[hB2.bl]; exact hn.symm
   have hB3:=DI hB2 hlt hy0 (by omega)
   have hbe:=p4 (f:=bkF i) hy g.B
   rw[←hBe]at hbe
   rw[Bg (n:=n) (c:=totS (sp.take i)+j) hxs]at hbe hB3
   have hS3:(B.set y.to.toNat (xs++[(i:Int)]))[y.to.toNat]?=some (xs++[(i:Int)]):=by rw[List.getElem?_set_self (List.getElem?_eq_some_iff.1 hxs).1]
   have hss:(B.set y.to.toNat (xs++[(i:Int)])).set y.to.toNat []=B.set y.to.toNat []:=List.set_set ..
   have hBl3:(B.set y.to.toNat (xs++[(i:Int)])).length≤9000000:=by rw[List.length_set]; exact hBl2
   have hBl4:((B.set y.to.toNat (xs++[(i:Int)])).set y.to.toNat []).length≤9000000:=by rw[List.length_set]; exact hBl3
   refine gM 10000000 _ (Le.openL (aw (gA l b e p sp q g.out g.opn [(68,.box 105 (.d (bQ x)))])) y.to.toNat 69 66 q.2.length xs hxs hBl2 rfl rfl rfl rfl rfl rfl ⟨rfl,rfl,rfl,rfl,rfl,rfl,rfl,rfl,rfl,rfl,rfl,rfl,rfl,rfl,rfl,rfl,rfl,rfl,rfl,rfl,rfl,rfl,rfl,rfl,rfl,rfl,rfl,rfl,rfl,rfl,rfl,rfl,rfl,rfl,rfl,rfl,trivial⟩ ⟨rfl,⟨rfl,rfl,rfl,rfl⟩,rfl,⟨rfl,rfl,rfl,rfl⟩,rfl,⟨rfl,rfl,rfl,rfl⟩,rfl,⟨rfl,rfl,rfl,rfl⟩,rfl,zK,rfl,zK,rfl,⟨rfl,rfl,rfl,rfl⟩,rfl,zK,rfl,zK,rfl,zK,rfl,zK,rfl,zK,rfl,⟨rfl,rfl,rfl,rfl⟩,rfl,⟨rfl,rfl,rfl,rfl⟩,trivial⟩) ?_;refine z22 ?_;refine dQ [48] [10000024] iB ?_;refine z2 ?_;refine dQ [51] [10000024] iB ?_;refine yA (bg aa rfl rfl rfl rfl rfl hy0 (by omega)) ?_;refine dQ [53] [66] (aX (v :=.own 69 0 xs.length 1 none) aa rfl rfl (qa hBn hxs kw) rfl) ?_;refine z1 ?_;refine c9 [55] [] rfl (ae aa rfl rfl rfl rfl rfl rfl rfl rfl) ?_;refine jv [54,56] [69,10000112] rfl (tX (s:=1) (enc:=i6) (xs:=xs) aa ((i:Nat):Int) rfl rfl rfl rfl rfl rfl rfl rfl rfl hxl rfl) ?_;refine yA (bg aa rfl rfl rfl rfl rfl hy0 (by omega)) ?_;refine bj [58,57] [66] (aG aa rfl rfl rfl (yQ (τ':=cS y.to.toNat 10000120) (ys:=xs++[((i:Nat):Int)]) hBn hxs kw (by simp) (fun k _ hk=>by rw[mQ hk,mQ hk])) rfl) ?_;refine z4 ?_
   refine zu (env':=gE2 q.2.length i j ys g.opn) (h':=gO q.2.length (B.set y.to.toNat (xs++[(i:Int)])) y.to.toNat 69 (xs++[(i:Int)]) (gA l b e p sp q g.out g.opn [(68,.box 105 (.d (bQ x)))])) [(65,some 65),(66,some 66),(67,some 67),(68,some 68),(69,some 10000120)] (Le.stayL rfl rfl rfl rfl rfl rfl rfl rfl (cY rfl) hBl4 za ⟨zR,⟨rfl,iR hBl3 (by decide) (by decide),_,rfl,dI (kh rfl hBl3 (by rfl))⟩,zR,zR,zR,zR,zM,zM,zR,zM,zM,zM,zM,zM,zR,zR,trivial⟩ (fun i9 row hr=>by have hi9:=dK hr; rw[hss]at hr; have hi8:=hBl4; repeat (first | exact dh hr | refine farl rfl (Nat.lt_of_lt_of_le hi9 hi8) ?_))) ?_
   refine zu _ (Le.closeL (aw (gA l b e p sp q g.out g.opn [(68,.box 105 (.d (bQ x)))])) y.to.toNat 69 66 q.2.length (xs++[(i:Int)]) hS3 hBl3 rfl rfl rfl rfl ⟨rfl,rfl,rfl,rfl,rfl,rfl,rfl,rfl,rfl,rfl,rfl,rfl,rfl,rfl,rfl,rfl,rfl,rfl,rfl,rfl,rfl,rfl,rfl,rfl,rfl,rfl,rfl,rfl,rfl,rfl,rfl,rfl,rfl,rfl,rfl,rfl,trivial⟩ ⟨rfl,⟨rfl,rfl,rfl,rfl⟩,rfl,⟨rfl,rfl,rfl,rfl⟩,rfl,⟨rfl,rfl,rfl,rfl⟩,rfl,⟨rfl,rfl,rfl,rfl⟩,rfl,zK,rfl,zK,rfl,⟨rfl,rfl,rfl,rfl⟩,rfl,zK,rfl,zK,rfl,zK,rfl,zK,rfl,zK,rfl,⟨rfl,rfl,rfl,rfl⟩,rfl,⟨rfl,rfl,rfl,rfl⟩,trivial⟩) ?_;refine z3 ?_
   exact an (j+1,B.set y.to.toNat (xs++[(i:Int)])) [(65,some 65),(66,some 66),(67,some 67),(68,some 68)] ⟨hjl,hbe.symm,hB3⟩ (by simp only; omega) (Le.stayL rfl rfl rfl rfl rfl rfl rfl rfl (cY rfl) hBl3 za ⟨⟨rfl,jA hBl3 (by decide),_,rfl,dI (iY rfl hBl3)⟩,zR,zR,zR,zR,zM,zM,zR,zM,zM,zM,zM,zM,zR,zR,trivial⟩ (fun i9 row hr=>by have hi9:=dK hr; have hi8:=hBl3; repeat (first | exact dh hr | refine farl rfl (Nat.lt_of_lt_of_le hi9 hi8) ?_)))
  ·have d2:decide ((j:Int)<(ys.length:Int))=false:=dF (by omega)
   obtain rfl:j=ys.length:=by omega
   rw[List.take_length]at hBe
   have hB4:BOk n (totS (sp.take (i+1))) B:=by rw[htt]; exact hB2
   cases dE:decide (x.era=(e:Int)-1) with
   | false =>
    have hg1:gdA p l e q.2 sp (i+1)=⟨B,g.out,g.opn⟩:=by
     rw[gdA,←hg,gd1,hstn,hspn,endB,dE,Bool.false_and,if_neg (by decide),hBe]
    refine z15 ?_;refine dQ [60] [68] iB ?_;refine z3 ?_;refine dQ [64] [0] iM ?_;refine yA (cm (m:=(e:Int)-1) aa rfl rfl hwe) ?_;refine z16 ?_
    exact an (i+1,⟨B,g.out,g.opn⟩) [(65,some 65),(66,some 66),(67,some 67)] ⟨hlt,hg1.symm,hB4,hO,fun j h1 h2=>hfr j (by simp only at h1; omega) h2⟩ (by simp only; omega) (Le.stayL rfl rfl rfl rfl rfl rfl rfl rfl (cY rfl) hBl2 zf ⟨⟨rfl,jA hBl2 (by decide),_,rfl,dI (iY rfl hBl2)⟩,zR,zR,zR,zM,zM,zR,zM,zM,zM,zM,zM,zR,zR,trivial⟩ (fun i9 row hr=>by have hi9:=dK hr; have hi8:=hBl2; repeat (first | exact dh hr | refine farl rfl (Nat.lt_of_lt_of_le hi9 hi8) ?_)))
   | true =>
    cases hf:jH l p.lo (zOf p x.era) x with
    | false =>
     rw[hf]at hfu
     have hg1:gdA p l e q.2 sp (i+1)=⟨B,g.out,g.opn⟩:=by
      rw[gdA,←hg,gd1,hstn,hspn,endB,dE,hf,Bool.true_and,if_neg (by decide),hBe]
     refine z15 ?_;refine dQ [60] [68] iB ?_;refine z3 ?_;refine dQ [64] [0] iM ?_;refine yA (cm (m:=(e:Int)-1) aa rfl rfl hwe) ?_;refine z3 ?_;refine aD [68,7] [68] rfl rfl (by assumption) rfl (ay aa rfl rfl rfl rfl) ?_;refine cT [68,69,70] [0,1,2,3,4,5,6,7,8,9,10] rfl (.on rfl rfl dE (aS [] hfu rfl rfl rfl (aT rfl rfl (aE au)) ⟨zH,zN,zN,zH,zN,zN,zN,zN,zN,zH,zH,trivial⟩ rfl rfl (.inl rfl) rfl rfl)) rfl rfl ?_;refine z11 ?_
     exact an (i+1,⟨B,g.out,g.opn⟩) [(65,some 65),(66,some 66),(67,some 67)] ⟨hlt,hg1.symm,hB4,hO,fun j h1 h2=>hfr j (by simp only at h1; omega) h2⟩ (by simp only; omega) (Le.stayL rfl rfl rfl rfl rfl rfl rfl rfl (cY rfl) hBl2 zf ⟨⟨rfl,jA hBl2 (by decide),_,rfl,dI (iY rfl hBl2)⟩,zR,zR,zR,zM,zM,zR,zM,zM,zM,zM,zM,zR,zR,trivial⟩ (fun i9 row hr=>by have hi9:=dK hr; have hi8:=hBl2; repeat (first | exact dh hr | refine farl rfl (Nat.lt_of_lt_of_le hi9 hi8) ?_)))
    | true =>
     rw[hf]at hfu
     have hg1:gdA p l e q.2 sp (i+1)=⟨B,g.out.set i true,g.opn++[(i:Int)]⟩:=by
      rw[gdA,←hg,gd1,hstn,hspn,endB,dE,hf,Bool.true_and,if_pos rfl,hBe]
     have hti:=hfr i (Nat.le_refl _) hlt
     have ht:g.out[((i:Int)).toNat]?=some false:=by rw[Int.toNat_natCast]; exact hti
     have hO2:=(hO.psh (k:=(i:Int)) (by omega) (by omega) ht).1
     rw[Int.toNat_natCast]at hO2
     have hol:g.opn.length+1≤1048576:=by have:=hO.cnt; have:=mv hti; omega
     refine z15 ?_;refine dQ [60] [68] iB ?_;refine z3 ?_;refine dQ [64] [0] iM ?_;refine yA (cm (m:=(e:Int)-1) aa rfl rfl hwe) ?_;refine z3 ?_;refine aD [68,7] [68] rfl rfl (by assumption) rfl (ay aa rfl rfl rfl rfl) ?_;refine cT [68,69,70] [0,1,2,3,4,5,6,7,8,9,10] rfl (.on rfl rfl dE (aS [] hfu rfl rfl rfl (aT rfl rfl (aE au)) ⟨zH,zN,zN,zH,zN,zN,zN,zN,zN,zH,zH,trivial⟩ rfl rfl (.inl rfl) rfl rfl)) rfl rfl ?_;refine z9 ?_;refine bH (aG aa rfl rfl rfl ⟨rfl,false,true,ht,⟨rfl,rfl,rfl⟩,rfl⟩ rfl) ?_;refine z5 ?_;refine aO (ae aa rfl rfl rfl rfl rfl rfl rfl rfl) rfl ?_;refine aC (aJ (s:=1) (enc:=i6) (xs:=g.opn) aa ((i:Nat):Int) rfl rfl rfl rfl rfl rfl rfl rfl rfl hol rfl) rfl ?_;refine z8 ?_
     exact an (i+1,⟨B,g.out.set i true,g.opn++[(i:Int)]⟩) [(65,some 65),(66,some 66),(67,some 10000168)] ⟨hlt,hg1.symm,hB4,hO2,fun j h1 h2=>by simp only at h1 ⊢; rw[List.getElem?_set_ne (by omega)]; exact hfr j (by omega) h2⟩ (by simp only; omega) (Le.stayL rfl rfl rfl rfl rfl rfl rfl rfl (cY rfl) hBl2 ⟨zE,rfl,zE,rfl,zE,rfl,zE,rfl,zE,rfl,zE,rfl,⟨_,rfl,AVLe.of_eq (by simp only[List.length_append,List.length_singleton]; rfl)⟩,rfl,trivial⟩ ⟨⟨rfl,jA hBl2 (by decide),_,rfl,dI (iY rfl hBl2)⟩,zR,zR,zR,zM,zM,zR,zM,zM,zM,zM,zM,zR,zR,trivial⟩ (fun i9 row hr=>by have hi9:=dK hr; have hi8:=hBl2; repeat (first | exact dh hr | refine farl rfl (Nat.lt_of_lt_of_le hi9 hi8) ?_)))
 ·have d1:decide ((i:Int)<(q.2.length:Int))=false:=dF (by omega)
  obtain rfl:i=n:=by omega
  have hgd:dV p l e q.2 sp=popG g.B (i+1) g.out g.opn:=by rw[dV,←hn,←hg]
  obtain⟨B,hBd⟩:∃B,B=g.B:=⟨_,rfl⟩
  obtain⟨b0,hb0,_,_⟩:=hB.get (j:=0) (by omega)
  rw[←hBd]at hB hBl hb0 hgd
  have hBn:q.2.length=B.length:=by rw[hB.bl]; exact hn.symm
  refine z14 ?_
  refine gM 10000000 [(65,some 65),(66,some 66),(67,some 67)] (env':=gE3 q.2.length g.opn) (h':=gC q.2.length B (gA l b e p sp q g.out g.opn [])) (Le.stayL rfl rfl rfl rfl rfl rfl rfl rfl (cY rfl) hBl zi ⟨⟨rfl,jA hBl (by decide),_,rfl,(by rw[hBd]; exact dI (iY rfl (hBd ▸ hBl)))⟩,zR,zR,zR,zM,zM,zR,zM,zM,zM,zM,zM,zR,zR,trivial⟩ (fun i9 row hr=>by have hi9:=dK hr; rw[hBd]at hr; have hi8:=hBl; repeat (first | exact dh hr | refine farl rfl (Nat.lt_of_lt_of_le hi9 hi8) ?_))) ?_
  refine gM 10000000 _ (Le.openL (aw (gA l b e p sp q g.out g.opn [])) 0 69 66 q.2.length b0 hb0 hBl rfl rfl rfl rfl rfl rfl ⟨rfl,rfl,rfl,rfl,rfl,rfl,rfl,rfl,rfl,rfl,rfl,rfl,trivial⟩ ⟨rfl,⟨rfl,rfl,rfl,rfl⟩,rfl,⟨rfl,rfl,rfl,rfl⟩,rfl,⟨rfl,rfl,rfl,rfl⟩,rfl,zK,rfl,zK,rfl,⟨rfl,rfl,rfl,rfl⟩,rfl,zK,rfl,zK,rfl,zK,rfl,zK,rfl,zK,rfl,⟨rfl,rfl,rfl,rfl⟩,rfl,⟨rfl,rfl,rfl,rfl⟩,trivial⟩) ?_
  refine wc_inv (fun s:Nat×List Bool×List Int×Nat×List Int=>⟨gE3 q.2.length s.2.2.1,gO q.2.length B s.2.2.2.1 69 s.2.2.2.2 (gA l b e p sp q s.2.1 s.2.2.1 []),10000000,Try.f42.ntmps,64⟩) (fun s=>popG B s.1 s.2.1 s.2.2.1=dV p l e q.2 sp∧OOk i s.2.1 s.2.2.1∧s.2.2.1.length+cntF s.2.1<s.1∧B[s.2.2.2.1]?=some s.2.2.2.2) (fun s=>s.2.2.1.length+cntF s.2.1) (i+1,g.out,g.opn,0,b0) [(65,some 65),(66,some 66),(67,some 67),(69,some 69)] ⟨hgd.symm,hO,by have:=hO.cnt; simp only; omega,hb0⟩
   (Le.stayL rfl rfl rfl rfl rfl rfl rfl rfl (cY rfl) (show (B.set 0 []).length≤9000000 by rw[List.length_set]; exact hBl) zi ⟨zR,⟨rfl,iR hBl (by decide) (by decide),_,rfl,dI (kh rfl hBl (by rfl))⟩,zR,zR,zR,zM,zM,zR,zM,zM,zM,zM,zM,zR,zR,trivial⟩ (fun i9 row hr=>by have hi9:=dK hr; have hi8:=(show (B.set 0 []).length≤9000000 by rw[List.length_set]; exact hBl); repeat (first | exact dh hr | refine farl rfl (Nat.lt_of_lt_of_le hi9 hi8) ?_))) ?_
  rintro⟨k,out,opn,j,xs⟩ ⟨hpop,hO,hk,hxs⟩
  simp only at hpop hO hk hxs
  refine bt ?_
  show WC _ _ _ _ (gE3 q.2.length opn) (gO q.2.length B j 69 xs (gA l b e p sp q out opn [])) _
  have hcnt:=hO.cnt
  have htl:=nO sp i
  cases hgl:opn.getLast? with
  | none =>
   have hol0:opn=[]:=List.getLast?_eq_none_iff.1 hgl
   subst hol0
   have hgo:dV p l e q.2 sp=out:=by
    rw[←hpop]
    cases k with
    | zero=>rfl
    | succ k=>rfl
   rw[hgo]
   refine z21 ?_
   exact⟨trivial,[(64,some 65)],lg zV ⟨zR,zR,zM,zM,zR,zM,zM,zM,zM,zM,zR,zR,trivial⟩⟩
  | some iI =>
   obtain⟨k2,rfl⟩:∃k2,k=k2+1:=⟨k-1,by omega⟩
   rw[popG,hgl]at hpop
   simp only at hpop
   have hne:opn≠[]:=fun e=>by rw[e]at hgl; cases hgl
   have hlen:0<opn.length:=List.length_pos_iff.2 hne
   have hlast0:opn[opn.length-1]?=some iI:=by rw[←List.getLast?_eq_getElem?]; exact hgl
   have hlast:opn[(((opn.length-1:Nat):Int)).toNat]?=some iI:=by rw[Int.toNat_natCast]; exact hlast0
   obtain⟨hi0,hi1⟩:=hO.oe iI (List.mem_of_getElem? hlast0)
   obtain⟨bk,hbk,hbkl,hbke⟩:=hB.get (j:=iI.toNat) (by omega)
   rw[hbk]at hpop
   simp only[Option.getD_some]at hpop
   have d3:decide ((0:Int)<(opn.length:Int))=true:=dT (by omega)
   have hw87:IntKind.i64.wrap ((opn.length:Int)-1)=((opn.length-1:Nat):Int):=by rw[aH (by omega) (by omega)]; omega
   refine gM 10000000 _ (Le.closeL (aw (gA l b e p sp q out opn [])) j 69 66 q.2.length xs hxs hBl rfl rfl rfl rfl ⟨rfl,rfl,rfl,rfl,rfl,rfl,rfl,rfl,rfl,rfl,rfl,rfl,trivial⟩ ⟨rfl,⟨rfl,rfl,rfl,rfl⟩,rfl,⟨rfl,rfl,rfl,rfl⟩,rfl,⟨rfl,rfl,rfl,rfl⟩,rfl,zK,rfl,zK,rfl,⟨rfl,rfl,rfl,rfl⟩,rfl,zK,rfl,zK,rfl,zK,rfl,zK,rfl,zK,rfl,⟨rfl,rfl,rfl,rfl⟩,rfl,⟨rfl,rfl,rfl,rfl⟩,trivial⟩) ?_;refine gM 10000000 _ (Le.openL (aw (gA l b e p sp q out opn [])) iI.toNat 69 66 q.2.length bk hbk hBl rfl rfl rfl rfl rfl rfl ⟨rfl,rfl,rfl,rfl,rfl,rfl,rfl,rfl,rfl,rfl,rfl,rfl,trivial⟩ ⟨rfl,⟨rfl,rfl,rfl,rfl⟩,rfl,⟨rfl,rfl,rfl,rfl⟩,rfl,⟨rfl,rfl,rfl,rfl⟩,rfl,zK,rfl,zK,rfl,⟨rfl,rfl,rfl,rfl⟩,rfl,zK,rfl,zK,rfl,zK,rfl,zK,rfl,zK,rfl,⟨rfl,rfl,rfl,rfl⟩,rfl,⟨rfl,rfl,rfl,rfl⟩,trivial⟩) ?_;refine z17 ?_;refine rQ (cm (m:=((opn.length-1:Nat):Int)) aa rfl rfl hw87) ?_;refine z1 ?_;refine rQ (aX (v :=.int .i64 iI) aa rfl rfl ⟨rfl,iI,hlast,_,rfl,rfl⟩ rfl) ?_;refine z8 ?_;refine rQ (cm (m:=((opn.length-1:Nat):Int)) aa rfl rfl hw87) ?_;refine rQ (rl (m:=opn.length-1) aa rfl rfl rfl rfl (by omega)) ?_;refine z7 ?_;refine rQ (bg aa rfl rfl rfl rfl rfl hi0 (by omega)) ?_;refine rQ (aX (v :=.own 69 0 bk.length 1 none) aa rfl rfl (qa hBn hbk kw) rfl) ?_;refine z5 ?_
   refine wc_inv (fun s:Nat×List Bool×List Int=>⟨gE4 q.2.length s.1 bk s.2.2,gO q.2.length B iI.toNat 69 bk (gA l b e p sp q s.2.1 s.2.2 []),10000000,Try.f42.ntmps,64⟩) (fun s=>s.1≤bk.length∧(s.2.1,s.2.2)=(bk.take s.1).foldl pshF (out,opn.dropLast)∧OOk i s.2.1 s.2.2∧s.2.2.length+cntF s.2.1+1=opn.length+cntF out) (fun s=>bk.length-s.1) (0,out,opn.dropLast) [(65,some 65),(66,some 66),(67,some 67),(69,some 69)] ⟨Nat.zero_le _,rfl,hO.pop,by simp only; rw[List.length_dropLast]; omega⟩
    (Le.stayL rfl rfl rfl rfl rfl rfl rfl rfl (cY rfl) (show (B.set iI.toNat []).length≤9000000 by rw[List.length_set]; exact hBl) ⟨zE,rfl,zE,rfl,zE,rfl,zE,rfl,zE,rfl,zE,rfl,⟨_,rfl,AVLe.of_eq (by rw[List.length_dropLast]; rfl)⟩,rfl,trivial⟩ ⟨zR,⟨rfl,iR hBl (by decide) (by decide),_,rfl,dI (kh rfl hBl (by rfl))⟩,zR,⟨rfl,rfl,_,rfl,(by rw[List.dropLast_eq_take]; exact aM.ds_take)⟩,zR,zM,zM,zR,zM,zM,zM,zM,zM,zR,zR,trivial⟩ (fun i9 row hr=>by have hi9:=dK hr; have hi8:=(show (B.set iI.toNat []).length≤9000000 by rw[List.length_set]; exact hBl); repeat (first | exact dh hr | refine farl rfl (Nat.lt_of_lt_of_le hi9 hi8) ?_))) ?_
   rintro⟨j4,out4,opn4⟩ ⟨hj4,hf4,hO4,hc4⟩
   simp only at hj4 hf4 hO4 hc4
   refine bt ?_
   show WC _ _ _ _ (gE4 q.2.length j4 bk opn4) (gO q.2.length B iI.toNat 69 bk (gA l b e p sp q out4 opn4 [])) _
   by_cases hjl:j4<bk.length
   ·have d4:decide ((j4:Int)<(bk.length:Int))=true:=dT (by omega)
    obtain⟨kI,hkI⟩:∃kI,bk[j4]?=some kI:=⟨_,List.getElem?_eq_getElem hjl⟩
    have hk2:bk[((j4:Int)).toNat]?=some kI:=by rw[Int.toNat_natCast]; exact hkI
    obtain⟨hk0,hk1⟩:=hbke kI (List.mem_of_getElem? hkI)
    have hts:=p4 (f:=pshF) hkI (out,opn.dropLast)
    rw[←hf4]at hts
    obtain⟨c,ht⟩:=hO4.get hk0 hk1
    clear hw87 hlast d3 hpop hlast0
    cases c with
    | true =>
     rw[Aa ht]at hts
     refine z14 ?_;refine rQ (aX (v :=.int .i64 kI) aa rfl rfl ⟨rfl,kI,hk2,_,rfl,rfl⟩ rfl) ?_;refine z7 ?_;refine rQ (bg aa rfl rfl rfl rfl rfl hk0 (by omega)) ?_;refine z12 ?_
     exact an (j4+1,out4,opn4) [(65,some 65),(66,some 66),(67,some 67),(69,some 69)] ⟨hjl,hts.symm,hO4,hc4⟩ (by simp only; omega) (Le.stayL rfl rfl rfl rfl rfl rfl rfl rfl (cY rfl) (show (B.set iI.toNat []).length≤9000000 by rw[List.length_set]; exact hBl) zf ⟨zR,⟨rfl,iR hBl (by decide) (by decide),_,rfl,dI (kh rfl hBl (by rfl))⟩,zR,zR,zR,zM,zM,zR,zM,zM,zM,zM,zM,zR,zR,trivial⟩ (fun i9 row hr=>by have hi9:=dK hr; have hi8:=(show (B.set iI.toNat []).length≤9000000 by rw[List.length_set]; exact hBl); repeat (first | exact dh hr | refine farl rfl (Nat.lt_of_lt_of_le hi9 hi8) ?_)))
    | false =>
     rw[Ab ht]at hts
     obtain⟨hO5,hc5⟩:=hO4.psh hk0 hk1 ht
     have hol:opn4.length+1≤1048576:=by have:=hO4.cnt; omega
     refine z14 ?_;refine rQ (aX (v :=.int .i64 kI) aa rfl rfl ⟨rfl,kI,hk2,_,rfl,rfl⟩ rfl) ?_;refine z7 ?_;refine rQ (bg aa rfl rfl rfl rfl rfl hk0 (by omega)) ?_;refine z9 ?_;refine rQ (bg aa rfl rfl rfl rfl rfl hk0 (by omega)) ?_;refine bH (aG aa rfl rfl rfl ⟨rfl,false,true,ht,⟨rfl,rfl,rfl⟩,rfl⟩ rfl) ?_;refine z5 ?_;refine aO (ae aa rfl rfl rfl rfl rfl rfl rfl rfl) rfl ?_;refine aC (aJ (s:=1) (enc:=i6) (xs:=opn4) aa kI rfl rfl rfl rfl rfl rfl rfl rfl rfl hol rfl) rfl ?_;refine z8 ?_
     exact an (j4+1,out4.set kI.toNat true,opn4++[kI]) [(65,some 65),(66,some 66),(67,some 10000128),(69,some 69)] ⟨hjl,hts.symm,hO5,by simp only at hc5 ⊢; omega⟩ (by simp only; omega) (Le.stayL rfl rfl rfl rfl rfl rfl rfl rfl (cY rfl) (show (B.set iI.toNat []).length≤9000000 by rw[List.length_set]; exact hBl) ⟨zE,rfl,zE,rfl,zE,rfl,zE,rfl,zE,rfl,zE,rfl,⟨_,rfl,AVLe.of_eq (by simp only[List.length_append,List.length_singleton]; rfl)⟩,rfl,trivial⟩ ⟨zR,⟨rfl,iR hBl (by decide) (by decide),_,rfl,dI (kh rfl hBl (by rfl))⟩,zR,zR,zR,zM,zM,zR,zM,zM,zM,zM,zM,zR,zR,trivial⟩ (fun i9 row hr=>by have hi9:=dK hr; have hi8:=(show (B.set iI.toNat []).length≤9000000 by rw[List.length_set]; exact hBl); repeat (first | exact dh hr | refine farl rfl (Nat.lt_of_lt_of_le hi9 hi8) ?_)))
   ·have d4:decide ((j4:Int)<(bk.length:Int))=false:=dF (by omega)
    obtain rfl:j4=bk.length:=by omega
    rw[List.take_length]at hf4
    rw[←hf4]at hpop
    refine z12 ?_
    exact an (k2,out4,opn4,iI.toNat,bk) [(65,some 65),(66,some 66),(67,some 67),(69,some 69)] ⟨hpop,hO4,by simp only; omega,hbk⟩ (by simp only; omega) (Le.stayL rfl rfl rfl rfl rfl rfl rfl rfl (cY rfl) (show (B.set iI.toNat []).length≤9000000 by rw[List.length_set]; exact hBl) zi ⟨zR,⟨rfl,iR hBl (by decide) (by decide),_,rfl,dI (kh rfl hBl (by rfl))⟩,zR,zR,zR,zM,zM,zR,zM,zM,zM,zM,zM,zR,zR,trivial⟩ (fun i9 row hr=>by have hi9:=dK hr; have hi8:=(show (B.set iI.toNat []).length≤9000000 by rw[List.length_set]; exact hBl); repeat (first | exact dh hr | refine farl rfl (Nat.lt_of_lt_of_le hi9 hi8) ?_)))
theorem BL (l:List Int):∀(a:List Bool×List Int),(l.foldl pshF a).1.length=a.1.length:=by
 induction l with
 | nil=>intro a; rfl
 | cons k l ih =>
  intro a
  rw[List.foldl_cons,ih]
  unfold pshF
  split
  ·rfl
  ·rw[List.length_set]
theorem sY (B:List (List Int)):∀(k:Nat) (out:List Bool) (opn:List Int),(popG B k out opn).length=out.length
 | 0,_,_=>rfl
 | k+1,out,opn=>by
  unfold popG
  split
  ·rfl
  ·rw[sY B k,BL]
theorem wz (p:Prep) (l:List HOp) (e:Nat) (st:List LSt) (sp:List (List aF)):∀i,(gdA p l e st sp i).out.length=st.length
 | 0=>by simp[gdA,gd0]
 | i+1=>by
  have:=wz p l e st sp i
  unfold gdA gd1
  split
  ·rw[List.length_set]; exact this
  ·exact this
theorem pp (p:Prep) (l:List HOp) (e:Nat) (st:List LSt) (sp:List (List aF)):(dV p l e st sp).length=st.length:=by
 rw[dV,sY,wz]
theorem B9 (l:List HOp) (b:Int) (e:Nat) (p:Prep) (sp:List (List aF)) (q:QS) (P:POk l e p) (hS:∀y∈q.2,SOk p e y) (he:e≤1048576) (hsp:SpOk q.2 sp) (hN:q.2.length≤1048576) (h0:0<q.2.length) (hT:totS sp+1≤67108864):FnIs Try.prog 42 [.ptr 0 []] (cg l b e p sp q 9) (.d (.arr 1 ef (dV p l e q.2 sp))) (cg l b e p sp q 9):=
 (AI l b e p sp q P hS he hsp hN h0 hT).freeze_out 64 _ rfl (Frz.own (pp p l e q.2 sp).symm) ⟨zF,zF,zF,zF,zF,zF,zF,zF,zF,zF,zF,trivial⟩
def Bo (st:List LSt) (sp:List (List aF)):Prop:=∀(i:Nat) (x:LSt) (ys:List aF),st[i]?=some x→sp[i]?=some ys→∀y∈ys,y.op<0→∃x',st[y.to.toNat]?=some x'∧x'.era=x.era+1
theorem x3 {p:aF→Bool} {l:List aF} {j:Nat} {y:aF} (h:l[j]?=some y):(l.drop j).find? p=if p y=true then some y else (l.drop (j+1)).find? p:=by
 rw[List.drop_eq_getElem_cons (List.getElem?_eq_some_iff.1 h).1,(List.getElem?_eq_some_iff.1 h).2,List.find?_cons]
 cases p y <;> rfl
abbrev eE (ys:List aF) (j:Nat):Env:=[(34,.int .i64 j),(33,.int .i64 ys.length),(32,.d (cF ys)),(0,.ptr 0 [])]
theorem wE (l:List HOp) (b:Int) (e:Nat) (p:Prep) (sp:List (List aF)) (q:QS) (P:POk l e p) (hS:∀y∈q.2,SOk p e y) (he:e≤1048576) (hsp:SpOk q.2 sp) (hE:Bo q.2 sp) (hT:totS sp+1≤67108864):∀(n:Nat) (i:Int) (x:LSt),0≤i→q.2[i.toNat]?=some x→(e:Int)≤x.era+n→FnIs Try.prog 43 [.ptr 0 [],.int .i64 i] (cg l b e p sp q 9) (.bool (mn p l e q.2 sp n i)) (cg l b e p sp q 9)
 | 0,i,x,_,hx,hn=>by have:=(hS x (List.mem_of_getElem? hx)).era; omega
 | n+1,i,x,hi0,hx,hn=>by
  have hxS:=hS x (List.mem_of_getElem? hx)
  have hxl:=(List.getElem?_eq_some_iff.1 hx).1
  have hera:=hxS.era
  have hwe:IntKind.i64.wrap ((e:Int)-1)=(e:Int)-1:=aH (by omega) (by omega)
  have hspl:=hsp.len
  have hfu:=pv l b e p sp q x P hxS
  have hstn:stN q.2 i=x:=by rw[stN,hx]; rfl
  rw[mn,hstn]
  refine aq aa Try.func43 rfl rfl rfl ?_
  cases d1:decide (x.era=(e:Int)-1) with
  | true =>
   rw[if_pos rfl]
   refine z12 ?_;refine rQ (bg aa rfl rfl rfl rfl rfl hi0 (by omega)) ?_;refine rQ (aX (v :=.d (bQ x)) aa rfl rfl ⟨rfl,x,hx,bQ x,rfl,rfl⟩ rfl) ?_;refine z8 ?_;refine dQ [15] [128] iB ?_;refine z3 ?_;refine dQ [19] [0] iM ?_;refine yA (cm (m:=(e:Int)-1) aa rfl rfl hwe) ?_;refine z8 ?_;refine bE rfl (aS [] hfu rfl rfl rfl (aT rfl rfl (aE au)) ⟨zH,zN,zN,zH,zN,zN,zN,zN,zN,zH,zH,trivial⟩ rfl rfl (.inl rfl) rfl rfl) rfl rfl ?_;refine z5 ?_
   exact⟨trivial,[],lg zV ⟨zR,zM,zM,zR,zM,zM,zM,zM,zM,zR,zR,trivial⟩⟩
  | false =>
   rw[if_neg (by decide)]
   obtain⟨ys,hys⟩:∃ys,sp[i.toNat]?=some ys:=⟨_,List.getElem?_eq_getElem (by omega)⟩
   have hspn:spN sp i=ys:=by rw[spN,hys]; rfl
   have hyl:ys.length≤67108864:=by have h1:=mI hys; have h2:=nO sp (i.toNat+1); omega
   rw[hspn]
   refine z12 ?_;refine rQ (bg aa rfl rfl rfl rfl rfl hi0 (by omega)) ?_;refine rQ (aX (v :=.d (bQ x)) aa rfl rfl ⟨rfl,x,hx,bQ x,rfl,rfl⟩ rfl) ?_;refine z8 ?_;refine dQ [15] [128] iB ?_;refine z3 ?_;refine dQ [19] [0] iM ?_;refine yA (cm (m:=(e:Int)-1) aa rfl rfl hwe) ?_;refine z14 ?_;refine rQ (bg aa rfl rfl rfl rfl rfl hi0 (by omega)) ?_;refine rQ (aX (v :=.d (cF ys)) aa rfl rfl ⟨rfl,ys,hys,cF ys,rfl,rfl⟩ rfl) ?_;refine z5 ?_
   refine wc_inv (fun j:Nat=>⟨eE ys j,aw (cg l b e p sp q 9),72,Try.f43.ntmps,64⟩) (fun j=>j≤ys.length∧(ys.drop j).find? (fun y=>decide (y.op<0))=ys.find? (fun y=>decide (y.op<0))) (fun j=>ys.length-j) 0 [] ⟨Nat.zero_le _,rfl⟩
    (lg zi ⟨zR,zM,zM,zR,zM,zM,zM,zM,zM,zR,zR,trivial⟩) ?_
   rintro j ⟨hj,hfd⟩
   refine bt ?_
   show WC _ _ _ _ (eE ys j) (aw (cg l b e p sp q 9)) _
   by_cases hjl:j<ys.length
   ·have d2:decide ((j:Int)<(ys.length:Int))=true:=dT (by omega)
    obtain⟨y,hy⟩:∃y,ys[j]?=some y:=⟨_,List.getElem?_eq_getElem hjl⟩
    have hy2:ys[((j:Int)).toNat]?=some y:=by rw[Int.toNat_natCast]; exact hy
    have hym:=List.mem_of_getElem? hy
    rw[x3 hy]at hfd
    cases d3:decide (y.op<0) with
    | true =>
     rw[d3,if_pos rfl]at hfd
     rw[←hfd]
     obtain⟨x2,hx2,hx2e⟩:=hE i.toNat x ys hx hys y hym (of_decide_eq_true d3)
     have hre:=wE l b e p sp q P hS he hsp hE hT n y.to x2 (hsp.to ys (List.mem_of_getElem? hys) y hym).1 hx2 (by omega)
     refine z32 ?_;refine bE rfl (aS [] hre rfl rfl rfl (aT rfl rfl (aE au)) ⟨zH,zN,zN,zH,zN,zN,zN,zN,zN,zH,zH,trivial⟩ rfl rfl (.inl rfl) rfl rfl) rfl rfl ?_;refine z9 ?_
     exact⟨trivial,[],lg zV ⟨zR,zM,zM,zR,zM,zM,zM,zM,zM,zR,zR,trivial⟩⟩
    | false =>
     rw[d3,if_neg (by decide)]at hfd
     refine z34 ?_
     exact an (j+1) [] ⟨hjl,hfd⟩ (by omega) (lg zi ⟨zR,zM,zM,zR,zM,zM,zM,zM,zM,zR,zR,trivial⟩)
   ·have d2:decide ((j:Int)<(ys.length:Int))=false:=dF (by omega)
    rw[List.drop_eq_nil_of_le (by omega)]at hfd
    rw[←hfd]
    refine z18 ?_
    exact⟨trivial,[],lg zV ⟨zR,zM,zM,zR,zM,zM,zM,zM,zM,zR,zR,trivial⟩⟩
end Go.Proofs.Ytmdgmolbamlicaa
namespace Go.Eng
open Go.RowKit
section
variable {P : Program} {T : Tab} {sz : Nat} {env : Env} {h : Upds} {n : Nat}
theorem pM (hT:aj P T) {t e r2:Nat} {re:TyR} {s:Nat} {ex2:Bool} {cap2:Option Nat} {α:Type} {enc:α→D} {x y:Operand} {d:D} (el:α) (ht:bh T t=some (.slice e)) (he:lk T e=some re) (hs:Nat.beq re.size s=true)
  {v:AV} (hx:ai env x=some v) (hv:v=.empty∨v=.d (.sc (.slice none 0 0))) (hy:ai env y=some (.own r2 0 1 s cap2)) (hrow2:aQ h r2=some (.lits e s 1 ex2 (.acons (.d d) .anil))) (hd:d=enc el) (hbytes:Nat.ble re.bytes 134217728=true) :
  ab P (.call { callee :=.builtin .append,args := #[x,y],argTypes := #[t,t] }) env h n (some (.own n 0 1 s none)) [(n,some (.ds e s false enc [el]))]:=by
 have hb:=Nat.le_of_ble_eq_true hbytes
 refine mB (ys:=[el]) hT ht he (Nat.eq_of_beq_eq_true hs) hx hv (by simp) (by simp[maxLen]) (by simp; omega) ?_
 intro C G st σ w a hA hst
 obtain⟨hy1,_⟩:=ak hst (hA.ev hy)
 have hr2:=hst.rows r2 _ (hA.row _ _ hrow2)
 rcases RelV.own.1 hy1 with ⟨_,_,h0,_⟩ | ⟨b,c,ad,hb,hv,hle,_,_,had⟩
 ·omega
 ·have:ad=⟨b,0,none⟩:=by have:=had (by omega); simpa using this
  subst this
  rcases hr2 with ⟨_,⟨hn,_⟩ | ⟨b',c',cur,cs,hb',_,hh,hcs,_,_,hcl,hrel,htk⟩⟩
  ·rw[hb]at hn; cases hn
  ·rw[hb]at hb'
   cases hb'
   obtain⟨c1,c2,rfl,h1,h2⟩:=hrel
   obtain rfl:c2=[]:=h2
   rw[List.append_nil]at hcl htk
   have h1:Enc w (st.X C.X0 σ) d c1:=h1
   refine⟨⟨b,0,none⟩,_,fun _=>c1,hv,fun i hi=>?_,fun j u hj=>?_⟩
   ·have:i=0:=by simp at hi; exact hi
    subst this
    exact⟨by simpa[←hd]using h1,by simpa using hcl⟩
   ·simp only[List.length_cons,List.length_nil,cat,List.nil_append]at hj
    have hjl:=(List.getElem?_eq_some_iff.1 hj).1
    rw[eB,cell_of_row w b _ cur e (0,0) hh,Nat.zero_add,←Array.getElem?_toList]
    rw[←htk,List.getElem?_take,if_pos (by omega)]at hj
    exact hj
end
end Go.Eng
namespace Go.Proofs.Ytmdgmolbamlicaa
open Go.Eng Go.Plain
set_option maxHeartbeats 32000000
set_option maxRecDepth 20000
attribute [local irreducible] WC RegS RegD SeqQ BlkQ ScoQ RegK CutK Sat SatN FnIs LoopQ ab OpIs
def ixG (p:aF→Bool) (l:List aF) (i:Nat):Int:=match l with
 | [] => -1
 | o::l=>if p o=true then (i:Int) else ixG p l (i+1)
theorem AB {p:aF→Bool} {l:List aF} {i:Nat} {o:aF} (h:l[i]?=some o):ixG p (l.drop i) i=if p o=true then (i:Int) else ixG p (l.drop (i+1)) (i+1):=by
 have hlt:=(List.getElem?_eq_some_iff.1 h).1
 rw[List.drop_eq_getElem_cons hlt,(List.getElem?_eq_some_iff.1 h).2]
 rfl
theorem tp {p:aF→Bool} {y:aF}:∀(l:List aF) (i:Nat),l.find? p=some y→∃k:Nat,ixG p l i=((i+k:Nat):Int)∧l[k]?=some y
 | [],i,h=>by simp at h
 | o::l,i,h=>by
  rw[List.find?_cons]at h
  unfold ixG
  cases hp:p o with
  | true =>
   rw[hp]at h
   cases h
   exact⟨0,rfl,rfl⟩
  | false =>
   rw[hp]at h
   obtain⟨k,h1,h2⟩:=tp l (i+1) h
   refine⟨k+1,?_,by simpa using h2⟩
   rw[if_neg (by decide),h1]
   congr 1; omega
abbrev pa (g:List Bool):List (Nat×Row):=[(0,.box 108 (.d (.arr 1 ef g)))]
theorem Dt (g:List Bool) (y:aF) (h0:0≤y.to) (h1:y.to<g.length):FnIs Try.prog 45 [.d (qO y),.ptr 0 []] (pa g) (.bool (gX g y)) (pa g):=by
 obtain⟨c,hc⟩:∃c,g[y.to.toNat]?=some c:=⟨_,List.getElem?_eq_getElem (by omega)⟩
 rw[gX,hc]
 refine aq aa Try.func45 rfl rfl rfl ?_;refine z11 ?_;refine rQ (bK aa rfl rfl rfl rfl rfl h0 hc) ?_;refine z5 ?_
 exact⟨trivial,[],lg zV ⟨zR,trivial⟩⟩
theorem Dk (l:List aF) (f:Nat) (g:List Bool) (p:aF→Bool) (hL:l.length≤9223372036854775807) (hp:∀o∈l,FnIs Try.prog f [.d (qO o),.ptr 0 []] (pa g) (.bool (p o)) (pa g)):FnIs Try.prog 44 [.d (cF l),.fn (.func f) .anil (.acons (.ptr 0 []) .anil)] (pa g) (.int .i64 (ixG p l 0)) (pa g):=by
 refine aq aa Try.func44 rfl rfl rfl ?_;refine z14 ?_
 refine wc_inv (fun k:Nat=>⟨[(8,.int .i64 k),(7,.int .i64 l.length),(0,.d (cF l)),(1,.fn (.func f) .anil (.acons (.ptr 0 []) .anil))],aw (pa g),72,Try.f44.ntmps,64⟩) (fun k=>k≤l.length∧ixG p (l.drop k) k=ixG p l 0) (fun k=>l.length-k) 0 [] ⟨Nat.zero_le _,by rw[List.drop_zero]⟩
  (lg zi ⟨zR,trivial⟩) ?_
 rintro k ⟨hk,hix⟩
 refine bt ?_
 by_cases hlt:k<l.length
 ·have d1:decide ((k:Int)<(l.length:Int))=true:=dT (by omega)
  obtain⟨o,ho⟩:∃o,l[k]?=some o:=⟨_,List.getElem?_eq_getElem hlt⟩
  have ho2:l[((k:Int)).toNat]?=some o:=by rw[Int.toNat_natCast]; exact ho
  rw[AB ho]at hix
  refine z24 ?_;refine aC (aS [(0,some 0)] (hp o (List.mem_of_getElem? ho)) rfl rfl rfl (aE (aT rfl rfl au)) ⟨zH,trivial⟩ rfl rfl (.inl rfl) rfl rfl) rfl ?_;refine z2 ?_
  cases hpo:p o with
  | true =>
   rw[hpo,if_pos rfl]at hix
   rw[←hix]
   refine z13 ?_
   exact⟨trivial,[],lg zV ⟨zR,trivial⟩⟩
  | false =>
   rw[hpo,if_neg (by decide)]at hix
   refine z8 ?_
   exact an (k+1) [] ⟨hlt,hix⟩ (by omega) (lg zi ⟨zR,trivial⟩)
 ·have d1:decide ((k:Int)<(l.length:Int))=false:=dF (by omega)
  have he:k=l.length:=by omega
  subst he
  rw[List.drop_length]at hix
  rw[←hix]
  refine z18 ?_
  exact⟨trivial,[],lg zV ⟨zR,trivial⟩⟩
abbrev lb (l:List Int):D :=.arx 1 i6 l
def ordQ:List Int→AV
 | []=>.d (lb [])
 | a::o=>.own 64 0 (a::o).length 1 (some (a::o).length)
def ordW:List Int→List (Nat×Row)
 | []=>[]
 | a::o=>[(64,zRow (a::o))]
abbrev ordE (o:List Int) (f:Bool):AV :=.tup (.acons (ordQ o) (.acons (.bool f) .anil))
theorem A8 (l:List Int):FnIs Try.prog 46 [.own 0 0 l.length 1 none] [(0,zRow l)] (.own 0 0 l.length 1 (some l.length)) [(0,zRow l)]:=by
 refine aq aa Try.func46 rfl rfl rfl ?_;refine z12 ?_;refine rQ (uC aa rfl rfl rfl rfl rfl) ?_;refine z4 ?_
 exact⟨trivial,[],lg zV ⟨zR,trivial⟩⟩
def ordV:List Int→AV
 | []=>.empty
 | a::o=>.own 66 0 (a::o).length 1 none
def ordR:List Int→List (Nat×Row)
 | []=>[]
 | a::o=>[(66,zRow (a::o))]
abbrev lE (at_:Int) (v:AV):Env:=[(6,.int .i64 at_),(5,v),(4,.ptr 65 []),(0,.ptr 0 [])]
abbrev lR (l:List HOp) (b e:Int) (p:Prep) (sp:List (List aF)) (q:QS) (g:List Bool) (o:List (Nat×Row)):List (Nat×Row):=(65,.box 108 (.d (.arr 1 ef g)))::(o++cg l b e p sp q 9)
structure wY (p:Prep) (l:List HOp) (e:Nat) (st:List LSt) (sp:List (List aF)) (μ:Nat→Nat):Prop where
 go:∀(i:Nat),(dV p l e st sp)[i]?=some true→mn p l e st sp e i=true∨∃y,(spN sp i).find? (gX (dV p l e st sp))=some y
 dn:∀(i:Nat) ys,sp[i]?=some ys→∀y∈ys,μ y.to.toNat<μ i
 m0:μ 0≤1000000
def ji (p:Prep) (l:List HOp) (e:Nat) (st:List LSt) (sp:List (List aF)) (n:Nat):List Int×Bool :=
 if (dV p l e st sp)[0]?=some true then (eO p l e st sp (dV p l e st sp) n 0 [],true) else ([],false)
theorem gV {p:Prep} {l:List HOp} {e:Nat} {st:List LSt} {sp:List (List aF)} {g:List Bool} {μ:Nat→Nat} (dn:∀(i:Nat) ys,sp[i]?=some ys→∀y∈ys,μ y.to.toNat<μ i):∀(n:Nat) (i:Int) (o:List Int) (m:Nat),μ i.toNat<n→μ i.toNat<m→eO p l e st sp g n i o=eO p l e st sp g m i o
 | 0,_,_,_,h,_=>by omega
 | n+1,i,o,0,_,h=>by omega
 | n+1,i,o,m+1,h1,h2=>by
  unfold eO
  split
  ·rfl
  ·split
   ·rfl
   ·rename_i y hy
    have hym:=List.mem_of_find?_eq_some hy
    have hd:μ y.to.toNat<μ i.toNat:=by
     unfold spN at hym
     cases hs:sp[i.toNat]? with
     | none=>rw[hs]at hym; cases hym
     | some ys=>rw[hs]at hym; exact dn i.toNat ys hs y hym
    exact gV dn n y.to _ m (by omega) (by omega)
theorem Au (l:List HOp) (b:Int) (e:Nat) (p:Prep) (sp:List (List aF)) (q:QS) (μ:Nat→Nat) (P:POk l e p) (hS:∀y∈q.2,SOk p e y) (he:e≤1048576) (hsp:SpOk q.2 sp) (hE:Bo q.2 sp) (hN:q.2.length≤1048576) (h0:0<q.2.length) (hT:totS sp+1≤67108864) (hL:wY p l e q.2 sp μ):FnIs Try.prog 23 [.ptr 0 []] (cg l b e p sp q 9) (ordE (ji p l e q.2 sp (μ 0+1)).1 (ji p l e q.2 sp (μ 0+1)).2) (ordW (ji p l e q.2 sp (μ 0+1)).1++cg l b e p sp q 9):=by
 have hgood:=B9 l b e p sp q P hS he hsp hN h0 hT
 have hgl:=pp p l e q.2 sp
 have hgo:=hL.go
 obtain⟨g,hgd⟩:∃g,g=dV p l e q.2 sp:=⟨_,rfl⟩
 unfold ji
 rw[←hgd]at hgood hgl hgo ⊢
 obtain⟨c,hc⟩:∃c,g[0]?=some c:=⟨_,List.getElem?_eq_getElem (by omega)⟩
 have hg0:g[((0:Int)).toNat]?=some c:=hc
 refine aq aa Try.func23 rfl rfl rfl ?_
 cases c with
 | false =>
  rw[if_neg (by rw[hc]; decide)]
  refine z9 ?_;refine bE rfl (aS [] hgood rfl rfl rfl (aT rfl rfl au) ⟨zH,zN,zN,zH,zN,zN,zN,zN,zN,zH,zH,trivial⟩ rfl rfl (.inl rfl) rfl rfl) rfl rfl ?_;refine z8 ?_;refine rQ (bK aa rfl rfl rfl rfl rfl (by decide) hg0) ?_;refine z13 ?_
  exact⟨trivial,[],lg ⟨⟨_,rfl,AVLe.tup1 (jf _ _) rfl⟩,rfl,trivial⟩ ⟨zR,zM,zM,zR,zM,zM,zM,zM,zM,zR,zR,trivial⟩⟩
 | true =>
  rw[if_pos hc]
  have hm0:=hL.m0
  have hspl:=hsp.len
  refine z9 ?_;refine bE rfl (aS [] hgood rfl rfl rfl (aT rfl rfl au) ⟨zH,zN,zN,zH,zN,zN,zN,zN,zN,zH,zH,trivial⟩ rfl rfl (.inl rfl) rfl rfl) rfl rfl ?_;refine z8 ?_;refine rQ (bK aa rfl rfl rfl rfl rfl (by decide) hg0) ?_;refine z9 ?_;refine rQ (tU aa rfl rfl) ?_;refine z10 ?_
  refine wc_inv (fun s:Int×List Int=>⟨lE s.1 (ordV s.2),aw (lR l b e p sp q g (ordR s.2)),72,Try.f23.ntmps,64⟩) (fun s=>0≤s.1∧s.1<(q.2.length:Int)∧g[s.1.toNat]?=some true∧s.2.length+μ s.1.toNat≤μ 0∧∀k,μ s.1.toNat<k→eO p l e q.2 sp g k s.1 s.2=eO p l e q.2 sp g (μ 0+1) 0 []) (fun s=>μ s.1.toNat) (0,[]) [(65,some 96)] ⟨Int.le_refl _,by simp only; omega,hc,by simp,(fun k hk=>gV hL.dn k 0 [] _ hk (Nat.lt_succ_self _))⟩
   (lg zi ⟨zR,zR,zM,zM,zR,zM,zM,zM,zM,zM,zR,zR,trivial⟩) ?_
  rintro⟨i,o⟩ ⟨hi0,hi1,hgi,hol0,hlG⟩
  simp only at hi0 hi1 hgi hol0 hlG
  refine bt ?_
  show WC _ _ _ _ (lE i (ordV o)) (aw (lR l b e p sp q g (ordR o))) _
  obtain⟨x,hx⟩:∃x,q.2[i.toNat]?=some x:=⟨_,List.getElem?_eq_getElem (by omega)⟩
  have hends:=wE l b e p sp q P hS he hsp hE hT e i x hi0 hx (by have:=(hS x (List.mem_of_getElem? hx)).era; omega)
  have hlG1:=hlG (μ i.toNat+1) (by omega)
  rw[eO]at hlG1
  cases hen:mn p l e q.2 sp e i with
  | true =>
   rw[hen]at hends
   rw[hen,if_pos rfl]at hlG1
   rw[←hlG1]
   cases o with
   | nil =>
    show WC _ _ _ _ (lE i .empty) (aw (lR l b e p sp q g [])) _
    have d9:decide ((0:Int)=0)=true:=rfl
    refine z5 ?_;refine bE rfl (aS [] hends rfl rfl rfl (aT rfl rfl (aE au)) ⟨zH,zN,zN,zH,zN,zN,zN,zN,zN,zH,zH,trivial⟩ rfl rfl (.inl rfl) rfl rfl) rfl rfl ?_;refine z13 ?_;refine rQ (xH aa rfl rfl) ?_;refine z12 ?_
    exact⟨trivial,[],lg ⟨⟨_,rfl,AVLe.tup1 (jf _ _) rfl⟩,rfl,trivial⟩ ⟨zR,zM,zM,zR,zM,zM,zM,zM,zM,zR,zR,trivial⟩⟩
   | cons a0 o0 =>
    show WC _ _ _ _ (lE i (.own 66 0 (a0::o0).length 1 none)) (aw (lR l b e p sp q g [(66,zRow (a0::o0))])) _
    have d9:decide (((a0::o0).length:Int)=0)=false:=dF (by simp only[List.length_cons]; omega)
    refine z5 ?_;refine bE rfl (aS [] hends rfl rfl rfl (aT rfl rfl (aE au)) ⟨zH,zN,zN,zH,zN,zN,zN,zN,zN,zH,zH,trivial⟩ rfl rfl (.inl rfl) rfl rfl) rfl rfl ?_;refine z23 ?_;refine aC (aS [(0,some 66)] (A8 (a0::o0)) rfl rfl rfl (iV rfl rfl au) ⟨zH,trivial⟩ rfl rfl (.inl rfl) rfl rfl) rfl ?_;refine z5 ?_
    exact⟨trivial,[(64,some 66)],lg zl ⟨zR,zR,zM,zM,zR,zM,zM,zM,zM,zM,zR,zR,trivial⟩⟩
  | false =>
   rw[hen]at hends
   rw[hen,if_neg (by decide)]at hlG1
   obtain⟨ys,hys⟩:∃ys,sp[i.toNat]?=some ys:=⟨_,List.getElem?_eq_getElem (by omega)⟩
   have hspn:spN sp i=ys:=by rw[spN,hys]; rfl
   have hspn2:spN sp ((i.toNat:Nat):Int)=ys:=by rw[Int.toNat_of_nonneg hi0]; exact hspn
   obtain⟨y,hy⟩:∃y,ys.find? (gX g)=some y:=by
    rcases hgo i.toNat hgi with h | ⟨y,h⟩
    ·rw[Int.toNat_of_nonneg hi0,hen]at h; cases h
    ·rw[hspn2]at h; exact⟨y,h⟩
   have hto:=hsp.to ys (List.mem_of_getElem? hys)
   have hyl:ys.length≤67108864:=by have h1:=mI hys; have h2:=nO sp (i.toNat+1); omega
   have hix:=Dk ys 45 g (gX g) (by omega) (fun o ho=>Dt g o (hto o ho).1 (by have:=(hto o ho).2; omega))
   obtain⟨k,hk,hyk⟩:=tp ys 0 hy
   rw[hk,Nat.zero_add]at hix
   have hkl:=(List.getElem?_eq_some_iff.1 hyk).1
   have hk2:ys[((k:Nat):Int).toNat]?=some y:=by rw[Int.toNat_natCast]; exact hyk
   have hym:=List.mem_of_getElem? hyk
   obtain⟨hy0,hy1⟩:=hto y hym
   have hdn:=hL.dn i.toNat ys hys y hym
   have hgy:g[y.to.toNat]?=some true:=by
    have:=List.find?_some hy
    unfold gX at this
    cases hq:g[y.to.toNat]? with
    | none=>rw[hq]at this; cases this
    | some c=>rw[hq]at this; simp only[Option.getD_some]at this; rw[this]
   have hlG2:∀m,eO p l e q.2 sp g (m+1) i o=eO p l e q.2 sp g m y.to (if decide (0≤y.op)=true then o++[y.op] else o):=fun m=>by
    rw[eO,hen,if_neg (by decide),hspn,hy]
   have hlG3:∀k,μ y.to.toNat<k→eO p l e q.2 sp g k y.to (if decide (0≤y.op)=true then o++[y.op] else o)=eO p l e q.2 sp g (μ 0+1) 0 []:=fun m hm=>by
    rw[gV hL.dn m y.to _ (μ i.toNat) hm hdn,←hlG2]
    exact hlG _ (by omega)
   cases d5:decide (0≤y.op) with
   | false =>
    rw[d5,if_neg (by decide)]at hlG3
    cases o with
    | nil =>
     show WC _ _ _ _ (lE i .empty) (aw (lR l b e p sp q g [])) _
     refine z5 ?_;refine bE rfl (aS [] hends rfl rfl rfl (aT rfl rfl (aE au)) ⟨zH,zN,zN,zH,zN,zN,zN,zN,zN,zH,zH,trivial⟩ rfl rfl (.inl rfl) rfl rfl) rfl rfl ?_;refine z14 ?_;refine rQ (bg aa rfl rfl rfl rfl rfl hi0 (by omega)) ?_;refine rQ (aX (v :=.d (cF ys)) aa rfl rfl ⟨rfl,ys,hys,cF ys,rfl,rfl⟩ rfl) ?_;refine z1 ?_;refine aC (aS [(0,some 65)] hix rfl rfl rfl (aE (cU rfl rfl au)) ⟨zH,trivial⟩ rfl rfl (.inl rfl) rfl rfl) rfl ?_;refine z10 ?_;refine rQ (bg aa rfl rfl rfl rfl rfl hi0 (by omega)) ?_;refine rQ (aX (v :=.d (cF ys)) aa rfl rfl ⟨rfl,ys,hys,cF ys,rfl,rfl⟩ rfl) ?_;refine z24 ?_
     exact an (y.to,[]) [(65,some 65)] ⟨hy0,hy1,hgy,by simp only[List.length_nil]at hol0 ⊢; omega,hlG3⟩ hdn (lg zi ⟨zR,zR,zM,zM,zR,zM,zM,zM,zM,zM,zR,zR,trivial⟩)
    | cons a0 o0 =>
     show WC _ _ _ _ (lE i (.own 66 0 (a0::o0).length 1 none)) (aw (lR l b e p sp q g [(66,zRow (a0::o0))])) _
     refine z5 ?_;refine bE rfl (aS [] hends rfl rfl rfl (aT rfl rfl (aE au)) ⟨zH,zN,zN,zH,zN,zN,zN,zN,zN,zH,zH,trivial⟩ rfl rfl (.inl rfl) rfl rfl) rfl rfl ?_;refine z14 ?_;refine rQ (bg aa rfl rfl rfl rfl rfl hi0 (by omega)) ?_;refine rQ (aX (v :=.d (cF ys)) aa rfl rfl ⟨rfl,ys,hys,cF ys,rfl,rfl⟩ rfl) ?_;refine z1 ?_;refine aC (aS [(0,some 65)] hix rfl rfl rfl (aE (cU rfl rfl au)) ⟨zH,trivial⟩ rfl rfl (.inl rfl) rfl rfl) rfl ?_;refine z10 ?_;refine rQ (bg aa rfl rfl rfl rfl rfl hi0 (by omega)) ?_;refine rQ (aX (v :=.d (cF ys)) aa rfl rfl ⟨rfl,ys,hys,cF ys,rfl,rfl⟩ rfl) ?_;refine z24 ?_
     exact an (y.to,a0::o0) [(65,some 65),(66,some 66)] ⟨hy0,hy1,hgy,by simp only at hol0 ⊢; omega,hlG3⟩ hdn (lg zi ⟨zR,zR,zR,zM,zM,zR,zM,zM,zM,zM,zM,zR,zR,trivial⟩)
   | true =>
    rw[d5,if_pos rfl]at hlG3
    cases o with
    | nil =>
     show WC _ _ _ _ (lE i .empty) (aw (lR l b e p sp q g [])) _
     refine z5 ?_;refine bE rfl (aS [] hends rfl rfl rfl (aT rfl rfl (aE au)) ⟨zH,zN,zN,zH,zN,zN,zN,zN,zN,zH,zH,trivial⟩ rfl rfl (.inl rfl) rfl rfl) rfl rfl ?_;refine z14 ?_;refine rQ (bg aa rfl rfl rfl rfl rfl hi0 (by omega)) ?_;refine rQ (aX (v :=.d (cF ys)) aa rfl rfl ⟨rfl,ys,hys,cF ys,rfl,rfl⟩ rfl) ?_;refine z1 ?_;refine aC (aS [(0,some 65)] hix rfl rfl rfl (aE (cU rfl rfl au)) ⟨zH,trivial⟩ rfl rfl (.inl rfl) rfl rfl) rfl ?_;refine z10 ?_;refine rQ (bg aa rfl rfl rfl rfl rfl hi0 (by omega)) ?_;refine rQ (aX (v :=.d (cF ys)) aa rfl rfl ⟨rfl,ys,hys,cF ys,rfl,rfl⟩ rfl) ?_;refine z26 ?_;refine aO (ae aa rfl rfl rfl rfl rfl rfl rfl rfl) rfl ?_;refine aO (pM (enc:=i6) (s:=1) aa y.op rfl rfl rfl rfl (.inl rfl) rfl rfl rfl rfl) rfl ?_;refine z3 ?_
     exact an (y.to,[y.op]) [(65,some 65),(66,some 360)] ⟨hy0,hy1,hgy,by simp only[List.length_nil,List.length_singleton]at hol0 ⊢; omega,hlG3⟩ hdn (lg zi ⟨zR,zR,zR,zM,zM,zR,zM,zM,zM,zM,zM,zR,zR,trivial⟩)
    | cons a0 o0 =>
     show WC _ _ _ _ (lE i (.own 66 0 (a0::o0).length 1 none)) (aw (lR l b e p sp q g [(66,zRow (a0::o0))])) _
     obtain⟨o,ho⟩:∃o,o=a0::o0:=⟨_,rfl⟩
     rw[←ho]at hol0 hlG3 ⊢
     have hol:o.length+1≤1048576:=by omega
     refine z5 ?_;refine bE rfl (aS [] hends rfl rfl rfl (aT rfl rfl (aE au)) ⟨zH,zN,zN,zH,zN,zN,zN,zN,zN,zH,zH,trivial⟩ rfl rfl (.inl rfl) rfl rfl) rfl rfl ?_;refine z14 ?_;refine rQ (bg aa rfl rfl rfl rfl rfl hi0 (by omega)) ?_;refine rQ (aX (v :=.d (cF ys)) aa rfl rfl ⟨rfl,ys,hys,cF ys,rfl,rfl⟩ rfl) ?_;refine z1 ?_;refine aC (aS [(0,some 65)] hix rfl rfl rfl (aE (cU rfl rfl au)) ⟨zH,trivial⟩ rfl rfl (.inl rfl) rfl rfl) rfl ?_;refine z10 ?_;refine rQ (bg aa rfl rfl rfl rfl rfl hi0 (by omega)) ?_;refine rQ (aX (v :=.d (cF ys)) aa rfl rfl ⟨rfl,ys,hys,cF ys,rfl,rfl⟩ rfl) ?_;refine z26 ?_;refine aO (ae aa rfl rfl rfl rfl rfl rfl rfl rfl) rfl ?_;refine aC (aJ (s:=1) (enc:=i6) (xs:=o) aa y.op rfl rfl rfl rfl rfl rfl rfl rfl rfl hol rfl) rfl ?_;refine z3 ?_
     subst ho
     exact an (y.to,a0::o0++[y.op]) [(65,some 65),(66,some 360)] ⟨hy0,hy1,hgy,by simp only[List.length_append,List.length_singleton]at hol0 ⊢; omega,hlG3⟩ hdn (lg ⟨zE,rfl,⟨_,rfl,AVLe.of_eq (by show _=AV.ren _ (AV.own 66 0 (a0::o0++[y.op]).length 1 none); rw[List.length_append]; rfl)⟩,rfl,zE,rfl,zE,rfl,trivial⟩ ⟨zR,zR,zR,zM,zM,zR,zM,zM,zM,zM,zM,zR,zR,trivial⟩)
end Go.Proofs.Ytmdgmolbamlicaa
namespace Go.Proofs.Ytmdgmolbamlicaa
open Go.Eng Go.Plain
set_option maxHeartbeats 32000000
set_option maxRecDepth 20000
def iW (t:List UInt8):Nat:=t.countP fun c=>decide (c=0)
theorem ov (n:Nat):iW (cQ n)=n:=by
 unfold iW cQ
 induction n with
 | zero=>rfl
 | succ n ih=>rw[List.replicate_succ,List.countP_cons,ih]; rfl
theorem su {t:List UInt8} {k:Nat} (h:t[k]?=some 0):iW (il t k)+1=iW t:=by
 have hlt:=(List.getElem?_eq_some_iff.1 h).1
 have e:t=t.take k++0::t.drop (k+1):=by
  have:=List.take_append_drop k t
  rw[List.drop_eq_getElem_cons hlt,(List.getElem?_eq_some_iff.1 h).2]at this
  exact this.symm
 unfold iW il
 rw[List.countP_append,List.countP_append]
 conv=>rhs; rw[e,List.countP_append,List.countP_cons]
 simp
 omega
theorem xd {t:List UInt8} {k:Nat} (hk:k<t.length) (h:tkB t (k:Int)=false):t[k]?=some 0:=by
 obtain⟨c,hc⟩:∃c,t[k]?=some c:=⟨_,List.getElem?_eq_getElem hk⟩
 unfold tkB at h
 rw[Int.toNat_natCast,hc,Option.getD_some]at h
 have h2:=of_decide_eq_false h
 rw[hc]
 congr 1
 apply UInt8.toNat_inj.1
 show c.toNat=0
 omega
def oo (p:Prep) (st:List LSt) (x:LSt) (y:aF):Prop :=
 0≤y.to∧∃x',st[y.to.toNat]?=some x'∧((0≤y.op∧x'.era=x.era∧iW x'.taken+1=iW x.taken)∨(y.op<0∧x'.era=x.era+1∧iW x'.taken=(zOf p x'.era).length))
def Ext (a b:List LSt):Prop:=∀(i:Nat) (x:LSt),a[i]?=some x→b[i]?=some x
theorem Ext.refl (a:List LSt):Ext a a:=fun _ _ h=>h
theorem Ext.trans {a b c:List LSt} (h1:Ext a b) (h2:Ext b c):Ext a c:=fun i x h=>h2 i x (h1 i x h)
theorem Ext.step {p:Prep} {a b:List LSt} {x:LSt} {y:aF} (h:Ext a b) (hs:oo p a x y):oo p b x y:=by
 obtain⟨h0,x',h1,h2⟩:=hs
 exact⟨h0,x',h _ _ h1,h2⟩
structure QOk (p:Prep) (e:Nat) (q:QS):Prop where
 st:∀y∈q.2,SOk p e y
 kn:∀x n,getA q.1 x=some n→0≤n∧q.2[n.toNat]?=some x
 uq:∀(i:Nat) (x:LSt),q.2[i]?=some x→getA q.1 x=some (i:Int)
theorem mE {p:Prep} {e:Nat} {q:QS} {x:LSt} (Q:QOk p e q) (hx:SOk p e x):QOk p e (addS q x).1∧Ext q.2 (addS q x).1.2∧0≤(addS q x).2∧(addS q x).1.2[(addS q x).2.toNat]?=some x:=by
 have hok:=oh (q:=q) Q.st hx
 unfold addS at hok ⊢
 cases hg:getA q.1 x with
 | some n =>
  obtain⟨h1,h2⟩:=Q.kn x n hg
  exact⟨Q,Ext.refl _,h1,h2⟩
 | none =>
  rw[hg]at hok
  simp only at hok ⊢
  refine⟨⟨hok,fun z n hz=>?_,fun i z hz=>?_⟩,fun i z hz=>?_,by omega,?_⟩
  ·rw[iN]at hz
   split at hz
   ·rename_i e; cases hz; subst e
    exact⟨by omega,by rw[Int.toNat_natCast,List.getElem?_append_right (Nat.le_refl _),Nat.sub_self]; rfl⟩
   ·obtain⟨h1,h2⟩:=Q.kn z n hz
    exact⟨h1,by rw[List.getElem?_append_left (List.getElem?_eq_some_iff.1 h2).1]; exact h2⟩
  ·rw[iN]
   by_cases hi:i<q.2.length
   ·rw[List.getElem?_append_left hi]at hz
    have:=Q.uq i z hz
    split
    ·rename_i e; subst e; rw[hg]at this; cases this
    ·exact this
   ·rw[List.getElem?_append_right (by omega)]at hz
    have hil:i-q.2.length=0:=by have:=(List.getElem?_eq_some_iff.1 hz).1; simp at this; omega
    rw[hil]at hz
    simp only[List.getElem?_cons_zero,Option.some.injEq]at hz
    subst hz
    rw[if_pos rfl]
    congr 1; omega
  ·rw[List.getElem?_append_left (List.getElem?_eq_some_iff.1 hz).1]; exact hz
  ·rw[Int.toNat_natCast,List.getElem?_append_right (Nat.le_refl _),Nat.sub_self]; rfl
theorem AF (p:Prep) (x:LSt) (o:HOp):(hapS p x o).1.era=x.era:=by unfold hapS; split <;> (try split) <;> (try split) <;> rfl
structure NInv (p:Prep) (e:Nat) (q:QS) (x:LSt) (k:Nat) (a:QS×List aF):Prop where
 ok:QOk p e a.1
 ext:Ext q.2 a.1.2
 rel:∀y∈a.2,oo p a.1.2 x y
 len:a.2.length≤k
theorem BS {l:List HOp} {e:Nat} {p:Prep} {x:LSt} {k:Nat} {i:Int} {q:QS} {a:QS×List aF} (P:POk l e p) (S:SOk p e x) (hi:(zOf p x.era)[k]?=some i) (N:NInv p e q x k a):NInv p e q x (k+1) (opS p l x k i a):=by
 obtain⟨e0,e1⟩:=S.era
 obtain⟨n,hn⟩:∃n:Nat,x.era=n:=⟨x.era.toNat,by omega⟩
 have hm:=P.zm (k:=n) (by omega)
 have hi':=hi
 rw[hn]at hi
 obtain⟨i0,o,ho,hO⟩:=P.row _ hm i (List.mem_of_getElem? hi)
 have hop:opN l i.toNat=o:=by rw[opN,ho]; rfl
 have hkl:=(List.getElem?_eq_some_iff.1 hi).1
 have htk:k<x.taken.length:=by rw[S.tk,hn]; exact hkl
 unfold opS
 split
 ·exact⟨N.ok,N.ext,N.rel,Nat.le_succ_of_le N.len⟩
 ·rename_i hsk
  split
  ·rw[hop]
   have hS:=ww P S hO
   have hera:=AF p x o
   have hy:SOk p e { (hapS p x o).1 with taken:=il x.taken k }:=⟨hS.era,by simp only; rw[p6 htk,S.tk,hera],hS.ar,hS.du⟩
   obtain⟨h1,h2,h3,h4⟩:=mE N.ok hy
   have hz:x.taken[k]?=some 0:=xd htk (by
    unfold im at hsk
    simp only[Bool.or_eq_true,not_or,Bool.not_eq_true]at hsk
    exact hsk.2.1)
   refine⟨h1,N.ext.trans h2,fun y hy'=>?_,by simp only[List.length_append,List.length_singleton]; have:=N.len; omega⟩
   rcases List.mem_append.1 hy' with hy' | hy'
   ·exact h2.step (N.rel y hy')
   ·rw[List.mem_singleton.1 hy']
    exact⟨h3,_,h4,.inl ⟨i0,hera,su hz⟩⟩
  ·exact⟨N.ok,N.ext,N.rel,Nat.le_succ_of_le N.len⟩
theorem qz {l:List HOp} {e:Nat} {p:Prep} {x:LSt} {q:QS} (P:POk l e p) (S:SOk p e x):∀(z:List Int) (k:Nat) (a:QS×List aF),(zOf p x.era).drop k=z→NInv p e q x k a→NInv p e q x (k+z.length) (da p l x z k a)
 | [],_,a,_,h=>h
 | i::z,k,a,hz,h=>by
  have hi:(zOf p x.era)[k]?=some i:=by
   have:=congrArg (fun l=>l[0]?) hz
   simpa using this
  have:=qz P S z (k+1) _ (by have:=congrArg List.tail hz; simpa using this) (BS P S hi h)
  rw[List.length_cons,show k+(z.length+1)=k+1+z.length by omega]
  exact this
theorem xF {l:List HOp} {e:Nat} {p:Prep} {x:LSt} {q:QS} (P:POk l e p) (S:SOk p e x) (Q:QOk p e q):NInv p e q x ((zOf p x.era).length+1) (cC p l e x q):=by
 have h:=qz P S (zOf p x.era) 0 (q,[]) (by simp) ⟨Q,Ext.refl _,(fun y hy=>by cases hy),Nat.le_refl _⟩
 rw[Nat.zero_add]at h
 have hw:NInv p e q x ((zOf p x.era).length+1) (da p l x (zOf p x.era) 0 (q,[])):=⟨h.ok,h.ext,h.rel,Nat.le_succ_of_le h.len⟩
 obtain⟨e0,e1⟩:=S.era
 unfold cC ny
 split
 ·rename_i hd
  have hd:=of_decide_eq_true hd
  split
  ·have hy:SOk p e ⟨x.era+1,cQ (zOf p (x.era+1)).length,x.durable,x.durable⟩:=⟨⟨by simp only; omega,hd⟩,by simp[cQ],S.du,S.du⟩
   obtain⟨h1,h2,h3,h4⟩:=mE h.ok hy
   refine⟨h1,h.ext.trans h2,fun y hy'=>?_,by simp only[List.length_append,List.length_singleton]; have:=h.len; omega⟩
   rcases List.mem_append.1 hy' with hy' | hy'
   ·exact h2.step (h.rel y hy')
   ·rw[List.mem_singleton.1 hy']
    exact⟨h3,_,h4,.inr ⟨show (-1:Int)<0 by decide,rfl,ov _⟩⟩
  ·exact hw
 ·exact hw
structure SInv (p:Prep) (e:Nat) (i:Nat) (q:QS) (sp:List (List aF)):Prop where
 ok:QOk p e q
 len:sp.length=i
 le:i≤q.2.length
 fst:q.2[0]?=some (dD p)
 rel:∀(k:Nat) x ys,q.2[k]?=some x→sp[k]?=some ys→ys.length≤(zOf p x.era).length+1∧∀y∈ys,oo p q.2 x y
theorem xZ {p:Prep} {e:Nat} (he:0<e):SOk p e (dD p):=⟨⟨Int.le_refl _,by show (0:Int)<e; omega⟩,by simp[dD,cQ],by simp[dD,cQ],by simp[dD,cQ]⟩
theorem CC {p:Prep} {e:Nat} (he:0<e):SInv p e 0 (addS ([],[]) (dD p)).1 []:=by
 obtain⟨h1,h2,h3,h4⟩:=mE (q:=([],[])) ⟨(fun y hy=>by cases hy),(fun x n h=>by cases h),(fun i x h=>by simp at h)⟩ (xZ (p:=p) he)
 exact⟨h1,rfl,Nat.zero_le _,h4,fun k x ys _ hs=>by simp at hs⟩
theorem xk {l:List HOp} {p:Prep} {e:Nat} {i:Nat} {q:QS} {sp:List (List aF)} {x:LSt} (P:POk l e p) (I:SInv p e i q sp) (hx:q.2[i]?=some x):SInv p e (i+1) (cC p l e x q).1 (sp++[(cC p l e x q).2]):=by
 have N:=xF P (I.ok.st x (List.mem_of_getElem? hx)) I.ok
 have hil:=(List.getElem?_eq_some_iff.1 hx).1
 have hle:=qx p l e x q
 refine⟨N.ok,by rw[List.length_append,List.length_singleton,I.len],by omega,N.ext _ _ I.fst,fun k z ys hz hs=>?_⟩
 by_cases hk:k<i
 ·rw[List.getElem?_append_left (by rw[I.len]; exact hk)]at hs
  obtain⟨z',hz'⟩:∃z',q.2[k]?=some z':=⟨_,List.getElem?_eq_getElem (by omega)⟩
  have e1:=N.ext k z' hz'
  rw[hz]at e1
  cases e1
  obtain⟨h1,h2⟩:=I.rel k z ys hz' hs
  exact⟨h1,fun y hy=>N.ext.step (h2 y hy)⟩
 ·rw[List.getElem?_append_right (by rw[I.len]; omega),I.len]at hs
  have hk0:k-i=0:=by have:=(List.getElem?_eq_some_iff.1 hs).1; simp at this; omega
  rw[hk0]at hs
  simp only[List.getElem?_cons_zero,Option.some.injEq]at hs
  subst hs
  have hki:k=i:=by omega
  subst hki
  have e1:=N.ext k x hx
  rw[hz]at e1
  cases e1
  exact⟨N.len,N.rel⟩
theorem p9 {l:List HOp} {p:Prep} {e:Nat} {fuel:Int} (P:POk l e p):∀(n i:Nat) (q:QS) (sp:List (List aF)) (r:QS×List (List aF)),SInv p e i q sp→fc p l e fuel n i q sp=some r→SInv p e r.1.2.length r.1 r.2∧(r.1.2.length:Int)≤fuel
 | 0,i,q,sp,r,_,h=>by simp[fc]at h
 | n+1,i,q,sp,r,I,h=>by
  unfold fc at h
  cases hx:q.2[i]? with
  | none =>
   rw[hx]at h
   simp only at h
   split at h
   ·cases h
   ·cases h
    have h1:=List.getElem?_eq_none_iff.1 hx
    have h2:=I.le
    have h3:i=q.2.length:=by omega
    subst h3
    exact⟨I,by simp only; omega⟩
  | some x =>
   rw[hx]at h
   simp only at h
   split at h
   ·cases h
   ·exact p9 P n (i+1) _ _ r (xk P I hx) h
theorem gn {l:List HOp} {p:Prep} {e:Nat} {fuel:Int} {q:QS} {sp:List (List aF)} (P:POk l e p) (he:0<e) (h:kR p l e fuel=some (q,sp)):SInv p e q.2.length q sp∧(q.2.length:Int)≤fuel :=
 p9 P _ _ _ _ _ (CC he) h
def nr (p:Prep):Nat→Nat→Nat
 | 0,_=>0
 | n+1,k=>(zOf p k).length+nr p n (k+1)
def rkS (p:Prep) (e:Nat) (x:LSt):Nat:=(e-x.era.toNat)+nr p (e-(x.era.toNat+1)) (x.era.toNat+1)+iW x.taken
def muS (p:Prep) (e:Nat) (st:List LSt) (i:Nat):Nat:=match st[i]? with
 | some x=>rkS p e x
 | none=>0
theorem SInv.spOk {p:Prep} {e:Nat} {q:QS} {sp:List (List aF)} (I:SInv p e q.2.length q sp):SpOk q.2 sp:=by
 refine⟨I.len,fun ys hys y hy=>?_⟩
 obtain⟨k,hk⟩:=List.mem_iff_getElem?.1 hys
 have hkl:=(List.getElem?_eq_some_iff.1 hk).1
 rw[I.len]at hkl
 obtain⟨h0,x',h1,_⟩:=(I.rel k _ ys (List.getElem?_eq_getElem hkl) hk).2 y hy
 have:=(List.getElem?_eq_some_iff.1 h1).1
 exact⟨h0,by omega⟩
theorem SInv.eraOk {p:Prep} {e:Nat} {q:QS} {sp:List (List aF)} (I:SInv p e q.2.length q sp):Bo q.2 sp:=fun i x ys hx hys y hy hop=>by
 obtain⟨h0,x',h1,h2 | h2⟩:=(I.rel i x ys hx hys).2 y hy
 ·omega
 ·exact⟨x',h1,h2.2.1⟩
theorem SInv.dn {p:Prep} {e:Nat} {q:QS} {sp:List (List aF)} (I:SInv p e q.2.length q sp) (i:Nat) (ys:List aF) (hys:sp[i]?=some ys) (y:aF) (hy:y∈ys):muS p e q.2 y.to.toNat<muS p e q.2 i:=by
 have hil:=(List.getElem?_eq_some_iff.1 hys).1
 rw[I.len]at hil
 obtain⟨x,hx⟩:∃x,q.2[i]?=some x:=⟨_,List.getElem?_eq_getElem hil⟩
 obtain⟨h0,x',h1,h2⟩:=(I.rel i x ys hx hys).2 y hy
 have hxe:=(I.ok.st x (List.mem_of_getElem? hx)).era
 have hxe':=(I.ok.st x' (List.mem_of_getElem? h1)).era
 unfold muS
 rw[h1,hx]
 simp only[rkS]
 rcases h2 with ⟨_,h3,h4⟩ | ⟨_,h3,h4⟩
 ·rw[h3]; omega
 ·have e1:x'.era.toNat=x.era.toNat+1:=by omega
  have e2:e-(x.era.toNat+1)=(e-(x'.era.toNat+1))+1:=by omega
  rw[e2,nr,h4,e1,show ((x.era.toNat+1:Nat):Int)=x'.era by omega]
  omega
theorem qc {l:List HOp} {b:Int} {e:Nat} {p:Prep} {ks:List Int} {kv:List (List UInt8)} (F:gJ l b e p ks kv):∀n k,k+n=e→nr p n k+sumM l b k=sumM l b e
 | 0,k,h=>by
  have:k=e:=by omega
  subst this; simp[nr]
 | n+1,k,h=>by
  have ih:=qc F n (k+1) (by omega)
  have hz:zOf p k=zs (mayI l b k):=by rw[zOf,Int.toNat_natCast,F.opk k (by omega)]; rfl
  rw[show sumM l b (k+1)=sumM l b k+(mayI l b k).length from rfl]at ih
  rw[nr,hz,fj]
  omega
theorem mu0 {l:List HOp} {b:Int} {e:Nat} {p:Prep} {ks:List Int} {kv:List (List UInt8)} {q:QS} {sp:List (List aF)} (F:gJ l b e p ks kv) (I:SInv p e q.2.length q sp) (he:0<e):muS p e q.2 0=e+sumM l b e:=by
 unfold muS
 rw[I.fst]
 simp only[rkS,dD]
 obtain⟨n,rfl⟩:∃n,e=n+1:=⟨e-1,by omega⟩
 have h1:=qc F (n+1) 0 (by omega)
 have h2:sumM l b 0=0:=rfl
 rw[ov]
 have h3:nr p (n+1) 0=(zOf p 0).length+nr p n 1:=rfl
 have e0:Int.toNat 0=0:=rfl
 rw[e0,show n+1-(0+1)=n by omega,show 0+1=1 from rfl]
 omega
theorem CX {sp:List (List aF)} {M:Nat} (h:∀ys∈sp,ys.length≤M):totS sp≤sp.length*M:=by
 induction sp with
 | nil=>simp[totS]
 | cons a sp ih =>
  have h1:=h a (by simp)
  have h2:=ih fun ys hys=>h ys (by simp[hys])
  simp only[totS,List.length_cons,Nat.add_mul,Nat.one_mul]
  omega
theorem SInv.tot {p:Prep} {e:Nat} {q:QS} {sp:List (List aF)} (I:SInv p e q.2.length q sp) {M:Nat} (hM:∀x∈q.2,(zOf p x.era).length≤M):totS sp≤q.2.length*(M+1):=by
 have:=CX (sp:=sp) (M:=M+1) fun ys hys=>by
  obtain⟨k,hk⟩:=List.mem_iff_getElem?.1 hys
  have hkl:=(List.getElem?_eq_some_iff.1 hk).1
  rw[I.len]at hkl
  have h1:=(I.rel k _ ys (List.getElem?_eq_getElem hkl) hk).1
  have h2:=hM _ (List.getElem_mem hkl)
  omega
 rwa [I.len]at this
end Go.Proofs.Ytmdgmolbamlicaa
namespace Go.Proofs.Ytmdgmolbamlicaa
open Go.Eng Go.Plain
set_option maxHeartbeats 32000000
set_option maxRecDepth 20000
section
variable {p : Prep} {l : List HOp} {e : Nat} {st : List LSt} {sp : List (List aF)} {B : List (List Int)} {n : Nat}
def bN (B:List (List Int)) (i:Nat):List Int:=(B[i]?).getD []
def uj (sp:List (List aF)) (n m:Nat) (B:List (List Int)):Prop:=B.length=n∧∀(i:Nat) (k:Int),i<n→(k∈bN B i ↔ ∃j:Nat,k=j∧j<m∧∃y∈spN sp (j:Int),y.to.toNat=i)
theorem Bf {i:Nat} (hi:i<n):∀(ys:List aF) (B:List (List Int)),B.length=n→(∀y∈ys,y.to.toNat<n)→(ys.foldl (bkF i) B).length=n∧∀(j:Nat) (k:Int),j<n→(k∈bN (ys.foldl (bkF i) B) j↔k∈bN B j∨(k=i∧∃y∈ys,y.to.toNat=j))
 | [],B,hl,_=>⟨hl,fun j k _=>by simp⟩
 | y::ys,B,hl,hy=>by
  have h0:=hy y (by simp)
  obtain⟨b,hb⟩:∃b,B[y.to.toNat]?=some b:=⟨_,List.getElem?_eq_getElem (by omega)⟩
  have he:bkF i B y=B.set y.to.toNat (b++[(i:Int)]):=by rw[bkF,hb]; rfl
  have hl2:(bkF i B y).length=n:=by rw[he,List.length_set]; exact hl
  obtain⟨h1,h2⟩:=Bf hi ys (bkF i B y) hl2 fun z hz=>hy z (by simp[hz])
  refine⟨h1,fun j k hj=>?_⟩
  rw[List.foldl_cons,h2 j k hj]
  have h3:k∈bN (bkF i B y) j↔k∈bN B j∨(k=i∧y.to.toNat=j):=by
   rw[he]
   unfold bN
   by_cases hyj:y.to.toNat=j
   ·subst hyj
    rw[List.getElem?_set_self (by omega),hb]
    simp
   ·rw[List.getElem?_set_ne hyj]
    simp[hyj]
  rw[h3]
  simp only[List.mem_cons,exists_eq_or_imp]
  constructor
  ·rintro ((h | h) | h)
   ·exact .inl h
   ·exact .inr ⟨h.1,.inl h.2⟩
   ·exact .inr ⟨h.1,.inr h.2⟩
  ·rintro (h | ⟨h,h4 | h4⟩)
   ·exact .inl (.inl h)
   ·exact .inl (.inr ⟨h,h4⟩)
   ·exact .inr ⟨h,h4⟩
structure G1 (p:Prep) (l:List HOp) (e:Nat) (st:List LSt) (sp:List (List aF)) (m:Nat) (g:GSt):Prop where
 b:uj sp st.length m g.B
 ol:g.out.length=st.length
 o:∀i,i<st.length→(g.out[i]?=some true↔i<m∧endB p l e (stN st i)=true)
 q:∀k,k∈g.opn ↔ ∃j:Nat,k=j∧j<m∧endB p l e (stN st j)=true
theorem tC (hsp:SpOk st sp):∀m,m≤st.length→G1 p l e st sp m (gdA p l e st sp m)
 | 0,_=>by
  refine⟨⟨by simp[gdA,gd0],fun i k hi=>?_⟩,by simp[gdA,gd0],fun i hi=>?_,fun k=>?_⟩
  ·simp only[gdA,gd0,bN,List.getElem?_replicate,if_pos hi]
   simp
  ·simp only[gdA,gd0,List.getElem?_replicate,if_pos hi]
   simp
  ·simp[gdA,gd0]
 | m+1,hm=>by
  have ih:=tC hsp m (by omega)
  obtain⟨hbl,hbm⟩:=ih.b
  have hto:∀y∈spN sp (m:Int),y.to.toNat<st.length:=fun y hy=>by
   unfold spN at hy
   rw[Int.toNat_natCast]at hy
   cases hs:sp[m]? with
   | none=>rw[hs]at hy; cases hy
   | some ys=>rw[hs]at hy; have:=hsp.to ys (List.mem_of_getElem? hs) y hy; omega
  obtain⟨h1,h2⟩:=Bf (n:=st.length) (i:=m) (by omega) (spN sp m) (gdA p l e st sp m).B hbl hto
  have hB:uj sp st.length (m+1) ((spN sp m).foldl (bkF m) (gdA p l e st sp m).B):=⟨h1,fun i k hi=>by
   rw[h2 i k hi,hbm i k hi]
   constructor
   ·rintro (⟨j,h3,h4,h5⟩ | ⟨h3,h4⟩)
    ·exact⟨j,h3,by omega,h5⟩
    ·exact⟨m,h3,by omega,h4⟩
   ·rintro⟨j,h3,h4,h5⟩
    by_cases hj:j=m
    ·subst hj; exact .inr ⟨h3,h5⟩
    ·exact .inl ⟨j,h3,by omega,h5⟩⟩
  unfold gdA gd1
  cases he:endB p l e (stN st m) with
  | true =>
   rw[if_pos rfl]
   refine⟨hB,by simp only; rw[List.length_set]; exact ih.ol,fun i hi=>?_,fun k=>?_⟩
   ·simp only
    by_cases him:i=m
    ·subst him
     rw[List.getElem?_set_self (by rw[ih.ol]; exact hi)]
     simp[he]
    ·rw[List.getElem?_set_ne (fun e=>him e.symm),ih.o i hi]
     constructor
     ·rintro⟨h3,h4⟩; exact⟨by omega,h4⟩
     ·rintro⟨h3,h4⟩; exact⟨by omega,h4⟩
   ·simp only[List.mem_append,List.mem_singleton,ih.q k]
    constructor
    ·rintro (⟨j,h3,h4,h5⟩ | h3)
     ·exact⟨j,h3,by omega,h5⟩
     ·exact⟨m,h3,by omega,he⟩
    ·rintro⟨j,h3,h4,h5⟩
     by_cases hj:j=m
     ·subst hj; exact .inr h3
     ·exact .inl ⟨j,h3,by omega,h5⟩
  | false =>
   rw[if_neg (by decide)]
   refine⟨hB,ih.ol,fun i hi=>?_,fun k=>?_⟩
   ·simp only
    rw[ih.o i hi]
    constructor
    ·rintro⟨h3,h4⟩; exact⟨by omega,h4⟩
    ·rintro⟨h3,h4⟩
     refine⟨?_,h4⟩
     by_cases him:i=m
     ·subst him; rw[he]at h4; cases h4
     ·omega
   ·simp only[ih.q k]
    constructor
    ·rintro⟨j,h3,h4,h5⟩; exact⟨j,h3,by omega,h5⟩
    ·rintro⟨j,h3,h4,h5⟩
     refine⟨j,h3,?_,h5⟩
     by_cases hj:j=m
     ·subst hj; rw[he]at h5; cases h5
     ·omega
structure PJ (p:Prep) (l:List HOp) (e:Nat) (st:List LSt) (sp:List (List aF)) (B:List (List Int)) (i:Option Nat) (out:List Bool) (opn:List Int):Prop where
 ol:out.length=st.length
 a:∀k∈opn,0≤k∧out[k.toNat]?=some true
 b:∀k:Nat,out[k]?=some true→endB p l e (stN st k)=true∨∃y∈spN sp k,out[y.to.toNat]?=some true
 c:∀k:Nat,k<st.length→endB p l e (stN st k)=true→out[k]?=some true
 d:∀j:Nat,out[j]?=some true→(j:Int)∈opn∨some j=i∨∀k∈bN B j,out[k.toNat]?=some true
theorem PJ.psh {i:Nat} {out:List Bool} {opn:List Int} {k:Int} (hB:uj sp st.length st.length B) (hi:i<st.length) (hio:out[i]?=some true) (J:PJ p l e st sp B (some i) out opn) (hk:k∈bN B i):PJ p l e st sp B (some i) (pshF (out,opn) k).1 (pshF (out,opn) k).2∧(∀j:Nat,out[j]?=some true→(pshF (out,opn) k).1[j]?=some true)∧(pshF (out,opn) k).1[k.toNat]?=some true:=by
 obtain⟨j,rfl,hj,y,hy,hyi⟩:=(hB.2 i k hi).1 hk
 obtain⟨c,hc⟩:∃c,out[j]?=some c:=⟨_,List.getElem?_eq_getElem (by rw[J.ol]; exact hj)⟩
 have hc':out[((j:Int)).toNat]?=some c:=by rw[Int.toNat_natCast]; exact hc
 cases c with
 | true =>
  rw[Aa hc']
  exact⟨J,fun _ h=>h,hc'⟩
 | false =>
  rw[Ab hc']
  have hset:∀m:Nat,(out.set ((j:Int)).toNat true)[m]?=some true↔m=j∨out[m]?=some true:=fun m=>by
   rw[Int.toNat_natCast]
   by_cases hm:j=m
   ·subst hm
    rw[List.getElem?_set_self (by rw[J.ol]; exact hj)]; simp
   ·rw[List.getElem?_set_ne hm]
    constructor
    ·exact .inr
    ·rintro (h | h)
     ·exact absurd h.symm hm
     ·exact h
  refine⟨⟨by simp only; rw[List.length_set]; exact J.ol,fun m hm=>?_,fun m hm=>?_,fun m hm he=>?_,fun m hm=>?_⟩,fun m hm=>(hset m).2 (.inr hm),(hset _).2 (.inl (Int.toNat_natCast j))⟩
  ·rcases List.mem_append.1 hm with hm | hm
   ·exact⟨(J.a m hm).1,(hset _).2 (.inr (J.a m hm).2)⟩
   ·rw[List.mem_singleton.1 hm]
    exact⟨by omega,(hset _).2 (.inl (Int.toNat_natCast j))⟩
  ·rcases (hset m).1 hm with rfl | hm
   ·exact .inr ⟨y,hy,(hset _).2 (.inr (by rw[hyi]; exact hio))⟩
   ·rcases J.b m hm with h | ⟨z,hz,h⟩
    ·exact .inl h
    ·exact .inr ⟨z,hz,(hset _).2 (.inr h)⟩
  ·exact (hset m).2 (.inr (J.c m hm he))
  ·rcases (hset m).1 hm with rfl | hm
   ·exact .inl (List.mem_append.2 (.inr (List.mem_singleton.2 rfl)))
   ·rcases J.d m hm with h | h | h
    ·exact .inl (List.mem_append.2 (.inl h))
    ·exact .inr (.inl h)
    ·exact .inr (.inr fun k hk=>(hset _).2 (.inr (h k hk)))
theorem PJ.fold {i:Nat} (hB:uj sp st.length st.length B) (hi:i<st.length):∀(bk:List Int) (out:List Bool) (opn:List Int),out[i]?=some true→PJ p l e st sp B (some i) out opn→(∀k∈bk,k∈bN B i) →
  PJ p l e st sp B (some i) (bk.foldl pshF (out,opn)).1 (bk.foldl pshF (out,opn)).2∧(∀j:Nat,out[j]?=some true→(bk.foldl pshF (out,opn)).1[j]?=some true)∧∀k∈bk,(bk.foldl pshF (out,opn)).1[k.toNat]?=some true
 | [],out,opn,_,J,_=>⟨J,fun _ h=>h,fun k hk=>by cases hk⟩
 | k::bk,out,opn,hio,J,hk=>by
  obtain⟨h1,h2,h3⟩:=J.psh hB hi hio (hk k (by simp))
  obtain⟨h4,h5,h6⟩:=PJ.fold hB hi bk (pshF (out,opn) k).1 (pshF (out,opn) k).2 (h2 i hio) h1 fun k' hk'=>hk k' (by simp[hk'])
  refine⟨h4,fun j hj=>h5 j (h2 j hj),fun k' hk'=>?_⟩
  rcases List.mem_cons.1 hk' with rfl | hk'
  ·exact h5 _ h3
  ·exact h6 k' hk'
theorem BM {out:List Bool} {opn:List Int}:∀(bk:List Int),(∀k∈bk,k.toNat<out.length)→(bk.foldl pshF (out,opn)).2.length+cntF (bk.foldl pshF (out,opn)).1=opn.length+cntF out:=by
 intro bk
 induction bk generalizing out opn with
 | nil=>intro _; rfl
 | cons k bk ih =>
  intro hk
  obtain⟨c,hc⟩:∃c,out[k.toNat]?=some c:=⟨_,List.getElem?_eq_getElem (hk k (by simp))⟩
  rw[List.foldl_cons]
  cases c with
  | true=>rw[Aa hc]; exact ih fun k' hk'=>hk k' (by simp[hk'])
  | false =>
   rw[Ab hc,ih fun k' hk'=>by rw[List.length_set]; exact hk k' (by simp[hk'])]
   have:=mv hc
   rw[List.length_append,List.length_singleton]; omega
theorem qp (hB:uj sp st.length st.length B):∀(n:Nat) (out:List Bool) (opn:List Int),opn.length+cntF out<n→PJ p l e st sp B none out opn→PJ p l e st sp B none (popG B n out opn) []
 | 0,_,_,h,_=>by omega
 | n+1,out,opn,h,J=>by
  unfold popG
  cases hgl:opn.getLast? with
  | none =>
   have:opn=[]:=List.getLast?_eq_none_iff.1 hgl
   subst this
   exact J
  | some i =>
   simp only
   have hne:opn≠[]:=fun e=>by rw[e]at hgl; cases hgl
   have him:i∈opn:=List.mem_of_getLast? hgl
   obtain⟨hi0,hio⟩:=J.a i him
   have hil:i.toNat<st.length:=by have:=(List.getElem?_eq_some_iff.1 hio).1; rwa [J.ol]at this
   have hdl:∀k∈opn,k=i∨k∈opn.dropLast:=fun k hk=>by
    have hx:opn.dropLast++[i]=opn:=by
     have h1:=List.dropLast_concat_getLast hne
     rw[List.getLast?_eq_some_getLast hne]at hgl
     rw[Option.some.inj hgl]at h1
     exact h1
    rw[←hx]at hk
    rcases List.mem_append.1 hk with hk | hk
    ·exact .inr hk
    ·exact .inl (List.mem_singleton.1 hk)
   have J1:PJ p l e st sp B (some i.toNat) out opn.dropLast:=⟨J.ol,fun k hk=>J.a k (List.dropLast_subset _ hk),J.b,J.c,fun j hj=>by
    rcases J.d j hj with h | h | h
    ·rcases hdl _ h with h | h
     ·exact .inr (.inl (by rw[←h]; rw[Int.toNat_natCast]))
     ·exact .inl h
    ·cases h
    ·exact .inr (.inr h)⟩
   have hbe:(B[i.toNat]?).getD []=bN B i.toNat:=rfl
   rw[hbe]
   obtain⟨J2,hmono,hall⟩:=PJ.fold hB hil (bN B i.toNat) out opn.dropLast hio J1 fun _ h=>h
   have hc:=BM (out:=out) (opn:=opn.dropLast) (bN B i.toNat) fun k hk=>by
    obtain⟨j,rfl,hj,_⟩:=(hB.2 i.toNat k hil).1 hk
    rw[J.ol,Int.toNat_natCast]; exact hj
   have hlen:0<opn.length:=List.length_pos_iff.2 hne
   rw[List.length_dropLast]at hc
   refine qp hB n _ _ (by omega) ⟨J2.ol,J2.a,J2.b,J2.c,fun j hj=>?_⟩
   rcases J2.d j hj with h | h | h
   ·exact .inl h
   ·simp only[Option.some.injEq]at h
    subst h
    exact .inr (.inr hall)
   ·exact .inr (.inr h)
theorem tx (hsp:SpOk st sp) (i:Nat) (hi:i<st.length):(dV p l e st sp)[i]?=some true↔endB p l e (stN st i)=true∨∃y∈spN sp i,(dV p l e st sp)[y.to.toNat]?=some true:=by
 have g:=tC (p:=p) (l:=l) (e:=e) hsp st.length (Nat.le_refl _)
 have hcnt:(gdA p l e st sp st.length).opn.length+cntF (gdA p l e st sp st.length).out<st.length+1:=by
  have:∀m,m≤st.length→(gdA p l e st sp m).opn.length+cntF (gdA p l e st sp m).out≤st.length∧∀j,m≤j→j<st.length→(gdA p l e st sp m).out[j]?=some false:=by
   intro m
   induction m with
   | zero=>intro _; exact⟨by simp only[gdA,gd0,List.length_nil,tP]; omega,fun j _ hj=>by simp only[gdA,gd0]; rw[List.getElem?_replicate,if_pos hj]⟩
   | succ m ih =>
    intro hm
    obtain⟨h1,h2⟩:=ih (by omega)
    unfold gdA gd1
    split
    ·have h3:=mv (h2 m (Nat.le_refl _) (by omega))
     refine⟨by simp only[List.length_append,List.length_singleton]; omega,fun j hj hjl=>?_⟩
     simp only
     rw[List.getElem?_set_ne (by omega)]
     exact h2 j (by omega) hjl
    ·exact⟨h1,fun j hj hjl=>h2 j (by omega) hjl⟩
  have:=(this st.length (Nat.le_refl _)).1
  omega
 have J0:PJ p l e st sp (gdA p l e st sp st.length).B none (gdA p l e st sp st.length).out (gdA p l e st sp st.length).opn:=by
  refine⟨g.ol,fun k hk=>?_,fun k hk=>?_,fun k hk he=>(g.o k hk).2 ⟨hk,he⟩,fun j hj=>?_⟩
  ·obtain⟨j,rfl,hj,he⟩:=(g.q k).1 hk
   exact⟨by omega,by rw[Int.toNat_natCast]; exact (g.o j hj).2 ⟨hj,he⟩⟩
  ·have hk2:k<st.length:=by have:=(List.getElem?_eq_some_iff.1 hk).1; rwa [g.ol]at this
   exact .inl ((g.o k hk2).1 hk).2
  ·have hk2:j<st.length:=by have:=(List.getElem?_eq_some_iff.1 hj).1; rwa [g.ol]at this
   exact .inl ((g.q _).2 ⟨j,rfl,hk2,((g.o j hk2).1 hj).2⟩)
 have J:=qp g.b _ _ _ hcnt J0
 have hG:popG (gdA p l e st sp st.length).B (st.length+1) (gdA p l e st sp st.length).out (gdA p l e st sp st.length).opn=dV p l e st sp:=rfl
 rw[hG]at J
 constructor
 ·exact J.b i
 ·rintro (h | ⟨y,hy,h⟩)
  ·exact J.c i hi h
  ·rcases J.d _ h with h2 | h2 | h2
   ·cases h2
   ·cases h2
   ·have hyl:y.to.toNat<st.length:=by have:=(List.getElem?_eq_some_iff.1 h).1; rwa [J.ol]at this
    have:=h2 (i:Int) ((g.b.2 _ _ hyl).2 ⟨i,rfl,hi,y,hy,rfl⟩)
    rwa [Int.toNat_natCast]at this
end
theorem SInv.leastOk {l:List HOp} {b:Int} {p:Prep} {e:Nat} {ks:List Int} {kv:List (List UInt8)} {q:QS} {sp:List (List aF)} (F:gJ l b e p ks kv) (I:SInv p e q.2.length q sp) (he:0<e) (hb:e+l.length≤1000000):wY p l e q.2 sp (muS p e q.2):=by
 refine⟨fun i hi=>?_,fun i ys hys y hy=>I.dn i ys hys y hy,?_⟩
 ·have hil:i<q.2.length:=by have:=(List.getElem?_eq_some_iff.1 hi).1; rwa [pp]at this
  rcases (tx I.spOk i hil).1 hi with h | ⟨y,hy,h⟩
  ·left
   obtain⟨n,rfl⟩:∃n,e=n+1:=⟨e-1,by omega⟩
   unfold endB at h
   simp only[Bool.and_eq_true]at h
   rw[mn,if_pos h.1]
   exact h.2
  ·right
   cases hf:(spN sp (i:Int)).find? (gX (dV p l e q.2 sp)) with
   | some z=>exact⟨z,rfl⟩
   | none =>
    have:=List.find?_eq_none.1 hf y hy
    exact absurd (by unfold gX; rw[h]; rfl) this
 ·rw[mu0 F I he]
  have:=oz l b e
  omega
end Go.Proofs.Ytmdgmolbamlicaa
namespace Go.Eng
open Go.RowKit
theorem FnIs.wide {P:Program} {f:FuncId} {avs:List AV} {h0 rows:List (Nat×Row)} {res:AV} {W:Nat} (hW:8≤W) (h:FnIs P f avs h0 res rows):kg W P f avs h0 res rows:=by
 refine⟨h.1,fun C σ w vs h1 h2 h3 h4 h5 h6=>(h.2 C σ w vs h1 h2 h3 h4 h5 h6).mono ?_⟩
 rintro e w' ⟨v,σ',he,hst⟩
 have:=hst.grow (G':=fun r=>r<64+W) (fun r hr=>by omega)
 exact⟨v,σ',he, { this with }⟩
end Go.Eng
