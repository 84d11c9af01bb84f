/- Texts of the proof: V15, V16, V17, Eng100, Eng101, Eng125, V18, VB, V21, V22, Eng126, Eng128, V23, Eng91, V19, V24, Eng127, V20, V25, V26, V27, V28. -/
import Derived.Test.YtmapiehigkfddaaDoorG03
import Derived.Test.YtmapiehigkfddaaDoorG02
import Derived.RangeFuncNested
import Derived.RangeFuncBound
import Derived.RangeFuncCalls
import Derived.RangeFuncLeaves
import Derived.Shelf.Abstract
import Derived.Shelf.RegionOpen
import Derived.WalkKit
import Derived.OwnWalkIn
import Derived.TacticsInMore
import Derived.LoopNIn
import Derived.LoopIn

set_option linter.unusedVariables false
set_option linter.unusedSimpArgs false
set_option linter.unusedSectionVars false
set_option maxRecDepth 10000

namespace Go.Proofs.YtmapiehigkfddaaDoor
open Go.Eng Go.Plain
set_option maxHeartbeats 32000000
set_option maxRecDepth 20000
attribute [local irreducible] WC RegS RegD SeqQ BlkQ ScoQ RegK CutK Sat SatN FnIs LoopQ ab OpIs
abbrev b5 (s:List UInt8):Row :=.box 96 (.d (.cons (encV 16 s) .nil))
section
variable {env : Env} {h : Upds} {n r i : Nat} {x y : Operand}
theorem qH {l:List UInt8} {z:UInt8} (hx:ae env x=some (.ptr r [.fld 0 0,.idx i 1])) (hr:aK h r=some (b5 l)) (hz:l[i]?=some z):ab Tryd.prog (.load 5 x) env h n (some (.int .u8 z.toNat)) []:=
 bC aa hx hr ⟨_,⟨rfl,_,bA hz,rfl⟩,rfl⟩ rfl
theorem fj {l:List UInt8} {z b:UInt8} (hx:ae env x=some (.ptr r [.fld 0 0,.idx i 1])) (hy:ae env y=some (.int .u8 b.toNat)) (hr:aK h r=some (b5 l)) (hz:l[i]?=some z):ab Tryd.prog (.store 5 x y) env h n none [(r,some (b5 (l.set i b)))]:=by
 rw[show b5 (l.set i b)=.box 96 (.d (.cons (.vec 16 1 aF ((byI l).set i b.toNat)) .nil)) by rw[gH]]
 exact aQ aa hx hy hr ⟨_,⟨_,⟨_,⟨rfl,_,_,bA hz,⟨rfl,rfl,rfl⟩,rfl⟩,rfl⟩,rfl⟩,rfl⟩ rfl
theorem m8 {N i:Nat} {t:TypeId} {l:List UInt8} {z:UInt8} (ht:aI tab t=some (.array N 5)) (hx:ae env x=some (.d (encV N l))) (hi:ae env y=some (.int .i64 i)) (hlt:i<N) (hz:l[i]?=some z):ab Tryd.prog (.index t x y) env h n (some (.int .u8 z.toNat)) []:=
 fP (z:=aF z.toNat) aa ht rfl hx hi rfl (by omega) (by omega) (by rw[Int.toNat_natCast]; exact⟨rfl,_,bA hz,rfl⟩) rfl
end
attribute [local irreducible] byI upO xorB sub8 rotS mixS
theorem mz (s k:List UInt8) (hs:s.length=16) (hk:k.length=16):FnIs Tryd.prog 33 [.ptr 0 [],.d (encV 16 k)] [(0,b5 s)] (.tup .anil) [(0,b5 (xorB s k))]:=by
 have hl:=gK (a:=s) (b:=k) (by omega)
 refine aw aa Tryd.func33 rfl rfl rfl ?_;refine sR<|rN<|nR ?_;refine rC<|zP ?_
 refine wc_inv (fun i:Nat=>⟨[(5,.int .i64 i),(3,.ptr 65 []),(0,.ptr 0 [])],[(0,some (b5 (upO (xorB s k) s i))),(65,some (.box 37 (.d (encV 16 k))))],72,Tryd.f33.ntmps,64⟩) (fun i=>i≤16) (fun i=>16-i) 0 [(65,some 64)] (Nat.zero_le _)
  (lg zj ⟨⟨rfl,rfl,_,rfl,aL.of_eq (by rw[iQ]; rfl)⟩,zR,trivial⟩) ?_
 intro i hi
 refine bk ?_
 by_cases hlt:i<16
 ·have d1:decide ((i:Int)<16)=true:=dT (by omega)
  obtain⟨a,ha⟩:∃a,s[i]?=some a:=⟨_,List.getElem?_eq_getElem (by omega)⟩
  obtain⟨b,hb⟩:∃b,k[i]?=some b:=⟨_,List.getElem?_eq_getElem (by omega)⟩
  have hs':(upO (xorB s k) s i)[((i:Int)).toNat]?=some a:=by rw[Int.toNat_natCast]; exact eA ha hl
  have hk':k[((i:Int)).toNat]?=some b:=by rw[Int.toNat_natCast]; exact hb
  have hst:=ez (oa ha hb) hl
  obtain⟨z,hxo⟩:∃z,a ^^^ b=z:=⟨_,rfl⟩
  rw[hxo]at hst
  refine sR<|rC<|nQ ?_;refine wT<|zQ<|zS ?_;refine zD<|nS ?_;refine aR (by kernel_rfl) ?_;refine dC [0] [] ?_;refine dC [4] [] ?_;refine dC [8] [] ?_;refine dC [10] [] ?_;refine dQ [11,9] [] (aE aa (fun K hk=>⟨by omega,by omega,hk⟩)) ?_;refine dQ [12] [0] (qH rfl rfl hs') ?_;refine dC [4] [] ?_;refine dQ [3,14] [] (aE aa (fun K hk=>⟨by omega,by omega,hk⟩)) ?_;refine dQ [15] [65] (fa rfl rfl hk') ?_;refine dQ [13,16] [] (ce rfl rfl hxo) ?_;refine dC [8] [] ?_;refine dC [18] [] ?_;refine dQ [19,9] [] (aE aa (fun K hk=>⟨by omega,by omega,hk⟩)) ?_;refine bG [20,17] [0] (fj rfl rfl rfl hs') ?_;refine aM (by kernel_rfl)<|zC<|ao ?_;refine rQ iD ?_;refine rC<|aA ?_
  exact aT (i+1) [(65,some _)] (show i+1≤16 by omega) (by show 16-(i+1)<16-i; omega) (lg zj ⟨⟨rfl,rfl,_,rfl,aL.of_eq (by rw[Int.toNat_natCast,hst]; rfl)⟩,zR,trivial⟩)
 ·have d1:decide ((i:Int)<16)=false:=dF (by omega)
  have he:i=16:=by omega
  subst he
  rw[eB (by omega) hs]
  refine sR<|rC<|nQ ?_;refine wG<|bS<|da<|cw<|dD ?_
  exact⟨trivial,[],lg zV ⟨zR,trivial⟩⟩
theorem qU (s:List UInt8) (hs:s.length=16):FnIs Tryd.prog 34 [.ptr 0 [],.fn (.func 14) .anil .anil] [(0,b5 s)] (.tup .anil) [(0,b5 (s.map sub8))]:=by
 have hl:(s.map sub8).length=s.length:=by simp
 have hg:∀ {i:Nat} {a:UInt8},s[i]?=some a→(s.map sub8)[i]?=some (sub8 a):=fun h=>by rw[List.getElem?_map,h]; rfl
 generalize s.map sub8=m at *
 refine aw aa Tryd.func34 rfl rfl rfl ?_;refine sR<|zU ?_;refine rQ iB ?_;refine rC<|zP ?_
 refine wc_inv (fun i:Nat=>⟨[(10,.int .i64 i),(9,.d (encV 16 s)),(1,.fn (.func 14) .anil .anil),(0,.ptr 0 [])],[(0,some (b5 (upO m s i)))],72,Tryd.f34.ntmps,64⟩) (fun i=>i≤16) (fun i=>16-i) 0 [] (Nat.zero_le _)
  (lg zi ⟨⟨rfl,rfl,_,rfl,aL.of_eq (by rw[iQ]; rfl)⟩,trivial⟩) ?_
 intro i hi
 refine bk ?_
 by_cases hlt:i<16
 ·have d1:decide ((i:Int)<16)=true:=dT (by omega)
  obtain⟨a,ha⟩:∃a,s[i]?=some a:=⟨_,List.getElem?_eq_getElem (by omega)⟩
  have hs':(upO m s i)[((i:Int)).toNat]?=some a:=by rw[Int.toNat_natCast]; exact eA ha hl
  have hst:=ez (hg ha) hl
  refine sR<|rC<|nQ ?_;refine wT<|zQ<|zS ?_;refine rC ?_;refine rQ (m8 (i:=i) rfl rfl rfl hlt ha) ?_;refine zD<|nS ?_;refine aR (by kernel_rfl) ?_;refine dC [0] [] ?_;refine dC [4] [] ?_;refine dC [1] [] ?_;refine dC [5] [] ?_;refine dQ [16,17] [] (aq (fI a) rfl rfl (am aj) (.inl rfl) (fun _=>rfl)) ?_;refine dC [14] [] ?_;refine dC [19] [] ?_;refine dQ [20,15] [] (aE aa (fun K hk=>⟨by omega,by omega,hk⟩)) ?_;refine bG [21,18] [0] (fj rfl rfl rfl hs') ?_;refine aM (by kernel_rfl)<|zC<|ao ?_;refine rQ iD ?_;refine rC<|aA ?_
  exact aT (i+1) [] (show i+1≤16 by omega) (by show 16-(i+1)<16-i; omega) (lg zi ⟨⟨rfl,rfl,_,rfl,aL.of_eq (by rw[Int.toNat_natCast,hst]; rfl)⟩,trivial⟩)
 ·have d1:decide ((i:Int)<16)=false:=dF (by omega)
  have he:i=16:=by omega
  subst he
  rw[eB (by omega) hs]
  refine sR<|rC<|nQ ?_;refine wG<|bS<|da<|cw<|dD ?_
  exact⟨trivial,[],lg zV ⟨zR,trivial⟩⟩
theorem kC {env:Env} {h:Upds} {n:Nat} {x y:Operand} {t t':TypeId} {k:IntKind} {a b m:Nat} (hx:ae env x=some (.int k a)) (hy:ae env y=some (.int k b)) (hb:b≠0) (hm:a % b=m):ab Tryd.prog (.binOp .rem t x y t') env h n (some (.int k m)) []:=by
 subst hm; exact eD aa hx hy rfl hb
theorem nz (p:Nat) (hp:p≤3) (s:List UInt8) (hs:s.length=16):FnIs Tryd.prog 35 [.ptr 0 [],.int .i64 p] [(0,b5 s)] (.tup .anil) [(0,b5 (rotS p s))]:=by
 have hl:(rotS p s).length=s.length:=by rw[fo,hs]
 have hg:∀ {j:Nat},j<16→(rotS p s)[j]?=some (rotB p s j):=oG
 have hB:∀j,rotB p s j=s[4*((j/4+p*(j % 4)) % 4)+j % 4]?.getD 0:=fun _=>rfl
 generalize rotS p s=m at *
 refine aw aa Tryd.func35 rfl rfl rfl ?_;refine sR<|zU ?_;refine rQ iB ?_;refine rN ?_;refine rW<|nR ?_;refine rC<|zP ?_
 refine wc_inv (fun c:Nat=>⟨[(11,.int .i64 c),(4,.ptr 65 []),(1,.int .i64 p),(0,.ptr 0 [])],[(0,some (b5 (upO m s (4*c)))),(65,some (.box 37 (.d (encV 16 s))))],72,Tryd.f35.ntmps,64⟩) (fun c=>c≤4) (fun c=>4-c) 0 [(65,some _)] (Nat.zero_le _)
  (lg zi ⟨⟨rfl,rfl,_,rfl,aL.of_eq (by rw[Nat.mul_zero,iQ]; rfl)⟩,zR,trivial⟩) ?_
 intro c hc
 refine bk ?_
 by_cases hlt:c<4
 ·have d1:decide ((c:Int)<4)=true:=dT (by omega)
  refine sR<|rC<|nQ ?_;refine wT<|zQ<|zS ?_;refine zD<|nR ?_;refine rC<|zP ?_
  refine wc_inv (fun r:Nat=>⟨[(14,.int .i64 r),(11,.int .i64 c),(5,.int .i64 c),(4,.ptr 65 []),(1,.int .i64 p),(0,.ptr 0 [])],[(0,some (b5 (upO m s (4*c+r)))),(65,some (.box 37 (.d (encV 16 s))))],72,Tryd.f35.ntmps,64⟩) (fun r=>r≤4) (fun r=>4-r) 0 [(65,some _)] (Nat.zero_le _)
   (lg zg ⟨zR,zR,trivial⟩) ?_
  intro r hr
  refine bk ?_
  by_cases hrl:r<4
  ·have d2:decide ((r:Int)<4)=true:=dT (by omega)
   obtain⟨q,hq⟩:∃q,(c+p*r) % 4=q:=⟨_,rfl⟩
   have hq4:q<4:=by rw[←hq]; exact Nat.mod_lt _ (by decide)
   have hpr:p*r≤12:=Nat.mul_le_mul hp (by omega:r≤4)
   obtain⟨a,ha⟩:∃a,s[4*c+r]?=some a:=⟨_,List.getElem?_eq_getElem (by omega)⟩
   obtain⟨b,hb⟩:∃b,s[4*q+r]?=some b:=⟨_,List.getElem?_eq_getElem (by omega)⟩
   have hbj:rotB p s (4*c+r)=b:=by
    rw[hB,show (4*c+r)/4=c by omega,show (4*c+r) % 4=r by omega,hq,hb]; rfl
   have hs':(upO m s (4*c+r))[(((4*c+r:Nat):Int)).toNat]?=some a:=by rw[Int.toNat_natCast]; exact eA ha hl
   have ho':s[(((4*q+r:Nat):Int)).toNat]?=some b:=by rw[Int.toNat_natCast]; exact hb
   have hst:=ez (hg (show 4*c+r<16 by omega)) hl
   rw[hbj]at hst
   have w19:IntKind.i64.wrap (4*(c:Int))=((4*c:Nat):Int):=by rw[aJ (by omega) (by omega)]; push_cast; rfl
   have w21:IntKind.i64.wrap (((4*c:Nat):Int)+(r:Int))=((4*c+r:Nat):Int):=by rw[aJ (by omega) (by omega)]; push_cast; rfl
   have w25:IntKind.i64.wrap ((p:Int)*(r:Int))=((p*r:Nat):Int):=by rw[←Int.natCast_mul,aJ (by omega) (by omega)]
   have w26:IntKind.i64.wrap ((c:Int)+((p*r:Nat):Int))=((c+p*r:Nat):Int):=by rw[aJ (by omega) (by omega)]; push_cast; rfl
   have w28:IntKind.i64.wrap (4*(q:Int))=((4*q:Nat):Int):=by rw[aJ (by omega) (by omega)]; push_cast; rfl
   have w30:IntKind.i64.wrap (((4*q:Nat):Int)+(r:Int))=((4*q+r:Nat):Int):=by rw[aJ (by omega) (by omega)]; push_cast; rfl
   refine sR<|rC<|nQ ?_;refine wT<|zQ<|zS ?_;refine zD<|nS ?_;refine aR (by kernel_rfl) ?_;refine dC [0] [] ?_;refine dC [5] [] ?_;refine dQ [18] [] (bW (m:=((4*c:Nat):Int)) aa rfl rfl w19) ?_;refine dC [6] [] ?_;refine dQ [19,20] [] (aY (m:=((4*c+r:Nat):Int)) aa rfl rfl w21) ?_;refine dC [5] [] ?_;refine dC [1] [] ?_;refine dC [6] [] ?_;refine dQ [23,24] [] (bW (m:=((p*r:Nat):Int)) aa rfl rfl w25) ?_;refine dQ [22,25] [] (aY (m:=((c+p*r:Nat):Int)) aa rfl rfl w26) ?_;refine dQ [26] [] (kC (a:=c+p*r) (b:=4) rfl rfl (by decide) hq) ?_;refine dQ [27] [] (bW (m:=((4*q:Nat):Int)) aa rfl rfl w28) ?_;refine dC [6] [] ?_;refine dQ [28,29] [] (aY (m:=((4*q+r:Nat):Int)) aa rfl rfl w30) ?_;refine dQ [4,30] [] (aE aa (fun K hk=>⟨by omega,by omega,hk⟩)) ?_;refine dQ [31] [65] (fa rfl rfl ho') ?_;refine dC [17] [] ?_;refine dC [33] [] ?_;refine dQ [34,21] [] (aE aa (fun K hk=>⟨by omega,by omega,hk⟩)) ?_;refine bG [35,32] [0] (fj rfl rfl rfl hs') ?_;refine aM (by kernel_rfl)<|zC<|ao ?_;refine rQ iD ?_;refine rC<|aA ?_
   exact aT (r+1) [(65,some _)] (show r+1≤4 by omega) (by show 4-(r+1)<4-r; omega) (lg zg ⟨⟨rfl,rfl,_,rfl,aL.of_eq (by rw[Int.toNat_natCast,hst]; rfl)⟩,zR,trivial⟩)
  ·have d2:decide ((r:Int)<4)=false:=dF (by omega)
   have he:r=4:=by omega
   subst he
   refine sR<|rC<|nQ ?_;refine wG<|bS<|da<|cw<|dD<|zC<|ao ?_;refine rQ iD ?_;refine rC<|aA ?_
   exact aT (c+1) [(65,some _)] (show c+1≤4 by omega) (by show 4-(c+1)<4-c; omega) (lg zi ⟨⟨rfl,rfl,_,rfl,aL.of_eq (by rw[show 4*(c+1)=4*c+4 by omega]; rfl)⟩,zR,trivial⟩)
 ·have d1:decide ((c:Int)<4)=false:=dF (by omega)
  have he:c=4:=by omega
  subst he
  rw[show 4*4=16 from rfl,eB (by omega) hs]
  refine sR<|rC<|nQ ?_;refine wG<|bS<|da<|cw<|dD ?_
  exact⟨trivial,[],lg zV ⟨zR,trivial⟩⟩
end Go.Proofs.YtmapiehigkfddaaDoor
namespace Go.Proofs.YtmapiehigkfddaaDoor
open Go.Eng Go.Plain
set_option maxHeartbeats 32000000
set_option maxRecDepth 20000
attribute [local irreducible] WC RegS RegD SeqQ BlkQ ScoQ RegK CutK Sat SatN FnIs LoopQ ab OpIs
theorem qB (f s:List UInt8) (j i:Nat):mixA f s j (i+1)=mixA f s j i ^^^ mul8 (f[i]?.getD 0) (s[4*(j/4)+(j % 4+i) % 4]?.getD 0):=rfl
attribute [local irreducible] byI upO mixS mixA mul8
theorem r7 (f s:List UInt8) (hf4:f.length=4) (hs:s.length=16):FnIs Tryd.prog 36 [.ptr 0 [],.d (encV 4 f)] [(0,b5 s)] (.tup .anil) [(0,b5 (mixS f s))]:=by
 have hl:(mixS f s).length=s.length:=by rw[fq,hs]
 have hg:∀ {j:Nat},j<16→(mixS f s)[j]?=some (mixA f s j 4):=o7
 generalize mixS f s=m at *
 refine aw aa Tryd.func36 rfl rfl rfl ?_;refine sR<|rN<|nR ?_;refine zU ?_;refine rQ iB ?_;refine rN ?_;refine rW<|nR ?_;refine rC<|zP ?_
 refine wc_inv (fun c:Nat=>⟨[(14,.int .i64 c),(4,.ptr 65 []),(3,.ptr 66 []),(0,.ptr 0 [])],[(0,some (b5 (upO m s (4*c)))),(65,some (.box 37 (.d (encV 16 s)))),(66,some (.box 101 (.d (encV 4 f))))],72,Tryd.f36.ntmps,64⟩) (fun c=>c≤4) (fun c=>4-c) 0 [(65,some _),(66,some 64)] (Nat.zero_le _)
  (lg zi ⟨⟨rfl,rfl,_,rfl,aL.of_eq (by rw[Nat.mul_zero,iQ]; rfl)⟩,zR,zR,trivial⟩) ?_
 intro c hc
 refine bk ?_
 by_cases hlt:c<4
 ·have d1:decide ((c:Int)<4)=true:=dT (by omega)
  refine sR<|rC<|nQ ?_;refine wT<|zQ<|zS ?_;refine zD<|nR ?_;refine rC<|zP ?_
  refine wc_inv (fun r:Nat=>⟨[(17,.int .i64 r),(14,.int .i64 c),(5,.int .i64 c),(4,.ptr 65 []),(3,.ptr 66 []),(0,.ptr 0 [])],[(0,some (b5 (upO m s (4*c+r)))),(65,some (.box 37 (.d (encV 16 s)))),(66,some (.box 101 (.d (encV 4 f))))],72,Tryd.f36.ntmps,64⟩) (fun r=>r≤4) (fun r=>4-r) 0 [(65,some _),(66,some _)] (Nat.zero_le _)
   (lg zg ⟨zR,zR,zR,trivial⟩) ?_
  intro r hr
  refine bk ?_
  by_cases hrl:r<4
  ·have d2:decide ((r:Int)<4)=true:=dT (by omega)
   have w19:IntKind.i64.wrap (4*(c:Int))=((4*c:Nat):Int):=by rw[aJ (by omega) (by omega)]; push_cast; rfl
   have w21:IntKind.i64.wrap (((4*c:Nat):Int)+(r:Int))=((4*c+r:Nat):Int):=by rw[aJ (by omega) (by omega)]; push_cast; rfl
   refine sR<|rC<|nQ ?_;refine wT<|zQ<|zS ?_;refine zD<|nR ?_;refine rC<|zW ?_;refine rQ iM ?_;refine rC<|zP ?_
   refine wc_inv (fun i:Nat=>⟨[(21,.int .i64 i),(20,.d (encV 4 f)),(17,.int .i64 r),(14,.int .i64 c),(7,.int .u8 (mixA f s (4*c+r) i).toNat),(6,.int .i64 r),(5,.int .i64 c),(4,.ptr 65 []),(3,.ptr 66 []),(0,.ptr 0 [])],[(0,some (b5 (upO m s (4*c+r)))),(65,some (.box 37 (.d (encV 16 s)))),(66,some (.box 101 (.d (encV 4 f))))],72,Tryd.f36.ntmps,64⟩) (fun i=>i≤4) (fun i=>4-i) 0 [(65,some _),(66,some _)] (Nat.zero_le _)
    (lg ⟨zE,rfl,zE,rfl,zE,rfl,zE,rfl,⟨_,rfl,AVLe.of_eq (by rw[show mixA f s (4*c+r) 0=0 by unfold mixA; rfl]; rfl)⟩,rfl,zE,rfl,zE,rfl,zE,rfl,zE,rfl,zE,rfl,trivial⟩ ⟨zR,zR,zR,trivial⟩) ?_
   intro i hi
   refine bk ?_
   by_cases hil:i<4
   ·have d3:decide ((i:Int)<4)=true:=dT (by omega)
    obtain⟨q,hq⟩:∃q,(r+i) % 4=q:=⟨_,rfl⟩
    have hq4:q<4:=by omega
    obtain⟨g,hf⟩:∃g,f[i]?=some g:=⟨_,List.getElem?_eq_getElem (by omega)⟩
    obtain⟨b,hb⟩:∃b,s[4*c+q]?=some b:=⟨_,List.getElem?_eq_getElem (by omega)⟩
    have hgo:=qB f s (4*c+r) i
    rw[show (4*c+r)/4=c by omega,show (4*c+r) % 4=r by omega,hq,hf,hb]at hgo
    simp only[Option.getD_some]at hgo
    have hxo:=hgo.symm
    have ho':s[(((4*c+q:Nat):Int)).toNat]?=some b:=by rw[Int.toNat_natCast]; exact hb
    have w31:IntKind.i64.wrap ((r:Int)+(i:Int))=((r+i:Nat):Int):=by rw[aJ (by omega) (by omega)]; push_cast; rfl
    have w33:IntKind.i64.wrap (((4*c:Nat):Int)+(q:Int))=((4*c+q:Nat):Int):=by rw[aJ (by omega) (by omega)]; push_cast; rfl
    refine sR<|rC<|nQ ?_;refine wT<|zQ<|zS ?_;refine rC ?_;refine rQ (m8 (i:=i) rfl rfl rfl hil hf) ?_;refine zD<|nS<|ao ?_;refine zU ?_;refine rQ (bW (m:=((4*c:Nat):Int)) aa rfl rfl w19) ?_;refine zD ?_;refine rQ (aY (m:=((r+i:Nat):Int)) aa rfl rfl w31) ?_;refine rQ (kC (a:=r+i) (b:=4) rfl rfl (by decide) hq) ?_;refine rQ (aY (m:=((4*c+q:Nat):Int)) aa rfl rfl w33) ?_;refine rQ (aE aa (fun K hk=>⟨by omega,by omega,hk⟩)) ?_;refine rQ (fa rfl rfl ho') ?_;refine rQ (aq (jQ g b) rfl rfl (am (am aj)) (.inl rfl) (fun _=>rfl)) ?_;refine rQ (ce rfl rfl hxo) ?_;refine rC<|aA<|zC<|ao ?_;refine rQ iD ?_;refine rC<|aA ?_
    exact aT (i+1) [(65,some _),(66,some _)] (show i+1≤4 by omega) (by show 4-(i+1)<4-i; omega) (lg zc ⟨zR,zR,zR,trivial⟩)
   ·have d3:decide ((i:Int)<4)=false:=dF (by omega)
    have he:i=4:=by omega
    subst he
    obtain⟨a,ha⟩:∃a,s[4*c+r]?=some a:=⟨_,List.getElem?_eq_getElem (by omega)⟩
    have hs':(upO m s (4*c+r))[(((4*c+r:Nat):Int)).toNat]?=some a:=by rw[Int.toNat_natCast]; exact eA ha hl
    have hst:=ez (hg (show 4*c+r<16 by omega)) hl
    refine sR<|rC<|nQ ?_;refine wG<|zX<|ao ?_;refine zD ?_;refine rQ (bW (m:=((4*c:Nat):Int)) aa rfl rfl w19) ?_;refine rC ?_;refine rQ (aY (m:=((4*c+r:Nat):Int)) aa rfl rfl w21) ?_;refine zU ?_;refine rQ (aE aa (fun K hk=>⟨by omega,by omega,hk⟩)) ?_;refine bB (fj rfl rfl rfl hs')<|aA<|zC<|ao ?_;refine rQ iD ?_;refine rC<|aA ?_
    exact aT (r+1) [(65,some _),(66,some _)] (show r+1≤4 by omega) (by show 4-(r+1)<4-r; omega) (lg zg ⟨⟨rfl,rfl,_,rfl,aL.of_eq (by rw[Int.toNat_natCast,hst]; rfl)⟩,zR,zR,trivial⟩)
  ·have d2:decide ((r:Int)<4)=false:=dF (by omega)
   have he:r=4:=by omega
   subst he
   refine sR<|rC<|nQ ?_;refine wG<|bS<|da<|cw<|dD<|zC<|ao ?_;refine rQ iD ?_;refine rC<|aA ?_
   exact aT (c+1) [(65,some _),(66,some _)] (show c+1≤4 by omega) (by show 4-(c+1)<4-c; omega) (lg zi ⟨⟨rfl,rfl,_,rfl,aL.of_eq (by rw[show 4*(c+1)=4*c+4 by omega]; rfl)⟩,zR,zR,trivial⟩)
 ·have d1:decide ((c:Int)<4)=false:=dF (by omega)
  have he:c=4:=by omega
  subst he
  rw[show 4*4=16 from rfl,eB (by omega) hs]
  refine sR<|rC<|nQ ?_;refine wG<|bS<|da<|cw<|dD ?_
  exact⟨trivial,[],lg zV ⟨zR,trivial⟩⟩
end Go.Proofs.YtmapiehigkfddaaDoor
namespace Go.Proofs.YtmapiehigkfddaaDoor
open Go.Eng Go.Plain
set_option maxHeartbeats 32000000
set_option maxRecDepth 20000
attribute [local irreducible] WC RegS RegD SeqQ BlkQ ScoQ RegK CutK Sat SatN FnIs LoopQ ab OpIs
abbrev encK (ks:List (List UInt8)):D :=.vec 11 16 (fun l:List Int=>.vec 16 1 aF l) (ks.map byI)
theorem jS {env:Env} {h:Upds} {n r i:Nat} {x:Operand} {ks:List (List UInt8)} {k:List UInt8} (hx:ae env x=some (.ptr r [.idx i 16])) (hr:aK h r=some (.box 39 (.d (encK ks)))) (hk:ks[i]?=some k):ab Tryd.prog (.load 37 x) env h n (some (.d (encV 16 k))) []:=
 bC aa hx hr ⟨_,⟨rfl,byI k,by rw[List.getElem?_map,hk]; rfl,rfl⟩,rfl⟩ rfl
theorem rA:Row.box 37 (.d r37.zero)=.box 37 (.d (encV 16 (List.replicate 16 0))):=rfl
theorem tU:DLe (.cons (u8s 2) (.cons (u8s 3) (.cons (u8s 1) (.cons (u8s 1) .nil)))) (encV 4 [2,3,1,1]):=DLe.chain_vec (enc:=aF) (fun _ _ _ _ h=>by rw[h.1]; rfl) (byI [2,3,1,1]) _ rfl
theorem pw {s k:List UInt8} (hs:s.length=16) (hk:k.length=16) (i:Nat):(encR s k i).length=16:=by
 unfold encR
 simp only
 rw[gK]
 ·split
  ·exact fq _ _
  ·exact fo _ _
 ·split
  ·rw[fq,hk]
  ·rw[fo,hk]
theorem it {ks:List (List UInt8)} {s:List UInt8} (hs:s.length=16) (hks:ks.length=11) (hk:∀k∈ks,k.length=16):∀i,i≤10→(encG ks s i).length=16
 | 0,_=>by
  rw[encG,List.getElem?_eq_getElem (by omega),Option.getD_some,gK (by rw[hs,hk _ (List.getElem_mem _)])]; exact hs
 | i+1,hi=>by
  rw[encG,List.getElem?_eq_getElem (by omega),Option.getD_some]
  exact pw (it hs hks hk i (by omega)) (hk _ (List.getElem_mem _)) _
attribute [local irreducible] byI mixS rotS xorB encG
theorem mh (ks:List (List UInt8)) (s:List UInt8) (hks:ks.length=11) (hk:∀k∈ks,k.length=16) (hs:s.length=16):FnIs Tryd.prog 13 [.d (encK ks),.d (encV 16 s)] [] (.d (encV 16 (encA ks s))) []:=by
 obtain⟨k0,hk00⟩:∃k,ks[0]?=some k:=⟨_,List.getElem?_eq_getElem (by omega)⟩
 have hk0l:=hk k0 (List.mem_of_getElem? hk00)
 have hk0:ks[((0:Int)).toNat]?=some k0:=hk00
 have hadd0:=mz s k0 hs hk0l
 have hg0:encG ks s 0=xorB s k0:=by unfold encG; rw[hk00]; rfl
 have hA:encA ks s=encG ks s 10:=rfl
 have hlen:=it (ks:=ks) (s:=s) hs hks hk
 have hst:∀i k,ks[i+1]?=some k→encG ks s (i+1)=encR (encG ks s i) k (i+1):=fun i k h=>by rw[encG,h]; rfl
 rw[hA]
 refine aw aa Tryd.func13 rfl rfl rfl ?_;refine sR ?_;iterate 3 refine rN ?_
 refine nR<|rQ iM ?_;refine rQ iS ?_;refine rN ?_;refine rW<|nR ?_;iterate 8 refine rC ?_
 refine nR<|rC ?_;refine rQ (aE aa (fun K hk=>⟨by omega,by omega,hk⟩)) ?_;refine rQ (jS rfl rfl hk0) ?_;refine bx (c6 [(0,some 104)] hadd0 rfl rfl rfl rfl (aO rfl rfl (am aj)) ⟨zH,trivial⟩ rfl rfl (.inl rfl) rfl rfl) rfl<|zW ?_;refine rC<|zP ?_
 refine wc_inv (fun i:Nat=>⟨[(10,.int .i64 ((i+1:Nat):Int)),(9,(.fn (.func 36) (.acons (.ptr 67 []) .anil) .anil)),(8,(.fn (.func 35) (.acons (.ptr 67 []) .anil) .anil)),(7,(.fn (.func 34) (.acons (.ptr 67 []) .anil) .anil)),(6,(.fn (.func 33) (.acons (.ptr 67 []) .anil) .anil)),(5,.ptr 67 []),(4,.ptr 66 []),(2,.ptr 64 [])],[(64,some (.box 39 (.d (encK ks)))),(66,some (.box 37 (.d (encV 16 (List.replicate 16 0))))),(67,some (b5 (encG ks s i)))],72,Tryd.f13.ntmps,64⟩) (fun i=>i≤10) (fun i=>10-i) 0 [(64,some _),(66,some _),(67,some _)] (Nat.zero_le _)
  (lg ze ⟨zR,⟨rfl,rfl,_,rfl,aL.of_eq rA⟩,⟨rfl,rfl,_,rfl,aL.of_eq (by rw[hg0]; rfl)⟩,trivial⟩) ?_
 intro i hi
 refine bk ?_
 have w24:IntKind.i64.wrap (((i+1:Nat):Int)+1)=((i+1+1:Nat):Int):=by rw[aJ (by omega) (by omega)]; push_cast; rfl
 by_cases hlt:i<10
 ·have d1:decide (((i+1:Nat):Int)≤10)=true:=dT (by omega)
  obtain⟨k,hkk⟩:∃k,ks[i+1]?=some k:=⟨_,List.getElem?_eq_getElem (by omega)⟩
  have hk':ks[(((i+1:Nat):Int)).toNat]?=some k:=by rw[Int.toNat_natCast]; exact hkk
  have hkl:=hk k (List.mem_of_getElem? hkk)
  have hgl:=hlen i (by omega)
  have hgn:=hst i k hkk
  generalize encG ks s i=g at hgl hgn ⊢
  have heach:=qU g hgl
  have hsl:(g.map sub8).length=16:=by rw[List.length_map]; exact hgl
  generalize hsb:g.map sub8=sb at heach hsl
  have hrot:=nz 1 (by decide) sb hsl
  have hrl:=fo 1 sb
  generalize hro:rotS 1 sb=ro at hrot hrl
  by_cases h10:i+1<10
  ·have d2:decide (((i+1:Nat):Int)<10)=true:=dT (by omega)
   have hmix:=r7 [2,3,1,1] ro rfl hrl
   have hml:=fq [2,3,1,1] ro
   have hn:xorB (mixS [2,3,1,1] ro) k=encG ks s (i+1):=by rw[hgn]; unfold encR; simp only[hsb,hro,if_pos h10]
   generalize mixS [2,3,1,1] ro=m at hmix hml hn
   have hadd:=mz m k hml hkl
   rw[hn]at hadd
   refine qR<|zD ?_;refine zI<|zQ<|zS ?_;refine rC ?_;refine bx (c6 [(0,some 67)] heach rfl rfl rfl rfl (aO rfl rfl (pN aj)) ⟨zH,trivial⟩ rfl rfl (.inl rfl) rfl rfl) rfl<|nR ?_;refine rC ?_;refine bx (c6 [(0,some 67)] hrot rfl rfl rfl rfl (aO rfl rfl (am aj)) ⟨zH,trivial⟩ rfl rfl (.inl rfl) rfl rfl) rfl<|zW ?_;refine zD ?_;refine zI<|ao ?_;refine rC ?_;refine rQ ((co aa rfl rfl rfl rfl rfl rfl rfl).val_le tU rfl) ?_;refine bx (c6 [(0,some 67)] hmix rfl rfl rfl rfl (aO rfl rfl (am aj)) ⟨zH,trivial⟩ rfl rfl (.inl rfl) rfl rfl) rfl<|nS<|ao ?_;refine zD ?_;refine rQ (aE aa (fun K hk=>⟨by omega,by omega,hk⟩)) ?_;refine rQ (jS rfl rfl hk') ?_;refine bx (c6 [(0,some 67)] hadd rfl rfl rfl rfl (aO rfl rfl (am aj)) ⟨zH,trivial⟩ rfl rfl (.inl rfl) rfl rfl) rfl<|aA<|zC<|ao ?_;refine rC ?_;refine rQ (aY (m:=((i+1+1:Nat):Int)) aa rfl rfl w24) ?_;refine rC<|aA ?_
   exact aT (i+1) [(64,some _),(66,some _),(67,some _)] (show i+1≤10 by omega) (by show 10-(i+1)<10-i; omega) (lg ze ⟨zR,zR,zR,trivial⟩)
  ·have d2:decide (((i+1:Nat):Int)<10)=false:=dF (by omega)
   have hn:xorB ro k=encG ks s (i+1):=by rw[hgn]; unfold encR; simp only[hsb,hro,if_neg h10]
   have hadd:=mz ro k hrl hkl
   rw[hn]at hadd
   refine qR<|zD ?_;refine zI<|zQ<|zS ?_;refine rC ?_;refine bx (c6 [(0,some 67)] heach rfl rfl rfl rfl (aO rfl rfl (pN aj)) ⟨zH,trivial⟩ rfl rfl (.inl rfl) rfl rfl) rfl<|nR ?_;refine rC ?_;refine bx (c6 [(0,some 67)] hrot rfl rfl rfl rfl (aO rfl rfl (am aj)) ⟨zH,trivial⟩ rfl rfl (.inl rfl) rfl rfl) rfl<|zW ?_;refine zD ?_;refine zG<|kS<|ao ?_;refine zD ?_;refine rQ (aE aa (fun K hk=>⟨by omega,by omega,hk⟩)) ?_;refine rQ (jS rfl rfl hk') ?_;refine bx (c6 [(0,some 67)] hadd rfl rfl rfl rfl (aO rfl rfl (am aj)) ⟨zH,trivial⟩ rfl rfl (.inl rfl) rfl rfl) rfl<|aA<|zC<|ao ?_;refine rC ?_;refine rQ (aY (m:=((i+1+1:Nat):Int)) aa rfl rfl w24) ?_;refine rC<|aA ?_
   exact aT (i+1) [(64,some _),(66,some _),(67,some _)] (show i+1≤10 by omega) (by show 10-(i+1)<10-i; omega) (lg ze ⟨zR,zR,zR,trivial⟩)
 ·have d1:decide (((i+1:Nat):Int)≤10)=false:=dF (by omega)
  have he:i=10:=by omega
  subst he
  have hgl:=hlen 10 (by omega)
  generalize encG ks s 10=g at hgl ⊢
  refine qR<|zD ?_;refine zJ<|zX<|sR ?_;refine rC ?_;refine rQ iB ?_;refine rW<|zT ?_
  exact⟨trivial,_,rfl,[],lf⟩
end Go.Proofs.YtmapiehigkfddaaDoor
namespace Go.Eng
open Go.RowKit
def ss (avs:List AV) (rd:List (Nat×Row)) (vs:List Value) (W:World) (K:World→Prop):Prop :=
 ∃(C:Ctx) (σ:au),C.bs=64∧C.B=W.heap.size∧C.w0=W∧C.σ0=σ∧C.ro=none∧an C (fun r=>r<64) (inSt avs rd) σ W ⟨vs.toArray,[]⟩ ∧
  ∀(W':World) (σ':au),an C (fun r=>r<72) (cj (.d (.sc (.bool true))) rd) σ' W' ⟨#[.bool true],[]⟩→K W'
def ub (P:Program) (gf:FuncId) (avs:List AV) (rd:List (Nat×Row)) (D:D) {α:Type} (enc:α→Value) (Next:List α→α→Prop) (Done:List α→Prop):Prop :=
 (∃ fn, P.funcs[gf]? = some fn ∧ (fn.name == "runtime.NumGoroutine") = false ∧ fn.body.isNone = false) ∧
 ∀(ad:Addr) (us:List Value) (u:Value) (l:Nat) (J Jx:List α→World→Prop) (w:World),w.cell? ad=some u →
  (∀pre W,J pre W→ss (avs++[.d D]) rd ((.pointer (some ad)::us)++[u]) W (J pre)) →
  (∀pre x W,J pre W→Next pre x→YieldAt Fence.wide 0 P l #[enc x] W fun e W'=>(e=.returned (.bool true)∧J (pre++[x]) W')∨(e=.returned (.bool false)∧Jx (pre++[x]) W')) →
  J [] w→Calls P gf (#[.func (.yield l) #[] #[]]++(.pointer (some ad)::us).toArray) w fun e W'=>(∃v,e=.returned v)∧((∃pre,Done pre∧J pre W')∨∃pre,Jx pre W')
def nq (D:D) (Q:Exit→St→Prop) (l:bd) (n sz:Nat) (h0:List (Nat×Row)) (env:Env) (h h':Upds) (Inv':Prop) (e:Exit) (st:St):Prop:=match e with
 | .normal=>∃rows l1 l2,Le l1 st ⟨[],aG rows,72,sz,64⟩∧Inv'∧Le l2 ⟨(sz,.d D)::env,ba l n h0 rows++h,n+8,sz+1,64⟩ ⟨(sz,.d D)::env,h',n,sz+1,64⟩
 | .exit i=>∃rows l1,Le l1 st ⟨[],aG rows,72,sz,64⟩∧Q (.exit i) ⟨env,ba l n h0 rows++h,n+8,sz,64⟩
 | .ret=>∃rows l1,Le l1 st ⟨[],aG rows,72,sz,64⟩∧Q .ret ⟨env,ba l n h0 rows++h,n+8,sz,64⟩
 | _=>False
section
variable {P : Program} {T : Tab} {sz n : Nat} {Q : Exit → St → Prop} {env : Env} {h : Upds}
end
section
variable {D : D} {Q : Exit → St → Prop} {l : bd} {n sz : Nat} {h0 : List (Nat × Row)} {env : Env} {h h' : Upds} {Inv' : Prop} {st : St}
theorem oI (rows:List (Nat×Row)) (l1 l2:bd) (h1:Le l1 st ⟨[],aG rows,72,sz,64⟩) (h2:Inv') (h3:Le l2 ⟨(sz,.d D)::env,ba l n h0 rows++h,n+8,sz+1,64⟩ ⟨(sz,.d D)::env,h',n,sz+1,64⟩):nq D Q l n sz h0 env h h' Inv' .normal st:=⟨rows,l1,l2,h1,h2,h3⟩
end
def j5 (K:Act→World→Prop) (Q:Exit→Act→World→Prop):Exit→Act→World→Prop
 | .normal,a,w=>K a w
 | e,a,w=>Q e a w
theorem kI {F:Fence} {n:Nat} {P:Program} {Q:Exit→Act→World→Prop} {K0:Act→World→Prop} {o:Oper} {a:Act} {w:World} {K K':Act→World→Prop} (h:∀a w,K a w→K' a w)
  (hh:o.wpIn F n P a w K (j5 K0 Q)):o.wpIn F n P a w K' Q:=by
 unfold Oper.wpIn at *
 refine⟨hh.1,?_⟩
 have hh:=hh.2
 generalize (o.semAt F.round a.eval).run P w=r at *
 cases r with
 | ok x w' =>
  cases x <;> simp only[Oper.uponIn]at hh ⊢ <;>
   first
    | exact h _ _ hh
    | exact⟨hh.1,CallsIn.mono hh.2 (fun e w'' he=>by cases e <;> first | exact h _ _ he | exact he)⟩
    | exact⟨hh.1,RowsIn.mono hh.2 (fun _ _ he=>h _ _ he)⟩
    | exact⟨hh.1,RoundIn.mono hh.2 (fun e w'' he=>by cases e <;> first | exact h _ _ he | exact he)⟩
 | halt x w'=>cases x <;> simp only[Oper.uponIn]at hh ⊢ <;> exact hh
end Go.Eng
namespace Go.Eng
open Go.RowKit
theorem jc {a:Act} {d:Option Tmp} {x:Value} {i:Nat} (h:∀k,d=some k→i≠k):(a.put d x).tmps[i]?=a.tmps[i]?:=by
 cases d with
 | none=>rfl
 | some k=>exact Array.getElem?_setIfInBounds_ne (Ne.symm (h k rfl))
def dsts:List Oper→List Nat
 | []=>[]
 | o::l=>match o.dst with | some d=>d::dsts l | none=>dsts l
def cP (ds:List Nat) (a a':Act):Prop:=a'.defers=a.defers∧a'.tmps.size=a.tmps.size∧∀i,i ∉ ds→a'.tmps[i]?=a.tmps[i]?
theorem cP.put {o:Oper} {l:List Oper} {a a':Act} {x:Value} (h:cP (dsts l) (a.put o.dst x) a'):cP (dsts (o::l)) a a':=by
 obtain⟨h1,h2,h3⟩:=h
 refine⟨h1.trans ?_,h2.trans ?_,fun i hi=>?_⟩
 ·cases o.dst <;> rfl
 ·cases o.dst with
  | none=>rfl
  | some d=>exact Array.size_setIfInBounds
 ·unfold dsts at hi
  cases hd:o.dst with
  | none =>
   rw[hd]at hi h3
   exact h3 i hi
  | some d =>
   rw[hd]at hi h3
   simp only[List.mem_cons,not_or]at hi
   rw[h3 i hi.2]
   exact jc (fun k hk e=>hi.1 (by cases hk; exact e))
def RegF (P:Program) (all:List Oper) (sz:Nat) (l:List Oper) (n:Nat) (env:Env) (h:Upds) (K:Env→Upds→Nat→Prop):Prop :=
 ∀(C:Ctx) (σ:au) (w:World) (a:Act),an C (fun r=>r<n) ⟨env,h,n,sz,64⟩ σ w a→∀(Q:Exit→Act→World→Prop) (l2:List Oper),
  (∀env h n σ w a',K env h n→an C (fun r=>r<n) ⟨env,h,n,sz,64⟩ σ w a'→cP (dsts l) a a'→wpListIn (fen C.ro) 0 P all.toArray Q l2 a' w)→wpListIn (fen C.ro) 0 P all.toArray Q (l++l2) a w
section
variable {P : Program} {T : Tab} {sz : Nat} {env : Env} {h : Upds} {n : Nat} {all l : List Oper} {K : Env → Upds → Nat → Prop}
theorem cl (h1:K env h n):RegF P all sz [] n env h K:=fun _ σ w a hst _ _ hQ=>hQ env h n σ w a h1 hst ⟨rfl,rfl,fun _ _=>rfl⟩
theorem mU {o:Oper} {v:Option AV} {u:Upds} (hw:∀(C:Ctx) (σ:au) (w:World) (a:Act),an C (fun r=>r<n) ⟨env,h,n,sz,64⟩ σ w a→Region.wanted o (yielded all.toArray a.tmps)=true) (hd:dA o.dst sz=true) (hs:ab P o.op env h n v u)
  (h1:RegF P all sz l (n+8) (putE o.dst v env) (u++h) K):RegF P all sz (o::l) n env h K:=by
 intro C σ w a hst Q l2 hQ
 rw[List.cons_append]
 unfold wpListIn
 rw[if_pos (hw C σ w a hst)]
 refine (hs C _ ⟨env,h,n,sz,64⟩ σ w a o rfl ⟨fun i v hi=>hi,fun r row hr=>by rw[←hr,←aW]⟩ (dz hd) hst (fun r h1 h2 h3=>Nat.not_lt.2 h1 h3) rfl _ _ ?_)
 intro x w' σ' G' hst' _ h2
 rw[lX]at hst'
 refine h1 C σ' w' _ ?_ Q l2 (fun env h n σ w a' hk hs hf=>hQ env h n σ w a' hk hs hf.put)
 have:=hst'.grow (G':=fun r=>r<n+8) (fun r hr=>by rcases h2 r hr with hr | hr <;> (try simp only at hr) <;> omega)
 exact { this with }
theorem aP {d:Tmp} {op:Op} {ty:TypeId} {pos:String} {af:Array Edge} {v:AV} (hd:Nat.blt d sz=true) (hs:ab P op env h n (some v) []) (h1:RegF P all sz l (n+8) ((d,v)::env) h K) :
  RegF P all sz (⟨some d,op,ty,pos,af,none⟩::l) n env h K:=mU (fun _ _ _ _ _=>rfl) hd hs h1
theorem mV {dst:Option Tmp} {op:Op} {ty:TypeId} {pos:String} {af:Array Edge} {v:Option AV} {u:Upds} {env':Env} {h':Upds} (hd:dA dst sz=true) (hs:ab P op env h n v u) (he:putE dst v env=env') (hh:u++h=h') (h1:RegF P all sz l (n+8) env' h' K) :
  RegF P all sz (⟨dst,op,ty,pos,af,none⟩::l) n env h K:=mU (fun _ _ _ _ _=>rfl) hd hs (by rw[he,hh]; exact h1)
theorem kE {d:Tmp} {op:Op} {ty:TypeId} {pos:String} {af:Array Edge} {v:AV} {x:Nat×Option Row} (hs:ab P op env h n (some v) [x]) (hd:Nat.blt d sz=true)
  (hk:RegF P all sz l (n+8) ((d,v)::env) (x::h) K):RegF P all sz (⟨some d,op,ty,pos,af,none⟩::l) n env h K:=mV (dst:=some d) hd hs rfl rfl hk
theorem eY {op:Op} {ty:TypeId} {pos:String} {af:Array Edge} {x:Nat×Option Row} (hs:ab P op env h n none [x])
  (hk:RegF P all sz l (n+8) env (x::h) K):RegF P all sz (⟨none,op,ty,pos,af,none⟩::l) n env h K:=mV (dst:=none) rfl hs rfl rfl hk
theorem dc {l1 l2:List Oper} {C:Ctx} {σ:au} {w:World} {a:Act} {Q:Exit→Act→World→Prop} {id:Nat} {opa:Array Oper} (K:Env→Upds→Nat→Prop) (he:opa.toList=l1++l2) (hro:C.ro=none) (hst:an C (fun r=>r<n) ⟨env,h,n,sz,64⟩ σ w a) (h1:RegF P opa.toList sz l1 n env h K)
  (h2:∀env h n σ w a',K env h n→an C (fun r=>r<n) ⟨env,h,n,sz,64⟩ σ w a'→cP (dsts l1) a a'→wpListIn Fence.wide 0 P opa Q l2 a' w):(Code.region id opa false).wpIn Fence.wide 0 P Q a w:=by
 refine wpIn_region_list ?_
 rw[he]
 have hf:fen C.ro=Fence.wide:=by rw[hro]; rfl
 have h3:=h1 C σ w a hst Q l2 (fun env h n σ w a' hk hs hs2=>by rw[hf]; simpa using h2 env h n σ w a' hk hs hs2)
 rw[hf]at h3
 simpa using h3
end
end Go.Eng
namespace Go.Eng
open Go.RowKit
theorem an.turnBook {C:Ctx} {G:Nat→Prop} {st:St} {σ:au} {w:World} {a:Act} (h:an C G st σ w a) {l:Nat} {r r':Loop} (hl0:C.w0.heap[l]?=some (.loop r)) (hl:w.heap[l]?=some (.loop r)) (hg:∀x∈ed,x.1≠l) :
  an { C with w0:=C.w0.putObj l (.loop r') } G st σ (w.putObj l (.loop r')) a:=by
 have hlt:l<w.heap.size:=(Array.getElem?_eq_some_iff.1 hl).1
 have hlt0:l<C.w0.heap.size:=(Array.getElem?_eq_some_iff.1 hl0).1
 have hoth:∀k,k≠l→(w.putObj l (.loop r')).heap[k]?=w.heap[k]?:=fun k hk=>World.putObj_heap_other hk
 have hoth0:∀k,k≠l→(C.w0.putObj l (.loop r')).heap[k]?=C.w0.heap[k]?:=fun k hk=>World.putObj_heap_other hk
 have hne:∀ {r row b c},st.row r=some row→σ r=some (b,c)→b≠l:=by
  rintro r row b c h1 h2 rfl
  obtain⟨o2,hc,hnb⟩:=h.cells h1 h2
  rw[hl]at hc; cases hc; cases hnb
 have hk:∀(ad:Addr) (u:Value),w.cell? ad=some u→¬st.X C.X0 σ ad.block→Kp w (w.putObj l (.loop r')) ad u∧¬st.X C.X0 σ ad.block:=by
  intro ad u h1 h2
  refine⟨?_,h2⟩
  have hb:ad.block≠l:=by
   rintro rfl
   have:(w.cell? ad)=none:=by simp only[World.cell?,hl]
   rw[this]at h1; cases h1
  exact .of_block (hoth _ hb) h1
 exact {
  env:=fun i v hi=>by
   obtain⟨u,h1,h2⟩:=h.env i v hi
   exact⟨u,h1,RelV.mono (G:=fun _=>True) (fun _ _=>rfl) hk (AV.within_all v) h2⟩
  envG:=h.envG
  rows:=fun r row hr=>aU.mono (G:=fun _=>True) (fun _ _=>rfl) hk (by simp[World.putObj]) trivial (Row.within_all row) (fun b c hs=>hoth b (hne hr hs)) (h.rows r row hr)
  rowsG:=h.rowsG
  inj:=h.inj
  high:=h.high
  size:=by have:=h.size; simpa[World.putObj]using this
  below:=by
   refine⟨h.below.os,h.below.tape,h.below.output,(by have:=h.below.size; simpa[World.putObj]using this),fun k hk hm=>?_,fun k x hx hb=>?_⟩
   ·by_cases e:k=l
    ·subst e
     rw[World.putObj_heap_same hlt,World.putObj_heap_same hlt0]
    ·rw[hoth k e,hoth0 k e]; exact h.below.block k hk hm
   ·by_cases e:k=l
    ·subst e
     rw[World.putObj_heap_same hlt0]at hx
     rw[World.putObj_heap_same hlt]; exact hx
    ·rw[hoth0 k e]at hx
     rw[hoth k e]; exact h.below.book k x hx hb
  defers:=by
   have key:∀ds,cU C w ds→cU { C with w0:=C.w0.putObj l (.loop r') } (w.putObj l (.loop r')) ds:=by
    intro ds
    induction ds with
    | nil=>intro _; trivial
    | cons d ds ih =>
     rintro⟨⟨D,h1,h2,h3,h4,h5⟩,h6⟩
     have hne:D≠l:=by rintro rfl; rw[hl]at h4; cases h4
     exact⟨⟨D,h1,by simpa[World.putObj]using h2,h3,(hoth D hne).trans h4,h5⟩,ih h6⟩
   exact key _ h.defers
  sz:=h.sz
  x0:=h.x0
  agree:=h.agree
  baseG:=h.baseG
  bs:=h.bs
  rok:=fun l1 h1=>by
   by_cases e:l1=l
   ·subst e; exact⟨_,World.putObj_heap_same hlt⟩
   ·obtain⟨r,hr⟩:=h.rok l1 h1; exact⟨r,(hoth l1 e).trans hr⟩
  glob:=fun x hx=>by
   obtain⟨h1,h2⟩:=h.glob x hx
   refine⟨?_,h2⟩
   show x.2 ((C.w0.putObj l (.loop r')).heap[x.1]?)
   rw[hoth0 _ (hg x hx)]; exact h1 }
def su {γ:Type} (dO:γ→D) (rO:γ→List (Nat×Row)) (avs:List AV) (g:γ) (vs:List Value) (W:World) (K:γ→Value→World→Prop):Prop :=
 ∃(C:Ctx) (σ:au),C.bs=64∧C.B=W.heap.size∧C.w0=W∧C.σ0=σ∧C.ro=none∧an C (fun r=>r<64) (inSt (avs++[.d (dO g)]) (rO g)) σ W ⟨vs.toArray,[]⟩ ∧
  ∀(W':World) (σ':au) (g':γ) (v:Value),an C (fun r=>r<72) (cj (.d (dO g')) (rO g')) σ' W' ⟨#[v],[]⟩→K g' v W'
def kh (P:Program) (gf:FuncId) (avs:List AV) {γ:Type} (dO:γ→D) (rO:γ→List (Nat×Row)) (g0:γ) (v0:Value) {α:Type} (enc:α→Value) (Next:List α→α→Prop) (Done:List α→Prop) (N:Nat):Prop :=
 (∃ fn, P.funcs[gf]? = some fn ∧ (fn.name == "runtime.NumGoroutine") = false ∧ fn.body.isNone = false) ∧
 ∀(us:List Value) (l:Nat) (J:List α→γ→Value→World→Prop) (Jx:List α→World→Prop) (w:World),
  (∀pre g v W,J pre g v W→pre.length≤N∧su dO rO avs g (us++[v]) W (J pre)) →
  (∀pre g v x W,J pre g v W→Next pre x→YieldAt Fence.wide 0 P l #[enc x] W fun e W'=>(e=.returned (.bool true)∧J (pre++[x]) g v W')∨(e=.returned (.bool false)∧Jx (pre++[x]) W')) →
  J [] g0 v0 w→Calls P gf (#[.func (.yield l) #[] #[]]++us.toArray) w fun e W'=>(∃v,e=.returned v)∧((∃pre g v,Done pre∧J pre g v W')∨∃pre,Jx pre W')
section
variable {P : Program} {T : Tab} {sz n : Nat} {Q : Exit → St → Prop} {env : Env} {h : Upds}
set_option maxHeartbeats 4000000 in
theorem iP {α γ:Type} {enc:α→Value} {encD:α→D} (henc:∀x σ w X,RelV σ w X (.d (encD x)) (enc x)) {dO:γ→D} {rO:γ→List (Nat×Row)} {g0:γ} {v0:Value} (hv0:∀σ w X,RelV σ w X (.d (dO g0)) v0) {Next:List α→α→Prop} {Done:List α→Prop} {N:Nat} {g:Operand} {gf:FuncId} {caps:AV} {avs0:List AV} {t:Tmp} {assign body:Code}
  (lr l:bd) (ks:List Nat) (avs:List AV) (h0:List α→γ→List (Nat×Row)) (hI:List α→γ→Upds) (Inv:List α→Prop) (hit:kh P gf avs0 dO rO g0 v0 enc Next Done N) (hg:ae env g=some (.fn (.func gf) .anil caps)) (hc:caps.chain=true)
  (haI:∀pre q,Inv pre→bf (aK (hI pre q)) (rho lr) (a8 caps++[.d (dO q)]) (avs0++[.d (dO q)])) (hrI:∀pre q,Inv pre→RowsIn (aK (hI pre q)) lr (rO q)) (hiI:∀q,cT (rho lr) (aZ (rO q))=true) (hkI:∀q,dK lr (rO q)=true) (hmI:∀q,bz (a8 caps++[.d (dO q)]) (avs0++[.d (dO q)])=true)
  (hgr:∀pre q q',Inv pre→∃lg,Le lg ⟨(sz,.d (dO q'))::env,ba lr n (rO q) (rO q')++hI pre q,n+8,sz+1,64⟩ ⟨(sz,.d (dO q'))::env,hI pre q',n,sz+1,64⟩)
  (i0:Inv []) (hh:hI [] g0=h) (hN:∀pre,Inv pre→pre.length≤N)
  (bs9:List AV) (hl:evL (ae env) (ks.map .tmp)=some bs9) (ha:∀pre q,Inv pre→bf (aK (hI pre q)) (rho l) bs9 avs) (hr:∀pre q,Inv pre→RowsIn (aK (hI pre q)) l (h0 pre q))
  (hi:∀pre q,Inv pre→cT (rho l) (aZ (h0 pre q))=true) (hk:∀pre q,Inv pre→dK l (h0 pre q)=true) (hm:bz bs9 avs=true) (htz:Nat.blt t sz=true) (hks:ks.all (fun k=>bif Nat.beq k t then false else Nat.blt k sz)=true)
  (hbody:∀pre q x,Inv pre→Next pre x→WC P sz assign (fun e st=>e=.normal∧Sat P body (nq (dO q) Q l n sz (h0 pre q) env (hI pre q) (hI (pre++[x]) q) (Inv (pre++[x]))) st) ((t,.d (encD x))::(ks.zip avs)) (aG (h0 pre q)) 64)
  (hdone:∀pre q,Inv pre→Done pre→Q .normal ⟨env,hI pre q,n,sz,64⟩) :
  WC P sz (.rangeFunc g #[t] assign body) Q env h n:=by
 subst hh
 intro C σ w a hst
 refine wpIn_rangeFunc ?_
 intro fn hfn
 obtain⟨us,hu,hus,husG⟩:∃us:List Value,a.eval g=.func (.func gf) #[] us.toArray∧Rel σ w ((⟨env,hI [] g0,n,sz,64⟩:St).X C.X0 σ) caps true us∧caps.within (fun r=>r<n):=by
  obtain⟨h1,h2⟩:=ai hst hg
  unfold RelV at h1
  simp only[AV.isAgg]at h1
  obtain⟨vs,us,he,h3,h4⟩:=h1
  obtain rfl:vs=[]:=h3
  exact⟨us,by simpa using he,h4,h2.2⟩
 have hcapsU:∀ {W:World} {σ':au} {pre:List α} {q:γ} {sz':Nat} {env':Env} {a':Act},(∀v,ae env g=some v→ae env' g=some v)→a'.eval g=a.eval g→an C (fun r=>r<n) ⟨env',hI pre q,n,sz',64⟩ σ' W a'→Rel σ' W ((⟨env',hI pre q,n,sz',64⟩:St).X C.X0 σ') caps true us:=by
  intro W σ' pre q sz' env' a' hev hae hst'
  obtain⟨h1,_⟩:=ai hst' (hev _ hg)
  unfold RelV at h1
  simp only[AV.isAgg]at h1
  obtain⟨vs,us',he,h3,h4⟩:=h1
  rw[hae,hu]at he
  have:us'=us:=by
   have:us.toArray=us'.toArray:=by simpa using (by simpa using he:_∧_).2
   simpa using congrArg Array.toList this.symm
  rw[←this]; exact h4
 obtain⟨lp,mark,dd,W1,hent,hl1,hst1,hlw,hlB,hlro,hmark⟩:=hst.enterLoop (P:=P) fn #[t] assign body
 have hglob:∀x∈ed,x.1≠lp:=fun x hx=>by have:=(hst.glob x hx).2.1; omega
 obtain⟨rec,hrec⟩:∃rec:LoopState→Option Code→Loop,rec=fun st pe => { state:=st,pending:=pe,fn,tmps:=a.tmps,params := #[t],assign:=assign,body,defers:=dd }:=⟨_,rfl⟩
 have hl1:W1.heap[lp]?=some (.loop (rec .ready none)):=by rw[hrec]; exact hl1
 have hasz:a.tmps.size=sz:=hst.sz
 obtain⟨ag,hag⟩:∃ag:Value→Act,ag=fun u => { tmps:=a.tmps.push u,defers:=a.defers }:=⟨_,rfl⟩
 have hagd:∀u,(ag u).defers=a.defers:=fun u=>by rw[hag]
 have hagt:∀u i,i<sz→(ag u).tmps[i]?=a.tmps[i]?:=fun u i hi=>by rw[hag]; simp only[Array.getElem?_push]; rw[if_neg (by omega)]
 have hagz:∀u,(ag u).tmps.size=sz+1:=fun u=>by rw[hag]; simp[hasz]
 have hagu:∀u,(ag u).tmps[sz]?=some u:=fun u=>by rw[hag,←hasz]; simp
 have henvlt:∀i v,lk env i=some v→i<sz:=fun i v hv=>by
  obtain⟨u',h1,_⟩:=hst.env i v hv
  have:=(Array.getElem?_eq_some_iff.1 h1).1
  omega
 have hcons:∀D i v,lk env i=some v→lk ((sz,AV.d D)::env) i=some v:=fun D i v hv=>by
  rw[aC,if_neg (by have:=henvlt i v hv; omega)]; exact hv
 have hevg:∀D v,ae env g=some v→ae ((sz,AV.d D)::env) g=some v:=fun D v hv=>by
  cases g with
  | tmp i=>exact hcons D i v hv
  | _=>exact hv
 have hageval:∀u i,i<sz→(ag u).eval (.tmp i)=a.eval (.tmp i):=fun u i hi=>by
  have:=hagt u i hi
  simp only[Act.eval,Array.getD_eq_getD_getElem?,this]
 have hagg:∀u,(ag u).eval g=a.eval g:=fun u=>by
  cases g with
  | tmp i=>exact hageval u i (henvlt i _ hg)
  | _=>rfl
 have hadd:∀ {G:Nat→Prop} {hp:Upds} {m:Nat} {σ':au} {W:World} {D:D} {u:Value},an C G ⟨env,hp,m,sz,64⟩ σ' W a→RelV σ' W ((⟨env,hp,m,sz,64⟩:St).X C.X0 σ') (.d D) u→an C G ⟨(sz,.d D)::env,hp,m,sz+1,64⟩ σ' W (ag u):=by
  intro G hp m σ' W D u hs hu
  refine hs.spread (env':=(sz,.d D)::env) (sz':=sz+1) (a':=ag u) (fun i v hv=>?_) (hagz u) (by rw[hagd]; exact hs.defers)
  rw[aC]at hv
  split at hv
  ·rename_i e
   subst e
   simp only[Option.some.injEq]at hv
   subst hv
   exact⟨⟨u,hagu u,hu⟩,trivial⟩
  ·obtain⟨u',h1,h2⟩:=hs.env i v hv
   exact⟨⟨u',by rw[hagt u i (henvlt i v hv)]; exact h1,h2⟩,hs.envG i v hv⟩
 have hdrop:∀ {G:Nat→Prop} {hp:Upds} {m:Nat} {σ':au} {W:World} {D:D} {u:Value},an C G ⟨(sz,.d D)::env,hp,m,sz+1,64⟩ σ' W (ag u)→an C G ⟨env,hp,m,sz,64⟩ σ' W a:=by
  intro G hp m σ' W D u hs
  refine hs.spread (env':=env) (sz':=sz) (a':=a) (fun i v hv=>?_) hasz (by rw[←hagd u]; exact hs.defers)
  obtain⟨u',h1,h2⟩:=hs.env i v (hcons D i v hv)
  exact⟨⟨u',by rw[←hagt u i (henvlt i v hv)]; exact h1,h2⟩,hs.envG i v (hcons D i v hv)⟩
 let BK:World→Prop:=fun W=>∀k:Nat,k≠lp→W1.heap[k]?=some (.deferred (some []))→W.heap[k]?=some (.deferred (some []))
 let J:List α→γ→Value→World→Prop:=fun pre q u W=>Inv pre∧W.heap[lp]?=some (.loop (rec .ready none))∧BK W∧∃σ',an C (fun r=>r<n) ⟨(sz,.d (dO q))::env,hI pre q,n,sz+1,64⟩ σ' W (ag u)
 let Jx:List α→World→Prop:=fun _ W=>∃(c:Code) (e:Exit) (st':St),(c=.ret∧e=.ret∨∃i,c=.exit i∧e=.exit i)∧Q e st'∧W.heap[lp]?=some (.loop (rec .done (some c)))∧BK W∧∃σ',an C (fun r=>r<st'.next) st' σ' W a
 have hput:∀ {G:Nat→Prop} {st':St} {σ':au} {W:World} {r:Loop} {a':Act} (o':Loop),an C G st' σ' W a'→W.heap[lp]?=some (.loop r)→an C G st' σ' (W.putObj lp (.loop o')) a'∧(W.putObj lp (.loop o')).heap[lp]?=some (.loop o')∧(BK W→BK (W.putObj lp (.loop o'))):=by
  intro G st' σ' W r a' o' h1 h2
  refine⟨h1.putBook h2 rfl hlw hlB hlro (h1.defers.go fun k hk=>?_),World.putObj_heap_same (Array.getElem?_eq_some_iff.1 h2).1,fun hb k hne hk=>?_⟩
  ·have hne:k≠lp:=by rintro rfl; rw[h2]at hk; cases hk
   exact (World.putObj_heap_other hne).trans hk
  ·exact (World.putObj_heap_other hne).trans (hb k hne hk)
 refine⟨lp,mark,W1, { target :=.fn (.func gf) us.toArray,args := #[.func (.yield lp) #[] #[]] },W1,gf, #[.func (.yield lp) #[] #[]]++us.toArray,W1,hent,?_,?_,?_,?_,?_⟩
 ·simp only[resolve,hu]
  simp[Deferred.ofValue,Sem.run_bind,Sem.run_pure,Result.andThen_ok,Act.eval]
 ·exact fun _ _=>trivial
 ·simp[invoke,fm hit.1]
 ·exact fun h=>by cases h
 refine gp ?_
 refine (hit.2 us lp J Jx W1 ?_ ?_ ⟨i0,hl1,fun _ _ h=>h,σ,hadd hst1 (hv0 _ _ _)⟩).mono ?_
 ·-- the iterator's own work
  rintro pre q u W ⟨hinv,hlW,hbk,σ',hst'⟩
  refine⟨hN pre hinv,?_⟩
  have hcu:=hcapsU (hevg _) (hagg u) hst'
  have hcG:caps.within (fun r=>r<n):=(ai hst' (hevg _ _ hg)).2.2
  obtain⟨m1,m2,m3⟩:=fc caps us hc hcu hcG
  have hrows:=RowsIn.agree (fun r row hr=>by rw[←aW]; exact hr) _ (hrI pre q hinv) (look':=(⟨(sz,.d (dO q))::env,hI pre q,n,sz+1,64⟩:St).row)
  have hargs:=bf.agree (fun r row hr=>by rw[←aW]; exact hr) _ _ (haI pre q hinv) (look':=(⟨(sz,.d (dO q))::env,hI pre q,n,sz+1,64⟩:St).row)
  have hXlt:∀b,(⟨(sz,.d (dO q))::env,hI pre q,n,sz+1,64⟩:St).X C.X0 σ' b→b<W.heap.size:=by
   rintro b (hx | ⟨r,row,c,h3,h4⟩)
   ·have:=(hst'.x0 b hx).1; have:=hst'.size; omega
   ·exact hst'.lt h3 h4
  have huR':RelV σ' W ((⟨(sz,.d (dO q))::env,hI pre q,n,sz+1,64⟩:St).X C.X0 σ') (.d (dO q)) u:=by
   obtain⟨u',h1,h2⟩:=hst'.env sz (.d (dO q)) (by rw[aC,if_pos rfl])
   rw[hagu]at h1
   cases h1
   exact h2
  have hv:=fe (a8 caps) [.d (dO q)] us [u] m1 m3 (fun i v u' h1 h2=>by
   match i,h1,h2 with
   | 0,h1,h2 =>
    simp only[List.getElem?_cons_zero,Option.some.injEq]at h1 h2
    subst h1 h2
    exact huR')
  have hG:∀v∈a8 caps++[.d (dO q)],v.within (fun r=>r<n):=fun v hv=>by
   rcases List.mem_append.1 hv with hv | hv
   ·exact m2 v hv
   ·simp only[List.mem_singleton]at hv
    subst hv
    trivial
  have hin:=hst'.enter (us:=us++[u]) (fun b=>(⟨(sz,.d (dO q))::env,hI pre q,n,sz+1,64⟩:St).X C.X0 σ' b∧¬bF (σ'.via (rho lr)) (rO q) b) (by simp[m1]) hv hG hargs hrows (hiI q) (fun b hb=>⟨hXlt b hb.1,hb.2⟩) (fun b hb=>hb.1) (.inl (hmI q))
  refine⟨_,_,rfl,rfl,rfl,rfl,rfl,hin,fun W' σ2 q' v' h2=>?_⟩
  obtain⟨σ3,h4,h4r,_⟩:=hst'.leave (n:=n) (v:=v') (res :=.d (dO q')) (rows:=rO q') (X1:=fun b=>(⟨(sz,.d (dO q))::env,hI pre q,n,sz+1,64⟩:St).X C.X0 σ' b∧¬bF (σ'.via (rho lr)) (rO q) b) (fun r h1 h2 h3=>Nat.not_lt.2 h1 h3) rfl hrows (hkI q) (.inl fun b h1 h2=>⟨h1,h2⟩) h2
  have h5:=h4.grow (G':=fun r=>r<n+8) (fun r hr=>by rcases hr with hr | hr <;> (try simp only at hr) <;> omega)
  obtain⟨lg,hle⟩:=hgr pre q q' hinv
  have h6:an C (fun r=>r<n+8) ⟨(sz,.d (dO q'))::env,ba lr n (rO q) (rO q')++hI pre q,n+8,sz+1,64⟩ σ3 W' (ag v'):=by
   refine hadd (hp:=ba lr n (rO q) (rO q')++hI pre q) (m:=n+8) (hdrop (D:=dO q) (u:=u) { h5 with }) ?_
   exact h4r
  exact⟨hinv,h2.below.book _ _ hlW rfl,fun k hne hk1=>h2.below.book _ _ (hbk k hne hk1) rfl,_,h6.le hle⟩
 ·-- a round
  rintro pre q u x W ⟨hinv,hlW,hbk,σ',hst'⟩ hnx
  have hy:=run_yield (P:=P) (args := #[enc x]) hlW (by rw[hrec]; rfl)
  refine⟨_,_,_,_,hy,roundIn_of_wpIn trivial ?_⟩
  obtain⟨a1,ha1⟩:∃a1:Act,a1 = { tmps:=a.tmps.setIfInBounds t (enc x),defers:=[] }:=⟨_,rfl⟩
  have hblt:t<a.tmps.size:=by rw[hasz]; exact Nat.le_of_ble_eq_true htz
  have ha1t:a1.tmps=a.tmps.setIfInBounds t (enc x):=by rw[ha1]
  have ha1d:a1.defers=[]:=by rw[ha1]
  have ha1e:({ tmps:=((rec .ready none).params.zip #[enc x]).foldl (fun tmps (t,a)=>tmps.setIfInBounds t a) (rec .ready none).tmps,defers:=[] }:Act)=a1:=by
   rw[hrec,ha1]; simp
  rw[ha1e]
  have hrows:=RowsIn.agree (fun r row hr=>by rw[←aW]; exact hr) _ (hr pre q hinv) (look':=(⟨(sz,.d (dO q))::env,hI pre q,n,sz+1,64⟩:St).row)
  have hargs:=bf.agree (fun r row hr=>by rw[←aW]; exact hr) _ _ (ha pre q hinv) (look':=(⟨(sz,.d (dO q))::env,hI pre q,n,sz+1,64⟩:St).row)
  obtain⟨e1,e2,e3⟩:=im hst' _ bs9 (fU (ev':=ae ((sz,.d (dO q))::env)) (fun y v hv=>by
   cases y with
   | tmp i=>exact hcons _ i v hv
   | _=>exact hv) _ _ hl)
  have hXlt:∀b,(⟨(sz,.d (dO q))::env,hI pre q,n,sz+1,64⟩:St).X C.X0 σ' b→b<W.heap.size:=by
   rintro b (hx | ⟨r,row,c,h3,h4⟩)
   ·have:=(hst'.x0 b hx).1; have:=hst'.size; omega
   ·exact hst'.lt h3 h4
  have hin:=hst'.enter (us:=(ks.map Operand.tmp).map (ag u).eval) (fun b=>(⟨(sz,.d (dO q))::env,hI pre q,n,sz+1,64⟩:St).X C.X0 σ' b∧¬bF (σ'.via (rho l)) (h0 pre q) b) (by simpa using e1) e3 e2 hargs hrows (hi pre q hinv) (fun b hb=>⟨hXlt b hb.1,hb.2⟩) (fun b hb=>hb.1) (.inl hm)
  have hin2:=hin.spread (env':=(t,.d (encD x))::ks.zip avs) (sz':=sz) (a':=a1) (fun i v hv=>?_) (by rw[ha1t]; simpa using hasz) (by rw[ha1d]; trivial)
  rotate_left
  ·rw[aC]at hv
   split at hv
   ·rename_i e
    subst e
    simp only[Option.some.injEq]at hv
    subst hv
    exact⟨⟨enc x,by rw[ha1t]; exact Array.getElem?_setIfInBounds_self_of_lt hblt,henc x _ _ _⟩,trivial⟩
   ·-- one of the temporaries bF in
    have key:∀(ks:List Nat) (avs:List AV) (j:Nat),lk (ks.zip avs) i=some v→∃m:Nat,ks[m]?=some i∧avs[m]?=some v:=by
     intro ks
     induction ks with
     | nil=>intro avs j hz; simp[lk]at hz
     | cons k ks ih =>
      intro avs j hz
      cases avs with
      | nil=>simp[lk]at hz
      | cons y ys =>
       simp only[List.zip_cons_cons,aC]at hz
       split at hz
       ·rename_i e; subst e; simp only[Option.some.injEq]at hz; subst hz; exact⟨0,rfl,rfl⟩
       ·obtain⟨m,h1,h2⟩:=ih ys 0 hz; exact⟨m+1,by simpa using h1,by simpa using h2⟩
    obtain⟨m,hm1,hm2⟩:=key ks avs 0 hv
    have hav:∀(avs:List AV) (k m:Nat),avs[m]?=some v→lk (cq k avs) (k+m)=some v:=by
     intro avs
     induction avs with
     | nil=>intro k m h; simp at h
     | cons y ys ih =>
      intro k m h
      cases m with
      | zero=>simp only[List.getElem?_cons_zero,Option.some.injEq]at h; subst h; simp[cq,aC]
      | succ m =>
       simp only[cq,aC]
       rw[if_neg (by omega),show k+(m+1)=k+1+m by omega]
       exact ih (k+1) m (by simpa using h)
    have hlk:lk (inSt avs (h0 pre q)).env m=some v:=by have:=hav avs 0 m hm2; simpa[inSt]using this
    obtain⟨u0,hu1,hu2⟩:=hin.env m v hlk
    refine⟨⟨u0,?_,hu2⟩,hin.envG m v hlk⟩
    have hmem:i∈ks:=List.mem_of_getElem? hm1
    have hki:=List.all_eq_true.1 hks i hmem
    have hit':¬i=t:=by rintro rfl; simp[show Nat.beq i i=true from Nat.beq_refl i]at hki
    have hisz0:i<sz:=by
     have e2:Nat.beq i t=false:=by cases hb:Nat.beq i t; rfl; exact absurd (Nat.eq_of_beq_eq_true hb) hit'
     simp only[e2,cond_false]at hki
     exact Nat.le_of_ble_eq_true hki
    have hisz:i<a.tmps.size:=by omega
    have hu3:a.eval (.tmp i)=u0:=by
     simp only[List.map_map,List.getElem?_toArray,List.getElem?_map,hm1,Option.map_some,Option.some.injEq,Function.comp]at hu1
     rw[←hageval u i hisz0]
     exact hu1
    rw[ha1t,Array.getElem?_setIfInBounds_ne (Ne.symm hit')]
    rw[←hu3]
    simp[Act.eval,Array.getD_eq_getD_getElem?,hisz]
  have hin3:=hin2.inRo (some lp) (fun l1 h1=>by cases h1; exact⟨_,hlW⟩) (by rw[ha1d]; trivial)
  rw[show (rec .ready none).assign=assign by rw[hrec]]
  have hasg:=hbody pre q x hinv hnx _ _ _ _ hin3
  rw[show fen (some lp)=Fence.wide.inRound lp from rfl]at hasg
  refine wpIn_mono hasg ?_
  rintro e2 a2 W2 ⟨st2,σ2,⟨rfl,hsat⟩,hs2⟩
  have hl2:W2.heap[lp]?=some (.loop (rec .ready none)):=hs2.below.book _ _ hlW rfl
  have hbk2:BK W2:=fun k hne hk1=>hs2.below.book _ _ (hbk k hne hk1) rfl
  simp only[Exit.then]
  refine⟨_,run_beginRound hl2 (by rw[hrec]),?_⟩
  have hs3:=hs2.turnBook (r' := { rec .ready none with state :=.busy }) hlW hl2 hglob
  obtain⟨hst2,hlW2,hbkW2⟩:=hput { rec .ready none with state :=.busy } hst' hlW
  replace hbkW2:=hbkW2 hbk
  have hsz2:(W.putObj lp (.loop { rec .ready none with state :=.busy })).heap.size=W.heap.size:=by simp[World.putObj]
  generalize hWq:W.putObj lp (.loop { rec .ready none with state :=.busy })=Wq at hst2 hlW2 hbkW2 hs3 hsz2
  generalize W2.putObj lp (.loop { rec .ready none with state :=.busy })=W2q at hs3 ⊢
  rw[show (rec .ready none).body=body by rw[hrec]]
  have hbd:=hsat _ _ _ _ hs3
  refine wpIn_mono hbd ?_
  have out:∀(st'':St) (σ'':au) (a'':Act) (W3:World) (rows:List (Nat×Row)) (l1:bd),Le l1 st'' ⟨[],aG rows,72,sz,64⟩ →
    an { B:=W.heap.size,w0:=Wq,X0:=fun b=>(⟨(sz,.d (dO q))::env,hI pre q,n,sz+1,64⟩:St).X C.X0 σ' b∧¬bF (σ'.via (rho l)) (h0 pre q) b,M:=bF (σ'.via (rho l)) (h0 pre q),bs:=64,σ0:=σ'.via (rho l),ro:=some lp } (fun r=>r<st''.next) st'' σ'' W3 a'' →
    ∃σ3,an C (fun r=>r<n+8) ⟨(sz,.d (dO q))::env,ba l n (h0 pre q) rows++hI pre q,n+8,sz+1,64⟩ σ3 W3 (ag u)∧W3.heap[lp]?=some (.loop { rec .ready none with state :=.busy })∧BK W3:=by
   intro st'' σ'' a'' W3 rows l1 hle hs
   have h1:=hs.le hle
   have h2:=h1.spread (env':=[(0,.d (.sc (.bool true)))]) (sz':=1) (a':=⟨#[.bool true],[]⟩) (fun i v hv=>by
    simp only[aC]at hv
    split at hv
    ·rename_i e
     subst e
     simp only[Option.some.injEq]at hv
     subst hv
     exact⟨⟨_,rfl,RelV.sc.2 ⟨rfl,rfl⟩⟩,trivial⟩
    ·simp[lk]at hv) rfl trivial
   have h3:=h2.inRo none (fun _ h=>by cases h) trivial
   rw[←hsz2]at h3
   obtain⟨σ3,h4,_,_⟩:=hst2.leave (n:=n) (v :=.bool true) (res :=.d (.sc (.bool true))) (rows:=rows) (X1:=fun b=>(⟨(sz,.d (dO q))::env,hI pre q,n,sz+1,64⟩:St).X C.X0 σ' b∧¬bF (σ'.via (rho l)) (h0 pre q) b) (fun r h1 h2 h3=>Nat.not_lt.2 h1 h3) rfl hrows (hk pre q hinv) (.inl fun b h1 h2=>⟨h1,h2⟩) h3
   refine⟨σ3,?_,hs.below.book _ _ hlW2 rfl,fun k hne hk1=>hs.below.book _ _ (hbkW2 k hne hk1) rfl⟩
   have h5:=h4.grow (G':=fun r=>r<n+8) (fun r hr=>by rcases hr with hr | hr <;> (try simp only at hr) <;> omega)
   exact { h5 with }
  rintro e a'' W3 ⟨st'',σ'',hq,hs⟩
  cases e with
  | normal =>
   obtain⟨rows,l1,l2,hle1,hinv',hle2⟩:=hq
   obtain⟨σ3,h1,h2,h3⟩:=out st'' σ'' a'' W3 rows l1 hle1 hs
   have h4:=h1.le hle2
   have hend:=run_endRound (P:=P) none h2
   obtain⟨h5,h6,h7⟩:=hput { { rec .ready none with state :=.busy } with state:=if (none:Option Code).isNone then .ready else .done,pending:=none } h4 h2
   exact⟨_,_,hend,.inl ⟨rfl,hinv',by rw[h6,hrec]; rfl,h7 h3,_,h5⟩⟩
  | ret =>
   obtain⟨rows,l1,hle1,hQ⟩:=hq
   obtain⟨σ3,h1,h2,h3⟩:=out st'' σ'' a'' W3 rows l1 hle1 hs
   have hend:=run_endRound (P:=P) (some .ret) h2
   obtain⟨h5,h6,h7⟩:=hput { { rec .ready none with state :=.busy } with state:=if (some Code.ret:Option Code).isNone then .ready else .done,pending:=some .ret } (hdrop h1) h2
   exact⟨_,_,hend,.inr ⟨rfl,.ret,.ret,_,.inl ⟨rfl,rfl⟩,hQ,by rw[h6,hrec]; rfl,h7 h3,_,h5⟩⟩
  | exit i =>
   obtain⟨rows,l1,hle1,hQ⟩:=hq
   obtain⟨σ3,h1,h2,h3⟩:=out st'' σ'' a'' W3 rows l1 hle1 hs
   have hend:=run_endRound (P:=P) (some (.exit i)) h2
   obtain⟨h5,h6,h7⟩:=hput { { rec .ready none with state :=.busy } with state:=if (some (Code.exit i):Option Code).isNone then .ready else .done,pending:=some (.exit i) } (hdrop h1) h2
   exact⟨_,_,hend,.inr ⟨rfl,.exit i,.exit i,_,.inr ⟨i,rfl,rfl⟩,hQ,by rw[h6,hrec]; rfl,h7 h3,_,h5⟩⟩
  | goto t=>exact hq.elim
  | panic ch=>exact hq.elim
  | outgrown=>exact hq.elim
 ·-- j5 the loop
  have fin:∀ {G:Nat→Prop} {st':St} {σ':au} {W:World} (o':Loop) {r:Loop},an C G st' σ' W a→W.heap[lp]?=some (.loop r)→BK W→an C G st' σ' (W.putObj lp (.loop o')) { a with defers:=mark++a.defers }:=by
   intro G st' σ' W o' r h1 h2 h3
   exact h1.putBook h2 rfl hlw hlB hlro (hmark _ fun k hne hk=>(World.putObj_heap_other hne).trans (h3 k hne hk))
  rintro e W' ⟨⟨v,rfl⟩,⟨pre,q,u,hd,hinv,hlW,hbk,σ',hst'⟩ | ⟨pre,c,e,st',hce,hQ,hlW,hbk,σ',hst'⟩⟩
  ·exact⟨none,_,by have:=run_endLoop (P:=P) hlW (by rw[hrec]; simp); rw[this]; rw[hrec],⟨_,σ',hdone pre q hinv hd,fin _ (hdrop hst') hlW hbk⟩⟩
  ·refine⟨some c,_,by have:=run_endLoop (P:=P) hlW (by rw[hrec]; simp); rw[this]; rw[hrec],?_⟩
   rcases hce with ⟨rfl,rfl⟩ | ⟨i,rfl,rfl⟩
   ·exact wpIn_ret ⟨_,σ',hQ,fin _ hst' hlW hbk⟩
   ·exact wpIn_exit ⟨_,σ',hQ,fin _ hst' hlW hbk⟩
end
theorem gb {P:Program} {sz n:Nat} {env:Env} {h:Upds} {all l:List Oper} {K:Env→Upds→Nat→Prop} {env':Env} {h':Upds} (r:Nat) (row:Row) (hrow:aK h r=some row) (hE:cS r row env env') (hH:bD r row h h') (h1:RegF P all sz l n env' h' K):RegF P all sz l n env h K:=by
 intro C σ w a hst Q l2 hQ
 refine h1 C σ w a (hst.freeze (st':=⟨env',h',n,sz,64⟩) r row (by rw[←aW]; exact hrow) (cS.out env' hE) (fun q x' hq=>?_) rfl rfl) Q l2 hQ
 rw[←aW]at hq
 obtain⟨h1,x,h2,h3⟩:=bD.out h' hH q x' hq
 exact⟨h1,x,by rw[←aW]; exact h2,h3⟩
def mA (a:Act) (avs:List AV) (us:List Value):Env→Prop
 | []=>True
 | (i,v)::e=>(∃u,a.tmps[i]?=some u∧((∃j:Nat,avs[j]?=some v∧us[j]?=some u)∨((∀σ w X,RelV σ w X v u)∧∀G,v.within G)))∧mA a avs us e
theorem an.placed {C:Ctx} {G:Nat→Prop} {σ:au} {W:World} {avs:List AV} {rd:List (Nat×Row)} {us:List Value} (hst:an C G (inSt avs rd) σ W ⟨us.toArray,[]⟩) {a:Act} {env:Env} {sz:Nat} (hp:mA a avs us env) (hs:a.tmps.size=sz) (hd:a.defers=[]) :
  an C G ⟨env,aG rd,64,sz,64⟩ σ W a:=by
 refine hst.spread (env':=env) (sz':=sz) (a':=a) (fun i v hv=>?_) hs (by rw[hd]; trivial)
 have key:∀(env:Env),mA a avs us env→lk env i=some v→∃u,a.tmps[i]?=some u∧((∃j:Nat,avs[j]?=some v∧us[j]?=some u)∨((∀σ w X,RelV σ w X v u)∧∀G,v.within G)):=by
  intro env
  induction env with
  | nil=>intro _ h; simp[lk]at h
  | cons x e ih =>
   obtain⟨k,y⟩:=x
   rintro⟨h1,h2⟩ h
   rw[aC]at h
   split at h
   ·rename_i q
    subst q
    cases h
    exact h1
   ·exact ih h2 h
 obtain⟨u,h1,h2⟩:=key env hp hv
 rcases h2 with ⟨j,h3,h4⟩ | ⟨h3,h4⟩
 ·have hav:∀(avs:List AV) (k m:Nat),avs[m]?=some v→lk (cq k avs) (k+m)=some v:=by
   intro avs
   induction avs with
   | nil=>intro k m h; simp at h
   | cons y ys ih =>
    intro k m h
    cases m with
    | zero=>simp only[List.getElem?_cons_zero,Option.some.injEq]at h; subst h; simp[cq,aC]
    | succ m =>
     simp only[cq,aC]
     rw[if_neg (by omega),show k+(m+1)=k+1+m by omega]
     exact ih (k+1) m (by simpa using h)
  have hlk:lk (inSt avs rd).env j=some v:=by have:=hav avs 0 j h3; simpa[inSt]using this
  obtain⟨u',g1,g2⟩:=hst.env j v hlk
  have:u=u':=by
   have:us[j]?=some u':=by simpa using g1
   rw[h4]at this; exact Option.some.inj this
  subst this
  exact⟨⟨u,h1,g2⟩,hst.envG j v hlk⟩
 ·exact⟨⟨u,h1,h3 _ _ _⟩,h4 _⟩
theorem ef {σ:au} {w:World} {X:Nat→Prop} (lp:Nat):RelV σ w X (.fn (.yield lp) .anil .anil) (.func (.yield lp) #[] #[]):=⟨[],[],rfl,rfl,rfl⟩
theorem fv {σ:au} {w:World} {X:Nat→Prop} {lp:Nat} {v:Value} (h:RelV σ w X (.fn (.yield lp) .anil .anil) v):v=.func (.yield lp) #[] #[]:=by
 unfold RelV at h
 simp only[AV.isAgg]at h
 obtain⟨vs,us,he,h3,h4⟩:=h
 obtain rfl:vs=[]:=h3
 obtain rfl:us=[]:=h4
 simpa using he
def gL {α:Type} (n:Nat) (c:α→Value) (d:Value) (xs:List α):Value :=.agg (cat (fun i=>[((xs[i]?).map c).getD d]) n).toArray
theorem mI {α:Type} {n:Nat} {c:α→Value} {xs:List α} {σ:au} {w:World} {X:Nat→Prop} {v:Value} (d:Value) (h:RelV σ w X (.d (.vec n 1 (fun x=>.sc (c x)) xs)) v):v=gL n c d xs:=by
 unfold RelV at h
 simp only[AV.isAgg,D.isAgg,if_true]at h
 obtain⟨cs,rfl,hl,f,hf,rfl⟩:=h
 unfold gL
 congr 2
 refine bH n fun i hi=>?_
 obtain⟨⟨h1,_⟩,_⟩:=hf i (by omega)
 rw[h1,List.getElem?_eq_getElem (by omega)]; rfl
theorem mK {α:Type} {n:Nat} {c:α→Value} {xs:List α} (d:Value) (hl:xs.length=n) (hc:∀x,(c x).oneCell'=true) (σ:au) (w:World) (X:Nat→Prop):RelV σ w X (.d (.vec n 1 (fun x=>.sc (c x)) xs)) (gL n c d xs):=by
 unfold RelV
 simp only[AV.isAgg,D.isAgg,if_true]
 refine⟨_,rfl,hl,fun i=>[((xs[i]?).map c).getD d],fun i hi=>⟨⟨?_,hc _⟩,rfl⟩,rfl⟩
 show[((xs[i]?).map c).getD d]=_
 rw[List.getElem?_eq_getElem hi]; rfl
theorem n9 {P:Program} {ops:Array Oper} {Q:Exit→Act→World→Prop} {rest:List Oper} {a:Act} {W:World} {d f x:Tmp} {ts:Array TypeId} {ty:TypeId} {pos:String} {af:Array Edge} {lp:Nat} {u:Value} {R:Ending→World→Prop}
  (hf:a.tmps[f]?=some (.func (.yield lp) #[] #[])) (hx:a.tmps[x]?=some u) (hY:YieldAt Fence.wide 0 P lp #[u] W R) (hR:∀e W',R e W' → ∃b,e=.returned b∧wpListIn Fence.wide 0 P ops Q rest (a.put (some d) b) W') :
  wpListIn Fence.wide 0 P ops Q (⟨some d,.call { callee :=.value (.tmp f),args := #[.tmp x],argTypes:=ts },ty,pos,af,none⟩::rest) a W:=by
 obtain⟨fn,tmps,assign,body,hy,hr⟩:=hY
 unfold wpListIn
 rw[if_pos (show Region.wanted ⟨some d,_,ty,pos,af,none⟩ _=true from rfl)]
 have h1:(execOp a.eval ⟨some d,.call { callee :=.value (.tmp f),args := #[.tmp x],argTypes:=ts },ty,pos,af,none⟩).run P W=.ok (.round lp fn tmps assign body) W:=by
  have e1:a.eval (.tmp f)=.func (.yield lp) #[] #[]:=by simp[Act.eval,Array.getD_eq_getD_getElem?,hf]
  have e2:a.eval (.tmp x)=u:=by simp[Act.eval,Array.getD_eq_getD_getElem?,hx]
  simp[execOp,resolve,e1,e2,Deferred.ofValue,invoke,hy]
 unfold Oper.wpIn
 refine⟨fun _ _=>trivial,?_⟩
 rw[Oper.semAt_eq _ _ _ (fun c hc=>by cases hc),h1]
 refine⟨(fun h=>by cases h),hr.mono ?_⟩
 intro e W' hRe
 obtain⟨b,rfl,hb⟩:=hR e W' hRe
 exact hb
theorem ki {P:Program} {ops:Array Oper} {i:Nat} {Q:Exit→Act→World→Prop} {K:Act→World→Prop} {a:Act} {W:World} {d f x:Tmp} {ts:Array TypeId} {ty:TypeId} {pos:String} {af:Array Edge} {lp:Nat} {u:Value} {R:Ending→World→Prop}
  (ho:ops[i]?=some ⟨some d,.call { callee :=.value (.tmp f),args := #[.tmp x],argTypes:=ts },ty,pos,af,none⟩) (hf:a.tmps[f]?=some (.func (.yield lp) #[] #[])) (hx:a.tmps[x]?=some u) (hY:YieldAt Fence.wide 0 P lp #[u] W R) (hR:∀e W',R e W' → ∃b,e=.returned b∧K (a.put (some d) b) W') :
  wpOpIn Fence.wide 0 P ops Q i K a W:=by
 obtain⟨fn,tmps,assign,body,hy,hr⟩:=hY
 unfold wpOpIn
 simp only[ho]
 rw[if_pos (show Region.wanted ⟨some d,_,ty,pos,af,none⟩ _=true from rfl)]
 have h1:(execOp a.eval ⟨some d,.call { callee :=.value (.tmp f),args := #[.tmp x],argTypes:=ts },ty,pos,af,none⟩).run P W=.ok (.round lp fn tmps assign body) W:=by
  have e1:a.eval (.tmp f)=.func (.yield lp) #[] #[]:=by simp[Act.eval,Array.getD_eq_getD_getElem?,hf]
  have e2:a.eval (.tmp x)=u:=by simp[Act.eval,Array.getD_eq_getD_getElem?,hx]
  simp[execOp,resolve,e1,e2,Deferred.ofValue,invoke,hy]
 unfold Oper.wpIn
 refine⟨fun _ _=>trivial,?_⟩
 rw[Oper.semAt_eq _ _ _ (fun c hc=>by cases hc),h1]
 refine⟨(fun h=>by cases h),hr.mono ?_⟩
 intro e W' hRe
 obtain⟨b,rfl,hb⟩:=hR e W' hRe
 exact hb
theorem qi {P:Program} {sz n:Nat} {env:Env} {h:Upds} {l1 l2:List Oper} {C:Ctx} {σ:au} {w:World} {a:Act} {Q:Exit→Act→World→Prop} {opa:Array Oper} (K:Env→Upds→Nat→Prop) (hro:C.ro=none) (hst:an C (fun r=>r<n) ⟨env,h,n,sz,64⟩ σ w a) (h1:RegF P opa.toList sz l1 n env h K)
  (h2:∀env h n σ w a',K env h n→an C (fun r=>r<n) ⟨env,h,n,sz,64⟩ σ w a'→cP (dsts l1) a a'→wpListIn Fence.wide 0 P opa Q l2 a' w):wpListIn Fence.wide 0 P opa Q (l1++l2) a w:=by
 have hf:fen C.ro=Fence.wide:=by rw[hro]; rfl
 have h3:=h1 C σ w a hst Q l2 (fun env h n σ w a' hk hs hs2=>by rw[hf]; simpa using h2 env h n σ w a' hk hs hs2)
 rw[hf]at h3
 simpa using h3
theorem r6 {P:Program} {ops:Array Oper} {Q:Exit→Act→World→Prop} {rest:List Oper} {a:Act} {W:World} {d x:Tmp} {t:TypeId} {ty:TypeId} {pos:String} {af:Array Edge} {b:Bool}
  (hx:a.tmps[x]?=some (.bool b)) (hR:wpListIn Fence.wide 0 P ops Q rest (a.put (some d) (.bool (!b))) W) :
  wpListIn Fence.wide 0 P ops Q (⟨some d,.unOp .not t (.tmp x),ty,pos,af,none⟩::rest) a W:=by
 unfold wpListIn
 rw[if_pos (show Region.wanted ⟨some d,_,ty,pos,af,none⟩ _=true from rfl)]
 have h1:(execOp a.eval ⟨some d,.unOp .not t (.tmp x),ty,pos,af,none⟩).run P W=.ok (.value (.bool (!b))) W:=by
  have e2:a.eval (.tmp x)=.bool b:=by simp[Act.eval,Array.getD_eq_getD_getElem?,hx]
  simp[execOp,e2,Op.unary]
 unfold Oper.wpIn
 refine⟨fun f hf=>by simp[Oper.about]at hf,?_⟩
 rw[Oper.semAt_eq _ _ _ (fun c hc=>by cases hc),h1]
 exact hR
end Go.Eng
namespace Go.Proofs.YtmapiehigkfddaaDoor
open Go Go.Eng Go.Plain Go.RowKit
set_option maxHeartbeats 32000000
set_option maxRecDepth 20000
set_option maxRecDepth 20000
theorem pb {F:Fence} {n:Nat} {P:Program} {Q:Exit→Act→World→Prop} {c:Code} {a:Act} {w:World} (I:Nat→Act→World→Prop) (k:Nat) (h0:I k a w)
  (step:∀m a w,I m a w→c.wpIn F n P (Exit.then (fun a w=>∃m',m'<m∧I m' a w) Q) a w):(Code.loop c).wpIn F n P Q a w:=by
 have key:∀m j a w,j≤m→I j a w→Code.roundsIn F n P c Q (m+1) a w:=by
  intro m
  induction m with
  | zero =>
   intro j a w hj hi
   rw[roundsIn_succ]
   refine wpIn_mono (step j a w hi) ?_
   intro e a w h
   cases e with
   | normal=>obtain⟨m',h1,_⟩:=h; omega
   | _=>exact h
  | succ m ih =>
   intro j a w hj hi
   rw[roundsIn_succ]
   refine wpIn_mono (step j a w hi) ?_
   intro e a w h
   cases e with
   | normal=>obtain⟨m',h1,h2⟩:=h; exact ih m' a w (by omega) h2
   | _=>exact h
 exact wpIn_loop_rounds (k+1) (key k k a w (Nat.le_refl _) h0)
def aX (k info:List UInt8):Nat→List UInt8
 | 0=>[]
 | i+1=>macD k [aX k info i,info,[UInt8.ofNat (i+1)]]
theorem eF (k info:List UInt8) (i:Nat):(aX k info (i+1)).length=32:=by rw[aX]; exact cH _ _
theorem oY (k info:List UInt8):∀i,(aX k info i).length≤32
 | 0=>by simp[aX]
 | i+1=>by rw[eF]; exact Nat.le_refl _
abbrev rdP (k info:List UInt8):List (Nat×Row):=[(20,.box 22 (.d (encB k))),(21,.box 22 (.d (encB info)))]
def dP:Bool×List UInt8→D
 | (false,l)=>encB l
 | (true,l)=>.pt (encV 32 l)
abbrev pEnv (lp i:Nat) (last:List UInt8):Env:=[(0,.fn (.yield lp) .anil .anil),(1,.ptr 20 []),(2,.ptr 21 []),(4,.d (encB last)),(5,.int .i64 i)]
abbrev oi (l:List UInt8):Value:=gL 32 (fun n:Int=>Value.int .u8 n) (.int .u8 0) (byI l)
def tY (pre:List Nat) (x:Nat):Prop:=x=pre.length∧pre.length<255
attribute [local irreducible] WC RegS RegD SeqQ BlkQ ScoQ RegK CutK Sat SatN FnIs LoopQ ab OpIs RegF macD aX
theorem bL {a:Act} {x:Value} {d i:Nat} (h:i≠d):(a.put (some d) x).tmps[i]?=a.tmps[i]?:=Array.getElem?_setIfInBounds_ne (Ne.symm h)
theorem lY (k info:List UInt8) (hk:k.length≤1000000000) (hi:info.length≤100000000) :
  kh Tryd.prog 61 [.ptr 20 [],.ptr 21 []] dP (fun _=>rdP k info) (false,[]) (.slice none 0 0) (fun x:Nat=>oi (aX k info (x+1))) tY (fun pre=>pre.length=255) 255:=by
 refine⟨⟨Tryd.f61,Tryd.func61,rfl,rfl⟩,fun us lp J Jx w hE hY h0=>?_⟩
 obtain⟨v1,v2,rfl⟩:∃v1 v2,us=[v1,v2]:=by
  obtain⟨_,C,σ,_,_,_,_,_,hst,_⟩:=hE [] _ _ w h0
  have hsz:=hst.sz
  have:us.length=2:=by simpa[inSt]using hsz
  match us,this with
  | [v1,v2],_=>exact⟨v1,v2,rfl⟩
 refine callsIn_wide.1 (callsIn_of_wp (n:=0) Tryd.func61 rfl trivial ?_ rfl)
 simp only[show Tryd.f61.ntmps=24 from rfl,List.size_toArray,List.length_cons,List.length_nil,Nat.reduceAdd,Nat.reduceSub,Array.replicate_succ,Array.replicate_zero,List.push_toArray,List.append_toArray,List.nil_append,List.cons_append]
 gi_wp2
 refine pb (fun m a W=>∃(i:Nat) (pre:List Nat) (v:Value),m+i=256∧1≤i∧pre.length+1=i∧J pre (false,aX k info (i-1)) v W∧a.defers=[]∧a.tmps.size=24 ∧
  a.tmps[0]?=some (.func (.yield lp) #[] #[])∧a.tmps[1]?=some v1∧a.tmps[2]?=some v2∧a.tmps[4]?=some v∧a.tmps[5]?=some (.int .i64 i)) 255 ?start ?round
 case start =>
  exact⟨1,[],_,rfl,Nat.le_refl _,rfl,by simpa[aX]using h0,rfl,rfl,rfl,rfl,rfl,rfl,rfl⟩
 case round =>
  rintro m a W ⟨i,pre,v,hm,hi1,hpre,hJ,kd,ksz,k0,k1,k2,k4,k5⟩
  obtain⟨hN,C,σ,hbs,hB,hw0,hσ,hro,hst,hback⟩:=hE pre _ _ W hJ
  obtain⟨j,rfl⟩:∃j,i=j+1:=⟨i-1,by omega⟩
  simp only[Nat.add_sub_cancel]at *
  have hsp:an C (fun r=>r<64) ⟨pEnv lp (j+1) (aX k info j),aG (rdP k info),64,24,64⟩ σ W a:=by
   refine hst.placed ?_ ksz kd
   exact⟨⟨_,k0,.inr ⟨fun _ _ _=>ef lp,fun _=>⟨trivial,trivial⟩⟩⟩,⟨_,k1,.inl ⟨0,rfl,rfl⟩⟩,⟨_,k2,.inl ⟨1,rfl,rfl⟩⟩,⟨_,k4,.inl ⟨2,rfl,rfl⟩⟩,⟨_,k5,.inr ⟨fun _ _ _=>RelV.sc.2 ⟨rfl,rfl⟩,fun _=>trivial⟩⟩,trivial⟩
  have hcv:IntKind.u8.wrap ((j+1:Nat):Int)=((UInt8.ofNat (j+1)).toNat:Int):=fh _
  by_cases hlt:j+1<256
  ·have d1:decide (((j+1:Nat):Int)<256)=true:=dT (by omega)
   iterate 2 refine wpIn_seq ?_
   refine dc (fun env h n=>Le [] ⟨env,h,n,24,64⟩ ⟨(8,.bool true)::pEnv lp (j+1) (aX k info j),aG (rdP k info),80,24,64⟩) (l1:=[_,_]) (l2:=[]) rfl hro hsp ?g1 ?_
   case g1 =>
    iterate 2 refine aP rfl (aE aa (fun K hk=>hk)) ?_
    refine cl ?_
    exact lg ⟨⟨_,rfl,AVLe.of_eq (by rw[d1]; rfl)⟩,rfl,zE,rfl,zE,rfl,zE,rfl,zE,rfl,zE,rfl,trivial⟩ ⟨zR,zR,trivial⟩
   rintro _ _ _ σ1 W1 a1 hle1 hs1 st1
   replace hs1:=hs1.le hle1
   generalize σ1.via (rho [])=σ1 at hs1
   show Code.wpIn _ _ _ _ _ _ _
   obtain⟨q,hq1,hq2⟩:=hs1.env 8 (.bool true) rfl
   obtain⟨rfl,_⟩:=RelV.sc.1 hq2
   refine wpIn_cond_true (by simp[Act.eval,Array.getD_eq_getD_getElem?,hq1]) ?_;refine wpIn_skip ?_
   show Code.wpIn _ _ _ _ _ _ _
   refine wpIn_seq ?_;refine wpIn_block ?_;refine wpIn_seq ?_
   have hmac:=e9 k [aX k info j,info,[UInt8.ofNat (j+1)]] hk (by simp) (by have:=oY k info j; simp; omega)
   have hpart:macD k [aX k info j,info,[UInt8.ofNat (j+1)]]=aX k info (j+1):=by rw[aX]
   rw[hpart]at hmac
   refine dc (fun env h n=>Le [] ⟨env,h,n,24,64⟩ ⟨(6,.ptr 144 [])::pEnv lp (j+1) (aX k info j),(144,some (.box 31 (.d (encV 32 (aX k info (j+1))))))::aG (rdP k info),160,24,64⟩) (l1:=[_,_,_,_,_,_,_,_,_,_]) (l2:=[]) rfl hro hs1 ?g2 ?_
   case g2 =>
    refine aP rfl (cZ aa rfl rfl rfl rfl) ?_;refine aP rfl (aE aa (fun K hk=>hk)) ?_;refine aP rfl (cZ aa rfl rfl rfl rfl) ?_;refine aP rfl (aE aa (fun K hk=>hk)) ?_;refine aP rfl (bu (m:=((UInt8.ofNat (j+1)).toNat:Int)) aa rfl rfl rfl hcv) ?_;refine aP rfl (ab.frozen (aH (s:=1) aa rfl rfl rfl rfl rfl rfl rfl rfl) (Frz.litsN (enc:=aF) [((UInt8.ofNat (j+1)).toNat:Int)] rfl (fun _ _=>rfl))) ?_;refine aP rfl (ab.frozen (aH (s:=1) aa rfl rfl rfl rfl rfl rfl rfl rfl) (Frz.litsN (enc:=encB) [aX k info j,info,[UInt8.ofNat (j+1)]] rfl (fun _ _=>rfl))) ?_;refine aP rfl (aq hmac rfl rfl (am (am aj)) (.inl rfl) (fun _=>rfl)) ?_;refine kE (aE aa (fun K hk=>hk)) rfl ?_;refine eY (fJ rfl rfl rfl rfl rfl rfl) ?_;refine cl ?_
    exact lg zg ⟨zR,zR,zR,trivial⟩
   rintro _ _ _ σ2 W2 a2 hle2 hs2 st2
   replace hs2:=hs2.le hle2
   generalize σ2.via (rho [])=σ2 at hs2
   show Code.wpIn _ _ _ _ _ _ _
   iterate 2 refine wpIn_seq ?_
   refine dc (fun env h n=>Le [] ⟨env,h,n,24,64⟩ ⟨(20,.d (encV 32 (aX k info (j+1))))::(19,.fn (.yield lp) .anil .anil)::(6,.d (dP (true,aX k info (j+1))))::pEnv lp (j+1) (aX k info j),aG (rdP k info),72,24,64⟩) (l1:=[_,_]) (l2:=[_,_]) rfl hro hs2 ?g3 ?_
   case g3 =>
    refine aP rfl (aE aa (fun K hk=>hk)) ?_;refine aP rfl (cZ aa rfl rfl rfl rfl) ?_;refine gb (env':=[(20,_),(19,_),(6,.d (.pt (encV 32 (aX k info (j+1))))),(0,_),(1,_),(2,_),(4,_),(5,_)]) (h':=[(20,some _),(21,some _)]) 144 _ rfl ⟨zE,zE,⟨_,rfl,Frz.ptr⟩,zE,zE,zE,zE,zE,trivial⟩ ⟨⟨rfl,_,rfl,.refl _⟩,⟨rfl,_,rfl,.refl _⟩,trivial⟩ ?_;refine cl ?_
    exact lg ze ⟨zR,zR,trivial⟩
   rintro _ _ _ σ3 W3 a3 hle3 hs3 st3
   replace hs3:=hs3.le hle3
   generalize σ3.via (rho [])=σ3 at hs3
   obtain⟨q6,h6,h6'⟩:=hs3.env 6 (.d (dP (true,aX k info (j+1)))) rfl
   have hJ3:J pre (true,aX k info (j+1)) q6 W3:=by
    refine hback W3 σ3 _ q6 (hs3.spread (env':=[(0,.d (dP (true,aX k info (j+1))))]) (sz':=1) (a':=⟨#[q6],[]⟩) (fun j v hv=>?_) rfl trivial)
    simp only[aC]at hv
    split at hv
    ·rename_i q
     subst q
     cases hv
     exact⟨⟨_,rfl,h6'⟩,trivial⟩
    ·simp[lk]at hv
   obtain⟨q20,h20,h20'⟩:=hs3.env 20 (.d (encV 32 (aX k info (j+1)))) rfl
   obtain rfl:=mI (.int .u8 0) h20'
   obtain⟨q19,h19,h19'⟩:=hs3.env 19 (.fn (.yield lp) .anil .anil) rfl
   obtain rfl:=fv h19'
   have kd3:a3.defers=[]:=by rw[st3.1,st2.1,st1.1,kd]
   have ksz3:a3.tmps.size=24:=by rw[st3.2.1,st2.2.1,st1.2.1,ksz]
   have key:∀j:Nat,j=0∨j=1∨j=2∨j=5→a3.tmps[j]?=a.tmps[j]?:=fun j hj=>by
    rw[st3.2.2 j (by simp only[dsts,List.mem_cons,List.not_mem_nil,or_false,not_or]; omega),st2.2.2 j (by simp only[dsts,List.mem_cons,List.not_mem_nil,or_false,not_or]; omega),st1.2.2 j (by simp only[dsts,List.mem_cons,List.not_mem_nil,or_false,not_or]; omega)]
   refine n9 h19 h20 (hY pre _ q6 j W3 hJ3 ⟨by omega,by omega⟩) ?_
   rintro e W4 (⟨rfl,hJ4⟩ | ⟨rfl,hJx⟩)
   ·refine⟨_,rfl,?_⟩
    obtain⟨hN4,C4,σ4,_,_,_,_,hro4,hst4,hback4⟩:=hE _ _ _ W4 hJ4
    have hsp4:an C4 (fun r=>r<64) ⟨[(21,.bool true),(0,.fn (.yield lp) .anil .anil),(1,.ptr 20 []),(2,.ptr 21 []),(6,.d (dP (true,aX k info (j+1)))),(5,.int .i64 ((j+1:Nat):Int))],aG (rdP k info),64,24,64⟩ σ4 W4 (a3.put (some 21) (.bool true)):=by
     refine hst4.placed ?_ (by rw[←ksz3]; exact Array.size_setIfInBounds) kd3
     refine⟨⟨_,Array.getElem?_setIfInBounds_self_of_lt (by omega),.inr ⟨fun _ _ _=>RelV.sc.2 ⟨rfl,rfl⟩,fun _=>trivial⟩⟩,⟨_,(bL (by decide)).trans ((key 0 (by decide)).trans k0),.inr ⟨fun _ _ _=>ef lp,fun _=>⟨trivial,trivial⟩⟩⟩,⟨_,(bL (by decide)).trans ((key 1 (by decide)).trans k1),.inl ⟨0,rfl,rfl⟩⟩,⟨_,(bL (by decide)).trans ((key 2 (by decide)).trans k2),.inl ⟨1,rfl,rfl⟩⟩,⟨_,(bL (by decide)).trans h6,.inl ⟨2,rfl,rfl⟩⟩,⟨_,(bL (by decide)).trans ((key 5 (by decide)).trans k5),.inr ⟨fun _ _ _=>RelV.sc.2 ⟨rfl,rfl⟩,fun _=>trivial⟩⟩,trivial⟩
    refine qi (fun env h n=>Le [] ⟨env,h,n,24,64⟩ ⟨[(22,.bool false),(0,.fn (.yield lp) .anil .anil),(1,.ptr 20 []),(2,.ptr 21 []),(6,.d (dP (true,aX k info (j+1)))),(5,.int .i64 ((j+1:Nat):Int))],aG (rdP k info),72,24,64⟩) (l1:=[_]) (l2:=[]) hro4 hsp4 ?g4 ?_
    case g4 =>
     refine aP rfl (aE aa (fun K hk=>hk)) ?_;refine cl ?_
     exact lg zg ⟨zR,zR,trivial⟩
    rintro _ _ _ σ5 W5 a5 hle5 hs5 st5
    replace hs5:=hs5.le hle5
    generalize σ5.via (rho [])=σ5 at hs5
    show Code.wpIn _ _ _ _ _ _ _
    obtain⟨q22,h22,h22'⟩:=hs5.env 22 (.bool false) rfl
    obtain⟨rfl,_⟩:=RelV.sc.1 h22'
    refine wpIn_cond_false (by simp[Act.eval,Array.getD_eq_getD_getElem?,h22]) ?_;refine wpIn_skip ?_
    show Code.wpIn _ _ _ _ _ _ _
    refine dc (fun env h n=>Le [] ⟨env,h,n,24,64⟩ ⟨[(4,.d (encB (aX k info (j+1)))),(0,.fn (.yield lp) .anil .anil),(1,.ptr 20 []),(2,.ptr 21 []),(5,.int .i64 ((j+1:Nat):Int))],aG (rdP k info),72,24,64⟩) (l1:=[_,_]) (l2:=[]) rfl hro4 hs5 ?g5 ?_
    case g5 =>
     refine aP rfl (bc aa rfl rfl rfl rfl rfl) ?_;refine aP rfl (aE aa (fun K hk=>hk)) ?_;refine cl ?_
     exact lg zh ⟨zR,zR,trivial⟩
    rintro _ _ _ σ6 W6 a6 hle6 hs6 st6
    replace hs6:=hs6.le hle6
    generalize σ6.via (rho [])=σ6 at hs6
    show Code.wpIn _ _ _ _ _ _ _
    refine dc (fun env h n=>Le [] ⟨env,h,n,24,64⟩ ⟨[(5,.int .i64 ((j+2:Nat):Int)),(4,.d (encB (aX k info (j+1)))),(0,.fn (.yield lp) .anil .anil),(1,.ptr 20 []),(2,.ptr 21 [])],aG (rdP k info),72,24,64⟩) (l1:=[_,_,_]) (l2:=[]) rfl hro4 hs6 ?g6 ?_
    case g6 =>
     refine aP rfl (aE aa (fun K hk=>hk)) ?_;refine aP rfl (aY (m:=((j+2:Nat):Int)) aa rfl rfl (by rw[aJ (by omega) (by omega)]; push_cast; rfl)) ?_;refine aP rfl (aE aa (fun K hk=>hk)) ?_;refine cl ?_
     exact lg zh ⟨zR,zR,trivial⟩
    rintro _ _ _ σ7 W7 a7 hle7 hs7 st7
    replace hs7:=hs7.le hle7
    generalize σ7.via (rho [])=σ7 at hs7
    obtain⟨q4,h4,h4'⟩:=hs7.env 4 (.d (encB (aX k info (j+1)))) rfl
    obtain⟨q5,h5,h5'⟩:=hs7.env 5 (.int .i64 ((j+2:Nat):Int)) rfl
    obtain⟨rfl,_⟩:=RelV.sc.1 h5'
    have hJ7:J (pre++[j]) (false,aX k info (j+1)) q4 W7:=by
     refine hback4 W7 σ7 _ q4 (hs7.spread (env':=[(0,.d (dP (false,aX k info (j+1))))]) (sz':=1) (a':=⟨#[q4],[]⟩) (fun j v hv=>?_) rfl trivial)
     simp only[aC]at hv
     split at hv
     ·rename_i q
      subst q
      cases hv
      exact⟨⟨_,rfl,h4'⟩,trivial⟩
     ·simp[lk]at hv
    have key7:∀j:Nat,j=0∨j=1∨j=2→a7.tmps[j]?=a.tmps[j]?:=fun j hj=>by
     rw[st7.2.2 j (by simp only[dsts,List.mem_cons,List.not_mem_nil,or_false,not_or]; omega),st6.2.2 j (by simp only[dsts,List.mem_cons,List.not_mem_nil,or_false,not_or]; omega),st5.2.2 j (by simp only[dsts,List.mem_cons,List.not_mem_nil,or_false,not_or]; omega),bL (by omega),key j (by omega)]
    refine⟨m-1,by omega,j+2,pre++[j],q4,by omega,by omega,by simp; omega,hJ7,?_,?_,(key7 0 (by decide)).trans k0,(key7 1 (by decide)).trans k1,(key7 2 (by decide)).trans k2,h4,h5⟩
    ·rw[st7.1,st6.1,st5.1]; exact kd3
    ·rw[st7.2.1,st6.2.1,st5.2.1,←ksz3]; exact Array.size_setIfInBounds
   ·refine⟨_,rfl,?_⟩
    refine r6 (b:=false) (Array.getElem?_setIfInBounds_self_of_lt (by omega)) ?_
    show Code.wpIn _ _ _ _ _ _ _
    refine wpIn_cond_true (by simp[Act.eval,Act.put,Array.getD_eq_getD_getElem?,ksz3]) ?_;refine wpIn_ret ?_
    simp only[Exit.inBlock,Exit.then]
    refine bodyPost_ret (results_none (fn:=Tryd.f61) rfl _ _ _) kd3 ?_
    exact⟨⟨_,rfl⟩,.inr ⟨_,hJx⟩⟩
  ·have d1:decide (((j+1:Nat):Int)<256)=false:=dF (by omega)
   iterate 2 refine wpIn_seq ?_
   refine dc (fun env h n=>Le [] ⟨env,h,n,24,64⟩ ⟨(8,.bool false)::pEnv lp (j+1) (aX k info j),aG (rdP k info),72,24,64⟩) (l1:=[_,_]) (l2:=[]) rfl hro hsp ?g1 ?_
   case g1 =>
    iterate 2 refine aP rfl (aE aa (fun K hk=>hk)) ?_
    refine cl ?_
    exact lg ⟨⟨_,rfl,AVLe.of_eq (by rw[d1]; rfl)⟩,rfl,zE,rfl,zE,rfl,zE,rfl,zE,rfl,zE,rfl,trivial⟩ ⟨zR,zR,trivial⟩
   rintro _ _ _ σ1 W1 a1 hle1 hs1 st1
   replace hs1:=hs1.le hle1
   generalize σ1.via (rho [])=σ1 at hs1
   show Code.wpIn _ _ _ _ _ _ _
   obtain⟨q,hq1,hq2⟩:=hs1.env 8 (.bool false) rfl
   obtain⟨rfl,_⟩:=RelV.sc.1 hq2
   refine wpIn_cond_false (by simp[Act.eval,Array.getD_eq_getD_getElem?,hq1]) ?_
   obtain⟨q4,h4,h4'⟩:=hs1.env 4 (.d (encB (aX k info j))) rfl
   have hJ1:J pre (false,aX k info j) q4 W1:=by
    refine hback W1 σ1 _ q4 (hs1.spread (env':=[(0,.d (dP (false,aX k info j)))]) (sz':=1) (a':=⟨#[q4],[]⟩) (fun j v hv=>?_) rfl trivial)
    simp only[aC]at hv
    split at hv
    ·rename_i q
     subst q
     cases hv
     exact⟨⟨_,rfl,h4'⟩,trivial⟩
    ·simp[lk]at hv
   refine wpIn_exit ?_
   simp only[Exit.inBlock,Exit.then]
   rw[if_pos trivial]
   refine bodyPost_end (results_none (fn:=Tryd.f61) rfl _ _ _) (by rw[st1.1]; exact kd) ?_
   exact⟨⟨_,rfl⟩,.inl ⟨pre,_,_,by omega,hJ1⟩⟩
end Go.Proofs.YtmapiehigkfddaaDoor
namespace Go.Plain
def upL {α:Type} (new old:List α) (j:Nat):List α:=new.take j++old.drop j
theorem sD {α:Type} (new old:List α):upL new old 0=old:=by simp[upL]
theorem pX {α:Type} {new old:List α} {n:Nat} (h1:new.length=n) (h2:old.length=n):upL new old n=new:=by
 rw[upL,List.take_of_length_le (by omega),List.drop_eq_nil_of_le (by omega),List.append_nil]
theorem pV {α:Type} {new old:List α} {j:Nat} (hl:new.length=old.length) (hj:j≤old.length):(upL new old j).length=old.length:=by
 rw[upL,List.length_append,List.length_take,List.length_drop]; omega
theorem pW {α:Type} {new old:List α} {j:Nat} {b:α} (h:old[j]?=some b) (hl:new.length=old.length):(upL new old j)[j]?=some b:=by
 have hj:=(List.getElem?_eq_some_iff.1 h).1
 have h1:(new.take j).length=j:=by rw[List.length_take]; omega
 rw[upL,List.getElem?_append_right (by omega),h1,Nat.sub_self,List.getElem?_drop,Nat.add_zero]; exact h
theorem pU {α:Type} {new old:List α} {i j:Nat} {b:α} (h:new[i]?=some b) (hi:i<j):(upL new old j)[i]?=some b:=by
 have hil:=(List.getElem?_eq_some_iff.1 h).1
 rw[upL,List.getElem?_append_left (by rw[List.length_take]; omega),List.getElem?_take,if_pos hi]; exact h
theorem mL {α:Type} {new old:List α} {j:Nat} {b:α} (h:new[j]?=some b) (hl:new.length=old.length):(upL new old j).set j b=upL new old (j+1):=by
 have hj:=(List.getElem?_eq_some_iff.1 h).1
 have h1:(new.take j).length=j:=by rw[List.length_take]; omega
 rw[upL,upL,List.set_append_right _ _ (by omega),h1,Nat.sub_self,List.drop_eq_getElem_cons (show j<old.length by omega),List.set_cons_zero,List.take_add_one,h]
 simp
def wdG (b w:List UInt8):Nat→List UInt8
 | 0=>w
 | j+1=>(wdG b w j).set (j % 4) (((wdG b w j)[j % 4]?.getD 0) ^^^ (b[j]?.getD 0))
theorem mF (b w:List UInt8):∀j,(wdG b w j).length=w.length
 | 0=>rfl
 | j+1=>by rw[wdG,List.length_set,mF b w j]
def kxB (b w:List UInt8) (j:Nat):UInt8:=(wdG b w (j+1))[j % 4]?.getD 0
def kxS (b w:List UInt8):List UInt8:=(List.range 16).map (kxB b w)
theorem mZ (b w:List UInt8):(kxS b w).length=16:=by simp[kxS]
theorem qM {b w:List UInt8} {j:Nat} (h:j<16):(kxS b w)[j]?=some (kxB b w j):=by simp[kxS,h]
def kW (b:List UInt8) (i:Nat):List UInt8:=[sub8 (b[13]?.getD 0) ^^^ powB 2 i,sub8 (b[14]?.getD 0),sub8 (b[15]?.getD 0),sub8 (b[12]?.getD 0)]
def kx (key:List UInt8):Nat→List UInt8
 | 0=>key
 | i+1=>kxS (kx key i) (kW (kx key i) i)
def kxF (key:List UInt8):List (List UInt8):=(List.range 11).map (kx key)
theorem gF (key:List UInt8):(kxF key).length=11:=by simp[kxF]
theorem m4 {key:List UInt8} {i:Nat} (h:i<11):(kxF key)[i]?=some (kx key i):=by simp[kxF,h]
theorem pf {key:List UInt8} (h:key.length=16):∀i,(kx key i).length=16
 | 0=>h
 | i+1=>mZ _ _
theorem m5 {key:List UInt8} (h:key.length=16):∀k∈kxF key,k.length=16:=by
 intro k hk
 obtain⟨i,_,rfl⟩:=List.mem_map.1 hk
 exact pf h i
def kZ:List (List UInt8):=List.replicate 11 (List.replicate 16 0)
end Go.Plain
namespace Go.Proofs.YtmapiehigkfddaaDoor
open Go.Eng Go.Plain
set_option maxHeartbeats 32000000
set_option maxRecDepth 20000
attribute [local irreducible] WC RegS RegD SeqQ BlkQ ScoQ RegK CutK Sat SatN FnIs LoopQ ab OpIs
theorem lb (ks:List (List UInt8)) (i:Nat) (b:List UInt8):encK (ks.set i b)=.vec 11 16 (fun l:List Int=>.vec 16 1 aF l) ((ks.map byI).set i (byI b)):=by show D.vec _ _ _ ((ks.set i b).map byI)=_; rw[List.map_set]
theorem ot {env:Env} {h:Upds} {n r i j:Nat} {x y:Operand} {ks:List (List UInt8)} {k:List UInt8} {z b:UInt8} (hx:ae env x=some (.ptr r [.idx i 16,.idx j 1])) (hy:ae env y=some (.int .u8 b.toNat)) (hr:aK h r=some (.box 39 (.d (encK ks)))) (hk:ks[i]?=some k) (hz:k[j]?=some z):ab Tryd.prog (.store 5 x y) env h n none [(r,some (.box 39 (.d (encK (ks.set i (k.set j b))))))]:=by
 rw[lb,←gH]
 exact aQ aa hx hy hr ⟨_,⟨_,⟨rfl,byI k,(byI k).set j b.toNat,by rw[List.getElem?_map,hk]; rfl,⟨rfl,_,_,bA hz,⟨rfl,rfl,rfl⟩,rfl⟩,rfl⟩,rfl⟩,rfl⟩ rfl
theorem p7 {env:Env} {h:Upds} {n r i:Nat} {x y:Operand} {ks:List (List UInt8)} {k b:List UInt8} (hx:ae env x=some (.ptr r [.idx i 16])) (hy:ae env y=some (.d (encV 16 b))) (hr:aK h r=some (.box 39 (.d (encK ks)))) (hk:ks[i]?=some k):ab Tryd.prog (.store 37 x y) env h n none [(r,some (.box 39 (.d (encK (ks.set i b)))))]:=by
 rw[lb]
 exact aQ aa hx hy hr ⟨_,⟨_,⟨rfl,byI k,byI b,by rw[List.getElem?_map,hk]; rfl,⟨rfl,rfl,rfl⟩,rfl⟩,rfl⟩,rfl⟩ rfl
theorem ou {env:Env} {h:Upds} {n r:Nat} {x y:Operand} {b:List UInt8} (hx:ae env x=some (.ptr r [.idx 0 16])) (hy:ae env y=some (.d (encV 16 b))) (hr:aK h r=some (.box 39 (.d r39.zero))):ab Tryd.prog (.store 37 x y) env h n none [(r,some (.box 39 (.d (encK (kZ.set 0 b)))))]:=
 p7 (ks:=kZ) hx hy hr (i:=0) rfl
theorem tT (key:List UInt8):(kxF key)[0]?=some key:=rfl
theorem kFZ {key:List UInt8}:(kxF key).length=kZ.length:=by rw[gF]; rfl
theorem ma:kZ.length=11:=rfl
theorem sC (a b c d:UInt8):DLe (.cons (u8s a.toNat) (.cons (u8s b.toNat) (.cons (u8s c.toNat) (.cons (u8s d.toNat) .nil)))) (encV 4 [a,b,c,d]):=DLe.chain_vec (enc:=aF) (fun _ _ _ _ h=>by rw[h.1]; rfl) (byI [a,b,c,d]) _ rfl
theorem se {i:Nat} (h:i<11):kZ[i]?=some (List.replicate 16 0):=by unfold kZ; rw[List.getElem?_replicate,if_pos h]
theorem sA (b w:List UInt8):wdG b w 0=w:=rfl
theorem rF (b w:List UInt8) (j:Nat):wdG b w (j+1)=(wdG b w j).set (j % 4) (((wdG b w j)[j % 4]?.getD 0) ^^^ (b[j]?.getD 0)):=rfl
theorem List.set_same {α:Type} {l:List α} {i:Nat} {a:α} (h:l[i]?=some a):l.set i a=l:=by
 obtain⟨h1,rfl⟩:=List.getElem?_eq_some_iff.1 h
 exact List.set_getElem_self h1
theorem tS (key:List UInt8) (i:Nat):kx key (i+1)=kxS (kx key i) (kW (kx key i) i):=rfl
attribute [local irreducible] byI kxF kZ kx sub8 powB wdG
theorem mw (key:List UInt8) (hk:key.length=16):FnIs Tryd.prog 77 [.d (encV 16 key)] [] (.d (encK (kxF key))) []:=by
 have hk0:upL (kxF key) kZ (0+1)=kZ.set 0 key:=by rw[←mL (j:=0) (b:=key) (tT key) kFZ,sD]
 refine aw aa Tryd.func77 rfl rfl rfl ?_;refine sR ?_;iterate 2 refine rN ?_
 refine nR<|rQ iM ?_;refine rQ (aE aa (fun K hk=>⟨by omega,by omega,hk⟩)) ?_;refine bB (ou rfl rfl rfl)<|zW ?_;refine rC<|zP ?_
 refine wc_inv (fun i:Nat=>⟨[(3,.int .i64 ((i+1:Nat):Int)),(2,.ptr 65 [])],[(65,some (.box 39 (.d (encK (upL (kxF key) kZ (i+1))))))],72,Tryd.f77.ntmps,64⟩) (fun i=>i≤10) (fun i=>10-i) 0 [(65,some _)] (Nat.zero_le _)
  (lg zk ⟨⟨rfl,rfl,_,rfl,aL.of_eq (by rw[hk0]; rfl)⟩,trivial⟩) ?_
 intro i hi
 refine bk ?_
 by_cases hlt:i<10
 ·have d1:decide (((i+1:Nat):Int)≤10)=true:=dT (by omega)
  have w12:IntKind.i64.wrap (((i+1:Nat):Int)+1)=((i+1+1:Nat):Int):=by rw[aJ (by omega) (by omega)]; push_cast; rfl
  have w14:IntKind.i64.wrap (((i+1:Nat):Int)-1)=(i:Int):=by rw[aJ (by omega) (by omega)]; omega
  have hlow:=pU (old:=kZ) (j:=i+1) (m4 (key:=key) (show i<11 by omega)) (by omega)
  have hb':(upL (kxF key) kZ (i+1))[((i:Int)).toNat]?=some (kx key i):=by rw[Int.toNat_natCast]; exact hlow
  have hbl:=pf hk i
  have hkx:kx key (i+1)=kxS (kx key i) (kW (kx key i) i):=tS key i
  generalize hbb:kx key i=b at *
  obtain⟨b12,h12⟩:∃z,b[12]?=some z:=⟨_,List.getElem?_eq_getElem (by omega)⟩
  obtain⟨b13,h13⟩:∃z,b[13]?=some z:=⟨_,List.getElem?_eq_getElem (by omega)⟩
  obtain⟨b14,h14⟩:∃z,b[14]?=some z:=⟨_,List.getElem?_eq_getElem (by omega)⟩
  obtain⟨b15,h15⟩:∃z,b[15]?=some z:=⟨_,List.getElem?_eq_getElem (by omega)⟩
  have g0:((byI b).drop 12)[((0:Int)).toNat]?=some (b12.toNat:Int):=by rw[List.getElem?_drop]; exact bA h12
  have g1:((byI b).drop 12)[((1:Int)).toNat]?=some (b13.toNat:Int):=by rw[List.getElem?_drop]; exact bA h13
  have g2:((byI b).drop 12)[((2:Int)).toNat]?=some (b14.toNat:Int):=by rw[List.getElem?_drop]; exact bA h14
  have g3:((byI b).drop 12)[((3:Int)).toNat]?=some (b15.toNat:Int):=by rw[List.getElem?_drop]; exact bA h15
  have hdl:((byI b).drop 12).length=4:=by rw[List.length_drop,aB,hbl]
  obtain⟨x0,hx0⟩:∃x,sub8 b13 ^^^ powB 2 i=x:=⟨_,rfl⟩
  have hw:kW b i=[x0,sub8 b14,sub8 b15,sub8 b12]:=by unfold kW; rw[h12,h13,h14,h15]; simp only[Option.getD_some]; rw[hx0]
  rw[hw]at hkx
  have hwl:[x0,sub8 b14,sub8 b15,sub8 b12].length=4:=rfl
  refine qR<|zD ?_;refine zI<|zQ<|zS ?_;refine rC ?_;refine rQ (bI (m:=(i:Int)) aa rfl rfl w14) ?_;refine rQ (aE aa (fun K hk=>⟨by omega,by omega,hk⟩)) ?_;refine rQ (jS rfl rfl hb') ?_;refine rN ?_;refine rW<|nR ?_;refine ct (env':=[(4,_),(3,_),(2,_)]) (h':=[(65,some _)]) 120 _ rfl ⟨⟨_,rfl,Frz.ptr⟩,zE,zE,trivial⟩ ⟨⟨rfl,_,rfl,.refl _⟩,trivial⟩ ?_;refine rQ (eS (m:=12) aa rfl rfl rfl rfl rfl rfl rfl rfl) ?_;refine rQ (j6 aa rfl rfl hdl rfl rfl) ?_;refine rQ iL ?_;refine rN ?_;refine rW<|nQ ?_;refine aR (by kernel_rfl) ?_;refine dQ [5] [] (aE aa (fun K hk=>⟨by omega,by omega,hk⟩)) ?_;refine dQ [21] [160] (bC aa rfl rfl ⟨_,⟨rfl,_,g1,rfl⟩,rfl⟩ rfl) ?_;refine dQ [22] [] (aq (fI b13) rfl rfl (am aj) (.inl rfl) (fun _=>rfl)) ?_;refine dC [3] [] ?_;refine dQ [24] [] (bI (m:=(i:Int)) aa rfl rfl w14) ?_;refine dQ [25] [] (aq (kH 2 i (by omega)) rfl rfl (am (am aj)) (.inl rfl) (fun _=>rfl)) ?_;refine dQ [23,26] [] (ce rfl rfl hx0) ?_;refine dQ [5] [] (aE aa (fun K hk=>⟨by omega,by omega,hk⟩)) ?_;refine dQ [28] [160] (bC aa rfl rfl ⟨_,⟨rfl,_,g2,rfl⟩,rfl⟩ rfl) ?_;refine dQ [29] [] (aq (fI b14) rfl rfl (am aj) (.inl rfl) (fun _=>rfl)) ?_;refine dQ [5] [] (aE aa (fun K hk=>⟨by omega,by omega,hk⟩)) ?_;refine dQ [31] [160] (bC aa rfl rfl ⟨_,⟨rfl,_,g3,rfl⟩,rfl⟩ rfl) ?_;refine dQ [32] [] (aq (fI b15) rfl rfl (am aj) (.inl rfl) (fun _=>rfl)) ?_;refine dQ [5] [] (aE aa (fun K hk=>⟨by omega,by omega,hk⟩)) ?_;refine dQ [34] [160] (bC aa rfl rfl ⟨_,⟨rfl,_,g0,rfl⟩,rfl⟩ rfl) ?_;refine dQ [35] [] (aq (fI b12) rfl rfl (am aj) (.inl rfl) (fun _=>rfl)) ?_;refine dQ [27,30,33,36] [] ((co aa rfl rfl rfl rfl rfl rfl rfl).val_le (sC x0 (sub8 b14) (sub8 b15) (sub8 b12)) rfl) ?_;refine fb [] [] rfl (aE aa (fun K hk=>hk)) ?_;refine bG [6,37] [312] (aQ aa rfl rfl rfl ⟨_,⟨rfl,rfl,rfl⟩,rfl⟩ rfl) ?_;refine aM (by kernel_rfl)<|bm<|sR ?_;refine rC<|zP ?_
  generalize [x0,sub8 b14,sub8 b15,sub8 b12]=w at hkx hwl ⊢
  have hz:(upL (kxF key) kZ (i+1))[i+1]?=some (List.replicate 16 0):=pW (se (by omega)) kFZ
  have hFi:(kxF key)[i+1]?=some (kxS b w):=by rw[←hkx]; exact m4 (by omega)
  have hset:=mL (j:=i+1) hFi (kFZ (key:=key))
  have hUl:(upL (kxF key) kZ (i+1)).length=11:=by rw[pV kFZ (by rw[ma]; omega),ma]
  generalize upL (kxF key) kZ (i+1)=U at *
  have hg:∀ {j:Nat},j<16→(kxS b w)[j]?=some (kxB b w j):=qM
  have hSl:=mZ b w
  have hB:∀j,kxB b w j=(wdG b w (j+1))[j % 4]?.getD 0:=fun _=>rfl
  generalize hS:kxS b w=S at *
  refine wc_inv (fun j:Nat=>⟨[(38,.int .i64 j),(6,.ptr 66 []),(4,.d (.pt (encV 16 b))),(3,.int .i64 ((i+1:Nat):Int)),(2,.ptr 65 [])],[(65,some (.box 39 (.d (encK (U.set (i+1) (upO S (List.replicate 16 0) j)))))),(66,some (.box 101 (.d (encV 4 (wdG b w j)))))],72,Tryd.f77.ntmps,64⟩) (fun j=>j≤16) (fun j=>16-j) 0 [(65,some _),(66,some _)] (Nat.zero_le _)
   (lg zh ⟨⟨rfl,rfl,_,rfl,aL.of_eq (by rw[iQ,List.set_same hz]; rfl)⟩,⟨rfl,rfl,_,rfl,aL.of_eq (by rw[sA]; rfl)⟩,trivial⟩) ?_
  intro j hj
  refine bk ?_
  by_cases hjl:j<16
  ·have d2:decide ((j:Int)<16)=true:=dT (by omega)
   obtain⟨q,hq⟩:∃q,j % 4=q:=⟨_,rfl⟩
   have hq4:q<4:=by omega
   have hwj:=mF b w j
   obtain⟨y,hy⟩:∃y,(wdG b w j)[q]?=some y:=⟨_,List.getElem?_eq_getElem (by omega)⟩
   obtain⟨z,hzb⟩:∃z,b[j]?=some z:=⟨_,List.getElem?_eq_getElem (by omega)⟩
   obtain⟨x,hx⟩:∃x,y ^^^ z=x:=⟨_,rfl⟩
   have hgo:=rF b w j
   rw[hq,hy,hzb]at hgo
   simp only[Option.getD_some]at hgo
   rw[hx]at hgo
   have hw0:(wdG b w j)[((q:Nat):Int).toNat]?=some y:=by rw[Int.toNat_natCast]; exact hy
   have hwn:((wdG b w j).set ((q:Nat):Int).toNat x)[((q:Nat):Int).toNat]?=some x:=by rw[Int.toNat_natCast,List.getElem?_set_self (by omega)]
   have hbx:kxB b w j=x:=by rw[hB,hq,hgo,List.getElem?_set_self (by omega)]; rfl
   have hbz:(byI b)[((j:Int)).toNat]?=some (z.toNat:Int):=by rw[Int.toNat_natCast]; exact bA hzb
   have hk':(U.set (i+1) (upO S (List.replicate 16 0) j))[(((i+1:Nat):Int)).toNat]?=some (upO S (List.replicate 16 0) j):=by rw[Int.toNat_natCast,List.getElem?_set_self (by omega)]
   have hj':(upO S (List.replicate 16 0) j)[((j:Int)).toNat]?=some 0:=by rw[Int.toNat_natCast]; exact eA (by rw[List.getElem?_replicate,if_pos hjl]) (by rw[hSl]; simp)
   have hst:=ez (old:=List.replicate 16 0) (hg hjl) (by rw[hSl]; simp)
   rw[hbx]at hst
   refine sR<|rC<|nQ ?_;refine wT<|zQ<|zS ?_;refine zD<|nQ ?_;refine aR (by kernel_rfl) ?_;refine dC [7] [] ?_;refine dQ [41] [] (kC (a:=j) (b:=4) rfl rfl (by decide) hq) ?_;refine dQ [6,42] [] (aE aa (fun K hk=>⟨by omega,by omega,hk⟩)) ?_;refine dQ [43] [66] (fa rfl rfl hw0) ?_;refine dC [7] [] ?_;refine dQ [4,45] [] (pn aa rfl rfl rfl rfl (by omega) (by omega) ⟨rfl,_,hbz,rfl⟩) ?_;refine dQ [46] [] iL ?_;refine dQ [44,47] [] (ce rfl rfl hx) ?_;refine dQ [6,42] [] (aE aa (fun K hk=>⟨by omega,by omega,hk⟩)) ?_;refine bG [49,48] [66] (p6 rfl rfl rfl hw0) ?_;refine aM (by kernel_rfl)<|bm ?_;refine aR (by kernel_rfl) ?_;refine dC [3] [] ?_;iterate 2 refine dC [7] [] ?_
   refine dQ [52] [] (kC (a:=j) (b:=4) rfl rfl (by decide) hq) ?_;refine dQ [6,53] [] (aE aa (fun K hk=>⟨by omega,by omega,hk⟩)) ?_;refine dQ [54] [66] (fa rfl rfl hwn) ?_;refine dQ [2,50] [] (aE aa (fun K hk=>⟨by omega,by omega,hk⟩)) ?_;refine dQ [56,51] [] (aE aa (fun K hk=>⟨by omega,by omega,hk⟩)) ?_;refine bG [57,55] [65] (ot rfl rfl rfl hk' hj') ?_;refine aM (by kernel_rfl)<|zC<|ao ?_;refine rQ iD ?_;refine rC<|aA ?_
   exact aT (j+1) [(65,some _),(66,some _)] (show j+1≤16 by omega) (by show 16-(j+1)<16-j; omega) (lg zh ⟨⟨rfl,rfl,_,rfl,aL.of_eq (by rw[Int.toNat_natCast,Int.toNat_natCast,List.set_set,hst]; rfl)⟩,⟨rfl,rfl,_,rfl,aL.of_eq (by rw[Int.toNat_natCast,hgo]; rfl)⟩,trivial⟩)
  ·have d2:decide ((j:Int)<16)=false:=dF (by omega)
   have he:j=16:=by omega
   subst he
   refine sR<|rC<|nQ ?_;refine wG<|bS<|da<|cw<|dD<|zC<|ao ?_;refine rC ?_;refine rQ (aY (m:=((i+1+1:Nat):Int)) aa rfl rfl w12) ?_;refine rC<|aA ?_
   exact aT (i+1) [(65,some _)] (show i+1≤10 by omega) (by show 10-(i+1)<10-i; omega) (lg zk ⟨⟨rfl,rfl,_,rfl,aL.of_eq (by rw[eB hSl (by simp),hset]; rfl)⟩,trivial⟩)
 ·have d1:decide (((i+1:Nat):Int)≤10)=false:=dF (by omega)
  have he:i=10:=by omega
  subst he
  rw[pX (gF key) ma]
  refine qR<|zD ?_;refine zJ<|zX<|sR ?_;refine rQ iM ?_;refine rW<|nS<|cY ?_
  exact⟨trivial,_,rfl,[],lf⟩
end Go.Proofs.YtmapiehigkfddaaDoor
namespace Go.Proofs.YtmapiehigkfddaaDoor
open Go.Eng Go.Plain
set_option maxHeartbeats 32000000
set_option maxRecDepth 20000
attribute [local irreducible] WC RegS RegD SeqQ BlkQ ScoQ RegK CutK Sat SatN FnIs LoopQ ab OpIs
def ctrB (s c x:Nat):List UInt8:=putN 4 s++putN 8 c++putN 4 x
theorem iv (s c x:Nat):(ctrB s c x).length=16:=by simp[ctrB,bM]
attribute [local irreducible] byI
theorem mn (s c x:Nat) (hs:s<4294967296) (hc:c<18446744073709551616) (hx:x<4294967296):FnIs Tryd.prog 78 [.d (bO ⟨s,c⟩),.int .u32 x] [] (.d (encV 16 (ctrB s c x))) []:=by
 have hj:=fu [putN 4 s,putN 8 c,putN 4 x] (by simp) (by simp[bM])
 have hfl:[putN 4 s,putN 8 c,putN 4 x].flatten=ctrB s c x:=by simp[ctrB]
 rw[hfl]at hj
 have hcl:(byI (ctrB s c x)).length=16:=by rw[aB,iv]
 refine aw aa Tryd.func78 rfl rfl rfl ?_;refine sR ?_;iterate 2 refine rN ?_
 refine nQ<|aR (by kernel_rfl) ?_;refine dQ [4] [72] (b6 aa rfl rfl rfl) ?_;refine dC [2] [] ?_;refine dQ [6] [64] iB ?_;refine dQ [7] [] (aq (dX s hs) rfl rfl (am aj) (.inl rfl) (fun _=>rfl)) ?_;refine dC [2] [] ?_;refine dQ [9] [64] iB ?_;refine dQ [10] [] (aq (gV c hc) rfl rfl (am aj) (.inl rfl) (fun _=>rfl)) ?_;refine dC [1] [] ?_;refine dQ [12] [] (aq (dX x hx) rfl rfl (am aj) (.inl rfl) (fun _=>rfl)) ?_;refine dQ [8,11,13] [] (ab.frozen (aH (s:=1) aa rfl rfl rfl rfl rfl rfl rfl rfl) (Frz.litsN (enc:=encB) [putN 4 s,putN 8 c,putN 4 x] rfl (fun _ _=>rfl))) ?_;refine dQ [14] [] (aq hj rfl rfl (am aj) (.inl rfl) (fun _=>rfl)) ?_;refine fb [5,15] [72] rfl (iw (enc:=aF) (ys:=byI (ctrB s c x)) aa rfl rfl rfl rfl rfl rfl rfl hcl rfl ⟨_,⟨rfl,rfl,rfl⟩,rfl⟩) ?_;refine aM (by kernel_rfl)<|bm<|sR ?_;refine rQ iM ?_;refine rW<|zT ?_
 exact⟨trivial,_,rfl,[],lf⟩
theorem iZ (a b:Nat) (ha:a≤1048576) (hb:b≤1048576-a):FnIs Tryd.prog 53 [.int .i64 a,.int .i64 b] [] (.int .i64 0) []:=by
 have d1:decide ((a:Int)<0)=false:=dF (by omega)
 have d2:decide ((b:Int)<0)=false:=dF (by omega)
 have d3:decide ((1048576:Int)<(a:Int))=false:=dF (by omega)
 have w1:IntKind.i64.wrap (1048576-(a:Int))=((1048576-a:Nat):Int):=by rw[aJ (by omega) (by omega)]; omega
 have d4:decide (((1048576-a:Nat):Int)<(b:Int))=false:=dF (by omega)
 refine aw aa Tryd.func53 rfl rfl rfl ?_;refine sR<|rC<|nQ<|zS ?_;refine zU ?_;refine rP ?_;refine rC ?_;refine rP ?_;refine rC ?_;refine rQ iG ?_;refine rC ?_;refine zJ<|sR ?_;refine zU ?_;refine rO ?_;refine rC ?_;refine rO ?_;refine rC ?_;refine rO ?_;refine rQ (bI (m:=((1048576-a:Nat):Int)) aa rfl rfl w1) ?_;refine rO ?_;refine rC ?_;refine rQ iF ?_;refine rC ?_;refine zG<|bR<|zC<|sR ?_;refine rC<|zT ?_
 exact⟨trivial,[],lf⟩
theorem pT (s c:Nat):FnIs Tryd.prog 24 [.d (bO ⟨s,c⟩),.int .i64 0,.int .i64 32] [] (.tup (.acons (.d (.cons (bO ⟨s,c⟩) (.cons (u32s 0) (.cons (u32s 1) .nil)))) (.acons (.d (i6 0)) .anil))) []:=by
 refine aw aa Tryd.func24 rfl rfl rfl ?_;refine sR ?_;iterate 2 refine rN ?_
 refine rC<|zW ?_;refine zD ?_;refine rQ (aq (iZ 0 32 (by decide) (by decide)) rfl rfl (am (am aj)) (.inl rfl) (fun _=>rfl)) ?_;refine rC<|nR ?_;refine zD ?_;refine zJ<|kS<|qR ?_;refine zD ?_;refine zJ<|kS<|sR ?_;refine rQ iM ?_;refine rC ?_;refine rQ (jL (m:=0) aa rfl rfl (by decide) (by decide)) ?_;refine rQ (bu aa rfl rfl rfl rfl) ?_;refine zD ?_;refine rQ iD ?_;refine rQ (bI aa rfl rfl (aJ (by omega) (by omega))) ?_;refine rQ (jL (m:=1) aa rfl rfl (by decide) (by decide)) ?_;refine rQ (bu aa rfl rfl rfl rfl) ?_;refine rQ iS ?_;refine rW ?_;refine rC<|zT ?_
 exact⟨trivial,_,rfl,[],lf⟩
theorem n3 (key:List UInt8) (s c x:Nat):FnIs Tryd.prog 72 [.d (encV 16 key),.d (bO ⟨s,c⟩),.int .u32 x] [] (.fn (.func 76) .anil (.acons (.ptr 64 []) (.acons (.ptr 65 []) (.acons (.ptr 66 []) .anil)))) [(64,.box 37 (.d (encV 16 key))),(65,.box 57 (.d (bO ⟨s,c⟩))),(66,.box 55 (.int .u32 x))]:=by
 refine aw aa Tryd.func72 rfl rfl rfl ?_;refine sR ?_;iterate 3 refine rN ?_
 refine rC<|nR ?_;refine zD<|zT ?_
 exact⟨trivial,[(64,some _),(65,some _),(66,some _)],lg zl ⟨zR,zR,zR,trivial⟩⟩
end Go.Proofs.YtmapiehigkfddaaDoor
namespace Go.Eng
open Go.RowKit
section
variable {P : Program} {T : Tab} {env : Env} {h : Upds} {n : Nat}
theorem iJ (hT:ak P T) {t e m:Nat} {re:TyR} {x i j:Operand} {α:Type} {s:Nat} {enc:α→D} {xs:List α} {k k':IntKind} (ht:aI T t=some (.slice e)) (he:lk T e=some re)
  (hx:ae env x=some (.d (.arr s enc xs))) (hi:ae env i=some (.int k m)) (hj:ae env j=some (.int k' m)) (hm:m≤xs.length):ab P (.slice t x none (some i) (some j)) env h n (some (.d (.arr s enc (xs.take m)))) []:=.of_comes fun C G st σ w a o ho hA hdst hst hn=>by
 obtain⟨ud,hud,hdd⟩:=aD hT ht
 cases hdd
 obtain⟨hx1,_⟩:=ai hst (hA.ev hx)
 obtain⟨hi1,_⟩:=RelV.sc.1 (ai hst (hA.ev hi)).1
 obtain⟨hj1,_⟩:=RelV.sc.1 (ai hst (hA.ev hj)).1
 have hsz:=(hT e re he).run_size (P:=P)
 have hlen:(xs.take m).length=m:=by rw[List.length_take]; omega
 rcases RelV.arr.1 hx1 with ⟨rfl,hv⟩ | ⟨ad,c,hv,hc1,hc2,f,hf⟩
 ·have hm0:m=0:=by simpa using hm
  subst hm0
  refine .quiet (u :=.slice none 0 0) hst hdst ⟨rfl,rfl⟩ ?_ (RelV.arr.2 (.inl ⟨rfl,rfl⟩)) trivial
  simp[execOp,ho,Instr.sliceAt,Instr.slice,hv,hi1,hj1,run_underlying hud,Instr.sliceBounds,Instr.sliceBound,asIntOf,hsz,Sem.run_bind,Sem.run_pure,Result.andThen_ok]
 ·refine .quiet (u :=.slice (some ad) m m) hst hdst ⟨rfl,rfl⟩ ?_ (RelV.arr.2 (.inr ⟨ad,m,by rw[hlen],by rw[hlen]; omega,by omega,f,fun j hj=>?_⟩)) trivial
  ·have hle:(m:Int)≤(c:Int):=by omega
   have hle2:m≤c:=by omega
   simp[execOp,ho,Instr.sliceAt,Instr.slice,hv,hi1,hj1,run_underlying hud,Instr.sliceBounds,Instr.sliceBound,asIntOf,hsz,Sem.run_bind,Sem.run_pure,Result.andThen_ok,hle2,Addr.add_zero']
  ·have hj2:j<xs.length:=by rw[hlen]at hj; omega
   obtain⟨g1,g2⟩:=hf j hj2
   rw[List.getElem_take]
   exact⟨g1,g2⟩
end
theorem oz {P:Program} {sz n:Nat} {c:Code} {Q:Exit→St→Prop} {env:Env} {h:Upds} (hw:WC P sz c Q env h n):Sat P c Q ⟨env,h,n,sz,64⟩:=hw
end Go.Eng
namespace Go.Eng
open Go.RowKit
theorem cP.trans {ds:List Nat} {a b c:Act} (h1:cP ds a b) (h2:cP ds b c):cP ds a c:=⟨h2.1.trans h1.1,h2.2.1.trans h1.2.1,fun i hi=>(h2.2.2 i hi).trans (h1.2.2 i hi)⟩
theorem lc {o:Oper} {d:Nat} (hd:o.dst=some d):∀(l:List Oper),o∈l→d∈dsts l
 | [],h=>by cases h
 | x::l,h=>by
  rcases List.mem_cons.1 h with rfl | h
  ·simp[dsts,hd]
  ·have:=lc hd l h
   unfold dsts
   split <;> simp[this]
theorem cP.one {o:Oper} {l:List Oper} {a:Act} {x:Value} (ho:o∈l):cP (dsts l) a (a.put o.dst x):=by
 refine⟨?_,?_,fun i hi=>?_⟩
 ·cases o.dst <;> rfl
 ·cases o.dst with
  | none=>rfl
  | some d=>exact Array.size_setIfInBounds
 ·exact jc (fun k hk e=>hi (by subst e; exact lc hk l ho))
section
variable {P : Program} {all l : List Oper} {sz n : Nat} {env : Env} {h : Upds} {acc : List aV} {K : Env → Upds → Nat → Prop}
theorem n5 {n:Nat} {ops:Array Oper} {env:Env} {h:Upds} {K:Env→Upds→Nat→Prop} {C:Ctx} {σ:au} {w:World} {a0:Act} {Q:Exit→Act→World→Prop} (hd:RegD P ops.toList sz ops.toList n env h [] K) (hst:an C (fun r=>r<n) ⟨env,h,n,sz,64⟩ σ w a0)
  (hQ:∀env' h' n' σ' w' a',K env' h' n'→an C (fun r=>r<n') ⟨env',h',n',sz,64⟩ σ' w' a'→cP (dsts ops.toList) a0 a'→Q .normal a' w'):wpAnyIn (fen C.ro) 0 P .any ops Q ops.size (Array.replicate ops.size false) a0 { w with drawn:=w.drawn+1 }:=by
 obtain⟨fs,hfs,hdr,hok⟩:=hd
 obtain⟨pr,hD⟩:=fV fs [] [] rfl (by simpa using hdr) ⟨fun j g hj=>by simp at hj,fun j g hj=>by simp at hj,fun i j f g hi=>by simp at hi⟩
 simp only[List.nil_append]at hD
 have hop:∀(i:Nat) (o:Oper),ops[i]?=some o→∃f:aV,fs[i]?=some f∧f.op=o:=fun i o hi=>by
  have h1:(fs.map (·.op))[i]?=some o:=by rw[hfs]; simpa using hi
  simpa using h1
 have hlen:fs.length=ops.size:=by have:=congrArg List.length hfs; simpa using this
 have hop':∀(i:Nat) (f:aV),fs[i]?=some f→ops[i]?=some f.op:=fun i f hi=>by
  have h1:(fs.map (·.op))[i]?=some f.op:=by simp[hi]
  rw[hfs]at h1; simpa using h1
 let S (listed:Array Bool):Nat→Bool:=fun i=>listed.getD i false
 let stOf (listed:Array Bool):St:=⟨accS (S listed) 0 (fs.map (·.envU)) env,accS (S listed) 0 (fs.map (·.u)) h,0,sz,64⟩
 have key:∀(fuel:Nat) (listed:Array Bool) (a:Act) (w:World) (σ:au) (G:Nat→Prop),listed.size=ops.size→(∀j g,fs[j]?=some g→S listed j=true→∀e∈g.op.after.toList,cR e=true→S listed e.on=true) →
   cP (dsts ops.toList) a0 a→an C G (stOf listed) σ w a→(∀r,G r→r<n∨∃i,S listed i=true∧n+8*i≤r∧r<n+8*i+8)→((List.range ops.size).filter fun i => !S listed i).length≤fuel →
   wpAnyIn (fen C.ro) 0 P .any ops Q fuel listed a w:=by
  have hdone:∀(listed:Array Bool) (a:Act) (w:World) (σ:au) (G:Nat→Prop),listed.size=ops.size→cP (dsts ops.toList) a0 a→an C G (stOf listed) σ w a→(∀r,G r→r<n∨∃i,S listed i=true∧n+8*i≤r∧r<n+8*i+8) →
    (∀i,i<ops.size→S listed i=true)→Q .normal a w:=by
   intro listed a w σ G hsz hsty hst hG hall
   refine hQ _ _ _ σ w a (bY.end fs 0 n env h hok) ?_ hsty
   have hcong:∀ {β:Type 1} (g:aV→List (Nat×β)) (e:List (Nat×β)) (t:Nat),lk (accS (fun _=>true) 0 (fs.map g) e) t=lk (accS (S listed) 0 (fs.map g) e) t:=fun g e t =>
    cd _ 0 _ _ rfl fun j u hj _=>by
     have hlt:=(List.getElem?_eq_some_iff.1 hj).1
     simp at hlt
     rw[Nat.zero_add,hall j (by omega)]
   have h2:=(hst.grow (G':=fun r=>r<n+8*fs.length) fun r hr=>by
    rcases hG r hr with h1 | ⟨i,h1,h2,h3⟩
    ·omega
    ·have:i<listed.size:=by
      rcases Nat.lt_or_ge i listed.size with h4 | h4
      ·exact h4
      ·simp[S,h4]at h1
     omega)
   exact h2.congr (fun t=>hcong _ env t) (fun t=>hcong _ h t) rfl rfl
  have hready:∀(listed:Array Bool),listed.size=ops.size→Region.ready .any ops listed=[] → ∀i,i<ops.size→S listed i=true:=by
   intro listed hsz hr i
   induction i using Nat.strongRecOn with
   | _ i ih =>
    intro hi
    cases hS:S listed i
    ·exfalso
     have:i∈Region.ready .any ops listed:=by
      refine mem_ready.2 ⟨?_,ops[i],by simp[hi],fun e he hb=>?_⟩
      ·simp only[S,Array.getD_eq_getD_getElem?]at hS ⊢
       have:i<listed.size:=by omega
       simp[this]at hS ⊢
       exact hS
      ·obtain⟨f,hf,hfo⟩:=hop i ops[i] (by simp[hi])
       have hlt:=hD.back i f hf e (by rw[hfo]; simpa using he) hb
       exact ih e.on hlt (by omega)
     rw[hr]at this
     simp at this
    ·rfl
  intro fuel
  induction fuel with
  | zero =>
   intro listed a w σ G hsz hcl hsty hst hG hcnt
   have hall:∀i,i<ops.size→S listed i=true:=fun i hi=>by
    have h0:((List.range ops.size).filter fun i => !S listed i)=[]:=List.eq_nil_of_length_eq_zero (by omega)
    have:=List.filter_eq_nil_iff.1 h0 i (List.mem_range.2 hi)
    simpa using this
   refine⟨?_,hdone listed a w σ G hsz hsty hst hG hall⟩
   refine List.eq_nil_iff_forall_not_mem.2 fun i hi=>?_
   obtain⟨h0,o,ho,_⟩:=mem_ready.1 hi
   have hlt:i<ops.size:=(Array.getElem?_eq_some_iff.1 ho).1
   have:=hall i hlt
   have hlt':i<listed.size:=by omega
   simp only[S,Array.getD_eq_getD_getElem?]at this h0
   simp[hlt']at this h0
   rw[this]at h0; cases h0
  | succ fuel ih =>
   intro listed a w σ G hsz hcl hsty hst hG hcnt
   refine⟨fun hr=>hdone listed a w σ G hsz hsty hst hG (hready listed hsz hr),fun i hi=>?_⟩
   obtain⟨h0,o,ho,hpre⟩:=mem_ready.1 hi
   have hlt:i<ops.size:=(Array.getElem?_eq_some_iff.1 ho).1
   have hSi:S listed i=false:=by
    have hlt':i<listed.size:=by omega
    simp only[S,Array.getD_eq_getD_getElem?]at h0 ⊢
    simp[hlt']at h0 ⊢
    exact h0
   obtain⟨f,hf,hfo⟩:=hop i o ho
   subst hfo
   obtain⟨hdst,hOp⟩:=bY.at fs 0 n env h hok i f hf
   have hclos:∀j g,fs[j]?=some g→S listed j=true→∀k,k∈pr j→S listed k=true:=by
    intro j
    induction j using Nat.strongRecOn with
    | _ j ihj =>
     intro g hg hSj k hk
     obtain⟨e,he,hb,hor⟩:=hD.pred j g hg k hk
     have h1:=hcl j g hg hSj e he hb
     rcases hor with rfl | hk'
     ·exact h1
     ·have hlt:=hD.back j g hg e he hb
      have hjl:=(List.getElem?_eq_some_iff.1 hg).1
      exact ihj e.on hlt _ (List.getElem?_eq_getElem (by omega)) h1 k hk'
   have hpri:∀k,k∈pr i→S listed k=true:=fun k hk=>by
    obtain⟨e,he,hb,hor⟩:=hD.pred i f hf k hk
    have h1:S listed e.on=true:=hpre e (by simpa using he) hb
    rcases hor with rfl | hk'
    ·exact h1
    ·have hlt:=hD.back i f hf e he hb
     exact hclos e.on _ (List.getElem?_eq_getElem (by omega)) h1 k hk'
   have hap:∀j g,fs[j]?=some g→S listed j≠Nat.blt j i→(j<i∧b3 g f=true)∨(i<j∧S listed j=true∧b3 f g=true):=by
    intro j g hg hne
    rcases Nat.lt_trichotomy j i with hji | rfl | hij
    ·refine .inl ⟨hji,?_⟩
     rcases hD.pair j i g f hg hf hji with h1 | h1
     ·exfalso
      have:=hpri j h1
      rw[this,show Nat.blt j i=true from Nat.ble_eq_true_of_le hji]at hne
      exact hne rfl
     ·exact h1
    ·exfalso
     apply hne
     rw[hSi]
     cases hb:Nat.blt j j
     ·rfl
     ·have:=Nat.le_of_ble_eq_true hb; omega
    ·refine .inr ⟨hij,?_⟩
     have hSj:S listed j=true:=by
      cases hs:S listed j
      ·exfalso
       apply hne
       rw[hs]
       cases hb:Nat.blt j i
       ·rfl
       ·have:=Nat.le_of_ble_eq_true hb; omega
      ·rfl
     refine⟨hSj,?_⟩
     rcases hD.pair i j f g hf hg hij with h1 | h1
     ·have:=hclos j g hg hSj i h1
      rw[hSi]at this; cases this
     ·exact h1
   have hget:∀ {β:Type 1} (q:aV→List (Nat×β)) j u,(fs.map q)[j]?=some u→∃g,fs[j]?=some g∧q g=u:=fun q j u hj=>by
    rw[List.getElem?_map]at hj
    cases hg:fs[j]? with
    | none=>rw[hg]at hj; cases hj
    | some g=>rw[hg]at hj; exact⟨g,by first | exact hg | rfl,by simpa using hj⟩
   have henv:∀t,t∈f.looks→lk (accS (fun j=>Nat.blt j (0+i)) 0 (fs.map (·.envU)) env) t=lk (accS (S listed) 0 (fs.map (·.envU)) env) t:=fun t ht =>
    cd _ 0 _ _ rfl fun j u hj hne=>by
     obtain⟨g,hg,rfl⟩:=hget _ j u hj
     simp only[Nat.zero_add]
     by_cases hs:S listed j=Nat.blt j i
     ·exact hs.symm
     ·exfalso
      have hmem:=eI hne
      rcases hap j g hg hs with ⟨_,h1⟩ | ⟨_,_,h1⟩
      ·exact bw (bt h1).1 t hmem ht
      ·exact bw (bt h1).2.1 t hmem ht
   have hrow:∀t,t∈f.rows→lk (accS (fun j=>Nat.blt j (0+i)) 0 (fs.map (·.u)) h) t=lk (accS (S listed) 0 (fs.map (·.u)) h) t:=fun t ht =>
    cd _ 0 _ _ rfl fun j u hj hne=>by
     obtain⟨g,hg,rfl⟩:=hget _ j u hj
     simp only[Nat.zero_add]
     by_cases hs:S listed j=Nat.blt j i
     ·exact hs.symm
     ·exfalso
      have hmem:=lk_keys' hne
      rcases hap j g hg hs with ⟨_,h1⟩ | ⟨_,_,h1⟩
      ·exact bw (bt h1).2.2.2.1 t hmem ht
      ·exact bw (bt h1).2.2.2.2.1 t hmem ht
   have hagree:cQ (only f.looks (accS (fun j=>Nat.blt j (0+i)) 0 (fs.map (·.envU)) env)) (only f.rows (accS (fun j=>Nat.blt j (0+i)) 0 (fs.map (·.u)) h)) (stOf listed):=by
    refine⟨fun t v ht=>?_,fun r row hr=>?_⟩
    ·obtain⟨h1,h2⟩:=eH _ t v ht
     rw[henv t h1]at h2
     exact h2
    ·simp only[aK]at hr
     split at hr <;> try (cases hr; done)
     rename_i row' hl
     simp only[Option.some.injEq]at hr
     subst hr
     obtain⟨h1,h2⟩:=eH _ r _ hl
     rw[hrow r h1]at h2
     simp only[St.row,stOf,h2]
     rfl
   have hfresh:∀r,n+8*i≤r→r<n+8*i+8→¬G r:=fun r h1 h2 h3=>by
    rcases hG r h3 with h4 | ⟨k,h4,h5,h6⟩
    ·omega
    ·have:k=i:=by omega
     subst this
     rw[hSi]at h4; cases h4
   have hS':∀j,j≠i→S (listed.setIfInBounds i true) j=S listed j:=fun j hj=>getD_set_ne false (Ne.symm hj)
   have hSi':S (listed.setIfInBounds i true) i=true:=by
    have hlt':i<listed.size:=by omega
    simp only[S,Array.getD_eq_getD_getElem?]
    simp[hlt']
   have hmono:∀j,S listed j=true→S (listed.setIfInBounds i true) j=true:=fun j hj=>getD_set_true hj
   have hrest:=hOp C G (stOf listed) σ w a hagree (dz hdst) hst hfresh rfl (wpAnyIn (fen C.ro) 0 P .any ops Q fuel (listed.setIfInBounds i true)) Q (by
    intro x w' σ' G' hst' _ hG'
    refine ih (listed.setIfInBounds i true) (a.put f.op.dst x) w' σ' G' (by simpa using hsz) ?_ (hsty.trans (cP.one (by simpa using List.mem_of_getElem? (show ops.toList[i]?=some f.op by simpa using ho)))) ?_ ?_ ?_
    ·intro j g hg hSj e he hb
     by_cases hji:j=i
     ·subst hji
      rw[hf]at hg
      cases hg
      exact hmono _ (hpre e (by simpa using he) hb)
     ·rw[hS' j hji]at hSj
      exact hmono _ (hcl j g hg hSj e he hb)
    ·refine hst'.congr (fun t=>?_) (fun t=>?_) ?_ ?_
     ·have hput:lk ((stOf listed).put f.op.dst f.v f.u).env t=lk (f.envU++(stOf listed).env) t:=by
       unfold aV.envU
       cases f.op.dst <;> cases f.v <;> rfl
      rw[hput]
      refine gI (u:=f.envU) (i:=i) (by simp[hf]) hS' hSi' fun j u hj hij hSj hne=>?_
      obtain⟨g,hg,rfl⟩:=hget _ j u hj
      cases hn:lk g.envU t with
      | none=>rfl
      | some z =>
       exfalso
       rcases hap j g hg (by rw[hSj,j4 hij]; exact fun e=>by cases e)with ⟨h1,_⟩ | ⟨_,_,h1⟩
       ·omega
       ·exact bw (bt h1).2.2.1 t (eI hne) (eI (by rw[hn]; exact fun e=>by cases e))
     ·have hput:((stOf listed).put f.op.dst f.v f.u).heap=f.u++(stOf listed).heap:=by
       cases f.op.dst <;> cases f.v <;> rfl
      rw[hput]
      refine gI (u:=f.u) (i:=i) (by simp[hf]) hS' hSi' fun j u hj hij hSj hne=>?_
      obtain⟨g,hg,rfl⟩:=hget _ j u hj
      cases hn:lk g.u t with
      | none=>rfl
      | some z =>
       exfalso
       rcases hap j g hg (by rw[hSj,j4 hij]; exact fun e=>by cases e)with ⟨h1,_⟩ | ⟨_,_,h1⟩
       ·omega
       ·exact bw (bt h1).2.2.2.2.2 t (lk_keys' hne) (lk_keys' (by rw[hn]; exact fun e=>by cases e))
     ·cases f.op.dst <;> cases f.v <;> rfl
     ·cases f.op.dst <;> cases f.v <;> rfl
    ·intro r hr
     rcases hG' r hr with h1 | h1
     ·rcases hG r h1 with h2 | ⟨k,h2,h3⟩
      ·exact .inl h2
      ·exact .inr ⟨k,hmono k h2,h3⟩
     ·exact .inr ⟨i,hSi',h1.1,h1.2⟩
    ·have:=fQ (p:=fun i => !S listed i) (q:=fun j => !S (listed.setIfInBounds i true) j) (fun x hx=>by
      simp only[Bool.not_eq_true']at hx ⊢
      cases hs:S listed x
      ·rfl
      ·rw[hmono x hs]at hx; cases hx) (List.range ops.size) i (List.mem_range.2 hlt) (by simp[hSi]) (by simp[hSi'])
     omega)
   unfold wpOpIn
   rw[ho]
   have hall:ops.toList.toArray=ops:=by simp
   rw[hall]at hrest
   by_cases hw:Region.wanted f.op (yielded ops a.tmps)=true
   ·simp only[hw,if_true]at hrest ⊢
    exact hrest
   ·simp only[hw]at hrest ⊢
    exact⟨fun _ _=>trivial,hrest⟩
 have hrep:∀i,S (Array.replicate ops.size false) i=false:=fun i=>by
  simp only[S,Array.getD_eq_getD_getElem?]
  rcases Nat.lt_or_ge i ops.size with h1 | h1
  ·simp[h1]
  ·simp[h1]
 refine key ops.size _ a0 _ σ (fun r=>r<n) (by simp) ?_ ⟨rfl,rfl,fun _ _=>rfl⟩ ?_ ?_ ?_
 ·intro j g _ hSj
  rw[hrep]at hSj; cases hSj
 ·have h0:∀ {β:Type 1} (us:List (List (Nat×β))) (e:List (Nat×β)),accS (S (Array.replicate ops.size false)) 0 us e=e:=fun us e=>ep us 0 e fun j _=>hrep j
  have h1:=hst.drew
  exact h1.congr (fun t=>by simp only[stOf,h0]) (fun t=>by simp only[stOf,h0]) rfl rfl
 ·intro r hr; exact .inl hr
 ·have:=List.length_filter_le (fun i => !S (Array.replicate ops.size false) i) (List.range ops.size)
  simpa using this
end
section
variable {F : Fence} {n : Nat} {P : Program} {ops' : Array Oper} {o : Oper} {Q : Exit → Act → World → Prop} {R : Act → World → Prop}
theorem pO (hg:∀(j:Nat) (o':Oper),ops'[j]?=some o'→o'.guard=none)
  (hback:∀(j:Nat) (o':Oper),ops'[j]?=some o' → ∀e∈o'.after,Region.binds .any e=true→e.on<j) (hlb:∀e∈o.after,Region.binds .any e=true→e.on<ops'.size)
  (hlast:∀S:Nat→Bool,(∀(j:Nat) (o':Oper),ops'[j]?=some o'→S j=true→∀e∈o'.after,Region.binds .any e=true→S e.on=true)→(∀e∈o.after,Region.binds .any e=true→S e.on=true)→∀j,j<ops'.size→S j=true)
  (hQ:∀a w,R a w→wpOpIn F n P (ops'.push o) Q ops'.size (Q .normal) a w) :
  ∀(fuel:Nat) (l:Array Bool) (a:Act) (w:World),l.size=ops'.size→(∀(j:Nat) (o':Oper),ops'[j]?=some o'→l.getD j false=true→∀e∈o'.after,Region.binds .any e=true→l.getD e.on false=true) →
   wpAnyIn F n P .any ops' (j5 R Q) fuel l a w→wpAnyIn F n P .any (ops'.push o) Q (fuel+1) (l.push false) a w:=by
 have hpl:∀(l:Array Bool) (d:Bool) (i:Nat),l.size=ops'.size→i<ops'.size→(l.push false).getD i d=l.getD i d:=fun l d i hl hi=>by
  simp only[Array.getD_eq_getD_getElem?,Array.getElem?_push]
  rw[if_neg (by omega)]
 have hdd:∀(l:Array Bool) (i:Nat),l.size=ops'.size→i<ops'.size→l.getD i true=l.getD i false:=fun l i hl hi=>by
  simp only[Array.getD_eq_getD_getElem?,Array.getElem?_eq_getElem (show i<l.size by omega)]; rfl
 have hpm:∀(l:Array Bool),l.size=ops'.size→(l.push false).getD ops'.size true=false:=fun l hl=>by
  simp only[Array.getD_eq_getD_getElem?,←hl]; simp
 have hoth:∀i,i<ops'.size→(ops'.push o)[i]?=ops'[i]?:=fun i hi=>by rw[Array.getElem?_push,if_neg (by omega)]
 have hall:∀(l:Array Bool),l.size=ops'.size→Region.ready .any ops' l=[] → ∀j,j<ops'.size→l.getD j false=true:=by
  intro l hl hr j
  induction j using Nat.strongRecOn with
  | _ j ih =>
   intro hj
   cases hS:l.getD j false
   ·exfalso
    have:j∈Region.ready .any ops' l:=mem_ready.2 ⟨by rw[hdd l j hl hj]; exact hS,ops'[j],by simp[hj],fun e he hb=>ih e.on (hback j _ (by simp[hj]) e he hb) (Nat.lt_trans (hback j _ (by simp[hj]) e he hb) hj)⟩
    rw[hr]at this
    cases this
   ·rfl
 have hmr:∀(l:Array Bool),l.size=ops'.size→(∀j,j<ops'.size→l.getD j false=true)→ops'.size∈Region.ready .any (ops'.push o) (l.push false):=fun l hl ha=>by
  refine mem_ready.2 ⟨hpm l hl,o,by simp,fun e he hb=>?_⟩
  have:=hlb e he hb
  rw[hpl l false e.on hl this]
  exact ha _ this
 have hdone:∀(l:Array Bool),l.size=ops'.size→(∀j,j<ops'.size→l.getD j false=true)→Region.ready .any (ops'.push o) ((l.push false).setIfInBounds ops'.size true)=[]:=fun l hl ha=>by
  refine List.eq_nil_iff_forall_not_mem.2 fun i hi=>?_
  obtain⟨h0,o',ho',_⟩:=mem_ready.1 hi
  have hi2:=(Array.getElem?_eq_some_iff.1 ho').1
  rw[Array.size_push]at hi2
  rcases Nat.lt_or_ge i ops'.size with hlt | hge
  ·have h1:((l.push false).setIfInBounds ops'.size true).getD i true=l.getD i true:=by
    rw[←hpl l true i hl hlt]
    simp only[Array.getD_eq_getD_getElem?,Array.getElem?_setIfInBounds]
    rw[if_neg (by omega)]
   rw[h1,hdd l i hl hlt,ha i hlt]at h0
   cases h0
  ·have:i=ops'.size:=by omega
   subst this
   simp only[Array.getD_eq_getD_getElem?,Array.getElem?_setIfInBounds,←hl]at h0
   simp at h0
 have hfin:∀(fuel:Nat) (l:Array Bool) (a:Act) (w:World),l.size=ops'.size→(∀j,j<ops'.size→l.getD j false=true)→R a w→wpOpIn F n P (ops'.push o) Q ops'.size (wpAnyIn F n P .any (ops'.push o) Q fuel ((l.push false).setIfInBounds ops'.size true)) a w:=by
  intro fuel l a w hl ha hR
  refine wpOpIn_mono (fun a w hq=>?_) (hQ a w hR)
  have hd:=hdone l hl ha
  cases fuel with
  | zero=>exact⟨hd,hq⟩
  | succ fuel=>exact⟨fun _=>hq,fun i hi=>by rw[hd]at hi; cases hi⟩
 have hcase:∀(l:Array Bool) (i:Nat),l.size=ops'.size→i∈Region.ready .any (ops'.push o) (l.push false)→i<ops'.size∧i∈Region.ready .any ops' l∨i=ops'.size∧∀e∈o.after,Region.binds .any e=true→l.getD e.on false=true:=by
  intro l i hl hi
  obtain⟨h0,o',ho',hp⟩:=mem_ready.1 hi
  have hi2:=(Array.getElem?_eq_some_iff.1 ho').1
  rw[Array.size_push]at hi2
  rcases Nat.lt_or_ge i ops'.size with hlt | hge
  ·rw[hoth i hlt]at ho'
   refine .inl ⟨hlt,mem_ready.2 ⟨by rw[hpl l true i hl hlt]at h0; exact h0,o',ho',fun e he hb=>?_⟩⟩
   have h1:=hp e he hb
   rwa [hpl l false e.on hl (Nat.lt_trans (hback i o' ho' e he hb) hlt)]at h1
  ·have:i=ops'.size:=by omega
   subst this
   have:o'=o:=by simpa using ho'.symm
   subst this
   refine .inr ⟨rfl,fun e he hb=>?_⟩
   have h1:=hp e he hb
   rwa [hpl l false e.on hl (hlb e he hb)]at h1
 intro fuel
 induction fuel with
 | zero =>
  intro l a w hl hcl h
  have ha:=hall l hl h.1
  refine⟨fun hr=>?_,fun i hi=>?_⟩
  ·have:=hmr l hl ha
   rw[hr]at this
   cases this
  ·rcases hcase l i hl hi with ⟨_,h1⟩ | ⟨rfl,_⟩
   ·rw[h.1]at h1; cases h1
   ·exact hfin 0 l a w hl ha h.2
 | succ fuel ih =>
  intro l a w hl hcl h
  refine⟨fun hr=>?_,fun i hi=>?_⟩
  ·exfalso
   cases hr':Region.ready .any ops' l with
   | nil =>
    have:=hmr l hl (hall l hl hr')
    rw[hr]at this
    cases this
   | cons i rest =>
    have hi:i∈Region.ready .any ops' l:=by rw[hr']; simp
    obtain⟨h0,o',ho',hp⟩:=mem_ready.1 hi
    have hlt:=(Array.getElem?_eq_some_iff.1 ho').1
    have:i∈Region.ready .any (ops'.push o) (l.push false):=mem_ready.2 ⟨by rw[hpl l true i hl hlt]; exact h0,o',by rw[hoth i hlt]; exact ho',fun e he hb=>by
     rw[hpl l false e.on hl (Nat.lt_trans (hback i o' ho' e he hb) hlt)]; exact hp e he hb⟩
    rw[hr]at this
    cases this
  ·rcases hcase l i hl hi with ⟨hlt,h1⟩ | ⟨rfl,he⟩
   ·obtain⟨h0,o',ho',hp⟩:=mem_ready.1 h1
    have h2:=h.2 i h1
    unfold wpOpIn at h2 ⊢
    rw[hoth i hlt]
    simp only[ho']at h2 ⊢
    have hw:∀x,Region.wanted o' x=true:=fun x=>by simp[Region.wanted,hg i o' ho']
    rw[if_pos (hw _)]at h2 ⊢
    refine kI (K0:=R) (fun a w hk=>?_) h2
    have hset:(l.push false).setIfInBounds i true=(l.setIfInBounds i true).push false:=by
     refine Array.ext_getElem? fun k=>?_
     simp only[Array.getElem?_setIfInBounds,Array.getElem?_push,Array.size_setIfInBounds,Array.size_push]
     by_cases e:i=k
     ·subst e
      rw[if_pos rfl,if_pos (by omega),if_neg (by omega),if_pos rfl,if_pos (by omega)]
     ·rw[if_neg e]
      by_cases e2:k=l.size
      ·rw[if_pos e2,if_pos e2]
      ·rw[if_neg e2,if_neg e2,if_neg e]
    rw[hset]
    refine ih (l.setIfInBounds i true) a w (by simpa using hl) ?_ hk
    intro j oj hj hlj e he hb
    by_cases hji:j=i
    ·subst hji
     rw[ho']at hj
     cases hj
     exact getD_set_true (hp e he hb)
    ·rw[getD_set_ne false (Ne.symm hji)]at hlj
     exact getD_set_true (hcl j oj hj hlj e he hb)
   ·have ha:=hlast (fun j=>l.getD j false) hcl he
    have hr:Region.ready .any ops' l=[]:=by
     refine List.eq_nil_iff_forall_not_mem.2 fun i hi=>?_
     obtain⟨h0,o',ho',_⟩:=mem_ready.1 hi
     have hlt:=(Array.getElem?_eq_some_iff.1 ho').1
     rw[hdd l i hl hlt,ha i hlt]at h0
     cases h0
    exact hfin (fuel+1) l a w hl ha (h.1 hr)
end
theorem tO {P:Program} {sz n id:Nat} {env:Env} {h:Upds} {K:Env→Upds→Nat→Prop} {C:Ctx} {σ:au} {w:World} {a:Act} {Q:Exit→Act→World→Prop} {opa ops':Array Oper} {o:Oper} (hopa:opa=ops'.push o) (hm:P.follows .mixedOrders=true) (hro:C.ro=none) (hst:an C (fun r=>r<n) ⟨env,h,n,sz,64⟩ σ w a)
  (hg:∀(j:Nat) (o':Oper),ops'[j]?=some o'→o'.guard=none)
  (hback:∀(j:Nat) (o':Oper),ops'[j]?=some o' → ∀e∈o'.after,Region.binds .any e=true→e.on<j) (hlb:∀e∈o.after,Region.binds .any e=true→e.on<ops'.size)
  (hlast:∀S:Nat→Bool,(∀(j:Nat) (o':Oper),ops'[j]?=some o'→S j=true→∀e∈o'.after,Region.binds .any e=true→S e.on=true)→(∀e∈o.after,Region.binds .any e=true→S e.on=true)→∀j,j<ops'.size→S j=true)
  (hd:RegD P ops'.toList sz ops'.toList n env h [] K)
  (hY:∀env' h' n' σ' w' a',K env' h' n'→an C (fun r=>r<n') ⟨env',h',n',sz,64⟩ σ' w' a'→cP (dsts ops'.toList) a a'→wpOpIn Fence.wide 0 P opa Q ops'.size (Q .normal) a' w') :
  (Code.region id opa true).wpIn Fence.wide 0 P Q a w:=by
 subst hopa
 refine wpIn_region_any hm ?_
 have hf:fen C.ro=Fence.wide:=by rw[hro]; rfl
 have hs:(Array.replicate (ops'.push o).size false)=(Array.replicate ops'.size false).push false:=by
  rw[Array.size_push]; exact Array.replicate_succ
 rw[hs,Array.size_push]
 have h1:=n5 (Q:=j5 (fun a' w'=>wpOpIn Fence.wide 0 P (ops'.push o) Q ops'.size (Q .normal) a' w') Q) hd hst (fun env' h' n' σ' w' a' hk hs' hst'=>hY env' h' n' σ' w' a' hk hs' hst')
 rw[hf]at h1
 refine pO hg hback hlb hlast (fun a w hr=>hr) ops'.size _ a _ (by simp) ?_ h1
 intro j o' _ hj
 exfalso
 simp only[Array.getD_eq_getD_getElem?]at hj
 rcases Nat.lt_or_ge j ops'.size with h2 | h2
 ·simp[h2]at hj
 ·simp[h2]at hj
theorem nX {P:Program} {all:List Oper} {sz n:Nat} {env:Env} {h:Upds} {acc:List aV} {K:Env→Upds→Nat→Prop} (hd:lh acc.reverse 0 [] []=true) (hk:K env h n):RegD P all sz [] n env h acc K:=⟨[],rfl,by simpa using ei acc.reverse [] [] rfl hd,hk⟩
end Go.Eng
namespace Go.Proofs.YtmapiehigkfddaaDoor
open Go Go.Eng Go.Plain Go.RowKit
set_option maxHeartbeats 32000000
set_option maxRecDepth 20000
def blkN (key:List UInt8) (s c x:Nat):List UInt8:=encA (kxF key) (ctrB s c x)
theorem lv {key:List UInt8} (hk:key.length=16) (s c x:Nat):(blkN key s c x).length=16:=it (iv s c x) (gF key) (m5 hk) 10 (Nat.le_refl _)
abbrev rdB (key:List UInt8) (s c x:Nat):List (Nat×Row):=[(20,.box 37 (.d (encV 16 key))),(21,.box 57 (.d (bO ⟨s,c⟩))),(22,.box 55 (.int .u32 x))]
def dB (key:List UInt8):Bool×Nat→D
 | (false,_)=>bo true
 | (true,_)=>.pt (encK (kxF key))
abbrev pI (l:List UInt8):Value:=gL 16 (fun n:Int=>Value.int .u8 n) (.int .u8 0) (byI l)
abbrev bEnv (lp:Nat) (key:List UInt8):Env:=[(0,.fn (.yield lp) .anil .anil),(1,.ptr 20 []),(2,.ptr 21 []),(3,.ptr 22 []),(5,.d (.pt (encK (kxF key))))]
theorem six {α:Type} {x0 x1 x2 x3 x4 x5:α} {p:Nat→α→Prop} (h0:p 0 x0) (h1:p 1 x1) (h2:p 2 x2) (h3:p 3 x3) (h4:p 4 x4) (h5:p 5 x5):∀(j:Nat) (o:α), #[x0,x1,x2,x3,x4,x5][j]?=some o→p j o
 | 0,_,h=>by cases h; exact h0
 | 1,_,h=>by cases h; exact h1
 | 2,_,h=>by cases h; exact h2
 | 3,_,h=>by cases h; exact h3
 | 4,_,h=>by cases h; exact h4
 | 5,_,h=>by cases h; exact h5
 | _+6,_,h=>by simp at h
attribute [local irreducible] WC RegS RegD SeqQ BlkQ ScoQ RegK CutK Sat SatN FnIs LoopQ ab OpIs RegF byI kxF encA
theorem lq (key:List UInt8) (s c x0 N:Nat) (hk:key.length=16) (hs:s<4294967296) (hc:c<18446744073709551616) (hx:x0+N<4294967295) :
  kh Tryd.prog 76 [.ptr 20 [],.ptr 21 [],.ptr 22 []] (dB key) (fun g=>rdB key s c (x0+g.2)) (false,0) (.bool true) (fun x:Nat=>pI (blkN key s c (x0+x))) (fun pre x=>x=pre.length) (fun _=>False) N:=by
 refine⟨⟨Tryd.f76,Tryd.func76,rfl,rfl⟩,fun us lp J Jx w hE hY h0=>?_⟩
 obtain⟨v1,v2,v3,rfl⟩:∃v1 v2 v3,us=[v1,v2,v3]:=by
  obtain⟨_,C,σ,_,_,_,_,_,hst,_⟩:=hE [] _ _ w h0
  have hsz:=hst.sz
  have:us.length=3:=by simpa[inSt]using hsz
  match us,this with
  | [v1,v2,v3],_=>exact⟨v1,v2,v3,rfl⟩
 refine callsIn_wide.1 (callsIn_of_wp (n:=0) Tryd.func76 rfl trivial ?_ rfl)
 simp only[show Tryd.f76.ntmps=17 from rfl,List.size_toArray,List.length_cons,List.length_nil,Nat.reduceAdd,Nat.reduceSub,Array.replicate_succ,Array.replicate_zero,List.push_toArray,List.append_toArray,List.nil_append,List.cons_append]
 obtain⟨a0,ha0⟩:∃a0:Act,a0 = { tmps := #[.func (.yield lp) #[] #[],v1,v2,v3,undef,undef,undef,undef,undef,undef,undef,undef,undef,undef,undef,undef,undef],defers:=[] }:=⟨_,rfl⟩
 rw[←ha0]
 have k0:a0.tmps[0]?=some (.func (.yield lp) #[] #[]):=by rw[ha0]; rfl
 have k1:a0.tmps[1]?=some v1:=by rw[ha0]; rfl
 have k2:a0.tmps[2]?=some v2:=by rw[ha0]; rfl
 have k3:a0.tmps[3]?=some v3:=by rw[ha0]; rfl
 have ksz:a0.tmps.size=17:=by rw[ha0]; rfl
 have kd:a0.defers=[]:=by rw[ha0]
 clear ha0
 obtain⟨_,C,σ,_,_,_,_,hro,hst,hback⟩:=hE [] _ _ w h0
 have hsp:an C (fun r=>r<64) ⟨[(0,.fn (.yield lp) .anil .anil),(1,.ptr 20 []),(2,.ptr 21 []),(3,.ptr 22 [])],aG (rdB key s c (x0+0)),64,17,64⟩ σ w a0:=by
  refine hst.placed ?_ ksz kd
  exact⟨⟨_,k0,.inr ⟨fun _ _ _=>ef lp,fun _=>⟨trivial,trivial⟩⟩⟩,⟨_,k1,.inl ⟨0,rfl,rfl⟩⟩,⟨_,k2,.inl ⟨1,rfl,rfl⟩⟩,⟨_,k3,.inl ⟨2,rfl,rfl⟩⟩,trivial⟩
 refine wpIn_seq ?_;refine dc (fun env h n=>Le [] ⟨env,h,n,17,64⟩ ⟨bEnv lp key,aG (rdB key s c (x0+0)),72,17,64⟩) (l1:=[_,_,_,_]) (l2:=[]) rfl hro hsp ?g1 ?_
 case g1 =>
  refine aP rfl (cZ aa rfl rfl rfl rfl) ?_;refine aP rfl (aq (mw key hk) rfl rfl (am aj) (.inl rfl) (fun _=>rfl)) ?_;refine kE (aE aa (fun K hk=>hk)) rfl ?_;refine eY (fJ rfl rfl rfl rfl rfl rfl) ?_;refine gb (env':=[(0,_),(1,_),(2,_),(3,_),(5,.d (.pt (encK (kxF key))))]) (h':=[(20,some _),(21,some _),(22,some _)]) 80 _ rfl ⟨zE,zE,zE,zE,⟨_,rfl,Frz.ptr⟩,trivial⟩ ⟨⟨rfl,_,rfl,.refl _⟩,⟨rfl,_,rfl,.refl _⟩,⟨rfl,_,rfl,.refl _⟩,trivial⟩ ?_;refine cl ?_
  exact lg zh ⟨zR,zR,zR,trivial⟩
 rintro _ _ _ σ1 W1 a1 hle1 hs1 st1
 replace hs1:=hs1.le hle1
 generalize σ1.via (rho [])=σ1 at hs1
 show Code.wpIn _ _ _ _ _ _ _
 obtain⟨q5,h5,h5'⟩:=hs1.env 5 (.d (.pt (encK (kxF key)))) rfl
 have hJ1:J [] (true,0) q5 W1:=by
  refine hback W1 σ1 _ q5 (hs1.spread (env':=[(0,.d (dB key (true,0)))]) (sz':=1) (a':=⟨#[q5],[]⟩) (fun j v hv=>?_) rfl trivial)
  simp only[aC]at hv
  split at hv
  ·rename_i q
   subst q
   cases hv
   exact⟨⟨_,rfl,h5'⟩,trivial⟩
  ·simp[lk]at hv
 refine wpIn_block ?_
 refine pb (fun m a W=>∃(pre:List Nat) (v:Value),m+pre.length=N∧J pre (true,pre.length) v W∧a.defers=[]∧a.tmps.size=17 ∧
  a.tmps[0]?=some (.func (.yield lp) #[] #[])∧a.tmps[1]?=some v1∧a.tmps[2]?=some v2∧a.tmps[3]?=some v3∧a.tmps[5]?=some v) N ?start ?round
 case start =>
  have key1:∀j:Nat,j=0∨j=1∨j=2∨j=3→a1.tmps[j]?=a0.tmps[j]?:=fun j hj=>st1.2.2 j (by simp only[dsts,List.mem_cons,List.not_mem_nil,or_false,not_or]; omega)
  exact⟨[],q5,rfl,hJ1,by rw[st1.1]; exact kd,by rw[st1.2.1]; exact ksz,(key1 0 (by decide)).trans k0,(key1 1 (by decide)).trans k1,(key1 2 (by decide)).trans k2,(key1 3 (by decide)).trans k3,h5⟩
 case round =>
  clear hsp hst hback hs1 hJ1 st1 h5 h5' hle1 k0 k1 k2 k3 ksz kd hro
  rintro m a W ⟨pre,v,hm,hJ,kd,ksz,k0,k1,k2,k3,k5⟩
  obtain⟨hN,C,σ,_,_,_,_,hro,hst,hback⟩:=hE pre _ _ W hJ
  have hsp:an C (fun r=>r<64) ⟨bEnv lp key,aG (rdB key s c (x0+pre.length)),64,17,64⟩ σ W a:=by
   refine hst.placed ?_ ksz kd
   exact⟨⟨_,k0,.inr ⟨fun _ _ _=>ef lp,fun _=>⟨trivial,trivial⟩⟩⟩,⟨_,k1,.inl ⟨0,rfl,rfl⟩⟩,⟨_,k2,.inl ⟨1,rfl,rfl⟩⟩,⟨_,k3,.inl ⟨2,rfl,rfl⟩⟩,⟨_,k5,.inl ⟨3,rfl,rfl⟩⟩,trivial⟩
  have hcl:=iv s c (x0+pre.length)
  have hen:=mh (kxF key) (ctrB s c (x0+pre.length)) (gF key) (m5 hk) hcl
  iterate 2 refine wpIn_seq ?_
  refine tO (ops' := #[_,_,_,_,_,_]) (K:=fun env h n=>Le [] ⟨env,h,n,17,64⟩ ⟨(13,.d (encV 16 (blkN key s c (x0+pre.length))))::(8,.fn (.yield lp) .anil .anil)::bEnv lp key,aG (rdB key s c (x0+pre.length)),72,17,64⟩) rfl rfl hro hsp ?e1 ?e2 ?e3 ?e4 ?g2 ?_
  case e1=>exact six (p:=fun _ (o':Oper)=>o'.guard=none) rfl rfl rfl rfl rfl rfl
  case e2 =>
   refine six (p:=fun j (o':Oper)=>∀e∈o'.after,Region.binds .any e=true→e.on<j) ?_ ?_ ?_ ?_ ?_ ?_ <;> (intro e he _; simp at he)
   ·rcases he with rfl | rfl <;> decide
   ·rcases he with rfl | rfl | rfl <;> decide
  case e3 =>
   intro e he _
   simp at he
   rcases he with rfl | rfl | rfl <;> decide
  case e4 =>
   intro S h1 h2 j hj
   have s0:=h2 ⟨0,.data⟩ (by simp) rfl
   have s5:=h2 ⟨5,.data⟩ (by simp) rfl
   have s1:=h1 5 _ rfl s5 ⟨1,.data⟩ (by simp) rfl
   have s4:=h1 5 _ rfl s5 ⟨4,.data⟩ (by simp) rfl
   have s2:=h1 4 _ rfl s4 ⟨2,.data⟩ (by simp) rfl
   have s3:=h1 4 _ rfl s4 ⟨3,.data⟩ (by simp) rfl
   match j,hj with
   | 0,_=>exact s0
   | 1,_=>exact s1
   | 2,_=>exact s2
   | 3,_=>exact s3
   | 4,_=>exact s4
   | 5,_=>exact s5
   | j+6,hj=>exact absurd (show j+6<6 from hj) (by omega)
  case g2 =>
   refine dC [0] [] ?_;refine dQ [5] [] (jR aa rfl rfl) ?_;refine dQ [2] [21] iM ?_;refine dQ [3] [22] iM ?_;refine dQ [10,11] [] (aq (mn s c (x0+pre.length) hs hc (by omega)) rfl rfl (am (am aj)) (.inl rfl) (fun _=>rfl)) ?_;refine dQ [9,12] [] (aq hen rfl rfl (am (am aj)) (.inl rfl) (fun _=>rfl)) ?_;refine nX (by kernel_rfl) ?_
   exact lg zf ⟨zR,zR,zR,trivial⟩
  rintro _ _ _ σ3 W3 a3 hle3 hs3 st3
  replace hs3:=hs3.le hle3
  generalize σ3.via (rho [])=σ3 at hs3
  obtain⟨q5,h5,h5'⟩:=hs3.env 5 (.d (.pt (encK (kxF key)))) rfl
  have hJ3:J pre (true,pre.length) q5 W3:=by
   refine hback W3 σ3 _ q5 (hs3.spread (env':=[(0,.d (dB key (true,pre.length)))]) (sz':=1) (a':=⟨#[q5],[]⟩) (fun j v hv=>?_) rfl trivial)
   simp only[aC]at hv
   split at hv
   ·rename_i q
    subst q
    cases hv
    exact⟨⟨_,rfl,h5'⟩,trivial⟩
   ·simp[lk]at hv
  obtain⟨q13,h13,h13'⟩:=hs3.env 13 (.d (encV 16 (blkN key s c (x0+pre.length)))) rfl
  obtain rfl:=mI (.int .u8 0) h13'
  obtain⟨q8,h8,h8'⟩:=hs3.env 8 (.fn (.yield lp) .anil .anil) rfl
  obtain rfl:=fv h8'
  have kd3:a3.defers=[]:=by rw[st3.1,kd]
  have ksz3:a3.tmps.size=17:=by rw[st3.2.1,ksz]
  have key3:∀j:Nat,j=0∨j=1∨j=2∨j=3→a3.tmps[j]?=a.tmps[j]?:=fun j hj=>st3.2.2 j (by simp only[dsts,List.mem_cons,List.not_mem_nil,or_false,not_or]; omega)
  refine ki rfl h8 h13 (hY pre _ q5 pre.length W3 hJ3 rfl) ?_
  rintro e W4 (⟨rfl,hJ4⟩ | ⟨rfl,hJx⟩)
  ·refine⟨_,rfl,?_⟩
   show Code.wpIn _ _ _ _ _ _ _
   refine wpIn_cond_true (by simp[Act.eval,Act.put,Array.getD_eq_getD_getElem?,ksz3]) ?_;refine wpIn_skip ?_
   show Code.wpIn _ _ _ _ _ _ _
   refine wpIn_block ?_
   obtain⟨hN4,C4,σ4,_,_,_,_,hro4,hst4,hback4⟩:=hE _ _ _ W4 hJ4
   have hpl:(pre++[pre.length]).length=pre.length+1:=by simp
   rw[hpl]at hN4
   have hsp4:an C4 (fun r=>r<64) ⟨[(0,.fn (.yield lp) .anil .anil),(1,.ptr 20 []),(2,.ptr 21 []),(3,.ptr 22 []),(5,.d (.pt (encK (kxF key))))],aG (rdB key s c (x0+pre.length)),64,17,64⟩ σ4 W4 (a3.put (some 14) (.bool true)):=by
    refine hst4.placed ?_ (by rw[←ksz3]; exact Array.size_setIfInBounds) kd3
    refine⟨⟨_,(bL (by decide)).trans ((key3 0 (by decide)).trans k0),.inr ⟨fun _ _ _=>ef lp,fun _=>⟨trivial,trivial⟩⟩⟩,⟨_,(bL (by decide)).trans ((key3 1 (by decide)).trans k1),.inl ⟨0,rfl,rfl⟩⟩,⟨_,(bL (by decide)).trans ((key3 2 (by decide)).trans k2),.inl ⟨1,rfl,rfl⟩⟩,⟨_,(bL (by decide)).trans ((key3 3 (by decide)).trans k3),.inl ⟨2,rfl,rfl⟩⟩,⟨_,(bL (by decide)).trans h5,.inl ⟨3,rfl,rfl⟩⟩,trivial⟩
   refine dc (fun env h n=>Le [] ⟨env,h,n,17,64⟩ ⟨bEnv lp key,aG (rdB key s c (x0+(pre.length+1))),72,17,64⟩) (l1:=[_,_,_]) (l2:=[]) rfl hro4 hsp4 ?g6 ?_
   case g6 =>
    refine aP rfl (cZ aa rfl rfl rfl rfl) ?_;refine aP rfl (aY (m:=((x0+(pre.length+1):Nat):Int)) aa rfl rfl (by rw[show ((x0+pre.length:Nat):Int)+1=((x0+(pre.length+1):Nat):Int) by push_cast; omega]; exact cW rfl (by show _<4294967296; omega))) ?_;refine eY (fJ rfl rfl rfl rfl rfl rfl) ?_;refine cl ?_
    exact lg zh ⟨zR,zR,zR,trivial⟩
   rintro _ _ _ σ7 W7 a7 hle7 hs7 st7
   replace hs7:=hs7.le hle7
   generalize σ7.via (rho [])=σ7 at hs7
   obtain⟨r5,g5,g5'⟩:=hs7.env 5 (.d (.pt (encK (kxF key)))) rfl
   have hJ7:J (pre++[pre.length]) (true,pre.length+1) r5 W7:=by
    refine hback4 W7 σ7 _ r5 (hs7.spread (env':=[(0,.d (dB key (true,pre.length+1)))]) (sz':=1) (a':=⟨#[r5],[]⟩) (fun j v hv=>?_) rfl trivial)
    simp only[aC]at hv
    split at hv
    ·rename_i q
     subst q
     cases hv
     exact⟨⟨_,rfl,g5'⟩,trivial⟩
    ·simp[lk]at hv
   have key7:∀j:Nat,j=0∨j=1∨j=2∨j=3→a7.tmps[j]?=a.tmps[j]?:=fun j hj=>by
    rw[st7.2.2 j (by simp only[dsts,List.mem_cons,List.not_mem_nil,or_false,not_or]; omega),bL (by omega),key3 j (by omega)]
   refine⟨m-1,by omega,pre++[pre.length],r5,by rw[hpl]; omega,by rw[hpl]; exact hJ7,?_,?_,(key7 0 (by decide)).trans k0,(key7 1 (by decide)).trans k1,(key7 2 (by decide)).trans k2,(key7 3 (by decide)).trans k3,g5⟩
   ·rw[st7.1]; exact kd3
   ·rw[st7.2.1,←ksz3]; exact Array.size_setIfInBounds
  ·refine⟨_,rfl,?_⟩
   show Code.wpIn _ _ _ _ _ _ _
   refine wpIn_cond_false (by simp[Act.eval,Act.put,Array.getD_eq_getD_getElem?,ksz3]) ?_;refine wpIn_exit ?_
   simp only[Exit.inBlock,Exit.then]
   rw[if_pos trivial]
   refine bodyPost_end (results_none (fn:=Tryd.f76) rfl _ _ _) kd3 ?_
   exact⟨⟨_,rfl⟩,.inr ⟨_,hJx⟩⟩
end Go.Proofs.YtmapiehigkfddaaDoor
namespace Go.Eng
open Go.RowKit
theorem aL.box_d {t:TypeId} {x y:D} (h:DLe x y):aL (.box t (.d x)) (.box t (.d y)):=by
 rintro σ w X r ⟨_,b,cs,h1,h2,h3⟩
 exact⟨rfl,b,cs,h1,h2,h _ _ _ h3⟩
section
variable {P : Program} {T : Tab} {env : Env} {h : Upds} {n : Nat} {w : World}
end
end Go.Eng
namespace Go.Proofs.YtmapiehigkfddaaDoor
open Go.Eng Go.Plain
set_option maxHeartbeats 32000000
set_option maxRecDepth 20000
attribute [local irreducible] WC RegS RegD SeqQ BlkQ ScoQ RegK CutK Sat SatN FnIs LoopQ ab OpIs
theorem nj:byI []=[]:=rfl
attribute [local irreducible] byI aX macD
theorem oX (k info:List UInt8):FnIs Tryd.prog 31 [.d (encB k),.d (encB info)] [] (.fn (.func 61) .anil (.acons (.ptr 64 []) (.acons (.ptr 65 []) .anil))) [(64,.box 22 (.d (encB k))),(65,.box 22 (.d (encB info)))]:=by
 refine aw aa Tryd.func31 rfl rfl rfl ?_;refine sR ?_;iterate 2 refine rN ?_
 refine rC<|nR ?_;refine zD<|zT ?_
 exact⟨trivial,[(64,some _),(65,some _)],lg zl ⟨zR,zR,trivial⟩⟩
def expN (k info:List UInt8):Nat→List UInt8
 | 0=>[]
 | m+1=>expN k info m++aX k info (m+1)
def expD (k info:List UInt8) (n:Nat):List UInt8:=(expN k info ((n+31)/32)).take n
theorem eg (k info:List UInt8):∀m,(expN k info m).length=32*m
 | 0=>by simp[expN]
 | m+1=>by rw[expN,List.length_append,eg k info m,eF]; omega
theorem fx (k info:List UInt8) (n:Nat):(expD k info n).length=n:=by rw[expD,List.length_take,eg]; omega
theorem qS (k info:List UInt8) (m:Nat):expN k info (m+1)=expN k info m++aX k info (m+1):=rfl
abbrev xHI (k info:List UInt8) (n:Nat) (pre:List Nat):Upds:=[(64,some (.box 3 (.int .i64 n))),(65,some (.box 22 (.d (encB (expN k info pre.length))))),(67,some (.box 22 (.d (encB k)))),(68,some (.box 22 (.d (encB info))))]
abbrev xH0 (k info:List UInt8) (n:Nat) (pre:List Nat):List (Nat×Row):=[(24,.box 3 (.int .i64 n)),(25,.box 22 (.d (encB (expN k info pre.length))))]
theorem sh (k info:List UInt8):aL (.box 22 (.d (.sc (.slice none 0 0)))) (.box 22 (.d (encB (expN k info 0)))):=aL.box_d (by rw[show expN k info 0=[] from rfl]; show DLe _ (.arr 1 aF (byI [])); rw[nj]; exact DLe.nil_arr _ _)
attribute [local irreducible] expN
theorem fS (k info:List UInt8) (n:Nat) (hk:k.length≤1000000000) (hi:info.length≤100000000) (hn0:0<n) (hn:n≤8160):FnIs Tryd.prog 12 [.d (encB k),.d (encB info),.int .i64 n] [] (.tup (.acons (.d (encB (expD k info n))) (.acons (.d (i6 0)) .anil))) []:=by
 have d1:decide ((n:Int)<0)=false:=dF (by omega)
 have d2:decide ((8160:Int)<(n:Int))=false:=dF (by omega)
 have d3:((n:Int)==0)=false:=by simp; omega
 refine aw aa Tryd.func12 rfl rfl rfl ?_;refine sR<|rN ?_;refine zD<|nQ<|zS ?_;refine rQ iM ?_;refine zD ?_;refine zJ<|sR ?_;refine rQ iM ?_;refine zD ?_;refine zG<|sR ?_;refine rQ iM ?_;refine zD ?_;refine zG<|bR<|zC<|sR ?_;refine rN<|zW ?_;refine zD ?_;refine bx (dk [] (oX k info) rfl rfl rfl (am (am aj)) trivial rfl rfl (.inl rfl) rfl rfl) rfl<|zP ?_
 refine rj 72 [(64,some 64),(65,some 160),(67,some 184),(68,some 185)] (env':=[(21,.fn (.func 61) .anil (.acons (.ptr 67 []) (.acons (.ptr 68 []) .anil))),(5,.ptr 64 []),(8,.ptr 65 [])]) (h':=xHI k info n [])
  (lg zj ⟨zR,⟨rfl,rfl,_,rfl,sh k info⟩,zR,zR,trivial⟩) ?_
 refine iP (dO:=dP) (rO:=fun _=>rdP k info) (g0:=(false,[])) (v0 :=.slice none 0 0) (N:=255) (enc:=fun x:Nat=>oi (aX k info (x+1))) (encD:=fun x:Nat=>encV 32 (aX k info (x+1))) (fun x=>mK _ (by rw[aB,eF]) (fun _=>rfl)) (fun _ _ _=>RelV.arr.2 (.inl ⟨nj,rfl⟩)) [(20,some 67),(21,some 68)] [(24,some 64),(25,some 65)] [5,8] [.ptr 24 [],.ptr 25 []] (fun pre _=>xH0 k info n pre) (fun pre _=>xHI k info n pre) (fun pre=>32*pre.length<n)
  (lY k info hk hi) rfl rfl (fun _ _ _=>aO rfl rfl (aO rfl rfl (am aj))) (fun _ _ _=>⟨zH,zH,trivial⟩) (fun _=>rfl) (fun _=>rfl) (fun _=>rfl)
  (fun pre q q' _=>⟨[(64,some 64),(65,some 65),(67,some 67),(68,some 68)],lg zi ⟨zR,zR,zR,zR,trivial⟩⟩)
  (by simpa using hn0) rfl (fun pre h=>by have:32*pre.length<n:=h; omega) [.ptr 64 [],.ptr 65 []] rfl (fun _ _ _=>aO rfl rfl (aO rfl rfl aj)) (fun _ _ _=>⟨zH,zH,trivial⟩) (fun _ _ _=>rfl) (fun _ _ _=>rfl) rfl rfl rfl ?_ ?_
 ·rintro pre q x hinv ⟨rfl,hpl⟩
  have hlen:=eg k info pre.length
  have hpl2:=eF k info pre.length
  refine ao<|rN ?_;refine rW<|aA ?_
  refine⟨rfl,oz ?_⟩
  have hj:=fu [expN k info pre.length,aX k info (pre.length+1)] (by simp) (by simp; omega)
  have hfl:[expN k info pre.length,aX k info (pre.length+1)].flatten=expN k info (pre.length+1):=by rw[qS]; simp
  rw[hfl]at hj
  have hlen3:=eg k info (pre.length+1)
  have hlen2:(byI (expN k info (pre.length+1))).length=32*(pre.length+1):=by rw[aB,eg]
  have hpre1:(pre++[pre.length]).length=pre.length+1:=by simp
  refine bE (env':=[(9,.d (.pt (encV 32 (aX k info (pre.length+1))))),(5,.ptr 24 []),(8,.ptr 25 [])]) (h':=aG (xH0 k info n pre)) 64 _ rfl ⟨⟨_,rfl,Frz.ptr⟩,zE,zE,trivial⟩ ⟨⟨rfl,_,rfl,.refl _⟩,⟨rfl,_,rfl,.refl _⟩,trivial⟩ ?_
  by_cases hge:n≤32*(pre.length+1)
  ·have d4:decide ((n:Int)≤((byI (expN k info (pre.length+1))).length:Int))=true:=dT (by omega)
   have hex:expD k info n=(expN k info (pre.length+1)).take n:=by rw[expD,show (n+31)/32=pre.length+1 by omega]
   refine bn<|br<|aR (by kernel_rfl) ?_;refine dQ [8] [25] iM ?_;refine dQ [9] [] (bc aa rfl rfl rfl rfl rfl) ?_;refine dQ [23,24] [] (ab.frozen (aH (s:=1) aa rfl rfl rfl rfl rfl rfl rfl rfl) (Frz.litsN (enc:=encB) [expN k info pre.length,aX k info (pre.length+1)] rfl (fun _ _=>rfl))) ?_;refine dQ [25] [] (aq hj rfl rfl (am aj) (.inl rfl) (fun _=>rfl)) ?_;refine bG [8,26] [25] (aQ aa rfl rfl rfl ⟨_,⟨rfl,rfl,rfl⟩,rfl⟩ rfl) ?_;refine aM (by kernel_rfl)<|bm<|sR ?_;refine rQ iM ?_;refine rQ iE ?_;refine rQ iM ?_;refine rC ?_;refine zI<|bS ?_;refine jB rfl ?_
   refine⟨[(24,.box 3 (.int .i64 n)),(25,.box 22 (.d (encB (expN k info (pre.length+1)))))],[],lg trivial ⟨zR,zR,trivial⟩,?_⟩
   refine dD<|bm<|sR ?_;iterate 3 refine rQ iM ?_
   refine rQ (iJ (m:=n) aa rfl rfl rfl rfl rfl (by rw[hlen2]; exact hge)) ?_;refine zD<|zT ?_
   exact⟨trivial,[],lg ⟨⟨_,rfl,AVLe.of_eq (by rw[hex,cN]; rfl)⟩,rfl,trivial⟩ trivial⟩
  ·have d4:decide ((n:Int)≤((byI (expN k info (pre.length+1))).length:Int))=false:=dF (by omega)
   refine bn<|br<|aR (by kernel_rfl) ?_;refine dQ [8] [25] iM ?_;refine dQ [9] [] (bc aa rfl rfl rfl rfl rfl) ?_;refine dQ [23,24] [] (ab.frozen (aH (s:=1) aa rfl rfl rfl rfl rfl rfl rfl rfl) (Frz.litsN (enc:=encB) [expN k info pre.length,aX k info (pre.length+1)] rfl (fun _ _=>rfl))) ?_;refine dQ [25] [] (aq hj rfl rfl (am aj) (.inl rfl) (fun _=>rfl)) ?_;refine bG [8,26] [25] (aQ aa rfl rfl rfl ⟨_,⟨rfl,rfl,rfl⟩,rfl⟩ rfl) ?_;refine aM (by kernel_rfl)<|bm<|sR ?_;refine rQ iM ?_;refine rQ iE ?_;refine rQ iM ?_;refine rC ?_;refine zG<|bR<|iy ?_
   refine oI [(24,.box 3 (.int .i64 n)),(25,.box 22 (.d (encB (expN k info (pre.length+1)))))] [] [(64,some 64),(65,some 65),(67,some 67),(68,some 68)] (lg trivial ⟨zR,zR,trivial⟩) (by rw[hpre1]; omega)
    (lg zi ⟨zR,⟨rfl,rfl,_,rfl,aL.of_eq (by rw[hpre1]; rfl)⟩,zR,zR,trivial⟩)
 ·rintro pre q hinv hdn
  have:32*pre.length<n:=hinv
  have:pre.length=255:=hdn
  omega
end Go.Proofs.YtmapiehigkfddaaDoor
namespace Go.Proofs.YtmapiehigkfddaaDoor
open Go.Eng Go.Plain
set_option maxHeartbeats 32000000
set_option maxRecDepth 20000
attribute [local irreducible] WC RegS RegD SeqQ BlkQ ScoQ RegK CutK Sat SatN FnIs LoopQ ab OpIs
def strB (key:List UInt8) (s c:Nat) (b:List UInt8) (i:Nat):UInt8:=(b[i]?.getD 0) ^^^ ((blkN key s c (i/16))[i % 16]?.getD 0)
def strX (key:List UInt8) (s c:Nat) (b:List UInt8):List UInt8:=(List.range b.length).map (strB key s c b)
theorem cD (key:List UInt8) (s c:Nat) (b:List UInt8):(strX key s c b).length=b.length:=by simp[strX]
theorem gR {key:List UInt8} {s c:Nat} {b:List UInt8} {i:Nat} (h:i<b.length):(strX key s c b)[i]?=some (strB key s c b i):=by simp[strX,h]
attribute [local irreducible] byI blkN upO strX
abbrev sHI (key:List UInt8) (s c:Nat) (b X:List UInt8) (pre:List Nat) (q:Bool×Nat):Upds:=[(64,some (.box 37 (.d (encV 16 key)))),(65,some (.box 57 (.d (bO ⟨s,c⟩)))),(66,some (.box 55 (.int .u32 ((0+q.2:Nat):Int)))),(67,some (.box 22 (.d (.sc (.slice none 0 0))))),(68,some (.box 26 (.int .i64 0))),(69,some (.box 22 (.own 70 0 b.length 1 none))),(70,some (.ds 5 1 true aF (byI (upO X b (16*pre.length))))),(71,some (.box 3 (.int .i64 ((16*pre.length:Nat):Int)))),(72,some (.box 3 (.int .i64 0)))]
abbrev sH1 (b X:List UInt8) (i:Nat):List (Nat×Row):=[(27,.box 22 (.d (.sc (.slice none 0 0)))),(28,.box 26 (.int .i64 0)),(29,.box 22 (.own 30 0 b.length 1 none)),(30,.ds 5 1 true aF (byI (upO X b i))),(31,.box 3 (.int .i64 i)),(32,.box 3 (.int .i64 0))]
theorem om (key:List UInt8) (s c:Nat) (b:List UInt8) (hk:key.length=16) (hs:s<4294967296) (hc:c<18446744073709551616) (h0:0<b.length) (hL:b.length≤1048576) :
  FnIs Tryd.prog 63 [.d (encV 16 key),.d (bO ⟨s,c⟩),.int .i64 0,.d (encB b)] [] (.tup (.acons (.own 64 0 b.length 1 none) (.acons (.d (i6 0)) .anil))) [(64,.ds 5 1 true aF (byI (strX key s c b)))]:=by
 have hL':(byI b).length≤1048576-0:=by rw[aB]; exact hL
 have hlen:(byI b).length≤1048576:=hL'
 have d1:(((byI b).length:Int)==0)=false:=by rw[aB]; exact beq_false_of_ne (by omega)
 have hcp:(byI b).take (List.replicate (byI b).length (0:Int)).length++(List.replicate (byI b).length (0:Int)).drop (byI b).length=byI b:=by
  rw[List.length_replicate,List.take_length,List.drop_eq_nil_of_le (by rw[List.length_replicate]; exact Nat.le_refl _),List.append_nil]
 have hmin:min (byI b).length (List.replicate (byI b).length (0:Int)).length=(byI b).length:=by rw[List.length_replicate]; exact Nat.min_self _
 refine aw aa Tryd.func63 rfl rfl rfl ?_;refine sR ?_;iterate 4 refine rN ?_
 refine zW<|zD ?_;refine rQ iE ?_;refine rQ (aq (iZ 0 (byI b).length (by decide) hL') rfl rfl (am (am aj)) (.inl rfl) (fun _=>rfl)) ?_;refine rC<|nR ?_;refine zU ?_;refine rP ?_;refine rC ?_;refine rP ?_;refine rQ iE ?_;refine rP ?_;refine rC ?_;refine rQ iG ?_;refine zG<|kS<|sR ?_;refine rC ?_;refine rQ iE ?_;refine aS (b8 (enc:=aF) (s:=1) (N:=(byI b).length) aa 0 rfl rfl rfl rfl rfl rfl rfl hlen rfl) rfl ?_;refine rN ?_;refine rW<|nR ?_;refine rQ iM ?_;refine rC ?_;refine aS (li (r:=208) (xs:=List.replicate (byI b).length (0:Int)) (ys:=byI b) (enc:=aF) (zs:=byI b) (m:=(byI b).length) aa rfl rfl rfl rfl (by rw[List.length_replicate]; rfl) rfl rfl hcp hmin) rfl<|nR ?_;refine rC ?_;refine rQ (kC (a:=0) (b:=16) rfl rfl (by decide) rfl) ?_;iterate 2 refine rN ?_
 iterate 2 refine rW ?_
 refine zW ?_;iterate 2 refine rQ iM ?_
 refine rC ?_;refine rQ (jL (m:=0) aa rfl rfl (by decide) (by decide)) ?_;refine rQ (bu aa rfl rfl rfl rfl) ?_;refine cu rfl (dk [] (n3 key s c 0) rfl rfl rfl (am (am (am aj))) trivial rfl rfl (.inl rfl) rfl rfl) rfl rfl<|zP ?_
 have hbl:(byI b).length=b.length:=aB b
 obtain⟨X,hX⟩:∃X,strX key s c b=X:=⟨_,rfl⟩
 have hXl:X.length=b.length:=by rw[←hX]; exact cD key s c b
 have hXg:∀ {i:Nat},i<b.length→X[i]?=some (strB key s c b i):=fun h=>by rw[←hX]; exact gR h
 rw[hX]
 refine rj 80 [(64,some 344),(65,some 345),(66,some 346),(67,some 80),(68,some 88),(69,some 216),(70,some 208),(71,some 272),(72,some 280)] (env':=[(42,.fn (.func 76) .anil (.acons (.ptr 64 []) (.acons (.ptr 65 []) (.acons (.ptr 66 []) .anil)))),(8,.ptr 67 []),(9,.ptr 68 []),(11,.ptr 69 []),(12,.ptr 71 []),(13,.ptr 72 [])]) (h':=sHI key s c b X [] (false,0))
  (lg zg ⟨zR,zR,zR,zR,zR,⟨rfl,rfl,_,rfl,aL.of_eq (by rw[hbl]; rfl)⟩,⟨rfl,rfl,_,rfl,aL.of_eq (by rw[show 16*([]:List Nat).length=0 from rfl,iQ]; rfl)⟩,zR,zR,trivial⟩) ?_
 refine iP (dO:=dB key) (rO:=fun g=>rdB key s c (0+g.2)) (g0:=(false,0)) (v0 :=.bool true) (N:=65537) (enc:=fun x:Nat=>pI (blkN key s c (0+x))) (encD:=fun x:Nat=>encV 16 (blkN key s c (0+x))) (fun x=>mK _ (by rw[aB,lv hk]) (fun _=>rfl)) (fun _ _ _=>RelV.sc.2 ⟨rfl,rfl⟩) [(20,some 64),(21,some 65),(22,some 66)] [(27,some 67),(28,some 68),(29,some 69),(30,some 70),(31,some 71),(32,some 72)] [8,9,11,12,13] [.ptr 27 [],.ptr 28 [],.ptr 29 [],.ptr 31 [],.ptr 32 []] (fun pre _=>sH1 b X (16*pre.length)) (fun pre q=>sHI key s c b X pre q) (fun pre=>16*pre.length≤b.length)
  (lq key s c 0 65537 hk hs hc (by decide)) rfl rfl (fun _ _ _=>aO rfl rfl (aO rfl rfl (aO rfl rfl (am aj)))) (fun _ _ _=>⟨zH,zH,zH,trivial⟩) (fun _=>rfl) (fun _=>rfl) (fun _=>rfl)
  (fun pre q q' _=>⟨[(64,some 64),(65,some 65),(66,some 66),(67,some 67),(68,some 68),(69,some 69),(70,some 70),(71,some 71),(72,some 72)],lg zf ⟨zR,zR,zR,zR,zR,zR,zR,zR,zR,trivial⟩⟩)
  (Nat.zero_le _) rfl (fun pre h=>by have:16*pre.length≤b.length:=h; omega) [.ptr 67 [],.ptr 68 [],.ptr 69 [],.ptr 71 [],.ptr 72 []] rfl (fun _ _ _=>aO rfl rfl (aO rfl rfl (aO rfl rfl (aO rfl rfl (aO rfl rfl aj))))) (fun _ _ _=>⟨zH,zH,zH,zH,zH,zH,trivial⟩) (fun _ _ _=>rfl) (fun _ _ _=>rfl) rfl rfl rfl ?_ ?_
 ·rintro pre q x hinv hx
  obtain rfl:x=pre.length:=hx
  replace hinv:16*pre.length≤b.length:=hinv
  have hkl:=lv hk s c (0+pre.length)
  have hkb:∀j,j<16→16*pre.length+j<b.length→strB key s c b (16*pre.length+j)=(b[16*pre.length+j]?.getD 0) ^^^ ((blkN key s c (0+pre.length))[j]?.getD 0):=fun j hj hl=>by
   rw[strB,show (16*pre.length+j)/16=0+pre.length by omega,show (16*pre.length+j) % 16=j by omega]
  generalize blkN key s c (0+pre.length)=kb at *
  have hkbl:(byI kb).length=16:=by rw[aB,hkl]
  refine ao<|rN ?_;refine rW<|aA ?_
  refine⟨rfl,oz ?_⟩
  refine bE (env':=[(14,.d (.pt (encV 16 kb))),(8,.ptr 27 []),(9,.ptr 28 []),(11,.ptr 29 []),(12,.ptr 31 []),(13,.ptr 32 [])]) (h':=aG (sH1 b X (16*pre.length))) 64 _ rfl ⟨⟨_,rfl,Frz.ptr⟩,zE,zE,zE,zE,zE,trivial⟩ ⟨⟨rfl,_,rfl,.refl _⟩,⟨rfl,_,rfl,.refl _⟩,⟨rfl,_,rfl,.refl _⟩,⟨rfl,_,rfl,.refl _⟩,⟨rfl,_,rfl,.refl _⟩,⟨rfl,_,rfl,.refl _⟩,trivial⟩<|bn<|qR ?_;refine rQ iM ?_;refine rQ (eS (m:=0) aa rfl rfl rfl rfl rfl rfl rfl rfl) ?_;refine rQ iE ?_;refine rC<|nS<|bn ?_
  obtain⟨P0,hP0⟩:∃P0,16*pre.length=P0:=⟨_,rfl⟩
  rw[hP0]at hinv hkb ⊢
  refine wc_inv (fun j:Nat=>⟨[(47,.int .i64 j),(46,.int .i64 (byI kb).length),(45,.d (encB kb)),(8,.ptr 27 []),(9,.ptr 28 []),(11,.ptr 29 []),(12,.ptr 31 []),(13,.ptr 32 [])],aG (sH1 b X (P0+j)),72,Tryd.f63.ntmps,64⟩) (fun j=>j≤16∧P0+j≤b.length) (fun j=>16-j) 0 [] ⟨Nat.zero_le _,hinv⟩
   (lg ze ⟨zR,zR,zR,zR,zR,zR,trivial⟩) ?_
  rintro j ⟨hj,hjb⟩
  refine bk ?_
  by_cases hjl:j<16
  ·have d3:decide ((j:Int)<((byI kb).length:Int))=true:=dT (by rw[hkbl]; omega)
   obtain⟨y,hy⟩:∃y,kb[j]?=some y:=⟨_,List.getElem?_eq_getElem (by omega)⟩
   have hy':(byI kb)[((j:Int)).toNat]?=some (y.toNat:Int):=by rw[Int.toNat_natCast]; exact bA hy
   by_cases hend:P0+j=b.length
   ·have d4:(((P0+j:Nat):Int)==(b.length:Int))=true:=by rw[hend]; exact beq_self_eq_true _
    have hXe:upO X b (P0+j)=X:=by rw[hend]; exact eB hXl rfl
    refine sR<|rC<|nQ ?_;refine wT<|zQ<|zS ?_;refine rQ (bq aa rfl rfl rfl rfl rfl (by omega) hy') ?_;refine rQ iL ?_;refine rC<|zW ?_;iterate 2 refine rQ iM ?_
    refine rQ (eK aa rfl rfl) ?_;refine rC ?_;refine zI<|sR ?_;refine rQ iM ?_;iterate 2 refine rW ?_
    refine zT<|fk<|zB<|pa<|zB<|rq ?_
    refine⟨[(27,.box 22 (.own 30 0 b.length 1 none)),(28,.box 26 (.int .i64 0)),(29,.box 22 (.own 30 0 b.length 1 none)),(30,.ds 5 1 true aF (byI X)),(31,.box 3 (.int .i64 ((P0+j:Nat):Int))),(32,.box 3 (.int .i64 0))],[],lg trivial ⟨zR,zR,zR,⟨rfl,rfl,_,rfl,aL.of_eq (by rw[hXe]; rfl)⟩,zR,zR,trivial⟩,?_⟩
    refine rq (fk ?_)
    exact⟨trivial,_,rfl,_,rfl,[(64,some 70)],lg zl ⟨zR,trivial⟩⟩
   ·have d4:(((P0+j:Nat):Int)==(b.length:Int))=false:=beq_false_of_ne (by omega)
    have w64:IntKind.i64.wrap (((P0+j:Nat):Int)+1)=((P0+(j+1):Nat):Int):=by rw[aJ (by omega) (by omega)]; push_cast; omega
    obtain⟨x,hx⟩:∃x,b[P0+j]?=some x:=⟨_,List.getElem?_eq_getElem (by omega)⟩
    have hst:=ez (old:=b) (hXg (show P0+j<b.length by omega)) hXl
    rw[hkb j hjl (by omega),hx,hy]at hst
    simp only[Option.getD_some]at hst
    obtain⟨z,hxo⟩:∃z,x ^^^ y=z:=⟨_,rfl⟩
    rw[hxo]at hst
    have hx':(upO X b (P0+j))[(((P0+j:Nat):Int)).toNat]?=some x:=by rw[Int.toNat_natCast]; exact eA hx hXl
    refine sR<|rC<|nQ ?_;refine wT<|zQ<|zS ?_;refine rQ (bq aa rfl rfl rfl rfl rfl (by omega) hy') ?_;refine rQ iL ?_;refine rC<|zW ?_;iterate 2 refine rQ iM ?_
    refine rQ (eK aa rfl rfl) ?_;refine rC ?_;refine zG<|kS<|sR ?_;iterate 2 refine rQ iM ?_
    refine rQ (ca aa rfl rfl rfl rfl rfl (by omega) (by omega)) ?_;refine rQ (sd rfl rfl hx') ?_;refine rC ?_;refine rQ (ce rfl rfl hxo) ?_;refine rQ (ca aa rfl rfl rfl rfl rfl (by omega) (by omega)) ?_;refine bB (gy rfl rfl rfl hx')<|nS<|ao ?_;refine rQ iM ?_;refine rQ (aY (m:=((P0+(j+1):Nat):Int)) aa rfl rfl w64) ?_;refine rW<|aA<|zC<|ao ?_;refine rQ iD ?_;refine rC<|aA ?_
    exact aT (j+1) [] ⟨by omega,by omega⟩ (by show 16-(j+1)<16-j; omega) (lg ze ⟨zR,zR,zR,⟨rfl,rfl,_,rfl,aL.of_eq (by rw[Int.toNat_natCast,hst]; rfl)⟩,zR,zR,trivial⟩)
  ·have d3:decide ((j:Int)<((byI kb).length:Int))=false:=dF (by rw[hkbl]; omega)
   have he:j=16:=by omega
   subst he
   refine sR<|rC<|nQ ?_;refine wF<|zX<|ao ?_;refine rW<|aA<|iy ?_
   have hp1:16*(pre++[pre.length]).length=P0+16:=by simp; omega
   refine oI (sH1 b X (P0+16)) [] [(64,some 64),(65,some 65),(66,some 66),(67,some 67),(68,some 68),(69,some 69),(70,some 70),(71,some 71),(72,some 72)] (lg trivial ⟨zR,zR,zR,zR,zR,zR,trivial⟩) (by rw[hp1]; exact hjb)
    (lg zf ⟨zR,zR,zR,zR,zR,zR,⟨rfl,rfl,_,rfl,aL.of_eq (by rw[hp1]; rfl)⟩,⟨rfl,rfl,_,rfl,aL.of_eq (by rw[hp1]; rfl)⟩,zR,trivial⟩)
 ·rintro pre q hinv hdn
  exact hdn.elim
theorem p4 (key:List UInt8) (s c:Nat) (b:List UInt8) (hk:key.length=16) (hs:s<4294967296) (hc:c<18446744073709551616) (h0:0<b.length) (hL:b.length≤1048576) :
  FnIs Tryd.prog 63 [.d (encV 16 key),.d (bO ⟨s,c⟩),.int .i64 0,.d (encB b)] [] (.tup (.acons (.d (encB (strX key s c b))) (.acons (.d (i6 0)) .anil))) []:=
 (om key s c b hk hs hc h0 hL).freeze_out 64 _ rfl (Frz.tup (FrzT.cons (Frz.own (by rw[aB,cD])) (FrzT.cons (Frz.refl _) FrzT.nil))) trivial
end Go.Proofs.YtmapiehigkfddaaDoor
namespace Go.Eng
open Go.RowKit
section
variable {P : Program} {T : Tab} {C : Ctx} {G : Nat → Prop} {st : St} {σ : au} {w : World} {a : Act} {env : Env} {h : Upds} {n : Nat}
theorem an.dropObj (h:an C G st σ w a) {r b c:Nat} {old:Row} {o o':Obj} (hr:st.row r=some old) (hs:σ r=some (b,c)) (hh:w.heap[b]?=some o) (hnb:fN o=false) :
  an C G (st.upd [(r,none)]) σ { w with heap:=w.heap.setIfInBounds b o' } a:=by
 have hrow:∀r' row',(st.upd [(r,none)]).row r'=some row'→r≠r'∧st.row r'=some row':=fun r' row' h1=>by
  rw[St.row_one]at h1
  split at h1
  ·cases h1
  ·rename_i e
   exact⟨e,h1⟩
 have hX:∀x,(st.upd [(r,none)]).X C.X0 σ x→st.X C.X0 σ x:=by
  rintro x (hx0 | ⟨r',row',c',h1,h2⟩)
  ·exact .inl hx0
  ·exact .inr ⟨r',row',c',(hrow _ _ h1).2,h2⟩
 have hlt:b<w.heap.size:=(Array.getElem?_eq_some_iff.1 hh).1
 have hother:∀k,k≠b→({ w with heap:=w.heap.setIfInBounds b o' }:World).heap[k]?=w.heap[k]?:=by
  intro k hk
  simp[Ne.symm hk]
 have hk:∀(a:Addr) (u:Value),w.cell? a=some u→¬st.X C.X0 σ a.block→Kp w ({ w with heap:=w.heap.setIfInBounds b o' }:World) a u∧¬(st.upd [(r,none)]).X C.X0 σ a.block:=by
  intro a u h1 h2
  have hne:a.block≠b:=fun e=>h2 (.inr ⟨r,old,c,hr,by rw[e]; exact hs⟩)
  exact⟨.of_block (hother _ hne) h1,fun hx=>h2 (hX _ hx)⟩
 refine h.core (fun _ h=>h) (fun _ _=>rfl) hk rfl rfl rfl ?_ ?_ ?_ (by simpa using h.size) ?_
 ·intro r' row' hr'
  obtain⟨e,h1⟩:=hrow _ _ hr'
  refine .inl ⟨h1,fun b' c' hs'=>hother _ (fun e'=>e ?_)⟩
  subst e'
  exact h.inj _ _ _ _ _ _ _ hr h1 hs hs'
 ·intro r1 r2 row1 row2 b' c1 c2 h1 h2 h3 h4
  exact h.inj _ _ _ _ _ _ _ (hrow _ _ h1).2 (hrow _ _ h2).2 h3 h4
 ·intro r1 row1 b' c1 h1 h2
  exact h.high _ _ _ _ (hrow _ _ h1).2 h2
 ·have hB:=h.high _ _ _ _ hr hs
  exact⟨rfl,rfl,rfl,by simp,fun k hk hm=>hother k (by rintro rfl; rcases hB with hB | hB; exact absurd hk (by omega); exact hm hB),fun k o2 ho hb=>(hother k (by rintro rfl; rw[hh]at ho; cases ho; rw[hnb]at hb; cases hb)).trans ho⟩
theorem eO (hT:ak P T) {t e r len te:Nat} {x:Operand} {xs:List Int} {row:Row} {ex:Bool} {cap:Option Nat} (ht:aI T t=some (.slice e)) (he:aI T e=some (.int .u8)) (hx:ae env x=some (.own r 0 len 1 cap)) (hr:aK h r=some row) (hle:aL row (.ds te 1 ex aF xs)) (hl:len=xs.length) (h0:Nat.blt 0 len=true) :
  ab P (.convert t t x) env h n (some (.d (.arr 1 aF xs))) [(r,none)]:=.of_comes fun C G st σ w a o ho hA hd hst hn=>by
 obtain⟨u1,hu1,hd1⟩:=aD hT ht
 obtain⟨u2,hu2,hd2⟩:=aD hT he
 cases hd1; cases hd2
 subst hl
 have h0:=Nat.le_of_ble_eq_true h0
 obtain⟨hx1,_⟩:=ai hst (hA.ev hx)
 have hrow:=hst.rows r _ (hA.row _ _ hr)
 have hds:=hle σ w _ r hrow
 unfold RelV at hx1
 simp only[AV.isAgg,Bool.false_eq_true,if_false,Rel]at hx1
 rcases hx1 with ⟨_,_,hl0,_⟩ | ⟨b,c,ad,hb,hv,hle1,hle2,hle3,had⟩
 ·omega
 rcases hds with ⟨hn0,rfl⟩ | ⟨b',c',cur,hb',_,hh,hsz,hlen,hmax,f,hf,htake⟩
 ·simp at h0
 rw[hb]at hb'
 cases hb'
 have had':ad=⟨b,0,none⟩:=by have:=had (by omega); simpa using this
 subst had'
 simp only[List.cons.injEq,and_true]at hv
 let w':World := { w with heap:=w.heap.setIfInBounds b (.cells cur te (cur.size,cur.size+1)) }
 have hlt:b<w.heap.size:=(Array.getElem?_eq_some_iff.1 hh).1
 have hnew:w'.heap[b]?=some (.cells cur te (cur.size,cur.size+1)):=by simp[w',hlt]
 have hother:∀k,k≠b→w'.heap[k]?=w.heap[k]?:=fun k hk=>by simp[w',Ne.symm hk]
 have hcell:∀a:Addr,w'.cell? a=w.cell? a:=fun a=>by
  by_cases e:a.block=b
  ·simp only[World.cell?,e,hnew,hh]
  ·simp only[World.cell?,hother _ e]
 have hst2:=hst.dropObj (o' :=.cells cur te (cur.size,cur.size+1)) (hA.row _ _ hr) hb hh rfl
 have hnX:¬(st.upd [(r,none)]).X C.X0 σ b:=by
  rintro (hx0 | ⟨q,x',c',h1,h2⟩)
  ·obtain⟨h3,h4⟩:=hst.x0 _ hx0
   rcases hst.high _ _ _ _ (hA.row _ _ hr) hb with h5 | h5
   ·omega
   ·exact h4 h5
  ·rw[St.row_one]at h1
   split at h1
   ·cases h1
   ·rename_i e
    exact e (hst.inj _ _ _ _ _ _ _ (hA.row _ _ hr) h1 hb h2)
 refine⟨some (.d (.arr 1 aF xs)),[(r,none)],.value (.slice (some ⟨b,0,none⟩) xs.length (cap.getD (c-0))),.slice (some ⟨b,0,none⟩) xs.length (cap.getD (c-0)),w',σ,G,⟨rfl,rfl⟩,?_,.inl rfl,?_,fun _ h=>h,fun _ h=>.inl h⟩
 ·have hsh:w.shape? b=some (te,cur.size):=by unfold World.shape?; rw[hh]
  have hfr:w.freeze ⟨b,cur.size,none⟩ 1=w':=by
   unfold World.freeze
   rw[if_neg (by decide)]
   have:(w.heap.modify b fun
     | .cells c elem (lo,hi)=>.cells c elem (if lo==hi then (cur.size,cur.size+1) else (min lo cur.size,max hi (cur.size+1)))
     | o=>o)=w.heap.setIfInBounds b (.cells cur te (cur.size,cur.size+1)):=by
    refine Array.ext_getElem? fun i=>?_
    rw[Array.getElem?_modify,Array.getElem?_setIfInBounds]
    by_cases e:b=i
    ·subst e
     rw[if_pos rfl,if_pos rfl,if_pos hlt,hh]
     rfl
    ·rw[if_neg e,if_neg e]
   exact congrArg (fun q=>({ w with heap:=q }:World)) this
  simp[execOp,ho,hv,Go.convert,run_underlying hu1,run_underlying hu2,markStringish,hsh,hfr]
 ·rw[St.put_upd]
  refine hst2.set hd (RelV.arr.2 (.inr ⟨⟨b,0,none⟩,_,rfl,by omega,by omega,f,fun i hi=>?_⟩)) trivial
  obtain⟨h1,h2⟩:=hf i hi
  refine⟨h1,h2,fun j u hj=>⟨?_,hnX⟩⟩
  show w'.cell? _=_
  rw[hcell,cp,cell_of_row w b _ cur te (0,0) hh]
  have hjs:j<1:=by rw[←h2]; exact (List.getElem?_eq_some_iff.1 hj).1
  have hcg:=bK (f:=f) (s:=1) xs.length (fun i hi=>(hf i hi).2) i j hi hjs
  rw[←htake,hj,List.getElem?_take]at hcg
  rw[if_pos (by omega)]at hcg
  rw[←Array.getElem?_toList,Nat.zero_add]
  exact hcg
end
end Go.Eng
namespace Go.Proofs.YtmapiehigkfddaaDoor
open Go.Eng Go.Plain
set_option maxHeartbeats 32000000
set_option maxRecDepth 20000
attribute [local irreducible] WC RegS RegD SeqQ BlkQ ScoQ RegK CutK Sat SatN FnIs LoopQ ab OpIs
def oB:List UInt8:=[99,97,105,115,115,111,110]
def oA:List UInt8:=[101,110,99,114,121,112,116]
def sMac:List UInt8:=[109,97,99]
def prkV (key:List UInt8):List UInt8:=macD oB [key]
def kEnc (key:List UInt8):List UInt8:=expD (prkV key) oA 16
def kMac (key:List UInt8):List UInt8:=expD (prkV key) sMac 32
abbrev ir (e m:List UInt8):D :=.cons (encV 16 e) (.cons (encV 32 m) .nil)
theorem jT (l:List UInt8) {t n:Nat} {ex:Bool} (hn:n=l.length):aL (.lits t 1 n ex (j2 aF (byI l))) (.ds t 1 ex aF (byI l)):=aL.lits_ds (fun _=>rfl) (by rw[aB]; exact hn)
attribute [local irreducible] expD macD
theorem ns (key:List UInt8) (hk:key.length=32):FnIs Tryd.prog 16 [.d (encV 32 key)] [] (.d (ir (kEnc key) (kMac key))) []:=by
 have hpk:(prkV key).length≤1000000000:=by rw[prkV,cH]; decide
 have hel:(byI (kEnc key)).length=16:=by rw[aB,kEnc,fx]
 have hml:(byI (kMac key)).length=32:=by rw[aB,kMac,fx]
 refine aw aa Tryd.func16 rfl rfl rfl ?_;refine sR ?_;iterate 2 refine rN ?_
 refine nR<|aS (aH (s:=1) aa rfl rfl rfl rfl rfl rfl rfl rfl) rfl ?_;refine cu (dst:=some 9) rfl (eO (len:=7) aa rfl rfl rfl rfl (jT oB rfl) rfl rfl) rfl rfl ?_
 skip
 refine ct (env':=[(1,_),(9,_),(2,_)]) (h':=[(72,some _)]) 64 _ rfl ⟨⟨_,rfl,Frz.ptr⟩,zE,zE,trivial⟩ ⟨⟨rfl,_,rfl,.refl _⟩,trivial⟩ ?_;refine rQ (bc aa rfl rfl rfl rfl rfl) ?_;refine rQ (aq (ik oB key (by decide) (by omega)) rfl rfl (am (am aj)) (.inl rfl) (fun _=>rfl)) ?_;refine rN ?_;refine rW<|nR ?_;refine ct (env':=[(3,_),(2,_)]) (h':=[(72,some _)]) 112 _ rfl ⟨⟨_,rfl,Frz.ptr⟩,zE,trivial⟩ ⟨⟨rfl,_,rfl,.refl _⟩,trivial⟩ ?_;refine rQ (bc aa rfl rfl rfl rfl rfl) ?_;refine aS (aH (s:=1) aa rfl rfl rfl rfl rfl rfl rfl rfl) rfl ?_;refine cu (dst:=some 15) rfl (eO (len:=7) aa rfl rfl rfl rfl (jT oA rfl) rfl rfl) rfl rfl ?_;refine rQ (aq (fS (prkV key) oA 16 hpk (by decide) (by decide) (by decide)) rfl rfl (am (am (am aj))) (.inl rfl) (fun _=>rfl)) ?_;iterate 5 refine rC ?_
 refine nR<|rQ (bc aa rfl rfl rfl rfl rfl) ?_;refine aS (aH (s:=1) aa rfl rfl rfl rfl rfl rfl rfl rfl) rfl ?_;refine cu (dst:=some 22) rfl (eO (len:=3) aa rfl rfl rfl rfl (jT sMac rfl) rfl rfl) rfl rfl ?_;refine rQ (aq (fS (prkV key) sMac 32 hpk (by decide) (by decide) (by decide)) rfl rfl (am (am (am aj))) (.inl rfl) (fun _=>rfl)) ?_;iterate 5 refine rC ?_
 refine nR<|rC ?_;refine rQ (b6 aa rfl rfl rfl) ?_;refine rC ?_;refine aS (iw (enc:=aF) (ys:=byI (kEnc key)) aa rfl rfl rfl rfl rfl rfl rfl hel rfl ⟨_,⟨_,⟨_,⟨rfl,rfl,rfl⟩,rfl⟩,rfl⟩,rfl⟩) rfl<|nR ?_;refine rC ?_;refine rQ (b6 aa rfl rfl rfl) ?_;refine rC ?_;refine aS (iw (enc:=aF) (ys:=byI (kMac key)) aa rfl rfl rfl rfl rfl rfl rfl hml rfl ⟨_,⟨_,⟨_,⟨rfl,rfl,rfl⟩,rfl⟩,rfl⟩,rfl⟩) rfl<|nR ?_;refine rQ iM ?_;refine rW<|zT ?_
 exact⟨trivial,_,rfl,[],lf⟩
end Go.Proofs.YtmapiehigkfddaaDoor
namespace Go.Proofs.YtmapiehigkfddaaDoor
open Go.Eng Go.Plain
set_option maxHeartbeats 32000000
set_option maxRecDepth 20000
attribute [local irreducible] WC RegS RegD SeqQ BlkQ ScoQ RegK CutK Sat SatN FnIs LoopQ ab OpIs
def z32:List UInt8:=List.replicate 32 0
theorem n8:aL (.box 60 (.d r60.zero)) (.box 60 (.d (encV 32 z32))):=aL.of_eq rfl
theorem rz:aL (.box 31 (.d r31.zero)) (.box 31 (.d (encV 32 z32))):=aL.of_eq rfl
attribute [local irreducible] byI strX macD z32
theorem gl (e m:List UInt8) (s c:Nat) (b:List UInt8) (he:e.length=16) (hs:s<4294967296) (hc:c<18446744073709551616) (hb:b.length=32) :
  FnIs Tryd.prog 45 [.d (ir e m),.d (bO ⟨s,c⟩),.d (encV 32 b)] [] (.d (encV 32 (strX e s c b))) []:=by
 have hxo:=p4 e s c b he hs hc (by omega) (by omega)
 have hdl:(byI (strX e s c b)).length=32:=by rw[aB,cD,hb]
 refine aw aa Tryd.func45 rfl rfl rfl ?_;refine sR ?_;iterate 4 refine rN ?_
 refine nS<|bE (env':=[(6,_),(5,_),(4,_),(3,_)]) (h':=[(88,some _),(72,some _),(64,some _)]) 80 _ rfl ⟨zE,⟨_,rfl,Frz.ptr⟩,zE,zE,trivial⟩ ⟨⟨rfl,_,rfl,.refl _⟩,⟨rfl,_,rfl,.refl _⟩,⟨rfl,_,rfl,.refl _⟩,trivial⟩<|br ?_;refine aR (by kernel_rfl) ?_;refine dC [3] [] ?_;refine dQ [10] [64] iB ?_;refine dQ [4] [72] iM ?_;refine dQ [5] [] (bc aa rfl rfl rfl rfl rfl) ?_;refine dQ [11,12,13] [] (aq hxo rfl rfl (am (am (am (am aj)))) (.inl rfl) (fun _=>rfl)) ?_;refine dC [14] [] ?_;iterate 2 refine dC [9] [] ?_
 refine dC [15] [] ?_;refine dC [16] [] ?_;refine aM (by kernel_rfl)<|bm<|sR ?_;refine rC ?_;refine rQ (j6 aa rfl rfl hdl rfl rfl) ?_;refine rQ iL ?_;refine rW<|zT ?_
 exact⟨trivial,_,rfl,[],lf⟩
def msgB (i s c:Nat) (b:List UInt8):List UInt8:=putN 4 i++nonB s c++b
theorem kM {i s c:Nat} {b:List UInt8} (hb:b.length=32):(msgB i s c b).length=48:=by simp[msgB,bM,cG,hb]
theorem gZ (i s c:Nat) (b:List UInt8) (hi:i<4294967296) (hs:s<4294967296) (hc:c<18446744073709551616) (hb:b.length=32) :
  FnIs Tryd.prog 46 [.int .i64 i,.d (bO ⟨s,c⟩),.d (encV 32 b)] [] (.d (encB (msgB i s c b))) []:=by
 have w8:IntKind.u32.wrap (i:Int)=(i:Int):=cW rfl (by show _<4294967296; omega)
 have hj:=fu [putN 4 i,nonB s c,b] (by simp) (by simp[bM,cG,hb])
 rw[show[putN 4 i,nonB s c,b].flatten=msgB i s c b by simp[msgB]]at hj
 refine aw aa Tryd.func46 rfl rfl rfl ?_;refine sR ?_;iterate 2 refine rN ?_
 refine rC<|nS ?_;refine bE (env':=[(6,_),(5,_),(4,_),(0,_)]) (h':=[(64,some _)]) 72 _ rfl ⟨zE,⟨_,rfl,Frz.ptr⟩,zE,zE,trivial⟩ ⟨⟨rfl,_,rfl,.refl _⟩,trivial⟩<|br ?_;refine aR (by kernel_rfl) ?_;refine dC [0] [] ?_;refine dQ [7] [] (bu (m:=(i:Int)) aa rfl rfl rfl w8) ?_;refine dQ [8] [] (aq (dX i hi) rfl rfl (am aj) (.inl rfl) (fun _=>rfl)) ?_;refine dQ [4] [64] iM ?_;refine dQ [10] [] (aq (ji s c hs hc) rfl rfl (am aj) (.inl rfl) (fun _=>rfl)) ?_;refine dQ [5] [] (bc aa rfl rfl rfl rfl rfl) ?_;refine dQ [9,11,12] [] (ab.frozen (aH (s:=1) aa rfl rfl rfl rfl rfl rfl rfl rfl) (Frz.litsN (enc:=encB) [putN 4 i,nonB s c,b] rfl (fun _ _=>rfl))) ?_;refine dQ [13] [] (aq hj rfl rfl (am aj) (.inl rfl) (fun _=>rfl)) ?_;refine dC [14] [] ?_;refine aM (by kernel_rfl)<|bm<|cY ?_
 exact⟨trivial,[],lf⟩
attribute [local irreducible] msgB
def sealC (e:List UInt8) (s c:Nat) (b:List UInt8):List UInt8:=strX e s c b
def kv (e m:List UInt8) (i s c:Nat) (b:List UInt8):List UInt8:=macD m [msgB i s c (strX e s c b)]
abbrev iY (e m:List UInt8) (i s c:Nat) (b x t:List UInt8):List (Nat×Row):=[(0,.box 46 (.d (ir e m))),(1,.box 57 (.d (bO ⟨s,c⟩))),(2,.box 60 (.d (encV 32 b))),(3,.box 60 (.d (encV 32 x))),(4,.box 3 (.int .i64 i)),(5,.box 31 (.d (encV 32 t)))]
theorem nk {look:Nat→Option Row} {ρ:Nat→Option Nat} {e m:List UInt8} {ty:TypeId} {bs9 avs:List AV} {r:Nat} (hr:look r=some (.box ty (.d (ir e m)))) (h:bf look ρ bs9 avs) (hm:m.length=32):bf look ρ (.asl r [.fld 1 16] 32 32::bs9) (.d (encB m)::avs):=
 j7 (q:=[.fld 1 16]) (k:=0) (s:=1) (m:=32) (enc:=aF) (xs:=byI m) (ys:=byI m) hr rfl ⟨_,rfl,rfl⟩ (by decide) (Nat.le_refl _) (by decide) (by rw[List.drop_zero,List.take_of_length_le (by rw[aB,hm]; exact Nat.le_refl _)]) h
theorem nu (l:List UInt8):bp (.d (encV 32 l)) []:=oR (fun _=>trivial)
theorem oy (e m:List UInt8) (i s c:Nat) (b z t:List UInt8) (he:e.length=16) (hm:m.length=32) (hi:i<4096) (hs:s<4294967296) (hc:c<18446744073709551616) (hb:b.length=32) :
  FnIs Tryd.prog 44 [.ptr 0 [],.ptr 1 [],.ptr 2 [],.ptr 3 [],.ptr 4 [],.ptr 5 []] (iY e m i s c b z t) (.int .i64 0) (iY e m i s c b (strX e s c b) (kv e m i s c b)):=by
 replace hi:i<4294967296:=by omega
 have hXl:(strX e s c b).length=32:=by rw[cD,hb]
 have hcomb:=gl e m s c b he hs hc hb
 have hT:kv e m i s c b=macD m [msgB i s c (strX e s c b)]:=rfl
 rw[hT]
 generalize hXX:strX e s c b=X at *
 have hmac:=e9 m [msgB i s c X] (by omega) (by simp) (by simp[kM hXl])
 refine aw aa Tryd.func44 rfl rfl rfl ?_;refine sR<|rC<|nR ?_;iterate 3 refine rQ iM ?_
 refine rQ (aq hcomb rfl rfl (am (am (am aj))) (.inl rfl) (fun _=>rfl)) ?_;refine rW<|nQ ?_;refine aR (by kernel_rfl) ?_;refine dC [0] [] ?_;refine dQ [11] [0] (b6 aa rfl rfl rfl) ?_;refine dQ [4] [4] iM ?_;refine dQ [1] [1] iM ?_;refine dQ [3] [3] iM ?_;refine dQ [13,14,15] [] (aq (gZ i s c X hi hs hc hXl) rfl rfl (am (am (am aj))) (.inl rfl) (fun _=>rfl)) ?_;refine dQ [16] [] (ab.frozen (aH (s:=1) aa rfl rfl rfl rfl rfl rfl rfl rfl) (Frz.litsN (enc:=encB) [msgB i s c X] rfl (fun _ _=>rfl))) ?_;refine dQ [12,17] [0] (aq hmac rfl rfl (nk rfl (am aj) hm) (.inr (nu _)) (fun _=>rfl)) ?_;refine bG [5,18] [5] (aQ aa rfl rfl rfl ⟨_,⟨rfl,rfl,rfl⟩,rfl⟩ rfl) ?_;refine aM (by kernel_rfl)<|bm<|sR ?_;refine rC<|zT ?_
 exact⟨trivial,[],lg zV ⟨zR,zR,zR,zR,zR,zR,trivial⟩⟩
abbrev nh (f:FuncId):AV :=.fn (.func f) .anil (.acons (.ptr 0 []) (.acons (.ptr 1 []) (.acons (.ptr 2 []) (.acons (.ptr 3 []) (.acons (.ptr 4 []) (.acons (.ptr 5 []) .anil))))))
abbrev pL:List AV:=[.ptr 0 [],.ptr 1 [],.ptr 2 [],.ptr 3 [],.ptr 4 [],.ptr 5 []]
theorem nn {look:Nat→Option Row} {ρ:Nat→Option Nat} {f:FuncId} {a:AV} {bs9 avs:List AV} (he:a=(nh f).ren ρ) (hf:a.flat=true) (h:bf look ρ bs9 avs):bf look ρ (a::bs9) (nh f::avs):=by
 subst he
 exact⟨_,avs,rfl,⟨hf,rfl⟩,AVLe.of_eq rfl,h⟩
theorem jX (e m:List UInt8) (i s c:Nat) (b z t x y:List UInt8) (hi:i<4096) (hF:FnIs Tryd.prog 44 pL (iY e m i s c b z t) (.int .i64 0) (iY e m i s c b x y)) :
  FnIs Tryd.prog 43 [.int .i64 i,nh 44] (iY e m i s c b z t) (.int .i64 0) (iY e m i s c b x y):=by
 have d1:decide ((i:Int)<0)=false:=dF (by omega)
 have d2:decide ((4096:Int)≤(i:Int))=false:=dF (by omega)
 refine aw aa Tryd.func43 rfl rfl rfl ?_;refine sR<|rC<|zW ?_;refine zU ?_;refine rP ?_;refine rC ?_;refine rP ?_;refine rC ?_;refine rQ iG ?_;refine zG<|kS<|sR ?_;refine rC ?_;refine cu rfl (dk [] hF rfl rfl rfl (aO rfl rfl (aO rfl rfl (aO rfl rfl (aO rfl rfl (aO rfl rfl (aO rfl rfl aj)))))) ⟨zH,zH,zH,zH,zH,zH,trivial⟩ rfl rfl (.inl rfl) rfl rfl) rfl rfl ?_;refine rC<|zT ?_
 exact⟨trivial,[],lg zV ⟨zR,zR,zR,zR,zR,zR,trivial⟩⟩
theorem qa (e m:List UInt8) (i s c:Nat) (b:List UInt8) (he:e.length=16) (hm:m.length=32) (hi:i<4096) (hs:s<4294967296) (hc:c<18446744073709551616) (hb:b.length=32) :
  FnIs Tryd.prog 20 [.d (ir e m),.int .i64 i,.d (bO ⟨s,c⟩),.d (encV 32 b)] [] (.tup (.acons (.d (encV 32 (strX e s c b))) (.acons (.d (encV 32 (kv e m i s c b))) (.acons (.d (i6 0)) .anil)))) []:=by
 have hI:=jX e m i s c b z32 z32 _ _ hi (oy e m i s c b z32 z32 he hm hi hs hc hb)
 generalize strX e s c b=X at *
 generalize kv e m i s c b=T at *
 refine aw aa Tryd.func20 rfl rfl rfl ?_;refine sR ?_;iterate 6 refine rN ?_
 refine rC<|nR ?_;refine rQ iM ?_;refine rC ?_;refine cu rfl (dk [(0,some 64),(1,some 80),(2,some 88),(3,some 96),(4,some 72),(5,some 104)] hI rfl rfl rfl (am (nn rfl rfl aj)) ⟨zH,zH,zH,⟨rfl,rfl,_,_,rfl,rfl,n8⟩,zH,⟨rfl,rfl,_,_,rfl,rfl,rz⟩,trivial⟩ rfl rfl (.inl rfl) rfl rfl) rfl rfl ?_;refine rC<|nQ ?_;refine aR (by kernel_rfl) ?_;refine dQ [8] [96] iM ?_;refine dQ [9] [104] iM ?_;refine dC [10] [] ?_;refine bG [8,14] [96] (aQ aa rfl rfl rfl ⟨_,⟨rfl,rfl,rfl⟩,rfl⟩ rfl) ?_;refine bG [9,15] [104] (aQ aa rfl rfl rfl ⟨_,⟨rfl,rfl,rfl⟩,rfl⟩ rfl) ?_;refine dC [16] [] ?_;refine aM (by kernel_rfl)<|bm<|cY ?_
 exact⟨trivial,_,rfl,_,rfl,[],lg zV trivial⟩
abbrev jh (e m:List UInt8) (i s c:Nat) (x t z:List UInt8):List (Nat×Row):=[(0,.box 46 (.d (ir e m))),(1,.box 3 (.int .i64 i)),(2,.box 57 (.d (bO ⟨s,c⟩))),(3,.box 60 (.d (encV 32 x))),(4,.box 31 (.d (encV 32 t))),(5,.box 60 (.d (encV 32 z)))]
theorem o0 (e m:List UInt8) (i s c:Nat) (x z:List UInt8) (he:e.length=16) (hm:m.length=32) (hi:i<4096) (hs:s<4294967296) (hc:c<18446744073709551616) (hx:x.length=32) :
  FnIs Tryd.prog 51 pL (jh e m i s c x (macD m [msgB i s c x]) z) (.int .i64 0) (jh e m i s c x (macD m [msgB i s c x]) (strX e s c x)):=by
 have hi':i<4294967296:=by omega
 have hcomb:=gl e m s c x he hs hc hx
 have hv:=nt m (msgB i s c x) (by omega) (by rw[kM hx]; decide)
 generalize strX e s c x=b at *
 generalize macD m [msgB i s c x]=T at *
 refine aw aa Tryd.func51 rfl rfl rfl ?_;refine sR<|rC<|nQ<|br ?_;refine aR (by kernel_rfl) ?_;refine dC [0] [] ?_;refine dQ [7] [0] (b6 aa rfl rfl rfl) ?_;refine dQ [1] [1] iM ?_;refine dQ [2] [2] iM ?_;refine dQ [3] [3] iM ?_;refine dQ [9,10,11] [] (aq (gZ i s c x hi' hs hc hx) rfl rfl (am (am (am aj))) (.inl rfl) (fun _=>rfl)) ?_;refine dQ [4] [4] iM ?_;refine dQ [8,12,13] [0] (aq hv rfl rfl (nk rfl (am (am aj)) hm) (.inr (bp.sc _)) (fun _=>rfl)) ?_;refine dC [14] [] ?_;refine aM (by kernel_rfl)<|bm ?_;refine wG<|kS<|sR ?_;iterate 3 refine rQ iM ?_
 refine rQ (aq hcomb rfl rfl (am (am (am aj))) (.inl rfl) (fun _=>rfl)) ?_;refine rW<|nR ?_;refine rC<|zT ?_
 exact⟨trivial,[],lg zV ⟨zR,zR,zR,zR,zR,zR,trivial⟩⟩
theorem jY (e m:List UInt8) (i s c:Nat) (x t z b:List UInt8) (hi:i<4096) (hF:FnIs Tryd.prog 51 pL (jh e m i s c x t z) (.int .i64 0) (jh e m i s c x t b)) :
  FnIs Tryd.prog 43 [.int .i64 i,nh 51] (jh e m i s c x t z) (.int .i64 0) (jh e m i s c x t b):=by
 have d1:decide ((i:Int)<0)=false:=dF (by omega)
 have d2:decide ((4096:Int)≤(i:Int))=false:=dF (by omega)
 refine aw aa Tryd.func43 rfl rfl rfl ?_;refine sR<|rC<|zW ?_;refine zU ?_;refine rP ?_;refine rC ?_;refine rP ?_;refine rC ?_;refine rQ iG ?_;refine zG<|kS<|sR ?_;refine rC ?_;refine cu rfl (dk [] hF rfl rfl rfl (aO rfl rfl (aO rfl rfl (aO rfl rfl (aO rfl rfl (aO rfl rfl (aO rfl rfl aj)))))) ⟨zH,zH,zH,zH,zH,zH,trivial⟩ rfl rfl (.inl rfl) rfl rfl) rfl rfl ?_;refine rC<|zT ?_
 exact⟨trivial,[],lg zV ⟨zR,zR,zR,zR,zR,zR,trivial⟩⟩
theorem qq (e m:List UInt8) (i s c:Nat) (x:List UInt8) (he:e.length=16) (hm:m.length=32) (hi:i<4096) (hs:s<4294967296) (hc:c<18446744073709551616) (hx:x.length=32) :
  FnIs Tryd.prog 23 [.d (ir e m),.int .i64 i,.d (bO ⟨s,c⟩),.d (encV 32 x),.d (encV 32 (macD m [msgB i s c x]))] [] (.tup (.acons (.d (encV 32 (strX e s c x))) (.acons (.d (i6 0)) .anil))) []:=by
 have hI:=jY e m i s c x _ z32 _ hi (o0 e m i s c x z32 he hm hi hs hc hx)
 generalize strX e s c x=b at *
 generalize macD m [msgB i s c x]=T at *
 refine aw aa Tryd.func23 rfl rfl rfl ?_;refine sR ?_;iterate 6 refine rN ?_
 refine rC<|nR ?_;refine rQ iM ?_;refine rC ?_;refine cu rfl (dk [(0,some 64),(1,some 72),(2,some 80),(3,some 88),(4,some 96),(5,some 104)] hI rfl rfl rfl (am (nn rfl rfl aj)) ⟨zH,zH,zH,zH,zH,⟨rfl,rfl,_,_,rfl,rfl,n8⟩,trivial⟩ rfl rfl (.inl rfl) rfl rfl) rfl rfl ?_;refine rC<|nR ?_;refine rQ iM ?_;refine rC ?_;refine rW ?_;refine rC<|zT ?_
 exact⟨trivial,_,rfl,[],lf⟩
end Go.Proofs.YtmapiehigkfddaaDoor
namespace Go.Proofs.YtmapiehigkfddaaDoor
open Go.Eng Go.Plain
set_option maxHeartbeats 32000000
set_option maxRecDepth 20000
attribute [local irreducible] WC RegS RegD SeqQ BlkQ ScoQ RegK CutK Sat SatN FnIs LoopQ ab OpIs
abbrev dh (n:Int):D :=.sc (.int .u64 n)
abbrev dS (l:List Int) (a b c:Nat):D :=.cons (.arr 1 dh l) (.cons (u64s a) (.cons (u64s b) (.cons (u64s c) .nil)))
theorem fM (l:List Int) (a b c:Nat) (h1:1≤l.length) (h8:l.length≤8) (hab:a≤b) (hc1:1≤c) (hc2:c≤4294967296) (hcb:c≤b) (hl:∀x∈l,x≤(a:Int)):FnIs Tryd.prog 40 [.d (dS l a b c)] [] (.int .i64 0) []:=by
 have d1:decide ((l.length:Int)<1)=false:=dF (by omega)
 have d2:decide ((8:Int)<(l.length:Int))=false:=dF (by omega)
 have d3:decide ((b:Int)<(a:Int))=false:=dF (by omega)
 have d4:decide ((c:Int)<1)=false:=dF (by omega)
 have d5:decide ((4294967296:Int)<(c:Int))=false:=dF (by omega)
 have d6:decide ((b:Int)<(c:Int))=false:=dF (by omega)
 refine aw aa Tryd.func40 rfl rfl rfl ?_;refine sR<|rN ?_;refine rC<|nQ<|zS ?_;refine rC ?_;refine rQ iB ?_;refine rQ iE ?_;refine zD ?_;refine rO ?_;refine rC ?_;refine rO ?_;refine rQ iB ?_;refine rO ?_;refine rQ iE ?_;refine rO ?_;refine rC ?_;refine rQ iF ?_;refine rC ?_;refine zG<|sR ?_;refine rC ?_;refine rQ iB ?_;refine rC ?_;refine rQ iB ?_;refine zD ?_;refine rO ?_;refine rC ?_;refine rO ?_;refine rQ iB ?_;refine rO ?_;refine rC ?_;refine rQ iF ?_;refine rC ?_;refine rO ?_;refine rC ?_;refine rO ?_;refine rQ iB ?_;refine rO ?_;refine rC ?_;refine rQ iF ?_;refine rC ?_;refine rO ?_;refine rC ?_;refine rO ?_;refine rQ iB ?_;refine rO ?_;refine rC ?_;refine rO ?_;refine rQ iB ?_;refine rO ?_;refine rC ?_;refine rQ iF ?_;refine rC ?_;refine zG<|bR<|zC<|qR ?_;refine rC ?_;refine rQ iB ?_;refine rQ iE ?_;refine rC<|zP ?_
 refine wc_inv (fun j:Nat=>⟨[(42,.int .i64 j),(41,.int .i64 l.length),(40,.d (.arr 1 dh l)),(1,.ptr 64 [])],[(64,some (.box 51 (.d (dS l a b c))))],72,Tryd.f40.ntmps,64⟩) (fun j=>j≤l.length) (fun j=>l.length-j) 0 [(64,some _)] (Nat.zero_le _)
  (lg zi ⟨zR,trivial⟩) ?_
 intro j hj
 refine bk ?_
 by_cases hlt:j<l.length
 ·have e1:decide ((j:Int)<(l.length:Int))=true:=dT (by omega)
  obtain⟨y,hy⟩:∃y,l[j]?=some y:=⟨_,List.getElem?_eq_getElem hlt⟩
  have hy':l[((j:Int)).toNat]?=some y:=by rw[Int.toNat_natCast]; exact hy
  have e2:decide ((a:Int)<y)=false:=dF (by have:=hl y (List.mem_of_getElem? hy); omega)
  refine sR<|rC<|nQ ?_;refine wT<|zQ<|zS ?_;refine rQ (bq aa rfl rfl rfl rfl rfl (by omega) hy') ?_;refine rQ iL ?_;refine rC<|nR ?_;refine zD ?_;refine rQ iB ?_;refine rC ?_;refine zG<|bR<|zC<|ao ?_;refine rQ iD ?_;refine rC<|aA ?_
  exact aT (j+1) [(64,some _)] (show j+1≤l.length by omega) (by show l.length-(j+1)<l.length-j; omega) (lg zi ⟨zR,trivial⟩)
 ·have e1:decide ((j:Int)<(l.length:Int))=false:=dF (by omega)
  refine sR<|rC<|nQ ?_;refine wF<|zX<|sR ?_;refine rC<|zT ?_
  exact⟨trivial,[],lf⟩
theorem mW (l:List Int) (a b c:Nat) (hlen:l.length≤1048576):FnIs Tryd.prog 41 [.d (dS l a b c)] [] (.acons (.own 64 0 l.length 1 none) (.acons (.d (u64s a)) (.acons (.d (u64s b)) (.acons (.d (u64s c)) .anil)))) [(64,.ds 49 1 true dh l)]:=by
 have hcp:l.take (List.replicate l.length (0:Int)).length++(List.replicate l.length (0:Int)).drop l.length=l:=by
  rw[List.length_replicate,List.take_length,List.drop_eq_nil_of_le (by rw[List.length_replicate]; exact Nat.le_refl _),List.append_nil]
 have hmin:min l.length (List.replicate l.length (0:Int)).length=l.length:=by rw[List.length_replicate]; exact Nat.min_self _
 refine aw aa Tryd.func41 rfl rfl rfl ?_;refine sR ?_;iterate 2 refine rN ?_
 refine nR<|rC ?_;refine rQ iB ?_;refine rQ iE ?_;refine aS (b8 (enc:=dh) (s:=1) (N:=l.length) aa 0 rfl rfl rfl rfl rfl rfl rfl hlen rfl) rfl ?_;refine rC<|nR ?_;refine zD ?_;refine rQ iB ?_;refine aS (li (r:=104) (xs:=List.replicate l.length (0:Int)) (ys:=l) (enc:=dh) (zs:=l) (m:=l.length) aa rfl rfl rfl rfl (by rw[List.length_replicate]; rfl) rfl rfl hcp hmin) rfl<|nR ?_;refine zD ?_;refine bB (aQ aa rfl rfl rfl ⟨_,⟨_,⟨rfl,rfl,rfl⟩,rfl⟩,rfl⟩ rfl)<|nR ?_;refine rQ iM ?_;refine rW<|zT ?_
 exact⟨trivial,_,rfl,[(64,some 104)],lg zl ⟨zR,trivial⟩⟩
theorem jW {l:List Int} {a:Nat} (h:l.all (fun x=>decide (x≤(a:Int)))=true):∀x∈l,x≤(a:Int):=fun x hx=>by simpa using List.all_eq_true.1 h x hx
theorem qw:FnIs Tryd.prog 17 [.int .i64 2,.int .u64 100,.int .u64 10] [] (.tup (.acons (.d (dS [0,0] 0 100 10)) (.acons (.d (i6 0)) .anil))) []:=by
 refine aw aa Tryd.func17 rfl rfl rfl ?_;refine sR<|rN ?_;refine rC<|zW ?_;refine zU ?_;refine rP ?_;refine rC ?_;refine rP ?_;refine rC ?_;refine rQ iG ?_;refine zJ<|kS<|sR ?_;refine rC ?_;refine rQ (ab.frozen (b8 (enc:=dh) (s:=1) (N:=2) aa 0 rfl rfl rfl rfl rfl rfl rfl (by decide) rfl) (Frz.own rfl)) ?_;refine zD ?_;refine rQ iS ?_;refine rN ?_;refine rW<|zW ?_;refine rQ iM ?_;refine rQ (aq (fM [0,0] 0 100 10 (by decide) (by decide) (by decide) (by decide) (by decide) (by decide) (jW (by decide))) rfl rfl (am aj) (.inl rfl) (fun _=>rfl)) ?_;refine rC<|nR ?_;refine zD ?_;refine zJ<|kS<|sR ?_;refine rQ iM ?_;refine rW ?_;refine rC<|zT ?_
 exact⟨trivial,_,rfl,[],lf⟩
theorem kL:FnIs Tryd.prog 18 [.d (dS [0,0] 0 100 10)] [] (.tup (.acons (.acons (.own 64 0 2 1 none) (.acons (.d (u64s 10)) (.acons (.d (u64s 100)) (.acons (.d (u64s 10)) .anil)))) (.acons (.d (i6 0)) .anil))) [(64,.ds 49 1 true dh [0,0])]:=by
 refine aw aa Tryd.func18 rfl rfl rfl ?_;refine sR ?_;iterate 2 refine rN ?_
 refine rC<|zW ?_;refine rQ iM ?_;refine rQ (aq (fM [0,0] 0 100 10 (by decide) (by decide) (by decide) (by decide) (by decide) (by decide) (jW (by decide))) rfl rfl (am aj) (.inl rfl) (fun _=>rfl)) ?_;refine rC<|nR ?_;refine zD ?_;refine zJ<|kS<|qR ?_;refine rC ?_;refine rQ iB ?_;refine rC ?_;refine rQ iB ?_;refine rC ?_;refine rQ iB ?_;refine rQ (bI (m:=100) aa rfl rfl (by decide)) ?_;refine rC ?_;refine zJ<|kS<|sR ?_;refine rQ iM ?_;refine aS (c5 (mW [0,0] 0 100 10 (by decide)) rfl rfl (am aj) (.inl rfl) rfl rfl) rfl ?_;refine rN ?_;refine rW<|nR ?_;refine rC ?_;refine rQ iM ?_;refine rC ?_;refine rQ iB ?_;refine rQ (aY (m:=10) aa rfl rfl (by decide)) ?_;refine rC ?_;refine bB (aQ aa rfl rfl rfl ⟨_,⟨_,⟨rfl,rfl,rfl⟩,rfl⟩,rfl⟩ rfl)<|nR ?_;refine rQ iM ?_;refine rW ?_;refine rC<|zT ?_
 exact⟨trivial,_,rfl,[(64,some _)],lg zl ⟨zR,trivial⟩⟩
theorem pu {r:Nat} {te:TypeId} {ex:Bool} {l:List Int} {a b c:Nat} {n:Nat} (hn:n=l.length):Frz r (.ds te 1 ex dh l) (.acons (.own r 0 n 1 none) (.acons (.d (u64s a)) (.acons (.d (u64s b)) (.acons (.d (u64s c)) .anil)))) (.d (dS l a b c)):=
 Frz.dcons (Frz.own hn) (Frz.dcons (Frz.refl _) (Frz.dcons (Frz.refl _) (Frz.dcons (Frz.refl _) Frz.dnil)))
theorem l5:FnIs Tryd.prog 18 [.d (dS [0,0] 0 100 10)] [] (.tup (.acons (.d (dS [0,0] 10 100 10)) (.acons (.d (i6 0)) .anil))) []:=
 kL.freeze_out 64 _ rfl (Frz.tup (FrzT.cons (pu rfl) (FrzT.cons (Frz.refl _) FrzT.nil))) trivial
theorem l6:FnIs Tryd.prog 42 [.d (dS [0,0] 10 100 10),.int .i64 1] [] (.int .i64 0) []:=by
 refine aw aa Tryd.func42 rfl rfl rfl ?_;refine sR<|rN ?_;refine rC<|zW ?_;refine rQ iM ?_;refine rQ (aq (fM [0,0] 10 100 10 (by decide) (by decide) (by decide) (by decide) (by decide) (by decide) (jW (by decide))) rfl rfl (am aj) (.inl rfl) (fun _=>rfl)) ?_;refine rC<|nR ?_;refine zD ?_;refine zJ<|kS<|qR ?_;refine zU ?_;refine rP ?_;refine rC ?_;refine rP ?_;refine rC ?_;refine rP ?_;refine rQ iB ?_;refine rP ?_;refine rQ iE ?_;refine rP ?_;refine rC ?_;refine rQ iG<|nS ?_;refine wG<|kS<|sR ?_;refine rC<|zT ?_
 exact⟨trivial,[],lf⟩
theorem nH:FnIs Tryd.prog 19 [.d (dS [0,0] 10 100 10),.int .i64 1] [] (.tup (.acons (.d (bO ⟨1,0⟩)) (.acons (.acons (.own 64 0 2 1 none) (.acons (.d (u64s 10)) (.acons (.d (u64s 100)) (.acons (.d (u64s 10)) .anil)))) (.acons (.d (i6 0)) .anil)))) [(64,.ds 49 1 true dh [0,1])]:=by
 refine aw aa Tryd.func19 rfl rfl rfl ?_;refine sR ?_;iterate 3 refine rN ?_
 refine rC<|zW ?_;refine rQ iM ?_;refine rC ?_;refine rQ (aq l6 rfl rfl (am (am aj)) (.inl rfl) (fun _=>rfl)) ?_;refine rC<|nR ?_;refine zD ?_;refine zJ<|kS<|sR ?_;refine rC ?_;refine rQ iB ?_;refine rC ?_;refine rQ (bq (el:=(0:Int)) aa rfl rfl rfl rfl rfl (by decide) rfl) ?_;refine rQ iL ?_;refine rC<|zW ?_;refine zD ?_;refine rQ iB ?_;refine rC ?_;refine zJ<|kS<|sR ?_;refine rQ iM ?_;refine aS (c5 (mW [0,0] 10 100 10 (by decide)) rfl rfl (am aj) (.inl rfl) rfl rfl) rfl ?_;refine rN ?_;refine rW<|nR ?_;refine rC ?_;refine rQ iM ?_;refine zD ?_;refine rQ (aY (m:=1) aa rfl rfl (by decide)) ?_;refine rQ (ca aa rfl rfl rfl rfl rfl (by decide) (by decide)) ?_;refine bB (aQ (row' :=.ds 49 1 true dh [0,1]) aa rfl rfl rfl ⟨rfl,0,1,rfl,⟨rfl,rfl,rfl⟩,rfl⟩ rfl)<|nQ ?_;refine aR (by kernel_rfl) ?_;refine dC [1] [] ?_;refine dQ [37] [] (bu (m:=1) aa rfl rfl rfl (by decide)) ?_;refine dC [8] [] ?_;refine dQ [38,39] [] iS ?_;refine dQ [9] [240] iM ?_;refine bG [4,40] [72] (aQ aa rfl rfl rfl ⟨_,⟨rfl,rfl,rfl⟩,rfl⟩ rfl) ?_;refine bG [5,41] [80] (aQ aa rfl rfl rfl ⟨_,⟨rfl,rfl,rfl⟩,rfl⟩ rfl) ?_;refine dC [] [] ?_;refine aM (by kernel_rfl)<|bm<|cY ?_
 exact⟨trivial,_,rfl,_,rfl,[(64,some _)],lg zl ⟨zR,trivial⟩⟩
theorem o4:FnIs Tryd.prog 19 [.d (dS [0,0] 10 100 10),.int .i64 1] [] (.tup (.acons (.d (bO ⟨1,0⟩)) (.acons (.d (dS [0,1] 10 100 10)) (.acons (.d (i6 0)) .anil)))) []:=
 nH.freeze_out 64 _ rfl (Frz.tup (FrzT.cons (Frz.refl _) (FrzT.cons (pu rfl) (FrzT.cons (Frz.refl _) FrzT.nil)))) trivial
end Go.Proofs.YtmapiehigkfddaaDoor
namespace Go.Proofs.YtmapiehigkfddaaDoor
open Go.Eng Go.Plain
set_option maxHeartbeats 32000000
set_option maxRecDepth 20000
attribute [local irreducible] WC RegS RegD SeqQ BlkQ ScoQ RegK CutK Sat SatN FnIs LoopQ ab OpIs
abbrev pv (k:UInt8) (s c:Nat) (t:List UInt8):D :=.cons (u8s k.toNat) (.cons (bO ⟨s,c⟩) (.cons (encV 32 t) .nil))
attribute [local irreducible] nonB
theorem jb (s c:Nat) (t:List UInt8):FnIs Tryd.prog 47 [.d (pv 2 s c t)] [] (.int .i64 0) []:=by
 refine aw aa Tryd.func47 rfl rfl rfl ?_;refine sR<|rN ?_;refine rC<|zW ?_;refine rC ?_;refine rQ iB ?_;refine zD ?_;refine rP ?_;refine rC ?_;refine rP ?_;refine rQ iB ?_;refine rP ?_;refine rC ?_;refine rP ?_;refine rC ?_;iterate 3 refine rT ?_
 refine rP ?_;iterate 2 refine rQ iG ?_
 refine zJ<|kS<|sR ?_;refine rC<|zT ?_
 exact⟨trivial,[],lf⟩
def recB (s c:Nat) (t:List UInt8):List UInt8:=[2]++nonB s c++t
theorem kF {s c:Nat} {t:List UInt8} (ht:t.length=32):(recB s c t).length=45:=by rw[recB]; simp only[List.length_append,cG,ht,List.length_cons,List.length_nil]
theorem qj (s c:Nat) (t:List UInt8) (hs:s<4294967296) (hc:c<18446744073709551616) (ht:t.length=32):FnIs Tryd.prog 21 [.d (pv 2 s c t)] [] (.tup (.acons (.d (encB (recB s c t))) (.acons (.d (i6 0)) .anil))) []:=by
 have hj:=fu [[2],nonB s c,t] (by simp) (by simp[cG,ht])
 rw[show[[2],nonB s c,t].flatten=recB s c t by simp[recB]]at hj
 refine aw aa Tryd.func21 rfl rfl rfl ?_;refine sR<|rN ?_;refine zD<|zW ?_;refine rQ iM ?_;refine rQ (aq (jb s c t) rfl rfl (am aj) (.inl rfl) (fun _=>rfl)) ?_;refine rC<|nR ?_;refine zD ?_;refine zJ<|kS ?_;refine bE (env':=[(1,_)]) (h':=[]) 64 _ rfl ⟨⟨_,rfl,Frz.ptr⟩,trivial⟩ trivial<|br ?_;refine aR (by kernel_rfl) ?_;refine dQ [1] [] (dM aa rfl rfl rfl rfl) ?_;refine dQ [10] [] iL ?_;refine dQ [11] [] (ab.frozen (aH (s:=1) aa rfl rfl rfl rfl rfl rfl rfl rfl) (Frz.litsN (enc:=aF) [((2:UInt8).toNat:Int)] rfl (fun _ _=>rfl))) ?_;refine dQ [1] [] (dM aa rfl rfl rfl rfl) ?_;refine dQ [13] [] iL ?_;refine dQ [14] [] (aq (ji s c hs hc) rfl rfl (am aj) (.inl rfl) (fun _=>rfl)) ?_;refine dQ [1] [] (dM aa rfl rfl rfl rfl) ?_;refine dQ [16] [] (lO aa rfl rfl rfl rfl rfl) ?_;refine dQ [12,15,17] [] (ab.frozen (aH (s:=1) aa rfl rfl rfl rfl rfl rfl rfl rfl) (Frz.litsN (enc:=encB) [[2],nonB s c,t] rfl (fun _ _=>rfl))) ?_;refine dQ [18] [] (aq hj rfl rfl (am aj) (.inl rfl) (fun _=>rfl)) ?_;refine dC [19] [] ?_;refine dC [] [] ?_;refine aM (by kernel_rfl)<|bm<|cY ?_
 exact⟨trivial,[],lf⟩
abbrev rdr (l:List UInt8):Row :=.box 134 (.d (.cons (encB l) .nil))
theorem rU (l:List UInt8) (k:Nat):rdr (l.drop k)=.box 134 (.d (.cons (.arr 1 aF ((byI l).drop k)) .nil)):=by rw[c7]
theorem gU (l:List UInt8) (k:Nat) (hk:k≤l.length):FnIs Tryd.prog 64 [.ptr 0 [],.int .i64 k] [(0,rdr l)] (.d (encB (l.take k))) [(0,rdr (l.drop k))]:=by
 have hk':(k:Int)≤(byI l).length:=by rw[aB]; omega
 have hk2:k≤(byI l).length:=by rw[aB]; omega
 refine aw aa Tryd.func64 rfl rfl rfl ?_;refine sR<|rC<|nR ?_;refine zU ?_;refine rQ iB ?_;refine rC ?_;refine rQ (ow (m:=(k:Int)) aa rfl rfl rfl rfl (by omega) hk') ?_;refine rC<|nR ?_;iterate 4 refine rC ?_
 refine rQ iB ?_;refine rC ?_;refine rQ (lP aa rfl rfl rfl rfl rfl hk2) ?_;refine zD ?_;refine rX<|nR ?_;refine zD<|zT ?_
 exact⟨trivial,[],lg ⟨⟨_,rfl,AVLe.of_eq (by rw[Int.toNat_natCast,cN]; rfl)⟩,rfl,trivial⟩ ⟨⟨rfl,rfl,_,rfl,aL.of_eq (by show _=rdr (l.drop k); rw[rU]; rfl)⟩,trivial⟩⟩
theorem oC (l:List UInt8) (hl:l.length=45):FnIs Tryd.prog 49 [.d (encB l),.int .i64 45] [] (.tup (.acons (.fn (.func 64) (.acons (.ptr 64 []) .anil) .anil) (.acons (.d (i6 0)) .anil))) [(64,rdr l)]:=by
 have d1:decide (((byI l).length:Int)<45)=false:=dF (by rw[aB]; omega)
 have d2:decide ((45:Int)<((byI l).length:Int))=false:=dF (by rw[aB]; omega)
 refine aw aa Tryd.func49 rfl rfl rfl ?_;refine sR<|zD<|nQ<|zS ?_;refine rC ?_;refine rQ iE ?_;refine zU ?_;refine zG<|sR ?_;refine rC ?_;refine rQ iE ?_;refine zU ?_;refine zG<|bR<|zC<|sR ?_;refine rC ?_;refine rQ iS ?_;refine rN ?_;refine rW<|nR ?_;refine zU<|zT ?_
 exact⟨trivial,[(64,some _)],lg zl ⟨zR,trivial⟩⟩
theorem qx:FnIs Tryd.prog 50 [.d (encB (nonB 1 0))] [] (.tup (.acons (.d (bO ⟨1,0⟩)) (.acons (.d (i6 0)) .anil))) []:=by
 have h:=nI (nonB 1 0) (cG 1 0)
 rw[show getN ((nonB 1 0).take 4)=1 by unfold nonB; decide,show getN ((nonB 1 0).drop 4)=0 by unfold nonB; decide]at h
 exact h
theorem qP (t:List UInt8) (ht:t.length=32):FnIs Tryd.prog 22 [.d (encB (recB 1 0 t))] [] (.tup (.acons (.d (pv 2 1 0 t)) (.acons (.d (i6 0)) .anil))) []:=by
 have hl:=kF (s:=1) (c:=0) ht
 have htl:(byI t).length=32:=by rw[aB,ht]
 obtain⟨l,hll⟩:∃l,recB 1 0 t=l:=⟨_,rfl⟩
 have h1:=gU l 1 (by rw[←hll,hl]; decide)
 have h2:=gU (nonB 1 0++t) 12 (by simp[cG])
 have h3:=gU t 32 (by omega)
 rw[show l.take 1=[2] by rw[←hll]; rfl,show l.drop 1=nonB 1 0++t by rw[←hll]; rfl]at h1
 rw[List.take_left' (cG 1 0),List.drop_left' (cG 1 0)]at h2
 rw[List.take_of_length_le (by omega),List.drop_eq_nil_of_le (by omega)]at h3
 rw[hll]at hl ⊢
 refine aw aa Tryd.func22 rfl rfl rfl ?_;refine sR<|rN ?_;refine rC<|nR ?_;refine rC ?_;refine aS (c5 (oC l hl) rfl rfl (am (am aj)) (.inl rfl) rfl rfl) rfl ?_
 iterate 5 refine rC ?_
 refine zW<|zD ?_;refine zJ<|kS<|sR ?_;refine rC ?_;refine bx (c6 [(0,some 88)] h1 rfl rfl rfl rfl (aO rfl rfl (am aj)) ⟨zH,trivial⟩ rfl rfl (.inl rfl) rfl rfl) rfl ?_;refine rQ (bq (el:=(2:Int)) aa rfl rfl rfl rfl rfl (by decide) rfl) ?_;refine rQ iL ?_;refine rC<|nR ?_;refine rC ?_;refine bx (c6 [(0,some 88)] h2 rfl rfl rfl rfl (aO rfl rfl (am aj)) ⟨zH,trivial⟩ rfl rfl (.inl rfl) rfl rfl) rfl ?_;refine rQ (aq qx rfl rfl (am aj) (.inl rfl) (fun _=>rfl)) ?_;refine zU ?_;refine rN ?_;refine rW ?_;refine rC<|nQ ?_;refine aR (by kernel_rfl) ?_;refine dC [6] [] ?_;refine dQ [7] [240] iM ?_;refine dC [4] [] ?_;refine qW [32] [88] rfl (c6 [(0,some 88)] h3 rfl rfl rfl rfl (aO rfl rfl (am aj)) ⟨zH,trivial⟩ rfl rfl (.inl rfl) rfl rfl) ?_;refine dQ [33] [] (j6 aa rfl rfl htl rfl rfl) ?_;refine dQ [34] [] iL ?_;refine dQ [30,31,35] [] iS ?_;refine fb [] [] rfl (aE aa (fun K hk=>hk)) ?_;refine bG [9,36] [320] (aQ aa rfl rfl rfl ⟨_,⟨rfl,rfl,rfl⟩,rfl⟩ rfl) ?_;refine aM (by kernel_rfl)<|bm<|qR ?_;refine rQ iM ?_;refine rQ (aq (jb 1 0 t) rfl rfl (am aj) (.inl rfl) (fun _=>rfl)) ?_;refine rC<|nR ?_;refine zD ?_;refine zJ<|kS<|sR ?_;refine rQ iM ?_;refine rW ?_;refine rC<|zT ?_
 exact⟨trivial,_,rfl,[],lf⟩
end Go.Proofs.YtmapiehigkfddaaDoor
namespace Go.Proofs.YtmapiehigkfddaaDoor
open Go.Eng Go.Plain
set_option maxHeartbeats 32000000
set_option maxRecDepth 20000
attribute [local irreducible] WC RegS RegD SeqQ BlkQ ScoQ RegK CutK Sat SatN FnIs LoopQ ab OpIs
structure kf where
 nonce:kg
 first:Int
 last:Int
 deriving DecidableEq
def px (r:kf):D :=.cons (bO r.nonce) (.cons (u32s r.first) (.cons (u32s r.last) .nil))
structure LUse where
 key:List Int
 range:kf
 deriving DecidableEq
abbrev j0 (k:List Int):D :=.vec 16 1 aF k
def cm (u:LUse):D :=.cons (j0 u.key) (.cons (px u.range) .nil)
structure fZ where
 key:List Int
 nonce:kg
 deriving DecidableEq
def iq (p:fZ):D :=.cons (j0 p.key) (.cons (bO p.nonce) .nil)
abbrev di (l:List LUse):D :=.cons (.arr 20 cm l) .nil
abbrev lZ (r n:Nat) (c:Option Nat):AV :=.acons (.own r 0 n 20 c) (.d .nil)
abbrev rowU (ex:Bool) (l:List LUse):Row :=.ds 80 20 ex cm l
theorem mX (a b:kg):EqOk Tryd.prog 2 57 (bO a) (bO b) (decide (a=b)):=by
 refine (jq (P:=Tryd.prog) Tryd.underlying57 (by kernel_rfl) rfl rfl (fy aa rfl (by kernel_rfl) rfl rfl (io (P:=Tryd.prog) Tryd.underlying55) rfl (fy aa rfl (by kernel_rfl) rfl rfl (io (P:=Tryd.prog) Tryd.underlying49) rfl m9))).cast ?_
 cases a; cases b
 simp
theorem qI (a b:List Int):EqOk Tryd.prog 2 37 (j0 a) (j0 b) (decide (a=b)):=
 mf aa (P:=Tryd.prog) Tryd.underlying37 rfl (fun _=>rfl) rfl (fun _ _=>io (P:=Tryd.prog) Tryd.underlying5)
theorem tR (a b:fZ):EqOk Tryd.prog 3 124 (iq a) (iq b) (decide (a=b)):=by
 refine (jq (P:=Tryd.prog) Tryd.underlying124 (by kernel_rfl) rfl rfl (fy aa rfl (by kernel_rfl) rfl rfl (qI _ _) rfl (fy aa rfl (by kernel_rfl) rfl rfl (mX _ _) rfl m9))).cast ?_
 cases a; cases b
 simp
theorem r8 (p:fZ):gu Tryd.prog 3 124 (iq p):=
 hU (P:=Tryd.prog) Tryd.underlying124 rfl (eL aa rfl (by kernel_rfl) rfl (qN aa (P:=Tryd.prog) Tryd.underlying37 rfl (fun _=>rfl) rfl (fun _=>jV (P:=Tryd.prog) Tryd.underlying5)) rfl
  (eL aa rfl (by kernel_rfl) rfl (hU (P:=Tryd.prog) Tryd.underlying57 rfl (eL aa rfl (by kernel_rfl) rfl (jV (P:=Tryd.prog) Tryd.underlying55) rfl (eL aa rfl (by kernel_rfl) rfl (jV (P:=Tryd.prog) Tryd.underlying49) rfl kT))) rfl kT))
theorem qG (p:fZ):(iq p).keyd :=
 ⟨fun x n=>by cases n <;> simp[Instr.sameBits],⟨fun n=>by cases n <;> simp[Instr.sameBits],fun n=>by cases n <;> simp[Instr.sameBits],trivial⟩,trivial⟩
theorem o9:fG Tryd.prog 124 iq 3 :=
 l8 (by decide) (by rw[Tryd.underlying124]) r8 tR qG
theorem iX:fY Tryd.prog 125 (.sc (.slice none 0 0)):=pP (by kernel_rfl) rfl
abbrev bZ (u:LUse):Bool:=decide (u.range.first≤u.range.last)
theorem gM (u:LUse):FnIs Tryd.prog 55 [.d (cm u)] [] (.bool (bZ u)) []:=by
 refine aw aa Tryd.func55 rfl rfl rfl ?_;refine sR<|rN ?_;refine rC<|nR ?_;refine zD ?_;refine rQ iB ?_;refine zD ?_;refine rQ iB ?_;refine zD<|zT ?_
 exact⟨trivial,[],lf⟩
def chkL (l:List LUse):Int:=if (l.length:Int)>65536 then 3 else if l.all bZ=true then 0 else 1
structure ew (l:List LUse) (i:Nat):Prop where
 le:i≤l.length
 all:(l.take i).all bZ=true
theorem ew.zero (l:List LUse):ew l 0:=⟨Nat.zero_le _,by simp⟩
theorem ew.go {l:List LUse} {i:Nat} {u:LUse} (h:ew l i) (hu:l[i]?=some u) (hv:bZ u=true):ew l (i+1):=by
 obtain⟨hlt,he⟩:=List.getElem?_eq_some_iff.1 hu
 refine⟨hlt,?_⟩
 rw[List.take_add_one,hu]
 simp[h.all,hv]
theorem ew.bad {l:List LUse} {i:Nat} {u:LUse} (hu:l[i]?=some u) (hv:bZ u=false):l.all bZ=false:=by
 obtain⟨hlt,he⟩:=List.getElem?_eq_some_iff.1 hu
 rw[List.all_eq_false]
 exact⟨u,List.mem_of_getElem? hu,by simp[hv]⟩
theorem ew.end {l:List LUse} {i:Nat} (h:ew l i) (hi:i=l.length):l.all bZ=true:=by
 have:=h.all
 rwa [hi,List.take_length]at this
theorem gh (l:List LUse):FnIs Tryd.prog 54 [.d (di l)] [] (.int .i64 (chkL l)) []:=by
 refine aw aa Tryd.func54 rfl rfl rfl ?_;refine sR<|rN ?_;refine rC<|zW ?_;refine rC ?_;refine rQ iB ?_;refine rQ iE ?_;refine rC<|nS ?_
 refine cg rfl (fun h1=>?_) (fun h1=>?_)
 ·refine sR<|rC<|zT<|fk ?_
  exact⟨trivial,[],lg ⟨⟨_,rfl,AVLe.of_eq (by rw[chkL,if_pos (by simpa using h1)]; rfl)⟩,rfl,trivial⟩ trivial⟩
 ·have hL:l.length≤65536:=by have:=of_decide_eq_false h1; omega
  have hc:chkL l=if l.all bZ=true then 0 else 1:=by rw[chkL,if_neg (by simpa using h1)]
  refine kS<|qR<|rC ?_;refine rQ iB ?_;refine rQ iE ?_;refine rC<|zP ?_
  refine wc_inv (fun i:Nat=>⟨[(12,.int .i64 i),(11,.int .i64 l.length),(10,.d (.arr 20 cm l))],[],72,Tryd.f54.ntmps,64⟩) (ew l) (fun i=>l.length-i) 0 [] (ew.zero l)
   (lg zj trivial) ?_
  intro i hinv
  have hi:=hinv.le
  refine bk<|sR ?_;refine rC<|nQ ?_
  refine cg rfl (fun h2=>?_) (fun h2=>?_)
  ·have hlt:i<l.length:=by have:=of_decide_eq_true h2; omega
   obtain⟨u,hu⟩:∃u,l[i]?=some u:=⟨_,List.getElem?_eq_getElem hlt⟩
   have hu':l[((i:Int)).toNat]?=some u:=by rw[Int.toNat_natCast]; exact hu
   cases hv:bZ u with
   | true =>
    have hn:(!bZ u)=false:=by rw[hv]; rfl
    refine zQ<|zS<|rQ iA ?_;refine rQ iL ?_;refine rN ?_;refine rW<|nR ?_;refine rQ iM ?_;refine rQ (aq (gM u) rfl rfl (am aj) (.inl rfl) (fun _=>rfl)) ?_;refine rC ?_;refine zG<|bR<|zC<|ao ?_;refine rQ iD ?_;refine rC<|aA ?_;refine aT (i+1) [] (hinv.go hu hv) (by omega) ?_
    exact lg zj trivial
   | false =>
    have hn:(!bZ u)=true:=by rw[hv]; rfl
    refine zQ<|zS<|rQ iA ?_;refine rQ iL ?_;refine rN ?_;refine rW<|nR ?_;refine rQ iM ?_;refine rQ (aq (gM u) rfl rfl (am aj) (.inl rfl) (fun _=>rfl)) ?_;refine rC ?_;refine zI<|sR ?_;refine rC<|zT<|zB<|pa<|zB ?_
    refine⟨trivial,[],lg ⟨⟨_,rfl,AVLe.of_eq ?_⟩,rfl,trivial⟩ trivial⟩
    rw[hc,ew.bad hu hv]
    rfl
  ·have he:i=l.length:=by have:=of_decide_eq_false h2; omega
   refine zX<|sR<|rC<|zT ?_
   refine⟨trivial,[],lg ⟨⟨_,rfl,AVLe.of_eq ?_⟩,rfl,trivial⟩ trivial⟩
   rw[hc,hinv.end he]
   rfl
def jg (a b:kf):Bool:=if decide (a.first>a.last)||decide (b.first>b.last) then false else decide (a.nonce=b.nonce)&&decide (max a.first b.first≤min a.last b.last)
theorem l4 (a b:kf):FnIs Tryd.prog 57 [.d (px a),.d (px b)] [] (.bool (jg a b)) []:=by
 refine aw aa Tryd.func57 rfl rfl rfl ?_;refine sR ?_;iterate 2 refine rN ?_
 refine rC<|nQ ?_;refine lF 16 (.bool (decide (a.first>a.last)||decide (b.first>b.last))) _ rfl ?_ ?_
 ·refine rC ?_;refine rQ iB ?_;refine rC ?_;refine rQ iB ?_;refine zD ?_
  refine nB rfl rfl rfl (fun hb=>?_) (fun hb=>?_)
  refine rO ?_;refine rC ?_;refine rO ?_;refine rQ iB ?_;refine rO ?_;refine rC ?_;refine rO ?_;refine rQ iB ?_;refine rO ?_;refine rC ?_;refine rQ iF ?_
  rotate_left
  iterate 5 refine rS ?_
  refine rQ iT ?_
  rotate_left
  all_goals refine qh 12 rfl rfl rfl rfl rfl rfl rfl rfl rfl (AVLe.of_eq ?_)
  all_goals (first | rfl | (clear q5; simp_all; done) | (simp_all; done) | (simp_all; omega))
 refine cg rfl (fun h1=>?_) (fun h1=>?_)
 ·refine sR<|rC<|zT<|fk ?_
  exact⟨trivial,[],lg ⟨⟨_,rfl,AVLe.of_eq (by rw[jg,if_pos h1]; rfl)⟩,rfl,trivial⟩ trivial⟩
 ·cases hk:decide (a.nonce=b.nonce) with
  | true =>
   refine kS<|sR<|rC ?_;refine rQ iB ?_;refine rC ?_;refine rQ iB ?_;refine rQ (k8 rfl rfl rfl rfl (by kernel_rfl) (by decide) (mX _ _)) ?_;refine rC ?_;refine rO ?_;refine rC ?_;refine rO ?_;refine rQ iB ?_;refine rO ?_;refine rC ?_;refine rO ?_;refine rQ iB ?_;refine rO ?_;refine rQ (qD rfl rfl rfl) ?_;refine rO ?_;refine rC ?_;refine rO ?_;refine rQ iB ?_;refine rO ?_;refine rC ?_;refine rO ?_;refine rQ iB ?_;refine rO ?_;refine rQ (qC rfl rfl rfl) ?_;refine rO ?_;refine rC ?_;refine rQ iT ?_;refine rC<|zT ?_
   exact⟨trivial,[],lg ⟨⟨_,rfl,AVLe.of_eq (by rw[jg,if_neg (by rw[h1]; simp),hk]; rfl)⟩,rfl,trivial⟩ trivial⟩
  | false =>
   refine kS<|sR<|rC ?_;refine rQ iB ?_;refine rC ?_;refine rQ iB ?_;refine rQ (k8 rfl rfl rfl rfl (by kernel_rfl) (by decide) (mX _ _)) ?_;refine rC ?_;iterate 11 refine rS ?_
   refine rQ iF ?_;refine rC<|zT ?_
   exact⟨trivial,[],lg ⟨⟨_,rfl,AVLe.of_eq (by rw[jg,if_neg (by rw[h1]; simp),hk]; rfl)⟩,rfl,trivial⟩ trivial⟩
theorem qO (m:Nat) (hm:0<m) (hlen:m≤1048576):FnIs Tryd.prog 74 [.d (.sc nil_),.int .i64 m] [] (.own 64 0 0 20 none) [(64,rowU false [])]:=by
 have d0:decide ((m:Int)<0)=false:=dF (by omega)
 have d1:decide (0<(m:Int))=true:=dT (by omega)
 have hw:IntKind.i64.wrap ((m:Int)-0)=m:=by rw[Int.sub_zero]; exact aJ (by omega) (by omega)
 refine aw aa Tryd.func74 rfl rfl rfl ?_;refine sR<|rC<|zW ?_;refine zD ?_;refine zJ<|kS<|qR ?_;refine zD ?_;refine rQ (ni aa rfl rfl) ?_;refine rC ?_;refine rQ (jU aa rfl rfl) ?_;refine rQ (bI (m:=0) aa rfl rfl rfl) ?_;refine rQ (bI (m:=(m:Int)) aa rfl rfl hw) ?_;refine rC<|nR ?_;refine zD ?_;refine zI<|ao ?_;refine zD ?_;refine rQ (ni aa rfl rfl) ?_;refine rQ (ox aa rfl rfl rfl rfl) ?_;refine rC ?_;refine aS (j8 (m:=m) (s:=20) (e:=80) (re:=r80) aa cm rfl Tryd.underlying3 rfl rfl rfl rfl rfl hm hlen rfl) rfl ?_;refine rC ?_;refine rQ (jU aa rfl rfl) ?_;refine rQ (jI aa rfl rfl rfl rfl (Nat.zero_le _)) ?_;refine rC<|nR ?_;refine zD<|zT ?_
 exact⟨trivial,[(64,some 208)],lg zV ⟨zR,trivial⟩⟩
theorem pF (l:List LUse) (n:Nat) (ex:Bool):FnIs Tryd.prog 67 [.own 0 0 n 20 none] [(0,rowU ex l)] (.own 0 0 n 20 (some n)) [(0,rowU ex l)]:=by
 refine aw aa Tryd.func67 rfl rfl rfl ?_;refine sR<|rC<|nR ?_;refine zD ?_;refine rQ (eK aa rfl rfl) ?_;refine rC ?_;refine rQ (eK aa rfl rfl) ?_;refine rQ (lQ aa rfl rfl rfl rfl rfl) ?_;refine rC<|nS<|cY ?_
 exact⟨trivial,[],lg zV ⟨zR,trivial⟩⟩
abbrev js (x:List LUse):D :=.arr 20 cm x
abbrev FL (ls:List (List LUse)) (i:Nat):Nat:=(ls.take i).flatten.length
theorem rm {ls:List (List LUse)} {i:Nat} {x:List LUse} (h:ls[i]?=some x):(ls.take (i+1)).flatten=(ls.take i).flatten++x:=by
 rw[List.take_add_one,h]
 simp
theorem rl (ls:List (List LUse)) (i:Nat):FL ls i≤ls.flatten.length:=by
 have:=congrArg List.flatten (List.take_append_drop i ls)
 rw[List.flatten_append]at this
 have:=congrArg List.length this
 rw[List.length_append]at this
 simp only[FL]
 omega
theorem nZ (ls:List (List LUse)) (hp:0<ls.flatten.length) (hL:ls.flatten.length≤1048576) (hn:ls.length≤1000000):FnIs Tryd.prog 68 [.d (.arr 1 js ls)] [] (.own 64 0 ls.flatten.length 20 none) [(64,rowU false ls.flatten)]:=by
 refine aw aa Tryd.func68 rfl rfl rfl ?_;refine sR<|rC<|nR ?_;refine rC<|zW ?_;refine rC ?_;refine rQ iE ?_;refine rC<|zP ?_
 refine wc_inv (fun i:Nat=>⟨[(11,.int .i64 i),(10,.int .i64 ls.length),(9,.d (.arr 1 js ls)),(3,.int .i64 (FL ls i)),(0,.d (.arr 1 js ls))],[],72,Tryd.f68.ntmps,64⟩) (fun i=>i≤ls.length) (fun i=>ls.length-i) 0 [] (Nat.zero_le _)
  (lg zh trivial) ?_
 intro i hi
 refine bk<|sR ?_;refine rC<|nQ ?_
 refine cg rfl (fun h2=>?_) (fun h2=>?_)
 ·have hlt:i<ls.length:=by have:=of_decide_eq_true h2; omega
  obtain⟨x,hx⟩:∃u,ls[i]?=some u:=⟨_,List.getElem?_eq_getElem hlt⟩
  have hx':ls[((i:Int)).toNat]?=some x:=by rw[Int.toNat_natCast]; exact hx
  have hg:FL ls (i+1)=FL ls i+x.length:=by simp only[FL,rm hx,List.length_append]
  have hle:=rl ls (i+1)
  have hw:IntKind.i64.wrap ((FL ls i:Int)+(x.length:Int))=(FL ls (i+1):Nat):=by rw[hg]; push_cast; exact aJ (by omega) (by omega)
  have d0:decide (((FL ls (i+1):Nat):Int)<0)=false:=dF (by omega)
  refine zQ<|zS<|rQ iA ?_;refine rQ iL ?_;refine rC<|nR ?_;refine zD ?_;refine rQ iE ?_;refine rQ (aY (m:=((FL ls (i+1):Nat):Int)) aa rfl rfl hw) ?_;refine rC<|nR ?_;refine zD ?_;refine zJ<|bR<|zC<|ao ?_;refine rQ iD ?_;refine rC<|aA ?_;refine aT (i+1) [] hlt (by omega) ?_
  exact lg zh trivial
 ·have he:i=ls.length:=by have:=of_decide_eq_false h2; omega
  subst he
  have hF:FL ls ls.length=ls.flatten.length:=by simp only[FL,List.take_length]
  rw[hF]
  refine zX<|sR<|rC ?_;refine aS (c5 (qO ls.flatten.length hp hL) rfl rfl (am (am aj)) (.inl rfl) rfl rfl) rfl ?_;refine rC<|zW ?_;refine rC ?_;refine rQ iE ?_;refine rC<|zP ?_
  refine wc_inv (fun i:Nat=>⟨[(27,.int .i64 i),(26,.int .i64 ls.length),(25,.d (.arr 1 js ls)),(6,.own 64 0 (FL ls i) 20 none)],[(64,some (rowU false (ls.take i).flatten))],72,Tryd.f68.ntmps,64⟩) (fun i=>i≤ls.length) (fun i=>ls.length-i) 0 [(64,some 88)] (Nat.zero_le _)
   (lg zi ⟨zR,trivial⟩) ?_
  intro i hi
  refine bk<|sR ?_;refine rC<|nQ ?_
  refine cg rfl (fun h2=>?_) (fun h2=>?_)
  ·have hlt:i<ls.length:=by have:=of_decide_eq_true h2; omega
   obtain⟨x,hx⟩:∃u,ls[i]?=some u:=⟨_,List.getElem?_eq_getElem hlt⟩
   have hx':ls[((i:Int)).toNat]?=some x:=by rw[Int.toNat_natCast]; exact hx
   have hg:=rm hx
   have hle:=rl ls (i+1)
   cases x with
   | nil =>
    rw[List.append_nil]at hg
    refine zQ<|zS<|rQ iA ?_;refine rQ iL ?_;refine rC<|nS<|ao ?_;refine zD ?_;refine rQ (j9 (α:=LUse) (s':=20) (enc:=cm) aa rfl rfl rfl rfl) ?_;refine rC<|aA<|zC<|ao ?_;refine rQ iD ?_;refine rC<|aA ?_;refine aT (i+1) [] hlt (by omega) ?_
    simp only[FL,hg]
    exact lg zi ⟨zR,trivial⟩
   | cons y ys =>
    have hgl:FL ls (i+1)=FL ls i+(y::ys).length:=by simp only[FL,hg,List.length_append]
    have hlen:((ls.take i).flatten).length+(y::ys).length≤1048576:=by rw[←hgl]; omega
    refine zQ<|zS<|rQ iA ?_;refine rQ iL ?_;refine rC<|nS<|ao ?_;refine zD ?_;refine bx (my (xs:=(ls.take i).flatten) (ys:=y::ys) (enc:=cm) (s:=20) (ex:=false) aa rfl rfl rfl rfl rfl rfl rfl (Nat.succ_pos _) hlen rfl) rfl ?_;refine rC<|aA<|zC<|ao ?_;refine rQ iD ?_;refine rC<|aA ?_;refine aT (i+1) [(64,some 120)] hlt (by omega) ?_
    rw[hgl,hg]
    exact lg zi ⟨zR,trivial⟩
  ·have he:i=ls.length:=by have:=of_decide_eq_false h2; omega
   subst he
   refine zX<|sR<|zD<|zT ?_
   simp only[FL,List.take_length]
   exact⟨trivial,[(64,some 64)],lg zV ⟨zR,trivial⟩⟩
theorem mu (l m:List LUse) (hp:0<(l++m).length) (hL:(l++m).length≤1048576):FnIs Tryd.prog 68 [.d (.arr 1 js [l,m])] [] (.own 64 0 (l++m).length 20 none) [(64,rowU false (l++m))]:=by
 have e:[l,m].flatten=l++m:=by simp
 have:=nZ [l,m] (by rw[e]; exact hp) (by rw[e]; exact hL) (by simp)
 rwa [e]at this
theorem nM (l m:List LUse) (hj:0<l.length+m.length) (hk:l.length+m.length≤65536):FnIs Tryd.prog 56 [.d (di l),.d (.arr 20 cm m)] [] (.tup (.acons (lZ 64 (l++m).length (some (l++m).length)) (.acons (.d (i6 0)) .anil))) [(64,rowU false (l++m))]:=by
 have hp:0<(l++m).length:=by simpa using hj
 have hL:(l++m).length≤1048576:=by simp; omega
 have d0:decide (65536<(l.length:Int)+(m.length:Int))=false:=dF (by omega)
 refine aw aa Tryd.func56 rfl rfl rfl ?_;refine sR ?_;iterate 2 refine rN ?_
 refine rC<|zW ?_;refine rC ?_;refine rQ iB ?_;refine rQ iE ?_;refine rC ?_;refine rQ iE ?_;refine rQ iD ?_;refine rC ?_;refine zG<|kS<|sR ?_;refine rC ?_;refine rQ iB ?_;refine rC ?_;refine aS (aH (s:=1) aa rfl rfl rfl rfl rfl rfl rfl rfl) rfl ?_;refine ct (env':=[(17,_),(4,_)]) (h':=[(72,some _)]) 168 _ rfl ⟨⟨_,rfl,Frz.lits2 (enc:=js) l m rfl rfl rfl rfl⟩,zE,trivial⟩ ⟨⟨rfl,_,rfl,.refl _⟩,trivial⟩ ?_;refine aS (c5 (mu l m hp hL) rfl rfl (am aj) (.inl rfl) rfl rfl) rfl ?_;refine bx (dk [(0,some 176)] (pF (l++m) (l++m).length false) rfl rfl rfl (lw rfl rfl aj) ⟨zH,trivial⟩ rfl rfl (.inl rfl) rfl rfl) rfl ?_;refine rQ iS ?_;refine rW ?_;refine rC<|zT ?_
 exact⟨trivial,_,rfl,[(64,some 176)],lg zV ⟨zR,trivial⟩⟩
theorem qL (l:List LUse) (u:LUse) (h0:chkL l=0) (hv:bZ u=true) (hk:l.length+1≤65536):FnIs Tryd.prog 25 [.d (di l),.d (cm u)] [] (.tup (.acons (lZ 64 (l++[u]).length (some (l++[u]).length)) (.acons (.d (i6 0)) .anil))) [(64,rowU false (l++[u]))]:=by
 have hC:=gh l
 rw[h0]at hC
 have hn:(!bZ u)=false:=by rw[hv]; rfl
 refine aw aa Tryd.func25 rfl rfl rfl ?_;refine sR ?_;iterate 3 refine rN ?_
 refine rC<|zW ?_;refine rQ iM ?_;refine rQ (aq hC rfl rfl (am aj) (.inl rfl) (fun _=>rfl)) ?_;refine rC<|nR ?_;refine zD ?_;refine zJ<|kS<|qR ?_;refine rQ iM ?_;refine rQ (aq (gM u) rfl rfl (am aj) (.inl rfl) (fun _=>rfl)) ?_;refine rC ?_;refine zG<|kS<|sR ?_;iterate 2 refine rQ iM ?_
 refine aS (aH (s:=20) aa rfl rfl rfl rfl rfl rfl rfl rfl) rfl ?_;refine ct (env':=[(19,_),(17,_),(4,_)]) (h':=[(80,some _)]) 176 _ rfl ⟨⟨_,rfl,Frz.lits1 (enc:=cm) u rfl rfl⟩,zE,zE,trivial⟩ ⟨⟨rfl,_,rfl,.refl _⟩,trivial⟩ ?_;refine aS (c5 (nM l [u] (by simp) hk) rfl rfl (am (am aj)) (.inl rfl) rfl rfl) rfl ?_;refine zD ?_;refine rW ?_;refine rC<|zT ?_
 exact⟨trivial,_,rfl,[(64,some 184)],lg zV ⟨zR,trivial⟩⟩
end Go.Proofs.YtmapiehigkfddaaDoor
