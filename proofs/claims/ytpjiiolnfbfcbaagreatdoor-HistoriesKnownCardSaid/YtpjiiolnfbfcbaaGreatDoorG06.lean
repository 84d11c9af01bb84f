/- Texts of the proof: H20, H22, H13, H23, H24, H27, H28, H29, H25, H26, H30, H31, H32, P46, P47a, P47, P48, HW, H33, H34, Eng111, Eng112, Eng113, Eng114, Eng115, Eng116, Eng117, Eng118, Eng119, Eng103, HF1, HF6. -/
import Derived.Test.YtpjiiolnfbfcbaaGreatDoorG05
import Derived.Test.YtpjiiolnfbfcbaaGreatDoorG04
import Derived.Test.YtpjiiolnfbfcbaaGreatDoorG02
import Derived.Test.YtpjiiolnfbfcbaaGreatDoorG03

set_option linter.unusedVariables false
set_option linter.unusedSimpArgs false
set_option linter.unusedSectionVars false
set_option maxRecDepth 10000

namespace Go.Proofs.YtpjiiolnfbfcbaaGreatDoor
open Go.Eng Go.Plain
set_option maxHeartbeats 32000000
set_option maxRecDepth 20000
attribute [local irreducible] WC RegS RegD SeqQ BlkQ ScoQ RegK CutK Sat SatN FnIs LoopQ an OpIs
def g8 (l:List XE):D :=.cons (.arr 3 xa l) .nil
def kh:List Int:=[0,0,0,0,0,1,8,9]
def errX (y:HEv) (x:XE):Int:=if badO y.op 3&&decide (x.what.toNat<200) then 1 else kh[x.what.toNat % 8]?.getD 0
def cb (out:List HEv) (x:XE):List HEv :=
 if x.who.toNat % 4=3∧x.what.toNat≤20 then out++[⟨3,0,zOp,zBk,0⟩]
 else if pend out ((x.who.toNat % 4 % 3:Nat):Int)<0 then out++[⟨1,((x.who.toNat % 4 % 3:Nat):Int),opX x,zBk,0⟩]
 else match out[(pend out ((x.who.toNat % 4 % 3:Nat):Int)).toNat]? with
  | none=>out
  | some y=>out++[⟨2,((x.who.toNat % 4 % 3:Nat):Int),zOp,if y.op.kind=1∧errX y x=0 then List.replicate 32 (blkB x.data) else zBk,errX y x⟩]
def hOf (l:List XE):List HEv:=(l.take 24).foldl cb []
theorem dE (k c e:Int):DLe (.cons (u8s k) (.cons (i6 c) (.cons zPOp (.cons (.vec 32 1 bE (List.replicate 32 0)) (.cons (i6 e) .nil))))) (aY ⟨k,c,zOp,zBk,e⟩):=by
 rintro w X cs ⟨c1,r1,rfl,h1,c2,r2,rfl,h2,c3,r3,rfl,h3,h4⟩
 exact⟨c1,_,rfl,h1,c2,_,rfl,h2,c3,_,rfl,hY _ _ _ h3,h4⟩
theorem ub (out:List HEv) (x:XE):(cb out x).length≤out.length+1:=by
 unfold cb
 split
 ·simp
 ·split
  ·simp
  ·split <;> simp
theorem kJ:∀(l:List XE) (out:List HEv),(l.foldl cb out).length≤out.length+l.length
 | [],out=>by simp
 | x::l,out=>by
  have h1:=kJ l (cb out x)
  have h2:=ub out x
  simp only[List.foldl_cons,List.length_cons]
  omega
theorem su {l:List XE} {i:Nat} {x:XE} (hx:l[i]?=some x):(l.take (i+1)).foldl cb []=cb ((l.take i).foldl cb []) x:=by
 rw[List.take_add_one,hx,Option.toList_some,List.foldl_append]; rfl
theorem ym (l:List XE):FnIs Tryz.prog 28 [.d (g8 l)] [] (.own 64 0 (hOf l).length 38 none) [(64,.ds 32 38 false aY (hOf l))]:=by
 refine au aa Tryz.func28 rfl rfl rfl ?_;refine sR<|rN ?_;refine rC<|nR ?_;refine rC<|zW ?_;refine rC<|nS<|aZ ?_
 refine wc_inv (fun q:Nat×List HEv=>⟨[(4,.int .i64 q.1),(3,.own 65 0 q.2.length 38 none),(1,.ptr 64 [])],[(64,some (.box 50 (.d (g8 l)))),(65,some (.ds 32 38 false aY q.2))],72,Tryz.f28.ntmps,64⟩) (fun q=>q.1≤l.length∧q.1≤24∧q.2=(l.take q.1).foldl cb []) (fun q=>24-q.1) (0,[]) [(64,some 64),(65,none)] ⟨Nat.zero_le _,Nat.zero_le _,rfl⟩
  (lg zj ⟨zR,⟨rfl,rfl,rfl⟩,trivial⟩) ?_
 rintro⟨i,out⟩ ⟨hi,h24,hout⟩
 simp only at hi h24 hout
 have hol:out.length≤24:=by
  have:=kJ (l.take i) []
  rw[←hout,List.length_take]at this
  simp at this; omega
 have hal:out.length+1≤1048576:=by omega
 have hpl:out.length≤9223372036854775807:=by omega
 refine bG<|qR ?_;refine zD ?_;refine rQ iB ?_;refine rQ iE ?_;refine zD ?_
 by_cases hlt:i<l.length
 ·have c1:decide ((i:Int)<(l.length:Int))=true:=dT (by omega)
  refine rO ?_;refine rC ?_;refine rO ?_;refine rC ?_;refine rQ iT<|nS ?_
  by_cases h24:i<24
  ·have c2:decide ((i:Int)<24)=true:=dT (by omega)
   obtain⟨x,hx⟩:∃u,l[i]?=some u:=⟨_,List.getElem?_eq_getElem hlt⟩
   have hx':l[((i:Int)).toNat]?=some x:=by rw[Int.toNat_natCast]; exact hx
   have hx1:=x.who.toNat_lt
   have hx2:=x.what.toNat_lt
   have hwc:IntKind.i64.wrap ((x.who.toNat % 4:Nat):Int)=((x.who.toNat % 4:Nat):Int):=aO (by omega) (by omega)
   have hfx:=su hx
   rw[←hout]at hfx
   refine wT<|zQ<|zS ?_;refine rC ?_;refine rQ iB ?_;refine rC ?_;refine rQ (aF aa rfl rfl rfl rfl rfl (by omega) hx') ?_;refine rQ iL ?_;refine rN ?_;refine rW<|nR ?_;refine rC ?_;refine rQ iB ?_;refine rQ (bH (a:=x.who.toNat) (b:=4) aa rfl rfl rfl (by decide)) ?_;refine rQ (bf (m:=((x.who.toNat % 4:Nat):Int)) aa rfl rfl rfl hwc) ?_;refine rC<|zW ?_;refine zU ?_
   by_cases w3:x.who.toNat % 4=3
   ·have d3:decide (((x.who.toNat % 4:Nat):Int)=3)=true:=dT (by omega)
    refine rO ?_;refine rC ?_;refine rO ?_;refine rQ iB ?_;refine rO ?_;refine rC ?_;refine rQ iT<|nS ?_
    by_cases w20:x.what.toNat≤20
    ·have d20:decide ((x.what.toNat:Int)≤20)=true:=dT (by omega)
     have hst:cb out x=out++[⟨3,0,zOp,zBk,0⟩]:=by rw[cb,if_pos ⟨w3,w20⟩]
     have hl1:out.length+1=(out++[(⟨3,0,zOp,zBk,0⟩:HEv)]).length:=by simp
     refine wT<|sR ?_;refine rC ?_;refine rQ (an.val_le (aX aa rfl rfl rfl rfl) (dE 3 0 0) rfl) ?_;refine aJ (aC (s:=38) aa rfl rfl rfl rfl rfl rfl rfl rfl) rfl ?_;refine aT (aR (enc:=aY) (s:=38) (xs:=out) aa ⟨3,0,zOp,zBk,0⟩ rfl rfl rfl rfl rfl rfl rfl rfl rfl hal rfl) rfl ?_;refine rC<|nS<|cv<|ew<|eD<|aM<|am ?_;refine rC ?_;refine rQ iD ?_;refine rC<|aA ?_
     exact aN (i+1,out++[⟨3,0,zOp,zBk,0⟩]) [(64,some 64),(65,some _)] ⟨hlt,h24,by rw[hfx,hst]⟩ (by show 24-(i+1)<24-i; omega) (lg ⟨zE,rfl,⟨_,rfl,AVLe.of_eq (congrArg (fun n=>AV.own _ 0 n 38 none) hl1)⟩,rfl,zE,rfl,trivial⟩ ⟨zR,zR,trivial⟩)
    ·have d20:decide ((x.what.toNat:Int)≤20)=false:=dF (by omega)
     have hns:¬(x.who.toNat % 4=3∧x.what.toNat≤20):=by omega
     refine wF<|kS<|sR ?_;refine rC ?_;refine rQ (bH (a:=x.who.toNat % 4) (b:=3) aa rfl rfl rfl (by decide)) ?_;refine rC<|nR ?_;refine zD ?_;refine rQ (ak (l4 out ((x.who.toNat % 4 % 3:Nat):Int) hpl) rfl rfl (jt rfl (aj ab)) (.inr (cG.sc _)) (fun _=>rfl)) ?_;refine rC<|zW ?_;refine zD<|nS ?_
     by_cases hp:pend out ((x.who.toNat % 4 % 3:Nat):Int)<0
     ·have dp:decide (pend out ((x.who.toNat % 4 % 3:Nat):Int)<0)=true:=dT hp
      have hst:cb out x=out++[⟨1,((x.who.toNat % 4 % 3:Nat):Int),opX x,zBk,0⟩]:=by rw[cb,if_neg hns,if_pos hp]
      have hl1:out.length+1=(out++[(⟨1,((x.who.toNat % 4 % 3:Nat):Int),opX x,zBk,0⟩:HEv)]).length:=by simp
      refine wT<|sR ?_;refine zD ?_;refine rQ iM ?_;refine rQ (ak (wj x) rfl rfl (aj ab) (.inl rfl) (fun _=>rfl)) ?_;refine rQ iS ?_;refine aJ (aC (s:=38) aa rfl rfl rfl rfl rfl rfl rfl rfl) rfl ?_;refine aT (aR (enc:=aY) (s:=38) (xs:=out) aa ⟨1,((x.who.toNat % 4 % 3:Nat):Int),opX x,zBk,0⟩ rfl rfl rfl rfl rfl rfl rfl rfl rfl hal rfl) rfl ?_;refine rC<|nS<|cv<|ew<|eD<|aM<|am ?_;refine rC ?_;refine rQ iD ?_;refine rC<|aA ?_
      exact aN (i+1,out++[⟨1,((x.who.toNat % 4 % 3:Nat):Int),opX x,zBk,0⟩]) [(64,some 64),(65,some _)] ⟨hlt,h24,by rw[hfx,hst]⟩ (by show 24-(i+1)<24-i; omega) (lg ⟨zE,rfl,⟨_,rfl,AVLe.of_eq (congrArg (fun n=>AV.own _ 0 n 38 none) hl1)⟩,rfl,zE,rfl,trivial⟩ ⟨zR,zR,trivial⟩)
     ·have dp:decide (pend out ((x.who.toNat % 4 % 3:Nat):Int)<0)=false:=dF hp
      have hpi:=oJ out ((x.who.toNat % 4 % 3:Nat):Int)
      have hge:0≤pend out ((x.who.toNat % 4 % 3:Nat):Int):=by omega
      have hlp:pend out ((x.who.toNat % 4 % 3:Nat):Int)<(out.length:Int):=hpi.2
      obtain⟨y,hy⟩:∃y,out[(pend out ((x.who.toNat % 4 % 3:Nat):Int)).toNat]?=some y:=⟨_,List.getElem?_eq_getElem (by omega)⟩
      obtain⟨e0,he0⟩:∃e0,kh[x.what.toNat % 8]?=some e0:=⟨_,List.getElem?_eq_getElem (Nat.mod_lt _ (by decide))⟩
      have hE:kh[(((x.what.toNat % 8:Nat):Int)).toNat]?=some e0:=by rw[Int.toNat_natCast]; exact he0
      have hs0:cb out x=out++[⟨2,((x.who.toNat % 4 % 3:Nat):Int),zOp,if y.op.kind=1∧errX y x=0 then List.replicate 32 (blkB x.data) else zBk,errX y x⟩]:=by rw[cb,if_neg hns,if_neg hp,hy]
      have hb:=sZ y.op 3
      obtain⟨bad,hbad⟩:∃b,badO y.op 3=b:=⟨_,rfl⟩
      obtain⟨lo,hlo⟩:∃b,decide (x.what.toNat<200)=b:=⟨_,rfl⟩
      have hlo':decide ((x.what.toNat:Int)<200)=lo:=by rw[←hlo]; exact decide_eq_decide.2 (by omega)
      rw[hbad]at hb
      unfold r01 at hb
      refine wF<|kS<|sR ?_;refine rC ?_;refine rQ (an.frozen (aC (s:=1) aa rfl rfl rfl rfl rfl rfl rfl rfl) (Frz.litsN (enc:=i6) [0,0,0,0,0,1,8,9] rfl (fun _ _=>rfl))) ?_;refine rC ?_;refine rQ iB ?_;refine rQ (bH (a:=x.what.toNat) (b:=8) aa rfl rfl rfl (by decide)) ?_;refine rQ (aF (xs:=kh) aa rfl rfl rfl rfl rfl (by omega) hE) ?_;refine rQ iL ?_;refine rQ (an.val_le (aX aa rfl rfl rfl rfl) (dE 2 ((x.who.toNat % 4 % 3:Nat):Int) e0) rfl) ?_;refine rN ?_;refine rW<|zW ?_;refine zD ?_;refine rQ (br aa rfl rfl rfl rfl rfl hge hlp) ?_;refine rC ?_;refine rQ (bU aa rfl rfl ⟨rfl,y,hy,_,rfl,rfl⟩ rfl) ?_;refine rQ (ak hb rfl rfl (aj (aj ab)) (.inl rfl) (fun _=>rfl)) ?_;refine zD ?_
      cases bad with
      | true =>
       rw[if_pos rfl]at hb
       refine rP ?_;refine rC ?_;refine rP ?_;refine rQ iB ?_;refine rP ?_;refine rC ?_;refine rQ iU<|nS ?_
       cases lo with
       | true =>
        have heX:errX y x=1:=by rw[errX,hbad,hlo]; rfl
        rw[heX]at hs0
        refine wT<|am ?_;refine rC ?_;refine rX<|zW ?_;refine zD ?_;refine rQ (br aa rfl rfl rfl rfl rfl hge hlp) ?_;refine zD ?_;refine rQ (bU aa rfl rfl ⟨rfl,y,hy,_,rfl,rfl⟩ rfl) ?_;refine zD ?_
        by_cases hk:y.op.kind=1
        ·have dk:decide (y.op.kind=1)=true:=dT hk
         have hst:cb out x=out++[⟨2,((x.who.toNat % 4 % 3:Nat):Int),zOp,zBk,1⟩]:=by rw[hs0,if_neg (by omega)]
         have hl1:out.length+1=(out++[(⟨2,((x.who.toNat % 4 % 3:Nat):Int),zOp,zBk,1⟩:HEv)]).length:=by simp
         refine rO ?_;refine rC ?_;refine rO ?_;refine rQ iB ?_;refine rO ?_;refine rC ?_;refine rQ iT ?_;refine zJ<|kS<|am ?_;refine rC ?_;refine rQ iM ?_;refine aJ (aC (s:=38) aa rfl rfl rfl rfl rfl rfl rfl rfl) rfl ?_;refine aT (aR (enc:=aY) (s:=38) (xs:=out) aa ⟨2,((x.who.toNat % 4 % 3:Nat):Int),zOp,zBk,1⟩ rfl rfl rfl rfl rfl rfl rfl rfl rfl hal rfl) rfl ?_;refine rC<|aA<|zC<|am ?_;refine rC ?_;refine rQ iD ?_;refine rC<|aA ?_
         exact aN (i+1,out++[⟨2,((x.who.toNat % 4 % 3:Nat):Int),zOp,zBk,1⟩]) [(64,some 64),(65,some _)] ⟨hlt,h24,by rw[hfx,hst]⟩ (by show 24-(i+1)<24-i; omega) (lg ⟨zE,rfl,⟨_,rfl,AVLe.of_eq (congrArg (fun n=>AV.own _ 0 n 38 none) hl1)⟩,rfl,zE,rfl,trivial⟩ ⟨zR,zR,trivial⟩)
        ·have dk:decide (y.op.kind=1)=false:=dF hk
         have hst:cb out x=out++[⟨2,((x.who.toNat % 4 % 3:Nat):Int),zOp,zBk,1⟩]:=by rw[hs0,if_neg (fun h=>hk h.1)]
         have hl1:out.length+1=(out++[(⟨2,((x.who.toNat % 4 % 3:Nat):Int),zOp,zBk,1⟩:HEv)]).length:=by simp
         iterate 3 refine rS ?_
         refine rQ iF ?_;refine zJ<|kS<|am ?_;refine rC ?_;refine rQ iM ?_;refine aJ (aC (s:=38) aa rfl rfl rfl rfl rfl rfl rfl rfl) rfl ?_;refine aT (aR (enc:=aY) (s:=38) (xs:=out) aa ⟨2,((x.who.toNat % 4 % 3:Nat):Int),zOp,zBk,1⟩ rfl rfl rfl rfl rfl rfl rfl rfl rfl hal rfl) rfl ?_;refine rC<|aA<|zC<|am ?_;refine rC ?_;refine rQ iD ?_;refine rC<|aA ?_
         exact aN (i+1,out++[⟨2,((x.who.toNat % 4 % 3:Nat):Int),zOp,zBk,1⟩]) [(64,some 64),(65,some _)] ⟨hlt,h24,by rw[hfx,hst]⟩ (by show 24-(i+1)<24-i; omega) (lg ⟨zE,rfl,⟨_,rfl,AVLe.of_eq (congrArg (fun n=>AV.own _ 0 n 38 none) hl1)⟩,rfl,zE,rfl,trivial⟩ ⟨zR,zR,trivial⟩)
       | false =>
        have heX:errX y x=e0:=by rw[errX,hbad,hlo,he0]; rfl
        rw[heX]at hs0
        refine wF<|kS<|qR ?_;refine zD ?_;refine rQ (br aa rfl rfl rfl rfl rfl hge hlp) ?_;refine zD ?_;refine rQ (bU aa rfl rfl ⟨rfl,y,hy,_,rfl,rfl⟩ rfl) ?_;refine zD ?_
        by_cases hk:y.op.kind=1
        ·have dk:decide (y.op.kind=1)=true:=dT hk
         refine rO ?_;refine rC ?_;refine rO ?_;refine rQ iB ?_;refine rO ?_;refine rC ?_;refine rQ iT<|nS ?_
         by_cases hz:e0=0
         ·have dz:decide (e0=0)=true:=dT hz
          have hst:cb out x=out++[⟨2,((x.who.toNat % 4 % 3:Nat):Int),zOp,List.replicate 32 (blkB x.data),e0⟩]:=by rw[hs0,if_pos ⟨hk,hz⟩]
          have hl1:out.length+1=(out++[(⟨2,((x.who.toNat % 4 % 3:Nat):Int),zOp,List.replicate 32 (blkB x.data),e0⟩:HEv)]).length:=by simp
          refine wT<|am ?_;refine rC ?_;refine rQ iB ?_;refine rQ (ak (nm x.data) rfl rfl (aj ab) (.inl rfl) (fun _=>rfl)) ?_;refine rC ?_;refine rX<|nS<|am ?_;refine rC ?_;refine rQ iM ?_;refine aJ (aC (s:=38) aa rfl rfl rfl rfl rfl rfl rfl rfl) rfl ?_;refine aT (aR (enc:=aY) (s:=38) (xs:=out) aa ⟨2,((x.who.toNat % 4 % 3:Nat):Int),zOp,List.replicate 32 (blkB x.data),e0⟩ rfl rfl rfl rfl rfl rfl rfl rfl rfl hal rfl) rfl ?_;refine rC<|aA<|zC<|am ?_;refine rC ?_;refine rQ iD ?_;refine rC<|aA ?_
          exact aN (i+1,out++[⟨2,((x.who.toNat % 4 % 3:Nat):Int),zOp,List.replicate 32 (blkB x.data),e0⟩]) [(64,some 64),(65,some _)] ⟨hlt,h24,by rw[hfx,hst]⟩ (by show 24-(i+1)<24-i; omega) (lg ⟨zE,rfl,⟨_,rfl,AVLe.of_eq (congrArg (fun n=>AV.own _ 0 n 38 none) hl1)⟩,rfl,zE,rfl,trivial⟩ ⟨zR,zR,trivial⟩)
         ·have dz:decide (e0=0)=false:=dF hz
          have hst:cb out x=out++[⟨2,((x.who.toNat % 4 % 3:Nat):Int),zOp,zBk,e0⟩]:=by rw[hs0,if_neg (fun h=>hz h.2)]
          have hl1:out.length+1=(out++[(⟨2,((x.who.toNat % 4 % 3:Nat):Int),zOp,zBk,e0⟩:HEv)]).length:=by simp
          refine wF<|kS<|am ?_;refine rC ?_;refine rQ iM ?_;refine aJ (aC (s:=38) aa rfl rfl rfl rfl rfl rfl rfl rfl) rfl ?_;refine aT (aR (enc:=aY) (s:=38) (xs:=out) aa ⟨2,((x.who.toNat % 4 % 3:Nat):Int),zOp,zBk,e0⟩ rfl rfl rfl rfl rfl rfl rfl rfl rfl hal rfl) rfl ?_;refine rC<|aA<|zC<|am ?_;refine rC ?_;refine rQ iD ?_;refine rC<|aA ?_
          exact aN (i+1,out++[⟨2,((x.who.toNat % 4 % 3:Nat):Int),zOp,zBk,e0⟩]) [(64,some 64),(65,some _)] ⟨hlt,h24,by rw[hfx,hst]⟩ (by show 24-(i+1)<24-i; omega) (lg ⟨zE,rfl,⟨_,rfl,AVLe.of_eq (congrArg (fun n=>AV.own _ 0 n 38 none) hl1)⟩,rfl,zE,rfl,trivial⟩ ⟨zR,zR,trivial⟩)
        ·have dk:decide (y.op.kind=1)=false:=dF hk
         have hst:cb out x=out++[⟨2,((x.who.toNat % 4 % 3:Nat):Int),zOp,zBk,e0⟩]:=by rw[hs0,if_neg (fun h=>hk h.1)]
         have hl1:out.length+1=(out++[(⟨2,((x.who.toNat % 4 % 3:Nat):Int),zOp,zBk,e0⟩:HEv)]).length:=by simp
         iterate 3 refine rS ?_
         refine rQ iF ?_;refine zJ<|kS<|am ?_;refine rC ?_;refine rQ iM ?_;refine aJ (aC (s:=38) aa rfl rfl rfl rfl rfl rfl rfl rfl) rfl ?_;refine aT (aR (enc:=aY) (s:=38) (xs:=out) aa ⟨2,((x.who.toNat % 4 % 3:Nat):Int),zOp,zBk,e0⟩ rfl rfl rfl rfl rfl rfl rfl rfl rfl hal rfl) rfl ?_;refine rC<|aA<|zC<|am ?_;refine rC ?_;refine rQ iD ?_;refine rC<|aA ?_
         exact aN (i+1,out++[⟨2,((x.who.toNat % 4 % 3:Nat):Int),zOp,zBk,e0⟩]) [(64,some 64),(65,some _)] ⟨hlt,h24,by rw[hfx,hst]⟩ (by show 24-(i+1)<24-i; omega) (lg ⟨zE,rfl,⟨_,rfl,AVLe.of_eq (congrArg (fun n=>AV.own _ 0 n 38 none) hl1)⟩,rfl,zE,rfl,trivial⟩ ⟨zR,zR,trivial⟩)
      | false =>
       rw[if_neg (by decide)]at hb
       have heX:errX y x=e0:=by rw[errX,hbad,he0]; rfl
       rw[heX]at hs0
       iterate 3 refine rT ?_
       refine rQ iG ?_;refine zJ<|kS<|qR ?_;refine zD ?_;refine rQ (br aa rfl rfl rfl rfl rfl hge hlp) ?_;refine zD ?_;refine rQ (bU aa rfl rfl ⟨rfl,y,hy,_,rfl,rfl⟩ rfl) ?_;refine zD ?_
       by_cases hk:y.op.kind=1
       ·have dk:decide (y.op.kind=1)=true:=dT hk
        refine rO ?_;refine rC ?_;refine rO ?_;refine rQ iB ?_;refine rO ?_;refine rC ?_;refine rQ iT<|nS ?_
        by_cases hz:e0=0
        ·have dz:decide (e0=0)=true:=dT hz
         have hst:cb out x=out++[⟨2,((x.who.toNat % 4 % 3:Nat):Int),zOp,List.replicate 32 (blkB x.data),e0⟩]:=by rw[hs0,if_pos ⟨hk,hz⟩]
         have hl1:out.length+1=(out++[(⟨2,((x.who.toNat % 4 % 3:Nat):Int),zOp,List.replicate 32 (blkB x.data),e0⟩:HEv)]).length:=by simp
         refine wT<|am ?_;refine rC ?_;refine rQ iB ?_;refine rQ (ak (nm x.data) rfl rfl (aj ab) (.inl rfl) (fun _=>rfl)) ?_;refine rC ?_;refine rX<|nS<|am ?_;refine rC ?_;refine rQ iM ?_;refine aJ (aC (s:=38) aa rfl rfl rfl rfl rfl rfl rfl rfl) rfl ?_;refine aT (aR (enc:=aY) (s:=38) (xs:=out) aa ⟨2,((x.who.toNat % 4 % 3:Nat):Int),zOp,List.replicate 32 (blkB x.data),e0⟩ rfl rfl rfl rfl rfl rfl rfl rfl rfl hal rfl) rfl ?_;refine rC<|aA<|zC<|am ?_;refine rC ?_;refine rQ iD ?_;refine rC<|aA ?_
         exact aN (i+1,out++[⟨2,((x.who.toNat % 4 % 3:Nat):Int),zOp,List.replicate 32 (blkB x.data),e0⟩]) [(64,some 64),(65,some _)] ⟨hlt,h24,by rw[hfx,hst]⟩ (by show 24-(i+1)<24-i; omega) (lg ⟨zE,rfl,⟨_,rfl,AVLe.of_eq (congrArg (fun n=>AV.own _ 0 n 38 none) hl1)⟩,rfl,zE,rfl,trivial⟩ ⟨zR,zR,trivial⟩)
        ·have dz:decide (e0=0)=false:=dF hz
         have hst:cb out x=out++[⟨2,((x.who.toNat % 4 % 3:Nat):Int),zOp,zBk,e0⟩]:=by rw[hs0,if_neg (fun h=>hz h.2)]
         have hl1:out.length+1=(out++[(⟨2,((x.who.toNat % 4 % 3:Nat):Int),zOp,zBk,e0⟩:HEv)]).length:=by simp
         refine wF<|kS<|am ?_;refine rC ?_;refine rQ iM ?_;refine aJ (aC (s:=38) aa rfl rfl rfl rfl rfl rfl rfl rfl) rfl ?_;refine aT (aR (enc:=aY) (s:=38) (xs:=out) aa ⟨2,((x.who.toNat % 4 % 3:Nat):Int),zOp,zBk,e0⟩ rfl rfl rfl rfl rfl rfl rfl rfl rfl hal rfl) rfl ?_;refine rC<|aA<|zC<|am ?_;refine rC ?_;refine rQ iD ?_;refine rC<|aA ?_
         exact aN (i+1,out++[⟨2,((x.who.toNat % 4 % 3:Nat):Int),zOp,zBk,e0⟩]) [(64,some 64),(65,some _)] ⟨hlt,h24,by rw[hfx,hst]⟩ (by show 24-(i+1)<24-i; omega) (lg ⟨zE,rfl,⟨_,rfl,AVLe.of_eq (congrArg (fun n=>AV.own _ 0 n 38 none) hl1)⟩,rfl,zE,rfl,trivial⟩ ⟨zR,zR,trivial⟩)
       ·have dk:decide (y.op.kind=1)=false:=dF hk
        have hst:cb out x=out++[⟨2,((x.who.toNat % 4 % 3:Nat):Int),zOp,zBk,e0⟩]:=by rw[hs0,if_neg (fun h=>hk h.1)]
        have hl1:out.length+1=(out++[(⟨2,((x.who.toNat % 4 % 3:Nat):Int),zOp,zBk,e0⟩:HEv)]).length:=by simp
        iterate 3 refine rS ?_
        refine rQ iF ?_;refine zJ<|kS<|am ?_;refine rC ?_;refine rQ iM ?_;refine aJ (aC (s:=38) aa rfl rfl rfl rfl rfl rfl rfl rfl) rfl ?_;refine aT (aR (enc:=aY) (s:=38) (xs:=out) aa ⟨2,((x.who.toNat % 4 % 3:Nat):Int),zOp,zBk,e0⟩ rfl rfl rfl rfl rfl rfl rfl rfl rfl hal rfl) rfl ?_;refine rC<|aA<|zC<|am ?_;refine rC ?_;refine rQ iD ?_;refine rC<|aA ?_
        exact aN (i+1,out++[⟨2,((x.who.toNat % 4 % 3:Nat):Int),zOp,zBk,e0⟩]) [(64,some 64),(65,some _)] ⟨hlt,h24,by rw[hfx,hst]⟩ (by show 24-(i+1)<24-i; omega) (lg ⟨zE,rfl,⟨_,rfl,AVLe.of_eq (congrArg (fun n=>AV.own _ 0 n 38 none) hl1)⟩,rfl,zE,rfl,trivial⟩ ⟨zR,zR,trivial⟩)
   ·have d3:decide (((x.who.toNat % 4:Nat):Int)=3)=false:=dF (by omega)
    have hns:¬(x.who.toNat % 4=3∧x.what.toNat≤20):=by omega
    iterate 3 refine rS ?_
    refine rQ iF ?_;refine zJ<|kS<|sR ?_;refine rC ?_;refine rQ (bH (a:=x.who.toNat % 4) (b:=3) aa rfl rfl rfl (by decide)) ?_;refine rC<|nR ?_;refine zD ?_;refine rQ (ak (l4 out ((x.who.toNat % 4 % 3:Nat):Int) hpl) rfl rfl (jt rfl (aj ab)) (.inr (cG.sc _)) (fun _=>rfl)) ?_;refine rC<|zW ?_;refine zD<|nS ?_
    by_cases hp:pend out ((x.who.toNat % 4 % 3:Nat):Int)<0
    ·have dp:decide (pend out ((x.who.toNat % 4 % 3:Nat):Int)<0)=true:=dT hp
     have hst:cb out x=out++[⟨1,((x.who.toNat % 4 % 3:Nat):Int),opX x,zBk,0⟩]:=by rw[cb,if_neg hns,if_pos hp]
     have hl1:out.length+1=(out++[(⟨1,((x.who.toNat % 4 % 3:Nat):Int),opX x,zBk,0⟩:HEv)]).length:=by simp
     refine wT<|sR ?_;refine zD ?_;refine rQ iM ?_;refine rQ (ak (wj x) rfl rfl (aj ab) (.inl rfl) (fun _=>rfl)) ?_;refine rQ iS ?_;refine aJ (aC (s:=38) aa rfl rfl rfl rfl rfl rfl rfl rfl) rfl ?_;refine aT (aR (enc:=aY) (s:=38) (xs:=out) aa ⟨1,((x.who.toNat % 4 % 3:Nat):Int),opX x,zBk,0⟩ rfl rfl rfl rfl rfl rfl rfl rfl rfl hal rfl) rfl ?_;refine rC<|nS<|cv<|ew<|eD<|aM<|am ?_;refine rC ?_;refine rQ iD ?_;refine rC<|aA ?_
     exact aN (i+1,out++[⟨1,((x.who.toNat % 4 % 3:Nat):Int),opX x,zBk,0⟩]) [(64,some 64),(65,some _)] ⟨hlt,h24,by rw[hfx,hst]⟩ (by show 24-(i+1)<24-i; omega) (lg ⟨zE,rfl,⟨_,rfl,AVLe.of_eq (congrArg (fun n=>AV.own _ 0 n 38 none) hl1)⟩,rfl,zE,rfl,trivial⟩ ⟨zR,zR,trivial⟩)
    ·have dp:decide (pend out ((x.who.toNat % 4 % 3:Nat):Int)<0)=false:=dF hp
     have hpi:=oJ out ((x.who.toNat % 4 % 3:Nat):Int)
     have hge:0≤pend out ((x.who.toNat % 4 % 3:Nat):Int):=by omega
     have hlp:pend out ((x.who.toNat % 4 % 3:Nat):Int)<(out.length:Int):=hpi.2
     obtain⟨y,hy⟩:∃y,out[(pend out ((x.who.toNat % 4 % 3:Nat):Int)).toNat]?=some y:=⟨_,List.getElem?_eq_getElem (by omega)⟩
     obtain⟨e0,he0⟩:∃e0,kh[x.what.toNat % 8]?=some e0:=⟨_,List.getElem?_eq_getElem (Nat.mod_lt _ (by decide))⟩
     have hE:kh[(((x.what.toNat % 8:Nat):Int)).toNat]?=some e0:=by rw[Int.toNat_natCast]; exact he0
     have hs0:cb out x=out++[⟨2,((x.who.toNat % 4 % 3:Nat):Int),zOp,if y.op.kind=1∧errX y x=0 then List.replicate 32 (blkB x.data) else zBk,errX y x⟩]:=by rw[cb,if_neg hns,if_neg hp,hy]
     have hb:=sZ y.op 3
     obtain⟨bad,hbad⟩:∃b,badO y.op 3=b:=⟨_,rfl⟩
     obtain⟨lo,hlo⟩:∃b,decide (x.what.toNat<200)=b:=⟨_,rfl⟩
     have hlo':decide ((x.what.toNat:Int)<200)=lo:=by rw[←hlo]; exact decide_eq_decide.2 (by omega)
     rw[hbad]at hb
     unfold r01 at hb
     refine wF<|kS<|sR ?_;refine rC ?_;refine rQ (an.frozen (aC (s:=1) aa rfl rfl rfl rfl rfl rfl rfl rfl) (Frz.litsN (enc:=i6) [0,0,0,0,0,1,8,9] rfl (fun _ _=>rfl))) ?_;refine rC ?_;refine rQ iB ?_;refine rQ (bH (a:=x.what.toNat) (b:=8) aa rfl rfl rfl (by decide)) ?_;refine rQ (aF (xs:=kh) aa rfl rfl rfl rfl rfl (by omega) hE) ?_;refine rQ iL ?_;refine rQ (an.val_le (aX aa rfl rfl rfl rfl) (dE 2 ((x.who.toNat % 4 % 3:Nat):Int) e0) rfl) ?_;refine rN ?_;refine rW<|zW ?_;refine zD ?_;refine rQ (br aa rfl rfl rfl rfl rfl hge hlp) ?_;refine rC ?_;refine rQ (bU aa rfl rfl ⟨rfl,y,hy,_,rfl,rfl⟩ rfl) ?_;refine rQ (ak hb rfl rfl (aj (aj ab)) (.inl rfl) (fun _=>rfl)) ?_;refine zD ?_
     cases bad with
     | true =>
      rw[if_pos rfl]at hb
      refine rP ?_;refine rC ?_;refine rP ?_;refine rQ iB ?_;refine rP ?_;refine rC ?_;refine rQ iU<|nS ?_
      cases lo with
      | true =>
       have heX:errX y x=1:=by rw[errX,hbad,hlo]; rfl
       rw[heX]at hs0
       refine wT<|am ?_;refine rC ?_;refine rX<|zW ?_;refine zD ?_;refine rQ (br aa rfl rfl rfl rfl rfl hge hlp) ?_;refine zD ?_;refine rQ (bU aa rfl rfl ⟨rfl,y,hy,_,rfl,rfl⟩ rfl) ?_;refine zD ?_
       by_cases hk:y.op.kind=1
       ·have dk:decide (y.op.kind=1)=true:=dT hk
        have hst:cb out x=out++[⟨2,((x.who.toNat % 4 % 3:Nat):Int),zOp,zBk,1⟩]:=by rw[hs0,if_neg (by omega)]
        have hl1:out.length+1=(out++[(⟨2,((x.who.toNat % 4 % 3:Nat):Int),zOp,zBk,1⟩:HEv)]).length:=by simp
        refine rO ?_;refine rC ?_;refine rO ?_;refine rQ iB ?_;refine rO ?_;refine rC ?_;refine rQ iT ?_;refine zJ<|kS<|am ?_;refine rC ?_;refine rQ iM ?_;refine aJ (aC (s:=38) aa rfl rfl rfl rfl rfl rfl rfl rfl) rfl ?_;refine aT (aR (enc:=aY) (s:=38) (xs:=out) aa ⟨2,((x.who.toNat % 4 % 3:Nat):Int),zOp,zBk,1⟩ rfl rfl rfl rfl rfl rfl rfl rfl rfl hal rfl) rfl ?_;refine rC<|aA<|zC<|am ?_;refine rC ?_;refine rQ iD ?_;refine rC<|aA ?_
        exact aN (i+1,out++[⟨2,((x.who.toNat % 4 % 3:Nat):Int),zOp,zBk,1⟩]) [(64,some 64),(65,some _)] ⟨hlt,h24,by rw[hfx,hst]⟩ (by show 24-(i+1)<24-i; omega) (lg ⟨zE,rfl,⟨_,rfl,AVLe.of_eq (congrArg (fun n=>AV.own _ 0 n 38 none) hl1)⟩,rfl,zE,rfl,trivial⟩ ⟨zR,zR,trivial⟩)
       ·have dk:decide (y.op.kind=1)=false:=dF hk
        have hst:cb out x=out++[⟨2,((x.who.toNat % 4 % 3:Nat):Int),zOp,zBk,1⟩]:=by rw[hs0,if_neg (fun h=>hk h.1)]
        have hl1:out.length+1=(out++[(⟨2,((x.who.toNat % 4 % 3:Nat):Int),zOp,zBk,1⟩:HEv)]).length:=by simp
        iterate 3 refine rS ?_
        refine rQ iF ?_;refine zJ<|kS<|am ?_;refine rC ?_;refine rQ iM ?_;refine aJ (aC (s:=38) aa rfl rfl rfl rfl rfl rfl rfl rfl) rfl ?_;refine aT (aR (enc:=aY) (s:=38) (xs:=out) aa ⟨2,((x.who.toNat % 4 % 3:Nat):Int),zOp,zBk,1⟩ rfl rfl rfl rfl rfl rfl rfl rfl rfl hal rfl) rfl ?_;refine rC<|aA<|zC<|am ?_;refine rC ?_;refine rQ iD ?_;refine rC<|aA ?_
        exact aN (i+1,out++[⟨2,((x.who.toNat % 4 % 3:Nat):Int),zOp,zBk,1⟩]) [(64,some 64),(65,some _)] ⟨hlt,h24,by rw[hfx,hst]⟩ (by show 24-(i+1)<24-i; omega) (lg ⟨zE,rfl,⟨_,rfl,AVLe.of_eq (congrArg (fun n=>AV.own _ 0 n 38 none) hl1)⟩,rfl,zE,rfl,trivial⟩ ⟨zR,zR,trivial⟩)
      | false =>
       have heX:errX y x=e0:=by rw[errX,hbad,hlo,he0]; rfl
       rw[heX]at hs0
       refine wF<|kS<|qR ?_;refine zD ?_;refine rQ (br aa rfl rfl rfl rfl rfl hge hlp) ?_;refine zD ?_;refine rQ (bU aa rfl rfl ⟨rfl,y,hy,_,rfl,rfl⟩ rfl) ?_;refine zD ?_
       by_cases hk:y.op.kind=1
       ·have dk:decide (y.op.kind=1)=true:=dT hk
        refine rO ?_;refine rC ?_;refine rO ?_;refine rQ iB ?_;refine rO ?_;refine rC ?_;refine rQ iT<|nS ?_
        by_cases hz:e0=0
        ·have dz:decide (e0=0)=true:=dT hz
         have hst:cb out x=out++[⟨2,((x.who.toNat % 4 % 3:Nat):Int),zOp,List.replicate 32 (blkB x.data),e0⟩]:=by rw[hs0,if_pos ⟨hk,hz⟩]
         have hl1:out.length+1=(out++[(⟨2,((x.who.toNat % 4 % 3:Nat):Int),zOp,List.replicate 32 (blkB x.data),e0⟩:HEv)]).length:=by simp
         refine wT<|am ?_;refine rC ?_;refine rQ iB ?_;refine rQ (ak (nm x.data) rfl rfl (aj ab) (.inl rfl) (fun _=>rfl)) ?_;refine rC ?_;refine rX<|nS<|am ?_;refine rC ?_;refine rQ iM ?_;refine aJ (aC (s:=38) aa rfl rfl rfl rfl rfl rfl rfl rfl) rfl ?_;refine aT (aR (enc:=aY) (s:=38) (xs:=out) aa ⟨2,((x.who.toNat % 4 % 3:Nat):Int),zOp,List.replicate 32 (blkB x.data),e0⟩ rfl rfl rfl rfl rfl rfl rfl rfl rfl hal rfl) rfl ?_;refine rC<|aA<|zC<|am ?_;refine rC ?_;refine rQ iD ?_;refine rC<|aA ?_
         exact aN (i+1,out++[⟨2,((x.who.toNat % 4 % 3:Nat):Int),zOp,List.replicate 32 (blkB x.data),e0⟩]) [(64,some 64),(65,some _)] ⟨hlt,h24,by rw[hfx,hst]⟩ (by show 24-(i+1)<24-i; omega) (lg ⟨zE,rfl,⟨_,rfl,AVLe.of_eq (congrArg (fun n=>AV.own _ 0 n 38 none) hl1)⟩,rfl,zE,rfl,trivial⟩ ⟨zR,zR,trivial⟩)
        ·have dz:decide (e0=0)=false:=dF hz
         have hst:cb out x=out++[⟨2,((x.who.toNat % 4 % 3:Nat):Int),zOp,zBk,e0⟩]:=by rw[hs0,if_neg (fun h=>hz h.2)]
         have hl1:out.length+1=(out++[(⟨2,((x.who.toNat % 4 % 3:Nat):Int),zOp,zBk,e0⟩:HEv)]).length:=by simp
         refine wF<|kS<|am ?_;refine rC ?_;refine rQ iM ?_;refine aJ (aC (s:=38) aa rfl rfl rfl rfl rfl rfl rfl rfl) rfl ?_;refine aT (aR (enc:=aY) (s:=38) (xs:=out) aa ⟨2,((x.who.toNat % 4 % 3:Nat):Int),zOp,zBk,e0⟩ rfl rfl rfl rfl rfl rfl rfl rfl rfl hal rfl) rfl ?_;refine rC<|aA<|zC<|am ?_;refine rC ?_;refine rQ iD ?_;refine rC<|aA ?_
         exact aN (i+1,out++[⟨2,((x.who.toNat % 4 % 3:Nat):Int),zOp,zBk,e0⟩]) [(64,some 64),(65,some _)] ⟨hlt,h24,by rw[hfx,hst]⟩ (by show 24-(i+1)<24-i; omega) (lg ⟨zE,rfl,⟨_,rfl,AVLe.of_eq (congrArg (fun n=>AV.own _ 0 n 38 none) hl1)⟩,rfl,zE,rfl,trivial⟩ ⟨zR,zR,trivial⟩)
       ·have dk:decide (y.op.kind=1)=false:=dF hk
        have hst:cb out x=out++[⟨2,((x.who.toNat % 4 % 3:Nat):Int),zOp,zBk,e0⟩]:=by rw[hs0,if_neg (fun h=>hk h.1)]
        have hl1:out.length+1=(out++[(⟨2,((x.who.toNat % 4 % 3:Nat):Int),zOp,zBk,e0⟩:HEv)]).length:=by simp
        iterate 3 refine rS ?_
        refine rQ iF ?_;refine zJ<|kS<|am ?_;refine rC ?_;refine rQ iM ?_;refine aJ (aC (s:=38) aa rfl rfl rfl rfl rfl rfl rfl rfl) rfl ?_;refine aT (aR (enc:=aY) (s:=38) (xs:=out) aa ⟨2,((x.who.toNat % 4 % 3:Nat):Int),zOp,zBk,e0⟩ rfl rfl rfl rfl rfl rfl rfl rfl rfl hal rfl) rfl ?_;refine rC<|aA<|zC<|am ?_;refine rC ?_;refine rQ iD ?_;refine rC<|aA ?_
        exact aN (i+1,out++[⟨2,((x.who.toNat % 4 % 3:Nat):Int),zOp,zBk,e0⟩]) [(64,some 64),(65,some _)] ⟨hlt,h24,by rw[hfx,hst]⟩ (by show 24-(i+1)<24-i; omega) (lg ⟨zE,rfl,⟨_,rfl,AVLe.of_eq (congrArg (fun n=>AV.own _ 0 n 38 none) hl1)⟩,rfl,zE,rfl,trivial⟩ ⟨zR,zR,trivial⟩)
     | false =>
      rw[if_neg (by decide)]at hb
      have heX:errX y x=e0:=by rw[errX,hbad,he0]; rfl
      rw[heX]at hs0
      iterate 3 refine rT ?_
      refine rQ iG ?_;refine zJ<|kS<|qR ?_;refine zD ?_;refine rQ (br aa rfl rfl rfl rfl rfl hge hlp) ?_;refine zD ?_;refine rQ (bU aa rfl rfl ⟨rfl,y,hy,_,rfl,rfl⟩ rfl) ?_;refine zD ?_
      by_cases hk:y.op.kind=1
      ·have dk:decide (y.op.kind=1)=true:=dT hk
       refine rO ?_;refine rC ?_;refine rO ?_;refine rQ iB ?_;refine rO ?_;refine rC ?_;refine rQ iT<|nS ?_
       by_cases hz:e0=0
       ·have dz:decide (e0=0)=true:=dT hz
        have hst:cb out x=out++[⟨2,((x.who.toNat % 4 % 3:Nat):Int),zOp,List.replicate 32 (blkB x.data),e0⟩]:=by rw[hs0,if_pos ⟨hk,hz⟩]
        have hl1:out.length+1=(out++[(⟨2,((x.who.toNat % 4 % 3:Nat):Int),zOp,List.replicate 32 (blkB x.data),e0⟩:HEv)]).length:=by simp
        refine wT<|am ?_;refine rC ?_;refine rQ iB ?_;refine rQ (ak (nm x.data) rfl rfl (aj ab) (.inl rfl) (fun _=>rfl)) ?_;refine rC ?_;refine rX<|nS<|am ?_;refine rC ?_;refine rQ iM ?_;refine aJ (aC (s:=38) aa rfl rfl rfl rfl rfl rfl rfl rfl) rfl ?_;refine aT (aR (enc:=aY) (s:=38) (xs:=out) aa ⟨2,((x.who.toNat % 4 % 3:Nat):Int),zOp,List.replicate 32 (blkB x.data),e0⟩ rfl rfl rfl rfl rfl rfl rfl rfl rfl hal rfl) rfl ?_;refine rC<|aA<|zC<|am ?_;refine rC ?_;refine rQ iD ?_;refine rC<|aA ?_
        exact aN (i+1,out++[⟨2,((x.who.toNat % 4 % 3:Nat):Int),zOp,List.replicate 32 (blkB x.data),e0⟩]) [(64,some 64),(65,some _)] ⟨hlt,h24,by rw[hfx,hst]⟩ (by show 24-(i+1)<24-i; omega) (lg ⟨zE,rfl,⟨_,rfl,AVLe.of_eq (congrArg (fun n=>AV.own _ 0 n 38 none) hl1)⟩,rfl,zE,rfl,trivial⟩ ⟨zR,zR,trivial⟩)
       ·have dz:decide (e0=0)=false:=dF hz
        have hst:cb out x=out++[⟨2,((x.who.toNat % 4 % 3:Nat):Int),zOp,zBk,e0⟩]:=by rw[hs0,if_neg (fun h=>hz h.2)]
        have hl1:out.length+1=(out++[(⟨2,((x.who.toNat % 4 % 3:Nat):Int),zOp,zBk,e0⟩:HEv)]).length:=by simp
        refine wF<|kS<|am ?_;refine rC ?_;refine rQ iM ?_;refine aJ (aC (s:=38) aa rfl rfl rfl rfl rfl rfl rfl rfl) rfl ?_;refine aT (aR (enc:=aY) (s:=38) (xs:=out) aa ⟨2,((x.who.toNat % 4 % 3:Nat):Int),zOp,zBk,e0⟩ rfl rfl rfl rfl rfl rfl rfl rfl rfl hal rfl) rfl ?_;refine rC<|aA<|zC<|am ?_;refine rC ?_;refine rQ iD ?_;refine rC<|aA ?_
        exact aN (i+1,out++[⟨2,((x.who.toNat % 4 % 3:Nat):Int),zOp,zBk,e0⟩]) [(64,some 64),(65,some _)] ⟨hlt,h24,by rw[hfx,hst]⟩ (by show 24-(i+1)<24-i; omega) (lg ⟨zE,rfl,⟨_,rfl,AVLe.of_eq (congrArg (fun n=>AV.own _ 0 n 38 none) hl1)⟩,rfl,zE,rfl,trivial⟩ ⟨zR,zR,trivial⟩)
      ·have dk:decide (y.op.kind=1)=false:=dF hk
       have hst:cb out x=out++[⟨2,((x.who.toNat % 4 % 3:Nat):Int),zOp,zBk,e0⟩]:=by rw[hs0,if_neg (fun h=>hk h.1)]
       have hl1:out.length+1=(out++[(⟨2,((x.who.toNat % 4 % 3:Nat):Int),zOp,zBk,e0⟩:HEv)]).length:=by simp
       iterate 3 refine rS ?_
       refine rQ iF ?_;refine zJ<|kS<|am ?_;refine rC ?_;refine rQ iM ?_;refine aJ (aC (s:=38) aa rfl rfl rfl rfl rfl rfl rfl rfl) rfl ?_;refine aT (aR (enc:=aY) (s:=38) (xs:=out) aa ⟨2,((x.who.toNat % 4 % 3:Nat):Int),zOp,zBk,e0⟩ rfl rfl rfl rfl rfl rfl rfl rfl rfl hal rfl) rfl ?_;refine rC<|aA<|zC<|am ?_;refine rC ?_;refine rQ iD ?_;refine rC<|aA ?_
       exact aN (i+1,out++[⟨2,((x.who.toNat % 4 % 3:Nat):Int),zOp,zBk,e0⟩]) [(64,some 64),(65,some _)] ⟨hlt,h24,by rw[hfx,hst]⟩ (by show 24-(i+1)<24-i; omega) (lg ⟨zE,rfl,⟨_,rfl,AVLe.of_eq (congrArg (fun n=>AV.own _ 0 n 38 none) hl1)⟩,rfl,zE,rfl,trivial⟩ ⟨zR,zR,trivial⟩)
  ·have c2:decide ((i:Int)<24)=false:=dF (by omega)
   have hE:out=hOf l:=by rw[hout,hOf,show i=24 by omega]
   rw[←hE]
   refine wF<|zX<|sR ?_;refine zD<|zT ?_
   exact⟨trivial,[(64,some _)],lg zV ⟨zR,trivial⟩⟩
 ·have c1:decide ((i:Int)<(l.length:Int))=false:=dF (by omega)
  have hE:out=hOf l:=by rw[hout,hOf,List.take_of_length_le (by omega),List.take_of_length_le (by omega)]
  rw[←hE]
  iterate 2 refine rS ?_
  refine rQ iF ?_;refine zJ<|zX<|sR ?_;refine zD<|zT ?_
  exact⟨trivial,[(64,some _)],lg zV ⟨zR,trivial⟩⟩
theorem oh:∀(l:List UInt8),∃t:List UInt8,byI t=cS l
 | []=>⟨[],rfl⟩
 | [a]=>⟨[(nibV a).toUInt8],by
  have:=eR a
  simp only[byI,cS,List.map_cons,List.map_nil,Nat.toUInt8_eq,UInt8.toNat_ofNat']
  rw[Nat.mod_eq_of_lt (by omega)]⟩
 | a::b::l=>by
  obtain⟨t,ht⟩:=oh l
  have h1:=eR a
  have h2:=eR b
  refine⟨(nibV a*16+nibV b).toUInt8::t,?_⟩
  rw[cS,←ht]
  simp only[byI,List.map_cons,Nat.toUInt8_eq,UInt8.toNat_ofNat']
  rw[Nat.mod_eq_of_lt (by omega)]
theorem Al (m:Nat) (s:List UInt8) (i:Nat):∃t:List UInt8,byI t=uX m s i:=by
 obtain⟨t,ht⟩:=oh (s.take i)
 refine⟨t++List.replicate (m-(i+1)/2) 0,?_⟩
 rw[uX,←ht]
 simp[byI]
abbrev blkR (v:List UInt8) (b:Bool):AV :=.tup (.acons (.d (fg v)) (.acons (.bool b) .anil))
theorem qJ (s:List UInt8) (hs:s.length≠64) (hL:s.length≤9223372036854775807):FnIs Tryz.prog 48 [.d (strD s)] [] (blkR zBk false) []:=by
 have h0:(!decide ((s.length:Int)=64))=true:=by rw[dF (by omega)]; rfl
 refine au aa Tryz.func48 rfl rfl rfl ?_;refine sR<|rN ?_;refine rC<|zW ?_;refine rC ?_;refine rQ (ek aa rfl rfl) ?_;refine rC ?_;refine zI<|sR ?_;refine rQ iM ?_;refine rW ?_;refine rC<|zT<|aP ?_
 exact⟨trivial,_,rfl,[],lf⟩
theorem xr (s:List UInt8) (hs:s.length=2*32) (hall:∀c∈s,0≤Lib.indexByte hexD c) (t:List UInt8) (ht:byI t=cS s):FnIs Tryz.prog 48 [.d (strD s)] [] (blkR t true) []:=by
 have h0:(!decide ((s.length:Int)=64))=false:=by rw[dT (by omega)]; rfl
 refine au aa Tryz.func48 rfl rfl rfl ?_;refine sR<|rN ?_;refine rC<|zW ?_;refine rC ?_;refine rQ (ek aa rfl rfl) ?_;refine rC ?_;refine zG<|kS<|qR ?_;refine rC ?_;refine aJ (ja aa rfl rfl) rfl<|zP ?_
 refine wc_inv (fun i:Nat=>⟨[(11,.ptr 66 []),(2,.ptr 65 []),(0,.d (strD s))],[(65,some (.box 29 (.d (.vec 32 1 bE (uX 32 s i))))),(66,some (.si (mkS s) i))],72,Tryz.f48.ntmps,64⟩) (fun i=>i≤s.length) (fun i=>s.length-i) 0 [(65,some 64),(66,some 112)] (Nat.zero_le _)
  (lg zj ⟨⟨rfl,rfl,_,rfl,bj.of_eq (by rw[lW]; rfl)⟩,zR,trivial⟩) ?_
 intro i hi
 refine bG ?_
 by_cases hlt:i<s.length
 ·obtain⟨c,hc⟩:∃c,s[i]?=some c:=⟨_,List.getElem?_eq_getElem hlt⟩
  have hib:FnIs Tryz.prog 80 [.d (strD hexD),.int .u8 c.toNat] [] (.int .i64 (Lib.indexByte hexD c)) []:=by
   have:=ql (l:=hexD) (c:=(c.toNat:Int))
   rwa [show ((c.toNat:Int)).toNat.toUInt8=c by simp]at this
  have hneg:¬Lib.indexByte hexD c<0:=by have:=hall c (List.mem_of_getElem? hc); omega
  have hd:decide (Lib.indexByte hexD c<0)=false:=dF hneg
  obtain⟨x,hx1,hx2,hx3⟩:=lX hc hs
  replace hx2:(uX 32 s i)[(((i/2:Nat):Int)).toNat]?=some (x:Int):=by rw[Int.toNat_natCast]; exact hx2
  have hn16:=eR c
  have hwi:IntKind.i64.wrap ((i/2:Nat):Int)=((i/2:Nat):Int):=aO (by omega) (by omega)
  have hw1:IntKind.u8.wrap ((x:Int)*16)=((x*16:Nat):Int):=ci (a:=x*16) (by omega)
  have hw2:IntKind.u8.wrap (Lib.indexByte hexD c)=(nibV c:Int):=by
   rw[show Lib.indexByte hexD c=(nibV c:Int) by unfold nibV; omega]
   exact ci (by omega)
  have hw3:IntKind.u8.wrap (((x*16:Nat):Int)+(nibV c:Int))=((x*16+nibV c:Nat):Int):=ci (a:=x*16+nibV c) (by omega)
  have hlow:=gW (i:=i) hc (ka (by omega))
  refine sR<|aJ (gk rfl rfl (by omega)) rfl ?_;refine rC<|nQ ?_;refine wV<|kS<|zS ?_;refine zD<|nR ?_;refine zD ?_;refine rQ (eT (l:=s) (m:=i) aa rfl rfl rfl hc) ?_;refine rQ (ak hib rfl rfl (aj (aj ab)) (.inl rfl) (fun _=>rfl)) ?_;refine rC<|nQ<|sR ?_;refine zD ?_;refine zG<|kS<|am ?_;refine rC ?_;refine rQ (dL (a:=i) (b:=2) aa rfl rfl rfl (by decide) hwi) ?_;refine rC ?_;refine rQ (dL (a:=i) (b:=2) aa rfl rfl rfl (by decide) hwi) ?_;refine rQ (aw aa (fun K hk=>⟨by omega,by omega,hk⟩)) ?_;refine rQ (bc aa rfl rfl ⟨_,⟨rfl,_,hx2,rfl⟩,rfl⟩ rfl) ?_;refine rQ (fk (m:=((x*16:Nat):Int)) aa rfl rfl hw1) ?_;refine rC ?_;refine rQ (bf (m:=(nibV c:Int)) aa rfl rfl rfl hw2) ?_;refine rQ (cJ (m:=((x*16+nibV c:Nat):Int)) aa rfl rfl hw3) ?_;refine rQ (aw aa (fun K hk=>⟨by omega,by omega,hk⟩)) ?_;refine bg (aD aa rfl rfl rfl ⟨_,⟨_,⟨rfl,(x:Int),((x*16+nibV c:Nat):Int),hx2,⟨rfl,rfl,rfl⟩,rfl⟩,rfl⟩,rfl⟩ rfl)<|aA<|gw ?_
  exact aN (i+1) [] hlt (by omega) (lg zj ⟨⟨rfl,rfl,_,rfl,bj.of_eq (congrArg (fun l=>Row.box 29 (.d (.vec 32 1 bE l))) hx3)⟩,⟨rfl,rfl,_,rfl,bj.of_eq (by rw[hlow]; rfl)⟩,trivial⟩)
 ·have he:i=s.length:=by omega
  subst he
  have hE:uX 32 s s.length=byI t:=by
   rw[uX,List.take_length,ht,show 32-(s.length+1)/2=0 by omega]; simp
  rw[hE]
  refine sR<|rQ (p7 rfl rfl (by omega)) ?_;refine rC<|nQ ?_;refine wG<|cv<|ew<|fe<|eD<|aM<|sR ?_;refine rQ iM ?_;refine rW ?_;refine rC<|zT ?_
  exact⟨trivial,_,rfl,[],lf⟩
theorem uO (s:List UInt8) (h:¬ ∀c∈s,0≤Lib.indexByte hexD c):∃(j:Nat) (c:UInt8),s[j]?=some c∧Lib.indexByte hexD c<0∧∀i,i<j→∀b,s[i]?=some b→0≤Lib.indexByte hexD b:=by
 induction s with
 | nil=>exact absurd (fun c hc=>by cases hc) h
 | cons a s ih =>
  by_cases ha:Lib.indexByte hexD a<0
  ·exact⟨0,a,rfl,ha,fun i hi=>absurd hi (Nat.not_lt_zero _)⟩
  ·have hs:¬ ∀c∈s,0≤Lib.indexByte hexD c:=fun hs=>h fun c hc=>by
    rcases List.mem_cons.1 hc with rfl | hc
    ·omega
    ·exact hs c hc
   obtain⟨j,c,h1,h2,h3⟩:=ih hs
   refine⟨j+1,c,by simpa using h1,h2,fun i hi b hb=>?_⟩
   cases i with
   | zero=>simp at hb; subst hb; omega
   | succ i=>exact h3 i (by omega) b (by simpa using hb)
theorem vd (s:List UInt8) (hs:s.length=2*32) (j:Nat) (cj:UInt8) (hj:s[j]?=some cj) (hcj:Lib.indexByte hexD cj<0) (hbef:∀i,i<j→∀b,s[i]?=some b→0≤Lib.indexByte hexD b) (t:List UInt8) (ht:byI t=uX 32 s j):FnIs Tryz.prog 48 [.d (strD s)] [] (blkR t false) []:=by
 have h0:(!decide ((s.length:Int)=64))=false:=by rw[dT (by omega)]; rfl
 have hjl:=(List.getElem?_eq_some_iff.1 hj).1
 refine au aa Tryz.func48 rfl rfl rfl ?_;refine sR<|rN ?_;refine rC<|zW ?_;refine rC ?_;refine rQ (ek aa rfl rfl) ?_;refine rC ?_;refine zG<|kS<|qR ?_;refine rC ?_;refine aJ (ja aa rfl rfl) rfl<|zP ?_
 refine wc_inv (fun i:Nat=>⟨[(11,.ptr 66 []),(2,.ptr 65 []),(0,.d (strD s))],[(65,some (.box 29 (.d (.vec 32 1 bE (uX 32 s i))))),(66,some (.si (mkS s) i))],72,Tryz.f48.ntmps,64⟩) (fun i=>i≤j) (fun i=>s.length-i) 0 [(65,some 64),(66,some 112)] (Nat.zero_le _)
  (lg zj ⟨⟨rfl,rfl,_,rfl,bj.of_eq (by rw[lW]; rfl)⟩,zR,trivial⟩) ?_
 intro i hi
 refine bG ?_
 have hlt:i<s.length:=by omega
 by_cases hij:i<j
 ·obtain⟨c,hc⟩:∃c,s[i]?=some c:=⟨_,List.getElem?_eq_getElem hlt⟩
  have hib:FnIs Tryz.prog 80 [.d (strD hexD),.int .u8 c.toNat] [] (.int .i64 (Lib.indexByte hexD c)) []:=by
   have:=ql (l:=hexD) (c:=(c.toNat:Int))
   rwa [show ((c.toNat:Int)).toNat.toUInt8=c by simp]at this
  have hneg:¬Lib.indexByte hexD c<0:=by have:=hbef i hij c hc; omega
  have hd:decide (Lib.indexByte hexD c<0)=false:=dF hneg
  obtain⟨x,hx1,hx2,hx3⟩:=lX hc hs
  replace hx2:(uX 32 s i)[(((i/2:Nat):Int)).toNat]?=some (x:Int):=by rw[Int.toNat_natCast]; exact hx2
  have hn16:=eR c
  have hwi:IntKind.i64.wrap ((i/2:Nat):Int)=((i/2:Nat):Int):=aO (by omega) (by omega)
  have hw1:IntKind.u8.wrap ((x:Int)*16)=((x*16:Nat):Int):=ci (a:=x*16) (by omega)
  have hw2:IntKind.u8.wrap (Lib.indexByte hexD c)=(nibV c:Int):=by
   rw[show Lib.indexByte hexD c=(nibV c:Int) by unfold nibV; omega]
   exact ci (by omega)
  have hw3:IntKind.u8.wrap (((x*16:Nat):Int)+(nibV c:Int))=((x*16+nibV c:Nat):Int):=ci (a:=x*16+nibV c) (by omega)
  have hlow:=gW (i:=i) hc (ka (by omega))
  refine sR<|aJ (gk rfl rfl (by omega)) rfl ?_;refine rC<|nQ ?_;refine wV<|kS<|zS ?_;refine zD<|nR ?_;refine zD ?_;refine rQ (eT (l:=s) (m:=i) aa rfl rfl rfl hc) ?_;refine rQ (ak hib rfl rfl (aj (aj ab)) (.inl rfl) (fun _=>rfl)) ?_;refine rC<|nQ<|sR ?_;refine zD ?_;refine zG<|kS<|am ?_;refine rC ?_;refine rQ (dL (a:=i) (b:=2) aa rfl rfl rfl (by decide) hwi) ?_;refine rC ?_;refine rQ (dL (a:=i) (b:=2) aa rfl rfl rfl (by decide) hwi) ?_;refine rQ (aw aa (fun K hk=>⟨by omega,by omega,hk⟩)) ?_;refine rQ (bc aa rfl rfl ⟨_,⟨rfl,_,hx2,rfl⟩,rfl⟩ rfl) ?_;refine rQ (fk (m:=((x*16:Nat):Int)) aa rfl rfl hw1) ?_;refine rC ?_;refine rQ (bf (m:=(nibV c:Int)) aa rfl rfl rfl hw2) ?_;refine rQ (cJ (m:=((x*16+nibV c:Nat):Int)) aa rfl rfl hw3) ?_;refine rQ (aw aa (fun K hk=>⟨by omega,by omega,hk⟩)) ?_;refine bg (aD aa rfl rfl rfl ⟨_,⟨_,⟨rfl,(x:Int),((x*16+nibV c:Nat):Int),hx2,⟨rfl,rfl,rfl⟩,rfl⟩,rfl⟩,rfl⟩ rfl)<|aA<|gw ?_
  exact aN (i+1) [] hij (by omega) (lg zj ⟨⟨rfl,rfl,_,rfl,bj.of_eq (congrArg (fun l=>Row.box 29 (.d (.vec 32 1 bE l))) hx3)⟩,⟨rfl,rfl,_,rfl,bj.of_eq (by rw[hlow]; rfl)⟩,trivial⟩)
 ·have he:i=j:=by omega
  subst he
  have hc:=hj
  obtain⟨c,rfl⟩:∃c,cj=c:=⟨_,rfl⟩
  have hib:FnIs Tryz.prog 80 [.d (strD hexD),.int .u8 cj.toNat] [] (.int .i64 (Lib.indexByte hexD cj)) []:=by
   have:=ql (l:=hexD) (c:=(cj.toNat:Int))
   rwa [show ((cj.toNat:Int)).toNat.toUInt8=cj by simp]at this
  have hd:decide (Lib.indexByte hexD cj<0)=true:=dT hcj
  rw[←ht]
  refine sR<|aJ (gk rfl rfl (by omega)) rfl ?_;refine rC<|nQ ?_;refine wV<|kS<|zS ?_;refine zD<|nR ?_;refine zD ?_;refine rQ (eT (l:=s) (m:=i) aa rfl rfl rfl hc) ?_;refine rQ (ak hib rfl rfl (aj (aj ab)) (.inl rfl) (fun _=>rfl)) ?_;refine rC<|nQ<|sR ?_;refine zD ?_;refine zI<|sR ?_;refine rQ iM ?_;refine rW ?_;refine rC<|zT<|aP<|iH<|ce<|iH<|aP ?_
  exact⟨trivial,_,rfl,[],lf⟩
theorem sK (s:List UInt8) (h:ff s=none) (hL:s.length≤9223372036854775807):∃v:List UInt8,FnIs Tryz.prog 48 [.d (strD s)] [] (blkR v false) []:=by
 by_cases hs:s.length=64
 ·by_cases hall:∀c∈s,0≤Lib.indexByte hexD c
  ·obtain⟨t,h1,h2⟩:=gN s (by omega) hall
   rw[ff,if_pos hs,h1]at h
   cases h
  ·obtain⟨j,c,h1,h2,h3⟩:=uO s hall
   obtain⟨t,ht⟩:=Al 32 s j
   exact⟨t,vd s hs j c h1 h2 h3 t ht⟩
 ·exact⟨zBk,qJ s hs hL⟩
theorem sJ (s t:List UInt8) (h:ff s=some t):FnIs Tryz.prog 48 [.d (strD s)] [] (blkR t true) []:=by
 unfold ff at h
 split at h
 ·rename_i hs
  have hall:∀c∈s,0≤Lib.indexByte hexD c:=fun c hc=>by
   by_cases hn:Lib.indexByte hexD c<0
   ·rw[kC s c hc hn]at h; cases h
   ·omega
  obtain⟨t',h1,h2⟩:=gN s (by omega) hall
  rw[h1]at h
  cases h
  exact xr s hs hall _ h2
 ·cases h
def bQ (h:List HEv):List UInt8:=h.flatMap fun x=>bv x++[10]
theorem qZ {h:List HEv} {i:Nat} {x:HEv} (hx:h[i]?=some x):bQ (h.take (i+1))=bQ (h.take i)++(bv x++[10]):=by
 rw[List.take_add_one,hx]; simp[bQ]
theorem vu (h:List HEv) (i:Nat):(bQ (h.take i)).length≤(bQ h).length:=by
 have:=congrArg (fun l=>(bQ l).length) (List.take_append_drop i h)
 simp only[bQ,List.flatMap_append,List.length_append]at this
 unfold bQ
 omega
theorem sq (h:List HEv) (hne:h≠[]) (hL:h.length≤1000000) (hc0:(chkH h).2=0) (hok:∀x∈h,x.Ok∧x.op.data.length≤64) (hT:(bQ h).length≤1048576):FnIs Tryz.prog 4 [.d (encH h)] [] (.tup (.acons (.d (strD (bQ h))) (.acons (.d (i6 0)) .anil))) []:=by
 have hh:h.length≤9223372036854775807:=by omega
 have d0:(!decide ((chkH h).2=0))=false:=by rw[dT hc0]; rfl
 refine au aa Tryz.func4 rfl rfl rfl ?_;refine sR<|zD<|zW ?_;refine rC ?_;refine rQ (ak (df h hh) rfl rfl (aj ab) (.inl rfl) (fun _=>rfl)) ?_;iterate 5 refine rC ?_
 refine nR<|zD ?_;refine zG<|kS<|sR ?_;refine rN<|zW ?_;refine rC ?_;refine rQ iE ?_;refine rC<|zP ?_
 refine wc_inv (fun i:Nat=>⟨[(19,.int .i64 i),(18,.int .i64 h.length),(17,.d (encH h)),(6,.ptr 65 [])],[(65,some (cY (Nat.beq i 0) 65 66 (bQ (h.take i)).length)),(66,some (rowT (bQ (h.take i))))],72,Tryz.f4.ntmps,64⟩) (fun i=>i≤h.length) (fun i=>h.length-i) 0 [(65,some _),(66,none)] (Nat.zero_le _)
  (lg zi ⟨⟨rfl,rfl,_,rfl,bj.split2⟩,⟨rfl,rfl,rfl⟩,trivial⟩) ?_
 intro i hi
 refine bG<|sR ?_;refine rC<|nQ ?_
 refine bO rfl (fun h3=>?_) (fun h3=>?_)
 ·have hlt:i<h.length:=by have:=of_decide_eq_true h3; omega
  obtain⟨x,hx⟩:∃x,h[i]?=some x:=⟨_,List.getElem?_eq_getElem hlt⟩
  have hx':h[((i:Int)).toNat]?=some x:=by rw[Int.toNat_natCast]; exact hx
  obtain⟨hokx,hdx⟩:=hok x (List.mem_of_getElem? hx)
  have hs0:0<(bv x++[10]).length:=by simp
  have hgo:=qZ hx
  have hle:=vu h (i+1)
  rw[hgo,List.length_append]at hle
  have hp1:(bQ (h.take i)).length+(bv x++[10]).length≤1048576:=by omega
  have hll:(bv x).length+1≤1048576:=by rw[List.length_append]at hp1; simp at hp1; omega
  have hl2:(bQ (h.take i)).length+(bv x++[10]).length=(bQ (h.take (i+1))).length:=by rw[hgo]; simp only[List.length_append]
  refine zQ<|zS<|rQ (aF aa rfl rfl rfl rfl rfl (by omega) hx') ?_;refine rQ iL ?_;refine rN ?_;refine rW<|nS<|am ?_;refine rQ iM ?_;refine rQ (ak (j4 x hokx hdx) rfl rfl (aj ab) (.inl rfl) (fun _=>rfl)) ?_;refine rQ (aG (a:=bv x) (b:=[10]) rfl rfl (by simp; omega) rfl) ?_;refine bB rfl (bJ [(0,some 65),(1,some 66)] (ia (Nat.beq i 0) (bQ (h.take i)) (bv x++[10]) (bQ (h.take i)).length rfl hs0 hp1) rfl rfl rfl (bC rfl rfl (aj ab)) ⟨⟨rfl,(by cases Nat.beq i 0 <;> rfl),_,_,rfl,rfl,(by cases Nat.beq i 0 <;> exact .refl _)⟩,zH,trivial⟩ rfl rfl (.inl rfl) rfl rfl) rfl rfl<|aA<|zC<|am ?_;refine rQ iD ?_;refine rC<|aA ?_
  exact aN (i+1) [(66,some _)] hlt (by omega) (lg zi ⟨⟨rfl,rfl,_,rfl,bj.of_eq (congrArg (cY false 65 _) hl2)⟩,⟨rfl,rfl,_,rfl,bj.of_eq (congrArg rowT hgo.symm)⟩,trivial⟩)
 ·have he:i=h.length:=by have:=of_decide_eq_false h3; omega
  subst he
  have hpos:=List.length_pos_iff.2 hne
  have hnn:bQ h≠[]:=fun e=>by
   obtain⟨x,l,rfl⟩:=List.exists_cons_of_ne_nil hne
   simp[bQ]at e
  have hbz:Nat.beq h.length 0=false:=by
   cases hz:Nat.beq h.length 0 with
   | false=>rfl
   | true=>have:=Nat.eq_of_beq_eq_true hz; omega
  rw[hbz,List.take_length]
  refine zX<|sR<|aT (bJ [(0,some 65),(1,some 66)] (gY (bQ h) (bQ h).length rfl hnn hT) rfl rfl rfl (bC rfl rfl ab) ⟨zH,zH,trivial⟩ rfl rfl (.inl rfl) rfl rfl) rfl ?_;refine zD<|zT ?_
  exact⟨trivial,[],lf⟩
theorem sp:FnIs Tryz.prog 4 [.d (encH [])] [] (.tup (.acons (.d (strD [])) (.acons (.d (i6 0)) .anil))) []:=by
 have hC:=df [] (by decide)
 rw[show chkH []=(0,0) from rfl]at hC
 refine au aa Tryz.func4 rfl rfl rfl ?_;refine sR<|zD<|zW ?_;refine rC ?_;refine rQ (ak hC rfl rfl (aj ab) (.inl rfl) (fun _=>rfl)) ?_;iterate 5 refine rC ?_
 refine nR<|zD ?_;refine zJ<|kS<|sR ?_;refine rN<|zW ?_;refine rC ?_;refine rQ iE ?_;refine rC<|zP ?_;refine jN<|sR ?_;refine rC<|nQ ?_;refine wG<|zX<|sR ?_;refine aJ (bJ [(0,some _)] km rfl rfl rfl (bC rfl rfl ab) ⟨zH,trivial⟩ rfl rfl (.inl rfl) rfl rfl) rfl ?_;refine zD<|zT ?_
 exact⟨trivial,[],lf⟩
theorem uJ (h:List HEv) (hh:h.length≤9223372036854775807) (h0:(chkH h).2≠0):FnIs Tryz.prog 4 [.d (encH h)] [] (.tup (.acons (.d (strD [])) (.acons (.int .i64 (chkH h).2) .anil))) []:=by
 have d0:(!decide ((chkH h).2=0))=true:=by rw[dF h0]; rfl
 have hC:=df h hh
 refine au aa Tryz.func4 rfl rfl rfl ?_;refine sR<|zD<|zW ?_;refine rC ?_;refine rQ (ak hC rfl rfl (aj ab) (.inl rfl) (fun _=>rfl)) ?_;iterate 5 refine rC ?_
 refine nR<|zD ?_;refine zI<|sR ?_;refine zU<|zT<|aP ?_
 exact⟨trivial,[],lf⟩
theorem ir (h:List HEv) (hh:h.length≤9223372036854775807) (hL:(chkH h).2=0→h.length≤1000000) (hok:(chkH h).2=0→∀x∈h,x.Ok∧x.op.data.length≤64) (hT:(chkH h).2=0→(bQ h).length≤1048576):FnIs Tryz.prog 4 [.d (encH h)] [] (.tup (.acons (.d (strD (if (chkH h).2=0 then bQ h else[]))) (.acons (.int .i64 (chkH h).2) .anil))) []:=by
 by_cases h0:(chkH h).2=0
 ·rw[if_pos h0,h0]
  by_cases hn:h=[]
  ·subst hn; exact sp
  ·exact sq h hn (hL h0) h0 (hok h0) (hT h0)
 ·rw[if_neg h0]
  exact uJ h hh h0
abbrev evR2 (y:HEv) (b:Bool):AV :=.tup (.acons (.d (aY y)) (.acons (.bool b) .anil))
theorem gr (k c e:Int) (b:Bool):AVLe (.tup (.acons (.d (.cons (u8s k) (.cons (i6 c) (.cons zPOp (.cons (.vec 32 1 bE (List.replicate 32 0)) (.cons (i6 e) .nil)))))) (.acons (.bool b) .anil))) (evR2 ⟨k,c,zOp,zBk,e⟩ b):=AVLe.tup1 (AVLe.d (dE k c e) rfl) rfl
theorem oZ (k c e:Int) (v:List UInt8) (b:Bool):AVLe (.tup (.acons (.d (.cons (u8s k) (.cons (i6 c) (.cons zPOp (.cons (fg v) (.cons (i6 e) .nil)))))) (.acons (.bool b) .anil))) (evR2 ⟨k,c,zOp,v,e⟩ b):=by
 refine AVLe.tup1 (AVLe.d ?_ rfl) rfl
 rintro w X cs ⟨c1,r1,rfl,h1,c2,r2,rfl,h2,c3,r3,rfl,h3,h4⟩
 exact⟨c1,_,rfl,h1,c2,_,rfl,h2,c3,_,rfl,hY _ _ _ h3,h4⟩
theorem qy (s:List UInt8) (hs:s=bF):FnIs Tryz.prog 19 [.d (strD s)] [] (evR2 ch true) []:=by
 have d0:decide (s=bF)=true:=dT hs
 refine au aa Tryz.func19 rfl rfl rfl ?_;refine sR<|rN ?_;refine rC<|zW ?_;refine rC ?_;refine rQ (bV (a:=s) (b:=bF) aa rfl rfl rfl) ?_;refine zI<|sR ?_;refine rQ iS ?_;refine rW ?_;refine rC<|zT<|aP ?_
 exact⟨trivial,_,rfl,[],lg ⟨⟨_,rfl,gr 3 0 0 true⟩,rfl,trivial⟩ trivial⟩
structure lb (s kind r1 cl rest:List UInt8) (b1 b2 ok:Bool) (n:Int):Prop where
 c1:FnIs Tryz.prog 18 [.d (strD s),.d (strD [32])] [] (.tup (.acons (.d (strD kind)) (.acons (.d (strD r1)) (.acons (.bool b1) .anil)))) []
 c2:FnIs Tryz.prog 18 [.d (strD r1),.d (strD [32])] [] (.tup (.acons (.d (strD cl)) (.acons (.d (strD rest)) (.acons (.bool b2) .anil)))) []
 a:FnIs Tryz.prog 46 [.d (strD cl)] [] (.tup (.acons (.int .i64 n) (.acons (erA ok) .anil))) []
theorem qw (s kind r1 cl rest:List UInt8) (b1 b2 ok:Bool) (n:Int) (H:lb s kind r1 cl rest b1 b2 ok n) (hs:s≠bF) (h1:kind≠bx) (h2:kind≠aU):FnIs Tryz.prog 19 [.d (strD s)] [] (evR2 ⟨0,n,zOp,zBk,0⟩ false) []:=by
 have d0:decide (s=bF)=false:=dF hs
 have d1:decide (kind=bx)=false:=dF h1
 have d2:decide (kind=aU)=false:=dF h2
 obtain⟨hc1,hc2,ha⟩:=H
 refine au aa Tryz.func19 rfl rfl rfl ?_
 cases ok with
 | false =>
  refine sR<|rN ?_;refine rC<|zW ?_;refine rC ?_;refine rQ (bV (a:=s) (b:=bF) aa rfl rfl rfl) ?_;refine zG<|kS<|sR ?_;refine rC ?_;refine rQ (ak hc1 rfl rfl (aj (aj ab)) (.inl rfl) (fun _=>rfl)) ?_;iterate 7 refine rC ?_
  refine nR<|rC ?_;refine rQ (ak hc2 rfl rfl (aj (aj ab)) (.inl rfl) (fun _=>rfl)) ?_;iterate 7 refine rC ?_
  refine nR<|rC ?_;refine rQ (ak ha rfl rfl (aj ab) (.inl rfl) (fun _=>rfl)) ?_;iterate 5 refine rC ?_
  refine nR<|zD ?_;refine rX<|zW ?_;refine rC<|zP<|sR ?_;refine rQ (bV (a:=kind) (b:=bx) aa rfl rfl rfl) ?_;refine rC ?_;refine zG<|sR ?_;refine rQ (bV (a:=kind) (b:=aU) aa rfl rfl rfl) ?_;refine rC ?_;refine zG<|sR ?_;refine rQ iM ?_;refine rW ?_;refine rC<|zT<|zB ?_
  exact⟨trivial,_,rfl,[],lg ⟨⟨_,rfl,gr 0 n 0 false⟩,rfl,trivial⟩ trivial⟩
 | true =>
  refine sR<|rN ?_;refine rC<|zW ?_;refine rC ?_;refine rQ (bV (a:=s) (b:=bF) aa rfl rfl rfl) ?_;refine zG<|kS<|sR ?_;refine rC ?_;refine rQ (ak hc1 rfl rfl (aj (aj ab)) (.inl rfl) (fun _=>rfl)) ?_;iterate 7 refine rC ?_
  refine nR<|rC ?_;refine rQ (ak hc2 rfl rfl (aj (aj ab)) (.inl rfl) (fun _=>rfl)) ?_;iterate 7 refine rC ?_
  refine nR<|rC ?_;refine rQ (ak ha rfl rfl (aj ab) (.inl rfl) (fun _=>rfl)) ?_;iterate 5 refine rC ?_
  refine nR<|zD ?_;refine rX<|zW ?_;refine rC<|zP<|sR ?_;refine rQ (bV (a:=kind) (b:=bx) aa rfl rfl rfl) ?_;refine rC ?_;refine zG<|sR ?_;refine rQ (bV (a:=kind) (b:=aU) aa rfl rfl rfl) ?_;refine rC ?_;refine zG<|sR ?_;refine rQ iM ?_;refine rW ?_;refine rC<|zT<|zB ?_
  exact⟨trivial,_,rfl,[],lg ⟨⟨_,rfl,gr 0 n 0 false⟩,rfl,trivial⟩ trivial⟩
theorem oY (s kind r1 cl rest:List UInt8) (b1 b2 ok:Bool) (n:Int) (H:lb s kind r1 cl rest b1 b2 ok n) (hs:s≠bF) (h1:kind=bx) (hrl:rest.length≤1048568) (l:List (List POp)) (k:Nat) (e:Int)
  (hp:FnIs Tryz.prog 47 [.d (strD (aI++[10]++rest++[10]))] [] (parR l k e) []) (hno:¬(ok=true∧e=0∧l.length=1∧∀p,l[0]?=some p→p.length=1)):FnIs Tryz.prog 19 [.d (strD s)] [] (evR2 ⟨1,n,zOp,zBk,0⟩ false) []:=by
 have d0:decide (s=bF)=false:=dF hs
 have d1:decide (kind=bx)=true:=dT h1
 obtain⟨hc1,hc2,ha⟩:=H
 refine au aa Tryz.func19 rfl rfl rfl ?_
 cases ok with
 | false =>
  refine sR<|rN ?_;refine rC<|zW ?_;refine rC ?_;refine rQ (bV (a:=s) (b:=bF) aa rfl rfl rfl) ?_;refine zG<|kS<|sR ?_;refine rC ?_;refine rQ (ak hc1 rfl rfl (aj (aj ab)) (.inl rfl) (fun _=>rfl)) ?_;iterate 7 refine rC ?_
  refine nR<|rC ?_;refine rQ (ak hc2 rfl rfl (aj (aj ab)) (.inl rfl) (fun _=>rfl)) ?_;iterate 7 refine rC ?_
  refine nR<|rC ?_;refine rQ (ak ha rfl rfl (aj ab) (.inl rfl) (fun _=>rfl)) ?_;iterate 5 refine rC ?_
  refine nR<|zD ?_;refine rX<|zW ?_;refine rC<|zP<|sR ?_;refine rQ (bV (a:=kind) (b:=bx) aa rfl rfl rfl) ?_;refine rC ?_;refine zI<|sR ?_;refine rC ?_;refine rX<|nR ?_;refine rC ?_;refine rQ (aG (a:=aI++[10]) (b:=rest) rfl rfl (by simp[aI]; omega) rfl) ?_;refine rQ (aG (a:=aI++[10]++rest) (b:=[10]) rfl rfl (by simp[aI]; omega) rfl) ?_;refine rQ (ak hp rfl rfl (aj ab) (.inl rfl) (fun _=>rfl)) ?_;iterate 7 refine rC ?_
  refine zW<|rC ?_;refine rQ (zx Tryz.underlying60 rfl) ?_;refine rC ?_;iterate 2 refine rT ?_
  refine rQ iU ?_;refine rC ?_;iterate 3 refine rT ?_
  refine rQ iU ?_;refine rC ?_;iterate 5 refine rT ?_
  refine rQ iU ?_;refine zO<|sR ?_;refine rQ iM ?_;refine rW ?_;refine rC<|zT<|aP<|zB ?_
  exact⟨trivial,_,rfl,[],lg ⟨⟨_,rfl,gr 1 n 0 false⟩,rfl,trivial⟩ trivial⟩
 | true =>
  by_cases he:e=0
  ·have f1:(!decide (e=0))=false:=by rw[dT he]; rfl
   by_cases hl:l.length=1
   ·have f2:(!decide ((l.length:Int)=1))=false:=by rw[dT (by omega)]; rfl
    obtain⟨p,hpl⟩:∃p,l[0]?=some p:=⟨_,List.getElem?_eq_getElem (by omega)⟩
    have hpl':l[((0:Int)).toNat]?=some p:=hpl
    have f3:(!decide ((p.length:Int)=1))=true:=by
     rw[dF]
     ·rfl
     ·intro e1
      exact hno ⟨rfl,he,hl,fun q hq=>by rw[hpl]at hq; cases hq; omega⟩
    refine sR<|rN ?_;refine rC<|zW ?_;refine rC ?_;refine rQ (bV (a:=s) (b:=bF) aa rfl rfl rfl) ?_;refine zG<|kS<|sR ?_;refine rC ?_;refine rQ (ak hc1 rfl rfl (aj (aj ab)) (.inl rfl) (fun _=>rfl)) ?_;iterate 7 refine rC ?_
    refine nR<|rC ?_;refine rQ (ak hc2 rfl rfl (aj (aj ab)) (.inl rfl) (fun _=>rfl)) ?_;iterate 7 refine rC ?_
    refine nR<|rC ?_;refine rQ (ak ha rfl rfl (aj ab) (.inl rfl) (fun _=>rfl)) ?_;iterate 5 refine rC ?_
    refine nR<|zD ?_;refine rX<|zW ?_;refine rC<|zP<|sR ?_;refine rQ (bV (a:=kind) (b:=bx) aa rfl rfl rfl) ?_;refine rC ?_;refine zI<|sR ?_;refine rC ?_;refine rX<|nR ?_;refine rC ?_;refine rQ (aG (a:=aI++[10]) (b:=rest) rfl rfl (by simp[aI]; omega) rfl) ?_;refine rQ (aG (a:=aI++[10]++rest) (b:=[10]) rfl rfl (by simp[aI]; omega) rfl) ?_;refine rQ (ak hp rfl rfl (aj ab) (.inl rfl) (fun _=>rfl)) ?_;iterate 7 refine rC ?_
    refine zW<|rC ?_;refine rQ (jU Tryz.underlying60 rfl) ?_;refine rC ?_;refine rP ?_;refine rC ?_;refine rP ?_;refine rC ?_;refine rQ iG ?_;refine rC ?_;refine rO ?_;refine rC ?_;refine rO ?_;refine rQ (bt aa rfl rfl) ?_;refine rO ?_;refine rC ?_;refine rQ iF ?_;refine rC ?_;refine rO ?_;refine rC ?_;refine rO ?_;refine rQ (aK aa rfl rfl rfl rfl rfl (by omega) (by assumption)) ?_;refine rO ?_;refine rQ iL ?_;refine rO ?_;refine rQ (bt aa rfl rfl) ?_;refine rO ?_;refine rC ?_;refine rQ iF ?_;refine zI<|sR ?_;refine rQ iM ?_;refine rW ?_;refine rC<|zT<|aP<|zB ?_
    exact⟨trivial,_,rfl,[],lg ⟨⟨_,rfl,gr 1 n 0 false⟩,rfl,trivial⟩ trivial⟩
   ·have f2:(!decide ((l.length:Int)=1))=true:=by rw[dF (by omega)]; rfl
    refine sR<|rN ?_;refine rC<|zW ?_;refine rC ?_;refine rQ (bV (a:=s) (b:=bF) aa rfl rfl rfl) ?_;refine zG<|kS<|sR ?_;refine rC ?_;refine rQ (ak hc1 rfl rfl (aj (aj ab)) (.inl rfl) (fun _=>rfl)) ?_;iterate 7 refine rC ?_
    refine nR<|rC ?_;refine rQ (ak hc2 rfl rfl (aj (aj ab)) (.inl rfl) (fun _=>rfl)) ?_;iterate 7 refine rC ?_
    refine nR<|rC ?_;refine rQ (ak ha rfl rfl (aj ab) (.inl rfl) (fun _=>rfl)) ?_;iterate 5 refine rC ?_
    refine nR<|zD ?_;refine rX<|zW ?_;refine rC<|zP<|sR ?_;refine rQ (bV (a:=kind) (b:=bx) aa rfl rfl rfl) ?_;refine rC ?_;refine zI<|sR ?_;refine rC ?_;refine rX<|nR ?_;refine rC ?_;refine rQ (aG (a:=aI++[10]) (b:=rest) rfl rfl (by simp[aI]; omega) rfl) ?_;refine rQ (aG (a:=aI++[10]++rest) (b:=[10]) rfl rfl (by simp[aI]; omega) rfl) ?_;refine rQ (ak hp rfl rfl (aj ab) (.inl rfl) (fun _=>rfl)) ?_;iterate 7 refine rC ?_
    refine zW<|rC ?_;refine rQ (jU Tryz.underlying60 rfl) ?_;refine rC ?_;refine rP ?_;refine rC ?_;refine rP ?_;refine rC ?_;refine rQ iG ?_;refine rC ?_;refine rO ?_;refine rC ?_;refine rO ?_;refine rQ (bt aa rfl rfl) ?_;refine rO ?_;refine rC ?_;refine rQ iF ?_;refine rC ?_;iterate 5 refine rS ?_
    refine rQ iT ?_;refine zO<|sR ?_;refine rQ iM ?_;refine rW ?_;refine rC<|zT<|aP<|zB ?_
    exact⟨trivial,_,rfl,[],lg ⟨⟨_,rfl,gr 1 n 0 false⟩,rfl,trivial⟩ trivial⟩
  ·have f1:(!decide (e=0))=true:=by rw[dF he]; rfl
   refine sR<|rN ?_;refine rC<|zW ?_;refine rC ?_;refine rQ (bV (a:=s) (b:=bF) aa rfl rfl rfl) ?_;refine zG<|kS<|sR ?_;refine rC ?_;refine rQ (ak hc1 rfl rfl (aj (aj ab)) (.inl rfl) (fun _=>rfl)) ?_;iterate 7 refine rC ?_
   refine nR<|rC ?_;refine rQ (ak hc2 rfl rfl (aj (aj ab)) (.inl rfl) (fun _=>rfl)) ?_;iterate 7 refine rC ?_
   refine nR<|rC ?_;refine rQ (ak ha rfl rfl (aj ab) (.inl rfl) (fun _=>rfl)) ?_;iterate 5 refine rC ?_
   refine nR<|zD ?_;refine rX<|zW ?_;refine rC<|zP<|sR ?_;refine rQ (bV (a:=kind) (b:=bx) aa rfl rfl rfl) ?_;refine rC ?_;refine zI<|sR ?_;refine rC ?_;refine rX<|nR ?_;refine rC ?_;refine rQ (aG (a:=aI++[10]) (b:=rest) rfl rfl (by simp[aI]; omega) rfl) ?_;refine rQ (aG (a:=aI++[10]++rest) (b:=[10]) rfl rfl (by simp[aI]; omega) rfl) ?_;refine rQ (ak hp rfl rfl (aj ab) (.inl rfl) (fun _=>rfl)) ?_;iterate 7 refine rC ?_
   refine zW<|rC ?_;refine rQ (jU Tryz.underlying60 rfl) ?_;refine rC ?_;refine rP ?_;refine rC ?_;refine rP ?_;refine rC ?_;refine rQ iG ?_;refine rC ?_;iterate 3 refine rS ?_
   refine rQ iT ?_;refine rC ?_;iterate 5 refine rT ?_
   refine rQ iU ?_;refine zO<|sR ?_;refine rQ iM ?_;refine rW ?_;refine rC<|zT<|aP<|zB ?_
   exact⟨trivial,_,rfl,[],lg ⟨⟨_,rfl,gr 1 n 0 false⟩,rfl,trivial⟩ trivial⟩
theorem uR (s kind r1 cl rest:List UInt8) (b1 b2:Bool) (n:Int) (H:lb s kind r1 cl rest b1 b2 true n) (hs:s≠bF) (h1:kind=bx) (hrl:rest.length≤1048568) (o:POp) (k:Nat)
  (hp:FnIs Tryz.prog 47 [.d (strD (aI++[10]++rest++[10]))] [] (parR [[o]] k 0) []) (hok:HEv.Ok ⟨1,n,o,zBk,0⟩) (hdo:o.data.length≤64) (c:Bool) (hcq:decide (bv ⟨1,n,o,zBk,0⟩=s)=c):FnIs Tryz.prog 19 [.d (strD s)] [] (evR2 ⟨1,n,o,zBk,0⟩ c) []:=by
 subst hcq
 have d0:decide (s=bF)=false:=dF hs
 have d1:decide (kind=bx)=true:=dT h1
 have f2:(!decide ((([[o]]:List (List POp)).length:Int)=1))=false:=rfl
 have f3:(!decide ((([o]:List POp).length:Int)=1))=false:=rfl
 have hpl':([[o]]:List (List POp))[((0:Int)).toNat]?=some [o]:=rfl
 have hpo':([o]:List POp)[((0:Int)).toNat]?=some o:=rfl
 obtain⟨hc1,hc2,ha⟩:=H
 refine au aa Tryz.func19 rfl rfl rfl ?_;refine sR<|rN ?_;refine rC<|zW ?_;refine rC ?_;refine rQ (bV (a:=s) (b:=bF) aa rfl rfl rfl) ?_;refine zG<|kS<|sR ?_;refine rC ?_;refine rQ (ak hc1 rfl rfl (aj (aj ab)) (.inl rfl) (fun _=>rfl)) ?_;iterate 7 refine rC ?_
 refine nR<|rC ?_;refine rQ (ak hc2 rfl rfl (aj (aj ab)) (.inl rfl) (fun _=>rfl)) ?_;iterate 7 refine rC ?_
 refine nR<|rC ?_;refine rQ (ak ha rfl rfl (aj ab) (.inl rfl) (fun _=>rfl)) ?_;iterate 5 refine rC ?_
 refine nR<|zD ?_;refine rX<|zW ?_;refine rC<|zP<|sR ?_;refine rQ (bV (a:=kind) (b:=bx) aa rfl rfl rfl) ?_;refine rC ?_;refine zI<|sR ?_;refine rC ?_;refine rX<|nR ?_;refine rC ?_;refine rQ (aG (a:=aI++[10]) (b:=rest) rfl rfl (by simp[aI]; omega) rfl) ?_;refine rQ (aG (a:=aI++[10]++rest) (b:=[10]) rfl rfl (by simp[aI]; omega) rfl) ?_;refine rQ (ak hp rfl rfl (aj ab) (.inl rfl) (fun _=>rfl)) ?_;iterate 7 refine rC ?_
 refine zW<|rC ?_;refine rQ (jU Tryz.underlying60 rfl) ?_;refine rC ?_;refine rP ?_;refine rC ?_;refine rP ?_;refine rC ?_;refine rQ iG ?_;refine rC ?_;refine rP ?_;refine rC ?_;refine rP ?_;refine rQ (bt aa rfl rfl) ?_;refine rP ?_;refine rC ?_;refine rQ iG ?_;refine rC ?_;refine rP ?_;refine rC ?_;refine rP ?_;refine rQ (aK aa rfl rfl rfl rfl rfl (by omega) (by assumption)) ?_;refine rP ?_;refine rQ iL ?_;refine rP ?_;refine rQ (bt aa rfl rfl) ?_;refine rP ?_;refine rC ?_;refine rQ iG ?_;refine zJ<|kS<|am ?_;refine rC ?_;refine rQ (aK aa rfl rfl rfl rfl rfl (by omega) (by assumption)) ?_;refine rQ iL ?_;refine rQ (aK aa rfl rfl rfl rfl rfl (by omega) (by assumption)) ?_;refine rQ iL ?_;refine rC ?_;refine rX<|aA<|gw<|aM<|bk ?_;refine aE (by kernel_rfl) ?_;refine dQ [2] [64] iM ?_;refine dC [10] [] ?_;refine dQ [114] [] (gu Tryz.underlying60 rfl) ?_;refine dC [115] [] ?_;refine ae [116,2] [64] rfl rfl rfl rfl (bc aa rfl rfl rfl rfl) ?_;refine ae [116,117] [] rfl rfl rfl rfl (ak (j4 ⟨1,n,o,zBk,0⟩ hok hdo) rfl rfl (aj ab) (.inl rfl) (fun _=>rfl)) ?_;refine ae [116,0] [] rfl rfl rfl rfl (aw aa (fun K hk=>hk)) ?_;refine ae [116,118,119] [] rfl rfl rfl rfl (bV (a:=bv ⟨1,n,o,zBk,0⟩) (b:=s) aa rfl rfl rfl) ?_;refine dQ [116,120] [] iU ?_;refine bI [2,113] [64] (aD aa rfl rfl rfl ⟨_,⟨rfl,rfl,rfl⟩,rfl⟩ rfl) ?_;refine dC [121] [] ?_;refine aB (by kernel_rfl)<|aM<|bR ?_
 exact⟨trivial,_,rfl,[],lf⟩
end Go.Proofs.YtpjiiolnfbfcbaaGreatDoor
namespace Go.Proofs.YtpjiiolnfbfcbaaGreatDoor
open Go.Eng Go.Plain
set_option maxHeartbeats 32000000
set_option maxRecDepth 20000
set_option linter.unusedVariables false
attribute [local irreducible] WC RegS RegD SeqQ BlkQ ScoQ RegK CutK Sat SatN FnIs LoopQ an OpIs
theorem pj {i:Nat} {k:Int} {v:AV} (h:cq[i]?=some (k,v)):∃w,v=.d (strD w)∧i<4∧dR w=some k∧w=fY k:=by
 unfold cq at h
 match i,h with
 | 0,h=>cases h; exact⟨_,rfl,by decide,by decide,rfl⟩
 | 1,h=>cases h; exact⟨_,rfl,by decide,by decide,rfl⟩
 | 2,h=>cases h; exact⟨_,rfl,by decide,by decide,rfl⟩
 | 3,h=>cases h; exact⟨_,rfl,by decide,by decide,rfl⟩
 | i+4,h=>simp at h
theorem tP {w:List UInt8} {k:Int} (h:dR w=some k):∃i,i<4∧cq[i]?=some (k,.d (strD w)):=by
 obtain⟨h1,h2⟩:=gR h
 rw[h2]
 rcases eS h1 with rfl | rfl | rfl | rfl
 ·exact⟨0,by decide,rfl⟩
 ·exact⟨1,by decide,rfl⟩
 ·exact⟨2,by decide,rfl⟩
 ·exact⟨3,by decide,rfl⟩
theorem ov:zOp.Ok:=⟨by decide,by decide⟩
theorem xL (k c e:Int) (v:List UInt8):DLe (.cons (u8s k) (.cons (i6 c) (.cons zPOp (.cons (fg v) (.cons (i6 e) .nil))))) (aY ⟨k,c,zOp,v,e⟩):=by
 rintro w X cs ⟨c1,r1,rfl,h1,c2,r2,rfl,h2,c3,r3,rfl,h3,h4⟩
 exact⟨c1,_,rfl,h1,c2,_,rfl,h2,c3,_,rfl,hY _ _ _ h3,h4⟩
theorem pi (k c e:Int) (v:List UInt8):dP [.d (.cons (u8s k) (.cons (i6 c) (.cons zPOp (.cons (fg v) (.cons (i6 e) .nil)))))] [.d (aY ⟨k,c,zOp,v,e⟩)]:=⟨⟨AVLe.d (xL k c e v) rfl,fun _ _=>trivial⟩,trivial⟩
def qg (seen:List Nat):Nat:=(if 0∈seen then 0 else 1)+(if 1∈seen then 0 else 1)+(if 2∈seen then 0 else 1)+(if 3∈seen then 0 else 1)
theorem l6 {seen:List Nat} {i:Nat} (hi:i<4) (hs:i ∉ seen):qg (seen++[i])<qg seen:=by
 unfold qg
 simp only[List.mem_append,List.mem_singleton]
 match i,hi,hs with
 | 0,_,hs=>simp only[hs,if_false,or_true,if_true]; simp
 | 1,_,hs=>simp only[hs,if_false,or_true,if_true]; simp
 | 2,_,hs=>simp only[hs,if_false,or_true,if_true]; simp
 | 3,_,hs=>simp only[hs,if_false,or_true,if_true]; simp
structure gB (word:List UInt8) (seen:List Nat) (f:Option Int):Prop where
 no:f=none→∀i∈seen,∀k,cq[i]?≠some (k,.d (strD word))
 yes:∀k,f=some k→dR word=some k
theorem gB.all {word:List UInt8} {seen:List Nat} {f:Option Int} (h:gB word seen f) (ha:∀i,i<4→i∈seen):f=dR word:=by
 cases f with
 | some k=>exact (h.yes k rfl).symm
 | none =>
  cases hk:dR word with
  | none=>rfl
  | some k =>
   obtain⟨i,hi,hg⟩:=tP hk
   exact absurd hg (h.no rfl i (ha i hi) k)
theorem vx {a b:List UInt8} (h:strD a=strD b):a=b:=by
 simp only[strD,mkS,D.sc.injEq,Value.string.injEq,ByteArray.mk.injEq]at h
 simpa using h
theorem gB.hit {word:List UInt8} {seen:List Nat} {f:Option Int} {i:Nat} {k:Int} (h:cq[i]?=some (k,.d (strD word))) (hk:dR word=some k):gB word (seen++[i]) (some k):=
 ⟨fun e=>(by cases e),fun k' e=>by cases e; exact hk⟩
theorem gB.miss {word w:List UInt8} {seen:List Nat} {f:Option Int} {i:Nat} {k:Int} (H:gB word seen f) (h:cq[i]?=some (k,.d (strD w))) (hne:w≠word):gB word (seen++[i]) f:=by
 refine⟨fun e j hj k' hg=>?_,H.yes⟩
 rcases List.mem_append.1 hj with hj | hj
 ·exact H.no e j hj k' hg
 ·have:j=i:=by simpa using hj
  subst this
  rw[h]at hg
  simp only[Option.some.injEq,Prod.mk.injEq,AV.d.injEq]at hg
  exact hne (vx hg.2)
def retV (more:Bool) (vb:List UInt8):List UInt8:=if more=true then vb else zBk
def lC (s:List UInt8) (n:Int) (ok more bb:Bool) (vb:List UInt8):Option Int→HEv×Bool
 | none=>(⟨2,n,zOp,zBk,0⟩,false)
 | some k=>(⟨2,n,zOp,retV more vb,k⟩,(if more=true then bb else true)&&(ok&&decide (bv ⟨2,n,zOp,retV more vb,k⟩=s)))
def kInt (f:Option Int):Int:=f.getD 0
abbrev y4 (n:Int) (f:Option Int):Row :=.box 32 (.d (.cons (u8s 2) (.cons (i6 n) (.cons zPOp (.cons (.vec 32 1 bE (List.replicate 32 0)) (.cons (i6 (kInt f)) .nil))))))
theorem lT (s kind r1 cl rest word value:List UInt8) (b1 b2 more bb:Bool) (n:Int) (vb:List UInt8) (H:lb s kind r1 cl rest b1 b2 false n) (hs:s≠bF) (h1:kind=aU)
  (hc3:FnIs Tryz.prog 18 [.d (strD rest),.d (strD [32])] [] (.tup (.acons (.d (strD word)) (.acons (.d (strD value)) (.acons (.bool more) .anil)))) []) (hb:FnIs Tryz.prog 48 [.d (strD value)] [] (blkR vb bb) []) (hbl:bb=true→vb.length=32) :
  FnIs Tryz.prog 19 [.d (strD s)] [] (evR2 (lC s n false more bb vb (dR word)).1 (lC s n false more bb vb (dR word)).2) []:=by
 have d0:decide (s=bF)=false:=dF hs
 have d1:decide (kind=bx)=false:=dF (by rw[h1]; decide)
 have d2:decide (kind=aU)=true:=dT h1
 obtain⟨hc1,hc2,ha⟩:=H
 refine au aa Tryz.func19 rfl rfl rfl ?_;refine sR<|rN ?_;refine rC<|zW ?_;refine rC ?_;refine rQ (bV (a:=s) (b:=bF) aa rfl rfl rfl) ?_;refine zG<|kS<|sR ?_;refine rC ?_;refine rQ (ak hc1 rfl rfl (aj (aj ab)) (.inl rfl) (fun _=>rfl)) ?_;iterate 7 refine rC ?_
 refine nR<|rC ?_;refine rQ (ak hc2 rfl rfl (aj (aj ab)) (.inl rfl) (fun _=>rfl)) ?_;iterate 7 refine rC ?_
 refine nR<|rC ?_;refine rQ (ak ha rfl rfl (aj ab) (.inl rfl) (fun _=>rfl)) ?_;iterate 5 refine rC ?_
 refine nR<|zD ?_;refine rX<|zW ?_;refine rC<|zP<|sR ?_;refine rQ (bV (a:=kind) (b:=bx) aa rfl rfl rfl) ?_;refine rC ?_;refine zG<|sR ?_;refine rQ (bV (a:=kind) (b:=aU) aa rfl rfl rfl) ?_;refine rC ?_;refine zI<|sR ?_;refine rC ?_;refine rX<|nR ?_;refine rC ?_;refine rQ (ak hc3 rfl rfl (aj (aj ab)) (.inl rfl) (fun _=>rfl)) ?_;iterate 7 refine rC ?_
 refine zW<|aJ (bJ [] mg rfl rfl rfl ab trivial rfl rfl (.inl rfl) rfl rfl) rfl ?_;refine aJ (nI (κ:=Int) (enc:=i6) (l:=cq) Tryz.underlying99 rfl rfl) rfl<|zP ?_
 refine wc_inv (fun q:List Nat×Option Int=>⟨[(89,.ptr 67 []),(14,.d (strD word)),(15,.d (strD value)),(16,.bool more),(10,erA false),(0,.d (strD s)),(2,.ptr 65 []),(3,.bool q.2.isSome)],[(65,some (y4 n q.2)),(66,some (.mo (mapC i6 cq))),(67,some (.mi (.mapr 66) 4 4 q.1))],72,Tryz.f19.ntmps,64⟩) (fun q=>gB word q.1 q.2) (fun q=>qg q.1) ([],none) [(65,some 64),(66,some 448),(67,some 456)] ⟨fun _ i hi=>(by cases hi),fun k e=>(by cases e)⟩
  (lg ze ⟨zR,zR,zR,trivial⟩) ?_
 rintro⟨seen,f⟩ hf
 simp only at hf
 refine bG<|sR ?_
 refine jR (κ:=Int) (enc:=i6) (l:=cq) rfl rfl rfl rfl rfl (fun hall=>?_) (fun i k v hl hs'=>?_)
 ·have hfe:=hf.all hall
  subst hfe
  refine rC<|nQ ?_;refine wG<|zX<|qR ?_;refine zD ?_
  cases hk:dR word with
  | none =>
   skip
   cases more with
   | false =>
    refine rT ?_;refine rQ iG ?_;refine zJ<|kS<|sR ?_;refine zD ?_;refine zO<|sR ?_;refine rQ iM ?_;refine rW ?_;refine rC<|zT<|zB ?_
    exact⟨trivial,_,rfl,[],lg ⟨⟨_,rfl,gr 2 n 0 false⟩,rfl,trivial⟩ trivial⟩
   | true =>
    refine rP ?_;refine rC ?_;refine rQ iU ?_;refine zJ<|kS<|sR ?_;refine zD ?_;refine zO<|sR ?_;refine rQ iM ?_;refine rW ?_;refine rC<|zT<|zB ?_
    exact⟨trivial,_,rfl,[],lg ⟨⟨_,rfl,gr 2 n 0 false⟩,rfl,trivial⟩ trivial⟩
  | some k =>
   have hkn:=(gR hk).1
   have hkr:=eS hkn
   skip
   cases more with
   | false =>
    obtain⟨v,hv⟩:∃v,v=zBk:=⟨_,rfl⟩
    subst hv
    refine rT ?_;refine rQ iG ?_;refine zJ<|kS<|sR ?_;refine zD ?_;refine zJ<|aL<|zC<|bk ?_;refine aE (by kernel_rfl) ?_;refine dQ [2] [65] iM ?_;refine dC [10] [] ?_;refine dQ [114] [] (nf Tryz.underlying60 rfl) ?_;refine dC [115] [] ?_;refine ai [116,2] rfl rfl rfl rfl ?_;refine ai [116,117] rfl rfl rfl rfl ?_;refine ai [116,0] rfl rfl rfl rfl ?_;refine ai [116,118,119] rfl rfl rfl rfl ?_;refine dQ [116,120] [] iG ?_;refine bI [2,113] [65] (aD aa rfl rfl rfl ⟨_,⟨rfl,rfl,rfl⟩,rfl⟩ rfl) ?_;refine dC [121] [] ?_;refine aB (by kernel_rfl)<|aM<|bR ?_
    exact⟨trivial,_,rfl,[],lg ⟨⟨_,rfl,gr 2 n k _⟩,rfl,trivial⟩ trivial⟩
   | true =>
    refine rP ?_;refine rC ?_;refine rQ iU ?_;refine zO<|am ?_;refine rC ?_;refine rQ (ak hb rfl rfl (aj ab) (.inl rfl) (fun _=>rfl)) ?_
    iterate 4 refine rC ?_
    refine rX ?_;refine rC<|nR ?_;refine zD<|nS ?_
    cases bb with
    | false =>
     refine wV<|sR ?_;refine rQ iM ?_;refine rW ?_;refine rC<|zT<|zB ?_
     exact⟨trivial,_,rfl,[],lg ⟨⟨_,rfl,oZ 2 n k vb _⟩,rfl,trivial⟩ trivial⟩
    | true =>
     obtain⟨v,hv⟩:∃v,v=vb:=⟨_,rfl⟩
     subst hv
     refine wG<|aL<|zC<|bk ?_;refine aE (by kernel_rfl) ?_;refine dQ [2] [65] iM ?_;refine dC [10] [] ?_;refine dQ [114] [] (nf Tryz.underlying60 rfl) ?_;refine dC [115] [] ?_;refine ai [116,2] rfl rfl rfl rfl ?_;refine ai [116,117] rfl rfl rfl rfl ?_;refine ai [116,0] rfl rfl rfl rfl ?_;refine ai [116,118,119] rfl rfl rfl rfl ?_;refine dQ [116,120] [] iG ?_;refine bI [2,113] [65] (aD aa rfl rfl rfl ⟨_,⟨rfl,rfl,rfl⟩,rfl⟩ rfl) ?_;refine dC [121] [] ?_;refine aB (by kernel_rfl)<|aM<|bR ?_
     exact⟨trivial,_,rfl,[],lg ⟨⟨_,rfl,oZ 2 n k v _⟩,rfl,trivial⟩ trivial⟩
 ·obtain⟨w,rfl,hi4,hkw,_⟩:=pj hl
  refine rC<|nQ ?_;refine wV<|kS<|zS ?_;refine rQ (n3 (κ:=Int) (enc:=i6) (l:=cq) (i:=i) rfl rfl rfl rfl hl) ?_
  iterate 4 refine rC ?_
  refine nR<|zD ?_;refine rQ (bV (a:=w) (b:=word) aa rfl rfl rfl)<|nS ?_
  by_cases hw:w=word
  ·have dw:decide (w=word)=true:=dT hw
   refine wT<|am ?_;refine zD ?_;refine rX ?_;refine rC<|aA<|gw ?_
   subst hw
   exact aN (seen++[i],some k) [] (gB.hit (f:=f) hl hkw) (l6 hi4 hs') (lg ze ⟨zR,zR,zR,trivial⟩)
  ·have dw:decide (w=word)=false:=dF hw
   refine wF<|aL<|gw ?_
   exact aN (seen++[i],f) [] (gB.miss hf hl hw) (l6 hi4 hs') (lg ze ⟨zR,zR,zR,trivial⟩)
theorem m9 (s kind r1 cl rest word value:List UInt8) (b1 b2 more bb:Bool) (n:Int) (vb:List UInt8) (H:lb s kind r1 cl rest b1 b2 true n) (hs:s≠bF) (h1:kind=aU)
  (hc3:FnIs Tryz.prog 18 [.d (strD rest),.d (strD [32])] [] (.tup (.acons (.d (strD word)) (.acons (.d (strD value)) (.acons (.bool more) .anil)))) []) (hb:FnIs Tryz.prog 48 [.d (strD value)] [] (blkR vb bb) []) (hbl:bb=true→vb.length=32) (hn0 : -9223372036854775808≤n) (hn1:n≤9223372036854775807) :
  FnIs Tryz.prog 19 [.d (strD s)] [] (evR2 (lC s n true more bb vb (dR word)).1 (lC s n true more bb vb (dR word)).2) []:=by
 have d0:decide (s=bF)=false:=dF hs
 have d1:decide (kind=bx)=false:=dF (by rw[h1]; decide)
 have d2:decide (kind=aU)=true:=dT h1
 obtain⟨hc1,hc2,ha⟩:=H
 refine au aa Tryz.func19 rfl rfl rfl ?_;refine sR<|rN ?_;refine rC<|zW ?_;refine rC ?_;refine rQ (bV (a:=s) (b:=bF) aa rfl rfl rfl) ?_;refine zG<|kS<|sR ?_;refine rC ?_;refine rQ (ak hc1 rfl rfl (aj (aj ab)) (.inl rfl) (fun _=>rfl)) ?_;iterate 7 refine rC ?_
 refine nR<|rC ?_;refine rQ (ak hc2 rfl rfl (aj (aj ab)) (.inl rfl) (fun _=>rfl)) ?_;iterate 7 refine rC ?_
 refine nR<|rC ?_;refine rQ (ak ha rfl rfl (aj ab) (.inl rfl) (fun _=>rfl)) ?_;iterate 5 refine rC ?_
 refine nR<|zD ?_;refine rX<|zW ?_;refine rC<|zP<|sR ?_;refine rQ (bV (a:=kind) (b:=bx) aa rfl rfl rfl) ?_;refine rC ?_;refine zG<|sR ?_;refine rQ (bV (a:=kind) (b:=aU) aa rfl rfl rfl) ?_;refine rC ?_;refine zI<|sR ?_;refine rC ?_;refine rX<|nR ?_;refine rC ?_;refine rQ (ak hc3 rfl rfl (aj (aj ab)) (.inl rfl) (fun _=>rfl)) ?_;iterate 7 refine rC ?_
 refine zW<|aJ (bJ [] mg rfl rfl rfl ab trivial rfl rfl (.inl rfl) rfl rfl) rfl ?_;refine aJ (nI (κ:=Int) (enc:=i6) (l:=cq) Tryz.underlying99 rfl rfl) rfl<|zP ?_
 refine wc_inv (fun q:List Nat×Option Int=>⟨[(89,.ptr 67 []),(14,.d (strD word)),(15,.d (strD value)),(16,.bool more),(10,erA true),(0,.d (strD s)),(2,.ptr 65 []),(3,.bool q.2.isSome)],[(65,some (y4 n q.2)),(66,some (.mo (mapC i6 cq))),(67,some (.mi (.mapr 66) 4 4 q.1))],72,Tryz.f19.ntmps,64⟩) (fun q=>gB word q.1 q.2) (fun q=>qg q.1) ([],none) [(65,some 64),(66,some 448),(67,some 456)] ⟨fun _ i hi=>(by cases hi),fun k e=>(by cases e)⟩
  (lg ze ⟨zR,zR,zR,trivial⟩) ?_
 rintro⟨seen,f⟩ hf
 simp only at hf
 refine bG<|sR ?_
 refine jR (κ:=Int) (enc:=i6) (l:=cq) rfl rfl rfl rfl rfl (fun hall=>?_) (fun i k v hl hs'=>?_)
 ·have hfe:=hf.all hall
  subst hfe
  refine rC<|nQ ?_;refine wG<|zX<|qR ?_;refine zD ?_
  cases hk:dR word with
  | none =>
   skip
   cases more with
   | false =>
    refine rT ?_;refine rQ iG ?_;refine zJ<|kS<|sR ?_;refine zD ?_;refine zO<|sR ?_;refine rQ iM ?_;refine rW ?_;refine rC<|zT<|zB ?_
    exact⟨trivial,_,rfl,[],lg ⟨⟨_,rfl,gr 2 n 0 false⟩,rfl,trivial⟩ trivial⟩
   | true =>
    refine rP ?_;refine rC ?_;refine rQ iU ?_;refine zJ<|kS<|sR ?_;refine zD ?_;refine zO<|sR ?_;refine rQ iM ?_;refine rW ?_;refine rC<|zT<|zB ?_
    exact⟨trivial,_,rfl,[],lg ⟨⟨_,rfl,gr 2 n 0 false⟩,rfl,trivial⟩ trivial⟩
  | some k =>
   have hkn:=(gR hk).1
   have hkr:=eS hkn
   skip
   cases more with
   | false =>
    obtain⟨v,hv⟩:∃v,v=zBk:=⟨_,rfl⟩
    have hok:HEv.Ok ⟨2,n,zOp,v,k⟩:=⟨show (0:Int)≤2∧(2:Int)≤255 by decide,⟨hn0,hn1⟩,ov,by rw[hv]; rfl,by rcases hkr with h | h | h | h <;> (simp only[h]; decide)⟩
    have hline:=FnIs.args_le (pi 2 n k v) (j4 ⟨2,n,zOp,v,k⟩ hok (show zOp.data.length≤64 by decide))
    rw[show lC s n true false bb vb (some k)=(⟨2,n,zOp,v,k⟩,decide (bv ⟨2,n,zOp,v,k⟩=s)) by rw[hv]; rfl]
    subst hv
    refine rT ?_;refine rQ iG ?_;refine zJ<|kS<|sR ?_;refine zD ?_;refine zJ<|aL<|zC<|bk ?_;refine aE (by kernel_rfl) ?_;refine dQ [2] [65] iM ?_;refine dC [10] [] ?_;refine dQ [114] [] (gu Tryz.underlying60 rfl) ?_;refine dC [115] [] ?_;refine ae [116,2] [65] rfl rfl rfl rfl (bc aa rfl rfl rfl rfl) ?_;refine ae [116,117] [] rfl rfl rfl rfl (ak hline rfl rfl (aj ab) (.inl rfl) (fun _=>rfl)) ?_;refine ae [116,0] [] rfl rfl rfl rfl (aw aa (fun K hk=>hk)) ?_;refine ae [116,118,119] [] rfl rfl rfl rfl (bV (a:=bv ⟨2,n,zOp,zBk,k⟩) (b:=s) aa rfl rfl rfl) ?_;refine dQ [116,120] [] iU ?_;refine bI [2,113] [65] (aD aa rfl rfl rfl ⟨_,⟨rfl,rfl,rfl⟩,rfl⟩ rfl) ?_;refine dC [121] [] ?_;refine aB (by kernel_rfl)<|aM<|bR ?_
    exact⟨trivial,_,rfl,[],lg ⟨⟨_,rfl,gr 2 n k _⟩,rfl,trivial⟩ trivial⟩
   | true =>
    refine rP ?_;refine rC ?_;refine rQ iU ?_;refine zO<|am ?_;refine rC ?_;refine rQ (ak hb rfl rfl (aj ab) (.inl rfl) (fun _=>rfl)) ?_
    iterate 4 refine rC ?_
    refine rX ?_;refine rC<|nR ?_;refine zD<|nS ?_
    cases bb with
    | false =>
     refine wV<|sR ?_;refine rQ iM ?_;refine rW ?_;refine rC<|zT<|zB ?_
     exact⟨trivial,_,rfl,[],lg ⟨⟨_,rfl,oZ 2 n k vb _⟩,rfl,trivial⟩ trivial⟩
    | true =>
     obtain⟨v,hv⟩:∃v,v=vb:=⟨_,rfl⟩
     subst hv
     have hok:HEv.Ok ⟨2,n,zOp,v,k⟩:=⟨show (0:Int)≤2∧(2:Int)≤255 by decide,⟨hn0,hn1⟩,ov,hbl rfl,by rcases hkr with h | h | h | h <;> (simp only[h]; decide)⟩
     have hline:=FnIs.args_le (pi 2 n k v) (j4 ⟨2,n,zOp,v,k⟩ hok (show zOp.data.length≤64 by decide))
     refine wG<|aL<|zC<|bk ?_;refine aE (by kernel_rfl) ?_;refine dQ [2] [65] iM ?_;refine dC [10] [] ?_;refine dQ [114] [] (gu Tryz.underlying60 rfl) ?_;refine dC [115] [] ?_;refine ae [116,2] [65] rfl rfl rfl rfl (bc aa rfl rfl rfl rfl) ?_;refine ae [116,117] [] rfl rfl rfl rfl (ak hline rfl rfl (aj ab) (.inl rfl) (fun _=>rfl)) ?_;refine ae [116,0] [] rfl rfl rfl rfl (aw aa (fun K hk=>hk)) ?_;refine ae [116,118,119] [] rfl rfl rfl rfl (bV (a:=bv ⟨2,n,zOp,v,k⟩) (b:=s) aa rfl rfl rfl) ?_;refine dQ [116,120] [] iU ?_;refine bI [2,113] [65] (aD aa rfl rfl rfl ⟨_,⟨rfl,rfl,rfl⟩,rfl⟩ rfl) ?_;refine dC [121] [] ?_;refine aB (by kernel_rfl)<|aM<|bR ?_
     exact⟨trivial,_,rfl,[],lg ⟨⟨_,rfl,oZ 2 n k v _⟩,rfl,trivial⟩ trivial⟩
 ·obtain⟨w,rfl,hi4,hkw,_⟩:=pj hl
  refine rC<|nQ ?_;refine wV<|kS<|zS ?_;refine rQ (n3 (κ:=Int) (enc:=i6) (l:=cq) (i:=i) rfl rfl rfl rfl hl) ?_
  iterate 4 refine rC ?_
  refine nR<|zD ?_;refine rQ (bV (a:=w) (b:=word) aa rfl rfl rfl)<|nS ?_
  by_cases hw:w=word
  ·have dw:decide (w=word)=true:=dT hw
   refine wT<|am ?_;refine zD ?_;refine rX ?_;refine rC<|aA<|gw ?_
   subst hw
   exact aN (seen++[i],some k) [] (gB.hit (f:=f) hl hkw) (l6 hi4 hs') (lg ze ⟨zR,zR,zR,trivial⟩)
  ·have dw:decide (w=word)=false:=dF hw
   refine wF<|aL<|gw ?_
   exact aN (seen++[i],f) [] (gB.miss hf hl hw) (l6 hi4 hs') (lg ze ⟨zR,zR,zR,trivial⟩)
end Go.Proofs.YtpjiiolnfbfcbaaGreatDoor
namespace Go.Proofs.YtpjiiolnfbfcbaaGreatDoor
open Go.Eng Go.Plain
set_option maxHeartbeats 32000000
set_option maxRecDepth 20000
set_option linter.unusedVariables false
set_option linter.unusedSimpArgs false
attribute [local irreducible] WC RegS RegD SeqQ BlkQ ScoQ RegK CutK Sat SatN FnIs LoopQ an OpIs
def yY:List (List UInt8)→List UInt8
 | []=>[]
 | [w]=>w
 | w::v::ws=>w++32::yY (v::ws)
def j32 (w:List UInt8):List UInt8:=w++[32]
def joinP (ws:List (List UInt8)) (k:Nat):List UInt8:=if k<ws.length then (ws.take k).flatMap j32 else yY ws
abbrev rdR (y:HEv) (b:Bool):AV :=.tup (.acons (.d (aY y)) (.acons (.int .i64 (if b then 1 else 0)) .anil))
def Cn:List Int:=[0,1,8,9]
def keyUp (c:List UInt8) (i:Nat):Int:=(Cn.take i).foldl (fun a e=>if ic e=c then e else a) 0
def cpL (l:List Int) (i:Nat):List Int:=l.take i++List.replicate (32-i) 0
abbrev rvBox (n e:Int) (v:List Int):Row :=.box 32 (.d (.cons (u8s 2) (.cons (i6 n) (.cons zPOp (.cons (.vec 32 1 bE v) (.cons (i6 e) .nil))))))
end Go.Proofs.YtpjiiolnfbfcbaaGreatDoor
namespace Go.Proofs.YtpjiiolnfbfcbaaGreatDoor
open Go.Eng Go.Plain
set_option maxHeartbeats 32000000
set_option maxRecDepth 20000
end Go.Proofs.YtpjiiolnfbfcbaaGreatDoor
namespace Go.Proofs.YtpjiiolnfbfcbaaGreatDoor
open Go.Eng Go.Plain
set_option maxHeartbeats 32000000
set_option maxRecDepth 20000
set_option linter.unusedVariables false
theorem ni (l:List UInt8) (c:UInt8):(cutA l c).1.length≤l.length∧(cutA l c).2.1.length≤l.length∧((cutA l c).2.1=[]∨(cutA l c).1.length+1+(cutA l c).2.1.length=l.length):=by
 unfold cutA
 cases h:cutL l c with
 | none=>exact⟨Nat.le_refl _,Nat.zero_le _,.inl rfl⟩
 | some pq =>
  obtain⟨p,q⟩:=pq
  have:=(cM h).1
  have hl:l.length=p.length+1+q.length:=by rw[this]; simp; omega
  exact⟨by simp only; omega,by simp only; omega,.inr (by simp only; omega)⟩
theorem qt {s:List UInt8} {x:HEv}:finE s false x=none:=by rw[finE,if_neg (fun h=>by cases h.1)]
theorem wQ {s:List UInt8} {x:HEv}:finE s true x=if bv x=s then some x else none:=by
 unfold finE
 by_cases h:bv x=s
 ·rw[if_pos ⟨rfl,h⟩,if_pos h]
 ·rw[if_neg (fun q=>h q.2),if_neg h]
abbrev EvIs (s:List UInt8):Prop:=∃y,FnIs Tryz.prog 19 [.d (strD s)] [] (evR2 y (evP s).isSome) [] ∧ ∀x,evP s=some x→y=x
theorem nc {s:List UInt8} {ok:Bool} {x:HEv} (he:evP s=finE s ok x) (hf:FnIs Tryz.prog 19 [.d (strD s)] [] (evR2 x (ok&&decide (bv x=s))) []):EvIs s:=by
 refine⟨x,?_,fun y hy=>?_⟩
 ·have:(evP s).isSome=(ok&&decide (bv x=s)):=by
   rw[he]
   cases ok with
   | false=>rw[qt]; rfl
   | true =>
    rw[wQ]
    by_cases h:bv x=s
    ·rw[if_pos h,dT h]; rfl
    ·rw[if_neg h,dF h]; rfl
  rw[this]; exact hf
 ·rw[he]at hy
  exact (kf hy).2.2
theorem jl {s:List UInt8} {x:HEv} (he:evP s=none) (hf:FnIs Tryz.prog 19 [.d (strD s)] [] (evR2 x false) []):EvIs s :=
 ⟨x,by rw[he]; exact hf,fun y hy=>by rw[he]at hy; cases hy⟩
theorem qx (s:List UInt8) (hs:s.length≤1048576):EvIs s:=by
 by_cases hc:s=bF
 ·have he:evP s=some ch:=by rw[evP,if_pos hc]
  exact⟨ch,by rw[he]; exact qy s hc,fun x hx=>by rw[he]at hx; cases hx; rfl⟩
 obtain⟨kind,r1,b1,hk1⟩:∃a b c,cutA s 32=(a,b,c):=⟨_,_,_,rfl⟩
 obtain⟨cl,rest,b2,hk2⟩:∃a b c,cutA r1 32=(a,b,c):=⟨_,_,_,rfl⟩
 have l1:=ni s 32
 have l2:=ni r1 32
 rw[hk1]at l1
 rw[hk2]at l2
 simp only at l1 l2
 have c1:=kX (l:=s) (c:=32) (by omega)
 have c2:=kX (l:=r1) (c:=32) (by omega)
 have a:=tH (l:=cl) (by omega)
 rw[hk1]at c1
 rw[hk2]at c2
 have H:lb s kind r1 cl rest b1 b2 (cr cl) (db cl):=⟨c1,c2,a⟩
 have hev:evP s=if kind=bx then
   match bM (aI++10::(rest++[10])) [] 1 with
   | ([[o]],_,e)=>if e=0 then finE s (cr cl) ⟨1,db cl,o,zBk,0⟩ else none
   | _=>none
  else if kind=aU then
   match dR (cutA rest 32).1 with
   | none=>none
   | some k=>if (cutA rest 32).2.2=true then
     match ff (cutA rest 32).2.1 with
     | none=>none
     | some v=>finE s (cr cl) ⟨2,db cl,zOp,v,k⟩
    else finE s (cr cl) ⟨2,db cl,zOp,zBk,k⟩
  else none:=by
  rw[evP,if_neg hc,hk1]
  simp only
  (rw[hk2]) <;> rfl
 by_cases hi:kind=bx
 ·rw[if_pos hi]at hev
  have hkl:kind.length=6:=by rw[hi]; rfl
  have hrl:rest.length≤1048568:=by
   rcases l1.2.2 with e | e
   ·have:r1.length=0:=by rw[e]; rfl
    omega
   ·rcases l2.2.2 with e2 | e2
    ·have:rest.length=0:=by rw[e2]; rfl
     omega
    ·omega
  have hp:=wh (aI++[10]++rest++[10]) (by simp[aI]; omega)
  have htx:aI++[10]++rest++[10]=aI++10::(rest++[10]):=by simp
  obtain⟨l,k,e,hP⟩:∃l k e,bM (aI++10::(rest++[10])) [] 1=(l,k,e):=⟨_,_,_,rfl⟩
  rw[show bM (aI++[10]++rest++[10]) [] 1=(l,k,e) by rw[htx]; exact hP]at hp
  simp only at hp
  rw[hP]at hev
  by_cases hyes:cr cl=true∧e=0∧l.length=1∧∀p,l[0]?=some p→p.length=1
  ·obtain⟨hok,rfl,hl1,hl2⟩:=hyes
   obtain⟨p,rfl⟩:∃p,l=[p]:=List.length_eq_one_iff.1 hl1
   obtain⟨o,rfl⟩:∃o,p=[o]:=List.length_eq_one_iff.1 (hl2 p rfl)
   simp only[if_pos]at hev
   obtain⟨q1,q2,_⟩:=lu hP
   obtain⟨r1',r2'⟩:=fF hok
   rw[hok]at H hev
   refine nc hev ?_
   rw[Bool.true_and]
   exact uR s kind r1 cl rest b1 b2 (db cl) H hc hi hrl o k hp ⟨show (0:Int)≤1∧(1:Int)≤255 by decide,⟨r1',r2'⟩,q1,rfl,by show (-9223372036854775808:Int)≤0∧(0:Int)≤9223372036854775807; decide⟩ q2 _ rfl
  ·refine jl ?_ (oY s kind r1 cl rest b1 b2 (cr cl) (db cl) H hc hi hrl l k e hp hyes)
   rw[hev]
   split
   ·rename_i o k' e' heq
    cases heq
    split
    ·rename_i he0
     cases hok:cr cl with
     | false=>exact qt
     | true=>exact absurd ⟨hok,he0,rfl,fun p hp=>by cases hp; rfl⟩ hyes
    ·rfl
   ·rfl
 rw[if_neg hi]at hev
 by_cases hr:kind=aU
 ·rw[if_pos hr]at hev
  obtain⟨word,value,more,hk3⟩:∃a b c,cutA rest 32=(a,b,c):=⟨_,_,_,rfl⟩
  have l3:=ni rest 32
  rw[hk3]at l3 hev
  simp only at l3 hev
  have c3:=kX (l:=rest) (c:=32) (by omega)
  rw[hk3]at c3
  have hbk:∃vb bb,FnIs Tryz.prog 48 [.d (strD value)] [] (blkR vb bb) []∧(bb=true→vb.length=32)∧(ff value=if bb=true then some vb else none):=by
   cases hb:ff value with
   | none =>
    obtain⟨v,hv⟩:=sK value hb (by omega)
    exact⟨v,false,hv,(fun h=>by cases h),by rw[if_neg (by decide)]⟩
   | some v=>exact⟨v,true,sJ value v hb,fun _=>om hb,by rw[if_pos rfl]⟩
  obtain⟨vb,bb,hb1,hb2,hb3⟩:=hbk
  have hF:FnIs Tryz.prog 19 [.d (strD s)] [] (evR2 (lC s (db cl) (cr cl) more bb vb (dR word)).1 (lC s (db cl) (cr cl) more bb vb (dR word)).2) []:=by
   cases hok:cr cl with
   | false =>
    rw[hok]at H
    exact lT s kind r1 cl rest word value b1 b2 more bb (db cl) vb H hc hr c3 hb1 hb2
   | true =>
    obtain⟨q1,q2⟩:=fF hok
    rw[hok]at H
    exact m9 s kind r1 cl rest word value b1 b2 more bb (db cl) vb H hc hr c3 hb1 hb2 q1 q2
  cases hkw:dR word with
  | none =>
   rw[hkw]at hF hev
   exact jl hev hF
  | some k =>
   rw[hkw]at hF hev
   simp only at hev
   unfold lC at hF
   simp only at hF
   cases more with
   | false =>
    simp only[Bool.false_eq_true,if_false,Bool.true_and]at hF hev
    exact nc hev hF
   | true =>
    simp only[if_true]at hF hev
    rw[hb3]at hev
    cases bb with
    | false =>
     simp only[Bool.false_eq_true,if_false,Bool.false_and]at hF hev
     exact jl hev hF
    | true =>
     simp only[if_true,Bool.true_and]at hF hev
     exact nc hev hF
 ·rw[if_neg hr]at hev
  exact jl hev (qw s kind r1 cl rest b1 b2 (cr cl) (db cl) H hc hi hr)
end Go.Proofs.YtpjiiolnfbfcbaaGreatDoor
namespace Go.Proofs.YtpjiiolnfbfcbaaGreatDoor
open Go.Eng Go.Plain
set_option maxHeartbeats 32000000
set_option maxRecDepth 20000
set_option linter.unusedVariables false
attribute [local irreducible] WC RegS RegD SeqQ BlkQ ScoQ RegK CutK Sat SatN FnIs LoopQ an OpIs
abbrev hpR (l:List HEv) (n:Nat) (e:Int):AV :=.tup (.acons (.d (fO l)) (.acons (.int .i64 n) (.acons (.d (i6 e)) .anil)))
theorem qn (s:List UInt8) (hl:1048576<s.length):FnIs Tryz.prog 5 [.d (strD s)] [] (hpR [] 0 3) []:=by
 have h0:decide ((1048576:Int)<(s.length:Int))=true:=dT (by omega)
 refine au aa Tryz.func5 rfl rfl rfl ?_;refine sR<|zU<|zW ?_;refine rC ?_;refine rQ (ek aa rfl rfl) ?_;refine rC ?_;refine zI<|sR ?_;refine zU<|zT<|aP ?_
 exact⟨trivial,[],lg ⟨⟨_,rfl,AVLe.tup1 (cB _ _) rfl⟩,rfl,trivial⟩ trivial⟩
structure Cv (s0:List UInt8) (rd:RdS) (h:List HEv) (s:List UInt8):Prop where
 rok:rd.Ok h.length
 len:h.length≤8192
 sl:s.length≤1048576
 eq:cU s rd h (h.length+1)=cU s0 rd0 [] 1
theorem eg (s0:List UInt8) (hl:s0.length≤1048576):FnIs Tryz.prog 5 [.d (strD s0)] [] (hpR (cU s0 rd0 [] 1).1 (cU s0 rd0 [] 1).2.1 (cU s0 rd0 [] 1).2.2) []:=by
 have h0:decide ((1048576:Int)<(s0.length:Int))=false:=dF (by omega)
 refine au aa Tryz.func5 rfl rfl rfl ?_;refine sR<|zU<|zW ?_;refine rC ?_;refine rQ (ek aa rfl rfl) ?_;refine rC ?_;refine zG<|kS<|sR ?_;refine rQ iS ?_;refine rN ?_;refine rC<|nR ?_;refine zU<|zW ?_;refine rC<|zP ?_
 refine wc_inv (fun q:RdS×List HEv×List UInt8=>⟨[(0,.d (strD q.2.2)),(2,.own 66 0 q.2.1.length 38 none),(3,.int .i64 ((q.2.1.length+1:Nat):Int)),(6,fnT 64)],[(64,some (cP q.1 65)),(65,some (dA q.1.all)),(66,some (.ds 32 38 false aY q.2.1))],72,Tryz.f5.ntmps,64⟩) (fun q=>Cv s0 q.1 q.2.1 q.2.2) (fun q=>q.2.2.length) (rd0,[],s0) [(64,some 120),(65,none),(66,none)] ⟨gL,Nat.zero_le _,hl,rfl⟩
  (lg zi ⟨⟨rfl,rfl,_,rfl,oI⟩,⟨rfl,rfl,rfl⟩,⟨rfl,rfl,rfl⟩,trivial⟩) ?_
 rintro⟨rd,h,s⟩ hs
 simp only at hs
 refine bG ?_
 have hsl:=hs.sl
 have hle:=hs.len
 have hn:h.length≤1000000:=by omega
 have hal:h.length+1≤1048576:=by omega
 have hw1:IntKind.i64.wrap (((h.length+1:Nat):Int)+1)=((h.length+1+1:Nat):Int):=aO (by omega) (by omega)
 by_cases hz:s=[]
 ·have e0:(!decide (s=[]))=false:=by rw[dT hz]; rfl
  have he:=hs.eq
  rw[hz,jI]at he
  rw[←he]
  refine qR<|rC ?_;refine rQ (dB (a:=s) (b:=[]) aa rfl rfl rfl) ?_;refine zG<|cv<|ew<|fe<|eD<|aM<|sR ?_;refine rC ?_;refine bT (env':=[(58,_)]) (h':=[]) 66 _ rfl ⟨⟨_,rfl,Frz.own rfl⟩,trivial⟩ trivial ?_;refine rQ (ak (oX h (by omega)) rfl rfl (aj ab) (.inl rfl) (fun _=>rfl)) ?_;refine zU<|zT ?_
  exact⟨trivial,[],lf⟩
 have e0:(!decide (s=[]))=true:=by rw[dF hz]; rfl
 have hcut:=kX (l:=s) (c:=10) (by omega)
 have he:=hs.eq
 cases hc:cutL s 10 with
 | none =>
  rw[ly _ _ _ hz hc]at he
  rw[←he]
  rw[cutA,hc]at hcut
  simp only at hcut
  obtain⟨y,hev,_⟩:=qx s hsl
  refine qR<|rC ?_;refine rQ (dB (a:=s) (b:=[]) aa rfl rfl rfl) ?_;refine zI<|zQ<|zS ?_;refine rC ?_;refine rQ (ak hcut rfl rfl (aj (aj ab)) (.inl rfl) (fun _=>rfl)) ?_;iterate 7 refine rC ?_
  refine nR<|rC ?_;refine rQ (ak hev rfl rfl (aj ab) (.inl rfl) (fun _=>rfl)) ?_;refine zU ?_;refine rN ?_;refine rW ?_;refine rC<|nQ<|zS ?_;refine zU ?_
  iterate 2 refine rT ?_
  refine rQ iU ?_;refine rC ?_;refine zO<|sR ?_;iterate 4 refine rC ?_
  refine zT<|zB<|zB<|ce<|zB ?_
  exact⟨trivial,[],lg ⟨⟨_,rfl,AVLe.tup1 (cB _ _) rfl⟩,rfl,trivial⟩ trivial⟩
 | some tr =>
  obtain⟨t,r⟩:=tr
  rw[cutA,hc]at hcut
  simp only at hcut
  rw[ef _ _ _ hz hc]at he
  have hlc:=(cM hc).1
  have hlen:s.length=t.length+1+r.length:=by rw[hlc]; simp; omega
  obtain⟨y,hev,hy⟩:=qx t (by omega)
  cases hep:evP t with
  | none =>
   rw[hep]at hev he
   simp only[Option.isSome]at hev
   simp only at he
   rw[←he]
   refine qR<|rC ?_;refine rQ (dB (a:=s) (b:=[]) aa rfl rfl rfl) ?_;refine zI<|zQ<|zS ?_;refine rC ?_;refine rQ (ak hcut rfl rfl (aj (aj ab)) (.inl rfl) (fun _=>rfl)) ?_;iterate 7 refine rC ?_
   refine nR<|rC ?_;refine rQ (ak hev rfl rfl (aj ab) (.inl rfl) (fun _=>rfl)) ?_;refine zU ?_;refine rN ?_;refine rW ?_;refine rC<|nQ<|zS ?_;refine zU ?_;refine rP ?_;refine rC ?_;refine rP ?_;refine rC ?_;refine rQ iG ?_;refine rC ?_;refine zO<|sR ?_;iterate 4 refine rC ?_
   refine zT<|zB<|zB<|ce<|zB ?_
   exact⟨trivial,[],lg ⟨⟨_,rfl,AVLe.tup1 (cB _ _) rfl⟩,rfl,trivial⟩ trivial⟩
  | some x =>
   have:=hy x hep
   subst this
   obtain⟨x,rfl⟩:∃x,x=y:=⟨y,rfl⟩
   rw[hep]at hev he
   simp only[Option.isSome]at hev
   simp only at he
   have hxw:=(wW hep).1
   by_cases h8:8192<h.length+1
   ·have e8:decide ((8192:Int)<((h.length+1:Nat):Int))=true:=dT (by omega)
    rw[if_pos h8]at he
    rw[←he]
    refine qR<|rC ?_;refine rQ (dB (a:=s) (b:=[]) aa rfl rfl rfl) ?_;refine zI<|zQ<|zS ?_;refine rC ?_;refine rQ (ak hcut rfl rfl (aj (aj ab)) (.inl rfl) (fun _=>rfl)) ?_;iterate 7 refine rC ?_
    refine nR<|rC ?_;refine rQ (ak hev rfl rfl (aj ab) (.inl rfl) (fun _=>rfl)) ?_;refine zU ?_;refine rN ?_;refine rW ?_;refine rC<|nQ<|zS ?_;refine zU ?_;refine rP ?_;refine rC ?_;refine rP ?_;refine rC ?_;refine rQ iG ?_;refine rC ?_;refine zJ<|sR ?_;refine zU ?_;refine zI<|sR ?_;iterate 4 refine rC ?_
    refine zT<|zB<|zB<|ce<|zB ?_
    exact⟨trivial,[],lg ⟨⟨_,rfl,AVLe.tup1 (cB _ _) rfl⟩,rfl,trivial⟩ trivial⟩
   ·have e8:decide ((8192:Int)<((h.length+1:Nat):Int))=false:=dF (by omega)
    rw[if_neg h8]at he
    have hdx:x.op.data.length≤1048576:=by
     rcases hxw.2.2 with h | h | h
     ·rw[h.2.2.1]; decide
     ·have:=h.2.2.2.2; omega
     ·rw[h.2.1]; decide
    cases hb:(ba rd x).2 with
    | false =>
     have eb:(!(ba rd x).2)=true:=by rw[hb]; rfl
     rw[hb]at he
     simp only[Bool.false_eq_true,if_false]at he
     rw[←he]
     refine qR<|rC ?_;refine rQ (dB (a:=s) (b:=[]) aa rfl rfl rfl) ?_;refine zI<|zQ<|zS ?_;refine rC ?_;refine rQ (ak hcut rfl rfl (aj (aj ab)) (.inl rfl) (fun _=>rfl)) ?_;iterate 7 refine rC ?_
     refine nR<|rC ?_;refine rQ (ak hev rfl rfl (aj ab) (.inl rfl) (fun _=>rfl)) ?_;refine zU ?_;refine rN ?_;refine rW ?_;refine rC<|nQ<|zS ?_;refine zU ?_;refine rP ?_;refine rC ?_;refine rP ?_;refine rC ?_;refine rQ iG ?_;refine rC ?_;refine zJ<|sR ?_;refine zU ?_;refine zG<|sR ?_;refine rC ?_;refine rQ iM ?_;refine bB rfl (o7 [(0,some 64),(1,some 65)] (oy rd x h.length hs.rok hn) rfl rfl rfl rfl (bC rfl rfl (aj ab)) ⟨zH,zH,trivial⟩ rfl rfl (.inl rfl) rfl rfl) rfl rfl ?_;refine zD ?_;refine zI<|sR ?_;iterate 4 refine rC ?_
     refine zT<|zB<|zB<|ce<|zB ?_
     exact⟨trivial,[],lg ⟨⟨_,rfl,AVLe.tup1 (cB _ _) rfl⟩,rfl,trivial⟩ trivial⟩
    | true =>
     have eb:(!(ba rd x).2)=false:=by rw[hb]; rfl
     rw[hb,if_pos rfl]at he
     have hl1:h.length+1=(h++[x]).length:=by simp
     have hl2:((h.length+1+1:Nat):Int)=(((h++[x]).length+1:Nat):Int):=by simp
     refine qR<|rC ?_;refine rQ (dB (a:=s) (b:=[]) aa rfl rfl rfl) ?_;refine zI<|zQ<|zS ?_;refine rC ?_;refine rQ (ak hcut rfl rfl (aj (aj ab)) (.inl rfl) (fun _=>rfl)) ?_;iterate 7 refine rC ?_
     refine nR<|rC ?_;refine rQ (ak hev rfl rfl (aj ab) (.inl rfl) (fun _=>rfl)) ?_;refine zU ?_;refine rN ?_;refine rW ?_;refine rC<|nQ<|zS ?_;refine zU ?_;refine rP ?_;refine rC ?_;refine rP ?_;refine rC ?_;refine rQ iG ?_;refine rC ?_;refine zJ<|sR ?_;refine zU ?_;refine zG<|sR ?_;refine rC ?_;refine rQ iM ?_;refine bB rfl (o7 [(0,some 64),(1,some 65)] (oy rd x h.length hs.rok hn) rfl rfl rfl rfl (bC rfl rfl (aj ab)) ⟨zH,zH,trivial⟩ rfl rfl (.inl rfl) rfl rfl) rfl rfl ?_;refine zD ?_;refine zG<|aL<|zC<|sR ?_;refine rC ?_;refine rQ iM ?_;refine rQ (ak (oL x hdx) rfl rfl (aj ab) (.inl rfl) (fun _=>rfl)) ?_;refine aJ (aC (s:=38) aa rfl rfl rfl rfl rfl rfl rfl rfl) rfl ?_;refine aT (aR (enc:=aY) (s:=38) (xs:=h) aa x rfl rfl rfl rfl rfl rfl rfl rfl rfl hal rfl) rfl ?_;refine rC<|nS<|am ?_;refine zD<|aA<|zC<|am ?_;refine rC ?_;refine rQ (cJ (m:=((h.length+1+1:Nat):Int)) aa rfl rfl hw1) ?_;refine rC<|aA ?_
     exact aN ((ba rd x).1,h++[x],r) [(64,some 64),(65,some _),(66,some _)] ⟨by rw[←hl1]; exact hs.rok.next x,by rw[←hl1]; omega,show r.length≤1048576 by omega,by rw[←hl1]; exact he⟩ (by show r.length<s.length; omega) (lg ⟨zE,rfl,⟨_,rfl,AVLe.of_eq (congrArg (fun n=>AV.own _ 0 n 38 none) hl1)⟩,rfl,⟨_,rfl,AVLe.of_eq (congrArg (fun n=>AV.int .i64 n) hl2)⟩,rfl,zE,rfl,trivial⟩ ⟨zR,zR,zR,trivial⟩)
abbrev rhpR (l:List HEv) (n:Nat) (e:Int):AV :=.tup (.acons (.d (encH l)) (.acons (.int .i64 n) (.acons (.int .i64 e) .anil)))
structure RPInv (W:List (List UInt8)) (h:List HEv) (i:Nat):Prop where
 len:h.length≤i
 i8:i≤8192
 iw:i<W.length
 eq:oW (W.drop i) i h=oW W 0 []
def xc (x:HEv):D :=.cons (u8s x.kind) (.cons (i6 x.client) (.cons (.cons (u8s x.op.kind) (.cons (i6 x.op.index) (.cons (.sc (.slice none 0 0)) .nil))) (.cons (fg x.value) (.cons (i6 x.err) .nil))))
theorem xb {x:HEv} (h:x.op.data=[]):DLe (xc x) (aY x):=by
 obtain⟨k,c,⟨ok,oi,od⟩,v,e⟩:=x
 simp only at h
 subst h
 rintro w X cs ⟨c1,r1,rfl,h1,c2,r2,rfl,h2,c3,r3,rfl,h3,h4⟩
 refine⟨c1,_,rfl,h1,c2,_,rfl,h2,c3,_,rfl,?_,h4⟩
 obtain⟨d1,q1,rfl,g1,d2,q2,rfl,g2,d3,q3,rfl,⟨rfl,_⟩,rfl⟩:=h3
 exact⟨d1,_,rfl,g1,d2,_,rfl,g2,[.slice none 0 0],[],rfl,.inl ⟨rfl,rfl⟩,rfl⟩
theorem uT {l:List HEv} (h:∀x∈l,x.op.data=[]):DLe (.arr 38 xc l) (encH l):=jo (g:=id) (by simp) fun x hx=>xb (h x hx)
def b7:List UInt8:=List.replicate 32 7
def ca:List HEv:=[⟨1,0,⟨1,1,[]⟩,zBk,0⟩,⟨1,1,⟨3,0,[]⟩,zBk,0⟩,⟨2,0,zOp,b7,0⟩,⟨3,0,zOp,zBk,0⟩,⟨1,0,⟨1,1,[]⟩,zBk,0⟩]
theorem ug:FnIs Tryz.prog 36 [] [] (.d (encH ca)) []:=by
 refine au aa Tryz.func36 rfl rfl rfl ?_;refine sR<|rC<|nR ?_;refine rQ iS ?_;refine rN ?_;refine rW<|nR ?_;refine rN<|nQ<|sR ?_;refine rC<|zP ?_
 refine wc_inv (fun i:Nat=>⟨[(1,.ptr 64 []),(2,.ptr 65 []),(3,.int .i64 (i:Nat))],[(64,some (.box 27 (.d (.cons (u8s 1) (.cons (i6 1) (.cons (.sc (.slice none 0 0)) .nil)))))),(65,some (.box 29 (.d (.vec 32 1 bE (eA 7 32 i)))))],120,Tryz.f36.ntmps,64⟩) (fun i=>i≤32) (fun i=>32-i) 0 [(64,some _),(65,some _)] (Nat.zero_le _)
  (lg zj ⟨zR,zR,trivial⟩) ?_
 intro i hi
 refine bG ?_
 by_cases hlt:i<32
 ·have c1:decide ((i:Int)<32)=true:=dT (by omega)
  have hg:(eA 7 32 i)[((i:Int)).toNat]?=some 0:=by rw[Int.toNat_natCast]; exact kM hlt
  have hs:=kL (d:=7) hlt
  refine qR<|zD ?_;refine zI<|zQ<|aZ<|am ?_;refine rC ?_;refine rQ (aw aa (fun K hk=>⟨by omega,by omega,hk⟩)) ?_;refine bg (aD aa rfl rfl rfl ⟨_,⟨_,⟨rfl,_,(7:Int),hg,⟨rfl,rfl,rfl⟩,rfl⟩,rfl⟩,rfl⟩ rfl)<|aA<|zC<|am ?_;refine rC ?_;refine rQ iD ?_;refine rC<|aA ?_
  exact aN (i+1) [(64,some 64),(65,some 65)] hlt (by omega) (lg zj ⟨zR,⟨rfl,rfl,_,rfl,bj.of_eq (congrArg (fun l=>Row.box 29 (.d (.vec 32 1 bE l))) hs)⟩,trivial⟩)
 ·have c1:decide ((i:Int)<32)=false:=dF (by omega)
  have he:i=32:=by omega
  subst he
  have hE:eA 7 32 32=byI b7:=kN 7 32
  rw[hE]
  refine qR<|zD ?_;refine zJ<|zX<|sR ?_;refine rQ iM ?_;iterate 3 refine rQ iS ?_
  refine rQ iM ?_;iterate 2 refine rQ iS ?_
  refine rQ iM ?_;refine rQ iS ?_;refine rQ (an.frozen (aC (s:=38) aa rfl rfl rfl rfl rfl rfl rfl rfl) (Frz.litsN (enc:=xc) ca rfl (fun _ _=>rfl))) ?_;refine rC<|zT ?_
  exact⟨trivial,[],lg ⟨⟨_,rfl,AVLe.d (uT (by decide)) rfl⟩,rfl,trivial⟩ trivial⟩
def t1L:List UInt8:=[114,101,116,117,114,110,32,48,32,111,107,10]
def t2L:List UInt8:=[105,110,118,111,107,101,32,56,32,102,108,117,115,104,10]
def preL:List UInt8:=[105,110,118,111,107,101,32,48,32,114,101,97,100,32,49,10,105,110,118,111,107,101,32,49,32,102,108,117,115,104,10,114,101,116,117,114,110,32,48,32,111,107,32]
def p0:List UInt8:=[10,99,114,97,115,104,10,105,110,118,111,107,101,32,48,32,114,101,97,100,32,49,10]
def w07:Nat→List UInt8
 | 0=>[]
 | n+1=>w07 n++[48,55]
theorem lV:∀n,(w07 n).length=2*n
 | 0=>rfl
 | n+1=>by rw[w07,List.length_append,lV n]; simp; omega
def e3:List Int:=[18,18,5]
theorem uy (S:List HEv) (O:List HOp) (o0 o1 o2:HOp) (EE:List (List HEv)) (E0 E1 P1:List HEv) (T:List UInt8)
  (hS:FnIs Tryz.prog 36 [] [] (.d (encH S)) []) (h1S:1≤S.length)
  (hc:FnIs Tryz.prog 6 [.d (encH S)] [] (.tup (.acons (.int .i64 0) (.acons (.int .i64 0) .anil))) [])
  (hc1:FnIs Tryz.prog 6 [.d (encH (S.drop 1))] [] (.tup (.acons (.int .i64 1) (.acons (.int .i64 18) .anil))) [])
  (ho:FnIs Tryz.prog 7 [.d (encH S)] [] (.tup (.acons (.d (lG O)) (.acons (.int .i64 0) .anil))) [])
  (he:FnIs Tryz.prog 26 [.d (encH S)] [] (.tup (.acons (.d (.arx 1 fO EE)) (.acons (.int .i64 0) .anil))) [])
  (hp:FnIs Tryz.prog 27 [.d (encH S),.int .i64 1] [] (.tup (.acons (.d (fO P1)) (.acons (.int .i64 0) .anil))) [])
  (ht:FnIs Tryz.prog 4 [.d (encH S)] [] (.tup (.acons (.d (strD T)) (.acons (.int .i64 0) .anil))) [])
  (hO:O.length=3) (hO0:O[((0:Int)).toNat]?=some o0) (hO1:O[((1:Int)).toNat]?=some o1) (hO2:O[((2:Int)).toNat]?=some o2)
  (hEE:EE.length=2) (hE0:EE[((0:Int)).toNat]?=some E0) (hE1:EE[((1:Int)).toNat]?=some E1) (hl0:E0.length=3) (hl1:E1.length=1) (hlp:P1.length=2)
  (hro:FnIs Tryz.prog 30 [.d (encH S)] [] (.d (eu O)) [])
  (hso:FnIs Tryz.prog 29 [.d (eu O),.d (eu O)] [] (.d (i6 1)) [])
  (r0:o0.returned=2) (r1:o1.returned = -1) (r2:o2.number=1) (r3:o2.era=1) (r4:o2.invoked=4)
  (hb01:FnIs Tryz.prog 34 [.d (b8 o0),.d (b8 o1)] [] (.bool false) [])
  (hb12:FnIs Tryz.prog 34 [.d (b8 o1),.d (b8 o2)] [] (.bool true) [])
  (hb20:FnIs Tryz.prog 34 [.d (b8 o2),.d (b8 o0)] [] (.bool false) [])
  (hp1:FnIs Tryz.prog 5 [.d (strD t1L)] [] (hpR [] 1 18) [])
  (hp2:FnIs Tryz.prog 5 [.d (strD t2L)] [] (hpR [] 1 18) [])
  (hp3:FnIs Tryz.prog 5 [.d (strD bF)] [] (hpR [] 1 5) [])
  (hT:T=preL++w07 32++p0):FnIs Tryz.prog 13 [] [] (.bool true) []:=by
 have f1:(!decide ((O.length:Int)=3))=false:=by rw[dT (by omega)]; rfl
 have f2:(!decide ((EE.length:Int)=2))=false:=by rw[dT (by omega)]; rfl
 have f3:(!decide ((E0.length:Int)=3))=false:=by rw[dT (by omega)]; rfl
 have f4:(!decide ((E1.length:Int)=1))=false:=by rw[dT (by omega)]; rfl
 have f5:(!decide ((P1.length:Int)=2))=false:=by rw[dT (by omega)]; rfl
 have g0:(!decide (o0.returned=2))=false:=by rw[dT r0]; rfl
 have g1:(!decide (o1.returned = -1))=false:=by rw[dT r1]; rfl
 have g2:(!decide (o2.number=1))=false:=by rw[dT r2]; rfl
 have g3:(!decide (o2.era=1))=false:=by rw[dT r3]; rfl
 have g4:(!decide (o2.invoked=4))=false:=by rw[dT r4]; rfl
 refine au aa Tryz.func13 rfl rfl rfl ?_;refine sR<|rC<|nR ?_;refine rQ (ak hS rfl rfl ab (.inl rfl) (fun _=>rfl)) ?_;refine rC<|nR ?_;refine rC ?_;refine rQ (ak hc rfl rfl (aj ab) (.inl rfl) (fun _=>rfl)) ?_;iterate 5 refine rC ?_
 refine nR<|rC ?_;refine rQ (dY (m:=1) aa rfl rfl rfl rfl rfl h1S) ?_;refine rQ (ak hc1 rfl rfl (aj ab) (.inl rfl) (fun _=>rfl)) ?_
 iterate 5 refine rC ?_
 refine nR<|rC ?_;refine rQ (ak ho rfl rfl (aj ab) (.inl rfl) (fun _=>rfl)) ?_;iterate 5 refine rC ?_
 refine nR<|rC ?_;refine rQ (ak he rfl rfl (aj ab) (.inl rfl) (fun _=>rfl)) ?_;iterate 5 refine rC ?_
 refine nR<|rC ?_;refine rQ (ak hp rfl rfl (aj (aj ab)) (.inl rfl) (fun _=>rfl)) ?_;iterate 5 refine rC ?_
 refine nR<|rC ?_;refine rQ (ak ht rfl rfl (aj ab) (.inl rfl) (fun _=>rfl)) ?_;iterate 5 refine rC ?_
 refine zW<|zU ?_;refine rP ?_;refine rC ?_;refine rP ?_;refine rC ?_;refine rQ iG ?_;refine rC ?_;refine rP ?_;refine rC ?_;refine rP ?_;refine rC ?_;refine rQ iG ?_;refine rC ?_;refine rP ?_;refine rC ?_;refine rP ?_;refine rC ?_;refine rQ iG ?_;refine rC ?_;refine rP ?_;refine rC ?_;refine rP ?_;refine rC ?_;refine rQ iG ?_;refine rC ?_;refine rP ?_;refine rC ?_;refine rP ?_;refine rC ?_;refine rQ iG ?_;refine rC ?_;refine rP ?_;refine rC ?_;refine rP ?_;refine rC ?_;refine rQ iG ?_;refine rC ?_;refine rP ?_;refine rC ?_;refine rP ?_;refine rC ?_;refine rQ iG ?_;refine rC ?_;refine rP ?_;refine rC ?_;refine rP ?_;refine rQ (bt aa rfl rfl) ?_;refine rP ?_;refine rC ?_;refine rQ iG ?_;refine rC ?_;refine rO ?_;refine rC ?_;refine rO ?_;refine rQ (bt aa rfl rfl) ?_;refine rO ?_;refine rC ?_;refine rQ iF ?_;refine rC ?_;refine rO ?_;refine rC ?_;refine rO ?_;refine rQ (aK aa rfl rfl rfl rfl rfl (by omega) hE0) ?_;refine rO ?_;refine rQ iL ?_;refine rO ?_;refine rQ (bt aa rfl rfl) ?_;refine rO ?_;refine rC ?_;refine rQ iF ?_;refine rC ?_;refine rO ?_;refine rC ?_;refine rO ?_;refine rQ (aK aa rfl rfl rfl rfl rfl (by omega) hE1) ?_;refine rO ?_;refine rQ iL ?_;refine rO ?_;refine rQ (bt aa rfl rfl) ?_;refine rO ?_;refine rC ?_;refine rQ iF ?_;refine rC ?_;refine rO ?_;refine rC ?_;refine rO ?_;refine rQ (bt aa rfl rfl) ?_;refine rO ?_;refine rC ?_;refine rQ iF ?_;refine zG<|kS<|qR ?_;refine zD ?_;refine rQ (ak hro rfl rfl (aj ab) (.inl rfl) (fun _=>rfl)) ?_;refine rQ (ak hso rfl rfl (hJ rfl trivial DLe.arx_arr (aj ab)) (.inl rfl) (fun _=>rfl)) ?_;refine zD ?_;refine rP ?_;refine rC ?_;refine rP ?_;refine rQ (aK (xs:=O) aa rfl rfl rfl rfl rfl (by omega) hO0) ?_;refine rP ?_;refine rC ?_;refine rP ?_;refine rQ iL ?_;refine rP ?_;refine rC ?_;refine rQ iG ?_;refine rC ?_;refine rO ?_;refine rC ?_;refine rO ?_;refine rQ (aK (xs:=O) aa rfl rfl rfl rfl rfl (by omega) hO1) ?_;refine rO ?_;refine rC ?_;refine rO ?_;refine rQ iL ?_;refine rO ?_;refine rC ?_;refine rQ iF ?_;refine rC ?_;refine rO ?_;refine rC ?_;refine rO ?_;refine rQ (aK (xs:=O) aa rfl rfl rfl rfl rfl (by omega) hO2) ?_;refine rO ?_;refine rC ?_;refine rO ?_;refine rQ iL ?_;refine rO ?_;refine rC ?_;refine rQ iF ?_;refine rC ?_;refine rO ?_;refine rC ?_;refine rO ?_;refine rQ (aK (xs:=O) aa rfl rfl rfl rfl rfl (by omega) hO2) ?_;refine rO ?_;refine rC ?_;refine rO ?_;refine rQ iL ?_;refine rO ?_;refine rC ?_;refine rQ iF ?_;refine rC ?_;refine rO ?_;refine rC ?_;refine rO ?_;refine rQ (aK (xs:=O) aa rfl rfl rfl rfl rfl (by omega) hO2) ?_;refine rO ?_;refine rC ?_;refine rO ?_;refine rQ iL ?_;refine rO ?_;refine rC ?_;refine rQ iF ?_;refine zG<|kS ?_;iterate 2 refine bk ?_
 refine aE (by kernel_rfl) ?_;refine dC [6] [] ?_;refine dQ [152] [] (aK (xs:=O) aa rfl rfl rfl rfl rfl (by omega) hO0) ?_;refine dQ [153] [] iL ?_;refine dC [6] [] ?_;refine dQ [155] [] (aK (xs:=O) aa rfl rfl rfl rfl rfl (by omega) hO1) ?_;refine dQ [156] [] iL ?_;refine dQ [154,157] [] (ak hb01 rfl rfl (aj (aj ab)) (.inl rfl) (fun _=>rfl)) ?_;refine dC [158] [] ?_;refine ae [159,6] [] rfl rfl rfl rfl (aw aa (fun K hk=>hk)) ?_;refine ae [159,160] [] rfl rfl rfl rfl (aK (xs:=O) aa rfl rfl rfl rfl rfl (by omega) hO1) ?_;refine ae [159,161] [] rfl rfl rfl rfl (cT aa rfl rfl) ?_;refine ae [159,6] [] rfl rfl rfl rfl (aw aa (fun K hk=>hk)) ?_;refine ae [159,163] [] rfl rfl rfl rfl (aK (xs:=O) aa rfl rfl rfl rfl rfl (by omega) hO2) ?_;refine ae [159,164] [] rfl rfl rfl rfl (cT aa rfl rfl) ?_;refine ae [159,162,165] [] rfl rfl rfl rfl (ak hb12 rfl rfl (aj (aj ab)) (.inl rfl) (fun _=>rfl)) ?_;refine ae [159,166] [] rfl rfl rfl rfl (aw aa (fun K hk=>hk)) ?_;refine dQ [159,167] [] iG ?_;refine dC [168] [] ?_;refine ae [169,6] [] rfl rfl rfl rfl (aw aa (fun K hk=>hk)) ?_;refine ae [169,170] [] rfl rfl rfl rfl (aK (xs:=O) aa rfl rfl rfl rfl rfl (by omega) hO2) ?_;refine ae [169,171] [] rfl rfl rfl rfl (cT aa rfl rfl) ?_;refine ae [169,6] [] rfl rfl rfl rfl (aw aa (fun K hk=>hk)) ?_;refine ae [169,173] [] rfl rfl rfl rfl (aK (xs:=O) aa rfl rfl rfl rfl rfl (by omega) hO0) ?_;refine ae [169,174] [] rfl rfl rfl rfl (cT aa rfl rfl) ?_;refine ae [169,172,175] [] rfl rfl rfl rfl (ak hb20 rfl rfl (aj (aj ab)) (.inl rfl) (fun _=>rfl)) ?_;refine dQ [169,176] [] iG ?_;refine aB (by kernel_rfl)<|aM ?_;refine wG<|kS<|sR ?_;refine rC<|zW ?_;refine rC<|zP ?_
 refine wc_inv (fun i:Nat=>⟨[(12,.d (strD T)),(14,.d (strD (w07 i))),(15,.int .i64 (i:Nat))],[],2000,Tryz.f13.ntmps,64⟩) (fun i=>i≤32) (fun i=>32-i) 0 [] (Nat.zero_le _)
  (lg zj trivial) ?_
 intro i hi
 refine bG ?_
 clear hS hc hc1 ho he hp ht hro hso hb01 hb12 hb20
 by_cases hlt:i<32
 ·have c1:decide ((i:Int)<32)=true:=dT (by omega)
  refine qR<|zD ?_;refine zI<|zQ<|aZ<|am ?_;refine rC ?_;refine rQ (aG (a:=w07 i) (b:=[48,55]) rfl rfl (by rw[lV]; simp; omega) rfl) ?_;refine rC<|aA<|zC<|am ?_;refine rC ?_;refine rQ iD ?_;refine rC<|aA ?_
  exact aN (i+1) [] hlt (by omega) (lg zj trivial)
 ·have c1:decide ((i:Int)<32)=false:=dF (by omega)
  have hie:i=32:=by omega
  subst hie
  refine qR<|zD ?_;refine zJ<|zX<|qR ?_;refine rQ (an.frozen (aC (s:=1) aa rfl rfl rfl rfl rfl rfl rfl rfl) (Frz.litsN (enc:=strD) [t1L,t2L,bF] rfl (fun _ _=>rfl))) ?_;refine rQ iE ?_;refine rC<|zP ?_
  refine wc_inv (fun i:Nat=>⟨[(12,.d (strD T)),(14,.d (strD (w07 32))),(184,.d (.arr 1 strD [t1L,t2L,bF])),(185,.int .i64 3),(186,.int .i64 (i:Nat))],[],3000,Tryz.f13.ntmps,64⟩) (fun i=>i≤3) (fun i=>3-i) 0 [] (Nat.zero_le _)
   (lg zh trivial) ?_
  intro i hi
  refine bG ?_
  match i,hi with
  | 0,_ =>
   have hgx:[t1L,t2L,bF][(((0:Nat):Int)).toNat]?=some t1L:=rfl
   have hpx:=hp1
   refine sR<|rC<|nQ ?_;refine wV<|zQ<|zS ?_;refine rC ?_;refine rQ (aF aa rfl rfl rfl rfl rfl (by omega) hgx) ?_;refine rQ iL ?_;refine zD<|nR ?_;refine rC ?_;refine rQ (ak hpx rfl rfl (aj ab) (.inl rfl) (fun _=>rfl)) ?_;iterate 7 refine rC ?_
   refine nR<|rC ?_;refine rQ (k5 aa rfl rfl rfl rfl rfl) ?_;refine rC ?_;refine rQ (aw aa (fun K hk=>⟨by decide,by decide,_,rfl,hk⟩)) ?_;refine zD ?_;refine rP ?_;refine rC ?_;refine rP ?_;refine rC ?_;refine rQ iG ?_;refine zJ<|aL<|zC<|am ?_;refine rQ iD ?_;refine rC<|aA ?_
   exact aN 1 [] (by decide) (by decide) (lg zh trivial)
  | 1,_ =>
   have hgx:[t1L,t2L,bF][(((1:Nat):Int)).toNat]?=some t2L:=rfl
   have hpx:=hp2
   refine sR<|rC<|nQ ?_;refine wV<|zQ<|zS ?_;refine rC ?_;refine rQ (aF aa rfl rfl rfl rfl rfl (by omega) hgx) ?_;refine rQ iL ?_;refine zD<|nR ?_;refine rC ?_;refine rQ (ak hpx rfl rfl (aj ab) (.inl rfl) (fun _=>rfl)) ?_;iterate 7 refine rC ?_
   refine nR<|rC ?_;refine rQ (k5 aa rfl rfl rfl rfl rfl) ?_;refine rC ?_;refine rQ (aw aa (fun K hk=>⟨by decide,by decide,_,rfl,hk⟩)) ?_;refine zD ?_;refine rP ?_;refine rC ?_;refine rP ?_;refine rC ?_;refine rQ iG ?_;refine zJ<|aL<|zC<|am ?_;refine rQ iD ?_;refine rC<|aA ?_
   exact aN 2 [] (by decide) (by decide) (lg zh trivial)
  | 2,_ =>
   have hgx:[t1L,t2L,bF][(((2:Nat):Int)).toNat]?=some bF:=rfl
   have hpx:=hp3
   refine sR<|rC<|nQ ?_;refine wV<|zQ<|zS ?_;refine rC ?_;refine rQ (aF aa rfl rfl rfl rfl rfl (by omega) hgx) ?_;refine rQ iL ?_;refine zD<|nR ?_;refine rC ?_;refine rQ (ak hpx rfl rfl (aj ab) (.inl rfl) (fun _=>rfl)) ?_;iterate 7 refine rC ?_
   refine nR<|rC ?_;refine rQ (k5 aa rfl rfl rfl rfl rfl) ?_;refine rC ?_;refine rQ (aw aa (fun K hk=>⟨by decide,by decide,_,rfl,hk⟩)) ?_;refine zD ?_;refine rP ?_;refine rC ?_;refine rP ?_;refine rC ?_;refine rQ iG ?_;refine zJ<|aL<|zC<|am ?_;refine rQ iD ?_;refine rC<|aA ?_
   exact aN 3 [] (by decide) (by decide) (lg zh trivial)
  | 3,_ =>
   have dT:decide (T=preL++w07 32++p0)=true:=dT hT
   refine sR<|rC<|nQ ?_;refine wG<|zX<|sR ?_;refine zD ?_;refine rQ (aG (a:=preL) (b:=w07 32) rfl rfl (by rw[lV]; decide) rfl) ?_;refine rQ (aG (a:=preL++w07 32) (b:=p0) rfl rfl (by rw[List.length_append,lV]; decide) rfl) ?_;refine rQ (bV (a:=T) (b:=preL++w07 32++p0) aa rfl rfl rfl) ?_;refine rC<|zT ?_
   exact⟨trivial,[],lg ⟨⟨_,rfl,AVLe.of_eq (congrArg AV.bool dT)⟩,rfl,trivial⟩ trivial⟩
  | i+4,hi=>exact absurd hi (by omega)
end Go.Proofs.YtpjiiolnfbfcbaaGreatDoor
namespace Go.Proofs.YtpjiiolnfbfcbaaGreatDoor
open Go.Eng Go.Plain
set_option maxHeartbeats 32000000
set_option maxRecDepth 20000
set_option maxRecDepth 50000
def sOps:List HOp:=[⟨0,0,0,⟨1,1,[]⟩,0,2,b7,0⟩,⟨1,0,0,⟨3,0,[]⟩,1,-1,zBk,0⟩,⟨0,1,1,⟨1,1,[]⟩,4,-1,zBk,0⟩]
theorem fw:chkH ca=(0,0):=by decide+kernel
theorem pK:chkH (ca.drop 1)=(1,18):=by decide+kernel
theorem rc:opsH ca=sOps:=by decide+kernel
theorem pI:opsR ca=sOps:=by decide+kernel
theorem pJ:eB ca [] []=[ca.take 3,ca.drop 4]:=by decide+kernel
theorem pG:ca.filter (bY 1)=[⟨1,1,⟨3,0,[]⟩,zBk,0⟩,⟨3,0,zOp,zBk,0⟩]:=by decide+kernel
theorem lm:bQ ca=preL++w07 32++p0:=by decide+kernel
theorem kw:∀x∈ca,x.Ok∧x.op.data.length≤64:=by
 have h:∀x∈ca,(0≤x.kind∧x.kind≤255)∧(-9223372036854775808≤x.client∧x.client≤9223372036854775807)∧(0≤x.op.kind∧x.op.kind≤255)∧(-9223372036854775808≤x.op.index∧x.op.index≤9223372036854775807)∧x.value.length=32∧(-9223372036854775808≤x.err∧x.err≤9223372036854775807)∧x.op.data.length≤64:=by decide+kernel
 intro x hx
 obtain⟨h1,h2,h3,h4,h5,h6,h7⟩:=h x hx
 exact⟨⟨h1,h2,⟨h3,h4⟩,h5,h6⟩,h7⟩
theorem Ci (x:HEv) (hw:WfE x) (hl:bv x++[10]=t1L) (ht:(ba rd0 x).2=false):cU t1L rd0 [] 1=([],1,18):=by
 have hc:cutL t1L 10=some (bv x,[]):=by rw[←hl]; exact fm _ (gm hw)
 rw[ef _ _ _ (by decide) hc,iv hw]
 simp only
 rw[if_neg (by decide),ht]
 rfl
theorem Ch (x:HEv) (hw:WfE x) (hl:bv x++[10]=t2L) (ht:(ba rd0 x).2=false):cU t2L rd0 [] 1=([],1,18):=by
 have hc:cutL t2L 10=some (bv x,[]):=by rw[←hl]; exact fm _ (gm hw)
 rw[ef _ _ _ (by decide) hc,iv hw]
 simp only
 rw[if_neg (by decide),ht]
 rfl
theorem Cg:cU bF rd0 [] 1=([],1,5):=ly _ _ _ (by decide) (by decide)
theorem cF:FnIs Tryz.prog 13 [] [] (.bool true) []:=by
 have hc:=df ca (by decide)
 rw[fw]at hc
 have hc1:=df (ca.drop 1) (by decide)
 rw[pK]at hc1
 have ho:=l8 ca (by decide) (by rw[show (rdH ca).all=sOps by decide+kernel]; decide)
 rw[rc,fw]at ho
 have he:=m6 ca (by decide) (fun x hx=>Nat.le_trans (kw x hx).2 (by decide))
 rw[fw,if_pos rfl,pJ]at he
 have hp:=mW ca 1 (by decide) (fun x hx=>Nat.le_trans (kw x hx).2 (by decide))
 rw[show fA 1 ca=0 by rw[fA,fw]; decide,if_pos rfl,pG]at hp
 have ht:=ir ca (by decide) (fun _=>by decide) (fun _=>kw) (fun _=>by rw[lm]; decide)
 rw[fw,if_pos rfl]at ht
 have hro:=sX ca (by decide)
 rw[pI]at hro
 have hso:=mx sOps sOps (by decide)
 rw[if_pos rfl]at hso
 have hb01:=eN ⟨0,0,0,⟨1,1,[]⟩,0,2,b7,0⟩ ⟨1,0,0,⟨3,0,[]⟩,1,-1,zBk,0⟩
 have hb12:=eN ⟨1,0,0,⟨3,0,[]⟩,1,-1,zBk,0⟩ ⟨0,1,1,⟨1,1,[]⟩,4,-1,zBk,0⟩
 have hb20:=eN ⟨0,1,1,⟨1,1,[]⟩,4,-1,zBk,0⟩ ⟨0,0,0,⟨1,1,[]⟩,0,2,b7,0⟩
 have hp1:=eg t1L (by decide)
 rw[Ci ⟨2,0,zOp,zBk,0⟩ ⟨by decide,by decide,.inr (.inr ⟨rfl,rfl,rfl,rfl,fun h=>absurd rfl h⟩)⟩ (by decide+kernel) (by decide+kernel)]at hp1
 have hp2:=eg t2L (by decide)
 rw[Ch ⟨1,8,⟨3,0,[]⟩,zBk,0⟩ ⟨by decide,by decide,.inr (.inl ⟨rfl,rfl,rfl,⟨by decide,by decide⟩,by decide⟩)⟩ (by decide+kernel) (by decide+kernel)]at hp2
 have hp3:=eg bF (by decide)
 rw[Cg]at hp3
 exact uy ca sOps _ _ _ _ _ _ _ (bQ ca) ug (by decide) hc hc1 ho he hp ht rfl rfl rfl rfl rfl rfl rfl rfl rfl rfl hro hso rfl rfl rfl rfl rfl hb01 hb12 hb20 hp1 hp2 hp3 lm
end Go.Proofs.YtpjiiolnfbfcbaaGreatDoor
namespace Go.Proofs.YtpjiiolnfbfcbaaGreatDoor
open Go.Eng Go.Plain
set_option maxHeartbeats 32000000
set_option maxRecDepth 20000
attribute [local irreducible] WC RegS RegD SeqQ BlkQ ScoQ RegK CutK Sat SatN FnIs LoopQ an OpIs
abbrev Cq (q:List PQ):D :=.arr 3 encQ q
def encPP (l:List (List PQ)):D :=.cons (.arr 1 Cq l) .nil
def Cd (q:List PQ):List POp:=(q.take 3).map qOf
def pOf (l:List (List PQ)):List (List POp):=(l.take 3).map Cd
end Go.Proofs.YtpjiiolnfbfcbaaGreatDoor
namespace Go.Proofs.YtpjiiolnfbfcbaaGreatDoor
open Go.Eng Go.Plain
set_option maxHeartbeats 32000000
set_option maxRecDepth 20000
def tx1:List UInt8:=[99,108,105,101,110,116,10,114,101,97,100,32,51,10,119,114,105,116,101,32,49,32,48,48,102,102,10,99,108,105,101,110,116,10,102,108,117,115,104,10]
def tx2:List UInt8:=[99,108,105,101,110,116,10,111,112,32,51,32,55,32,45,10,119,114,105,116,101,32,48,32,45,10,111,112,32,49,32,49,32,48,97,10]
def list2:List (List POp):=[[⟨3,7,[]⟩,⟨2,0,[]⟩,⟨1,1,[10]⟩]]
abbrev vD:Bool×POp:=(true,⟨3,7,[]⟩)
abbrev vE:Bool×POp:=(true,⟨2,0,[]⟩)
abbrev vF:Bool×POp:=(false,⟨1,1,[10]⟩)
abbrev CC:List (List (Bool×POp)):=[[vD,vE,vF]]
def px0:List UInt8:=[99,108,105,101,110,116,10,114,101,97,100,32,51]
def px1:List UInt8:=[99,108,105,101,110,116,10,111,112,32,49,32,51,32,45,10]
def px2:List UInt8:=[114,101,97,100,32,51,10]
def px3:List UInt8:=[99,108,105,101,110,116,10,114,101,97,100,32,48,51,10]
def okB (o:POp):Bool:=decide (0≤o.kind)&&decide (o.kind≤255)&&decide (-9223372036854775808≤o.index)&&decide (o.index≤9223372036854775807)
def trip:List (List POp):=Cc++[[⟨2,1,List.replicate 32 0⟩]]
end Go.Proofs.YtpjiiolnfbfcbaaGreatDoor
namespace Go.Proofs.YtpjiiolnfbfcbaaGreatDoor
open Go.Eng Go.Plain
set_option maxHeartbeats 32000000
set_option maxRecDepth 20000
attribute [local irreducible] WC RegS RegD SeqQ BlkQ ScoQ RegK CutK Sat SatN FnIs LoopQ an OpIs
abbrev vW:Bool×POp:=(false,⟨2,1,List.replicate 32 0⟩)
abbrev vW1:List (Bool×POp):=[vW]
end Go.Proofs.YtpjiiolnfbfcbaaGreatDoor
namespace Go.Proofs.YtpjiiolnfbfcbaaGreatDoor
open Go.Eng Go.Plain
set_option maxHeartbeats 32000000
set_option maxRecDepth 20000
set_option linter.unusedVariables false
attribute [local irreducible] WC RegS RegD SeqQ BlkQ ScoQ RegK CutK Sat SatN FnIs LoopQ an OpIs
def one (b:Bool):Int:=if b=true then 1 else 0
theorem zn (x:PQ):(qOf x).Ok:=by
 have h1:=x.kind.toNat_lt
 have h2:=x.index.toNat_lt
 have h3:=x.data.toNat_lt
 unfold qOf
 split
 ·exact⟨⟨by show (0:Int)≤1; decide,by show (1:Int)≤(255:Int); decide⟩,⟨by show-9223372036854775808≤((x.index.toNat % 22:Nat):Int)-1; omega,by show ((x.index.toNat % 22:Nat):Int)-1≤9223372036854775807; omega⟩⟩
 split
 ·exact⟨⟨by show (0:Int)≤2; decide,by show (2:Int)≤(255:Int); decide⟩,⟨by show-9223372036854775808≤((x.index.toNat % 22:Nat):Int)-1; omega,by show ((x.index.toNat % 22:Nat):Int)-1≤9223372036854775807; omega⟩⟩
 split
 ·exact⟨⟨by show (0:Int)≤((x.data.toNat % 4:Nat):Int); omega,by show ((x.data.toNat % 4:Nat):Int)≤255; omega⟩,⟨by show-9223372036854775808≤(x.index.toNat:Int)-100; omega,by show (x.index.toNat:Int)-100≤9223372036854775807; omega⟩⟩
 ·exact⟨⟨by decide,by decide⟩,⟨by decide,by decide⟩⟩
theorem vZ (x:PQ):(qOf x).data.length≤32:=by
 unfold qOf
 split
 ·simp
 split
 ·simp
 split
 ·simp; omega
 ·simp
end Go.Proofs.YtpjiiolnfbfcbaaGreatDoor
namespace Go.Proofs.YtpjiiolnfbfcbaaGreatDoor
open Go.Eng Go.Plain
set_option maxHeartbeats 32000000
set_option maxRecDepth 20000
set_option linter.unusedVariables false
theorem oA (s:RdS) (x:HEv):(ba s x).1.all.length≤s.all.length+1:=by
 unfold ba
 simp only
 split
 ·split
  ·simp
  ·simp
 ·split
  ·split
   ·simp only
    cases opOf s x <;> simp
   ·simp
  ·split <;> simp
theorem lA:∀(h:List HEv) (s:RdS) (i:Nat),(goS s h i).1.all.length≤s.all.length+h.length
 | [],s,i=>by simp[goS]
 | x::h,s,i=>by
  rw[dJ]
  have h1:=oA s x
  split
  ·have:=lA h (ba s x).1 (i+1)
   simp only[List.length_cons]
   omega
  ·simp only[List.length_cons]
   omega
theorem pW (h:List HEv):(rdH h).all.length≤h.length:=by
 unfold rdH
 split
 ·simp[rd0]
 ·have:=lA h rd0 0
  simpa[rd0]using this
theorem xP {s:RdS} {n:Nat} (hs:s.Ok n) {x:HEv} (hx:x.Ok) (h:(ba s x).2=true):WfE x:=by
 refine⟨hx.client.1,hx.client.2,?_⟩
 rcases iQ h with ⟨k,hi⟩ | ⟨k,hi⟩ | ⟨k,hi⟩
 ·obtain⟨_,_,_,h1,h2,h3⟩:=j2 hi
  exact .inr (.inl ⟨k,h2,h3,hx.op,h1⟩)
 ·obtain⟨_,_,h1,h2,b,o,_,_,_,_,h3⟩:=jQ hs hi
  refine .inr (.inr ⟨k,h1,h2,hx.value,fun hz=>?_⟩)
  rcases h3 with h3 | ⟨_,h3⟩
  ·exact absurd h3 hz
  ·exact h3
 ·simp only[gX,Bool.and_eq_true,decide_eq_true_eq]at hi
  exact .inl ⟨k,hi.1.1.1,hi.1.1.2,hi.1.2,hi.2⟩
theorem wN:∀(h:List HEv) (s:RdS) (n i:Nat),s.Ok n→(∀x∈h,x.Ok)→(goS s h i).2<0→∀x∈h,WfE x
 | [],s,n,i,_,_,_,x,hx=>by cases hx
 | y::h,s,n,i,hs,hok,hg,x,hx=>by
  rw[dJ]at hg
  cases hb:(ba s y).2 with
  | false=>rw[hb]at hg; simp at hg; omega
  | true =>
   rw[hb,if_pos rfl]at hg
   rcases List.mem_cons.1 hx with rfl | hx
   ·exact xP hs (hok x (by simp)) hb
   ·exact wN h _ (n+1) (i+1) (hs.next y) (fun z hz=>hok z (by simp[hz])) hg x hx
theorem sG {h:List HEv} (hc:(chkH h).2=0):h.length≤8192∧(goS rd0 h 0).2<0∧(chkH h).1=0:=by
 unfold chkH at hc ⊢
 by_cases h8:8192<h.length
 ·rw[if_pos h8]at hc; cases hc
 ·rw[if_neg h8]at hc ⊢
  by_cases h0:0≤(goS rd0 h 0).2
  ·rw[if_pos h0]at hc; cases hc
  ·rw[if_neg h0]
   exact⟨by omega,by omega,rfl⟩
theorem xm {h:List HEv} (hok:∀x∈h,x.Ok) (hc:(chkH h).2=0):∀x∈h,WfE x:=by
 obtain⟨_,h2,_⟩:=sG hc
 exact wN h rd0 0 0 gL hok h2
theorem fI {x:HEv} (h:WfE x):x.op.data.length≤64:=by
 rcases h.2.2 with h | h | h
 ·rw[h.2.2.1]; decide
 ·exact h.2.2.2.2
 ·rw[h.2.1]; decide
theorem tR (e:Int):(fY e).length≤9:=by
 unfold fY
 repeat' split
 all_goals decide
theorem uA {x:HEv} (h:WfE x):(bv x).length≤300:=by
 have hi:=bA h.1 h.2.1
 rcases h.2.2 with ⟨h1,_⟩ | ⟨h1,_,_,h4,h5⟩ | ⟨h1,_,h3,h4,h5⟩
 ·rw[bv,if_pos h1]; decide
 ·have:=iq h4
  rw[mL x h1]
  simp[bx]
  omega
 ·by_cases hz:x.value=zBk
  ·rw[kE x h1 hz]
   have:=tR x.err
   simp[aU]
   omega
  ·rw[jh x h1 hz]
   have:=cm x.value
   simp[aU,sOk]
   omega
theorem ku:∀(h:List HEv),(∀x∈h,WfE x)→(bQ h).length≤301*h.length
 | [],_=>by simp[bQ]
 | x::h,hw=>by
  have h1:=uA (hw x (by simp))
  have h2:=ku h (fun y hy=>hw y (by simp[hy]))
  simp only[bQ,List.flatMap_cons,List.length_append,List.length_cons,List.length_nil]at h2 ⊢
  omega
def ec (h:List HEv):Prop:=∀i x,h[i]?=some x→fitB (h.take i) x=true
theorem nv:ec []:=fun i x h=>by simp at h
theorem ec.snoc {h:List HEv} {x:HEv} (H:ec h) (hx:fitB h x=true):ec (h++[x]):=by
 intro i y hy
 by_cases hi:i<h.length
 ·rw[List.getElem?_append_left hi]at hy
  rw[List.take_append_of_le_length (by omega)]
  exact H i y hy
 ·have hlt:=(List.getElem?_eq_some_iff.1 hy).1
  have he:i=h.length:=by simp at hlt; omega
  subst he
  rw[List.getElem?_append_right (by omega),Nat.sub_self]at hy
  simp at hy
  subst hy
  rw[List.take_left']
  ·exact hx
  ·rfl
theorem ec.take {h:List HEv} (H:ec h) (n:Nat):ec (h.take n):=by
 intro i x hx
 have hlt:=(List.getElem?_eq_some_iff.1 hx).1
 rw[List.length_take]at hlt
 rw[List.getElem?_take_of_lt (by omega)]at hx
 rw[List.take_take,Nat.min_eq_left (by omega)]
 exact H i x hx
theorem pX {h:List HEv} (H:ec h):∀(n i:Nat),jS h n i=(0,0)
 | 0,i=>rfl
 | n+1,i=>by
  rw[jS]
  cases hx:h[i]? with
  | none=>rfl
  | some x =>
   simp only
   rw[H i x hx,if_pos rfl]
   exact pX H n (i+1)
theorem tB {h:List HEv} (H:ec h) (hl:h.length≤8192):chkH h=(0,0):=by
 rw[qD,rchk,if_neg (by omega)]
 exact pX H _ _
theorem wX:∀e∈kh,kn4 e=true:=by decide
theorem yB (y:HEv) (x:XE):kn4 (errX y x)=true:=by
 unfold errX
 split
 ·rfl
 ·obtain⟨e,he⟩:∃e,kh[x.what.toNat % 8]?=some e:=⟨_,List.getElem?_eq_getElem (Nat.mod_lt _ (by decide))⟩
  rw[he]
  exact wX e (List.mem_of_getElem? he)
theorem wn (x:XE):(opX x).data.length≤64:=by
 unfold opX
 split
 ·simp
 split
 ·simp
 split
 ·simp
 ·have:=vZ ⟨8,x.data,x.what⟩; omega
theorem zt (x:XE):(opX x).Ok:=by
 have h2:=x.data.toNat_lt
 unfold opX
 split
 ·exact⟨⟨by show (0:Int)≤1; decide,by show (1:Int)≤(255:Int); decide⟩,⟨by show-9223372036854775808≤((x.data.toNat/4 % 3:Nat):Int); omega,by show ((x.data.toNat/4 % 3:Nat):Int)≤9223372036854775807; omega⟩⟩
 split
 ·exact⟨⟨by show (0:Int)≤2; decide,by show (2:Int)≤(255:Int); decide⟩,⟨by show-9223372036854775808≤((x.data.toNat/4 % 3:Nat):Int); omega,by show ((x.data.toNat/4 % 3:Nat):Int)≤9223372036854775807; omega⟩⟩
 split
 ·exact⟨⟨by decide,by decide⟩,⟨by decide,by decide⟩⟩
 ·exact zn _
theorem zop_ok':zOp.Ok:=⟨by decide,by decide⟩
theorem uc {out:List HEv} (x:XE) (H:ec out) (hok:∀y∈out,y.Ok):ec (cb out x)∧∀y∈cb out x,y.Ok:=by
 have app:∀(e:HEv),fitB out e=true→e.Ok→ec (out++[e])∧∀y∈out++[e],y.Ok:=fun e h1 h2=>⟨H.snoc h1,fun y hy=>by
  rcases List.mem_append.1 hy with hy | hy
  ·exact hok y hy
  ·rw[List.mem_singleton.1 hy]; exact h2⟩
 unfold cb
 split
 ·exact app _ rfl ⟨show (0:Int)≤3∧(3:Int)≤255 by decide,show (-9223372036854775808:Int)≤0∧(0:Int)≤9223372036854775807 by decide,zop_ok',rfl,show (-9223372036854775808:Int)≤0∧(0:Int)≤9223372036854775807 by decide⟩
 ·split
  ·rename_i hp
   refine app _ ?_ ⟨show (0:Int)≤1∧(1:Int)≤255 by decide,show (-9223372036854775808:Int)≤((x.who.toNat % 4 % 3:Nat):Int)∧((x.who.toNat % 4 % 3:Nat):Int)≤9223372036854775807 by omega,zt x,rfl,show (-9223372036854775808:Int)≤0∧(0:Int)≤9223372036854775807 by decide⟩
   rw[fitB,if_pos rfl,fit1]
   simp only[Bool.and_eq_true,decide_eq_true_eq]
   exact⟨⟨⟨⟨⟨by omega,by omega⟩,hp⟩,wn x⟩,trivial⟩,trivial⟩
  ·rename_i hp
   split
   ·exact⟨H,hok⟩
   ·rename_i y hy
    have hk:=yB y x
    have hkr:=eS hk
    refine app _ ?_ ⟨show (0:Int)≤2∧(2:Int)≤255 by decide,show (-9223372036854775808:Int)≤((x.who.toNat % 4 % 3:Nat):Int)∧((x.who.toNat % 4 % 3:Nat):Int)≤9223372036854775807 by omega,zop_ok',?_,?_⟩
    ·rw[fitB,if_neg (show ¬(2:Int)=1 by decide),if_pos rfl,fit2]
     simp only[Bool.and_eq_true,Bool.or_eq_true,decide_eq_true_eq,Bool.not_eq_true',decide_eq_false_iff_not]
     refine⟨⟨⟨⟨⟨by omega,by omega⟩,hp⟩,trivial⟩,hk⟩,?_⟩
     rw[hy]
     simp only[Bool.and_eq_true,decide_eq_true_eq]
     by_cases hc:y.op.kind=1∧errX y x=0
     ·exact .inl hc
     ·exact .inr (by rw[if_neg hc])
    ·show (if y.op.kind=1∧errX y x=0 then List.replicate 32 (blkB x.data) else zBk).length=32
     split
     ·simp
     ·rfl
    ·show-9223372036854775808≤errX y x∧errX y x≤9223372036854775807
     omega
theorem kK:∀(l:List XE) (out:List HEv),ec out→(∀y∈out,y.Ok)→ec (l.foldl cb out)∧∀y∈l.foldl cb out,y.Ok
 | [],out,H,hok=>⟨H,hok⟩
 | x::l,out,H,hok=>by
  obtain⟨h1,h2⟩:=uc x H hok
  exact kK l _ h1 h2
theorem ta (l:List XE):ec (hOf l):=(kK _ [] nv (fun y hy=>by cases hy)).1
theorem wM (l:List XE):∀y∈hOf l,y.Ok:=(kK _ [] nv (fun y hy=>by cases hy)).2
theorem s9 (l:List XE):(hOf l).length≤24:=by
 have:=kJ (l.take 24) []
 rw[List.length_take]at this
 unfold hOf
 simp at this
 omega
theorem tb (l:List XE):chkH (hOf l)=(0,0):=tB (ta l) (by have:=s9 l; omega)
theorem z7 (l:List XE):∀y∈hOf l,WfE y:=xm (wM l) (by rw[tb])
end Go.Proofs.YtpjiiolnfbfcbaaGreatDoor
namespace Go.Proofs.YtpjiiolnfbfcbaaGreatDoor
open Go.Eng Go.Plain
set_option maxHeartbeats 32000000
set_option maxRecDepth 20000
set_option linter.unusedVariables false
attribute [local irreducible] WC RegS RegD SeqQ BlkQ ScoQ RegK CutK Sat SatN FnIs LoopQ an OpIs
theorem yw {h:List HEv} (hq:fewB h=true):h.length≤60∧∀x∈h,x.op.data.length≤70:=by
 simp only[fewB,Bool.and_eq_true,decide_eq_true_eq,List.all_eq_true]at hq
 exact hq
theorem qi (h:List HEv) (hok:∀x∈h,x.Ok) (c:Int) (hc0 : -9223372036854775808≤c) (hc1:c≤9223372036854775807):FnIs Tryz.prog 8 [.d (encH h),.int .i64 c] [] (.bool true) []:=by
 have hfw:=Ab h
 refine au aa Tryz.func8 rfl rfl rfl ?_
 cases qa:fewB h with
 | false =>
  rw[qa]at hfw
  refine sR<|rC<|zW ?_;refine rC ?_;refine rQ (ak hfw rfl rfl (aj ab) (.inl rfl) (fun _=>rfl)) ?_;refine rC<|nS ?_;refine wV<|sR ?_;refine rQ (ak cF rfl rfl ab (.inl rfl) (fun _=>rfl)) ?_;refine rC<|zT<|aP ?_
  exact⟨trivial,[],lf⟩
 | true =>
  rw[qa]at hfw
  obtain⟨a1,a2⟩:=yw qa
  have hL:h.length≤9223372036854775807:=by omega
  have hrc:=pY h hL
  rw[←qD]at hrc
  have hck:=df h hL
  have hop:=l8 h hL (by have:=pW h; omega)
  have hdd:∀x∈h,x.op.data.length≤1048576:=fun x hx=>by have:=a2 x hx; omega
  have her:=m6 h (by omega) hdd
  have hpj:=mW h c (by omega) hdd
  have hw0:(chkH h).2=0→∀x∈h,WfE x:=xm hok
  have htx:=ir h hL (fun _=>by omega) (fun h0 x hx=>⟨hok x hx,fI (hw0 h0 x hx)⟩) (fun h0=>by have:=ku h (hw0 h0); omega)
  obtain⟨at',k,hk⟩:∃a b,chkH h=(a,b):=⟨_,_,rfl⟩
  unfold opsH at hop
  unfold fA at hpj
  rw[hk]at hrc hck hop her hpj htx
  simp only at hrc hck hop her hpj htx
  have q1:(!decide (at'=at'))=false:=by rw[dT rfl]; rfl
  have q2:(!decide (k=k))=false:=by rw[dT rfl]; rfl
  have q3:decide (k=k)=true:=dT rfl
  by_cases h0:k=0
  ·subst h0
   simp only[if_true]at hop her hpj htx
   have hee:(!decide ((0:Int)=0))=false:=rfl
   by_cases hcn:c<0
   ·have e1:decide (c<0)=true:=dT hcn
    rw[show (if c<0∨8≤c then (1:Int) else 0)=1 from if_pos (.inl hcn),if_neg (show ¬(1:Int)=0 by decide)]at hpj
    refine sR<|rC<|zW ?_;refine rC ?_;refine rQ (ak hfw rfl rfl (aj ab) (.inl rfl) (fun _=>rfl)) ?_;refine rC<|nS ?_;refine wG<|kS<|sR ?_;refine rC ?_;refine rQ (ak hrc rfl rfl (aj ab) (.inl rfl) (fun _=>rfl)) ?_;iterate 5 refine rC ?_
    refine nR<|rC ?_;refine rQ (ak hck rfl rfl (aj ab) (.inl rfl) (fun _=>rfl)) ?_;iterate 5 refine rC ?_
    refine nR<|rC ?_;refine rQ (ak hop rfl rfl (aj ab) (.inl rfl) (fun _=>rfl)) ?_;iterate 5 refine rC ?_
    refine nR<|rC ?_;refine rQ (ak her rfl rfl (aj ab) (.inl rfl) (fun _=>rfl)) ?_;iterate 5 refine rC ?_
    refine nR<|zD ?_;refine rQ (ak hpj rfl rfl (aj (aj ab)) (.inl rfl) (fun _=>rfl)) ?_;iterate 5 refine rC ?_
    refine nR<|rC ?_;refine rQ (ak htx rfl rfl (aj ab) (.inl rfl) (fun _=>rfl)) ?_;iterate 5 refine rC ?_
    refine zW ?_;iterate 4 refine rC ?_
    refine rO ?_;refine rC ?_;refine rO ?_;refine rC ?_;refine rO ?_;refine rC ?_;refine rQ iF ?_;refine rC ?_;refine rP ?_;refine rC ?_;refine rP ?_;refine rC ?_;refine rP ?_;refine rC ?_;refine rQ iG ?_;refine rC ?_;refine rP ?_;refine rC ?_;refine rP ?_;refine rC ?_;refine rP ?_;refine rC ?_;refine rQ iG ?_;refine rC ?_;refine rP ?_;refine rC ?_;refine rP ?_;refine rC ?_;refine rP ?_;refine rC ?_;refine rQ iG ?_;refine rC ?_;refine rP ?_;refine rC ?_;refine rP ?_;refine rC ?_;refine rP ?_;refine rC ?_
    iterate 12 refine rT ?_
    refine rP ?_;iterate 2 refine rQ iG ?_
    refine zJ<|kS<|qR ?_;refine zU ?_;refine rP ?_;refine rC ?_;refine rP ?_;refine rC ?_;refine rP ?_;refine rC ?_;iterate 2 refine rS ?_
    refine rP ?_;refine rQ iT ?_;refine rQ iU ?_;refine zO<|sR ?_;refine zU ?_;refine rP ?_;refine rC ?_;refine rP ?_;refine rQ (bt aa rfl rfl) ?_;refine rP ?_;refine rC ?_;refine rQ iU ?_;refine rC ?_;refine rP ?_;refine rQ (ak cF rfl rfl ab (.inl rfl) (fun _=>rfl)) ?_;refine rQ iU ?_;refine rC<|zT<|aP ?_
    exact⟨trivial,[],lf⟩
   ·have e1:decide (c<0)=false:=dF hcn
    by_cases hc8:8≤c
    ·have e2:decide ((7:Int)<c)=true:=dT (by omega)
     rw[show (if c<0∨8≤c then (1:Int) else 0)=1 from if_pos (.inr hc8),if_neg (show ¬(1:Int)=0 by decide)]at hpj
     refine sR<|rC<|zW ?_;refine rC ?_;refine rQ (ak hfw rfl rfl (aj ab) (.inl rfl) (fun _=>rfl)) ?_;refine rC<|nS ?_;refine wG<|kS<|sR ?_;refine rC ?_;refine rQ (ak hrc rfl rfl (aj ab) (.inl rfl) (fun _=>rfl)) ?_;iterate 5 refine rC ?_
     refine nR<|rC ?_;refine rQ (ak hck rfl rfl (aj ab) (.inl rfl) (fun _=>rfl)) ?_;iterate 5 refine rC ?_
     refine nR<|rC ?_;refine rQ (ak hop rfl rfl (aj ab) (.inl rfl) (fun _=>rfl)) ?_;iterate 5 refine rC ?_
     refine nR<|rC ?_;refine rQ (ak her rfl rfl (aj ab) (.inl rfl) (fun _=>rfl)) ?_;iterate 5 refine rC ?_
     refine nR<|zD ?_;refine rQ (ak hpj rfl rfl (aj (aj ab)) (.inl rfl) (fun _=>rfl)) ?_;iterate 5 refine rC ?_
     refine nR<|rC ?_;refine rQ (ak htx rfl rfl (aj ab) (.inl rfl) (fun _=>rfl)) ?_;iterate 5 refine rC ?_
     refine zW ?_;iterate 4 refine rC ?_
     refine rO ?_;refine rC ?_;refine rO ?_;refine rC ?_;refine rO ?_;refine rC ?_;refine rQ iF ?_;refine rC ?_;refine rP ?_;refine rC ?_;refine rP ?_;refine rC ?_;refine rP ?_;refine rC ?_;refine rQ iG ?_;refine rC ?_;refine rP ?_;refine rC ?_;refine rP ?_;refine rC ?_;refine rP ?_;refine rC ?_;refine rQ iG ?_;refine rC ?_;refine rP ?_;refine rC ?_;refine rP ?_;refine rC ?_;refine rP ?_;refine rC ?_;refine rQ iG ?_;refine rC ?_;refine rP ?_;refine rC ?_;refine rP ?_;refine rC ?_;refine rP ?_;refine rC ?_
     iterate 12 refine rT ?_
     refine rP ?_;iterate 2 refine rQ iG ?_
     refine zJ<|kS<|qR ?_;refine zU ?_;refine rP ?_;refine rC ?_;refine rP ?_;refine rC ?_;refine rP ?_;refine rC ?_;refine rO ?_;refine rC ?_;refine rO ?_;refine rC ?_;refine rP ?_;refine rQ iF ?_;refine rQ iU ?_;refine zI<|sR ?_;refine zU ?_;refine rP ?_;refine rC ?_;refine rP ?_;refine rQ (bt aa rfl rfl) ?_;refine rP ?_;refine rC ?_;refine rQ iU ?_;refine rC ?_;refine rP ?_;refine rQ (ak cF rfl rfl ab (.inl rfl) (fun _=>rfl)) ?_;refine rQ iU ?_;refine rC<|zT<|aP ?_
     exact⟨trivial,[],lf⟩
    ·have e2:decide ((7:Int)<c)=false:=dF (by omega)
     rw[show (if c<0∨8≤c then (1:Int) else 0)=0 from if_neg (by omega),if_pos rfl]at hpj
     refine sR<|rC<|zW ?_;refine rC ?_;refine rQ (ak hfw rfl rfl (aj ab) (.inl rfl) (fun _=>rfl)) ?_;refine rC<|nS ?_;refine wG<|kS<|sR ?_;refine rC ?_;refine rQ (ak hrc rfl rfl (aj ab) (.inl rfl) (fun _=>rfl)) ?_;iterate 5 refine rC ?_
     refine nR<|rC ?_;refine rQ (ak hck rfl rfl (aj ab) (.inl rfl) (fun _=>rfl)) ?_;iterate 5 refine rC ?_
     refine nR<|rC ?_;refine rQ (ak hop rfl rfl (aj ab) (.inl rfl) (fun _=>rfl)) ?_;iterate 5 refine rC ?_
     refine nR<|rC ?_;refine rQ (ak her rfl rfl (aj ab) (.inl rfl) (fun _=>rfl)) ?_;iterate 5 refine rC ?_
     refine nR<|zD ?_;refine rQ (ak hpj rfl rfl (aj (aj ab)) (.inl rfl) (fun _=>rfl)) ?_;iterate 5 refine rC ?_
     refine nR<|rC ?_;refine rQ (ak htx rfl rfl (aj ab) (.inl rfl) (fun _=>rfl)) ?_;iterate 5 refine rC ?_
     refine zW ?_;iterate 4 refine rC ?_
     refine rO ?_;refine rC ?_;refine rO ?_;refine rC ?_;refine rO ?_;refine rC ?_;refine rQ iF ?_;refine rC ?_;refine rP ?_;refine rC ?_;refine rP ?_;refine rC ?_;refine rP ?_;refine rC ?_;refine rQ iG ?_;refine rC ?_;refine rP ?_;refine rC ?_;refine rP ?_;refine rC ?_;refine rP ?_;refine rC ?_;refine rQ iG ?_;refine rC ?_;refine rP ?_;refine rC ?_;refine rP ?_;refine rC ?_;refine rP ?_;refine rC ?_;refine rQ iG ?_;refine rC ?_;refine rP ?_;refine rC ?_;refine rP ?_;refine rC ?_;refine rP ?_;refine rC ?_
     iterate 12 refine rT ?_
     refine rP ?_;iterate 2 refine rQ iG ?_
     refine zJ<|kS<|qR ?_;refine zU ?_;refine rP ?_;refine rC ?_;refine rP ?_;refine rC ?_;refine rP ?_;refine rC ?_;refine rO ?_;refine rC ?_;refine rO ?_;refine rC ?_;refine rP ?_;refine rQ iF ?_;refine rQ iU ?_;refine zG<|kS<|sR ?_;iterate 4 refine rC ?_
     refine rP ?_;refine rQ (ak cF rfl rfl ab (.inl rfl) (fun _=>rfl)) ?_;refine rQ iU ?_;refine rC<|zT ?_
     exact⟨trivial,[],lf⟩
  ·have e0:(!decide (k=0))=true:=by rw[dF h0]; rfl
   have e00:decide (k=0)=false:=dF h0
   simp only[if_neg h0]at hop her hpj htx
   refine sR<|rC<|zW ?_;refine rC ?_;refine rQ (ak hfw rfl rfl (aj ab) (.inl rfl) (fun _=>rfl)) ?_;refine rC<|nS ?_;refine wG<|kS<|sR ?_;refine rC ?_;refine rQ (ak hrc rfl rfl (aj ab) (.inl rfl) (fun _=>rfl)) ?_;iterate 5 refine rC ?_
   refine nR<|rC ?_;refine rQ (ak hck rfl rfl (aj ab) (.inl rfl) (fun _=>rfl)) ?_;iterate 5 refine rC ?_
   refine nR<|rC ?_;refine rQ (ak hop rfl rfl (aj ab) (.inl rfl) (fun _=>rfl)) ?_;iterate 5 refine rC ?_
   refine nR<|rC ?_;refine rQ (ak her rfl rfl (aj ab) (.inl rfl) (fun _=>rfl)) ?_;iterate 5 refine rC ?_
   refine nR<|zD ?_;refine rQ (ak hpj rfl rfl (aj (aj ab)) (.inl rfl) (fun _=>rfl)) ?_;iterate 5 refine rC ?_
   refine nR<|rC ?_;refine rQ (ak htx rfl rfl (aj ab) (.inl rfl) (fun _=>rfl)) ?_;iterate 5 refine rC ?_
   refine zW ?_;iterate 4 refine rC ?_
   refine rO ?_;refine rC ?_;refine rO ?_;refine rC ?_;refine rO ?_;refine rC ?_;refine rQ iF ?_;refine rC ?_;refine rO ?_;refine rC ?_;refine rO ?_;refine rC ?_;refine rO ?_;refine rC ?_;refine rQ iF ?_;refine rC ?_;refine rO ?_;refine rC ?_;refine rO ?_;refine rC ?_;refine rO ?_;refine rC ?_;refine rQ iF ?_;refine rC ?_;refine rO ?_;refine rC ?_;refine rO ?_;refine rC ?_;refine rO ?_;refine rC ?_;refine rQ iF ?_;refine rC ?_;refine rO ?_;refine rC ?_;refine rO ?_;refine rC ?_;refine rO ?_;refine rC ?_;refine rO ?_;refine rC ?_;refine rO ?_;refine rQ (bt aa rfl rfl) ?_;refine rO ?_;refine rC ?_;refine rO ?_;refine rQ (bt aa rfl rfl) ?_;refine rO ?_;refine rQ (cJ (m:=0) aa rfl rfl rfl) ?_;refine rO ?_;refine rC ?_;refine rO ?_;refine rQ (bt aa rfl rfl) ?_;refine rO ?_;refine rQ (cJ (m:=0) aa rfl rfl rfl) ?_;refine rO ?_;refine rC ?_;refine rO ?_;refine rQ (ek aa rfl rfl) ?_;refine rO ?_;refine rQ (cJ (m:=0) aa rfl rfl rfl) ?_;refine rO ?_;refine rC ?_;refine rO ?_;refine rQ iT ?_;refine rQ iF ?_;refine zJ<|kS<|qR ?_;refine zU ?_
   iterate 3 refine rS ?_
   iterate 2 refine rU ?_
   refine rS ?_;refine rQ iF ?_;refine zJ<|kS<|sR ?_;iterate 4 refine rC ?_
   refine rO ?_;refine rQ (ak cF rfl rfl ab (.inl rfl) (fun _=>rfl)) ?_;refine rQ iT ?_;refine rC<|zT ?_
   exact⟨trivial,[],lf⟩
theorem yX {x:HEv} (h:WfE x):x.Ok:=by
 obtain⟨h1,h2,h⟩:=h
 rcases h with ⟨k,c,p,v,e⟩ | ⟨k,v,e,p,d⟩ | ⟨k,p,e,v,_⟩
 ·exact⟨by rw[k]; decide,⟨h1,h2⟩,by rw[p]; exact ov,by rw[v]; rfl,by rw[e]; decide⟩
 ·exact⟨by rw[k]; decide,⟨h1,h2⟩,p,by rw[v]; rfl,by rw[e]; decide⟩
 ·exact⟨by rw[k]; decide,⟨h1,h2⟩,by rw[p]; exact ov,v,by rcases eS e with e | e | e | e <;> (rw[e]; decide)⟩
theorem mX (l:List XE):FnIs Tryz.prog 28 [.d (g8 l)] [] (.d (encH (hOf l))) []:=
 (ym l).freeze_out 64 _ rfl (Frz.own rfl) trivial
structure HOk (h:List HEv):Prop where
 len:h.length≤24
 chk:chkH h=(0,0)
 ok:∀x∈h,x.Ok
 wf:∀x∈h,WfE x
theorem gq (l:List XE):HOk (hOf l):=⟨s9 l,tb l,wM l,z7 l⟩
theorem pO {h:List HEv} (hw:∀x∈h,WfE x):dZ h=bQ h:=by
 unfold dZ bQ
 induction h with
 | nil=>rfl
 | cons x h ih=>rw[List.flatMap_cons,List.flatMap_cons,vN (hw x (by simp)),ih (fun y hy=>hw y (by simp[hy]))]
theorem sj (x y:List XE):FnIs Tryz.prog 11 [.d (g8 x),.d (g8 y)] [] (.bool true) []:=by
 have hx:=mX x
 have hy:=mX y
 obtain⟨l1,c1,k1,w1⟩:=gq x
 obtain⟨l2,c2,k2,w2⟩:=gq y
 generalize hOf x=h at *
 generalize hOf y=g at *
 have hT:=ku h w1
 have htx:=ir h (by omega) (fun _=>by omega) (fun _ z hz=>⟨k1 z hz,fI (w1 z hz)⟩) (fun _=>by omega)
 rw[c1,if_pos rfl]at htx
 have hpp:=eg (bQ h) (by omega)
 have hgo:=(sG (h:=h) (by rw[c1])).2.1
 rw[show bQ h=h.flatMap (fun x=>bv x++[10]) from rfl,lz h rd0 [] 1 0 w1 (by omega) hgo,List.nil_append]at hpp
 have hrt:=rq h (by omega) (fun z hz=>⟨k1 z hz,by have:=fI (w1 z hz); omega⟩) (by rw[pO w1]; omega)
 rw[pO w1]at hrt
 have hsm:=gp h h (by omega)
 rw[if_pos rfl]at hsm
 have hs1:=qm h h (by omega)
 rw[dT (rfl:h=h)]at hs1
 have hs2:=qm h g (by omega)
 have hs3:=gp h g (by omega)
 rw[show h.flatMap (fun x=>bv x++[10])=bQ h from rfl]at hpp
 generalize bQ h=s at *
 have q1:(!decide (s=s))=false:=by rw[dT rfl]; rfl
 have q2:(!decide ((h.length:Int)=(h.length:Int)))=false:=by rw[dT rfl]; rfl
 refine au aa Tryz.func11 rfl rfl rfl ?_
 by_cases hq:h=g
 ·rw[if_pos hq]at hs3
  rw[dT hq]at hs2
  refine sR ?_;iterate 2 refine rN ?_
  refine rC<|nQ ?_;refine aE (by kernel_rfl) ?_;refine dQ [2] [64] iM ?_;refine dQ [12] [] (ak hx rfl rfl (aj ab) (.inl rfl) (fun _=>rfl)) ?_;refine dQ [3] [72] iM ?_;refine dQ [14] [] (ak hy rfl rfl (aj ab) (.inl rfl) (fun _=>rfl)) ?_;refine dC [13] [] ?_;refine dC [15] [] ?_;refine aB (by kernel_rfl)<|aM<|sR ?_;refine rC ?_;refine rQ (ak htx rfl rfl (aj ab) (.inl rfl) (fun _=>rfl)) ?_;iterate 5 refine rC ?_
  refine nR<|rC ?_;refine rQ (ak hpp rfl rfl (aj ab) (.inl rfl) (fun _=>rfl)) ?_;iterate 7 refine rC ?_
  refine zW<|zU ?_;refine rP ?_;refine rC ?_;refine rP ?_;refine rC ?_;refine rQ iG ?_;refine rC ?_;refine rP ?_;refine rC ?_;refine rP ?_;refine rC ?_;refine rQ iG ?_;refine rC ?_;refine rP ?_;refine rC ?_;refine rP ?_;refine rC ?_;refine rP ?_;refine rQ (ak hrt rfl rfl (aj ab) (.inl rfl) (fun _=>rfl)) ?_;refine rP ?_;refine rQ (dB (a:=s) (b:=s) aa rfl rfl rfl) ?_;refine rQ iG ?_;refine rC ?_;refine rO ?_;refine rC ?_;refine rO ?_;refine rC ?_;refine rO ?_;refine rQ (ak hsm rfl rfl (hJ rfl trivial DLe.arx_arr (aj ab)) (.inl rfl) (fun _=>rfl)) ?_;refine rO ?_;refine rC ?_;refine rQ iF ?_;refine rC ?_;refine rP ?_;refine rC ?_;refine rP ?_;refine rQ (fR aa rfl rfl) ?_;refine rP ?_;refine rC ?_;refine rP ?_;refine rQ (bt aa rfl rfl) ?_;refine rP ?_;refine rC ?_;refine rQ iG ?_;refine zG<|kS<|sR ?_;refine zD ?_;refine rQ (ak hs1 rfl rfl (aj (hJ rfl trivial DLe.arx_arr ab)) (.inl rfl) (fun _=>rfl)) ?_;refine rC ?_;refine rP ?_;refine rC ?_;refine rP ?_;refine rC ?_;refine rP ?_;refine rQ (ak hs2 rfl rfl (aj (aj ab)) (.inl rfl) (fun _=>rfl)) ?_;refine rP ?_;refine rC ?_;refine rP ?_;refine rC ?_;refine rP ?_;refine rQ (ak hs3 rfl rfl (aj (aj ab)) (.inl rfl) (fun _=>rfl)) ?_;refine rP ?_;refine rC ?_;refine rP ?_;refine rC ?_;refine rQ iU ?_;refine rC ?_;refine rP ?_;refine rQ (ak cF rfl rfl ab (.inl rfl) (fun _=>rfl)) ?_;refine rQ iU ?_;refine rC<|zT ?_
  exact⟨trivial,[],lf⟩
 ·rw[if_neg hq]at hs3
  rw[dF hq]at hs2
  refine sR ?_;iterate 2 refine rN ?_
  refine rC<|nQ ?_;refine aE (by kernel_rfl) ?_;refine dQ [2] [64] iM ?_;refine dQ [12] [] (ak hx rfl rfl (aj ab) (.inl rfl) (fun _=>rfl)) ?_;refine dQ [3] [72] iM ?_;refine dQ [14] [] (ak hy rfl rfl (aj ab) (.inl rfl) (fun _=>rfl)) ?_;refine dC [13] [] ?_;refine dC [15] [] ?_;refine aB (by kernel_rfl)<|aM<|sR ?_;refine rC ?_;refine rQ (ak htx rfl rfl (aj ab) (.inl rfl) (fun _=>rfl)) ?_;iterate 5 refine rC ?_
  refine nR<|rC ?_;refine rQ (ak hpp rfl rfl (aj ab) (.inl rfl) (fun _=>rfl)) ?_;iterate 7 refine rC ?_
  refine zW<|zU ?_;refine rP ?_;refine rC ?_;refine rP ?_;refine rC ?_;refine rQ iG ?_;refine rC ?_;refine rP ?_;refine rC ?_;refine rP ?_;refine rC ?_;refine rQ iG ?_;refine rC ?_;refine rP ?_;refine rC ?_;refine rP ?_;refine rC ?_;refine rP ?_;refine rQ (ak hrt rfl rfl (aj ab) (.inl rfl) (fun _=>rfl)) ?_;refine rP ?_;refine rQ (dB (a:=s) (b:=s) aa rfl rfl rfl) ?_;refine rQ iG ?_;refine rC ?_;refine rO ?_;refine rC ?_;refine rO ?_;refine rC ?_;refine rO ?_;refine rQ (ak hsm rfl rfl (hJ rfl trivial DLe.arx_arr (aj ab)) (.inl rfl) (fun _=>rfl)) ?_;refine rO ?_;refine rC ?_;refine rQ iF ?_;refine rC ?_;refine rP ?_;refine rC ?_;refine rP ?_;refine rQ (fR aa rfl rfl) ?_;refine rP ?_;refine rC ?_;refine rP ?_;refine rQ (bt aa rfl rfl) ?_;refine rP ?_;refine rC ?_;refine rQ iG ?_;refine zG<|kS<|sR ?_;refine zD ?_;refine rQ (ak hs1 rfl rfl (aj (hJ rfl trivial DLe.arx_arr ab)) (.inl rfl) (fun _=>rfl)) ?_;refine rC ?_;refine rP ?_;refine rC ?_;refine rP ?_;refine rC ?_;refine rP ?_;refine rQ (ak hs2 rfl rfl (aj (aj ab)) (.inl rfl) (fun _=>rfl)) ?_;refine rP ?_;refine rC ?_;refine rP ?_;refine rC ?_;refine rP ?_;refine rQ (ak hs3 rfl rfl (aj (aj ab)) (.inl rfl) (fun _=>rfl)) ?_;refine rP ?_;refine rC ?_;refine rP ?_;refine rC ?_;refine rQ iU ?_;refine rC ?_;refine rP ?_;refine rQ (ak cF rfl rfl ab (.inl rfl) (fun _=>rfl)) ?_;refine rQ iU ?_;refine rC<|zT ?_
  exact⟨trivial,[],lf⟩
end Go.Proofs.YtpjiiolnfbfcbaaGreatDoor
namespace Go.Eng
open Go.RowKit
section
variable {P : Program} {T : Tab} {sz : Nat} {env : Env} {h : Upds} {n : Nat}
end
end Go.Eng
namespace Go.Eng
open Go.RowKit
theorem RelV.sl {σ:Place} {w:World} {X:Nat→Prop} {n:Nat} {u:Value}:RelV σ w X (.sl n) u ↔ ∃a c,u=.slice a n c:=by
 unfold RelV
 rw[if_neg (by simp[AV.isAgg])]
 simp only[Rel,List.cons.injEq,and_true]
section
variable {P : Program} {T : Tab} {f : FuncId} {avs avs' : List AV} {h0 rows : List (Nat × Row)} {res res' : AV} {env : Env} {h : Upds} {n : Nat}
theorem zy (hT:aq P T) {x:Operand} {t e:TypeId} {m:Nat} (hx:ay env x=some (.sl m)) (ht:bh T t=some (.slice e)) :
  an P (.call { callee :=.builtin .len,args := #[x],argTypes := #[t] }) env h n (some (.int .i64 m)) []:=.len rfl hx fun C st σ w a ty hr=>by
 obtain⟨u,hu,hdu⟩:=aS hT ht
 cases hdu
 obtain⟨ad,c,hv⟩:=RelV.sl.1 hr
 simp[Builtin.len_,hv,run_underlying hu]
def CJ (res:AV) (row:Row):Prop:=(∀(σ:Place) (w:World) (X X':Nat→Prop) (v:Value),RelV σ w X res v→RelV σ w X' res v)∧(∀(σ:Place) (w:World) (X X':Nat→Prop),bw σ w X 64 row→bw σ w X' 64 row)∧res.within (fun r=>r<72)∧row.within (fun r=>r<72)
def AV.free:AV→Bool
 | .d (.sc _)=>true
 | .own .. => true
 | .sl _=>true
 | .anil=>true
 | .acons a r=>bif a.free then r.free else false
 | .tup q=>q.free
 | _=>false
theorem Rel.free {σ:Place} {w w':World} {X X':Nat→Prop}:∀(a:AV) (m:Bool) (cs:List Value),a.free=true→Rel σ w X a m cs→Rel σ w' X' a m cs:=by
 intro a
 induction a with
 | d x =>
  intro m cs hf h
  cases x with
  | sc v=>exact h
  | _=>simp[AV.free]at hf
 | anil=>intro m cs _ h; exact h
 | acons a r iha ihr =>
  intro m cs hf h
  have hf2:a.free=true∧r.free=true:=by
   simp only[AV.free]at hf
   cases ha:a.free with
   | false=>rw[ha]at hf; cases hf
   | true=>rw[ha]at hf; exact⟨rfl,hf⟩
  cases m with
  | false =>
   obtain⟨c1,c2,rfl,h1,h2⟩:=h
   exact⟨c1,c2,rfl,iha _ _ hf2.1 h1,ihr _ _ hf2.2 h2⟩
  | true =>
   obtain⟨v,us,rfl,h1,h2⟩:=h
   refine⟨v,us,rfl,?_,ihr _ _ hf2.2 h2⟩
   split at h1 <;> rename_i hag
   ·obtain⟨c,rfl,hc⟩:=h1
    rw[if_pos hag]
    exact⟨c,rfl,iha _ _ hf2.1 hc⟩
   ·rw[if_neg hag]
    exact iha _ _ hf2.1 h1
 | own=>intro m cs _ h; exact h
 | sl n=>intro m cs _ h; exact h
 | tup q ih =>
  rintro m cs hf ⟨vs,rfl,h1⟩
  exact⟨vs,rfl,ih _ _ hf h1⟩
 | _=>intro m cs hf; simp[AV.free]at hf
theorem RelV.free {σ:Place} {w w':World} {X X':Nat→Prop} {a:AV} {v:Value} (hf:a.free=true) (h:RelV σ w X a v):RelV σ w' X' a v:=by
 unfold RelV at h ⊢
 split at h <;> rename_i hag
 ·obtain⟨c,rfl,hc⟩:=h
  rw[if_pos hag]
  exact⟨c,rfl,Rel.free a _ _ hf hc⟩
 ·rw[if_neg hag]
  exact Rel.free a _ _ hf h
end
end Go.Eng
namespace Go.Eng
open Go.RowKit
theorem RelV.re {f:Bool} {σ:Place} {w:World} {X S:Nat→Prop} {x:D} {u:Value}:RelV σ w X (.d (.re f S x)) u↔RelV σ w (fun b=>X b∨S b∨(f=true∧Icy w b)) (.d x) u:=by
 unfold RelV
 exact Iff.rfl
theorem DLe.re {f:Bool} {S:Nat→Prop} {x:D}:DLe (.re f S x) x:=fun w X cs h=>Enc.mono (X:=fun b=>X b∨S b∨(f=true∧Icy w b)) (fun _ _ h1 h2=>⟨.rfl' h1,fun h3=>h2 (.inl h3)⟩) x cs h
theorem DLe.re_jk {α:Type} {S:Nat→Prop} {p:Value→Prop} {e:α→Value} {xs:List α} {n:Nat} (hn:xs.length=n) (hp:∀x,p (e x)):DLe (.re true S (.arr 1 (fun i=>.sc (e i)) xs)) (.jk S p n):=by
 subst hn
 rintro w X cs (⟨rfl,rfl⟩ | ⟨a,c,rfl,_,_,f,hf⟩)
 ·exact⟨none,0,rfl,fun j hj=>by cases hj⟩
 ·refine⟨some a,c,rfl,fun j hj=>?_⟩
  obtain⟨h1,_,h3⟩:=hf j hj
  obtain⟨h4,h5⟩:=h3 0 (e xs[j]) (by rw[h1.1]; rfl)
  exact⟨a,_,rfl,by simpa using h4,fun h=>h5 (.inl h),fun h=>h5 (.inr (.inl h)),fun h=>h5 (.inr (.inr ⟨rfl,h⟩)),hp _⟩
def Row.wet:Row→Bool
 | .box .. => true
 | .ds .. => true
 | .lits .. => true
 | _=>false
theorem Row.wet_ice {σ:Place} {w:World} {X:Nat→Prop} {r:Nat} {row:Row} (hw:row.wet=true) (h:bw σ w X r row) {b c:Nat} (hb:σ r=some (b,c)):¬Icy w b:=by
 have key:∀cur t,w.heap[b]?=some (.cells cur t (0,0))→¬Icy w b:=by
  rintro cur t h1 ⟨a,rfl,h2⟩
  simp only[World.frozen?,h1]at h2
  simp at h2
 cases row with
 | box t a =>
  obtain⟨_,b',cs,h1,h2,_⟩:=h
  rw[hb]at h1; cases h1
  exact key _ _ h2
 | ds t s ex enc xs =>
  rcases h with ⟨h1,_⟩ | ⟨b',c',cur,h1,_,h2,_⟩
  ·rw[hb]at h1; cases h1
  ·rw[hb]at h1; cases h1
   exact key _ _ h2
 | lits t s n ex a =>
  rcases h with ⟨_,⟨h1,_⟩ | ⟨b',c',cur,cs,h1,_,h2,_⟩⟩
  ·rw[hb]at h1; cases h1
  ·rw[hb]at h1; cases h1
   exact key _ _ h2
 | _=>cases hw
section
variable {P : Program} {f : FuncId} {avs : List AV} {res : AV}
theorem FnIs.new_re {S:Nat→Prop} {k:Nat} (hk:k<64) {row:Row} {x:D} (hfr:∀(σ:Place) (w:World) (X X':Nat→Prop),bw σ w X 64 row→bw σ w X' 64 row) (hwet:row.wet=true) (hres:res.free=true) (hag:res.isAgg=false) (hF:Frz 64 row res (.d x))
    (h:FnIs P f avs [] res [(64,row)]):FnIs P f avs [(k,.lo S)] (.d (.re true S x)) [(k,.lo S)]:=by
  refine⟨h.1,fun C σ w vs hbs hB hw hσ hro hst=>?_⟩
  have hlo:=hst.rows k (.lo S) (by simp[inSt,bn,St.row,lk])
  have hXe:∀b,(inSt avs []).X C.X0 σ b→(inSt avs [(k,.lo S)]).X C.X0 σ b:=by
    rintro b (hb | ⟨r,ro,c,g1,_⟩)
    · exact .inl hb
    · simp[inSt,bn,St.row,lk]at g1
  have hc:aH { C with M:=fun _=>False } (fun r=>r<64) (inSt avs []) σ w ⟨vs.toArray,[]⟩:=
    { env:=fun i v hi=>by
        obtain⟨u,h1,h2⟩:=hst.env i v hi
        exact⟨u,h1,RelV.mono (G:=fun _=>True) (fun _ _=>rfl) (fun _ _ h3 h4=>⟨.rfl' h3,fun h5=>h4 (hXe _ h5)⟩) v.within_all h2⟩
      envG:=hst.envG
      rows:=fun r row hr=>by simp[inSt,bn,St.row,lk]at hr
      rowsG:=fun r row hr=>by simp[inSt,bn,St.row,lk]at hr
      inj:=fun r r' row row' b c c' hr=>by simp[inSt,bn,St.row,lk]at hr
      high:=fun r row b c hr=>by simp[inSt,bn,St.row,lk]at hr
      size:=hst.size
      below:=by show ea C.B _ C.w0 w; rw[hw]; exact ea.refl _ _ _
      defers:=trivial
      sz:=hst.sz
      x0:=fun b hb=>⟨(hst.x0 b hb).1,id⟩
      agree:=hst.agree
      baseG:=hst.baseG
      bs:=hst.bs
      rok:=hst.rok
      glob:=fun x hx=>⟨(hst.glob x hx).1,(hst.glob x hx).2.1,id⟩ }
  refine (h.2 { C with M:=fun _=>False } σ w vs hbs hB hw hσ hro hc).mono ?_
  rintro e w' ⟨v,σ',rfl,hr⟩
  refine⟨v,σ',rfl,?_⟩
  have hbm:ea C.B (fun _=>False) w w':=by have:=hr.below; rw[←hw]; exact this
  have hag2:∀r,r<64→σ' r=σ r:=fun r hr64=>by
    have:=hr.agree r (by show r<C.bs; omega)
    rw[this]; show C.σ0 r=σ r; rw[hσ]
  have hnew:∀b c,σ' 64=some (b,c)→w.heap.size≤b:=fun b c hb=>by
    rcases hr.high 64 row b c rfl hb with h | h
    · have h:C.B≤b:=h
      omega
    · exact h.elim
  have hX:∀b,(cd (.d (.re true S x)) [(k,.lo S)]).X C.X0 σ' b→b<w.heap.size:=by
    rintro b (hb | ⟨r,ro,c,g1,g2⟩)
    · have:=(hst.x0 b hb).1; omega
    · have:r=k:=by
        simp only[cd,bn,St.row,aQ]at g1
        by_cases e:k=r
        · exact e.symm
        · rw[if_neg e]at g1; simp[lk]at g1
      subst this
      rw[hag2 r hk,hlo.1]at g2; cases g2
  obtain⟨u,hu,hv⟩:=hr.env 0 _ rfl
  have hrow:=hr.rows 64 row rfl
  exact
    { env:=fun i y hi=>by
        by_cases e:i=0
        · subst e
          simp only[cd,aQ,if_pos,Option.some.injEq]at hi
          subst hi
          refine⟨v,rfl,?_⟩
          have hu':v=u:=by simpa using hu
          subst hu'
          rw[RelV.re]
          have h1:=RelV.free (X':=fun b=>(cd (.d (.re true S x)) [(k,.lo S)]).X C.X0 σ' b∨S b∨(true=true∧Icy w' b)) (w':=w') hres hv
          unfold RelV at h1 ⊢
          rw[if_neg (by rw[hag]; decide)]at h1
          rw[if_neg (by rw[hF.1,hag]; decide)]
          refine hF.2.2.2 σ' w' _ _ (fun _ h=>h) (fun b c hb=>?_) (hfr _ _ _ _ hrow) _ h1
          have:=hnew b c hb
          rintro (h2 | h2 | h2)
          · have:=hX b h2; omega
          · have:=hlo.2 b h2; omega
          · exact Row.wet_ice hwet hrow hb h2.2
        · simp only[cd,aQ,if_neg (Ne.symm e),lk]at hi
          cases hi
      envG:=fun i y hi=>by
        by_cases e:i=0
        · subst e
          simp only[cd,aQ,if_pos,Option.some.injEq]at hi
          subst hi
          trivial
        · simp only[cd,aQ,if_neg (Ne.symm e),lk]at hi
          cases hi
      rows:=fun r ro hr'=>by
        simp only[cd,bn,St.row,aQ]at hr'
        by_cases e:k=r
        · subst e
          rw[if_pos rfl]at hr'
          simp only[Option.bind_some,id,Option.some.injEq]at hr'
          subst hr'
          exact⟨by rw[hag2 k hk]; exact hlo.1,fun b hb=>Nat.lt_of_lt_of_le (hlo.2 b hb) hbm.size⟩
        · rw[if_neg e]at hr'; simp[lk]at hr'
      rowsG:=fun r ro hr'=>by
        simp only[cd,bn,St.row,aQ]at hr'
        by_cases e:k=r
        · subst e
          rw[if_pos rfl]at hr'
          simp only[Option.bind_some,id,Option.some.injEq]at hr'
          subst hr'
          exact⟨by show k<72; omega,trivial⟩
        · rw[if_neg e]at hr'; simp[lk]at hr'
      inj:=fun r r' ro ro' b c c' g1 g2 _ _=>by
        simp only[cd,bn,St.row,aQ]at g1 g2
        by_cases e:k=r <;> by_cases e':k=r'
        · omega
        · rw[if_neg e']at g2; simp[lk]at g2
        · rw[if_neg e]at g1; simp[lk]at g1
        · rw[if_neg e]at g1; simp[lk]at g1
      high:=fun r ro b c g1 g2=>by
        simp only[cd,bn,St.row,aQ]at g1
        by_cases e:k=r
        · subst e
          rw[hag2 k hk,hlo.1]at g2; cases g2
        · rw[if_neg e]at g1; simp[lk]at g1
      size:=hr.size
      below:=by rw[hw]; exact⟨hbm.os,hbm.tape,hbm.output,hbm.size,fun k hk _=>hbm.block k hk id,hbm.book⟩
      defers:=trivial
      sz:=rfl
      x0:=hst.x0
      agree:=fun r hr2=>hr.agree r hr2
      baseG:=fun r hr=>by have:=hst.baseG r hr; exact Nat.lt_of_lt_of_le this (by decide)
      bs:=hst.bs
      rok:=fun l hl=>by rw[hro]at hl; cases hl
      glob:=hst.glob }
end
end Go.Eng
namespace Go.Eng
open Go.RowKit
abbrev NotS (S:Nat→Prop):Nat→Prop:=fun b=>¬S b
section
variable {P : Program} {S : Nat → Prop} {c : Code} {Q : Exit → St → Prop} {st : St}
def SatC (S:Nat→Prop) (P:Program) (c:Code) (Q:Exit→St→Prop) (st:St):Prop :=
 ∀(C:Ctx) (σ:Place) (w:World) (a:Act),(∀b,¬S b→C.B≤b)→aH C (fun r=>r<st.next) st σ w a→c.wpIn (fen C.ro) 0 P (Lift C Q) a w
theorem Sat.toC (h:Sat P c Q st):SatC S P c Q st:=fun C σ w a _ hst=>h C σ w a hst
def SeqT (S:Nat→Prop) (P:Program) (b:Code) (Q:Exit→St→Prop) (e:Exit) (st:St):Prop:=match e with
 | .normal=>SatC S P b Q st
 | e=>Q e st
theorem jO {x y:Code} (h1:SatC S P x (SeqT S P y Q) st):SatC S P (.seq x y) Q st:=by
 intro C σ w a hS hst
 refine wpIn_seq (wpIn_mono (h1 C σ w a hS hst) ?_)
 rintro e a' w' ⟨st',σ',h1,h2⟩
 cases e with
 | normal=>exact h1 C σ' w' a' hS h2
 | _=>exact⟨st',σ',h1,h2⟩
theorem gH {b:Code} (h1:SatC S P b Q st):SeqT S P b Q .normal st:=h1
def fG (S:Nat→Prop) (env env':Env):Prop:=∀i v',lk env' i=some v' → ∃v,lk env i=some v∧(v'=v∨∃x,v=.d x∧v' = .d (.re false (NotS S) x))
theorem fG.nil {env:Env}:fG S env []:=fun i v' h=>by simp[lk]at h
theorem fG.keep {env env':Env} {i:Nat} {v:AV} (h:lk env i=some v) (h2:fG S env env'):fG S env ((i,v)::env'):=fun j v' hj=>by
 rw[aQ]at hj
 by_cases e:i=j
 ·subst e; rw[if_pos rfl]at hj; cases hj; exact⟨v,h,.inl rfl⟩
 ·rw[if_neg e]at hj; exact h2 j v' hj
theorem fG.old {env env':Env} {i:Nat} {x:D} (h:lk env i=some (.d x)) (h2:fG S env env'):fG S env ((i,.d (.re false (NotS S) x))::env'):=fun j v' hj=>by
 rw[aQ]at hj
 by_cases e:i=j
 ·subst e; rw[if_pos rfl]at hj; cases hj; exact⟨_,h,.inr ⟨x,rfl,rfl⟩⟩
 ·rw[if_neg e]at hj; exact h2 j v' hj
theorem xN {C:Ctx} {σ:Place} {w:World} {a:Act} (env':(Nat→Prop)→Env) (hE:∀S,fG S st.env (env' S)) (hbs:st.bs≤st.next) (hst:aH C (fun r=>r<st.next) st σ w a) :
  ∃(S:Nat→Prop) (σ':Place),S=(fun b=>b<w.heap.size)∧(∀b,¬S b→C.B≤b)∧aH C (fun r=>r<st.next+8) ⟨env' S,(st.next,some (.lo S))::st.heap,st.next+8,st.sz,st.bs⟩ σ' w a:=by
 obtain⟨S,hSd⟩:∃S:Nat→Prop,S=fun b=>b<w.heap.size:=⟨_,rfl⟩
 obtain⟨σ',hσd⟩:∃σ':Place,σ'=fun r=>if r=st.next then none else σ r:=⟨_,rfl⟩
 have hσ:∀r,r<st.next→σ' r=σ r:=fun r hr=>by rw[hσd]; simp only; rw[if_neg (by omega)]
 have hσn:σ' st.next=none:=by rw[hσd]; simp
 have hrow:∀r,(⟨st.env,(st.next,some (.lo S))::st.heap,st.next+8,st.sz,st.bs⟩:St).row r=if st.next=r then some (.lo S) else st.row r:=fun r=>by
  simp only[St.row,aQ]
  split <;> rfl
 have hX:∀b,(⟨st.env,(st.next,some (.lo S))::st.heap,st.next+8,st.sz,st.bs⟩:St).X C.X0 σ' b→st.X C.X0 σ b:=by
  rintro b (hb | ⟨r,ro,d,g1,g2⟩)
  ·exact .inl hb
  ·rw[hrow]at g1
   by_cases e:st.next=r
   ·subst e; rw[hσn]at g2; cases g2
   ·rw[if_neg e]at g1
    rw[hσ r (hst.rowsG r ro g1).1]at g2
    exact .inr ⟨r,ro,d,g1,g2⟩
 have hk:∀(ad:Addr) (u:Value),w.cell? ad=some u→¬st.X C.X0 σ ad.block→Kp w w ad u∧¬(⟨st.env,(st.next,some (.lo S))::st.heap,st.next+8,st.sz,st.bs⟩:St).X C.X0 σ' ad.block:=fun ad u h1 h2=>⟨.rfl' h1,fun h3=>h2 (hX _ h3)⟩
 have h1:aH C (fun r=>r<st.next+8) ⟨st.env,(st.next,some (.lo S))::st.heap,st.next+8,st.sz,st.bs⟩ σ' w a:=by
  refine⟨fun i v hi=>?_,fun i v hi=>?_,fun r ro hr=>?_,fun r ro hr=>?_,fun r r' ro ro' b d d' g1 g2 g3 g4=>?_,fun r ro b d g1 g2=>?_,hst.size,hst.below,hst.defers,hst.sz,hst.x0,fun r hr=>?_,fun r hr=>?_,hst.bs,hst.rok,hst.glob⟩
  ·obtain⟨u,g1,g2⟩:=hst.env i v hi
   exact⟨u,g1,RelV.mono hσ hk (hst.envG i v hi) g2⟩
  ·exact AV.within.mono (fun r hr=>Nat.lt_add_right 8 hr) v (hst.envG i v hi)
  ·rw[hrow]at hr
   by_cases e:st.next=r
   ·subst e; rw[if_pos rfl]at hr; cases hr
    exact⟨hσn,fun b hb=>by rw[hSd]at hb; exact hb⟩
   ·rw[if_neg e]at hr
    exact bw.mono hσ hk (Nat.le_refl _) (hst.rowsG r ro hr).1 (hst.rowsG r ro hr).2 (fun _ _ _=>rfl) (hst.rows r ro hr)
  ·rw[hrow]at hr
   by_cases e:st.next=r
   ·subst e; rw[if_pos rfl]at hr; cases hr
    exact⟨by omega,trivial⟩
   ·rw[if_neg e]at hr
    obtain⟨g1,g2⟩:=hst.rowsG r ro hr
    refine⟨Nat.lt_add_right 8 g1,?_⟩
    cases ro with
    | box t x=>exact AV.within.mono (fun r hr=>Nat.lt_add_right 8 hr) x g2
    | ds=>trivial
    | lits t s n ex x=>exact AV.within.mono (fun r hr=>Nat.lt_add_right 8 hr) x g2
    | mo x=>exact AV.within.mono (fun r hr=>Nat.lt_add_right 8 hr) x g2
    | si=>trivial
    | mq=>trivial
    | lo=>trivial
    | mi x=>exact AV.within.mono (fun r hr=>Nat.lt_add_right 8 hr) x g2
  ·rw[hrow]at g1 g2
   by_cases e:st.next=r
   ·subst e; rw[hσn]at g3; cases g3
   ·by_cases e':st.next=r'
    ·subst e'; rw[hσn]at g4; cases g4
    ·rw[if_neg e]at g1
     rw[if_neg e']at g2
     rw[hσ r (hst.rowsG r ro g1).1]at g3
     rw[hσ r' (hst.rowsG r' ro' g2).1]at g4
     exact hst.inj r r' ro ro' b d d' g1 g2 g3 g4
  ·rw[hrow]at g1
   by_cases e:st.next=r
   ·subst e; rw[hσn]at g2; cases g2
   ·rw[if_neg e]at g1
    rw[hσ r (hst.rowsG r ro g1).1]at g2
    exact hst.high r ro b d g1 g2
  ·rw[hσ r (by have:=hst.bs; omega)]; exact hst.agree r hr
  ·exact Nat.lt_add_right 8 (hst.baseG r hr)
 refine⟨S,σ',hSd,fun b hb=>?_, { h1 with env:=fun i v' hi=>?_,envG:=fun i v' hi=>?_ }⟩
 ·have:=hst.size
  rw[hSd]at hb
  simp only at hb
  omega
 ·obtain⟨v,g1,g2⟩:=hE S i v' hi
  obtain⟨u,g3,g4⟩:=h1.env i v g1
  refine⟨u,g3,?_⟩
  rcases g2 with rfl | ⟨x,rfl,rfl⟩
  ·exact g4
  ·rw[RelV.re]
   refine RelV.mono (G:=fun _=>True) (fun _ _=>rfl) (fun ad u' h5 h6=>⟨.rfl' h5,?_⟩) (AV.within_all _) g4
   rintro (h7 | h7 | h7)
   rotate_right
   ·exact Bool.noConfusion h7.1
   ·exact h6 h7
   ·exact h7 (by rw[hSd]; exact World.block_lt_of_cell? w ad h5)
 ·obtain⟨v,g1,g2⟩:=hE S i v' hi
  rcases g2 with rfl | ⟨x,rfl,rfl⟩
  ·exact h1.envG i v' g1
  ·trivial
theorem aH.rebox {C:Ctx} {G:Nat→Prop} {σ:Place} {w:World} {a:Act} {r:Nat} {t:TypeId} {x:D} (hst:aH C G st σ w a) (hr:st.row r=some (.box t (.d x))) (hS:S=fun b=>b<w.heap.size) :
  aH C G (st.upd [(r,some (.box t (.d (.re false (NotS S) x))))]) σ w a:=by
 obtain⟨hf,b,cs,h1,h2,h3⟩:=hst.rows r _ hr
 have h4:Enc w (st.X C.X0 σ) (.re false (NotS S) x) cs.toList:=by
  refine Enc.mono (fun ad u h5 h6=>⟨.rfl' h5,?_⟩) x cs.toList h3
  rintro (h7 | h7 | h7)
  ·exact h6 h7
  ·exact h7 (by rw[hS]; exact World.block_lt_of_cell? w ad h5)
  ·exact Bool.noConfusion h7.1
 have:=hst.write (new:=cs) hr h1 h2 (row :=.box t (.d (.re false (NotS S) x))) trivial (fun w' _ hE hh=>⟨hf,b,cs,h1,hh,hE _ _ h4⟩)
 rw[setRow_self w b cs t (0,0) h2]at this
 exact this
theorem vI {r:Nat} {t:TypeId} {x:D} (env':(Nat→Prop)→Env) (hr:st.row r=some (.box t (.d x))) (hlt:Nat.blt r st.next=true) (hE:∀S,fG S st.env (env' S)) (hbs:st.bs≤st.next)
  (h:∀S,SatC S P c Q ⟨env' S,(r,some (.box t (.d (.re false (NotS S) x))))::(st.next,some (.lo S))::st.heap,st.next+8,st.sz,st.bs⟩):Sat P c Q st:=by
 intro C σ w a hst
 obtain⟨S,σ',hS,h1,h2⟩:=xN env' hE hbs hst
 refine h S C σ' w a h1 (h2.rebox ?_ hS)
 simp only[St.row,aQ]
 rw[if_neg (by have:=Nat.le_of_ble_eq_true hlt; omega)]
 exact hr
end
end Go.Eng
namespace Go.Eng
open Go.RowKit
def D.safe (S:Nat→Prop) (u:Value):D→Prop
 | .sc _=>True
 | .nil=>True
 | .cons a r=>a.safe S u∧r.safe S u
 | .vec _ _ enc _=>∀x,(enc x).safe S u
 | .re _ T _=>∀b,¬S b→T b
 | .jk _ p _=>p u
 | _=>False
def Turn (w w':World) (ad:Addr) (u:Value):Prop:=∀(a:Addr) (v:Value),w.cell? a=some v→(a.block≠ad.block→w'.cell? a=some v)∧(∃v',w'.cell? a=some v'∧(v'=v∨v'=u))∧(Icy w' a.block→Icy w a.block)
theorem Enc.safe {S:Nat→Prop} {u:Value} {w w':World} {ad:Addr} (ht:Turn w w' ad u) (hS:¬S ad.block):∀(d:D) (X:Nat→Prop) (cs:List Value),d.safe S u→Enc w X d cs→Enc w' X d cs:=by
 intro d
 induction d with
 | sc v=>intro X cs _ h; exact h
 | nil=>intro X cs _ h; exact h
 | cons a r iha ihr =>
  rintro X cs ⟨p1,p2⟩ ⟨c1,c2,rfl,h1,h2⟩
  exact⟨c1,c2,rfl,iha X _ p1 h1,ihr X _ p2 h2⟩
 | vec n s enc xs ih =>
  rintro X cs p ⟨hn,f,hf,rfl⟩
  exact⟨hn,f,fun i hi=>⟨ih _ X _ (p _) (hf i hi).1,(hf i hi).2⟩,rfl⟩
 | re f T y ih =>
  intro X cs p h
  refine Enc.mono (X:=fun b=>X b∨T b∨(f=true∧Icy w b)) (X':=fun b=>X b∨T b∨(f=true∧Icy w' b)) (fun a v hc hx=>⟨⟨(ht a v hc).1 fun e=>hx (.inr (.inl (p _ (by rw[e]; exact hS)))),(ht a v hc).2.2⟩,fun hx'=>hx (hx'.imp id (Or.imp id fun h=>⟨h.1,(ht a v hc).2.2 h.2⟩))⟩) y cs h
 | jk T q n =>
  rintro X cs p ⟨a,c,rfl,h⟩
  refine⟨a,c,rfl,fun j hj=>?_⟩
  obtain⟨b,v,h1,h2,h3,h4,h8,h5⟩:=h j hj
  obtain⟨⟨v',h6,h7⟩,h9⟩:=(ht _ v h2).2
  rw[Addr.add_block]at h9
  refine⟨b,v',h1,h6,h3,h4,fun h=>h8 (h9 h),?_⟩
  rcases h7 with rfl | rfl
  ·exact h5
  ·exact p
 | arr=>intro X cs p; exact p.elim
 | pt=>intro X cs p; exact p.elim
 | arx=>intro X cs p; exact p.elim
def AV.safe (S:Nat→Prop) (u:Value):AV→Prop
 | .d x=>x.safe S u
 | .anil=>True
 | .acons a r=>a.safe S u∧r.safe S u
 | .own .. => True
 | .ptr .. => True
 | .sl _=>True
 | .tup q=>q.safe S u
 | _=>False
theorem Rel.safe {S:Nat→Prop} {u:Value} {w w':World} {ad:Addr} {σ:Place} {X:Nat→Prop} (ht:Turn w w' ad u) (hS:¬S ad.block):∀(a:AV) (m:Bool) (cs:List Value),a.safe S u→Rel σ w X a m cs→Rel σ w' X a m cs:=by
 intro a
 induction a with
 | d x=>intro m cs p h; exact Enc.safe ht hS x X cs p h
 | anil=>intro m cs _ h; exact h
 | acons a r iha ihr =>
  rintro m cs ⟨p1,p2⟩ h
  cases m with
  | false =>
   obtain⟨c1,c2,rfl,h1,h2⟩:=h
   exact⟨c1,c2,rfl,iha _ _ p1 h1,ihr _ _ p2 h2⟩
  | true =>
   obtain⟨v,us,rfl,h1,h2⟩:=h
   refine⟨v,us,rfl,?_,ihr _ _ p2 h2⟩
   split at h1 <;> rename_i hag
   ·obtain⟨c,rfl,hc⟩:=h1
    rw[if_pos hag]
    exact⟨c,rfl,iha _ _ p1 hc⟩
   ·rw[if_neg hag]
    exact iha _ _ p1 h1
 | own=>intro m cs _ h; exact h
 | ptr=>intro m cs _ h; exact h
 | sl n=>intro m cs _ h; exact h
 | tup q ih =>
  rintro m cs p ⟨vs,rfl,h1⟩
  exact⟨vs,rfl,ih _ _ p h1⟩
 | _=>intro m cs p; exact p.elim
theorem RelV.safe {S:Nat→Prop} {u:Value} {w w':World} {ad:Addr} {σ:Place} {X:Nat→Prop} {a:AV} {v:Value} (ht:Turn w w' ad u) (hS:¬S ad.block) (p:a.safe S u) (h:RelV σ w X a v):RelV σ w' X a v:=by
 unfold RelV at h ⊢
 split at h <;> rename_i hag
 ·obtain⟨c,rfl,hc⟩:=h
  rw[if_pos hag]
  exact⟨c,rfl,Rel.safe ht hS a _ _ p hc⟩
 ·rw[if_neg hag]
  exact Rel.safe ht hS a _ _ p h
def Row.safe (S:Nat→Prop) (u:Value):Row→Prop
 | .box _ a=>a.safe S u
 | .ds _ _ _ enc _=>∀x,(enc x).safe S u
 | .lits _ _ _ _ a=>a.safe S u
 | .lo _=>True
 | _=>False
theorem bw.safe {S:Nat→Prop} {u:Value} {w w':World} {ad:Addr} {σ:Place} {X:Nat→Prop} {r:Nat} {row:Row} (ht:Turn w w' ad u) (hS:¬S ad.block) (hz:w.heap.size≤w'.heap.size) (p:row.safe S u) (hb:∀b c,σ r=some (b,c)→w'.heap[b]?=w.heap[b]?) (h:bw σ w X r row):bw σ w' X r row:=by
 cases row with
 | box t a =>
  obtain⟨hf,b,cs,h1,h2,h3⟩:=h
  exact⟨hf,b,cs,h1,(hb b _ h1).trans h2,Rel.safe ht hS a _ _ p h3⟩
 | ds t s ex enc xs =>
  rcases h with h | ⟨b,c,cur,h1,h0,h2,h3,h4,h5,f,hf,h6⟩
  ·exact .inl h
  ·exact .inr ⟨b,c,cur,h1,h0,(hb b _ h1).trans h2,h3,h4,h5,f,fun i hi=>⟨Enc.safe ht hS _ X _ (p _) (hf i hi).1,(hf i hi).2⟩,h6⟩
 | lits t s n ex a =>
  rcases h with ⟨hf,h | ⟨b,c,cur,cs,h1,h0,h2,h3,h4,h5,h6,h7,h8⟩⟩
  ·exact⟨hf,.inl h⟩
  ·exact⟨hf,.inr ⟨b,c,cur,cs,h1,h0,(hb b _ h1).trans h2,h3,h4,h5,h6,Rel.safe ht hS a _ _ p h7,h8⟩⟩
 | lo T=>exact⟨h.1,fun b hb'=>Nat.lt_of_lt_of_le (h.2 b hb') hz⟩
 | mo a=>exact p.elim
 | si=>exact p.elim
 | mq=>exact p.elim
 | mi=>exact p.elim
theorem aH.turn {C:Ctx} {G:Nat→Prop} {st:St} {σ:Place} {w w':World} {a:Act} {S:Nat→Prop} {ad:Addr} {u:Value} {o:Obj} (h:aH C G st σ w a) (hC:∀b,¬S b→C.B≤b) (ht:Turn w w' ad u) (hS:¬S ad.block) (hX:¬st.X C.X0 σ ad.block)
    (ho:w.heap[ad.block]?=some o) (hnb:gT o=false) (hoth:∀k,k≠ad.block→w'.heap[k]?=w.heap[k]?) (hsz:w'.heap.size=w.heap.size) (h1:w'.os=w.os) (h2:w'.tape=w.tape) (h3:w'.output=w.output)
    (henv:∀i v,lk st.env i=some v→v.safe S u) (hrow:∀r row,st.row r=some row→row.safe S u):aH C G st σ w' a:=by
  have hbk:∀(k:Nat) (x:Obj),w.heap[k]?=some x→gT x=true→w'.heap[k]?=some x:=fun k x hx hb=>by
    have:k≠ad.block:=by
      rintro rfl
      rw[ho]at hx; cases hx; rw[hnb]at hb; cases hb
    rw[hoth k this]; exact hx
  exact
    { env:=fun i v hi=>by
        obtain⟨x,g1,g2⟩:=h.env i v hi
        exact⟨x,g1,RelV.safe ht hS (henv i v hi) g2⟩
      envG:=h.envG
      rows:=fun r row hr=>bw.safe ht hS (by omega) (hrow r row hr) (fun b c hb=>hoth b (by rintro rfl; exact hX (.inr ⟨r,row,c,hr,hb⟩))) (h.rows r row hr)
      rowsG:=h.rowsG
      inj:=h.inj
      high:=h.high
      size:=by rw[hsz]; exact h.size
      below:=h.below.trans ⟨h1,h2,h3,by omega,fun k hk _=>hoth k (by have:=hC _ hS; omega),hbk⟩
      defers:=iP.go (fun k hk=>hbk k _ hk rfl) _ h.defers
      sz:=h.sz
      x0:=h.x0
      agree:=h.agree
      baseG:=h.baseG
      bs:=h.bs
      rok:=fun l hl=>by
        obtain⟨r,hr⟩:=h.rok l hl
        exact⟨r,hbk l _ hr rfl⟩
      glob:=h.glob }
end Go.Eng
namespace Go.Eng
open Go.RowKit
section
variable {P : Program} {T : Tab} {sz : Nat} {all l : List Oper} {n : Nat} {env : Env} {h : Upds} {K : Env → Upds → Nat → Prop}
theorem xi {C:Ctx} {G:Nat→Prop} {st:St} {w:World} {a:Act} {o:Oper} {v:Option AV} {u:Upds} (hc:b5 P C G st n o a w (fun v' u'=>v'=v∧u'=u)) (next:Act→World→Prop) (Q:Exit→Act→World→Prop)
  (hnext:∀x w' σ' G',aH C G' (st.put o.dst v u) σ' w' (a.put o.dst x)→(∀r,G r→G' r)→(∀r,G' r→G r∨n≤r∧r<n+8)→next (a.put o.dst x) w'):o.wpIn (fen C.ro) 0 P a w next Q:=by
 obtain⟨v',u',nx,x,w',σ',G',⟨rfl,rfl⟩,hr,hx,hst',h1,h2⟩:=hc
 have hdef:∀c,o.op ≠ .defer c:=fun c hc=>by
  have:∃d w2,(execOp a.eval o).run P w=.ok (.defer d) w2∨∀y w3,(execOp a.eval o).run P w ≠ .ok y w3:=by
   simp only[execOp,hc,Sem.run_bind,Sem.run_pure]
   cases (resolve a.eval c o.type).run P w with
   | ok d w2=>exact⟨d,w2,.inl rfl⟩
   | _=>exact⟨{ target :=.collected 0,args := #[] },w,.inr fun y w3=>by simp[Result.andThen]⟩
  obtain⟨d,w2,h1 | h1⟩:=this
  ·rw[hr]at h1
   rcases hx with rfl | ⟨rfl,_⟩ <;> cases h1
  ·exact h1 _ _ hr
 refine⟨fun _ _=>trivial,?_⟩
 rw[fq hr hdef]
 rcases hx with rfl | ⟨rfl,rfl⟩
 ·exact hnext x w' σ' G' hst' h1 h2
 ·exact hnext undef w' σ' G' hst' h1 h2
theorem y8 {α:Type} {V:α→AV} {d:Tmp} {op:Op} {ty:TypeId} {pos:String} {af:Array Edge} (hd:Nat.blt d sz=true)
  (hs:∀(C:Ctx) (G:Nat→Prop) (st:St) (σ:Place) (w:World) (a:Act) (o:Oper),o.op=op→fh env h st→(∀d,o.dst=some d→d<st.sz)→aH C G st σ w a→(∀r,n≤r→r<n+8→¬G r) →
   ∃x,b5 P C G st n o a w (fun v' u'=>v'=some (V x)∧u'=[]))
  (h1:∀x,RegS P all sz l (n+8) ((d,V x)::env) h K):RegS P all sz (⟨some d,op,ty,pos,af,none⟩::l) n env h K:=by
 intro C σ w a hst Q hQ
 have hA:fh env h (⟨env,h,n,sz,64⟩:St):=⟨fun i v hi=>hi,fun r row hr=>by rw[←hr,←cg]⟩
 have hdd:∀d',(⟨some d,op,ty,pos,af,none⟩:Oper).dst=some d'→d'<sz:=fun d' e=>by cases e; exact Nat.le_of_ble_eq_true hd
 obtain⟨x,hx⟩:=hs C _ ⟨env,h,n,sz,64⟩ σ w a ⟨some d,op,ty,pos,af,none⟩ rfl hA hdd hst (fun r h1 h2 h3=>Nat.not_lt.2 h1 h3)
 unfold wpListIn
 rw[if_pos (show Region.wanted (⟨some d,op,ty,pos,af,none⟩:Oper) (yielded all.toArray a.tmps)=true from rfl)]
 refine xi hx _ _ ?_
 intro y2 w2 σ2 G2 k1 _ k3
 rw[mA]at k1
 refine h1 x C σ2 w2 _ ?_ Q hQ
 have:=k1.grow (G':=fun r=>r<n+8) (fun r hr=>by rcases k3 r hr with hr | hr <;> (try simp only at hr) <;> omega)
 exact { this with }
theorem y7 (hT:aq P T) {S:Nat→Prop} {p:Value→Prop} {m:Nat} {j:Int} {k:IntKind} {t e:TypeId} {re:TyR} {x i:Operand} {d:Tmp} {ty:TypeId} {pos:String} {af:Array Edge} (hd:Nat.blt d sz=true) (ht:bh T t=some (.slice e)) (he:lk T e=some re) (hs:Nat.beq re.size 1=true)
  (hx:ay env x=some (.d (.jk S p m))) (hi:ay env i=some (.int k j)) (h0:0≤j) (h1:j<(m:Int)) (hone:∀u,p u→u.oneCell'=true)
  (next:∀u,p u→RegS P all sz l (n+8) ((d,.d (.re true S (.pt (.sc u))))::env) h K):RegS P all sz (⟨some d,.indexAddr t x i,ty,pos,af,none⟩::l) n env h K:=by
 refine y8 (α := {u:Value // p u}) (V:=fun u=>.d (.re true S (.pt (.sc u.1)))) hd (fun C G st σ w a o ho hA hd hst hn=>?_) (fun u=>next u.1 u.2)
 obtain⟨hx1,_⟩:=ao hst (hA.ev hx)
 obtain⟨hi1,_⟩:=RelV.sc.1 (ao hst (hA.ev hi)).1
 unfold RelV at hx1
 rw[if_neg (by simp[AV.isAgg,D.isAgg])]at hx1
 obtain⟨a0,c,hv,hc⟩:=hx1
 have hv:a.eval x=.slice a0 m c:=by simpa using hv
 obtain⟨b,u,rfl,hcell,hX,hS,hI,hp⟩:=hc j.toNat (by omega)
 refine⟨⟨u,hp⟩,.quiet (u :=.pointer (some (b.add j.toNat))) hst hd ⟨rfl,rfl⟩ ?_ ?_ trivial⟩
 ·simp only[execOp,ho,hv,hi1,Sem.run_bind,dx hT ht he h0 h1,Result.andThen_ok,Sem.run_pure,Nat.eq_of_beq_eq_true hs,Nat.mul_one]
 ·rw[RelV.re]
  unfold RelV
  rw[if_neg (by simp[AV.isAgg,D.isAgg])]
  refine⟨b.add j.toNat,[u],rfl,⟨rfl,hone u hp⟩,fun q v hq=>?_⟩
  have hq0:q=0:=by
   have:=(List.getElem?_eq_some_iff.1 hq).1
   simp at this; omega
  subst hq0
  simp only[List.getElem?_cons_zero,Option.some.injEq]at hq
  subst hq
  rw[eQ,Nat.add_zero,Addr.add_block]
  exact⟨hcell,fun h=>h.elim hX fun h=>h.elim hS fun h=>hI h.2⟩
theorem wB (hT:aq P T) {S:Nat→Prop} {p:Value→Prop} {m:Nat} {x:Operand} {t e:TypeId} (hx:ay env x=some (.d (.jk S p m))) (ht:bh T t=some (.slice e)) :
  an P (.call { callee :=.builtin .len,args := #[x],argTypes := #[t] }) env h n (some (.int .i64 m)) []:=.len rfl hx fun C st σ w a ty hr=>by
 obtain⟨u,hu,hdu⟩:=aS hT ht
 cases hdu
 unfold RelV at hr
 rw[if_neg (by simp[AV.isAgg,D.isAgg])]at hr
 obtain⟨a0,c,hv,_⟩:=hr
 have hv:a.eval x=.slice a0 m c:=by simpa using hv
 simp[Builtin.len_,hv,run_underlying hu]
end
end Go.Eng
namespace Go.Eng
open Go.RowKit
def RegC (S:Nat→Prop) (P:Program) (all:List Oper) (sz:Nat) (l:List Oper) (n:Nat) (env:Env) (h:Upds) (K:Env→Upds→Nat→Prop):Prop :=
 ∀(C:Ctx) (σ:Place) (w:World) (a:Act),(∀b,¬S b→C.B≤b)→aH C (fun r=>r<n) ⟨env,h,n,sz,64⟩ σ w a→∀(Q:Exit→Act→World→Prop),
  (∀env h n σ w a,K env h n→aH C (fun r=>r<n) ⟨env,h,n,sz,64⟩ σ w a→Q .normal a w)→wpListIn (fen C.ro) 0 P all.toArray Q l a w
section
variable {S : Nat → Prop} {P : Program} {T : Tab} {sz : Nat} {all l : List Oper} {n : Nat} {env : Env} {h : Upds} {K : Env → Upds → Nat → Prop} {Q : Exit → St → Prop}
theorem pF {id:Nat} {ops:Array Oper} (h1:RegC S P ops.toList sz ops.toList n env h (RegK Q sz)):SatC S P (.region id ops false) Q ⟨env,h,n,sz,64⟩:=by
 intro C σ w a hS hst
 refine wpIn_region_list ?_
 have:=h1 C σ w a hS hst (Lift C Q) fun env h n σ w a hk hst=>⟨_,σ,hk,hst⟩
 simpa using this
theorem vV (h1:K env h n):RegC S P all sz [] n env h K:=fun C σ w a _ hst Q hQ=>hQ env h n σ w a h1 hst
theorem gI {id:Nat} {c:Code} {st:St} (h1:SatC S P c (BlkQ id Q) st):SatC S P (.block id c) Q st:=by
 intro C σ w a hS hst
 refine wpIn_block (wpIn_mono (h1 C σ w a hS hst) ?_)
 rintro e a' w' ⟨st',σ',h1,h2⟩
 cases e with
 | exit i =>
  simp only[Exit.inBlock]
  simp only[BlkQ]at h1
  by_cases hi:i=id
  ·rw[if_pos hi]at h1 ⊢
   exact⟨st',σ',h1,h2⟩
  ·rw[if_neg hi]at h1 ⊢
   exact⟨st',σ',h1,h2⟩
 | _=>exact⟨st',σ',h1,h2⟩
def Cs (S:Nat→Prop) (P:Program) (c:Code) (Q:Exit→St→Prop) (n:Nat) (st:St):Prop :=
 ∀(C:Ctx) (σ:Place) (w:World) (a:Act),(∀b,¬S b→C.B≤b)→aH C (fun r=>r<st.next) st σ w a→Code.roundsIn (fen C.ro) 0 P c (Lift C Q) n a w
theorem satC_inv.{u} {α:Type u} {c:Code} {st:St} (mk:α→St) (Inv:α→Prop) (μ:α→Nat) (a0:α) (l:cp) (h0:Inv a0)
  (hle:Le l st (mk a0)) (step:∀a,Inv a→SatC S P c (LoopQ Q mk Inv μ a) (mk a)):SatC S P (.loop c) Q st:=by
 have key:∀(m:Nat) (a:α),μ a≤m→Inv a→Cs S P c Q (m+1) (mk a):=by
  intro m
  induction m with
  | zero =>
   intro a ha hi C σ w x hS hst
   rw[roundsIn_succ]
   refine wpIn_mono (step a hi C σ w x hS hst) ?_
   rintro e a' w' ⟨st',σ',h1,h2⟩
   cases e with
   | normal=>obtain⟨a',l',_,hlt,_⟩:=h1; omega
   | _=>exact⟨st',σ',h1,h2⟩
  | succ m ih =>
   intro a ha hi C σ w x hS hst
   rw[roundsIn_succ]
   refine wpIn_mono (step a hi C σ w x hS hst) ?_
   rintro e x' w' ⟨st',σ',h1,h2⟩
   cases e with
   | normal =>
    obtain⟨a',l',hi',hlt,hle'⟩:=h1
    exact ih a' (by omega) hi' C _ w' x' hS (h2.le hle')
   | _=>exact⟨st',σ',h1,h2⟩
 intro C σ w x hS hst
 exact wpIn_loop_rounds (μ a0+1) (key (μ a0) a0 (Nat.le_refl _) h0 C _ w x hS (hst.le hle))
end
end Go.Eng
namespace Go.Eng
open Go.RowKit
theorem fV (w:World) (ad:Addr) (v:Value) (k:Nat) (hk:k≠ad.block):(w.setCell ad v).heap[k]?=w.heap[k]?:=by
 simp only[World.setCell,Array.getElem?_modify]
 rw[if_neg (Ne.symm hk)]
theorem mw (w:World) (ad a:Addr) (v:Value):(w.setCell ad v).frozen? a=w.frozen? a:=by
 by_cases e:a.block=ad.block
 ·unfold World.frozen?
  rw[e]
  simp only[World.setCell,Array.getElem?_modify,if_true]
  cases w.heap[ad.block]? with
  | none=>rfl
  | some o=>cases o <;> rfl
 ·unfold World.frozen?
  rw[fV w ad v _ e]
theorem oC {w:World} {ad:Addr} {u v:Value} (hc:w.cell? ad=some u):Turn w (w.setCell ad v) ad v:=by
 intro a x ha
 have hice:Icy (w.setCell ad v) a.block→Icy w a.block:=fun⟨b,h1,h2⟩=>⟨b,h1,by rw[mw]at h2; exact h2⟩
 by_cases e:a.block=ad.block
 ·refine⟨fun h=>(h e).elim,?_,hice⟩
  unfold World.cell? at ha hc
  rw[e]at ha
  cases ho:w.heap[ad.block]? with
  | none=>rw[ho]at ha; cases ha
  | some o =>
   rw[ho]at ha hc
   cases o with
   | cells c t r =>
    have h1:a.spot.isSome=false:=by
     cases hs:a.spot.isSome with
     | false=>rfl
     | true=>simp[hs]at ha
    have h2:ad.spot.isSome=false:=by
     cases hs:ad.spot.isSome with
     | false=>rfl
     | true=>simp[hs]at hc
    simp only[h1,h2]at ha hc
    have hn:(w.setCell ad v).heap[ad.block]?=some (.cells (c.setIfInBounds ad.off v) t r):=by
     simp only[World.setCell,Array.getElem?_modify,if_true,ho,Option.map_some,h2]
     rfl
    have hcell:(w.setCell ad v).cell? a=(c.setIfInBounds ad.off v)[a.off]?:=by
     unfold World.cell?
     rw[e,hn]
     simp only[h1]
     rfl
    by_cases ho2:a.off=ad.off
    ·refine⟨v,?_,.inr rfl⟩
     rw[hcell,ho2]
     exact Array.getElem?_setIfInBounds_self_of_lt (Array.getElem?_eq_some_iff.1 hc).1
    ·refine⟨x,?_,.inl rfl⟩
     rw[hcell,Array.getElem?_setIfInBounds_ne (Ne.symm ho2)]
     exact ha
   | _=>cases ha
 ·have:(w.setCell ad v).cell? a=some x:=by rw[World.cell?_of_block (fV w ad v _ e)]; exact ha
  exact⟨fun _=>this,⟨x,this,.inl rfl⟩,hice⟩
def jv (S:Nat→Prop) (v:Value) (env env':Env):Prop:=∀i x,lk env' i=some x→lk env i=some x∧x.safe S v
theorem jv.nil {S:Nat→Prop} {v:Value} {env:Env}:jv S v env []:=fun i x h=>by simp[lk]at h
theorem jv.cons {S:Nat→Prop} {v:Value} {env env':Env} {i:Nat} {x:AV} (h:lk env i=some x) (hs:x.safe S v) (h2:jv S v env env'):jv S v env ((i,x)::env'):=fun j y hj=>by
 rw[aQ]at hj
 by_cases e:i=j
 ·subst e; rw[if_pos rfl]at hj; cases hj; exact⟨h,hs⟩
 ·rw[if_neg e]at hj; exact h2 j y hj
def fb (S:Nat→Prop) (v:Value):Upds→Prop
 | []=>True
 | (_,none)::l=>fb S v l
 | (_,some row)::l=>row.safe S v∧fb S v l
theorem fb.out {S:Nat→Prop} {v:Value}:∀ {h:Upds},fb S v h→∀r row,bp h r=some row→row.safe S v
 | [],_,r,row,hr=>by simp[bp,lk]at hr
 | (k,none)::l,hs,r,row,hr=>by
  simp only[bp,aQ]at hr
  by_cases e:k=r
  ·rw[if_pos e]at hr; cases hr
  ·rw[if_neg e]at hr
   exact fb.out (h:=l) hs r row hr
 | (k,some x)::l,hs,r,row,hr=>by
  simp only[bp,aQ]at hr
  by_cases e:k=r
  ·rw[if_pos e]at hr; cases hr; exact hs.1
  ·rw[if_neg e]at hr
   exact fb.out (h:=l) hs.2 r row hr
section
variable {S : Nat → Prop} {P : Program} {T : Tab} {sz : Nat} {all l : List Oper} {n : Nat} {env : Env} {h : Upds} {K : Env → Upds → Nat → Prop} {Q : Exit → St → Prop}
theorem rz (hT:aq P T) {t:TypeId} {x y:Operand} {u v:Value} {ty:TypeId} {pos:String} {af:Array Edge} (env':Env) (hx:ay env x=some (.d (.re true S (.pt (.sc u))))) (hy:ay env y=some (.d (.sc v))) (hs:bK T t (.d (.sc v))=true)
  (he:jv S v env env') (hh:fb S v h) (h1:RegC S P all sz l (n+8) env' h K):RegC S P all sz (⟨none,.store t x y,ty,pos,af,none⟩::l) n env h K:=by
 intro C σ w a hS hst Q hQ
 unfold wpListIn
 rw[if_pos (show Region.wanted (⟨none,.store t x y,ty,pos,af,none⟩:Oper) (yielded all.toArray a.tmps)=true from rfl)]
 obtain⟨hx1,_⟩:=ao hst hx
 obtain⟨hy1,hy2⟩:=RelV.sc.1 (ao hst hy).1
 rw[RelV.re]at hx1
 unfold RelV at hx1
 rw[if_neg (by simp[AV.isAgg,D.isAgg])]at hx1
 obtain⟨ad,c,hv,⟨rfl,hone⟩,hc⟩:=hx1
 have hv:a.eval x=.pointer (some ad):=by simpa using hv
 obtain⟨hcell,hX⟩:=hc 0 u rfl
 rw[Addr.add_zero']at hcell
 obtain⟨tr,htr,hsz,hf,hag⟩:=bK.out hs
 have hsize:tr.size=1:=by have:=hsz; simp[AV.size,D.size]at this; omega
 have hfro:w.frozen? ad=false:=by
  cases hq:w.frozen? ad with
  | false=>rfl
  | true=>exact (hX (.inr (.inr ⟨rfl,ad,rfl,hq⟩))).elim
 have hrun:(execOp a.eval ⟨none,.store t x y,ty,pos,af,none⟩).run P w=.ok .skip (w.setCell ad v):=by
  have hcs:v.cells = #[v]:=by cases v <;> first | rfl | cases hy2
  simp only[execOp,Instr.storeAt,hv,hy1,Instr.sureAddr,storeVar,Sem.run_bind,Sem.run_pure,Result.andThen_ok,(hT t tr htr).run_size,hcs]
  rw[if_neg (by rw[hsize]; simp)]
  simp only[storeCells,Sem.run_bind,Addr.add_zero',run_store P w ad v _ hy2,hcell,hfro,Sem.run_pure,Result.andThen_ok]
  rfl
 have hblk:∃o,w.heap[ad.block]?=some o∧gT o=false:=by
  unfold World.cell? at hcell
  cases ho:w.heap[ad.block]? with
  | none=>rw[ho]at hcell; cases hcell
  | some o =>
   rw[ho]at hcell
   cases o with
   | cells c t r=>exact⟨_,rfl,rfl⟩
   | _=>cases hcell
 obtain⟨o,ho,hnb⟩:=hblk
 have hsafe:aH C (fun r=>r<n) ⟨env',h,n,sz,64⟩ σ w a := { hst with env:=fun i z hi=>hst.env i z (he i z hi).1,envG:=fun i z hi=>hst.envG i z (he i z hi).1 }
 have hturn:=hsafe.turn hS (oC hcell) (fun hb=>hX (.inr (.inl hb))) (fun hb=>hX (.inl hb)) ho hnb (fun k hk=>fV w ad v k hk) (by simp[World.setCell]) rfl rfl rfl (fun i z hi=>(he i z hi).2) (fun r row hr=>fb.out hh r row (by rw[←hr]; exact cg (st:=⟨env',h,n,sz,64⟩) (r:=r)))
 refine⟨fun _ _=>trivial,?_⟩
 rw[fq hrun (fun c hc=>by cases hc)]
 refine h1 C σ _ _ hS ?_ Q hQ
 have hg:=hturn.grow (G':=fun r=>r<n+8) fun r hr=>Nat.lt_add_right 8 hr
 exact { hg with }
end
end Go.Eng
namespace Go.Eng
open Go.RowKit
theorem jx:∀l:List AV,cE l l=true
 | []=>rfl
 | a::l=>by
  cases a <;> simp[cE,AV.isD,jx l]
theorem cw.self {look:Nat→Option Row}:∀l:List AV,(∀v∈l,v.flat=true∧v.lt 64=true)→cw look (rho []) l l
 | [],_=>rfl
 | a::l,h=>by
  refine⟨a,l,rfl,h a (by simp),?_,cw.self l fun v hv=>h v (by simp[hv])⟩
  cases a <;> first | exact⟨rfl,DLe.refl _⟩ | exact AVLe.of_eq (AV.ren_id _).symm
theorem iI:∀(avs:List AV) (k i:Nat) (v:AV),avs[i]?=some v→lk (dD k avs) (k+i)=some v
 | [],k,i,v,h=>by simp at h
 | x::avs,k,0,v,h=>by
  simp only[List.getElem?_cons_zero,Option.some.injEq]at h
  subst h
  simp[dD,aQ]
 | x::avs,k,i+1,v,h=>by
  simp only[dD,aQ]
  rw[if_neg (by omega),show k+(i+1)=k+1+i by omega]
  exact iI avs (k+1) i v (by simpa using h)
theorem FnIs.frame {P:Program} {f:FuncId} {avs:List AV} {h0 h1 rows rows':List (Nat×Row)} {res:AV} (lg:cp) (h:FnIs P f avs h0 res rows) (ha:∀v∈avs,v.flat=true∧v.lt 64=true)
  (hr:RowsIn (fun r=>lk h1 r) [] h0) (hi:gn (rho []) (bZ h0)=true)
  (hle:Le lg ⟨[(0,res.ren (eH [] 64))],cI [] 64 h0 rows++bn h1,72,1,64⟩ ⟨[(0,res)],bn rows',72,1,64⟩):FnIs P f avs h1 res rows':=by
 refine⟨h.1,fun C σ w vs hbs hB hw hσ hro hst=>?_⟩
 have hlen:vs.length=avs.length:=by simpa[inSt]using hst.sz
 have hrow:∀r,(inSt avs h1).row r=lk h1 r:=fun r=>ee h1 r
 have hr':RowsIn (inSt avs h1).row [] h0:=by rw[show (inSt avs h1).row=fun r=>lk h1 r from funext hrow]; exact hr
 have hv:∀(i:Nat) (v:AV) (u:Value),avs[i]?=some v→vs[i]?=some u→RelV σ w ((inSt avs h1).X C.X0 σ) v u:=fun i v u h1 h2=>by
  have h3:=iI avs 0 i v h1
  rw[Nat.zero_add]at h3
  obtain⟨u',h4,h5⟩:=hst.env i v h3
  have:u=u':=by simpa[h2]using h4
  rw[this]; exact h5
 have hg:∀v∈avs,v.within (fun r=>r<64):=fun v hv=>by
  obtain⟨i,hi⟩:=List.mem_iff_getElem?.1 hv
  have h3:=iI avs 0 i v hi
  rw[Nat.zero_add]at h3
  exact hst.envG i v h3
 have hXlt:∀b,(inSt avs h1).X C.X0 σ b→b<w.heap.size:=by
  rintro b (hx | ⟨r,row,c,h3,h4⟩)
  ·have:=(hst.x0 b hx).1; have:=hst.size; omega
  ·exact hst.lt h3 h4
 have hent:=hst.enter (l:=[]) (us:=vs) (fun b=>(inSt avs h1).X C.X0 σ b∧¬ep (σ.via (rho [])) h0 b) hlen.symm hv hg (cw.self avs ha) hr' hi (fun b hb=>⟨hXlt b hb.1,hb.2⟩) (fun b hb=>hb.1) (.inl (jx avs))
 refine (h.2 _ _ w vs rfl rfl rfl rfl rfl hent).mono ?_
 rintro e w' ⟨v,σ2,rfl,h2⟩
 obtain⟨σ',h5,h6,h7⟩:=hst.leave (n:=64) (fun r h1 _ h3=>Nat.not_lt.2 h1 h3) rfl hr' rfl (.inl fun b h1 h2=>⟨h1,h2⟩) h2
 have h8:=h5.spread (env':=[(0,res.ren (eH [] 64))]) (sz':=1) (a':=⟨#[v],[]⟩) (fun i x hx=>by
  simp only[aQ]at hx
  split at hx
  ·rename_i q
   subst q
   simp only[Option.some.injEq]at hx
   subst hx
   exact⟨⟨v,rfl,h6⟩,h7⟩
  ·simp[lk]at hx) rfl trivial
 have h9:=h8.grow (G':=fun r=>r<72) (fun r hr=>by rcases hr with hr | hr <;> (try simp only at hr) <;> omega)
 have h10:aH C (fun r=>r<72) ⟨[(0,res.ren (eH [] 64))],cI [] 64 h0 rows++bn h1,72,1,64⟩ σ' w' ⟨#[v],[]⟩:= { h9 with }
 exact⟨v,_,rfl,h10.le hle⟩
end Go.Eng
namespace Go.Proofs.YtpjiiolnfbfcbaaGreatDoor
open Go.Eng Go.Plain
set_option maxHeartbeats 32000000
set_option maxRecDepth 20000
attribute [local irreducible] WC RegS RegD SeqQ BlkQ ScoQ RegK CutK Sat SatN FnIs LoopQ an OpIs
def yG (S:Nat→Prop) (x:POp):D :=.cons (u8s x.kind) (.cons (i6 x.index) (.cons (.re true S (encB x.data)) .nil))
def eK (S:Nat→Prop) (x:HOp):D :=.cons (i6 x.client) (.cons (i6 x.number) (.cons (i6 x.era) (.cons (yG S x.op) (.cons (i6 x.invoked) (.cons (i6 x.returned) (.cons (fg x.value) (.cons (i6 x.err) .nil)))))))
abbrev dG (S:Nat→Prop) (l:List HOp):Row :=.ds 43 41 false (eK S) l
theorem y9 (S:Nat→Prop):AVLe (.d (.sc nil_)) (.d (.re true S (encB []))):=AVLe.d (fun w X cs h=>by
 obtain⟨rfl,_⟩:=h
 exact .inl ⟨rfl,rfl⟩) rfl
theorem Ae (S:Nat→Prop) (l:List UInt8) (hlen:l.length≤1048576):FnIs Tryz.prog 42 [.d (encB l)] [(2,.lo S)] (.d (.re true S (encB l))) [(2,.lo S)]:=by
 cases l with
 | nil =>
  have hd:decide ((0:Int)=0)=true:=rfl
  refine au aa Tryz.func42 rfl rfl rfl ?_;refine sR<|rC<|zW ?_;refine rC ?_;refine rQ iE ?_;refine rC ?_;refine zO<|sR ?_;refine rC<|zT<|aP ?_
  exact⟨trivial,[],lg ⟨⟨_,rfl,y9 S⟩,rfl,trivial⟩ ⟨zR,trivial⟩⟩
 | cons a l =>
  have h0:=tg (byI (a::l)) (by simp[byI]) (by rw[b6]; exact hlen)
  refine FnIs.new_re (by decide) ?_ rfl rfl rfl (Frz.own rfl) h0
  exact fun _ _ _ _ h=>h
def kV (S:Nat→Prop):Option HOp→D
 | none=>.cons (i6 0) (.cons (i6 0) (.cons (i6 0) (.cons zPOp (.cons (i6 0) (.cons (i6 0) (.cons (.vec 32 1 bE (List.replicate 32 0)) (.cons (i6 0) .nil)))))))
 | some x=>eK S x
theorem x2 (S:Nat→Prop) (l:List HOp):dP [.d (.arr 41 (eK S) l)] [.d (.arr 41 (kV S) (l.map some))]:=⟨⟨AVLe.d (jo rfl fun _ _ _ _ _ h=>h) rfl,fun _ _=>trivial⟩,trivial⟩
theorem wl (S:Nat→Prop) (l:List HOp):bj (.ds 43 41 true (kV S) (l.map some)) (.ds 43 41 true (eK S) l):=
 bj.ds_map (fun o=>match o with | some x=>x | none=>⟨0,0,0,zOp,0,0,[],0⟩) (by rw[List.map_map]; exact (List.map_id _).symm) fun x hx=>by
  obtain⟨y,_,rfl⟩:=List.mem_map.1 hx
  exact fun _ _ _ h=>h
theorem wR (S:Nat→Prop) (l:List (Option HOp)) (hp:0<l.length) (hlen:l.length≤1048576):FnIs Tryz.prog 23 [.d (.arr 41 (kV S) l)] [] (.own 64 0 l.length 41 none) [(64,.ds 43 41 true (kV S) l)]:=by
 have hd:decide ((l.length:Int)=0)=false:=dF (by omega)
 have hcp:l.take (List.replicate l.length (none:Option HOp)).length++(List.replicate l.length (none:Option HOp)).drop l.length=l:=by simp
 have hmin:min l.length (List.replicate l.length (none:Option HOp)).length=l.length:=by simp
 refine au aa Tryz.func23 rfl rfl rfl ?_;refine sR<|rC<|zW ?_;refine rC ?_;refine rQ iE ?_;refine rC ?_;refine zG<|kS<|sR ?_;refine rC ?_;refine rQ iE ?_;refine aJ (de (enc:=kV S) (s:=41) (N:=l.length) aa none rfl rfl rfl rfl rfl rfl rfl hlen rfl) rfl ?_;refine rC<|nR ?_;refine zD ?_;refine aJ (iz (r:=64+8+8+8+8+8+8) (xs:=List.replicate l.length none) (ys:=l) (enc:=kV S) (zs:=l) (m:=l.length) aa rfl rfl rfl rfl (by rw[List.length_replicate]; rfl) rfl rfl hcp hmin) rfl<|nR ?_;refine zD<|zT ?_
 exact⟨trivial,[(64,some _)],lg zV ⟨zR,trivial⟩⟩
theorem wS (S:Nat→Prop) (l:List HOp) (hlen:l.length≤1048576):FnIs Tryz.prog 23 [.d (.arr 41 (eK S) l)] [] (.own 64 0 l.length 41 none) [(64,.ds 43 41 true (eK S) l)]:=by
 cases l with
 | nil =>
  have hd:decide ((0:Int)=0)=true:=rfl
  refine au aa Tryz.func23 rfl rfl rfl ?_;refine sR<|rC<|zW ?_;refine rC ?_;refine rQ iE ?_;refine rC ?_;refine zO<|sR ?_;refine rC<|zT<|aP ?_
  exact⟨trivial,[(64,none)],lg zV ⟨⟨rfl,rfl,rfl⟩,trivial⟩⟩
 | cons a l =>
  generalize hq:a::l=q at *
  have hp:0<q.length:=by rw[←hq]; simp
  have h1:=wR S (q.map some) (by rw[List.length_map]; exact hp) (by rw[List.length_map]; exact hlen)
  rw[List.length_map]at h1
  refine FnIs.args_le (x2 S q) (FnIs.frame [(64,some 64)] h1 (by
   intro v hv; simp at hv; subst hv; exact⟨rfl,rfl⟩) trivial rfl ?_)
  exact lg zV ⟨⟨rfl,rfl,_,rfl,wl S q⟩,trivial⟩
abbrev kq (S:Nat→Prop) (s:RdS) (x:HEv) (s':RdS) (b:Bool):Prop:=FnIs Tryz.prog 17 [.ptr 0 [],.d (aY x)] [(0,cP s 1),(1,dG S s.all),(2,.lo S)] (.bool b) [(0,cP s' 64),(64,dG S s'.all),(2,.lo S)]
theorem pA (S:Nat→Prop) (s:RdS) (x:HEv) (n:Nat) (hs:s.Ok n) (hn:n≤1000000) (k1:x.kind≠1) (k2:x.kind≠2) (k3:x.kind≠3) (c0:Bool) (h0:decide (0≤x.client)=c0):kq S s x { s with read:=s.read+1 } false:=by
 have hr:=hs.read
 have d1:decide (x.kind=1)=false:=dF k1
 have d2:decide (x.kind=2)=false:=dF k2
 have d3:decide (x.kind=3)=false:=dF k3
 have hw:IntKind.i64.wrap (s.read+1)=s.read+1:=aO (by omega) (by omega)
 refine au aa Tryz.func17 rfl rfl rfl ?_;refine sR<|rN ?_;refine rC<|nR ?_;refine zU ?_;refine rQ iM ?_;refine rC<|nR ?_;refine zU ?_;refine rQ iM ?_;refine rQ iD ?_;refine zD ?_;refine bg (aD aa rfl rfl rfl ⟨_,⟨_,⟨rfl,rfl,rfl⟩,rfl⟩,rfl⟩ rfl)<|nR ?_;refine rC ?_;refine rQ iB ?_;refine zD ?_
 cases c0 with
 | false =>
  iterate 3 refine rS ?_
  refine rQ iF ?_;refine rC<|nR ?_;refine rC ?_;refine rQ iB ?_;refine rQ (aV aa rfl rfl rfl) ?_;refine rQ (bD rfl rfl rfl rfl (by kernel_rfl) (by decide) (bq x.value zBk)) ?_;refine rC<|nQ<|zS ?_;refine rC ?_;refine rQ iB ?_;refine zD ?_;refine zG<|sR ?_;refine rC ?_;refine rQ iB ?_;refine zD ?_;refine zG<|sR ?_;refine rC ?_;refine rQ iB ?_;refine zD ?_;refine zG<|sR ?_;refine rC<|zT<|zB ?_
  exact⟨trivial,[(64,some 1)],lg zV ⟨zR,zR,zR,trivial⟩⟩
 | true =>
  refine rO ?_;refine rC ?_;refine rO ?_;refine rQ iB ?_;refine rO ?_;refine rC ?_;refine rQ iT ?_;refine rC<|nR ?_;refine rC ?_;refine rQ iB ?_;refine rQ (aV aa rfl rfl rfl) ?_;refine rQ (bD rfl rfl rfl rfl (by kernel_rfl) (by decide) (bq x.value zBk)) ?_;refine rC<|nQ<|zS ?_;refine rC ?_;refine rQ iB ?_;refine zD ?_;refine zG<|sR ?_;refine rC ?_;refine rQ iB ?_;refine zD ?_;refine zG<|sR ?_;refine rC ?_;refine rQ iB ?_;refine zD ?_;refine zG<|sR ?_;refine rC<|zT<|zB ?_
  exact⟨trivial,[(64,some 1)],lg zV ⟨zR,zR,zR,trivial⟩⟩
theorem pC (S:Nat→Prop) (s:RdS) (x:HEv) (n:Nat) (hs:s.Ok n) (hn:n≤1000000) (k3:x.kind=3) (c0 c1 c2 c3:Bool) (h0:decide (0≤x.client)=c0) (h1:decide (x.client=0)=c1) (h2:decide (x.op=zOp)=c2) (h3:decide (x.value=zBk)=c3):kq S s x ⟨cu,s.number,s.era+1,s.read+1,s.all⟩ (c1&&c2&&c3&&decide (x.err=0)):=by
 have hr:=hs.read
 have he:=hs.era
 have d1:decide (x.kind=1)=false:=dF (by omega)
 have d2:decide (x.kind=2)=false:=dF (by omega)
 have d3:decide (x.kind=3)=true:=dT k3
 have hw:IntKind.i64.wrap (s.read+1)=s.read+1:=aO (by omega) (by omega)
 have hw2:IntKind.i64.wrap (s.era+1)=s.era+1:=aO (by omega) (by omega)
 refine au aa Tryz.func17 rfl rfl rfl ?_;refine sR<|rN ?_;refine rC<|nR ?_;refine zU ?_;refine rQ iM ?_;refine rC<|nR ?_;refine zU ?_;refine rQ iM ?_;refine rQ iD ?_;refine zD ?_;refine bg (aD aa rfl rfl rfl ⟨_,⟨_,⟨rfl,rfl,rfl⟩,rfl⟩,rfl⟩ rfl)<|nR ?_;refine rC ?_;refine rQ iB ?_;refine zD ?_
 cases c0 with
 | false =>
  have e1:c1=false:=by rw[←h1]; exact dF (by have:=of_decide_eq_false h0; omega)
  subst e1
  iterate 3 refine rS ?_
  refine rQ iF ?_;refine rC<|nR ?_;refine rC ?_;refine rQ iB ?_;refine rQ (aV aa rfl rfl rfl) ?_;refine rQ (bD rfl rfl rfl rfl (by kernel_rfl) (by decide) (bq x.value zBk)) ?_;refine rC<|nQ<|zS ?_;refine rC ?_;refine rQ iB ?_;refine zD ?_;refine zG<|sR ?_;refine rC ?_;refine rQ iB ?_;refine zD ?_;refine zG<|sR ?_;refine rC ?_;refine rQ iB ?_;refine zD ?_;refine zI<|sR ?_;refine zU ?_;refine rQ (iV aa rfl rfl rfl) ?_;refine bB rfl (jq (enc:=i6) (s:=1) (L:=8) aa (0:Int) rfl rfl rfl rfl rfl rfl rfl rfl ⟨_,⟨_,⟨rfl,rfl,rfl⟩,rfl⟩,rfl⟩) rfl rfl<|nR ?_;refine zU ?_;refine rQ iM ?_;refine rQ iD ?_;refine zD ?_;refine bg (aD aa rfl rfl rfl ⟨_,⟨_,⟨rfl,rfl,rfl⟩,rfl⟩,rfl⟩ rfl)<|nR ?_;refine rC ?_;refine rQ iB ?_;refine zD ?_
  iterate 3 refine rS ?_
  refine rQ iF ?_;refine rC ?_;refine rT ?_;refine rQ iG ?_;refine rC ?_;iterate 3 refine rT ?_
  refine rQ iG ?_;refine rC<|zT<|zB ?_
  exact⟨trivial,[(64,some 1)],lg zV ⟨zR,zR,zR,trivial⟩⟩
 | true =>
  refine rO ?_;refine rC ?_;refine rO ?_;refine rQ iB ?_;refine rO ?_;refine rC ?_;refine rQ iT ?_;refine rC<|nR ?_;refine rC ?_;refine rQ iB ?_;refine rQ (aV aa rfl rfl rfl) ?_;refine rQ (bD rfl rfl rfl rfl (by kernel_rfl) (by decide) (bq x.value zBk)) ?_;refine rC<|nQ<|zS ?_;refine rC ?_;refine rQ iB ?_;refine zD ?_;refine zG<|sR ?_;refine rC ?_;refine rQ iB ?_;refine zD ?_;refine zG<|sR ?_;refine rC ?_;refine rQ iB ?_;refine zD ?_;refine zI<|sR ?_;refine zU ?_;refine rQ (iV aa rfl rfl rfl) ?_;refine bB rfl (jq (enc:=i6) (s:=1) (L:=8) aa (0:Int) rfl rfl rfl rfl rfl rfl rfl rfl ⟨_,⟨_,⟨rfl,rfl,rfl⟩,rfl⟩,rfl⟩) rfl rfl<|nR ?_;refine zU ?_;refine rQ iM ?_;refine rQ iD ?_;refine zD ?_;refine bg (aD aa rfl rfl rfl ⟨_,⟨_,⟨rfl,rfl,rfl⟩,rfl⟩,rfl⟩ rfl)<|nR ?_;refine rC ?_;refine rQ iB ?_;refine zD ?_
  cases c1 with
  | false =>
   iterate 3 refine rS ?_
   refine rQ iF ?_;refine rC ?_;refine rT ?_;refine rQ iG ?_;refine rC ?_;iterate 3 refine rT ?_
   refine rQ iG ?_;refine rC<|zT<|zB ?_
   exact⟨trivial,[(64,some 1)],lg zV ⟨zR,zR,zR,trivial⟩⟩
  | true =>
   refine rO ?_;refine rC ?_;refine rO ?_;refine rQ iB ?_;refine rO ?_;refine rQ (ak (gx x.op) rfl rfl (aj ab) (.inl rfl) (fun _=>rfl)) ?_;refine rQ iT ?_;refine rC ?_
   cases c2 with
   | false =>
    refine rS ?_;refine rQ iF ?_;refine rC ?_;iterate 3 refine rT ?_
    refine rQ iG ?_;refine rC<|zT<|zB ?_
    exact⟨trivial,[(64,some 1)],lg zV ⟨zR,zR,zR,trivial⟩⟩
   | true =>
    refine rO ?_;refine rC ?_;refine rQ iT ?_;refine rC ?_
    cases c3 with
    | false =>
     iterate 3 refine rS ?_
     refine rQ iF ?_;refine rC<|zT<|zB ?_
     exact⟨trivial,[(64,some 1)],lg zV ⟨zR,zR,zR,trivial⟩⟩
    | true =>
     refine rO ?_;refine rC ?_;refine rO ?_;refine rQ iB ?_;refine rO ?_;refine rC ?_;refine rQ iT ?_;refine rC<|zT<|zB ?_
     exact⟨trivial,[(64,some 1)],lg zV ⟨zR,zR,zR,trivial⟩⟩
end Go.Proofs.YtpjiiolnfbfcbaaGreatDoor
