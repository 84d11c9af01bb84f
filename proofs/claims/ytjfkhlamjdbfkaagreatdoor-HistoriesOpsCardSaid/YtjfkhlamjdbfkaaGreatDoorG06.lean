/- Texts of the proof: H26, H30, H31, H32, P46, P47a, P47, P48, HW, H33, H34, Eng111, Eng112, Eng113, Eng114, Eng115, Eng116, Eng117, Eng118, Eng119, Eng103, HF1, HF6, HF7, HF8, HF9, HF10, HX, Eng120, Eng121, H36, PO, HO. -/
import Derived.Test.YtjfkhlamjdbfkaaGreatDoorG05
import Derived.Test.YtjfkhlamjdbfkaaGreatDoorG03
import Derived.Test.YtjfkhlamjdbfkaaGreatDoorG04
import Derived.Test.YtjfkhlamjdbfkaaGreatDoorG02

set_option linter.unusedVariables false
set_option linter.unusedSimpArgs false
set_option linter.unusedSectionVars false
set_option maxRecDepth 10000

namespace Go.Proofs.YtjfkhlamjdbfkaaGreatDoor
open Go.Eng Go.Plain
set_option maxHeartbeats 32000000
set_option maxRecDepth 20000
set_option linter.unusedVariables false
attribute [local irreducible] WC RegS RegD SeqQ BlkQ ScoQ RegK CutK Sat SatN FnIs LoopQ aq OpIs
abbrev hpR (l:List HEv) (n:Nat) (e:Int):AV :=.tup (.acons (.d (fB l)) (.acons (.int .i64 n) (.acons (.d (i6 e)) .anil)))
structure z1 (s0:List UInt8) (rd:RdS) (h:List HEv) (s:List UInt8):Prop where
 rok:rd.Ok h.length
 len:h.length≤8192
 sl:s.length≤1048576
 eq:dh s rd h (h.length+1)=dh s0 rd0 [] 1
theorem gu (s0:List UInt8) (hl:s0.length≤1048576):FnIs Tryz.prog 24 [.d (strD s0)] [] (hpR (dh s0 rd0 [] 1).1 (dh s0 rd0 [] 1).2.1 (dh s0 rd0 [] 1).2.2) []:=by
 have h0:decide ((1048576:Int)<(s0.length:Int))=false:=dF (by omega)
 refine aw aa Tryz.func24 rfl rfl rfl ?_;refine sR<|zU<|zW ?_;refine rC ?_;refine rQ (eD aa rfl rfl) ?_;refine rC ?_;refine zG<|kS<|sR ?_;refine rQ iS ?_;refine rN ?_;refine rC<|nR ?_;refine zU<|zW ?_;refine rC<|zP ?_
 refine wc_inv (fun q:RdS×List HEv×List UInt8=>⟨[(0,.d (strD q.2.2)),(2,.own 66 0 q.2.1.length 38 none),(3,.int .i64 ((q.2.1.length+1:Nat):Int)),(6,fnT 64)],[(64,some (cC q.1 65)),(65,some (db q.1.all)),(66,some (.ds 48 38 false bx q.2.1))],72,Tryz.f24.ntmps,64⟩) (fun q=>z1 s0 q.1 q.2.1 q.2.2) (fun q=>q.2.2.length) (rd0,[],s0) [(64,some 120),(65,none),(66,none)] ⟨gm,Nat.zero_le _,hl,rfl⟩
  (lg zi ⟨⟨rfl,rfl,_,rfl,pV⟩,⟨rfl,rfl,rfl⟩,⟨rfl,rfl,rfl⟩,trivial⟩) ?_
 rintro⟨rd,h,s⟩ hs
 simp only at hs
 refine bH ?_
 have hsl:=hs.sl
 have hle:=hs.len
 have hn:h.length≤1000000:=by omega
 have hal:h.length+1≤1048576:=by omega
 have hw1:IntKind.i64.wrap (((h.length+1:Nat):Int)+1)=((h.length+1+1:Nat):Int):=aP (by omega) (by omega)
 by_cases hz:s=[]
 ·have e0:(!decide (s=[]))=false:=by rw[dT hz]; rfl
  have he:=hs.eq
  rw[hz,qi]at he
  rw[←he]
  refine qR<|rC ?_;refine rQ (de (a:=s) (b:=[]) aa rfl rfl rfl) ?_;refine zG<|cz<|eZ<|gq<|fj<|aK<|sR ?_;refine rC ?_;refine bE (env':=[(58,_)]) (h':=[]) 66 _ rfl ⟨⟨_,rfl,Frz.own rfl⟩,trivial⟩ trivial ?_;refine rQ (am (nA h (by omega)) rfl rfl (aj ab) (.inl rfl) (fun _=>rfl)) ?_;refine zU<|zT ?_
  exact⟨trivial,[],lf⟩
 have e0:(!decide (s=[]))=true:=by rw[dF hz]; rfl
 have hcut:=jP (l:=s) (c:=10) (by omega)
 have he:=hs.eq
 cases hc:cutL s 10 with
 | none =>
  rw[kf _ _ _ hz hc]at he
  rw[←he]
  rw[cutA,hc]at hcut
  simp only at hcut
  obtain⟨y,hev,_⟩:=oV s hsl
  refine qR<|rC ?_;refine rQ (de (a:=s) (b:=[]) aa rfl rfl rfl) ?_;refine zI<|zQ<|zS ?_;refine rC ?_;refine rQ (am hcut rfl rfl (aj (aj ab)) (.inl rfl) (fun _=>rfl)) ?_;iterate 7 refine rC ?_
  refine nR<|rC ?_;refine rQ (am hev rfl rfl (aj ab) (.inl rfl) (fun _=>rfl)) ?_;refine zU ?_;refine rN ?_;refine rW ?_;refine rC<|nQ<|zS ?_;refine zU ?_
  iterate 2 refine rT ?_
  refine rQ iU ?_;refine rC ?_;refine zO<|sR ?_;iterate 4 refine rC ?_
  refine zT<|zB<|zB<|b8<|zB ?_
  exact⟨trivial,[],lg ⟨⟨_,rfl,AVLe.tup1 (cp _ _) rfl⟩,rfl,trivial⟩ trivial⟩
 | some tr =>
  obtain⟨t,r⟩:=tr
  rw[cutA,hc]at hcut
  simp only at hcut
  rw[gr _ _ _ hz hc]at he
  have hlc:=(ct hc).1
  have hlen:s.length=t.length+1+r.length:=by rw[hlc]; simp; omega
  obtain⟨y,hev,hy⟩:=oV t (by omega)
  cases hep:evP t with
  | none =>
   rw[hep]at hev he
   simp only[Option.isSome]at hev
   simp only at he
   rw[←he]
   refine qR<|rC ?_;refine rQ (de (a:=s) (b:=[]) aa rfl rfl rfl) ?_;refine zI<|zQ<|zS ?_;refine rC ?_;refine rQ (am hcut rfl rfl (aj (aj ab)) (.inl rfl) (fun _=>rfl)) ?_;iterate 7 refine rC ?_
   refine nR<|rC ?_;refine rQ (am hev rfl rfl (aj ab) (.inl rfl) (fun _=>rfl)) ?_;refine zU ?_;refine rN ?_;refine rW ?_;refine rC<|nQ<|zS ?_;refine zU ?_;refine rP ?_;refine rC ?_;refine rP ?_;refine rC ?_;refine rQ iG ?_;refine rC ?_;refine zO<|sR ?_;iterate 4 refine rC ?_
   refine zT<|zB<|zB<|b8<|zB ?_
   exact⟨trivial,[],lg ⟨⟨_,rfl,AVLe.tup1 (cp _ _) rfl⟩,rfl,trivial⟩ trivial⟩
  | some x =>
   have:=hy x hep
   subst this
   obtain⟨x,rfl⟩:∃x,x=y:=⟨y,rfl⟩
   rw[hep]at hev he
   simp only[Option.isSome]at hev
   simp only at he
   have hxw:=(uA hep).1
   by_cases h8:8192<h.length+1
   ·have e8:decide ((8192:Int)<((h.length+1:Nat):Int))=true:=dT (by omega)
    rw[if_pos h8]at he
    rw[←he]
    refine qR<|rC ?_;refine rQ (de (a:=s) (b:=[]) aa rfl rfl rfl) ?_;refine zI<|zQ<|zS ?_;refine rC ?_;refine rQ (am hcut rfl rfl (aj (aj ab)) (.inl rfl) (fun _=>rfl)) ?_;iterate 7 refine rC ?_
    refine nR<|rC ?_;refine rQ (am hev rfl rfl (aj ab) (.inl rfl) (fun _=>rfl)) ?_;refine zU ?_;refine rN ?_;refine rW ?_;refine rC<|nQ<|zS ?_;refine zU ?_;refine rP ?_;refine rC ?_;refine rP ?_;refine rC ?_;refine rQ iG ?_;refine rC ?_;refine zJ<|sR ?_;refine zU ?_;refine zI<|sR ?_;iterate 4 refine rC ?_
    refine zT<|zB<|zB<|b8<|zB ?_
    exact⟨trivial,[],lg ⟨⟨_,rfl,AVLe.tup1 (cp _ _) rfl⟩,rfl,trivial⟩ trivial⟩
   ·have e8:decide ((8192:Int)<((h.length+1:Nat):Int))=false:=dF (by omega)
    rw[if_neg h8]at he
    have hdx:x.op.data.length≤1048576:=by
     rcases hxw.2.2 with h | h | h
     ·rw[h.2.2.1]; decide
     ·have:=h.2.2.2.2; omega
     ·rw[h.2.1]; decide
    cases hb:(aZ rd x).2 with
    | false =>
     have eb:(!(aZ rd x).2)=true:=by rw[hb]; rfl
     rw[hb]at he
     simp only[Bool.false_eq_true,if_false]at he
     rw[←he]
     refine qR<|rC ?_;refine rQ (de (a:=s) (b:=[]) aa rfl rfl rfl) ?_;refine zI<|zQ<|zS ?_;refine rC ?_;refine rQ (am hcut rfl rfl (aj (aj ab)) (.inl rfl) (fun _=>rfl)) ?_;iterate 7 refine rC ?_
     refine nR<|rC ?_;refine rQ (am hev rfl rfl (aj ab) (.inl rfl) (fun _=>rfl)) ?_;refine zU ?_;refine rN ?_;refine rW ?_;refine rC<|nQ<|zS ?_;refine zU ?_;refine rP ?_;refine rC ?_;refine rP ?_;refine rC ?_;refine rQ iG ?_;refine rC ?_;refine zJ<|sR ?_;refine zU ?_;refine zG<|sR ?_;refine rC ?_;refine rQ iM ?_;refine bh rfl (nF [(0,some 64),(1,some 65)] (nf rd x h.length hs.rok hn) rfl rfl rfl rfl (bj rfl rfl (aj ab)) ⟨zH,zH,trivial⟩ rfl rfl (.inl rfl) rfl rfl) rfl rfl ?_;refine zD ?_;refine zI<|sR ?_;iterate 4 refine rC ?_
     refine zT<|zB<|zB<|b8<|zB ?_
     exact⟨trivial,[],lg ⟨⟨_,rfl,AVLe.tup1 (cp _ _) rfl⟩,rfl,trivial⟩ trivial⟩
    | true =>
     have eb:(!(aZ rd x).2)=false:=by rw[hb]; rfl
     rw[hb,if_pos rfl]at he
     have hl1:h.length+1=(h++[x]).length:=by simp
     have hl2:((h.length+1+1:Nat):Int)=(((h++[x]).length+1:Nat):Int):=by simp
     refine qR<|rC ?_;refine rQ (de (a:=s) (b:=[]) aa rfl rfl rfl) ?_;refine zI<|zQ<|zS ?_;refine rC ?_;refine rQ (am hcut rfl rfl (aj (aj ab)) (.inl rfl) (fun _=>rfl)) ?_;iterate 7 refine rC ?_
     refine nR<|rC ?_;refine rQ (am hev rfl rfl (aj ab) (.inl rfl) (fun _=>rfl)) ?_;refine zU ?_;refine rN ?_;refine rW ?_;refine rC<|nQ<|zS ?_;refine zU ?_;refine rP ?_;refine rC ?_;refine rP ?_;refine rC ?_;refine rQ iG ?_;refine rC ?_;refine zJ<|sR ?_;refine zU ?_;refine zG<|sR ?_;refine rC ?_;refine rQ iM ?_;refine bh rfl (nF [(0,some 64),(1,some 65)] (nf rd x h.length hs.rok hn) rfl rfl rfl rfl (bj rfl rfl (aj ab)) ⟨zH,zH,trivial⟩ rfl rfl (.inl rfl) rfl rfl) rfl rfl ?_;refine zD ?_;refine zG<|aS<|zC<|sR ?_;refine rC ?_;refine rQ iM ?_;refine rQ (am (nq x hdx) rfl rfl (aj ab) (.inl rfl) (fun _=>rfl)) ?_;refine aG (aD (s:=38) aa rfl rfl rfl rfl rfl rfl rfl rfl) rfl ?_;refine aU (aM (enc:=bx) (s:=38) (xs:=h) aa x rfl rfl rfl rfl rfl rfl rfl rfl rfl hal rfl) rfl ?_;refine rC<|nS<|ai ?_;refine zD<|ay<|zC<|ai ?_;refine rC ?_;refine rQ (eK (m:=((h.length+1+1:Nat):Int)) aa rfl rfl hw1) ?_;refine rC<|ay ?_
     exact aL ((aZ rd x).1,h++[x],r) [(64,some 64),(65,some _),(66,some _)] ⟨by rw[←hl1]; exact hs.rok.next x,by rw[←hl1]; omega,show r.length≤1048576 by omega,by rw[←hl1]; exact he⟩ (by show r.length<s.length; omega) (lg ⟨zE,rfl,⟨_,rfl,AVLe.of_eq (congrArg (fun n=>AV.own _ 0 n 38 none) hl1)⟩,rfl,⟨_,rfl,AVLe.of_eq (congrArg (fun n=>AV.int .i64 n) hl2)⟩,rfl,zE,rfl,trivial⟩ ⟨zR,zR,zR,trivial⟩)
abbrev rhpR (l:List HEv) (n:Nat) (e:Int):AV :=.tup (.acons (.d (encH l)) (.acons (.int .i64 n) (.acons (.int .i64 e) .anil)))
structure RPInv (W:List (List UInt8)) (h:List HEv) (i:Nat):Prop where
 len:h.length≤i
 i8:i≤8192
 iw:i<W.length
 eq:nz (W.drop i) i h=nz W 0 []
def uH (x:HEv):D :=.cons (u8s x.kind) (.cons (i6 x.client) (.cons (.cons (u8s x.op.kind) (.cons (i6 x.op.index) (.cons (.sc (.slice none 0 0)) .nil))) (.cons (ff x.value) (.cons (i6 x.err) .nil))))
theorem uG {x:HEv} (h:x.op.data=[]):DLe (uH x) (bx x):=by
 obtain⟨k,c,⟨ok,oi,od⟩,v,e⟩:=x
 simp only at h
 subst h
 rintro w X cs ⟨c1,r1,rfl,h1,c2,r2,rfl,h2,c3,r3,rfl,h3,h4⟩
 refine⟨c1,_,rfl,h1,c2,_,rfl,h2,c3,_,rfl,?_,h4⟩
 obtain⟨d1,q1,rfl,g1,d2,q2,rfl,g2,d3,q3,rfl,⟨rfl,_⟩,rfl⟩:=h3
 exact⟨d1,_,rfl,g1,d2,_,rfl,g2,[.slice none 0 0],[],rfl,.inl ⟨rfl,rfl⟩,rfl⟩
theorem sE {l:List HEv} (h:∀x∈l,x.op.data=[]):DLe (.arr 38 uH l) (encH l):=gZ (g:=id) (by simp) fun x hx=>uG (h x hx)
def b7:List UInt8:=List.replicate 32 7
def bU:List HEv:=[⟨1,0,⟨1,1,[]⟩,zBk,0⟩,⟨1,1,⟨3,0,[]⟩,zBk,0⟩,⟨2,0,zOp,b7,0⟩,⟨3,0,zOp,zBk,0⟩,⟨1,0,⟨1,1,[]⟩,zBk,0⟩]
theorem rL:FnIs Tryz.prog 18 [] [] (.d (encH bU)) []:=by
 refine aw aa Tryz.func18 rfl rfl rfl ?_;refine sR<|rC<|nR ?_;refine rQ iS ?_;refine rN ?_;refine rW<|nR ?_;refine rN<|nQ<|sR ?_;refine rC<|zP ?_
 refine wc_inv (fun i:Nat=>⟨[(1,.ptr 64 []),(2,.ptr 65 []),(3,.int .i64 (i:Nat))],[(64,some (.box 36 (.d (.cons (u8s 1) (.cons (i6 1) (.cons (.sc (.slice none 0 0)) .nil)))))),(65,some (.box 38 (.d (.vec 32 1 bt (dU 7 32 i)))))],120,Tryz.f18.ntmps,64⟩) (fun i=>i≤32) (fun i=>32-i) 0 [(64,some _),(65,some _)] (Nat.zero_le _)
  (lg zj ⟨zR,zR,trivial⟩) ?_
 intro i hi
 refine bH ?_
 by_cases hlt:i<32
 ·have c1:decide ((i:Int)<32)=true:=dT (by omega)
  have hg:(dU 7 32 i)[((i:Int)).toNat]?=some 0:=by rw[Int.toNat_natCast]; exact jH hlt
  have hs:=jG (d:=7) hlt
  refine qR<|zD ?_;refine zI<|zQ<|br<|ai ?_;refine rC ?_;refine rQ (aC aa (fun K hk=>⟨by omega,by omega,hk⟩)) ?_;refine aR (aA aa rfl rfl rfl ⟨_,⟨_,⟨rfl,_,(7:Int),hg,⟨rfl,rfl,rfl⟩,rfl⟩,rfl⟩,rfl⟩ rfl)<|ay<|zC<|ai ?_;refine rC ?_;refine rQ iD ?_;refine rC<|ay ?_
  exact aL (i+1) [(64,some 64),(65,some 65)] hlt (by omega) (lg zj ⟨zR,⟨rfl,rfl,_,rfl,aY.of_eq (congrArg (fun l=>Row.box 38 (.d (.vec 32 1 bt l))) hs)⟩,trivial⟩)
 ·have c1:decide ((i:Int)<32)=false:=dF (by omega)
  have he:i=32:=by omega
  subst he
  have hE:dU 7 32 32=byI b7:=jI 7 32
  rw[hE]
  refine qR<|zD ?_;refine zJ<|zX<|sR ?_;refine rQ iM ?_;iterate 3 refine rQ iS ?_
  refine rQ iM ?_;iterate 2 refine rQ iS ?_
  refine rQ iM ?_;refine rQ iS ?_;refine rQ (aq.frozen (aD (s:=38) aa rfl rfl rfl rfl rfl rfl rfl rfl) (Frz.litsN (enc:=uH) bU rfl (fun _ _=>rfl))) ?_;refine rC<|zT ?_
  exact⟨trivial,[],lg ⟨⟨_,rfl,AVLe.d (sE (by decide)) rfl⟩,rfl,trivial⟩ trivial⟩
def t1L:List UInt8:=[114,101,116,117,114,110,32,48,32,111,107,10]
def t2L:List UInt8:=[105,110,118,111,107,101,32,56,32,102,108,117,115,104,10]
def preL:List UInt8:=[105,110,118,111,107,101,32,48,32,114,101,97,100,32,49,10,105,110,118,111,107,101,32,49,32,102,108,117,115,104,10,114,101,116,117,114,110,32,48,32,111,107,32]
def ow:List UInt8:=[10,99,114,97,115,104,10,105,110,118,111,107,101,32,48,32,114,101,97,100,32,49,10]
def w07:Nat→List UInt8
 | 0=>[]
 | n+1=>w07 n++[48,55]
theorem kI:∀n,(w07 n).length=2*n
 | 0=>rfl
 | n+1=>by rw[w07,List.length_append,kI n]; simp; omega
def e3:List Int:=[18,18,5]
theorem sd (S:List HEv) (O:List HOp) (o0 o1 o2:HOp) (EE:List (List HEv)) (E0 E1 P1:List HEv) (T:List UInt8)
  (hS:FnIs Tryz.prog 18 [] [] (.d (encH S)) []) (h1S:1≤S.length)
  (hc:FnIs Tryz.prog 19 [.d (encH S)] [] (.tup (.acons (.int .i64 0) (.acons (.int .i64 0) .anil))) [])
  (hc1:FnIs Tryz.prog 19 [.d (encH (S.drop 1))] [] (.tup (.acons (.int .i64 1) (.acons (.int .i64 18) .anil))) [])
  (ho:FnIs Tryz.prog 5 [.d (encH S)] [] (.tup (.acons (.d (wL O)) (.acons (.int .i64 0) .anil))) [])
  (he:FnIs Tryz.prog 20 [.d (encH S)] [] (.tup (.acons (.d (.arx 1 fB EE)) (.acons (.int .i64 0) .anil))) [])
  (hp:FnIs Tryz.prog 21 [.d (encH S),.int .i64 1] [] (.tup (.acons (.d (fB P1)) (.acons (.int .i64 0) .anil))) [])
  (ht:FnIs Tryz.prog 22 [.d (encH S)] [] (.tup (.acons (.d (strD T)) (.acons (.int .i64 0) .anil))) [])
  (hO:O.length=3) (hO0:O[((0:Int)).toNat]?=some o0) (hO1:O[((1:Int)).toNat]?=some o1) (hO2:O[((2:Int)).toNat]?=some o2)
  (hEE:EE.length=2) (hE0:EE[((0:Int)).toNat]?=some E0) (hE1:EE[((1:Int)).toNat]?=some E1) (hl0:E0.length=3) (hl1:E1.length=1) (hlp:P1.length=2)
  (hro:FnIs Tryz.prog 7 [.d (encH S)] [] (.d (dO O)) [])
  (hso:FnIs Tryz.prog 6 [.d (dO O),.d (dO O)] [] (.d (i6 1)) [])
  (r0:o0.returned=2) (r1:o1.returned = -1) (r2:o2.number=1) (r3:o2.era=1) (r4:o2.invoked=4)
  (hb01:FnIs Tryz.prog 23 [.d (cg o0),.d (cg o1)] [] (.bool false) [])
  (hb12:FnIs Tryz.prog 23 [.d (cg o1),.d (cg o2)] [] (.bool true) [])
  (hb20:FnIs Tryz.prog 23 [.d (cg o2),.d (cg o0)] [] (.bool false) [])
  (hp1:FnIs Tryz.prog 24 [.d (strD t1L)] [] (hpR [] 1 18) [])
  (hp2:FnIs Tryz.prog 24 [.d (strD t2L)] [] (hpR [] 1 18) [])
  (hp3:FnIs Tryz.prog 24 [.d (strD bu)] [] (hpR [] 1 5) [])
  (hT:T=preL++w07 32++ow):FnIs Tryz.prog 9 [] [] (.bool true) []:=by
 have f1:(!decide ((O.length:Int)=3))=false:=by rw[dT (by omega)]; rfl
 have f2:(!decide ((EE.length:Int)=2))=false:=by rw[dT (by omega)]; rfl
 have f3:(!decide ((E0.length:Int)=3))=false:=by rw[dT (by omega)]; rfl
 have f4:(!decide ((E1.length:Int)=1))=false:=by rw[dT (by omega)]; rfl
 have f5:(!decide ((P1.length:Int)=2))=false:=by rw[dT (by omega)]; rfl
 have g0:(!decide (o0.returned=2))=false:=by rw[dT r0]; rfl
 have g1:(!decide (o1.returned = -1))=false:=by rw[dT r1]; rfl
 have g2:(!decide (o2.number=1))=false:=by rw[dT r2]; rfl
 have g3:(!decide (o2.era=1))=false:=by rw[dT r3]; rfl
 have g4:(!decide (o2.invoked=4))=false:=by rw[dT r4]; rfl
 refine aw aa Tryz.func9 rfl rfl rfl ?_;refine sR<|rC<|nR ?_;refine rQ (am hS rfl rfl ab (.inl rfl) (fun _=>rfl)) ?_;refine rC<|nR ?_;refine rC ?_;refine rQ (am hc rfl rfl (aj ab) (.inl rfl) (fun _=>rfl)) ?_;iterate 5 refine rC ?_
 refine nR<|rC ?_;refine rQ (dD (m:=1) aa rfl rfl rfl rfl rfl h1S) ?_;refine rQ (am hc1 rfl rfl (aj ab) (.inl rfl) (fun _=>rfl)) ?_
 iterate 5 refine rC ?_
 refine nR<|rC ?_;refine rQ (am ho rfl rfl (aj ab) (.inl rfl) (fun _=>rfl)) ?_;iterate 5 refine rC ?_
 refine nR<|rC ?_;refine rQ (am he rfl rfl (aj ab) (.inl rfl) (fun _=>rfl)) ?_;iterate 5 refine rC ?_
 refine nR<|rC ?_;refine rQ (am hp rfl rfl (aj (aj ab)) (.inl rfl) (fun _=>rfl)) ?_;iterate 5 refine rC ?_
 refine nR<|rC ?_;refine rQ (am ht rfl rfl (aj ab) (.inl rfl) (fun _=>rfl)) ?_;iterate 5 refine rC ?_
 refine zW<|zU ?_;refine rP ?_;refine rC ?_;refine rP ?_;refine rC ?_;refine rQ iG ?_;refine rC ?_;refine rP ?_;refine rC ?_;refine rP ?_;refine rC ?_;refine rQ iG ?_;refine rC ?_;refine rP ?_;refine rC ?_;refine rP ?_;refine rC ?_;refine rQ iG ?_;refine rC ?_;refine rP ?_;refine rC ?_;refine rP ?_;refine rC ?_;refine rQ iG ?_;refine rC ?_;refine rP ?_;refine rC ?_;refine rP ?_;refine rC ?_;refine rQ iG ?_;refine rC ?_;refine rP ?_;refine rC ?_;refine rP ?_;refine rC ?_;refine rQ iG ?_;refine rC ?_;refine rP ?_;refine rC ?_;refine rP ?_;refine rC ?_;refine rQ iG ?_;refine rC ?_;refine rP ?_;refine rC ?_;refine rP ?_;refine rQ (ej aa rfl rfl) ?_;refine rP ?_;refine rC ?_;refine rQ iG ?_;refine rC ?_;refine rO ?_;refine rC ?_;refine rO ?_;refine rQ (ej aa rfl rfl) ?_;refine rO ?_;refine rC ?_;refine rQ iF ?_;refine rC ?_;refine rO ?_;refine rC ?_;refine rO ?_;refine rQ (bS aa rfl rfl rfl rfl rfl (by omega) hE0) ?_;refine rO ?_;refine rQ iL ?_;refine rO ?_;refine rQ (ej aa rfl rfl) ?_;refine rO ?_;refine rC ?_;refine rQ iF ?_;refine rC ?_;refine rO ?_;refine rC ?_;refine rO ?_;refine rQ (bS aa rfl rfl rfl rfl rfl (by omega) hE1) ?_;refine rO ?_;refine rQ iL ?_;refine rO ?_;refine rQ (ej aa rfl rfl) ?_;refine rO ?_;refine rC ?_;refine rQ iF ?_;refine rC ?_;refine rO ?_;refine rC ?_;refine rO ?_;refine rQ (ej aa rfl rfl) ?_;refine rO ?_;refine rC ?_;refine rQ iF ?_;refine zG<|kS<|qR ?_;refine zD ?_;refine rQ (am hro rfl rfl (aj ab) (.inl rfl) (fun _=>rfl)) ?_;refine rQ (am hso rfl rfl (m5 rfl trivial DLe.arx_arr (aj ab)) (.inl rfl) (fun _=>rfl)) ?_;refine zD ?_;refine rP ?_;refine rC ?_;refine rP ?_;refine rQ (bS (xs:=O) aa rfl rfl rfl rfl rfl (by omega) hO0) ?_;refine rP ?_;refine rC ?_;refine rP ?_;refine rQ iL ?_;refine rP ?_;refine rC ?_;refine rQ iG ?_;refine rC ?_;refine rO ?_;refine rC ?_;refine rO ?_;refine rQ (bS (xs:=O) aa rfl rfl rfl rfl rfl (by omega) hO1) ?_;refine rO ?_;refine rC ?_;refine rO ?_;refine rQ iL ?_;refine rO ?_;refine rC ?_;refine rQ iF ?_;refine rC ?_;refine rO ?_;refine rC ?_;refine rO ?_;refine rQ (bS (xs:=O) aa rfl rfl rfl rfl rfl (by omega) hO2) ?_;refine rO ?_;refine rC ?_;refine rO ?_;refine rQ iL ?_;refine rO ?_;refine rC ?_;refine rQ iF ?_;refine rC ?_;refine rO ?_;refine rC ?_;refine rO ?_;refine rQ (bS (xs:=O) aa rfl rfl rfl rfl rfl (by omega) hO2) ?_;refine rO ?_;refine rC ?_;refine rO ?_;refine rQ iL ?_;refine rO ?_;refine rC ?_;refine rQ iF ?_;refine rC ?_;refine rO ?_;refine rC ?_;refine rO ?_;refine rQ (bS (xs:=O) aa rfl rfl rfl rfl rfl (by omega) hO2) ?_;refine rO ?_;refine rC ?_;refine rO ?_;refine rQ iL ?_;refine rO ?_;refine rC ?_;refine rQ iF ?_;refine zG<|kS ?_;iterate 2 refine bD ?_
 refine aH (by kernel_rfl) ?_;refine dC [6] [] ?_;refine dQ [152] [] (bS (xs:=O) aa rfl rfl rfl rfl rfl (by omega) hO0) ?_;refine dQ [153] [] iL ?_;refine dC [6] [] ?_;refine dQ [155] [] (bS (xs:=O) aa rfl rfl rfl rfl rfl (by omega) hO1) ?_;refine dQ [156] [] iL ?_;refine dQ [154,157] [] (am hb01 rfl rfl (aj (aj ab)) (.inl rfl) (fun _=>rfl)) ?_;refine dC [158] [] ?_;refine ak [159,6] [] rfl rfl rfl rfl (aC aa (fun K hk=>hk)) ?_;refine ak [159,160] [] rfl rfl rfl rfl (bS (xs:=O) aa rfl rfl rfl rfl rfl (by omega) hO1) ?_;refine ak [159,161] [] rfl rfl rfl rfl (fR aa rfl rfl) ?_;refine ak [159,6] [] rfl rfl rfl rfl (aC aa (fun K hk=>hk)) ?_;refine ak [159,163] [] rfl rfl rfl rfl (bS (xs:=O) aa rfl rfl rfl rfl rfl (by omega) hO2) ?_;refine ak [159,164] [] rfl rfl rfl rfl (fR aa rfl rfl) ?_;refine ak [159,162,165] [] rfl rfl rfl rfl (am hb12 rfl rfl (aj (aj ab)) (.inl rfl) (fun _=>rfl)) ?_;refine ak [159,166] [] rfl rfl rfl rfl (aC aa (fun K hk=>hk)) ?_;refine dQ [159,167] [] iG ?_;refine dC [168] [] ?_;refine ak [169,6] [] rfl rfl rfl rfl (aC aa (fun K hk=>hk)) ?_;refine ak [169,170] [] rfl rfl rfl rfl (bS (xs:=O) aa rfl rfl rfl rfl rfl (by omega) hO2) ?_;refine ak [169,171] [] rfl rfl rfl rfl (fR aa rfl rfl) ?_;refine ak [169,6] [] rfl rfl rfl rfl (aC aa (fun K hk=>hk)) ?_;refine ak [169,173] [] rfl rfl rfl rfl (bS (xs:=O) aa rfl rfl rfl rfl rfl (by omega) hO0) ?_;refine ak [169,174] [] rfl rfl rfl rfl (fR aa rfl rfl) ?_;refine ak [169,172,175] [] rfl rfl rfl rfl (am hb20 rfl rfl (aj (aj ab)) (.inl rfl) (fun _=>rfl)) ?_;refine dQ [169,176] [] iG ?_;refine aB (by kernel_rfl)<|aK ?_;refine wG<|kS<|sR ?_;refine rC<|zW ?_;refine rC<|zP ?_
 refine wc_inv (fun i:Nat=>⟨[(12,.d (strD T)),(14,.d (strD (w07 i))),(15,.int .i64 (i:Nat))],[],2000,Tryz.f9.ntmps,64⟩) (fun i=>i≤32) (fun i=>32-i) 0 [] (Nat.zero_le _)
  (lg zj trivial) ?_
 intro i hi
 refine bH ?_
 clear hS hc hc1 ho he hp ht hro hso hb01 hb12 hb20
 by_cases hlt:i<32
 ·have c1:decide ((i:Int)<32)=true:=dT (by omega)
  refine qR<|zD ?_;refine zI<|zQ<|br<|ai ?_;refine rC ?_;refine rQ (aT (a:=w07 i) (b:=[48,55]) rfl rfl (by rw[kI]; simp; omega) rfl) ?_;refine rC<|ay<|zC<|ai ?_;refine rC ?_;refine rQ iD ?_;refine rC<|ay ?_
  exact aL (i+1) [] hlt (by omega) (lg zj trivial)
 ·have c1:decide ((i:Int)<32)=false:=dF (by omega)
  have hie:i=32:=by omega
  subst hie
  refine qR<|zD ?_;refine zJ<|zX<|qR ?_;refine rQ (aq.frozen (aD (s:=1) aa rfl rfl rfl rfl rfl rfl rfl rfl) (Frz.litsN (enc:=strD) [t1L,t2L,bu] rfl (fun _ _=>rfl))) ?_;refine rQ iE ?_;refine rC<|zP ?_
  refine wc_inv (fun i:Nat=>⟨[(12,.d (strD T)),(14,.d (strD (w07 32))),(184,.d (.arr 1 strD [t1L,t2L,bu])),(185,.int .i64 3),(186,.int .i64 (i:Nat))],[],3000,Tryz.f9.ntmps,64⟩) (fun i=>i≤3) (fun i=>3-i) 0 [] (Nat.zero_le _)
   (lg zh trivial) ?_
  intro i hi
  refine bH ?_
  match i,hi with
  | 0,_ =>
   have hgx:[t1L,t2L,bu][(((0:Nat):Int)).toNat]?=some t1L:=rfl
   have hpx:=hp1
   refine sR<|rC<|nQ ?_;refine wV<|zQ<|zS ?_;refine rC ?_;refine rQ (aI aa rfl rfl rfl rfl rfl (by omega) hgx) ?_;refine rQ iL ?_;refine zD<|nR ?_;refine rC ?_;refine rQ (am hpx rfl rfl (aj ab) (.inl rfl) (fun _=>rfl)) ?_;iterate 7 refine rC ?_
   refine nR<|rC ?_;refine rQ (jT aa rfl rfl rfl rfl rfl) ?_;refine rC ?_;refine rQ (aC aa (fun K hk=>⟨by decide,by decide,_,rfl,hk⟩)) ?_;refine zD ?_;refine rP ?_;refine rC ?_;refine rP ?_;refine rC ?_;refine rQ iG ?_;refine zJ<|aS<|zC<|ai ?_;refine rQ iD ?_;refine rC<|ay ?_
   exact aL 1 [] (by decide) (by decide) (lg zh trivial)
  | 1,_ =>
   have hgx:[t1L,t2L,bu][(((1:Nat):Int)).toNat]?=some t2L:=rfl
   have hpx:=hp2
   refine sR<|rC<|nQ ?_;refine wV<|zQ<|zS ?_;refine rC ?_;refine rQ (aI aa rfl rfl rfl rfl rfl (by omega) hgx) ?_;refine rQ iL ?_;refine zD<|nR ?_;refine rC ?_;refine rQ (am hpx rfl rfl (aj ab) (.inl rfl) (fun _=>rfl)) ?_;iterate 7 refine rC ?_
   refine nR<|rC ?_;refine rQ (jT aa rfl rfl rfl rfl rfl) ?_;refine rC ?_;refine rQ (aC aa (fun K hk=>⟨by decide,by decide,_,rfl,hk⟩)) ?_;refine zD ?_;refine rP ?_;refine rC ?_;refine rP ?_;refine rC ?_;refine rQ iG ?_;refine zJ<|aS<|zC<|ai ?_;refine rQ iD ?_;refine rC<|ay ?_
   exact aL 2 [] (by decide) (by decide) (lg zh trivial)
  | 2,_ =>
   have hgx:[t1L,t2L,bu][(((2:Nat):Int)).toNat]?=some bu:=rfl
   have hpx:=hp3
   refine sR<|rC<|nQ ?_;refine wV<|zQ<|zS ?_;refine rC ?_;refine rQ (aI aa rfl rfl rfl rfl rfl (by omega) hgx) ?_;refine rQ iL ?_;refine zD<|nR ?_;refine rC ?_;refine rQ (am hpx rfl rfl (aj ab) (.inl rfl) (fun _=>rfl)) ?_;iterate 7 refine rC ?_
   refine nR<|rC ?_;refine rQ (jT aa rfl rfl rfl rfl rfl) ?_;refine rC ?_;refine rQ (aC aa (fun K hk=>⟨by decide,by decide,_,rfl,hk⟩)) ?_;refine zD ?_;refine rP ?_;refine rC ?_;refine rP ?_;refine rC ?_;refine rQ iG ?_;refine zJ<|aS<|zC<|ai ?_;refine rQ iD ?_;refine rC<|ay ?_
   exact aL 3 [] (by decide) (by decide) (lg zh trivial)
  | 3,_ =>
   have dT:decide (T=preL++w07 32++ow)=true:=dT hT
   refine sR<|rC<|nQ ?_;refine wG<|zX<|sR ?_;refine zD ?_;refine rQ (aT (a:=preL) (b:=w07 32) rfl rfl (by rw[kI]; decide) rfl) ?_;refine rQ (aT (a:=preL++w07 32) (b:=ow) rfl rfl (by rw[List.length_append,kI]; decide) rfl) ?_;refine rQ (bK (a:=T) (b:=preL++w07 32++ow) aa rfl rfl rfl) ?_;refine rC<|zT ?_
   exact⟨trivial,[],lg ⟨⟨_,rfl,AVLe.of_eq (congrArg AV.bool dT)⟩,rfl,trivial⟩ trivial⟩
  | i+4,hi=>exact absurd hi (by omega)
end Go.Proofs.YtjfkhlamjdbfkaaGreatDoor
namespace Go.Proofs.YtjfkhlamjdbfkaaGreatDoor
open Go.Eng Go.Plain
set_option maxHeartbeats 32000000
set_option maxRecDepth 20000
set_option maxRecDepth 50000
def sOps:List HOp:=[⟨0,0,0,⟨1,1,[]⟩,0,2,b7,0⟩,⟨1,0,0,⟨3,0,[]⟩,1,-1,zBk,0⟩,⟨0,1,1,⟨1,1,[]⟩,4,-1,zBk,0⟩]
theorem eP:chkH bU=(0,0):=by decide+kernel
theorem oc:chkH (bU.drop 1)=(1,18):=by decide+kernel
theorem pD:opsH bU=sOps:=by decide+kernel
theorem oa:opsR bU=sOps:=by decide+kernel
theorem ob:jf bU [] []=[bU.take 3,bU.drop 4]:=by decide+kernel
theorem n9:bU.filter (cT 1)=[⟨1,1,⟨3,0,[]⟩,zBk,0⟩,⟨3,0,zOp,zBk,0⟩]:=by decide+kernel
theorem j3:cG bU=preL++w07 32++ow:=by decide+kernel
theorem jq:∀x∈bU,x.Ok∧x.op.data.length≤64:=by
 have h:∀x∈bU,(0≤x.kind∧x.kind≤255)∧(-9223372036854775808≤x.client∧x.client≤9223372036854775807)∧(0≤x.op.kind∧x.op.kind≤255)∧(-9223372036854775808≤x.op.index∧x.op.index≤9223372036854775807)∧x.value.length=32∧(-9223372036854775808≤x.err∧x.err≤9223372036854775807)∧x.op.data.length≤64:=by decide+kernel
 intro x hx
 obtain⟨h1,h2,h3,h4,h5,h6,h7⟩:=h x hx
 exact⟨⟨h1,h2,⟨h3,h4⟩,h5,h6⟩,h7⟩
theorem zp (x:HEv) (hw:WfE x) (hl:bI x++[10]=t1L) (ht:(aZ rd0 x).2=false):dh t1L rd0 [] 1=([],1,18):=by
 have hc:cutL t1L 10=some (bI x,[]):=by rw[←hl]; exact g7 _ (mG hw)
 rw[gr _ _ _ (by decide) hc,oX hw]
 simp only
 rw[if_neg (by decide),ht]
 rfl
theorem zo (x:HEv) (hw:WfE x) (hl:bI x++[10]=t2L) (ht:(aZ rd0 x).2=false):dh t2L rd0 [] 1=([],1,18):=by
 have hc:cutL t2L 10=some (bI x,[]):=by rw[←hl]; exact g7 _ (mG hw)
 rw[gr _ _ _ (by decide) hc,oX hw]
 simp only
 rw[if_neg (by decide),ht]
 rfl
theorem zn:dh bu rd0 [] 1=([],1,5):=kf _ _ _ (by decide) (by decide)
theorem qb:FnIs Tryz.prog 9 [] [] (.bool true) []:=by
 have hc:=ed bU (by decide)
 rw[eP]at hc
 have hc1:=ed (bU.drop 1) (by decide)
 rw[oc]at hc1
 have ho:=vZ bU (by decide) (by rw[show (rdH bU).all=sOps by decide+kernel]; decide)
 rw[pD,eP]at ho
 have he:=um bU (by decide) (fun x hx=>Nat.le_trans (jq x hx).2 (by decide))
 rw[eP,if_pos rfl,ob]at he
 have hp:=uj bU 1 (by decide) (fun x hx=>Nat.le_trans (jq x hx).2 (by decide))
 rw[show gb 1 bU=0 by rw[gb,eP]; decide,if_pos rfl,n9]at hp
 have ht:=ui bU (by decide) (fun _=>by decide) (fun _=>jq) (fun _=>by rw[j3]; decide)
 rw[eP,if_pos rfl]at ht
 have hro:=qI bU (by decide)
 rw[oa]at hro
 have hso:=k9 sOps sOps (by decide)
 rw[if_pos rfl]at hso
 have hb01:=jU ⟨0,0,0,⟨1,1,[]⟩,0,2,b7,0⟩ ⟨1,0,0,⟨3,0,[]⟩,1,-1,zBk,0⟩
 have hb12:=jU ⟨1,0,0,⟨3,0,[]⟩,1,-1,zBk,0⟩ ⟨0,1,1,⟨1,1,[]⟩,4,-1,zBk,0⟩
 have hb20:=jU ⟨0,1,1,⟨1,1,[]⟩,4,-1,zBk,0⟩ ⟨0,0,0,⟨1,1,[]⟩,0,2,b7,0⟩
 have hp1:=gu t1L (by decide)
 rw[zp ⟨2,0,zOp,zBk,0⟩ ⟨by decide,by decide,.inr (.inr ⟨rfl,rfl,rfl,rfl,fun h=>absurd rfl h⟩)⟩ (by decide+kernel) (by decide+kernel)]at hp1
 have hp2:=gu t2L (by decide)
 rw[zo ⟨1,8,⟨3,0,[]⟩,zBk,0⟩ ⟨by decide,by decide,.inr (.inl ⟨rfl,rfl,rfl,⟨by decide,by decide⟩,by decide⟩)⟩ (by decide+kernel) (by decide+kernel)]at hp2
 have hp3:=gu bu (by decide)
 rw[zn]at hp3
 exact sd bU sOps _ _ _ _ _ _ _ (cG bU) rL (by decide) hc hc1 ho he hp ht rfl rfl rfl rfl rfl rfl rfl rfl rfl rfl hro hso rfl rfl rfl rfl rfl hb01 hb12 hb20 hp1 hp2 hp3 j3
end Go.Proofs.YtjfkhlamjdbfkaaGreatDoor
namespace Go.Proofs.YtjfkhlamjdbfkaaGreatDoor
open Go.Eng Go.Plain
set_option maxHeartbeats 32000000
set_option maxRecDepth 20000
attribute [local irreducible] WC RegS RegD SeqQ BlkQ ScoQ RegK CutK Sat SatN FnIs LoopQ aq OpIs
abbrev zy (q:List PQ):D :=.arr 3 encQ q
def encPP (l:List (List PQ)):D :=.cons (.arr 1 zy l) .nil
def y7 (q:List PQ):List POp:=(q.take 3).map qOf
def pOf (l:List (List PQ)):List (List POp):=(l.take 3).map y7
end Go.Proofs.YtjfkhlamjdbfkaaGreatDoor
namespace Go.Proofs.YtjfkhlamjdbfkaaGreatDoor
open Go.Eng Go.Plain
set_option maxHeartbeats 32000000
set_option maxRecDepth 20000
def tx1:List UInt8:=[99,108,105,101,110,116,10,114,101,97,100,32,51,10,119,114,105,116,101,32,49,32,48,48,102,102,10,99,108,105,101,110,116,10,102,108,117,115,104,10]
def tx2:List UInt8:=[99,108,105,101,110,116,10,111,112,32,51,32,55,32,45,10,119,114,105,116,101,32,48,32,45,10,111,112,32,49,32,49,32,48,97,10]
def list2:List (List POp):=[[⟨3,7,[]⟩,⟨2,0,[]⟩,⟨1,1,[10]⟩]]
abbrev vD:Bool×POp:=(true,⟨3,7,[]⟩)
abbrev vE:Bool×POp:=(true,⟨2,0,[]⟩)
abbrev vF:Bool×POp:=(false,⟨1,1,[10]⟩)
abbrev Ae:List (List (Bool×POp)):=[[vD,vE,vF]]
def px0:List UInt8:=[99,108,105,101,110,116,10,114,101,97,100,32,51]
def px1:List UInt8:=[99,108,105,101,110,116,10,111,112,32,49,32,51,32,45,10]
def px2:List UInt8:=[114,101,97,100,32,51,10]
def px3:List UInt8:=[99,108,105,101,110,116,10,114,101,97,100,32,48,51,10]
def okB (o:POp):Bool:=decide (0≤o.kind)&&decide (o.kind≤255)&&decide (-9223372036854775808≤o.index)&&decide (o.index≤9223372036854775807)
def trip:List (List POp):=y6++[[⟨2,1,List.replicate 32 0⟩]]
end Go.Proofs.YtjfkhlamjdbfkaaGreatDoor
namespace Go.Proofs.YtjfkhlamjdbfkaaGreatDoor
open Go.Eng Go.Plain
set_option maxHeartbeats 32000000
set_option maxRecDepth 20000
attribute [local irreducible] WC RegS RegD SeqQ BlkQ ScoQ RegK CutK Sat SatN FnIs LoopQ aq OpIs
abbrev vW:Bool×POp:=(false,⟨2,1,List.replicate 32 0⟩)
abbrev vW1:List (Bool×POp):=[vW]
end Go.Proofs.YtjfkhlamjdbfkaaGreatDoor
namespace Go.Proofs.YtjfkhlamjdbfkaaGreatDoor
open Go.Eng Go.Plain
set_option maxHeartbeats 32000000
set_option maxRecDepth 20000
set_option linter.unusedVariables false
attribute [local irreducible] WC RegS RegD SeqQ BlkQ ScoQ RegK CutK Sat SatN FnIs LoopQ aq OpIs
def one (b:Bool):Int:=if b=true then 1 else 0
theorem wR (x:PQ):(qOf x).Ok:=by
 have h1:=x.kind.toNat_lt
 have h2:=x.index.toNat_lt
 have h3:=x.data.toNat_lt
 unfold qOf
 split
 ·exact⟨⟨by show (0:Int)≤1; decide,by show (1:Int)≤(255:Int); decide⟩,⟨by show-9223372036854775808≤((x.index.toNat % 22:Nat):Int)-1; omega,by show ((x.index.toNat % 22:Nat):Int)-1≤9223372036854775807; omega⟩⟩
 split
 ·exact⟨⟨by show (0:Int)≤2; decide,by show (2:Int)≤(255:Int); decide⟩,⟨by show-9223372036854775808≤((x.index.toNat % 22:Nat):Int)-1; omega,by show ((x.index.toNat % 22:Nat):Int)-1≤9223372036854775807; omega⟩⟩
 split
 ·exact⟨⟨by show (0:Int)≤((x.data.toNat % 4:Nat):Int); omega,by show ((x.data.toNat % 4:Nat):Int)≤255; omega⟩,⟨by show-9223372036854775808≤(x.index.toNat:Int)-100; omega,by show (x.index.toNat:Int)-100≤9223372036854775807; omega⟩⟩
 ·exact⟨⟨by decide,by decide⟩,⟨by decide,by decide⟩⟩
theorem tB (x:PQ):(qOf x).data.length≤32:=by
 unfold qOf
 split
 ·simp
 split
 ·simp
 split
 ·simp; omega
 ·simp
end Go.Proofs.YtjfkhlamjdbfkaaGreatDoor
namespace Go.Proofs.YtjfkhlamjdbfkaaGreatDoor
open Go.Eng Go.Plain
set_option maxHeartbeats 32000000
set_option maxRecDepth 20000
set_option linter.unusedVariables false
theorem vp {s:RdS} {n:Nat} (hs:s.Ok n) {x:HEv} (hx:x.Ok) (h:(aZ s x).2=true):WfE x:=by
 refine⟨hx.client.1,hx.client.2,?_⟩
 rcases jp h with ⟨k,hi⟩ | ⟨k,hi⟩ | ⟨k,hi⟩
 ·obtain⟨_,_,_,h1,h2,h3⟩:=lD hi
  exact .inr (.inl ⟨k,h2,h3,hx.op,h1⟩)
 ·obtain⟨_,_,h1,h2,b,o,_,_,_,_,h3⟩:=la hs hi
  refine .inr (.inr ⟨k,h1,h2,hx.value,fun hz=>?_⟩)
  rcases h3 with h3 | ⟨_,h3⟩
  ·exact absurd h3 hz
  ·exact h3
 ·simp only[jQ,Bool.and_eq_true,decide_eq_true_eq]at hi
  exact .inl ⟨k,hi.1.1.1,hi.1.1.2,hi.1.2,hi.2⟩
theorem ur:∀(h:List HEv) (s:RdS) (n i:Nat),s.Ok n→(∀x∈h,x.Ok)→(goS s h i).2<0→∀x∈h,WfE x
 | [],s,n,i,_,_,_,x,hx=>by cases hx
 | y::h,s,n,i,hs,hok,hg,x,hx=>by
  rw[ut]at hg
  cases hb:(aZ s y).2 with
  | false=>rw[hb]at hg; simp at hg; omega
  | true =>
   rw[hb,if_pos rfl]at hg
   rcases List.mem_cons.1 hx with rfl | hx
   ·exact vp hs (hok x (by simp)) hb
   ·exact ur h _ (n+1) (i+1) (hs.next y) (fun z hz=>hok z (by simp[hz])) hg x hx
theorem xu {h:List HEv} (hc:(chkH h).2=0):h.length≤8192∧(goS rd0 h 0).2<0∧(chkH h).1=0:=by
 unfold chkH at hc ⊢
 by_cases h8:8192<h.length
 ·rw[if_pos h8]at hc; cases hc
 ·rw[if_neg h8]at hc ⊢
  by_cases h0:0≤(goS rd0 h 0).2
  ·rw[if_pos h0]at hc; cases hc
  ·rw[if_neg h0]
   exact⟨by omega,by omega,rfl⟩
theorem xr {h:List HEv} (hok:∀x∈h,x.Ok) (hc:(chkH h).2=0):∀x∈h,WfE x:=by
 obtain⟨_,h2,_⟩:=xu hc
 exact ur h rd0 0 0 gm hok h2
theorem vk {x:HEv} (h:WfE x):x.op.data.length≤64:=by
 rcases h.2.2 with h | h | h
 ·rw[h.2.2.1]; decide
 ·exact h.2.2.2.2
 ·rw[h.2.1]; decide
def eB (h:List HEv):Prop:=∀i x,h[i]?=some x→fitB (h.take i) x=true
theorem l9:eB []:=fun i x h=>by simp at h
theorem eB.snoc {h:List HEv} {x:HEv} (H:eB h) (hx:fitB h x=true):eB (h++[x]):=by
 intro i y hy
 by_cases hi:i<h.length
 ·rw[List.getElem?_append_left hi]at hy
  rw[List.take_append_of_le_length (by omega)]
  exact H i y hy
 ·have hlt:=(List.getElem?_eq_some_iff.1 hy).1
  have he:i=h.length:=by simp at hlt; omega
  subst he
  rw[List.getElem?_append_right (by omega),Nat.sub_self]at hy
  simp at hy
  subst hy
  rw[List.take_left']
  ·exact hx
  ·rfl
theorem ou {h:List HEv} (H:eB h):∀(n i:Nat),mw h n i=(0,0)
 | 0,i=>rfl
 | n+1,i=>by
  rw[mw]
  cases hx:h[i]? with
  | none=>rfl
  | some x =>
   simp only
   rw[H i x hx,if_pos rfl]
   exact ou H n (i+1)
theorem wv {h:List HEv} (H:eB h) (hl:h.length≤8192):chkH h=(0,0):=by
 rw[uQ,rchk,if_neg (by omega)]
 exact ou H _ _
theorem uC:∀e∈je,kn4 e=true:=by decide
theorem wh (y:HEv) (x:XE):kn4 (errX y x)=true:=by
 unfold errX
 split
 ·rfl
 ·obtain⟨e,he⟩:∃e,je[x.what.toNat % 8]?=some e:=⟨_,List.getElem?_eq_getElem (Nat.mod_lt _ (by decide))⟩
  rw[he]
  exact uC e (List.mem_of_getElem? he)
theorem tR (x:XE):(opX x).data.length≤64:=by
 unfold opX
 split
 ·simp
 split
 ·simp
 split
 ·simp
 ·have:=tB ⟨8,x.data,x.what⟩; omega
theorem wZ (x:XE):(opX x).Ok:=by
 have h2:=x.data.toNat_lt
 unfold opX
 split
 ·exact⟨⟨by show (0:Int)≤1; decide,by show (1:Int)≤(255:Int); decide⟩,⟨by show-9223372036854775808≤((x.data.toNat/4 % 3:Nat):Int); omega,by show ((x.data.toNat/4 % 3:Nat):Int)≤9223372036854775807; omega⟩⟩
 split
 ·exact⟨⟨by show (0:Int)≤2; decide,by show (2:Int)≤(255:Int); decide⟩,⟨by show-9223372036854775808≤((x.data.toNat/4 % 3:Nat):Int); omega,by show ((x.data.toNat/4 % 3:Nat):Int)≤9223372036854775807; omega⟩⟩
 split
 ·exact⟨⟨by decide,by decide⟩,⟨by decide,by decide⟩⟩
 ·exact wR _
theorem zop_ok':zOp.Ok:=⟨by decide,by decide⟩
theorem rK {out:List HEv} (x:XE) (H:eB out) (hok:∀y∈out,y.Ok):eB (bV out x)∧∀y∈bV out x,y.Ok:=by
 have app:∀(e:HEv),fitB out e=true→e.Ok→eB (out++[e])∧∀y∈out++[e],y.Ok:=fun e h1 h2=>⟨H.snoc h1,fun y hy=>by
  rcases List.mem_append.1 hy with hy | hy
  ·exact hok y hy
  ·rw[List.mem_singleton.1 hy]; exact h2⟩
 unfold bV
 split
 ·exact app _ rfl ⟨show (0:Int)≤3∧(3:Int)≤255 by decide,show (-9223372036854775808:Int)≤0∧(0:Int)≤9223372036854775807 by decide,zop_ok',rfl,show (-9223372036854775808:Int)≤0∧(0:Int)≤9223372036854775807 by decide⟩
 ·split
  ·rename_i hp
   refine app _ ?_ ⟨show (0:Int)≤1∧(1:Int)≤255 by decide,show (-9223372036854775808:Int)≤((x.who.toNat % 4 % 3:Nat):Int)∧((x.who.toNat % 4 % 3:Nat):Int)≤9223372036854775807 by omega,wZ x,rfl,show (-9223372036854775808:Int)≤0∧(0:Int)≤9223372036854775807 by decide⟩
   rw[fitB,if_pos rfl,fit1]
   simp only[Bool.and_eq_true,decide_eq_true_eq]
   exact⟨⟨⟨⟨⟨by omega,by omega⟩,hp⟩,tR x⟩,trivial⟩,trivial⟩
  ·rename_i hp
   split
   ·exact⟨H,hok⟩
   ·rename_i y hy
    have hk:=wh y x
    have hkr:=fe hk
    refine app _ ?_ ⟨show (0:Int)≤2∧(2:Int)≤255 by decide,show (-9223372036854775808:Int)≤((x.who.toNat % 4 % 3:Nat):Int)∧((x.who.toNat % 4 % 3:Nat):Int)≤9223372036854775807 by omega,zop_ok',?_,?_⟩
    ·rw[fitB,if_neg (show ¬(2:Int)=1 by decide),if_pos rfl,fit2]
     simp only[Bool.and_eq_true,Bool.or_eq_true,decide_eq_true_eq,Bool.not_eq_true',decide_eq_false_iff_not]
     refine⟨⟨⟨⟨⟨by omega,by omega⟩,hp⟩,trivial⟩,hk⟩,?_⟩
     rw[hy]
     simp only[Bool.and_eq_true,decide_eq_true_eq]
     by_cases hc:y.op.kind=1∧errX y x=0
     ·exact .inl hc
     ·exact .inr (by rw[if_neg hc])
    ·show (if y.op.kind=1∧errX y x=0 then List.replicate 32 (blkB x.data) else zBk).length=32
     split
     ·simp
     ·rfl
    ·show-9223372036854775808≤errX y x∧errX y x≤9223372036854775807
     omega
theorem jF:∀(l:List XE) (out:List HEv),eB out→(∀y∈out,y.Ok)→eB (l.foldl bV out)∧∀y∈l.foldl bV out,y.Ok
 | [],out,H,hok=>⟨H,hok⟩
 | x::l,out,H,hok=>by
  obtain⟨h1,h2⟩:=rK x H hok
  exact jF l _ h1 h2
theorem wa (l:List XE):eB (hOf l):=(jF _ [] l9 (fun y hy=>by cases hy)).1
theorem uo (l:List XE):∀y∈hOf l,y.Ok:=(jF _ [] l9 (fun y hy=>by cases hy)).2
theorem qV (l:List XE):(hOf l).length≤24:=by
 have:=jE (l.take 24) []
 rw[List.length_take]at this
 unfold hOf
 simp at this
 omega
theorem qW (l:List XE):chkH (hOf l)=(0,0):=wv (wa l) (by have:=qV l; omega)
theorem xi (l:List XE):∀y∈hOf l,WfE y:=xr (uo l) (by rw[qW])
end Go.Proofs.YtjfkhlamjdbfkaaGreatDoor
namespace Go.Proofs.YtjfkhlamjdbfkaaGreatDoor
open Go.Eng Go.Plain
set_option maxHeartbeats 32000000
set_option maxRecDepth 20000
set_option linter.unusedVariables false
attribute [local irreducible] WC RegS RegD SeqQ BlkQ ScoQ RegK CutK Sat SatN FnIs LoopQ aq OpIs
theorem xf (l:List XE):FnIs Tryz.prog 4 [.d (kj l)] [] (.d (encH (hOf l))) []:=
 (v6 l).freeze_out 64 _ rfl (Frz.own rfl) trivial
structure HOk (h:List HEv):Prop where
 len:h.length≤24
 chk:chkH h=(0,0)
 ok:∀x∈h,x.Ok
 wf:∀x∈h,WfE x
theorem uk (l:List XE):HOk (hOf l):=⟨qV l,qW l,uo l,xi l⟩
end Go.Proofs.YtjfkhlamjdbfkaaGreatDoor
namespace Go.Eng
open Go.RowKit
section
variable {P : Program} {T : Tab} {sz : Nat} {env : Env} {h : Upds} {n : Nat}
end
end Go.Eng
namespace Go.Eng
open Go.RowKit
section
variable {P : Program} {T : Tab} {f : FuncId} {avs avs' : List AV} {h0 rows : List (Nat × Row)} {res res' : AV} {env : Env} {h : Upds} {n : Nat}
def Ak (res:AV) (row:Row):Prop:=(∀(σ:Place) (w:World) (X X':Nat→Prop) (v:Value),RelV σ w X res v→RelV σ w X' res v)∧(∀(σ:Place) (w:World) (X X':Nat→Prop),bf σ w X 64 row→bf σ w X' 64 row)∧res.within (fun r=>r<72)∧row.within (fun r=>r<72)
def AV.free:AV→Bool
 | .d (.sc _)=>true
 | .own .. => true
 | .sl _=>true
 | .anil=>true
 | .acons a r=>bif a.free then r.free else false
 | .tup q=>q.free
 | _=>false
theorem Rel.free {σ:Place} {w w':World} {X X':Nat→Prop}:∀(a:AV) (m:Bool) (cs:List Value),a.free=true→Rel σ w X a m cs→Rel σ w' X' a m cs:=by
 intro a
 induction a with
 | d x =>
  intro m cs hf h
  cases x with
  | sc v=>exact h
  | _=>simp[AV.free]at hf
 | anil=>intro m cs _ h; exact h
 | acons a r iha ihr =>
  intro m cs hf h
  have hf2:a.free=true∧r.free=true:=by
   simp only[AV.free]at hf
   cases ha:a.free with
   | false=>rw[ha]at hf; cases hf
   | true=>rw[ha]at hf; exact⟨rfl,hf⟩
  cases m with
  | false =>
   obtain⟨c1,c2,rfl,h1,h2⟩:=h
   exact⟨c1,c2,rfl,iha _ _ hf2.1 h1,ihr _ _ hf2.2 h2⟩
  | true =>
   obtain⟨v,us,rfl,h1,h2⟩:=h
   refine⟨v,us,rfl,?_,ihr _ _ hf2.2 h2⟩
   split at h1 <;> rename_i hag
   ·obtain⟨c,rfl,hc⟩:=h1
    rw[if_pos hag]
    exact⟨c,rfl,iha _ _ hf2.1 hc⟩
   ·rw[if_neg hag]
    exact iha _ _ hf2.1 h1
 | own=>intro m cs _ h; exact h
 | sl n=>intro m cs _ h; exact h
 | tup q ih =>
  rintro m cs hf ⟨vs,rfl,h1⟩
  exact⟨vs,rfl,ih _ _ hf h1⟩
 | _=>intro m cs hf; simp[AV.free]at hf
theorem RelV.free {σ:Place} {w w':World} {X X':Nat→Prop} {a:AV} {v:Value} (hf:a.free=true) (h:RelV σ w X a v):RelV σ w' X' a v:=by
 unfold RelV at h ⊢
 split at h <;> rename_i hag
 ·obtain⟨c,rfl,hc⟩:=h
  rw[if_pos hag]
  exact⟨c,rfl,Rel.free a _ _ hf hc⟩
 ·rw[if_neg hag]
  exact Rel.free a _ _ hf h
end
end Go.Eng
namespace Go.Eng
open Go.RowKit
theorem RelV.re {f:Bool} {σ:Place} {w:World} {X S:Nat→Prop} {x:D} {u:Value}:RelV σ w X (.d (.re f S x)) u↔RelV σ w (fun b=>X b∨S b∨(f=true∧Icy w b)) (.d x) u:=by
 unfold RelV
 exact Iff.rfl
theorem DLe.re {f:Bool} {S:Nat→Prop} {x:D}:DLe (.re f S x) x:=fun w X cs h=>Enc.mono (X:=fun b=>X b∨S b∨(f=true∧Icy w b)) (fun _ _ h1 h2=>⟨.rfl' h1,fun h3=>h2 (.inl h3)⟩) x cs h
theorem DLe.re_jk {α:Type} {S:Nat→Prop} {p:Value→Prop} {e:α→Value} {xs:List α} {n:Nat} (hn:xs.length=n) (hp:∀x,p (e x)):DLe (.re true S (.arr 1 (fun i=>.sc (e i)) xs)) (.jk S p n):=by
 subst hn
 rintro w X cs (⟨rfl,rfl⟩ | ⟨a,c,rfl,_,_,f,hf⟩)
 ·exact⟨none,0,rfl,fun j hj=>by cases hj⟩
 ·refine⟨some a,c,rfl,fun j hj=>?_⟩
  obtain⟨h1,_,h3⟩:=hf j hj
  obtain⟨h4,h5⟩:=h3 0 (e xs[j]) (by rw[h1.1]; rfl)
  exact⟨a,_,rfl,by simpa using h4,fun h=>h5 (.inl h),fun h=>h5 (.inr (.inl h)),fun h=>h5 (.inr (.inr ⟨rfl,h⟩)),hp _⟩
def Row.wet:Row→Bool
 | .box .. => true
 | .ds .. => true
 | .lits .. => true
 | _=>false
theorem Row.wet_ice {σ:Place} {w:World} {X:Nat→Prop} {r:Nat} {row:Row} (hw:row.wet=true) (h:bf σ w X r row) {b c:Nat} (hb:σ r=some (b,c)):¬Icy w b:=by
 have key:∀cur t,w.heap[b]?=some (.cells cur t (0,0))→¬Icy w b:=by
  rintro cur t h1 ⟨a,rfl,h2⟩
  simp only[World.frozen?,h1]at h2
  simp at h2
 cases row with
 | box t a =>
  obtain⟨_,b',cs,h1,h2,_⟩:=h
  rw[hb]at h1; cases h1
  exact key _ _ h2
 | ds t s ex enc xs =>
  rcases h with ⟨h1,_⟩ | ⟨b',c',cur,h1,_,h2,_⟩
  ·rw[hb]at h1; cases h1
  ·rw[hb]at h1; cases h1
   exact key _ _ h2
 | lits t s n ex a =>
  rcases h with ⟨_,⟨h1,_⟩ | ⟨b',c',cur,cs,h1,_,h2,_⟩⟩
  ·rw[hb]at h1; cases h1
  ·rw[hb]at h1; cases h1
   exact key _ _ h2
 | _=>cases hw
section
variable {P : Program} {f : FuncId} {avs : List AV} {res : AV}
theorem FnIs.new_re {S:Nat→Prop} {k:Nat} (hk:k<64) {row:Row} {x:D} (hfr:∀(σ:Place) (w:World) (X X':Nat→Prop),bf σ w X 64 row→bf σ w X' 64 row) (hwet:row.wet=true) (hres:res.free=true) (hag:res.isAgg=false) (hF:Frz 64 row res (.d x))
    (h:FnIs P f avs [] res [(64,row)]):FnIs P f avs [(k,.lo S)] (.d (.re true S x)) [(k,.lo S)]:=by
  refine⟨h.1,fun C σ w vs hbs hB hw hσ hro hst=>?_⟩
  have hlo:=hst.rows k (.lo S) (by simp[inSt,aX,St.row,lk])
  have hXe:∀b,(inSt avs []).X C.X0 σ b→(inSt avs [(k,.lo S)]).X C.X0 σ b:=by
    rintro b (hb | ⟨r,ro,c,g1,_⟩)
    · exact .inl hb
    · simp[inSt,aX,St.row,lk]at g1
  have hc:aE { C with M:=fun _=>False } (fun r=>r<64) (inSt avs []) σ w ⟨vs.toArray,[]⟩:=
    { env:=fun i v hi=>by
        obtain⟨u,h1,h2⟩:=hst.env i v hi
        exact⟨u,h1,RelV.mono (G:=fun _=>True) (fun _ _=>rfl) (fun _ _ h3 h4=>⟨.rfl' h3,fun h5=>h4 (hXe _ h5)⟩) v.within_all h2⟩
      envG:=hst.envG
      rows:=fun r row hr=>by simp[inSt,aX,St.row,lk]at hr
      rowsG:=fun r row hr=>by simp[inSt,aX,St.row,lk]at hr
      inj:=fun r r' row row' b c c' hr=>by simp[inSt,aX,St.row,lk]at hr
      high:=fun r row b c hr=>by simp[inSt,aX,St.row,lk]at hr
      size:=hst.size
      below:=by show dE C.B _ C.w0 w; rw[hw]; exact dE.refl _ _ _
      defers:=trivial
      sz:=hst.sz
      x0:=fun b hb=>⟨(hst.x0 b hb).1,id⟩
      agree:=hst.agree
      baseG:=hst.baseG
      bs:=hst.bs
      rok:=hst.rok
      glob:=fun x hx=>⟨(hst.glob x hx).1,(hst.glob x hx).2.1,id⟩ }
  refine (h.2 { C with M:=fun _=>False } σ w vs hbs hB hw hσ hro hc).mono ?_
  rintro e w' ⟨v,σ',rfl,hr⟩
  refine⟨v,σ',rfl,?_⟩
  have hbm:dE C.B (fun _=>False) w w':=by have:=hr.below; rw[←hw]; exact this
  have hag2:∀r,r<64→σ' r=σ r:=fun r hr64=>by
    have:=hr.agree r (by show r<C.bs; omega)
    rw[this]; show C.σ0 r=σ r; rw[hσ]
  have hnew:∀b c,σ' 64=some (b,c)→w.heap.size≤b:=fun b c hb=>by
    rcases hr.high 64 row b c rfl hb with h | h
    · have h:C.B≤b:=h
      omega
    · exact h.elim
  have hX:∀b,(bX (.d (.re true S x)) [(k,.lo S)]).X C.X0 σ' b→b<w.heap.size:=by
    rintro b (hb | ⟨r,ro,c,g1,g2⟩)
    · have:=(hst.x0 b hb).1; omega
    · have:r=k:=by
        simp only[bX,aX,St.row,aJ]at g1
        by_cases e:k=r
        · exact e.symm
        · rw[if_neg e]at g1; simp[lk]at g1
      subst this
      rw[hag2 r hk,hlo.1]at g2; cases g2
  obtain⟨u,hu,hv⟩:=hr.env 0 _ rfl
  have hrow:=hr.rows 64 row rfl
  exact
    { env:=fun i y hi=>by
        by_cases e:i=0
        · subst e
          simp only[bX,aJ,if_pos,Option.some.injEq]at hi
          subst hi
          refine⟨v,rfl,?_⟩
          have hu':v=u:=by simpa using hu
          subst hu'
          rw[RelV.re]
          have h1:=RelV.free (X':=fun b=>(bX (.d (.re true S x)) [(k,.lo S)]).X C.X0 σ' b∨S b∨(true=true∧Icy w' b)) (w':=w') hres hv
          unfold RelV at h1 ⊢
          rw[if_neg (by rw[hag]; decide)]at h1
          rw[if_neg (by rw[hF.1,hag]; decide)]
          refine hF.2.2.2 σ' w' _ _ (fun _ h=>h) (fun b c hb=>?_) (hfr _ _ _ _ hrow) _ h1
          have:=hnew b c hb
          rintro (h2 | h2 | h2)
          · have:=hX b h2; omega
          · have:=hlo.2 b h2; omega
          · exact Row.wet_ice hwet hrow hb h2.2
        · simp only[bX,aJ,if_neg (Ne.symm e),lk]at hi
          cases hi
      envG:=fun i y hi=>by
        by_cases e:i=0
        · subst e
          simp only[bX,aJ,if_pos,Option.some.injEq]at hi
          subst hi
          trivial
        · simp only[bX,aJ,if_neg (Ne.symm e),lk]at hi
          cases hi
      rows:=fun r ro hr'=>by
        simp only[bX,aX,St.row,aJ]at hr'
        by_cases e:k=r
        · subst e
          rw[if_pos rfl]at hr'
          simp only[Option.bind_some,id,Option.some.injEq]at hr'
          subst hr'
          exact⟨by rw[hag2 k hk]; exact hlo.1,fun b hb=>Nat.lt_of_lt_of_le (hlo.2 b hb) hbm.size⟩
        · rw[if_neg e]at hr'; simp[lk]at hr'
      rowsG:=fun r ro hr'=>by
        simp only[bX,aX,St.row,aJ]at hr'
        by_cases e:k=r
        · subst e
          rw[if_pos rfl]at hr'
          simp only[Option.bind_some,id,Option.some.injEq]at hr'
          subst hr'
          exact⟨by show k<72; omega,trivial⟩
        · rw[if_neg e]at hr'; simp[lk]at hr'
      inj:=fun r r' ro ro' b c c' g1 g2 _ _=>by
        simp only[bX,aX,St.row,aJ]at g1 g2
        by_cases e:k=r <;> by_cases e':k=r'
        · omega
        · rw[if_neg e']at g2; simp[lk]at g2
        · rw[if_neg e]at g1; simp[lk]at g1
        · rw[if_neg e]at g1; simp[lk]at g1
      high:=fun r ro b c g1 g2=>by
        simp only[bX,aX,St.row,aJ]at g1
        by_cases e:k=r
        · subst e
          rw[hag2 k hk,hlo.1]at g2; cases g2
        · rw[if_neg e]at g1; simp[lk]at g1
      size:=hr.size
      below:=by rw[hw]; exact⟨hbm.os,hbm.tape,hbm.output,hbm.size,fun k hk _=>hbm.block k hk id,hbm.book⟩
      defers:=trivial
      sz:=rfl
      x0:=hst.x0
      agree:=fun r hr2=>hr.agree r hr2
      baseG:=fun r hr=>by have:=hst.baseG r hr; exact Nat.lt_of_lt_of_le this (by decide)
      bs:=hst.bs
      rok:=fun l hl=>by rw[hro]at hl; cases hl
      glob:=hst.glob }
end
end Go.Eng
namespace Go.Eng
open Go.RowKit
abbrev NotS (S:Nat→Prop):Nat→Prop:=fun b=>¬S b
section
variable {P : Program} {S : Nat → Prop} {c : Code} {Q : Exit → St → Prop} {st : St}
def SatC (S:Nat→Prop) (P:Program) (c:Code) (Q:Exit→St→Prop) (st:St):Prop :=
 ∀(C:Ctx) (σ:Place) (w:World) (a:Act),(∀b,¬S b→C.B≤b)→aE C (fun r=>r<st.next) st σ w a→c.wpIn (fen C.ro) 0 P (Lift C Q) a w
theorem Sat.toC (h:Sat P c Q st):SatC S P c Q st:=fun C σ w a _ hst=>h C σ w a hst
def SeqT (S:Nat→Prop) (P:Program) (b:Code) (Q:Exit→St→Prop) (e:Exit) (st:St):Prop:=match e with
 | .normal=>SatC S P b Q st
 | e=>Q e st
theorem iy {x y:Code} (h1:SatC S P x (SeqT S P y Q) st):SatC S P (.seq x y) Q st:=by
 intro C σ w a hS hst
 refine wpIn_seq (wpIn_mono (h1 C σ w a hS hst) ?_)
 rintro e a' w' ⟨st',σ',h1,h2⟩
 cases e with
 | normal=>exact h1 C σ' w' a' hS h2
 | _=>exact⟨st',σ',h1,h2⟩
theorem fJ {b:Code} (h1:SatC S P b Q st):SeqT S P b Q .normal st:=h1
def eW (S:Nat→Prop) (env env':Env):Prop:=∀i v',lk env' i=some v' → ∃v,lk env i=some v∧(v'=v∨∃x,v=.d x∧v' = .d (.re false (NotS S) x))
theorem eW.nil {env:Env}:eW S env []:=fun i v' h=>by simp[lk]at h
theorem eW.keep {env env':Env} {i:Nat} {v:AV} (h:lk env i=some v) (h2:eW S env env'):eW S env ((i,v)::env'):=fun j v' hj=>by
 rw[aJ]at hj
 by_cases e:i=j
 ·subst e; rw[if_pos rfl]at hj; cases hj; exact⟨v,h,.inl rfl⟩
 ·rw[if_neg e]at hj; exact h2 j v' hj
theorem eW.old {env env':Env} {i:Nat} {x:D} (h:lk env i=some (.d x)) (h2:eW S env env'):eW S env ((i,.d (.re false (NotS S) x))::env'):=fun j v' hj=>by
 rw[aJ]at hj
 by_cases e:i=j
 ·subst e; rw[if_pos rfl]at hj; cases hj; exact⟨_,h,.inr ⟨x,rfl,rfl⟩⟩
 ·rw[if_neg e]at hj; exact h2 j v' hj
theorem vn {C:Ctx} {σ:Place} {w:World} {a:Act} (env':(Nat→Prop)→Env) (hE:∀S,eW S st.env (env' S)) (hbs:st.bs≤st.next) (hst:aE C (fun r=>r<st.next) st σ w a) :
  ∃(S:Nat→Prop) (σ':Place),S=(fun b=>b<w.heap.size)∧(∀b,¬S b→C.B≤b)∧aE C (fun r=>r<st.next+8) ⟨env' S,(st.next,some (.lo S))::st.heap,st.next+8,st.sz,st.bs⟩ σ' w a:=by
 obtain⟨S,hSd⟩:∃S:Nat→Prop,S=fun b=>b<w.heap.size:=⟨_,rfl⟩
 obtain⟨σ',hσd⟩:∃σ':Place,σ'=fun r=>if r=st.next then none else σ r:=⟨_,rfl⟩
 have hσ:∀r,r<st.next→σ' r=σ r:=fun r hr=>by rw[hσd]; simp only; rw[if_neg (by omega)]
 have hσn:σ' st.next=none:=by rw[hσd]; simp
 have hrow:∀r,(⟨st.env,(st.next,some (.lo S))::st.heap,st.next+8,st.sz,st.bs⟩:St).row r=if st.next=r then some (.lo S) else st.row r:=fun r=>by
  simp only[St.row,aJ]
  split <;> rfl
 have hX:∀b,(⟨st.env,(st.next,some (.lo S))::st.heap,st.next+8,st.sz,st.bs⟩:St).X C.X0 σ' b→st.X C.X0 σ b:=by
  rintro b (hb | ⟨r,ro,d,g1,g2⟩)
  ·exact .inl hb
  ·rw[hrow]at g1
   by_cases e:st.next=r
   ·subst e; rw[hσn]at g2; cases g2
   ·rw[if_neg e]at g1
    rw[hσ r (hst.rowsG r ro g1).1]at g2
    exact .inr ⟨r,ro,d,g1,g2⟩
 have hk:∀(ad:Addr) (u:Value),w.cell? ad=some u→¬st.X C.X0 σ ad.block→Kp w w ad u∧¬(⟨st.env,(st.next,some (.lo S))::st.heap,st.next+8,st.sz,st.bs⟩:St).X C.X0 σ' ad.block:=fun ad u h1 h2=>⟨.rfl' h1,fun h3=>h2 (hX _ h3)⟩
 have h1:aE C (fun r=>r<st.next+8) ⟨st.env,(st.next,some (.lo S))::st.heap,st.next+8,st.sz,st.bs⟩ σ' w a:=by
  refine⟨fun i v hi=>?_,fun i v hi=>?_,fun r ro hr=>?_,fun r ro hr=>?_,fun r r' ro ro' b d d' g1 g2 g3 g4=>?_,fun r ro b d g1 g2=>?_,hst.size,hst.below,hst.defers,hst.sz,hst.x0,fun r hr=>?_,fun r hr=>?_,hst.bs,hst.rok,hst.glob⟩
  ·obtain⟨u,g1,g2⟩:=hst.env i v hi
   exact⟨u,g1,RelV.mono hσ hk (hst.envG i v hi) g2⟩
  ·exact AV.within.mono (fun r hr=>Nat.lt_add_right 8 hr) v (hst.envG i v hi)
  ·rw[hrow]at hr
   by_cases e:st.next=r
   ·subst e; rw[if_pos rfl]at hr; cases hr
    exact⟨hσn,fun b hb=>by rw[hSd]at hb; exact hb⟩
   ·rw[if_neg e]at hr
    exact bf.mono hσ hk (Nat.le_refl _) (hst.rowsG r ro hr).1 (hst.rowsG r ro hr).2 (fun _ _ _=>rfl) (hst.rows r ro hr)
  ·rw[hrow]at hr
   by_cases e:st.next=r
   ·subst e; rw[if_pos rfl]at hr; cases hr
    exact⟨by omega,trivial⟩
   ·rw[if_neg e]at hr
    obtain⟨g1,g2⟩:=hst.rowsG r ro hr
    refine⟨Nat.lt_add_right 8 g1,?_⟩
    cases ro with
    | box t x=>exact AV.within.mono (fun r hr=>Nat.lt_add_right 8 hr) x g2
    | ds=>trivial
    | lits t s n ex x=>exact AV.within.mono (fun r hr=>Nat.lt_add_right 8 hr) x g2
    | mo x=>exact AV.within.mono (fun r hr=>Nat.lt_add_right 8 hr) x g2
    | si=>trivial
    | mq=>trivial
    | lo=>trivial
    | mi x=>exact AV.within.mono (fun r hr=>Nat.lt_add_right 8 hr) x g2
  ·rw[hrow]at g1 g2
   by_cases e:st.next=r
   ·subst e; rw[hσn]at g3; cases g3
   ·by_cases e':st.next=r'
    ·subst e'; rw[hσn]at g4; cases g4
    ·rw[if_neg e]at g1
     rw[if_neg e']at g2
     rw[hσ r (hst.rowsG r ro g1).1]at g3
     rw[hσ r' (hst.rowsG r' ro' g2).1]at g4
     exact hst.inj r r' ro ro' b d d' g1 g2 g3 g4
  ·rw[hrow]at g1
   by_cases e:st.next=r
   ·subst e; rw[hσn]at g2; cases g2
   ·rw[if_neg e]at g1
    rw[hσ r (hst.rowsG r ro g1).1]at g2
    exact hst.high r ro b d g1 g2
  ·rw[hσ r (by have:=hst.bs; omega)]; exact hst.agree r hr
  ·exact Nat.lt_add_right 8 (hst.baseG r hr)
 refine⟨S,σ',hSd,fun b hb=>?_, { h1 with env:=fun i v' hi=>?_,envG:=fun i v' hi=>?_ }⟩
 ·have:=hst.size
  rw[hSd]at hb
  simp only at hb
  omega
 ·obtain⟨v,g1,g2⟩:=hE S i v' hi
  obtain⟨u,g3,g4⟩:=h1.env i v g1
  refine⟨u,g3,?_⟩
  rcases g2 with rfl | ⟨x,rfl,rfl⟩
  ·exact g4
  ·rw[RelV.re]
   refine RelV.mono (G:=fun _=>True) (fun _ _=>rfl) (fun ad u' h5 h6=>⟨.rfl' h5,?_⟩) (AV.within_all _) g4
   rintro (h7 | h7 | h7)
   rotate_right
   ·exact Bool.noConfusion h7.1
   ·exact h6 h7
   ·exact h7 (by rw[hSd]; exact World.block_lt_of_cell? w ad h5)
 ·obtain⟨v,g1,g2⟩:=hE S i v' hi
  rcases g2 with rfl | ⟨x,rfl,rfl⟩
  ·exact h1.envG i v' g1
  ·trivial
theorem aE.rebox {C:Ctx} {G:Nat→Prop} {σ:Place} {w:World} {a:Act} {r:Nat} {t:TypeId} {x:D} (hst:aE C G st σ w a) (hr:st.row r=some (.box t (.d x))) (hS:S=fun b=>b<w.heap.size) :
  aE C G (st.upd [(r,some (.box t (.d (.re false (NotS S) x))))]) σ w a:=by
 obtain⟨hf,b,cs,h1,h2,h3⟩:=hst.rows r _ hr
 have h4:Enc w (st.X C.X0 σ) (.re false (NotS S) x) cs.toList:=by
  refine Enc.mono (fun ad u h5 h6=>⟨.rfl' h5,?_⟩) x cs.toList h3
  rintro (h7 | h7 | h7)
  ·exact h6 h7
  ·exact h7 (by rw[hS]; exact World.block_lt_of_cell? w ad h5)
  ·exact Bool.noConfusion h7.1
 have:=hst.write (new:=cs) hr h1 h2 (row :=.box t (.d (.re false (NotS S) x))) trivial (fun w' _ hE hh=>⟨hf,b,cs,h1,hh,hE _ _ h4⟩)
 rw[setRow_self w b cs t (0,0) h2]at this
 exact this
theorem td {r:Nat} {t:TypeId} {x:D} (env':(Nat→Prop)→Env) (hr:st.row r=some (.box t (.d x))) (hlt:Nat.blt r st.next=true) (hE:∀S,eW S st.env (env' S)) (hbs:st.bs≤st.next)
  (h:∀S,SatC S P c Q ⟨env' S,(r,some (.box t (.d (.re false (NotS S) x))))::(st.next,some (.lo S))::st.heap,st.next+8,st.sz,st.bs⟩):Sat P c Q st:=by
 intro C σ w a hst
 obtain⟨S,σ',hS,h1,h2⟩:=vn env' hE hbs hst
 refine h S C σ' w a h1 (h2.rebox ?_ hS)
 simp only[St.row,aJ]
 rw[if_neg (by have:=Nat.le_of_ble_eq_true hlt; omega)]
 exact hr
end
end Go.Eng
namespace Go.Eng
open Go.RowKit
def D.safe (S:Nat→Prop) (u:Value):D→Prop
 | .sc _=>True
 | .nil=>True
 | .cons a r=>a.safe S u∧r.safe S u
 | .vec _ _ enc _=>∀x,(enc x).safe S u
 | .re _ T _=>∀b,¬S b→T b
 | .jk _ p _=>p u
 | _=>False
def Turn (w w':World) (ad:Addr) (u:Value):Prop:=∀(a:Addr) (v:Value),w.cell? a=some v→(a.block≠ad.block→w'.cell? a=some v)∧(∃v',w'.cell? a=some v'∧(v'=v∨v'=u))∧(Icy w' a.block→Icy w a.block)
theorem Enc.safe {S:Nat→Prop} {u:Value} {w w':World} {ad:Addr} (ht:Turn w w' ad u) (hS:¬S ad.block):∀(d:D) (X:Nat→Prop) (cs:List Value),d.safe S u→Enc w X d cs→Enc w' X d cs:=by
 intro d
 induction d with
 | sc v=>intro X cs _ h; exact h
 | nil=>intro X cs _ h; exact h
 | cons a r iha ihr =>
  rintro X cs ⟨p1,p2⟩ ⟨c1,c2,rfl,h1,h2⟩
  exact⟨c1,c2,rfl,iha X _ p1 h1,ihr X _ p2 h2⟩
 | vec n s enc xs ih =>
  rintro X cs p ⟨hn,f,hf,rfl⟩
  exact⟨hn,f,fun i hi=>⟨ih _ X _ (p _) (hf i hi).1,(hf i hi).2⟩,rfl⟩
 | re f T y ih =>
  intro X cs p h
  refine Enc.mono (X:=fun b=>X b∨T b∨(f=true∧Icy w b)) (X':=fun b=>X b∨T b∨(f=true∧Icy w' b)) (fun a v hc hx=>⟨⟨(ht a v hc).1 fun e=>hx (.inr (.inl (p _ (by rw[e]; exact hS)))),(ht a v hc).2.2⟩,fun hx'=>hx (hx'.imp id (Or.imp id fun h=>⟨h.1,(ht a v hc).2.2 h.2⟩))⟩) y cs h
 | jk T q n =>
  rintro X cs p ⟨a,c,rfl,h⟩
  refine⟨a,c,rfl,fun j hj=>?_⟩
  obtain⟨b,v,h1,h2,h3,h4,h8,h5⟩:=h j hj
  obtain⟨⟨v',h6,h7⟩,h9⟩:=(ht _ v h2).2
  rw[Addr.add_block]at h9
  refine⟨b,v',h1,h6,h3,h4,fun h=>h8 (h9 h),?_⟩
  rcases h7 with rfl | rfl
  ·exact h5
  ·exact p
 | arr=>intro X cs p; exact p.elim
 | pt=>intro X cs p; exact p.elim
 | arx=>intro X cs p; exact p.elim
def AV.safe (S:Nat→Prop) (u:Value):AV→Prop
 | .d x=>x.safe S u
 | .anil=>True
 | .acons a r=>a.safe S u∧r.safe S u
 | .own .. => True
 | .ptr .. => True
 | .sl _=>True
 | .tup q=>q.safe S u
 | _=>False
theorem Rel.safe {S:Nat→Prop} {u:Value} {w w':World} {ad:Addr} {σ:Place} {X:Nat→Prop} (ht:Turn w w' ad u) (hS:¬S ad.block):∀(a:AV) (m:Bool) (cs:List Value),a.safe S u→Rel σ w X a m cs→Rel σ w' X a m cs:=by
 intro a
 induction a with
 | d x=>intro m cs p h; exact Enc.safe ht hS x X cs p h
 | anil=>intro m cs _ h; exact h
 | acons a r iha ihr =>
  rintro m cs ⟨p1,p2⟩ h
  cases m with
  | false =>
   obtain⟨c1,c2,rfl,h1,h2⟩:=h
   exact⟨c1,c2,rfl,iha _ _ p1 h1,ihr _ _ p2 h2⟩
  | true =>
   obtain⟨v,us,rfl,h1,h2⟩:=h
   refine⟨v,us,rfl,?_,ihr _ _ p2 h2⟩
   split at h1 <;> rename_i hag
   ·obtain⟨c,rfl,hc⟩:=h1
    rw[if_pos hag]
    exact⟨c,rfl,iha _ _ p1 hc⟩
   ·rw[if_neg hag]
    exact iha _ _ p1 h1
 | own=>intro m cs _ h; exact h
 | ptr=>intro m cs _ h; exact h
 | sl n=>intro m cs _ h; exact h
 | tup q ih =>
  rintro m cs p ⟨vs,rfl,h1⟩
  exact⟨vs,rfl,ih _ _ p h1⟩
 | _=>intro m cs p; exact p.elim
theorem RelV.safe {S:Nat→Prop} {u:Value} {w w':World} {ad:Addr} {σ:Place} {X:Nat→Prop} {a:AV} {v:Value} (ht:Turn w w' ad u) (hS:¬S ad.block) (p:a.safe S u) (h:RelV σ w X a v):RelV σ w' X a v:=by
 unfold RelV at h ⊢
 split at h <;> rename_i hag
 ·obtain⟨c,rfl,hc⟩:=h
  rw[if_pos hag]
  exact⟨c,rfl,Rel.safe ht hS a _ _ p hc⟩
 ·rw[if_neg hag]
  exact Rel.safe ht hS a _ _ p h
def Row.safe (S:Nat→Prop) (u:Value):Row→Prop
 | .box _ a=>a.safe S u
 | .ds _ _ _ enc _=>∀x,(enc x).safe S u
 | .lits _ _ _ _ a=>a.safe S u
 | .lo _=>True
 | _=>False
theorem bf.safe {S:Nat→Prop} {u:Value} {w w':World} {ad:Addr} {σ:Place} {X:Nat→Prop} {r:Nat} {row:Row} (ht:Turn w w' ad u) (hS:¬S ad.block) (hz:w.heap.size≤w'.heap.size) (p:row.safe S u) (hb:∀b c,σ r=some (b,c)→w'.heap[b]?=w.heap[b]?) (h:bf σ w X r row):bf σ w' X r row:=by
 cases row with
 | box t a =>
  obtain⟨hf,b,cs,h1,h2,h3⟩:=h
  exact⟨hf,b,cs,h1,(hb b _ h1).trans h2,Rel.safe ht hS a _ _ p h3⟩
 | ds t s ex enc xs =>
  rcases h with h | ⟨b,c,cur,h1,h0,h2,h3,h4,h5,f,hf,h6⟩
  ·exact .inl h
  ·exact .inr ⟨b,c,cur,h1,h0,(hb b _ h1).trans h2,h3,h4,h5,f,fun i hi=>⟨Enc.safe ht hS _ X _ (p _) (hf i hi).1,(hf i hi).2⟩,h6⟩
 | lits t s n ex a =>
  rcases h with ⟨hf,h | ⟨b,c,cur,cs,h1,h0,h2,h3,h4,h5,h6,h7,h8⟩⟩
  ·exact⟨hf,.inl h⟩
  ·exact⟨hf,.inr ⟨b,c,cur,cs,h1,h0,(hb b _ h1).trans h2,h3,h4,h5,h6,Rel.safe ht hS a _ _ p h7,h8⟩⟩
 | lo T=>exact⟨h.1,fun b hb'=>Nat.lt_of_lt_of_le (h.2 b hb') hz⟩
 | mo a=>exact p.elim
 | si=>exact p.elim
 | mq=>exact p.elim
 | mi=>exact p.elim
theorem aE.turn {C:Ctx} {G:Nat→Prop} {st:St} {σ:Place} {w w':World} {a:Act} {S:Nat→Prop} {ad:Addr} {u:Value} {o:Obj} (h:aE C G st σ w a) (hC:∀b,¬S b→C.B≤b) (ht:Turn w w' ad u) (hS:¬S ad.block) (hX:¬st.X C.X0 σ ad.block)
    (ho:w.heap[ad.block]?=some o) (hnb:fT o=false) (hoth:∀k,k≠ad.block→w'.heap[k]?=w.heap[k]?) (hsz:w'.heap.size=w.heap.size) (h1:w'.os=w.os) (h2:w'.tape=w.tape) (h3:w'.output=w.output)
    (henv:∀i v,lk st.env i=some v→v.safe S u) (hrow:∀r row,st.row r=some row→row.safe S u):aE C G st σ w' a:=by
  have hbk:∀(k:Nat) (x:Obj),w.heap[k]?=some x→fT x=true→w'.heap[k]?=some x:=fun k x hx hb=>by
    have:k≠ad.block:=by
      rintro rfl
      rw[ho]at hx; cases hx; rw[hnb]at hb; cases hb
    rw[hoth k this]; exact hx
  exact
    { env:=fun i v hi=>by
        obtain⟨x,g1,g2⟩:=h.env i v hi
        exact⟨x,g1,RelV.safe ht hS (henv i v hi) g2⟩
      envG:=h.envG
      rows:=fun r row hr=>bf.safe ht hS (by omega) (hrow r row hr) (fun b c hb=>hoth b (by rintro rfl; exact hX (.inr ⟨r,row,c,hr,hb⟩))) (h.rows r row hr)
      rowsG:=h.rowsG
      inj:=h.inj
      high:=h.high
      size:=by rw[hsz]; exact h.size
      below:=h.below.trans ⟨h1,h2,h3,by omega,fun k hk _=>hoth k (by have:=hC _ hS; omega),hbk⟩
      defers:=gH.go (fun k hk=>hbk k _ hk rfl) _ h.defers
      sz:=h.sz
      x0:=h.x0
      agree:=h.agree
      baseG:=h.baseG
      bs:=h.bs
      rok:=fun l hl=>by
        obtain⟨r,hr⟩:=h.rok l hl
        exact⟨r,hbk l _ hr rfl⟩
      glob:=h.glob }
end Go.Eng
namespace Go.Eng
open Go.RowKit
section
variable {P : Program} {T : Tab} {sz : Nat} {all l : List Oper} {n : Nat} {env : Env} {h : Upds} {K : Env → Upds → Nat → Prop}
theorem uM {C:Ctx} {G:Nat→Prop} {st:St} {w:World} {a:Act} {o:Oper} {v:Option AV} {u:Upds} (hc:bR P C G st n o a w (fun v' u'=>v'=v∧u'=u)) (next:Act→World→Prop) (Q:Exit→Act→World→Prop)
  (hnext:∀x w' σ' G',aE C G' (st.put o.dst v u) σ' w' (a.put o.dst x)→(∀r,G r→G' r)→(∀r,G' r→G r∨n≤r∧r<n+8)→next (a.put o.dst x) w'):o.wpIn (fen C.ro) 0 P a w next Q:=by
 obtain⟨v',u',nx,x,w',σ',G',⟨rfl,rfl⟩,hr,hx,hst',h1,h2⟩:=hc
 have hdef:∀c,o.op ≠ .defer c:=fun c hc=>by
  have:∃d w2,(execOp a.eval o).run P w=.ok (.defer d) w2∨∀y w3,(execOp a.eval o).run P w ≠ .ok y w3:=by
   simp only[execOp,hc,Sem.run_bind,Sem.run_pure]
   cases (resolve a.eval c o.type).run P w with
   | ok d w2=>exact⟨d,w2,.inl rfl⟩
   | _=>exact⟨{ target :=.collected 0,args := #[] },w,.inr fun y w3=>by simp[Result.andThen]⟩
  obtain⟨d,w2,h1 | h1⟩:=this
  ·rw[hr]at h1
   rcases hx with rfl | ⟨rfl,_⟩ <;> cases h1
  ·exact h1 _ _ hr
 refine⟨fun _ _=>trivial,?_⟩
 rw[eL hr hdef]
 rcases hx with rfl | ⟨rfl,rfl⟩
 ·exact hnext x w' σ' G' hst' h1 h2
 ·exact hnext undef w' σ' G' hst' h1 h2
theorem wP {α:Type} {V:α→AV} {d:Tmp} {op:Op} {ty:TypeId} {pos:String} {af:Array Edge} (hd:Nat.blt d sz=true)
  (hs:∀(C:Ctx) (G:Nat→Prop) (st:St) (σ:Place) (w:World) (a:Act) (o:Oper),o.op=op→eY env h st→(∀d,o.dst=some d→d<st.sz)→aE C G st σ w a→(∀r,n≤r→r<n+8→¬G r) →
   ∃x,bR P C G st n o a w (fun v' u'=>v'=some (V x)∧u'=[]))
  (h1:∀x,RegS P all sz l (n+8) ((d,V x)::env) h K):RegS P all sz (⟨some d,op,ty,pos,af,none⟩::l) n env h K:=by
 intro C σ w a hst Q hQ
 have hA:eY env h (⟨env,h,n,sz,64⟩:St):=⟨fun i v hi=>hi,fun r row hr=>by rw[←hr,←bY]⟩
 have hdd:∀d',(⟨some d,op,ty,pos,af,none⟩:Oper).dst=some d'→d'<sz:=fun d' e=>by cases e; exact Nat.le_of_ble_eq_true hd
 obtain⟨x,hx⟩:=hs C _ ⟨env,h,n,sz,64⟩ σ w a ⟨some d,op,ty,pos,af,none⟩ rfl hA hdd hst (fun r h1 h2 h3=>Nat.not_lt.2 h1 h3)
 unfold wpListIn
 rw[if_pos (show Region.wanted (⟨some d,op,ty,pos,af,none⟩:Oper) (yielded all.toArray a.tmps)=true from rfl)]
 refine uM hx _ _ ?_
 intro y2 w2 σ2 G2 k1 _ k3
 rw[lc]at k1
 refine h1 x C σ2 w2 _ ?_ Q hQ
 have:=k1.grow (G':=fun r=>r<n+8) (fun r hr=>by rcases k3 r hr with hr | hr <;> (try simp only at hr) <;> omega)
 exact { this with }
theorem wO (hT:ao P T) {S:Nat→Prop} {p:Value→Prop} {m:Nat} {j:Int} {k:IntKind} {t e:TypeId} {re:TyR} {x i:Operand} {d:Tmp} {ty:TypeId} {pos:String} {af:Array Edge} (hd:Nat.blt d sz=true) (ht:aW T t=some (.slice e)) (he:lk T e=some re) (hs:Nat.beq re.size 1=true)
  (hx:au env x=some (.d (.jk S p m))) (hi:au env i=some (.int k j)) (h0:0≤j) (h1:j<(m:Int)) (hone:∀u,p u→u.oneCell'=true)
  (next:∀u,p u→RegS P all sz l (n+8) ((d,.d (.re true S (.pt (.sc u))))::env) h K):RegS P all sz (⟨some d,.indexAddr t x i,ty,pos,af,none⟩::l) n env h K:=by
 refine wP (α := {u:Value // p u}) (V:=fun u=>.d (.re true S (.pt (.sc u.1)))) hd (fun C G st σ w a o ho hA hd hst hn=>?_) (fun u=>next u.1 u.2)
 obtain⟨hx1,_⟩:=an hst (hA.ev hx)
 obtain⟨hi1,_⟩:=RelV.sc.1 (an hst (hA.ev hi)).1
 unfold RelV at hx1
 rw[if_neg (by simp[AV.isAgg,D.isAgg])]at hx1
 obtain⟨a0,c,hv,hc⟩:=hx1
 have hv:a.eval x=.slice a0 m c:=by simpa using hv
 obtain⟨b,u,rfl,hcell,hX,hS,hI,hp⟩:=hc j.toNat (by omega)
 refine⟨⟨u,hp⟩,.quiet (u :=.pointer (some (b.add j.toNat))) hst hd ⟨rfl,rfl⟩ ?_ ?_ trivial⟩
 ·simp only[execOp,ho,hv,hi1,Sem.run_bind,cR hT ht he h0 h1,Result.andThen_ok,Sem.run_pure,Nat.eq_of_beq_eq_true hs,Nat.mul_one]
 ·rw[RelV.re]
  unfold RelV
  rw[if_neg (by simp[AV.isAgg,D.isAgg])]
  refine⟨b.add j.toNat,[u],rfl,⟨rfl,hone u hp⟩,fun q v hq=>?_⟩
  have hq0:q=0:=by
   have:=(List.getElem?_eq_some_iff.1 hq).1
   simp at this; omega
  subst hq0
  simp only[List.getElem?_cons_zero,Option.some.injEq]at hq
  subst hq
  rw[eV,Nat.add_zero,Addr.add_block]
  exact⟨hcell,fun h=>h.elim hX fun h=>h.elim hS fun h=>hI h.2⟩
theorem ub (hT:ao P T) {S:Nat→Prop} {p:Value→Prop} {m:Nat} {x:Operand} {t e:TypeId} (hx:au env x=some (.d (.jk S p m))) (ht:aW T t=some (.slice e)) :
  aq P (.call { callee :=.builtin .len,args := #[x],argTypes := #[t] }) env h n (some (.int .i64 m)) []:=.len rfl hx fun C st σ w a ty hr=>by
 obtain⟨u,hu,hdu⟩:=aQ hT ht
 cases hdu
 unfold RelV at hr
 rw[if_neg (by simp[AV.isAgg,D.isAgg])]at hr
 obtain⟨a0,c,hv,_⟩:=hr
 have hv:a.eval x=.slice a0 m c:=by simpa using hv
 simp[Builtin.len_,hv,run_underlying hu]
end
end Go.Eng
namespace Go.Eng
open Go.RowKit
def RegC (S:Nat→Prop) (P:Program) (all:List Oper) (sz:Nat) (l:List Oper) (n:Nat) (env:Env) (h:Upds) (K:Env→Upds→Nat→Prop):Prop :=
 ∀(C:Ctx) (σ:Place) (w:World) (a:Act),(∀b,¬S b→C.B≤b)→aE C (fun r=>r<n) ⟨env,h,n,sz,64⟩ σ w a→∀(Q:Exit→Act→World→Prop),
  (∀env h n σ w a,K env h n→aE C (fun r=>r<n) ⟨env,h,n,sz,64⟩ σ w a→Q .normal a w)→wpListIn (fen C.ro) 0 P all.toArray Q l a w
section
variable {S : Nat → Prop} {P : Program} {T : Tab} {sz : Nat} {all l : List Oper} {n : Nat} {env : Env} {h : Upds} {K : Env → Upds → Nat → Prop} {Q : Exit → St → Prop}
theorem n7 {id:Nat} {ops:Array Oper} (h1:RegC S P ops.toList sz ops.toList n env h (RegK Q sz)):SatC S P (.region id ops false) Q ⟨env,h,n,sz,64⟩:=by
 intro C σ w a hS hst
 refine wpIn_region_list ?_
 have:=h1 C σ w a hS hst (Lift C Q) fun env h n σ w a hk hst=>⟨_,σ,hk,hst⟩
 simpa using this
theorem tw (h1:K env h n):RegC S P all sz [] n env h K:=fun C σ w a _ hst Q hQ=>hQ env h n σ w a h1 hst
theorem fK {id:Nat} {c:Code} {st:St} (h1:SatC S P c (BlkQ id Q) st):SatC S P (.block id c) Q st:=by
 intro C σ w a hS hst
 refine wpIn_block (wpIn_mono (h1 C σ w a hS hst) ?_)
 rintro e a' w' ⟨st',σ',h1,h2⟩
 cases e with
 | exit i =>
  simp only[Exit.inBlock]
  simp only[BlkQ]at h1
  by_cases hi:i=id
  ·rw[if_pos hi]at h1 ⊢
   exact⟨st',σ',h1,h2⟩
  ·rw[if_neg hi]at h1 ⊢
   exact⟨st',σ',h1,h2⟩
 | _=>exact⟨st',σ',h1,h2⟩
def zL (S:Nat→Prop) (P:Program) (c:Code) (Q:Exit→St→Prop) (n:Nat) (st:St):Prop :=
 ∀(C:Ctx) (σ:Place) (w:World) (a:Act),(∀b,¬S b→C.B≤b)→aE C (fun r=>r<st.next) st σ w a→Code.roundsIn (fen C.ro) 0 P c (Lift C Q) n a w
theorem satC_inv.{u} {α:Type u} {c:Code} {st:St} (mk:α→St) (Inv:α→Prop) (μ:α→Nat) (a0:α) (l:b4) (h0:Inv a0)
  (hle:Le l st (mk a0)) (step:∀a,Inv a→SatC S P c (LoopQ Q mk Inv μ a) (mk a)):SatC S P (.loop c) Q st:=by
 have key:∀(m:Nat) (a:α),μ a≤m→Inv a→zL S P c Q (m+1) (mk a):=by
  intro m
  induction m with
  | zero =>
   intro a ha hi C σ w x hS hst
   rw[roundsIn_succ]
   refine wpIn_mono (step a hi C σ w x hS hst) ?_
   rintro e a' w' ⟨st',σ',h1,h2⟩
   cases e with
   | normal=>obtain⟨a',l',_,hlt,_⟩:=h1; omega
   | _=>exact⟨st',σ',h1,h2⟩
  | succ m ih =>
   intro a ha hi C σ w x hS hst
   rw[roundsIn_succ]
   refine wpIn_mono (step a hi C σ w x hS hst) ?_
   rintro e x' w' ⟨st',σ',h1,h2⟩
   cases e with
   | normal =>
    obtain⟨a',l',hi',hlt,hle'⟩:=h1
    exact ih a' (by omega) hi' C _ w' x' hS (h2.le hle')
   | _=>exact⟨st',σ',h1,h2⟩
 intro C σ w x hS hst
 exact wpIn_loop_rounds (μ a0+1) (key (μ a0) a0 (Nat.le_refl _) h0 C _ w x hS (hst.le hle))
end
end Go.Eng
namespace Go.Eng
open Go.RowKit
theorem fl (w:World) (ad:Addr) (v:Value) (k:Nat) (hk:k≠ad.block):(w.setCell ad v).heap[k]?=w.heap[k]?:=by
 simp only[World.setCell,Array.getElem?_modify]
 rw[if_neg (Ne.symm hk)]
theorem k8 (w:World) (ad a:Addr) (v:Value):(w.setCell ad v).frozen? a=w.frozen? a:=by
 by_cases e:a.block=ad.block
 ·unfold World.frozen?
  rw[e]
  simp only[World.setCell,Array.getElem?_modify,if_true]
  cases w.heap[ad.block]? with
  | none=>rfl
  | some o=>cases o <;> rfl
 ·unfold World.frozen?
  rw[fl w ad v _ e]
theorem ni {w:World} {ad:Addr} {u v:Value} (hc:w.cell? ad=some u):Turn w (w.setCell ad v) ad v:=by
 intro a x ha
 have hice:Icy (w.setCell ad v) a.block→Icy w a.block:=fun⟨b,h1,h2⟩=>⟨b,h1,by rw[k8]at h2; exact h2⟩
 by_cases e:a.block=ad.block
 ·refine⟨fun h=>(h e).elim,?_,hice⟩
  unfold World.cell? at ha hc
  rw[e]at ha
  cases ho:w.heap[ad.block]? with
  | none=>rw[ho]at ha; cases ha
  | some o =>
   rw[ho]at ha hc
   cases o with
   | cells c t r =>
    have h1:a.spot.isSome=false:=by
     cases hs:a.spot.isSome with
     | false=>rfl
     | true=>simp[hs]at ha
    have h2:ad.spot.isSome=false:=by
     cases hs:ad.spot.isSome with
     | false=>rfl
     | true=>simp[hs]at hc
    simp only[h1,h2]at ha hc
    have hn:(w.setCell ad v).heap[ad.block]?=some (.cells (c.setIfInBounds ad.off v) t r):=by
     simp only[World.setCell,Array.getElem?_modify,if_true,ho,Option.map_some,h2]
     rfl
    have hcell:(w.setCell ad v).cell? a=(c.setIfInBounds ad.off v)[a.off]?:=by
     unfold World.cell?
     rw[e,hn]
     simp only[h1]
     rfl
    by_cases ho2:a.off=ad.off
    ·refine⟨v,?_,.inr rfl⟩
     rw[hcell,ho2]
     exact Array.getElem?_setIfInBounds_self_of_lt (Array.getElem?_eq_some_iff.1 hc).1
    ·refine⟨x,?_,.inl rfl⟩
     rw[hcell,Array.getElem?_setIfInBounds_ne (Ne.symm ho2)]
     exact ha
   | _=>cases ha
 ·have:(w.setCell ad v).cell? a=some x:=by rw[World.cell?_of_block (fl w ad v _ e)]; exact ha
  exact⟨fun _=>this,⟨x,this,.inl rfl⟩,hice⟩
def hN (S:Nat→Prop) (v:Value) (env env':Env):Prop:=∀i x,lk env' i=some x→lk env i=some x∧x.safe S v
theorem hN.nil {S:Nat→Prop} {v:Value} {env:Env}:hN S v env []:=fun i x h=>by simp[lk]at h
theorem hN.cons {S:Nat→Prop} {v:Value} {env env':Env} {i:Nat} {x:AV} (h:lk env i=some x) (hs:x.safe S v) (h2:hN S v env env'):hN S v env ((i,x)::env'):=fun j y hj=>by
 rw[aJ]at hj
 by_cases e:i=j
 ·subst e; rw[if_pos rfl]at hj; cases hj; exact⟨h,hs⟩
 ·rw[if_neg e]at hj; exact h2 j y hj
def ey (S:Nat→Prop) (v:Value):Upds→Prop
 | []=>True
 | (_,none)::l=>ey S v l
 | (_,some row)::l=>row.safe S v∧ey S v l
theorem ey.out {S:Nat→Prop} {v:Value}:∀ {h:Upds},ey S v h→∀r row,bd h r=some row→row.safe S v
 | [],_,r,row,hr=>by simp[bd,lk]at hr
 | (k,none)::l,hs,r,row,hr=>by
  simp only[bd,aJ]at hr
  by_cases e:k=r
  ·rw[if_pos e]at hr; cases hr
  ·rw[if_neg e]at hr
   exact ey.out (h:=l) hs r row hr
 | (k,some x)::l,hs,r,row,hr=>by
  simp only[bd,aJ]at hr
  by_cases e:k=r
  ·rw[if_pos e]at hr; cases hr; exact hs.1
  ·rw[if_neg e]at hr
   exact ey.out (h:=l) hs.2 r row hr
section
variable {S : Nat → Prop} {P : Program} {T : Tab} {sz : Nat} {all l : List Oper} {n : Nat} {env : Env} {h : Upds} {K : Env → Upds → Nat → Prop} {Q : Exit → St → Prop}
theorem pP (hT:ao P T) {t:TypeId} {x y:Operand} {u v:Value} {ty:TypeId} {pos:String} {af:Array Edge} (env':Env) (hx:au env x=some (.d (.re true S (.pt (.sc u))))) (hy:au env y=some (.d (.sc v))) (hs:bn T t (.d (.sc v))=true)
  (he:hN S v env env') (hh:ey S v h) (h1:RegC S P all sz l (n+8) env' h K):RegC S P all sz (⟨none,.store t x y,ty,pos,af,none⟩::l) n env h K:=by
 intro C σ w a hS hst Q hQ
 unfold wpListIn
 rw[if_pos (show Region.wanted (⟨none,.store t x y,ty,pos,af,none⟩:Oper) (yielded all.toArray a.tmps)=true from rfl)]
 obtain⟨hx1,_⟩:=an hst hx
 obtain⟨hy1,hy2⟩:=RelV.sc.1 (an hst hy).1
 rw[RelV.re]at hx1
 unfold RelV at hx1
 rw[if_neg (by simp[AV.isAgg,D.isAgg])]at hx1
 obtain⟨ad,c,hv,⟨rfl,hone⟩,hc⟩:=hx1
 have hv:a.eval x=.pointer (some ad):=by simpa using hv
 obtain⟨hcell,hX⟩:=hc 0 u rfl
 rw[Addr.add_zero']at hcell
 obtain⟨tr,htr,hsz,hf,hag⟩:=bn.out hs
 have hsize:tr.size=1:=by have:=hsz; simp[AV.size,D.size]at this; omega
 have hfro:w.frozen? ad=false:=by
  cases hq:w.frozen? ad with
  | false=>rfl
  | true=>exact (hX (.inr (.inr ⟨rfl,ad,rfl,hq⟩))).elim
 have hrun:(execOp a.eval ⟨none,.store t x y,ty,pos,af,none⟩).run P w=.ok .skip (w.setCell ad v):=by
  have hcs:v.cells = #[v]:=by cases v <;> first | rfl | cases hy2
  simp only[execOp,Instr.storeAt,hv,hy1,Instr.sureAddr,storeVar,Sem.run_bind,Sem.run_pure,Result.andThen_ok,(hT t tr htr).run_size,hcs]
  rw[if_neg (by rw[hsize]; simp)]
  simp only[storeCells,Sem.run_bind,Addr.add_zero',run_store P w ad v _ hy2,hcell,hfro,Sem.run_pure,Result.andThen_ok]
  rfl
 have hblk:∃o,w.heap[ad.block]?=some o∧fT o=false:=by
  unfold World.cell? at hcell
  cases ho:w.heap[ad.block]? with
  | none=>rw[ho]at hcell; cases hcell
  | some o =>
   rw[ho]at hcell
   cases o with
   | cells c t r=>exact⟨_,rfl,rfl⟩
   | _=>cases hcell
 obtain⟨o,ho,hnb⟩:=hblk
 have hsafe:aE C (fun r=>r<n) ⟨env',h,n,sz,64⟩ σ w a := { hst with env:=fun i z hi=>hst.env i z (he i z hi).1,envG:=fun i z hi=>hst.envG i z (he i z hi).1 }
 have hturn:=hsafe.turn hS (ni hcell) (fun hb=>hX (.inr (.inl hb))) (fun hb=>hX (.inl hb)) ho hnb (fun k hk=>fl w ad v k hk) (by simp[World.setCell]) rfl rfl rfl (fun i z hi=>(he i z hi).2) (fun r row hr=>ey.out hh r row (by rw[←hr]; exact bY (st:=⟨env',h,n,sz,64⟩) (r:=r)))
 refine⟨fun _ _=>trivial,?_⟩
 rw[eL hrun (fun c hc=>by cases hc)]
 refine h1 C σ _ _ hS ?_ Q hQ
 have hg:=hturn.grow (G':=fun r=>r<n+8) fun r hr=>Nat.lt_add_right 8 hr
 exact { hg with }
end
end Go.Eng
namespace Go.Eng
open Go.RowKit
theorem ic:∀l:List AV,cn l l=true
 | []=>rfl
 | a::l=>by
  cases a <;> simp[cn,AV.isD,ic l]
theorem ci.self {look:Nat→Option Row}:∀l:List AV,(∀v∈l,v.flat=true∧v.lt 64=true)→ci look (rho []) l l
 | [],_=>rfl
 | a::l,h=>by
  refine⟨a,l,rfl,h a (by simp),?_,ci.self l fun v hv=>h v (by simp[hv])⟩
  cases a <;> first | exact⟨rfl,DLe.refl _⟩ | exact AVLe.of_eq (AV.ren_id _).symm
theorem gD:∀(avs:List AV) (k i:Nat) (v:AV),avs[i]?=some v→lk (cS k avs) (k+i)=some v
 | [],k,i,v,h=>by simp at h
 | x::avs,k,0,v,h=>by
  simp only[List.getElem?_cons_zero,Option.some.injEq]at h
  subst h
  simp[cS,aJ]
 | x::avs,k,i+1,v,h=>by
  simp only[cS,aJ]
  rw[if_neg (by omega),show k+(i+1)=k+1+i by omega]
  exact gD avs (k+1) i v (by simpa using h)
theorem FnIs.frame {P:Program} {f:FuncId} {avs:List AV} {h0 h1 rows rows':List (Nat×Row)} {res:AV} (lg:b4) (h:FnIs P f avs h0 res rows) (ha:∀v∈avs,v.flat=true∧v.lt 64=true)
  (hr:cb (fun r=>lk h1 r) [] h0) (hi:fy (rho []) (bP h0)=true)
  (hle:Le lg ⟨[(0,res.ren (dZ [] 64))],cq [] 64 h0 rows++aX h1,72,1,64⟩ ⟨[(0,res)],aX rows',72,1,64⟩):FnIs P f avs h1 res rows':=by
 refine⟨h.1,fun C σ w vs hbs hB hw hσ hro hst=>?_⟩
 have hlen:vs.length=avs.length:=by simpa[inSt]using hst.sz
 have hrow:∀r,(inSt avs h1).row r=lk h1 r:=fun r=>dI h1 r
 have hr':cb (inSt avs h1).row [] h0:=by rw[show (inSt avs h1).row=fun r=>lk h1 r from funext hrow]; exact hr
 have hv:∀(i:Nat) (v:AV) (u:Value),avs[i]?=some v→vs[i]?=some u→RelV σ w ((inSt avs h1).X C.X0 σ) v u:=fun i v u h1 h2=>by
  have h3:=gD avs 0 i v h1
  rw[Nat.zero_add]at h3
  obtain⟨u',h4,h5⟩:=hst.env i v h3
  have:u=u':=by simpa[h2]using h4
  rw[this]; exact h5
 have hg:∀v∈avs,v.within (fun r=>r<64):=fun v hv=>by
  obtain⟨i,hi⟩:=List.mem_iff_getElem?.1 hv
  have h3:=gD avs 0 i v hi
  rw[Nat.zero_add]at h3
  exact hst.envG i v h3
 have hXlt:∀b,(inSt avs h1).X C.X0 σ b→b<w.heap.size:=by
  rintro b (hx | ⟨r,row,c,h3,h4⟩)
  ·have:=(hst.x0 b hx).1; have:=hst.size; omega
  ·exact hst.lt h3 h4
 have hent:=hst.enter (l:=[]) (us:=vs) (fun b=>(inSt avs h1).X C.X0 σ b∧¬dN (σ.via (rho [])) h0 b) hlen.symm hv hg (ci.self avs ha) hr' hi (fun b hb=>⟨hXlt b hb.1,hb.2⟩) (fun b hb=>hb.1) (.inl (ic avs))
 refine (h.2 _ _ w vs rfl rfl rfl rfl rfl hent).mono ?_
 rintro e w' ⟨v,σ2,rfl,h2⟩
 obtain⟨σ',h5,h6,h7⟩:=hst.leave (n:=64) (fun r h1 _ h3=>Nat.not_lt.2 h1 h3) rfl hr' rfl (.inl fun b h1 h2=>⟨h1,h2⟩) h2
 have h8:=h5.spread (env':=[(0,res.ren (dZ [] 64))]) (sz':=1) (a':=⟨#[v],[]⟩) (fun i x hx=>by
  simp only[aJ]at hx
  split at hx
  ·rename_i q
   subst q
   simp only[Option.some.injEq]at hx
   subst hx
   exact⟨⟨v,rfl,h6⟩,h7⟩
  ·simp[lk]at hx) rfl trivial
 have h9:=h8.grow (G':=fun r=>r<72) (fun r hr=>by rcases hr with hr | hr <;> (try simp only at hr) <;> omega)
 have h10:aE C (fun r=>r<72) ⟨[(0,res.ren (dZ [] 64))],cq [] 64 h0 rows++aX h1,72,1,64⟩ σ' w' ⟨#[v],[]⟩:= { h9 with }
 exact⟨v,_,rfl,h10.le hle⟩
end Go.Eng
namespace Go.Proofs.YtjfkhlamjdbfkaaGreatDoor
open Go.Eng Go.Plain
set_option maxHeartbeats 32000000
set_option maxRecDepth 20000
attribute [local irreducible] WC RegS RegD SeqQ BlkQ ScoQ RegK CutK Sat SatN FnIs LoopQ aq OpIs
def wm (S:Nat→Prop) (x:POp):D :=.cons (u8s x.kind) (.cons (i6 x.index) (.cons (.re true S (encB x.data)) .nil))
def ee (S:Nat→Prop) (x:HOp):D :=.cons (i6 x.client) (.cons (i6 x.number) (.cons (i6 x.era) (.cons (wm S x.op) (.cons (i6 x.invoked) (.cons (i6 x.returned) (.cons (ff x.value) (.cons (i6 x.err) .nil)))))))
abbrev cU (S:Nat→Prop) (l:List HOp):Row :=.ds 40 41 false (ee S) l
theorem wQ (S:Nat→Prop):AVLe (.d (.sc nil_)) (.d (.re true S (encB []))):=AVLe.d (fun w X cs h=>by
 obtain⟨rfl,_⟩:=h
 exact .inl ⟨rfl,rfl⟩) rfl
theorem xl (S:Nat→Prop) (l:List UInt8) (hlen:l.length≤1048576):FnIs Tryz.prog 38 [.d (encB l)] [(2,.lo S)] (.d (.re true S (encB l))) [(2,.lo S)]:=by
 cases l with
 | nil =>
  have hd:decide ((0:Int)=0)=true:=rfl
  refine aw aa Tryz.func38 rfl rfl rfl ?_;refine sR<|rC<|zW ?_;refine rC ?_;refine rQ iE ?_;refine rC ?_;refine zO<|sR ?_;refine rC<|zT<|aN ?_
  exact⟨trivial,[],lg ⟨⟨_,rfl,wQ S⟩,rfl,trivial⟩ ⟨zR,trivial⟩⟩
 | cons a l =>
  have h0:=qZ (byI (a::l)) (by simp[byI]) (by rw[b5]; exact hlen)
  refine FnIs.new_re (by decide) ?_ rfl rfl rfl (Frz.own rfl) h0
  exact fun _ _ _ _ h=>h
def jN (S:Nat→Prop):Option HOp→D
 | none=>.cons (i6 0) (.cons (i6 0) (.cons (i6 0) (.cons zPOp (.cons (i6 0) (.cons (i6 0) (.cons (.vec 32 1 bt (List.replicate 32 0)) (.cons (i6 0) .nil)))))))
 | some x=>ee S x
theorem vH (S:Nat→Prop) (l:List HOp):di [.d (.arr 41 (ee S) l)] [.d (.arr 41 (jN S) (l.map some))]:=⟨⟨AVLe.d (gZ rfl fun _ _ _ _ _ h=>h) rfl,fun _ _=>trivial⟩,trivial⟩
theorem tP (S:Nat→Prop) (l:List HOp):aY (.ds 40 41 true (jN S) (l.map some)) (.ds 40 41 true (ee S) l):=
 aY.ds_map (fun o=>match o with | some x=>x | none=>⟨0,0,0,zOp,0,0,[],0⟩) (by rw[List.map_map]; exact (List.map_id _).symm) fun x hx=>by
  obtain⟨y,_,rfl⟩:=List.mem_map.1 hx
  exact fun _ _ _ h=>h
theorem ux (S:Nat→Prop) (l:List (Option HOp)) (hp:0<l.length) (hlen:l.length≤1048576):FnIs Tryz.prog 15 [.d (.arr 41 (jN S) l)] [] (.own 64 0 l.length 41 none) [(64,.ds 40 41 true (jN S) l)]:=by
 have hd:decide ((l.length:Int)=0)=false:=dF (by omega)
 have hcp:l.take (List.replicate l.length (none:Option HOp)).length++(List.replicate l.length (none:Option HOp)).drop l.length=l:=by simp
 have hmin:min l.length (List.replicate l.length (none:Option HOp)).length=l.length:=by simp
 refine aw aa Tryz.func15 rfl rfl rfl ?_;refine sR<|rC<|zW ?_;refine rC ?_;refine rQ iE ?_;refine rC ?_;refine zG<|kS<|sR ?_;refine rC ?_;refine rQ iE ?_;refine aG (dH (enc:=jN S) (s:=41) (N:=l.length) aa none rfl rfl rfl rfl rfl rfl rfl hlen rfl) rfl ?_;refine rC<|nR ?_;refine zD ?_;refine aG (gy (r:=64+8+8+8+8+8+8) (xs:=List.replicate l.length none) (ys:=l) (enc:=jN S) (zs:=l) (m:=l.length) aa rfl rfl rfl rfl (by rw[List.length_replicate]; rfl) rfl rfl hcp hmin) rfl<|nR ?_;refine zD<|zT ?_
 exact⟨trivial,[(64,some _)],lg zV ⟨zR,trivial⟩⟩
theorem uy (S:Nat→Prop) (l:List HOp) (hlen:l.length≤1048576):FnIs Tryz.prog 15 [.d (.arr 41 (ee S) l)] [] (.own 64 0 l.length 41 none) [(64,.ds 40 41 true (ee S) l)]:=by
 cases l with
 | nil =>
  have hd:decide ((0:Int)=0)=true:=rfl
  refine aw aa Tryz.func15 rfl rfl rfl ?_;refine sR<|rC<|zW ?_;refine rC ?_;refine rQ iE ?_;refine rC ?_;refine zO<|sR ?_;refine rC<|zT<|aN ?_
  exact⟨trivial,[(64,none)],lg zV ⟨⟨rfl,rfl,rfl⟩,trivial⟩⟩
 | cons a l =>
  generalize hq:a::l=q at *
  have hp:0<q.length:=by rw[←hq]; simp
  have h1:=ux S (q.map some) (by rw[List.length_map]; exact hp) (by rw[List.length_map]; exact hlen)
  rw[List.length_map]at h1
  refine FnIs.args_le (vH S q) (FnIs.frame [(64,some 64)] h1 (by
   intro v hv; simp at hv; subst hv; exact⟨rfl,rfl⟩) trivial rfl ?_)
  exact lg zV ⟨⟨rfl,rfl,_,rfl,tP S q⟩,trivial⟩
abbrev jo (S:Nat→Prop) (s:RdS) (x:HEv) (s':RdS) (b:Bool):Prop:=FnIs Tryz.prog 27 [.ptr 0 [],.d (bx x)] [(0,cC s 1),(1,cU S s.all),(2,.lo S)] (.bool b) [(0,cC s' 64),(64,cU S s'.all),(2,.lo S)]
theorem n3 (S:Nat→Prop) (s:RdS) (x:HEv) (n:Nat) (hs:s.Ok n) (hn:n≤1000000) (k1:x.kind≠1) (k2:x.kind≠2) (k3:x.kind≠3) (c0:Bool) (h0:decide (0≤x.client)=c0):jo S s x { s with read:=s.read+1 } false:=by
 have hr:=hs.read
 have d1:decide (x.kind=1)=false:=dF k1
 have d2:decide (x.kind=2)=false:=dF k2
 have d3:decide (x.kind=3)=false:=dF k3
 have hw:IntKind.i64.wrap (s.read+1)=s.read+1:=aP (by omega) (by omega)
 refine aw aa Tryz.func27 rfl rfl rfl ?_;refine sR<|rN ?_;refine rC<|nR ?_;refine zU ?_;refine rQ iM ?_;refine rC<|nR ?_;refine zU ?_;refine rQ iM ?_;refine rQ iD ?_;refine zD ?_;refine aR (aA aa rfl rfl rfl ⟨_,⟨_,⟨rfl,rfl,rfl⟩,rfl⟩,rfl⟩ rfl)<|nR ?_;refine rC ?_;refine rQ iB ?_;refine zD ?_
 cases c0 with
 | false =>
  iterate 3 refine rS ?_
  refine rQ iF ?_;refine rC<|nR ?_;refine rC ?_;refine rQ iB ?_;refine rQ (bk aa rfl rfl rfl) ?_;refine rQ (bT rfl rfl rfl rfl (by kernel_rfl) (by decide) (bG x.value zBk)) ?_;refine rC<|nQ<|zS ?_;refine rC ?_;refine rQ iB ?_;refine zD ?_;refine zG<|sR ?_;refine rC ?_;refine rQ iB ?_;refine zD ?_;refine zG<|sR ?_;refine rC ?_;refine rQ iB ?_;refine zD ?_;refine zG<|sR ?_;refine rC<|zT<|zB ?_
  exact⟨trivial,[(64,some 1)],lg zV ⟨zR,zR,zR,trivial⟩⟩
 | true =>
  refine rO ?_;refine rC ?_;refine rO ?_;refine rQ iB ?_;refine rO ?_;refine rC ?_;refine rQ iT ?_;refine rC<|nR ?_;refine rC ?_;refine rQ iB ?_;refine rQ (bk aa rfl rfl rfl) ?_;refine rQ (bT rfl rfl rfl rfl (by kernel_rfl) (by decide) (bG x.value zBk)) ?_;refine rC<|nQ<|zS ?_;refine rC ?_;refine rQ iB ?_;refine zD ?_;refine zG<|sR ?_;refine rC ?_;refine rQ iB ?_;refine zD ?_;refine zG<|sR ?_;refine rC ?_;refine rQ iB ?_;refine zD ?_;refine zG<|sR ?_;refine rC<|zT<|zB ?_
  exact⟨trivial,[(64,some 1)],lg zV ⟨zR,zR,zR,trivial⟩⟩
theorem n5 (S:Nat→Prop) (s:RdS) (x:HEv) (n:Nat) (hs:s.Ok n) (hn:n≤1000000) (k3:x.kind=3) (c0 c1 c2 c3:Bool) (h0:decide (0≤x.client)=c0) (h1:decide (x.client=0)=c1) (h2:decide (x.op=zOp)=c2) (h3:decide (x.value=zBk)=c3):jo S s x ⟨dj,s.number,s.era+1,s.read+1,s.all⟩ (c1&&c2&&c3&&decide (x.err=0)):=by
 have hr:=hs.read
 have he:=hs.era
 have d1:decide (x.kind=1)=false:=dF (by omega)
 have d2:decide (x.kind=2)=false:=dF (by omega)
 have d3:decide (x.kind=3)=true:=dT k3
 have hw:IntKind.i64.wrap (s.read+1)=s.read+1:=aP (by omega) (by omega)
 have hw2:IntKind.i64.wrap (s.era+1)=s.era+1:=aP (by omega) (by omega)
 refine aw aa Tryz.func27 rfl rfl rfl ?_;refine sR<|rN ?_;refine rC<|nR ?_;refine zU ?_;refine rQ iM ?_;refine rC<|nR ?_;refine zU ?_;refine rQ iM ?_;refine rQ iD ?_;refine zD ?_;refine aR (aA aa rfl rfl rfl ⟨_,⟨_,⟨rfl,rfl,rfl⟩,rfl⟩,rfl⟩ rfl)<|nR ?_;refine rC ?_;refine rQ iB ?_;refine zD ?_
 cases c0 with
 | false =>
  have e1:c1=false:=by rw[←h1]; exact dF (by have:=of_decide_eq_false h0; omega)
  subst e1
  iterate 3 refine rS ?_
  refine rQ iF ?_;refine rC<|nR ?_;refine rC ?_;refine rQ iB ?_;refine rQ (bk aa rfl rfl rfl) ?_;refine rQ (bT rfl rfl rfl rfl (by kernel_rfl) (by decide) (bG x.value zBk)) ?_;refine rC<|nQ<|zS ?_;refine rC ?_;refine rQ iB ?_;refine zD ?_;refine zG<|sR ?_;refine rC ?_;refine rQ iB ?_;refine zD ?_;refine zG<|sR ?_;refine rC ?_;refine rQ iB ?_;refine zD ?_;refine zI<|sR ?_;refine zU ?_;refine rQ (gI aa rfl rfl rfl) ?_;refine bh rfl (g8 (enc:=i6) (s:=1) (L:=8) aa (0:Int) rfl rfl rfl rfl rfl rfl rfl rfl ⟨_,⟨_,⟨rfl,rfl,rfl⟩,rfl⟩,rfl⟩) rfl rfl<|nR ?_;refine zU ?_;refine rQ iM ?_;refine rQ iD ?_;refine zD ?_;refine aR (aA aa rfl rfl rfl ⟨_,⟨_,⟨rfl,rfl,rfl⟩,rfl⟩,rfl⟩ rfl)<|nR ?_;refine rC ?_;refine rQ iB ?_;refine zD ?_
  iterate 3 refine rS ?_
  refine rQ iF ?_;refine rC ?_;refine rT ?_;refine rQ iG ?_;refine rC ?_;iterate 3 refine rT ?_
  refine rQ iG ?_;refine rC<|zT<|zB ?_
  exact⟨trivial,[(64,some 1)],lg zV ⟨zR,zR,zR,trivial⟩⟩
 | true =>
  refine rO ?_;refine rC ?_;refine rO ?_;refine rQ iB ?_;refine rO ?_;refine rC ?_;refine rQ iT ?_;refine rC<|nR ?_;refine rC ?_;refine rQ iB ?_;refine rQ (bk aa rfl rfl rfl) ?_;refine rQ (bT rfl rfl rfl rfl (by kernel_rfl) (by decide) (bG x.value zBk)) ?_;refine rC<|nQ<|zS ?_;refine rC ?_;refine rQ iB ?_;refine zD ?_;refine zG<|sR ?_;refine rC ?_;refine rQ iB ?_;refine zD ?_;refine zG<|sR ?_;refine rC ?_;refine rQ iB ?_;refine zD ?_;refine zI<|sR ?_;refine zU ?_;refine rQ (gI aa rfl rfl rfl) ?_;refine bh rfl (g8 (enc:=i6) (s:=1) (L:=8) aa (0:Int) rfl rfl rfl rfl rfl rfl rfl rfl ⟨_,⟨_,⟨rfl,rfl,rfl⟩,rfl⟩,rfl⟩) rfl rfl<|nR ?_;refine zU ?_;refine rQ iM ?_;refine rQ iD ?_;refine zD ?_;refine aR (aA aa rfl rfl rfl ⟨_,⟨_,⟨rfl,rfl,rfl⟩,rfl⟩,rfl⟩ rfl)<|nR ?_;refine rC ?_;refine rQ iB ?_;refine zD ?_
  cases c1 with
  | false =>
   iterate 3 refine rS ?_
   refine rQ iF ?_;refine rC ?_;refine rT ?_;refine rQ iG ?_;refine rC ?_;iterate 3 refine rT ?_
   refine rQ iG ?_;refine rC<|zT<|zB ?_
   exact⟨trivial,[(64,some 1)],lg zV ⟨zR,zR,zR,trivial⟩⟩
  | true =>
   refine rO ?_;refine rC ?_;refine rO ?_;refine rQ iB ?_;refine rO ?_;refine rQ (am (fD x.op) rfl rfl (aj ab) (.inl rfl) (fun _=>rfl)) ?_;refine rQ iT ?_;refine rC ?_
   cases c2 with
   | false =>
    refine rS ?_;refine rQ iF ?_;refine rC ?_;iterate 3 refine rT ?_
    refine rQ iG ?_;refine rC<|zT<|zB ?_
    exact⟨trivial,[(64,some 1)],lg zV ⟨zR,zR,zR,trivial⟩⟩
   | true =>
    refine rO ?_;refine rC ?_;refine rQ iT ?_;refine rC ?_
    cases c3 with
    | false =>
     iterate 3 refine rS ?_
     refine rQ iF ?_;refine rC<|zT<|zB ?_
     exact⟨trivial,[(64,some 1)],lg zV ⟨zR,zR,zR,trivial⟩⟩
    | true =>
     refine rO ?_;refine rC ?_;refine rO ?_;refine rQ iB ?_;refine rO ?_;refine rC ?_;refine rQ iT ?_;refine rC<|zT<|zB ?_
     exact⟨trivial,[(64,some 1)],lg zV ⟨zR,zR,zR,trivial⟩⟩
theorem rI (S:Nat→Prop) (s:RdS) (x:HEv) (n:Nat) (hs:s.Ok n) (hn:n≤1000000) (k1:x.kind=1) (m:Int) (hc0:0≤x.client) (hc8:x.client<8) (hbg:s.busy[x.client.toNat]?=some 0) (hng:s.number[x.client.toNat]?=some m) (hd64:x.op.data.length≤64) (hval:x.value=zBk) (herr:x.err=0) :
  jo S s x ⟨s.busy.set x.client.toNat ((s.all.length+1:Nat):Int),s.number.set x.client.toNat (m+1),s.era,s.read+1,s.all++[⟨x.client,m,s.era,x.op,s.read,-1,zBk,0⟩]⟩ true:=by
 have hr:=hs.read
 have ha:=hs.all
 have hm:=hs.number m (List.mem_of_getElem? hng)
 have d1:decide (x.kind=1)=true:=dT k1
 have c0:decide (0≤x.client)=true:=dT hc0
 have c8:decide (x.client<8)=true:=dT hc8
 have n8:(!decide (x.client<8))=false:=by rw[c8]; rfl
 have b0:decide ((0:Int)<0)=false:=rfl
 have l64:decide ((64:Int)<((byI x.op.data).length:Int))=false:=dF (by rw[b5]; omega)
 have v0:(!decide (x.value=zBk))=false:=by rw[dT hval]; rfl
 have e0:(!decide (x.err=0))=false:=by rw[dT herr]; rfl
 have hw:IntKind.i64.wrap (s.read+1)=s.read+1:=aP (by omega) (by omega)
 have hwm:IntKind.i64.wrap (m+1)=m+1:=aP (by omega) (by omega)
 have hlen:x.op.data.length≤1048576:=by omega
 have hal:s.all.length+1≤1048576:=by omega
 simp only[jo,cC,List.length_append,List.length_cons,List.length_nil,Nat.zero_add]
 refine aw aa Tryz.func27 rfl rfl rfl ?_;refine sR<|rN ?_;refine rC<|nR ?_;refine zU ?_;refine rQ iM ?_;refine rC<|nR ?_;refine zU ?_;refine rQ iM ?_;refine rQ iD ?_;refine zD ?_;refine aR (aA aa rfl rfl rfl ⟨_,⟨_,⟨rfl,rfl,rfl⟩,rfl⟩,rfl⟩ rfl)<|nR ?_;refine rC ?_;refine rQ iB ?_;refine zD ?_;refine rO ?_;refine rC ?_;refine rO ?_;refine rQ iB ?_;refine rO ?_;refine rC ?_;refine rQ iT ?_;refine rC<|nR ?_;refine rC ?_;refine rQ iB ?_;refine rQ (bk aa rfl rfl rfl) ?_;refine rQ (bT rfl rfl rfl rfl (by kernel_rfl) (by decide) (bG x.value zBk)) ?_;refine rC<|nQ<|zS ?_;refine rC ?_;refine rQ iB ?_;refine zD ?_;refine zI ?_;iterate 2 refine bD ?_
 refine aH (by kernel_rfl) ?_;refine dC [6] [] ?_;refine dC [37] [] ?_;refine dC [38] [] ?_;refine ak [39,0] [] rfl rfl (by assumption) rfl (aC aa (fun K hk=>hk)) ?_;refine ak [39,3] [] rfl rfl (by assumption) rfl (aC aa (fun K hk=>hk)) ?_;refine ak [39,41] [64] rfl rfl (by assumption) rfl (aV aa rfl rfl ⟨_,rfl,rfl⟩ rfl) ?_;refine ak [39,40] [] rfl rfl (by assumption) rfl (aC aa (fun K hk=>hk)) ?_;refine ak [39,43] [] rfl rfl (by assumption) rfl (aC aa (fun K hk=>hk)) ?_;refine ak [39,44,42] [] rfl rfl (by assumption) rfl (aC aa (fun K hk=>⟨by omega,by omega,hk⟩)) ?_;refine ak [39,45] [0] rfl rfl (by assumption) rfl (aV aa rfl rfl ⟨_,⟨rfl,_,hbg,rfl⟩,rfl⟩ rfl) ?_;refine ak [39,46] [] rfl rfl (by assumption) rfl (aC aa (fun K hk=>hk)) ?_;refine dQ [39,47] [] iF ?_;refine dC [48] [] ?_;refine ak [49,3] [] rfl rfl rfl rfl (aC aa (fun K hk=>hk)) ?_;refine ak [49,50] [] rfl rfl rfl rfl (aC aa (fun K hk=>hk)) ?_;refine ak [49,51] [64] rfl rfl rfl rfl (aV aa rfl rfl ⟨_,rfl,rfl⟩ rfl) ?_;refine ak [49,52] [] rfl rfl rfl rfl (iP aa rfl rfl) ?_;refine ak [49,53] [] rfl rfl rfl rfl (aC aa (fun K hk=>hk)) ?_;refine dQ [49,54] [] iG ?_;refine dC [55] [] ?_;refine ak [56,7] [] rfl rfl (by assumption) rfl (aC aa (fun K hk=>hk)) ?_;refine ak [56,57] [] rfl rfl (by assumption) rfl (aC aa (fun K hk=>hk)) ?_;refine dQ [56,58] [] iF ?_;refine dC [59] [] ?_;refine ak [60,3] [] rfl rfl (by assumption) rfl (aC aa (fun K hk=>hk)) ?_;refine ak [60,61] [64] rfl rfl (by assumption) rfl (aV aa rfl rfl ⟨_,rfl,rfl⟩ rfl) ?_;refine ak [60,62] [] rfl rfl (by assumption) rfl (aC aa (fun K hk=>hk)) ?_;refine dQ [60,63] [] iF ?_;refine aB (by kernel_rfl)<|aK ?_;refine wF<|kS<|sR ?_;refine zD ?_;refine rQ iB ?_;refine aU (bq [(2,some 2)] (xl S x.op.data hlen) rfl rfl rfl (aj ab) ⟨zH,trivial⟩ rfl rfl (.inl rfl) rfl rfl) rfl ?_;refine zD ?_;refine aR (aA aa rfl rfl rfl ⟨_,⟨_,⟨_,⟨_,⟨rfl,rfl,rfl⟩,rfl⟩,rfl⟩,rfl⟩,rfl⟩ rfl)<|nQ ?_;refine aH (by kernel_rfl) ?_;iterate 2 refine dC [0] [] ?_
 refine dC [72] [] ?_;refine dC [73] [] ?_;refine dQ [74] [0] iM ?_;refine dC [3] [] ?_;refine dQ [76] [64] iB ?_;refine dC [0] [] ?_;refine dC [3] [] ?_;refine dQ [79] [64] iB ?_;refine dC [78] [] ?_;refine dC [81] [] ?_;refine dQ [82,80] [] (aC aa (fun K hk=>⟨by omega,by omega,hk⟩)) ?_;refine dQ [83] [0] (aV aa rfl rfl ⟨_,⟨rfl,_,hng,rfl⟩,rfl⟩ rfl) ?_;refine dC [0] [] ?_;refine dC [85] [] ?_;refine dC [86] [] ?_;refine dQ [87] [0] iM ?_;refine dC [3] [] ?_;refine dQ [89] [64] iB ?_;refine dC [5] [] ?_;refine dQ [77,84,88,90,91] [] iS ?_;refine fp [92] [] rfl (aD (s:=41) aa rfl rfl rfl rfl rfl rfl rfl rfl) ?_;refine gX [75,93] [1,784] rfl (aM (enc:=(ee S)) (s:=41) (xs:=s.all) aa ⟨x.client,m,s.era,x.op,s.read,-1,zBk,0⟩ rfl rfl rfl rfl rfl rfl rfl rfl rfl hal rfl) ?_;refine dC [71] [] ?_;refine dC [95] [] ?_;refine bp [96,94] [0] (aA aa rfl rfl rfl ⟨_,⟨_,⟨rfl,rfl,rfl⟩,rfl⟩,rfl⟩ rfl) ?_;refine aB (by kernel_rfl)<|aK<|bD ?_;refine aH (by kernel_rfl) ?_;refine dC [0] [] ?_;refine dC [3] [] ?_;refine dQ [98] [64] iB ?_;refine dC [97] [] ?_;refine dC [100] [] ?_;refine dQ [101,99] [] (aC aa (fun K hk=>⟨by omega,by omega,hk⟩)) ?_;refine dQ [102] [0] (aV aa rfl rfl ⟨_,⟨rfl,_,hng,rfl⟩,rfl⟩ rfl) ?_;refine dQ [103] [] iD ?_;refine dC [97] [] ?_;refine dC [105] [] ?_;refine dQ [106,99] [] (aC aa (fun K hk=>⟨by omega,by omega,hk⟩)) ?_;refine bp [107,104] [0] (aA aa rfl rfl rfl ⟨_,⟨_,⟨_,⟨rfl,_,m+1,hng,⟨rfl,rfl,rfl⟩,rfl⟩,rfl⟩,rfl⟩,rfl⟩ rfl) ?_;refine aB (by kernel_rfl)<|aK ?_;refine aH (by kernel_rfl) ?_;refine dC [0] [] ?_;refine dC [3] [] ?_;refine dQ [109] [64] iB ?_;refine dC [0] [] ?_;refine dC [111] [] ?_;refine dC [112] [] ?_;refine dQ [113] [0] iM ?_;refine dQ [114] [792] (bB aa rfl rfl) ?_;refine dC [108] [] ?_;refine dC [116] [] ?_;refine dQ [117,110] [] (aC aa (fun K hk=>⟨by omega,by omega,hk⟩)) ?_;refine bp [118,115] [0] (aA aa rfl rfl rfl ⟨_,⟨_,⟨_,⟨rfl,_,((s.all.length+1:Nat):Int),hbg,⟨rfl,rfl,rfl⟩,rfl⟩,rfl⟩,rfl⟩,rfl⟩ rfl) ?_;refine aB (by kernel_rfl)<|zC<|sR ?_;refine rC<|zT ?_
 exact⟨trivial,[(64,some _)],lg zV ⟨zR,zR,zR,trivial⟩⟩
theorem ng (S:Nat→Prop) (s:RdS) (x:HEv) (n:Nat) (hs:s.Ok n) (hn:n≤1000000) (k1:x.kind=1) (hno:inv1 s x=false):jo S s x { s with read:=s.read+1 } false:=by
 have hr:=hs.read
 have d1:decide (x.kind=1)=true:=dT k1
 have hw:IntKind.i64.wrap (s.read+1)=s.read+1:=aP (by omega) (by omega)
 refine aw aa Tryz.func27 rfl rfl rfl ?_;refine sR<|rN ?_;refine rC<|nR ?_;refine zU ?_;refine rQ iM ?_;refine rC<|nR ?_;refine zU ?_;refine rQ iM ?_;refine rQ iD ?_;refine zD ?_;refine aR (aA aa rfl rfl rfl ⟨_,⟨_,⟨rfl,rfl,rfl⟩,rfl⟩,rfl⟩ rfl)<|nR ?_;refine rC ?_;refine rQ iB ?_;refine zD ?_
 by_cases hc0:0≤x.client
 ·have c0:decide (0≤x.client)=true:=dT hc0
  refine rO ?_;refine rC ?_;refine rO ?_;refine rQ iB ?_;refine rO ?_;refine rC ?_;refine rQ iT ?_;refine rC<|nR ?_;refine rC ?_;refine rQ iB ?_;refine rQ (bk aa rfl rfl rfl) ?_;refine rQ (bT rfl rfl rfl rfl (by kernel_rfl) (by decide) (bG x.value zBk)) ?_;refine rC<|nQ<|zS ?_;refine rC ?_;refine rQ iB ?_;refine zD ?_;refine zI ?_;iterate 2 refine bD ?_
  refine aH (by kernel_rfl) ?_;refine dC [6] [] ?_;refine dC [37] [] ?_;refine dC [38] [] ?_
  by_cases hc8:x.client<8
  ·have c8:decide (x.client<8)=true:=dT hc8
   have n8:(!decide (x.client<8))=false:=by rw[c8]; rfl
   obtain⟨b,hbg⟩:∃b,s.busy[x.client.toNat]?=some b:=⟨_,List.getElem?_eq_getElem (by rw[hs.blen]; omega)⟩
   have hb:=hs.busy b (List.mem_of_getElem? hbg)
   refine ak [39,0] [] rfl rfl (by assumption) rfl (aC aa (fun K hk=>hk)) ?_;refine ak [39,3] [] rfl rfl (by assumption) rfl (aC aa (fun K hk=>hk)) ?_;refine ak [39,41] [64] rfl rfl (by assumption) rfl (aV aa rfl rfl ⟨_,rfl,rfl⟩ rfl) ?_;refine ak [39,40] [] rfl rfl (by assumption) rfl (aC aa (fun K hk=>hk)) ?_;refine ak [39,43] [] rfl rfl (by assumption) rfl (aC aa (fun K hk=>hk)) ?_;refine ak [39,44,42] [] rfl rfl (by assumption) rfl (aC aa (fun K hk=>⟨by omega,by omega,hk⟩)) ?_;refine ak [39,45] [0] rfl rfl (by assumption) rfl (aV aa rfl rfl ⟨_,⟨rfl,_,hbg,rfl⟩,rfl⟩ rfl) ?_;refine ak [39,46] [] rfl rfl (by assumption) rfl (aC aa (fun K hk=>hk)) ?_;refine dQ [39,47] [] iF ?_;refine dC [48] [] ?_
   by_cases hb0:b=0
   ·have b0:decide (0<b)=false:=dF (by omega)
    refine ak [49,3] [] rfl rfl (by assumption) rfl (aC aa (fun K hk=>hk)) ?_;refine ak [49,50] [] rfl rfl (by assumption) rfl (aC aa (fun K hk=>hk)) ?_;refine ak [49,51] [64] rfl rfl (by assumption) rfl (aV aa rfl rfl ⟨_,rfl,rfl⟩ rfl) ?_;refine ak [49,52] [] rfl rfl (by assumption) rfl (iP aa rfl rfl) ?_;refine ak [49,53] [] rfl rfl (by assumption) rfl (aC aa (fun K hk=>hk)) ?_;refine dQ [49,54] [] iF ?_;refine dC [55] [] ?_
    by_cases hd:x.op.data.length≤64
    ·have l64:decide ((64:Int)<((byI x.op.data).length:Int))=false:=dF (by rw[b5]; omega)
     refine ak [56,7] [] rfl rfl (by assumption) rfl (aC aa (fun K hk=>hk)) ?_;refine ak [56,57] [] rfl rfl (by assumption) rfl (aC aa (fun K hk=>hk)) ?_;refine dQ [56,58] [] iF ?_;refine dC [59] [] ?_
     by_cases hv:x.value=zBk
     ·have v0:(!decide (x.value=zBk))=false:=by rw[dT hv]; rfl
      have e0:(!decide (x.err=0))=true:=by
       skip
       cases h:decide (x.err=0) with
       | false=>rfl
       | true =>
        rw[inv1,c0,c8,hbg,hb0,dT hd,dT hv,h]at hno
        cases hno
      refine ak [60,3] [] rfl rfl (by assumption) rfl (aC aa (fun K hk=>hk)) ?_;refine ak [60,61] [64] rfl rfl (by assumption) rfl (aV aa rfl rfl ⟨_,rfl,rfl⟩ rfl) ?_;refine ak [60,62] [] rfl rfl (by assumption) rfl (aC aa (fun K hk=>hk)) ?_;refine dQ [60,63] [] iF ?_;refine aB (by kernel_rfl)<|aK ?_;refine wT<|sR ?_;refine rC<|zT<|aN<|zB ?_
      exact⟨trivial,[(64,some 1)],lg zV ⟨zR,zR,zR,trivial⟩⟩
     ·have v0:(!decide (x.value=zBk))=true:=by rw[dF hv]; rfl
      refine ae [60,3] rfl rfl (by assumption) rfl ?_;refine ae [60,61] rfl rfl (by assumption) rfl ?_;refine ae [60,62] rfl rfl (by assumption) rfl ?_;refine dQ [60,63] [] iT ?_;refine aB (by kernel_rfl)<|aK ?_;refine wV<|sR ?_;refine rC<|zT<|aN<|zB ?_
      exact⟨trivial,[(64,some 1)],lg zV ⟨zR,zR,zR,trivial⟩⟩
    ·have l64:decide ((64:Int)<((byI x.op.data).length:Int))=true:=dT (by rw[b5]; omega)
     refine ae [56,7] rfl rfl (by assumption) rfl ?_;refine ae [56,57] rfl rfl (by assumption) rfl ?_;refine dQ [56,58] [] iT ?_;refine dC [59] [] ?_;refine ae [60,3] rfl rfl rfl rfl ?_;refine ae [60,61] rfl rfl rfl rfl ?_;refine ae [60,62] rfl rfl rfl rfl ?_;refine dQ [60,63] [] iU ?_;refine aB (by kernel_rfl)<|aK ?_;refine wV<|sR ?_;refine rC<|zT<|aN<|zB ?_
     exact⟨trivial,[(64,some 1)],lg zV ⟨zR,zR,zR,trivial⟩⟩
   ·have b0:decide (0<b)=true:=dT (by omega)
    refine ae [49,3] rfl rfl (by assumption) rfl ?_;refine ae [49,50] rfl rfl (by assumption) rfl ?_;refine ae [49,51] rfl rfl (by assumption) rfl ?_;refine ae [49,52] rfl rfl (by assumption) rfl ?_;refine ae [49,53] rfl rfl (by assumption) rfl ?_;refine dQ [49,54] [] iT ?_;refine dC [55] [] ?_;refine ae [56,7] rfl rfl rfl rfl ?_;refine ae [56,57] rfl rfl rfl rfl ?_;refine dQ [56,58] [] iU ?_;refine dC [59] [] ?_;refine ae [60,3] rfl rfl rfl rfl ?_;refine ae [60,61] rfl rfl rfl rfl ?_;refine ae [60,62] rfl rfl rfl rfl ?_;refine dQ [60,63] [] iU ?_;refine aB (by kernel_rfl)<|aK ?_;refine wV<|sR ?_;refine rC<|zT<|aN<|zB ?_
    exact⟨trivial,[(64,some 1)],lg zV ⟨zR,zR,zR,trivial⟩⟩
  ·have c8:decide (x.client<8)=false:=dF hc8
   have n8:(!decide (x.client<8))=true:=by rw[c8]; rfl
   refine ae [39,0] rfl rfl (by assumption) rfl ?_;refine ae [39,3] rfl rfl (by assumption) rfl ?_;refine ae [39,41] rfl rfl (by assumption) rfl ?_;refine ae [39,40] rfl rfl (by assumption) rfl ?_;refine ae [39,43] rfl rfl (by assumption) rfl ?_;refine ae [39,44,42] rfl rfl (by assumption) rfl ?_;refine ae [39,45] rfl rfl (by assumption) rfl ?_;refine ae [39,46] rfl rfl (by assumption) rfl ?_;refine dQ [39,47] [] iT ?_;refine dC [48] [] ?_;refine ae [49,3] rfl rfl rfl rfl ?_;refine ae [49,50] rfl rfl rfl rfl ?_;refine ae [49,51] rfl rfl rfl rfl ?_;refine ae [49,52] rfl rfl rfl rfl ?_;refine ae [49,53] rfl rfl rfl rfl ?_;refine dQ [49,54] [] iU ?_;refine dC [55] [] ?_;refine ae [56,7] rfl rfl rfl rfl ?_;refine ae [56,57] rfl rfl rfl rfl ?_;refine dQ [56,58] [] iU ?_;refine dC [59] [] ?_;refine ae [60,3] rfl rfl rfl rfl ?_;refine ae [60,61] rfl rfl rfl rfl ?_;refine ae [60,62] rfl rfl rfl rfl ?_;refine dQ [60,63] [] iU ?_;refine aB (by kernel_rfl)<|aK ?_;refine wV<|sR ?_;refine rC<|zT<|aN<|zB ?_
   exact⟨trivial,[(64,some 1)],lg zV ⟨zR,zR,zR,trivial⟩⟩
 ·have c0:decide (0≤x.client)=false:=dF hc0
  iterate 3 refine rS ?_
  refine rQ iF ?_;refine rC<|nR ?_;refine rC ?_;refine rQ iB ?_;refine rQ (bk aa rfl rfl rfl) ?_;refine rQ (bT rfl rfl rfl rfl (by kernel_rfl) (by decide) (bG x.value zBk)) ?_;refine rC<|nQ<|zS ?_;refine rC ?_;refine rQ iB ?_;refine zD ?_;refine zI ?_;iterate 2 refine bD ?_
  refine aH (by kernel_rfl) ?_;refine dC [6] [] ?_;refine dC [37] [] ?_;refine dC [38] [] ?_;refine ae [39,0] rfl rfl rfl rfl ?_;refine ae [39,3] rfl rfl rfl rfl ?_;refine ae [39,41] rfl rfl rfl rfl ?_;refine ae [39,40] rfl rfl rfl rfl ?_;refine ae [39,43] rfl rfl rfl rfl ?_;refine ae [39,44,42] rfl rfl rfl rfl ?_;refine ae [39,45] rfl rfl rfl rfl ?_;refine ae [39,46] rfl rfl rfl rfl ?_;refine dQ [39,47] [] iU ?_;refine dC [48] [] ?_;refine ae [49,3] rfl rfl rfl rfl ?_;refine ae [49,50] rfl rfl rfl rfl ?_;refine ae [49,51] rfl rfl rfl rfl ?_;refine ae [49,52] rfl rfl rfl rfl ?_;refine ae [49,53] rfl rfl rfl rfl ?_;refine dQ [49,54] [] iU ?_;refine dC [55] [] ?_;refine ae [56,7] rfl rfl rfl rfl ?_;refine ae [56,57] rfl rfl rfl rfl ?_;refine dQ [56,58] [] iU ?_;refine dC [59] [] ?_;refine ae [60,3] rfl rfl rfl rfl ?_;refine ae [60,61] rfl rfl rfl rfl ?_;refine ae [60,62] rfl rfl rfl rfl ?_;refine dQ [60,63] [] iU ?_;refine aB (by kernel_rfl)<|aK ?_;refine wV<|sR ?_;refine rC<|zT<|aN<|zB ?_
  exact⟨trivial,[(64,some 1)],lg zV ⟨zR,zR,zR,trivial⟩⟩
theorem nZ (S:Nat→Prop) (s:RdS) (x:HEv) (n:Nat) (hs:s.Ok n) (hn:n≤1000000) (k2:x.kind=2) (b:Int) (o:HOp) (hc0:0≤x.client) (hc8:x.client<8) (hbg:s.busy[x.client.toNat]?=some b) (hb0:b≠0) (hog:s.all[(b-1).toNat]?=some o) (hz:x.op=zOp) (c1 c2 c3:Bool) (h1:(!([0,1,8,9]:List Int).any (fun y=>decide (x.err=y)))=c1) (h2:(!decide (x.value=zBk))=c2) (h3:(!decide (o.op.kind=1))=c3) (h4:(c1||c2&&(c3 || !decide (x.err=0)))=false) :
  jo S s x ⟨s.busy.set x.client.toNat 0,s.number,s.era,s.read+1,s.all.set (b-1).toNat { o with returned:=s.read,value:=x.value,err:=x.err }⟩ true:=by
 have hr:=hs.read
 have ha:=hs.all
 have hb:=hs.busy b (List.mem_of_getElem? hbg)
 have d1:decide (x.kind=1)=false:=dF (by omega)
 have d2:decide (x.kind=2)=true:=dT k2
 have c0:decide (0≤x.client)=true:=dT hc0
 have c8:decide (x.client<8)=true:=dT hc8
 have n8:(!decide (x.client<8))=false:=by rw[c8]; rfl
 have b0:decide (b=0)=false:=dF hb0
 have z0:(!decide (x.op=zOp))=false:=by rw[dT hz]; rfl
 have hw:IntKind.i64.wrap (s.read+1)=s.read+1:=aP (by omega) (by omega)
 have hwb:IntKind.i64.wrap (b-1)=b-1:=aP (by omega) (by omega)
 have hlt:b-1<(s.all.length:Int):=by omega
 have hge:0≤b-1:=by omega
 have hjl:=(List.getElem?_eq_some_iff.1 hog).1
 have hog1:(s.all.set (b-1).toNat { o with returned:=s.read })[(b-1).toNat]?=some { o with returned:=s.read }:=List.getElem?_set_self hjl
 have hog2:(s.all.set (b-1).toNat { o with returned:=s.read,value:=x.value })[(b-1).toNat]?=some { o with returned:=s.read,value:=x.value }:=List.getElem?_set_self hjl
 simp only[jo,cC,List.length_set]
 refine aw aa Tryz.func27 rfl rfl rfl ?_;refine sR<|rN ?_;refine rC<|nR ?_;refine zU ?_;refine rQ iM ?_;refine rC<|nR ?_;refine zU ?_;refine rQ iM ?_;refine rQ iD ?_;refine zD ?_;refine aR (aA aa rfl rfl rfl ⟨_,⟨_,⟨rfl,rfl,rfl⟩,rfl⟩,rfl⟩ rfl)<|nR ?_;refine rC ?_;refine rQ iB ?_;refine zD ?_;refine rO ?_;refine rC ?_;refine rO ?_;refine rQ iB ?_;refine rO ?_;refine rC ?_;refine rQ iT ?_;refine rC<|nR ?_;refine rC ?_;refine rQ iB ?_;refine rQ (bk aa rfl rfl rfl) ?_;refine rQ (bT rfl rfl rfl rfl (by kernel_rfl) (by decide) (bG x.value zBk)) ?_;refine rC<|nQ<|zS ?_;refine rC ?_;refine rQ iB ?_;refine zD ?_;refine zG<|sR ?_;refine rC ?_;refine rQ iB ?_;refine zD ?_;refine zI ?_;iterate 2 refine bD ?_
 refine aH (by kernel_rfl) ?_;refine dC [6] [] ?_;refine dC [123] [] ?_;refine dC [124] [] ?_;refine ak [125,0] [] rfl rfl (by assumption) rfl (aC aa (fun K hk=>hk)) ?_;refine ak [125,3] [] rfl rfl (by assumption) rfl (aC aa (fun K hk=>hk)) ?_;refine ak [125,127] [64] rfl rfl (by assumption) rfl (aV aa rfl rfl ⟨_,rfl,rfl⟩ rfl) ?_;refine ak [125,126] [] rfl rfl (by assumption) rfl (aC aa (fun K hk=>hk)) ?_;refine ak [125,129] [] rfl rfl (by assumption) rfl (aC aa (fun K hk=>hk)) ?_;refine ak [125,130,128] [] rfl rfl (by assumption) rfl (aC aa (fun K hk=>⟨by omega,by omega,hk⟩)) ?_;refine ak [125,131] [0] rfl rfl (by assumption) rfl (aV aa rfl rfl ⟨_,⟨rfl,_,hbg,rfl⟩,rfl⟩ rfl) ?_;refine ak [125,132] [] rfl rfl (by assumption) rfl (aC aa (fun K hk=>hk)) ?_;refine dQ [125,133] [] iF ?_;refine dC [134] [] ?_;refine ak [135,3] [] rfl rfl (by assumption) rfl (aC aa (fun K hk=>hk)) ?_;refine ak [135,136] [64] rfl rfl (by assumption) rfl (aV aa rfl rfl ⟨_,rfl,rfl⟩ rfl) ?_;refine ak [135,137] [] rfl rfl (by assumption) rfl (am (fD x.op) rfl rfl (aj ab) (.inl rfl) (fun _=>rfl)) ?_;refine ak [135,138] [] rfl rfl (by assumption) rfl (aC aa (fun K hk=>hk)) ?_;refine dQ [135,139] [] iF ?_;refine aB (by kernel_rfl)<|aK ?_;refine wF<|zQ ?_;refine aH (by kernel_rfl) ?_;refine dC [0] [] ?_;refine dC [141] [] ?_;refine dC [142] [] ?_;refine dQ [143] [0] iM ?_;refine dC [0] [] ?_;refine dC [3] [] ?_;refine dQ [146] [64] iB ?_;refine dC [145] [] ?_;refine dC [148] [] ?_;refine dQ [149,147] [] (aC aa (fun K hk=>⟨by omega,by omega,hk⟩)) ?_;refine dQ [150] [0] (aV aa rfl rfl ⟨_,⟨rfl,_,hbg,rfl⟩,rfl⟩ rfl) ?_;refine dQ [151] [] (cu aa rfl rfl hwb) ?_;refine dQ [144,152] [] (bc aa rfl rfl rfl rfl rfl (by omega) (by omega)) ?_;refine dC [153] [] ?_;refine aB (by kernel_rfl)<|aK<|sR ?_;refine rQ (aq.frozen (aD (s:=1) aa rfl rfl rfl rfl rfl rfl rfl rfl) (Frz.litsN (enc:=i6) [0,1,8,9] rfl (fun _ _=>rfl))) ?_;refine rC ?_;refine rQ iB ?_;refine rQ (am (nE x.err [0,1,8,9] (by decide)) rfl rfl (aj (aj ab)) (.inl rfl) (fun _=>rfl)) ?_;refine rC<|zW ?_;refine zU ?_
 cases c1 with
 | true=>cases h4
 | false =>
  refine rO ?_;refine rC ?_;refine rO ?_;refine rC ?_;refine rO ?_;refine rC ?_
  cases c2 with
  | false =>
   iterate 7 refine rS ?_
   iterate 3 refine rU ?_
   refine rS ?_;refine rO ?_;iterate 2 refine rQ iF ?_
   refine zJ<|zQ ?_;refine aH (by kernel_rfl) ?_;iterate 3 refine dC [8] [] ?_
   refine dC [5] [] ?_;refine dC [3] [] ?_;refine dQ [181] [64] iB ?_;refine dC [3] [] ?_;refine dQ [183] [64] iB ?_;refine dC [177] [] ?_;refine dC [185] [] ?_;refine bp [186,180] [1] (aA (row':=cU S (s.all.set (b-1).toNat { o with returned:=s.read })) aa rfl rfl rfl ⟨rfl,o, { o with returned:=s.read },hog,⟨_,⟨rfl,rfl,rfl⟩,rfl⟩,rfl⟩ rfl) ?_;refine dC [178] [] ?_;refine dC [187] [] ?_;refine bp [188,182] [1] (aA (row':=cU S (s.all.set (b-1).toNat { o with returned:=s.read,value:=x.value })) aa rfl rfl rfl ⟨rfl,_, { o with returned:=s.read,value:=x.value },hog1,⟨_,⟨rfl,rfl,rfl⟩,rfl⟩,(by rw[List.set_set])⟩ rfl) ?_;refine dC [179] [] ?_;refine dC [189] [] ?_;refine bp [190,184] [1] (aA (row':=cU S (s.all.set (b-1).toNat { o with returned:=s.read,value:=x.value,err:=x.err })) aa rfl rfl rfl ⟨rfl,_, { o with returned:=s.read,value:=x.value,err:=x.err },hog2,⟨_,⟨rfl,rfl,rfl⟩,rfl⟩,(by rw[List.set_set])⟩ rfl) ?_;refine aB (by kernel_rfl)<|aK ?_;refine aH (by kernel_rfl) ?_;refine dC [0] [] ?_;refine dC [3] [] ?_;refine dQ [192] [64] iB ?_;refine dC [191] [] ?_;refine dC [194] [] ?_;refine dQ [195,193] [] (aC aa (fun K hk=>⟨by omega,by omega,hk⟩)) ?_;refine bp [196] [0] (aA aa rfl rfl rfl ⟨_,⟨_,⟨_,⟨rfl,_,0,hbg,⟨rfl,rfl,rfl⟩,rfl⟩,rfl⟩,rfl⟩,rfl⟩ rfl) ?_;refine aB (by kernel_rfl)<|zC<|sR ?_;refine rC<|zT ?_
   exact⟨trivial,[(64,some 1)],lg zV ⟨zR,zR,zR,trivial⟩⟩
  | true =>
   refine rO ?_;refine rC ?_;refine rO ?_;refine rC ?_;refine rO ?_;refine rC ?_;refine rO ?_;refine rC ?_;refine rO ?_;refine rQ (bF aa rfl rfl ⟨rfl,o,hog,_,rfl,rfl⟩ rfl) ?_;refine rO ?_;refine rC ?_;refine rO ?_;refine rC ?_
   cases c3 with
   | true=>cases h4
   | false =>
    have e0:(!decide (x.err=0))=false:=h4
    refine rO ?_;refine rC ?_;refine rO ?_;refine rQ iB ?_;refine rO ?_;refine rC ?_;refine rO ?_;refine rQ iF ?_;refine rO ?_;refine rQ iT ?_;refine rQ iF<|nS ?_;refine wF<|zQ ?_;refine aH (by kernel_rfl) ?_;iterate 3 refine dC [8] [] ?_
    refine dC [5] [] ?_;refine dC [3] [] ?_;refine dQ [181] [64] iB ?_;refine dC [3] [] ?_;refine dQ [183] [64] iB ?_;refine dC [177] [] ?_;refine dC [185] [] ?_;refine bp [186,180] [1] (aA (row':=cU S (s.all.set (b-1).toNat { o with returned:=s.read })) aa rfl rfl rfl ⟨rfl,o, { o with returned:=s.read },hog,⟨_,⟨rfl,rfl,rfl⟩,rfl⟩,rfl⟩ rfl) ?_;refine dC [178] [] ?_;refine dC [187] [] ?_;refine bp [188,182] [1] (aA (row':=cU S (s.all.set (b-1).toNat { o with returned:=s.read,value:=x.value })) aa rfl rfl rfl ⟨rfl,_, { o with returned:=s.read,value:=x.value },hog1,⟨_,⟨rfl,rfl,rfl⟩,rfl⟩,(by rw[List.set_set])⟩ rfl) ?_;refine dC [179] [] ?_;refine dC [189] [] ?_;refine bp [190,184] [1] (aA (row':=cU S (s.all.set (b-1).toNat { o with returned:=s.read,value:=x.value,err:=x.err })) aa rfl rfl rfl ⟨rfl,_, { o with returned:=s.read,value:=x.value,err:=x.err },hog2,⟨_,⟨rfl,rfl,rfl⟩,rfl⟩,(by rw[List.set_set])⟩ rfl) ?_;refine aB (by kernel_rfl)<|aK ?_;refine aH (by kernel_rfl) ?_;refine dC [0] [] ?_;refine dC [3] [] ?_;refine dQ [192] [64] iB ?_;refine dC [191] [] ?_;refine dC [194] [] ?_;refine dQ [195,193] [] (aC aa (fun K hk=>⟨by omega,by omega,hk⟩)) ?_;refine bp [196] [0] (aA aa rfl rfl rfl ⟨_,⟨_,⟨_,⟨rfl,_,0,hbg,⟨rfl,rfl,rfl⟩,rfl⟩,rfl⟩,rfl⟩,rfl⟩ rfl) ?_;refine aB (by kernel_rfl)<|zC<|sR ?_;refine rC<|zT ?_
    exact⟨trivial,[(64,some 1)],lg zV ⟨zR,zR,zR,trivial⟩⟩
theorem nc (S:Nat→Prop) (s:RdS) (x:HEv) (n:Nat) (hs:s.Ok n) (hn:n≤1000000) (k2:x.kind=2) (hno:ret1 s x=false):jo S s x { s with read:=s.read+1 } false:=by
 have hr:=hs.read
 have ha:=hs.all
 have d1:decide (x.kind=1)=false:=dF (by omega)
 have d2:decide (x.kind=2)=true:=dT k2
 have hw:IntKind.i64.wrap (s.read+1)=s.read+1:=aP (by omega) (by omega)
 refine aw aa Tryz.func27 rfl rfl rfl ?_;refine sR<|rN ?_;refine rC<|nR ?_;refine zU ?_;refine rQ iM ?_;refine rC<|nR ?_;refine zU ?_;refine rQ iM ?_;refine rQ iD ?_;refine zD ?_;refine aR (aA aa rfl rfl rfl ⟨_,⟨_,⟨rfl,rfl,rfl⟩,rfl⟩,rfl⟩ rfl)<|nR ?_;refine rC ?_;refine rQ iB ?_;refine zD ?_
 by_cases hc0:0≤x.client
 ·have c0:decide (0≤x.client)=true:=dT hc0
  refine rO ?_;refine rC ?_;refine rO ?_;refine rQ iB ?_;refine rO ?_;refine rC ?_;refine rQ iT ?_;refine rC<|nR ?_;refine rC ?_;refine rQ iB ?_;refine rQ (bk aa rfl rfl rfl) ?_;refine rQ (bT rfl rfl rfl rfl (by kernel_rfl) (by decide) (bG x.value zBk)) ?_;refine rC<|nQ<|zS ?_;refine rC ?_;refine rQ iB ?_;refine zD ?_;refine zG<|sR ?_;refine rC ?_;refine rQ iB ?_;refine zD ?_;refine zI ?_;iterate 2 refine bD ?_
  refine aH (by kernel_rfl) ?_;refine dC [6] [] ?_;refine dC [123] [] ?_;refine dC [124] [] ?_
  by_cases hc8:x.client<8
  ·have c8:decide (x.client<8)=true:=dT hc8
   have n8:(!decide (x.client<8))=false:=by rw[c8]; rfl
   obtain⟨b,hbg⟩:∃b,s.busy[x.client.toNat]?=some b:=⟨_,List.getElem?_eq_getElem (by rw[hs.blen]; omega)⟩
   have hb:=hs.busy b (List.mem_of_getElem? hbg)
   refine ak [125,0] [] rfl rfl (by assumption) rfl (aC aa (fun K hk=>hk)) ?_;refine ak [125,3] [] rfl rfl (by assumption) rfl (aC aa (fun K hk=>hk)) ?_;refine ak [125,127] [64] rfl rfl (by assumption) rfl (aV aa rfl rfl ⟨_,rfl,rfl⟩ rfl) ?_;refine ak [125,126] [] rfl rfl (by assumption) rfl (aC aa (fun K hk=>hk)) ?_;refine ak [125,129] [] rfl rfl (by assumption) rfl (aC aa (fun K hk=>hk)) ?_;refine ak [125,130,128] [] rfl rfl (by assumption) rfl (aC aa (fun K hk=>⟨by omega,by omega,hk⟩)) ?_;refine ak [125,131] [0] rfl rfl (by assumption) rfl (aV aa rfl rfl ⟨_,⟨rfl,_,hbg,rfl⟩,rfl⟩ rfl) ?_;refine ak [125,132] [] rfl rfl (by assumption) rfl (aC aa (fun K hk=>hk)) ?_;refine dQ [125,133] [] iF ?_;refine dC [134] [] ?_
   by_cases hb0:b=0
   ·have b0:decide (b=0)=true:=dT hb0
    refine ae [135,3] rfl rfl (by assumption) rfl ?_;refine ae [135,136] rfl rfl (by assumption) rfl ?_;refine ae [135,137] rfl rfl (by assumption) rfl ?_;refine ae [135,138] rfl rfl (by assumption) rfl ?_;refine dQ [135,139] [] iT ?_;refine aB (by kernel_rfl)<|aK ?_;refine wV<|sR ?_;refine rC<|zT<|aN<|zB ?_
    exact⟨trivial,[(64,some 1)],lg zV ⟨zR,zR,zR,trivial⟩⟩
   ·have b0:decide (b=0)=false:=dF hb0
    refine ak [135,3] [] rfl rfl (by assumption) rfl (aC aa (fun K hk=>hk)) ?_;refine ak [135,136] [64] rfl rfl (by assumption) rfl (aV aa rfl rfl ⟨_,rfl,rfl⟩ rfl) ?_;refine ak [135,137] [] rfl rfl (by assumption) rfl (am (fD x.op) rfl rfl (aj ab) (.inl rfl) (fun _=>rfl)) ?_;refine ak [135,138] [] rfl rfl (by assumption) rfl (aC aa (fun K hk=>hk)) ?_;refine dQ [135,139] [] iF ?_;refine aB (by kernel_rfl)<|aK ?_
    by_cases hz:x.op=zOp
    ·have z0:(!decide (x.op=zOp))=false:=by rw[dT hz]; rfl
     have hwb:IntKind.i64.wrap (b-1)=b-1:=aP (by omega) (by omega)
     have hlt:b-1<(s.all.length:Int):=by omega
     have hge:0≤b-1:=by omega
     obtain⟨o,hog⟩:∃o,s.all[(b-1).toNat]?=some o:=⟨_,List.getElem?_eq_getElem (by omega)⟩
     obtain⟨c1,h1⟩:∃c,(!([0,1,8,9]:List Int).any (fun y=>decide (x.err=y)))=c:=⟨_,rfl⟩
     obtain⟨c2,h2⟩:∃c,(!decide (x.value=zBk))=c:=⟨_,rfl⟩
     obtain⟨c3,h3⟩:∃c,(!decide (o.op.kind=1))=c:=⟨_,rfl⟩
     obtain⟨c4,h4⟩:∃c,(!decide (x.err=0))=c:=⟨_,rfl⟩
     have hc:(c1||c2&&(c3||c4))=true:=by
      have hkn:kn4 x.err = !c1:=by rw[←h1,←kP,Bool.not_not]
      have hv2:decide (x.value=zBk) = !c2:=by rw[←h2,Bool.not_not]
      have hk3:decide (o.op.kind=1) = !c3:=by rw[←h3,Bool.not_not]
      have he4:decide (x.err=0) = !c4:=by rw[←h4,Bool.not_not]
      have hb':decide (some b=some (0:Int))=false:=dF (by simpa using hb0)
      have ho:opOf s x=some o:=by rw[opOf,hbg]; exact hog
      rw[ret1,c0,c8,hbg,hb',dT hz,hkn,hv2,ho]at hno
      simp only[hk3,he4]at hno
      revert hno
      cases c1 <;> cases c2 <;> cases c3 <;> cases c4 <;> decide
     refine wF<|zQ ?_;refine aH (by kernel_rfl) ?_;refine dC [0] [] ?_;refine dC [141] [] ?_;refine dC [142] [] ?_;refine dQ [143] [0] iM ?_;refine dC [0] [] ?_;refine dC [3] [] ?_;refine dQ [146] [64] iB ?_;refine dC [145] [] ?_;refine dC [148] [] ?_;refine dQ [149,147] [] (aC aa (fun K hk=>⟨by omega,by omega,hk⟩)) ?_;refine dQ [150] [0] (aV aa rfl rfl ⟨_,⟨rfl,_,hbg,rfl⟩,rfl⟩ rfl) ?_;refine dQ [151] [] (cu aa rfl rfl hwb) ?_;refine dQ [144,152] [] (bc aa rfl rfl rfl rfl rfl (by omega) (by omega)) ?_;refine dC [153] [] ?_;refine aB (by kernel_rfl)<|aK<|sR ?_;refine rQ (aq.frozen (aD (s:=1) aa rfl rfl rfl rfl rfl rfl rfl rfl) (Frz.litsN (enc:=i6) [0,1,8,9] rfl (fun _ _=>rfl))) ?_;refine rC ?_;refine rQ iB ?_;refine rQ (am (nE x.err [0,1,8,9] (by decide)) rfl rfl (aj (aj ab)) (.inl rfl) (fun _=>rfl)) ?_;refine rC<|zW ?_;refine zU ?_
     cases c1 with
     | true =>
      iterate 3 refine rS ?_
      iterate 11 refine rU ?_
      refine rS ?_;refine rQ iT ?_;refine zO<|sR ?_;refine rC<|zT<|aN<|zB ?_
      exact⟨trivial,[(64,some 1)],lg zV ⟨zR,zR,zR,trivial⟩⟩
     | false =>
      refine rO ?_;refine rC ?_;refine rO ?_;refine rC ?_;refine rO ?_;refine rC ?_
      cases c2 with
      | false=>cases hc
      | true =>
       refine rO ?_;refine rC ?_;refine rO ?_;refine rC ?_;refine rO ?_;refine rC ?_;refine rO ?_;refine rC ?_;refine rO ?_;refine rQ (bF aa rfl rfl ⟨rfl,o,hog,_,rfl,rfl⟩ rfl) ?_;refine rO ?_;refine rC ?_;refine rO ?_;refine rC ?_
       cases c3 with
       | true =>
        iterate 3 refine rS ?_
        refine rO ?_;refine rQ iT ?_;refine rO ?_;refine rQ iT ?_;refine rQ iF ?_;refine zO<|sR ?_;refine rC<|zT<|aN<|zB ?_
        exact⟨trivial,[(64,some 1)],lg zV ⟨zR,zR,zR,trivial⟩⟩
       | false =>
        refine rO ?_;refine rC ?_;refine rO ?_;refine rQ iB ?_;refine rO ?_;refine rC ?_;refine rO ?_;refine rQ iF ?_;refine rO ?_;refine rQ iT ?_;refine rQ iF<|nS ?_
        cases c4 with
        | false=>cases hc
        | true =>
         refine wT<|sR ?_;refine rC<|zT<|aN<|zB ?_
         exact⟨trivial,[(64,some 1)],lg zV ⟨zR,zR,zR,trivial⟩⟩
    ·have z0:(!decide (x.op=zOp))=true:=by rw[dF hz]; rfl
     refine wT<|sR ?_;refine rC<|zT<|aN<|zB ?_
     exact⟨trivial,[(64,some 1)],lg zV ⟨zR,zR,zR,trivial⟩⟩
  ·have c8:decide (x.client<8)=false:=dF hc8
   have n8:(!decide (x.client<8))=true:=by rw[c8]; rfl
   refine ae [125,0] rfl rfl (by assumption) rfl ?_;refine ae [125,3] rfl rfl (by assumption) rfl ?_;refine ae [125,127] rfl rfl (by assumption) rfl ?_;refine ae [125,126] rfl rfl (by assumption) rfl ?_;refine ae [125,129] rfl rfl (by assumption) rfl ?_;refine ae [125,130,128] rfl rfl (by assumption) rfl ?_;refine ae [125,131] rfl rfl (by assumption) rfl ?_;refine ae [125,132] rfl rfl (by assumption) rfl ?_;refine dQ [125,133] [] iT ?_;refine dC [134] [] ?_;refine ae [135,3] rfl rfl rfl rfl ?_;refine ae [135,136] rfl rfl rfl rfl ?_;refine ae [135,137] rfl rfl rfl rfl ?_;refine ae [135,138] rfl rfl rfl rfl ?_;refine dQ [135,139] [] iU ?_;refine aB (by kernel_rfl)<|aK ?_;refine wV<|sR ?_;refine rC<|zT<|aN<|zB ?_
   exact⟨trivial,[(64,some 1)],lg zV ⟨zR,zR,zR,trivial⟩⟩
 ·have c0:decide (0≤x.client)=false:=dF hc0
  iterate 3 refine rS ?_
  refine rQ iF ?_;refine rC<|nR ?_;refine rC ?_;refine rQ iB ?_;refine rQ (bk aa rfl rfl rfl) ?_;refine rQ (bT rfl rfl rfl rfl (by kernel_rfl) (by decide) (bG x.value zBk)) ?_;refine rC<|nQ<|zS ?_;refine rC ?_;refine rQ iB ?_;refine zD ?_;refine zG<|sR ?_;refine rC ?_;refine rQ iB ?_;refine zD ?_;refine zI ?_;iterate 2 refine bD ?_
  refine aH (by kernel_rfl) ?_;refine dC [6] [] ?_;refine dC [123] [] ?_;refine dC [124] [] ?_;refine ae [125,0] rfl rfl rfl rfl ?_;refine ae [125,3] rfl rfl rfl rfl ?_;refine ae [125,127] rfl rfl rfl rfl ?_;refine ae [125,126] rfl rfl rfl rfl ?_;refine ae [125,129] rfl rfl rfl rfl ?_;refine ae [125,130,128] rfl rfl rfl rfl ?_;refine ae [125,131] rfl rfl rfl rfl ?_;refine ae [125,132] rfl rfl rfl rfl ?_;refine dQ [125,133] [] iU ?_;refine dC [134] [] ?_;refine ae [135,3] rfl rfl rfl rfl ?_;refine ae [135,136] rfl rfl rfl rfl ?_;refine ae [135,137] rfl rfl rfl rfl ?_;refine ae [135,138] rfl rfl rfl rfl ?_;refine dQ [135,139] [] iU ?_;refine aB (by kernel_rfl)<|aK ?_;refine wV<|sR ?_;refine rC<|zT<|aN<|zB ?_
  exact⟨trivial,[(64,some 1)],lg zV ⟨zR,zR,zR,trivial⟩⟩
theorem s6 (S:Nat→Prop) (s:RdS) (x:HEv) (n:Nat) (hs:s.Ok n) (hn:n≤1000000):jo S s x (aZ s x).1 (aZ s x).2:=by
 by_cases k1:x.kind=1
 ·cases hi:inv1 s x with
  | false =>
   have h:=ng S s x n hs hn k1 hi
   have e:aZ s x=({ s with read:=s.read+1 },false):=by simp[aZ,k1,hi]
   rw[e]; exact h
  | true =>
   have hi':=hi
   simp only[inv1,Bool.and_eq_true,decide_eq_true_eq]at hi'
   obtain⟨⟨⟨⟨⟨h1,h2⟩,h3⟩,h4⟩,h5⟩,h6⟩:=hi'
   obtain⟨m,hm⟩:∃m,s.number[x.client.toNat]?=some m:=⟨_,List.getElem?_eq_getElem (by rw[hs.nlen]; omega)⟩
   have h:=rI S s x n hs hn k1 m h1 h2 h3 hm h4 h5 h6
   have e:aZ s x=(⟨s.busy.set x.client.toNat ((s.all.length+1:Nat):Int),s.number.set x.client.toNat (m+1),s.era,s.read+1,s.all++[⟨x.client,m,s.era,x.op,s.read,-1,zBk,0⟩]⟩,true):=by
    simp[aZ,k1,hi,hm]
   rw[e]; exact h
 ·by_cases k2:x.kind=2
  ·cases hi:ret1 s x with
   | false =>
    have h:=nc S s x n hs hn k2 hi
    have e:aZ s x=({ s with read:=s.read+1 },false):=by simp[aZ,k2,hi]
    rw[e]; exact h
   | true =>
    have hi':=hi
    simp only[ret1,Bool.and_eq_true,decide_eq_true_eq]at hi'
    obtain⟨⟨⟨⟨⟨h1,h2⟩,h3⟩,h4⟩,h5⟩,h6⟩:=hi'
    obtain⟨b,hbg⟩:∃b,s.busy[x.client.toNat]?=some b:=⟨_,List.getElem?_eq_getElem (by rw[hs.blen]; omega)⟩
    have hb:=hs.busy b (List.mem_of_getElem? hbg)
    have hb0:b≠0:=by rw[hbg]at h3; simpa using h3
    obtain⟨o,hog⟩:∃o,s.all[(b-1).toNat]?=some o:=⟨_,List.getElem?_eq_getElem (by omega)⟩
    have ho:opOf s x=some o:=by rw[opOf,hbg]; exact hog
    rw[ho]at h6
    have h:=nZ S s x n hs hn k2 b o h1 h2 hbg hb0 hog h4 _ _ _ rfl rfl rfl (by
     rw[kP,h5]
     simp only at h6
     revert h6
     cases decide (x.value=zBk) <;> cases decide (o.op.kind=1) <;> cases decide (x.err=0) <;> decide)
    have e:aZ s x=(⟨s.busy.set x.client.toNat 0,s.number,s.era,s.read+1,s.all.set (b-1).toNat { o with returned:=s.read,value:=x.value,err:=x.err }⟩,true):=by
     simp[aZ,k2,hi,ho,hbg]
    rw[e]; exact h
  ·by_cases k3:x.kind=3
   ·have h:=n5 S s x n hs hn k3 _ _ _ _ rfl rfl rfl rfl
    have e:aZ s x=(⟨dj,s.number,s.era+1,s.read+1,s.all⟩,jQ x):=by simp[aZ,k3]
    rw[e]; exact h
   ·have h:=n3 S s x n hs hn k1 k2 k3 _ rfl
    have e:aZ s x=({ s with read:=s.read+1 },false):=by simp[aZ,k1,k2,k3]
    rw[e]; exact h
theorem ql (S:Nat→Prop) (s:RdS) (x:HEv) (n:Nat) (hs:s.Ok n) (hn:n≤1000000):FnIs Tryz.prog 37 [.d (bx x),.ptr 0 []] [(0,.box 82 (fnT 1)),(1,cC s 2),(2,cU S s.all),(3,.lo S)] (.bool (!(aZ s x).2)) [(0,.box 82 (fnT 1)),(1,cC (aZ s x).1 64),(64,cU S (aZ s x).1.all),(3,.lo S)]:=by
 refine aw aa Tryz.func37 rfl rfl rfl ?_;refine sR<|rN ?_;refine rC<|nR ?_;iterate 2 refine rQ iM ?_
 refine bh rfl (nF [(0,some 1),(1,some 2),(2,some 3)] (s6 S s x n hs hn) rfl rfl rfl rfl (bj rfl rfl (aj ab)) ⟨zH,zH,zH,trivial⟩ rfl rfl (.inl rfl) rfl rfl) rfl rfl ?_;refine zD<|zT ?_
 exact⟨trivial,[(64,some _)],lg zV ⟨zR,zR,zR,zR,trivial⟩⟩
theorem vV (S:Nat→Prop) (h:List HEv) (hL:h.length≤1000000) (s0:RdS) (hs0:s0.Ok 0):FnIs Tryz.prog 36 [.d (encH h),fnF 0] [(0,.box 82 (fnT 1)),(1,cC s0 2),(2,cU S s0.all),(3,.lo S)] (.int .i64 (goS s0 h 0).2) [(0,.box 82 (fnT 1)),(1,cC (goS s0 h 0).1 64),(64,cU S (goS s0 h 0).1.all),(3,.lo S)]:=by
 refine aw aa Tryz.func36 rfl rfl rfl ?_;refine sR<|rC<|zW ?_;refine rC ?_;refine rQ iE ?_;refine rC<|zP ?_
 refine wc_inv (fun q:RdS×Nat=>⟨[(8,.int .i64 q.2),(7,.int .i64 h.length),(1,fnF 0),(0,.d (encH h))],[(0,some (.box 82 (fnT 1))),(1,some (cC q.1 65)),(65,some (cU S q.1.all)),(3,some (.lo S))],72,Tryz.f36.ntmps,64⟩) (fun q=>q.2≤h.length∧q.1.Ok q.2∧goS q.1 (h.drop q.2) q.2=goS s0 h 0) (fun q=>h.length-q.2) (s0,0) [(65,some 2)] ⟨Nat.zero_le _,hs0,rfl⟩
  (lg zi ⟨zR,zR,zR,zR,trivial⟩) ?_
 rintro⟨s,i⟩ ⟨hi,hs,hgo⟩
 refine bH<|sR ?_;refine rC<|nQ ?_
 refine bW rfl (fun h2=>?_) (fun h2=>?_)
 ·have hlt:i<h.length:=by have:=of_decide_eq_true h2; omega
  obtain⟨x,hx⟩:∃u,h[i]?=some u:=⟨_,List.getElem?_eq_getElem hlt⟩
  have hx':h[((i:Int)).toNat]?=some x:=by rw[Int.toNat_natCast]; exact hx
  have hfst:=ql S s x i hs (by omega)
  have hst:=gv (s:=s) hx
  rw[hgo]at hst
  cases hb:(aZ s x).2 with
  | false =>
   rw[hb]at hst hfst
   rw[hst]
   refine zQ<|zS<|zD<|nR ?_;refine zU ?_;refine rQ (aI aa rfl rfl rfl rfl rfl (by omega) hx') ?_;refine rQ iL ?_;refine bh rfl (bq [(0,some 0),(1,some 1),(2,some 65),(3,some 3)] hfst rfl rfl rfl (aj (bj rfl rfl ab)) ⟨zH,zH,zH,zH,trivial⟩ rfl rfl (.inl rfl) rfl rfl) rfl rfl ?_;refine zO<|sR ?_;refine zD<|zT<|zB<|b8<|zB ?_
   exact⟨trivial,[(64,some _)],lg zV ⟨zR,zR,zR,zR,trivial⟩⟩
  | true =>
   rw[hb]at hst hfst
   refine zQ<|zS<|zD<|nR ?_;refine zU ?_;refine rQ (aI aa rfl rfl rfl rfl rfl (by omega) hx') ?_;refine rQ iL ?_;refine bh rfl (bq [(0,some 0),(1,some 1),(2,some 65),(3,some 3)] hfst rfl rfl rfl (aj (bj rfl rfl ab)) ⟨zH,zH,zH,zH,trivial⟩ rfl rfl (.inl rfl) rfl rfl) rfl rfl ?_;refine zJ<|aS<|zC<|ai ?_;refine rQ iD ?_;refine rC<|ay ?_
   exact aL ((aZ s x).1,i+1) [(65,some _)] ⟨hlt,hs.next x,hst.symm⟩ (by show h.length-(i+1)<h.length-i; omega) (lg zi ⟨zR,zR,zR,zR,trivial⟩)
 ·have he:i=h.length:=by have:=of_decide_eq_false h2; omega
  subst he
  rw[List.drop_length]at hgo
  rw[←hgo]
  refine zX<|sR<|rC<|zT ?_
  exact⟨trivial,[(64,some _)],lg zV ⟨zR,zR,zR,zR,trivial⟩⟩
theorem mI (S:Nat→Prop) (h:List HEv) (hL:h.length≤1000000) (s0:RdS) (hs0:s0.Ok 0):FnIs Tryz.prog 26 [.d (encH h),fnT 0] [(0,cC s0 1),(1,cU S s0.all),(2,.lo S)] (.int .i64 (goS s0 h 0).2) [(0,cC (goS s0 h 0).1 64),(64,cU S (goS s0 h 0).1.all),(2,.lo S)]:=by
 refine aw aa Tryz.func26 rfl rfl rfl ?_;refine sR<|rN ?_;refine rC<|nR ?_;refine zD ?_;refine bh rfl (bq [(0,some 64),(1,some 0),(2,some 1),(3,some 2)] (vV S h hL s0 hs0) rfl rfl rfl (aj (rp rfl rfl ab)) ⟨zH,zH,zH,zH,trivial⟩ rfl rfl (.inl rfl) rfl rfl) rfl rfl ?_;refine rC<|zT ?_
 exact⟨trivial,[(64,some _)],lg zV ⟨zR,zR,zR,trivial⟩⟩
theorem tA (S:Nat→Prop) (h:List HEv) (hh:h.length≤9223372036854775807):FnIs Tryz.prog 14 [.d (encH h)] [(0,.lo S)] (.tup (.acons (.ptr 64 []) (.acons (.int .i64 (chkH h).1) (.acons (.int .i64 (chkH h).2) .anil)))) [(64,cC (rdH h) 65),(65,cU S (rdH h).all),(0,.lo S)]:=by
 unfold rdH chkH
 obtain⟨Z,hZ⟩:∃Z,decide ((8192:Int)<(h.length:Int))=Z:=⟨_,rfl⟩
 refine aw aa Tryz.func14 rfl rfl rfl ?_;refine sR<|zU<|nR ?_;refine rQ iS ?_;refine rN ?_;refine rC<|nS ?_;refine wD (env':=[(2,.ptr 64 []),(0,.d (encH h))]) (h':=[(64,some (cC rd0 65)),(65,some (cU S [])),(0,some (.lo S))]) 72 [(64,some 96),(65,none)] (lg zk ⟨⟨rfl,rfl,_,rfl,pV⟩,⟨rfl,rfl,rfl⟩,zR,trivial⟩) ?_
 cases Z with
 | true =>
  have h8:8192<h.length:=by have:=of_decide_eq_true hZ; omega
  rw[if_pos h8,if_pos h8]
  refine qR<|rC ?_;refine rQ iE ?_;refine rC ?_;refine zI<|sR ?_;iterate 4 refine rC ?_
  refine zT<|aN ?_
  exact⟨trivial,[(64,some _),(65,some _)],lg zV ⟨zR,zR,zR,trivial⟩⟩
 | false =>
  have h8:¬8192<h.length:=by have:=of_decide_eq_false hZ; omega
  have hL:h.length≤1000000:=by omega
  rw[if_neg h8,if_neg h8]
  by_cases h0:0≤(goS rd0 h 0).2
  ·have d0:decide (0≤(goS rd0 h 0).2)=true:=dT h0
   rw[if_pos h0]
   refine qR<|rC ?_;refine rQ iE ?_;refine rC ?_;refine zG<|kS<|qR ?_;refine zU ?_;refine bh rfl (bq [(0,some 64),(1,some 65),(2,some 0)] (mI S h hL rd0 gm) rfl rfl rfl (aj (kR rfl rfl ab)) ⟨zH,zH,zH,trivial⟩ rfl rfl (.inl rfl) rfl rfl) rfl rfl ?_;refine rC<|nR ?_;refine zD ?_;refine zI<|sR ?_;iterate 5 refine rC ?_
   refine zT<|aN ?_
   exact⟨trivial,[(64,some _),(65,some _)],lg zV ⟨zR,zR,zR,trivial⟩⟩
  ·have d0:decide (0≤(goS rd0 h 0).2)=false:=dF h0
   rw[if_neg h0]
   refine qR<|rC ?_;refine rQ iE ?_;refine rC ?_;refine zG<|kS<|qR ?_;refine zU ?_;refine bh rfl (bq [(0,some 64),(1,some 65),(2,some 0)] (mI S h hL rd0 gm) rfl rfl rfl (aj (kR rfl rfl ab)) ⟨zH,zH,zH,trivial⟩ rfl rfl (.inl rfl) rfl rfl) rfl rfl ?_;refine rC<|nR ?_;refine zD ?_;refine zG<|kS<|sR ?_;iterate 4 refine rC ?_
   refine zT ?_
   exact⟨trivial,[(64,some _),(65,some _)],lg zV ⟨zR,zR,zR,trivial⟩⟩
theorem vY (S:Nat→Prop) (h:List HEv) (hh:h.length≤9223372036854775807) (hal:(rdH h).all.length≤1048576) (h0:(chkH h).2=0):FnIs Tryz.prog 5 [.d (encH h)] [(0,.lo S)] (.tup (.acons (.own 64 0 (rdH h).all.length 41 none) (.acons (.int .i64 0) .anil))) [(64,.ds 40 41 true (ee S) (rdH h).all),(0,.lo S)]:=by
 refine aw aa Tryz.func5 rfl rfl rfl ?_;refine sR<|zD<|nR ?_;refine rC ?_;refine bh rfl (bq [(0,some 0)] (tA S h hh) rfl rfl rfl (aj ab) ⟨zH,trivial⟩ rfl rfl (.inl rfl) rfl rfl) rfl rfl ?_
 iterate 7 refine rC ?_
 refine zW<|zD<|nS ?_
 have d0:(!decide ((chkH h).2=0))=false:=by rw[dT h0]; rfl
 refine wF<|kS<|sR ?_;refine zU ?_;refine rQ iM ?_;refine bE (env':=[(19,_)]) (h':=[(0,some _)]) 89 _ rfl ⟨⟨_,rfl,Frz.own rfl⟩,trivial⟩ ⟨⟨rfl,_,rfl,.refl _⟩,trivial⟩ ?_;refine aG (bq [] (uy S (rdH h).all hal) rfl rfl rfl (aj ab) trivial rfl rfl (.inl rfl) rfl rfl) rfl ?_;refine zD<|zT ?_
 exact⟨trivial,[(64,some _)],lg zV ⟨zR,zR,trivial⟩⟩
end Go.Proofs.YtjfkhlamjdbfkaaGreatDoor
namespace Go.Proofs.YtjfkhlamjdbfkaaGreatDoor
open Go.Eng Go.Plain
set_option maxHeartbeats 32000000
set_option maxRecDepth 20000
def later (h:List HEv) (i:Nat) (s:RdS) (j:Nat) (o:HOp):HOp :=
 if s.busy[o.client.toNat]?=some ((j:Int)+1) then dS o (j7 o.client (h.drop i) i) else o
structure Sync (h:List HEv) (i:Nat) (s:RdS) (out:List HOp) (era:Int):Prop where
 ok:s.Ok i
 len:out.length=s.all.length
 outs:∀(j:Nat) o,s.all[j]?=some o→out[j]?=some (later h i s j o)
 cli:∀(j:Nat) o,s.all[j]?=some o→0≤o.client∧o.client<8
 own:∀(c:Nat) (b:Int),c<8→s.busy[c]?=some b→b≠0→∃o,s.all[(b-1).toNat]?=some o∧o.client=c
 num:∀c:Nat,c<8→s.number[c]?=some (cntC out c)
 era:s.era=era
theorem ns (o:HOp) (r:Option (Nat×HEv)):(dS o r).client=o.client:=by cases r <;> rfl
theorem sK (l:List HOp) (o:HOp) (c:Int):cntC (l++[o]) c=cntC l c+if o.client=c then 1 else 0:=by
 simp only[cntC,List.countP_append,List.countP_cons,List.countP_nil]
 by_cases h:o.client=c <;> simp[h]
theorem p9 (o:HOp):dS o none=o:=rfl
theorem Sync.next {h:List HEv} {i:Nat} {s:RdS} {out:List HOp} {era:Int} {x:HEv} (S:Sync h i s out era) (hx:h[i]?=some x) (ht:(aZ s x).2=true) :
  Sync h (i+1) (aZ s x).1 (if x.kind=3 then out else if x.kind=1 then out++[mkOp h i x out era] else out) (if x.kind=3 then era+1 else era):=by
 have hok:=S.ok.next x
 rcases jp ht with ⟨k1,hi⟩ | ⟨k2,hi⟩ | ⟨k3,hi⟩
 ·obtain⟨c0,c8,hb,_,_,_⟩:=lD hi
  have k3:¬x.kind=3:=by omega
  rw[if_neg k3,if_pos k1,if_neg k3]
  rw[j1 k1 hi]at hok ⊢
  have hbl:=S.ok.blen
  have hnl:=S.ok.nlen
  have hnum:s.number[x.client.toNat]?.getD 0=cntC out x.client:=by
   rw[S.num x.client.toNat (by omega)]
   show cntC out _=_
   rw[Int.toNat_of_nonneg c0]
  have hcc:((x.client.toNat:Nat):Int)=x.client:=Int.toNat_of_nonneg c0
  refine⟨hok,by simp[S.len],fun j o hj=>?_,fun j o hj=>?_,fun c b hc hbc hb0=>?_,fun c hc=>?_,S.era⟩
  ·rcases Nat.lt_or_ge j s.all.length with hlt | hge
   ·have hj':s.all[j]?=some o:=by rw[List.getElem?_append_left hlt]at hj; exact hj
    rw[List.getElem?_append_left (by rw[S.len]; exact hlt),S.outs j o hj']
    obtain⟨o0,o8⟩:=S.cli j o hj'
    congr 1
    unfold later
    simp only
    by_cases he:o.client=x.client
    ·rw[he,hb,if_neg (by simp; omega),List.getElem?_set_self (by omega),if_neg (by simp; omega)]
    ·rw[List.getElem?_set_ne (by omega)]
     split
     ·rw[eQ _ hx,if_neg k3,if_neg (fun e=>he e.symm)]
     ·rfl
   ·have hje:j=s.all.length:=by
     have:=(List.getElem?_eq_some_iff.1 hj).1
     simp at this; omega
    subst hje
    rw[List.getElem?_append_right (Nat.le_refl _),Nat.sub_self]at hj
    simp only[List.getElem?_cons_zero,Option.some.injEq]at hj
    subst hj
    rw[List.getElem?_append_right (by rw[S.len]; exact Nat.le_refl _),S.len,Nat.sub_self]
    simp only[List.getElem?_cons_zero,Option.some.injEq]
    unfold later mkOp
    simp only
    rw[List.getElem?_set_self (by omega),if_pos rfl,cN,hnum,S.era,S.ok.read]
  ·rcases Nat.lt_or_ge j s.all.length with hlt | hge
   ·exact S.cli j o (by rw[List.getElem?_append_left hlt]at hj; exact hj)
   ·rw[List.getElem?_append_right hge]at hj
    have:j-s.all.length=0:=by have:=(List.getElem?_eq_some_iff.1 hj).1; simpa using this
    rw[this]at hj
    simp only[List.getElem?_cons_zero,Option.some.injEq]at hj
    subst hj
    exact⟨c0,c8⟩
  ·simp only at hbc ⊢
   by_cases he:x.client.toNat=c
   ·subst he
    rw[List.getElem?_set_self (by omega)]at hbc
    cases hbc
    refine⟨_,by rw[show ((s.all.length:Int)+1-1).toNat=s.all.length by omega,List.getElem?_append_right (Nat.le_refl _),Nat.sub_self]; rfl,hcc.symm⟩
   ·rw[List.getElem?_set_ne he]at hbc
    obtain⟨o,ho,hoc⟩:=S.own c b hc hbc hb0
    exact⟨o,jb ho,hoc⟩
  ·simp only
   rw[sK,mkOp,ns]
   show _=some (cntC out c+if x.client=(c:Int) then 1 else 0)
   by_cases he:x.client.toNat=c
   ·subst he
    rw[List.getElem?_set_self (by omega),hnum,if_pos hcc.symm,hcc]
   ·rw[List.getElem?_set_ne he,S.num c hc,if_neg (by omega),Int.add_zero]
 ·obtain⟨c0,c8,_,_,b,o,hb,hbp,hog,hof,_⟩:=la S.ok hi
  have k3:¬x.kind=3:=by omega
  have k1:¬x.kind=1:=by omega
  rw[if_neg k3,if_neg k1,if_neg k3]
  rw[j0 k2 hi hb hof]at hok ⊢
  have hbl:=S.ok.blen
  have hcc:((x.client.toNat:Nat):Int)=x.client:=Int.toNat_of_nonneg c0
  obtain⟨o',ho',hoc⟩:=S.own x.client.toNat b (by omega) hb (by omega)
  rw[hog]at ho'
  cases ho'
  rw[hcc]at hoc
  have hbi:(((b-1).toNat:Nat):Int)+1=b:=by omega
  have hlt:=(List.getElem?_eq_some_iff.1 hog).1
  refine⟨hok,by simp[S.len],fun j q hj=>?_,fun j q hj=>?_,fun c d hc hbc hb0=>?_,S.num,S.era⟩
  ·simp only at hj ⊢
   by_cases he:(b-1).toNat=j
   ·subst he
    rw[List.getElem?_set_self hlt]at hj
    cases hj
    rw[S.outs _ o hog]
    congr 1
    unfold later
    simp only
    rw[hoc,hb,if_pos (by rw[hbi]),eQ _ hx,if_neg k3,if_pos rfl,List.getElem?_set_self (by omega),if_neg (by simp; omega),dS,S.ok.read]
    try rw[hoc]
   ·rw[List.getElem?_set_ne he]at hj
    rw[S.outs j q hj]
    obtain⟨q0,q8⟩:=S.cli j q hj
    congr 1
    unfold later
    simp only
    by_cases hq:q.client=x.client
    ·rw[hq,hb,if_neg (by simp; omega),List.getElem?_set_self (by omega),if_neg (by simp; omega)]
    ·rw[List.getElem?_set_ne (by omega)]
     split
     ·rw[eQ _ hx,if_neg k3,if_neg (fun e=>hq e.symm)]
     ·rfl
  ·simp only at hj
   by_cases he:(b-1).toNat=j
   ·subst he
    rw[List.getElem?_set_self hlt]at hj
    cases hj
    exact S.cli _ o hog
   ·rw[List.getElem?_set_ne he]at hj
    exact S.cli j q hj
  ·simp only at hbc ⊢
   by_cases he:x.client.toNat=c
   ·subst he
    rw[List.getElem?_set_self (by omega)]at hbc
    cases hbc
    exact absurd rfl hb0
   ·rw[List.getElem?_set_ne he]at hbc
    obtain⟨q,hq,hqc⟩:=S.own c d hc hbc hb0
    by_cases hed:(b-1).toNat=(d-1).toNat
    ·rw[←hed,hog]at hq
     cases hq
     exact absurd hqc (by omega)
    ·exact⟨q,by rw[List.getElem?_set_ne hed]; exact hq,hqc⟩
 ·have k1:¬x.kind=1:=by omega
  rw[if_pos k3,if_pos k3]
  rw[ia k3]at hok ⊢
  have hz:∀b∈dj,b=0:=by decide
  refine⟨hok,S.len,fun j q hj=>?_,S.cli,fun c d hc hbc hb0=>absurd (hz d (List.mem_of_getElem? hbc)) hb0,S.num,by rw[S.era]⟩
  simp only at hj
  rw[S.outs j q hj]
  congr 1
  unfold later
  simp only
  rw[if_neg (c:=dj[q.client.toNat]?=some ((j:Int)+1)) (fun e=>by have:=hz _ (List.mem_of_getElem? e); omega)]
  split
  ·rw[eQ _ hx,if_pos k3,p9]
  ·rfl
theorem qH (h:List HEv):∀(n:Nat) (s:RdS) (i:Nat) (out:List HOp) (era:Int),h.length-i=n→i≤h.length→Sync h i s out era→(goS s (h.drop i) i).2<0→(goS s (h.drop i) i).1.all=eS h n i out era
 | 0,s,i,out,era,hn,hi,S,_=>by
  have he:i=h.length:=by omega
  subst he
  rw[List.drop_length,eS]
  refine List.ext_getElem? fun j=>?_
  show s.all[j]?=out[j]?
  cases hj:s.all[j]? with
  | none=>rw[List.getElem?_eq_none (by rw[S.len]; exact List.getElem?_eq_none_iff.1 hj)]
  | some o =>
   rw[S.outs j o hj]
   unfold later
   rw[List.drop_length]
   split
   ·rfl
   ·rfl
 | n+1,s,i,out,era,hn,hi,S,hlt=>by
  obtain⟨x,hx⟩:∃x,h[i]?=some x:=⟨_,List.getElem?_eq_getElem (by omega)⟩
  rw[gv hx]at hlt ⊢
  cases hb:(aZ s x).2 with
  | false=>rw[hb]at hlt; simp at hlt; omega
  | true =>
   rw[hb]at hlt
   simp only[if_pos]at hlt ⊢
   have S':=S.next hx hb
   rw[qH h n _ (i+1) _ _ (by omega) (by omega) S' hlt,eS,hx]
   simp only
   by_cases k3:x.kind=3
   ·simp only[k3,if_pos]
   ·by_cases k1:x.kind=1
    ·simp only[if_neg k3,if_pos k1]
    ·simp only[if_neg k3,if_neg k1]
theorem y4 (h:List HEv):Sync h 0 rd0 [] 0:=by
 have hz:∀b∈dj,b=0:=by decide
 refine⟨gm,rfl,fun j o hj=>by simp[rd0]at hj,fun j o hj=>by simp[rd0]at hj,fun c b hc hb h0=>absurd (hz b (List.mem_of_getElem? hb)) h0,fun c hc=>?_,rfl⟩
 obtain⟨b,hb⟩:∃b,dj[c]?=some b:=⟨_,List.getElem?_eq_getElem hc⟩
 show dj[c]?=some 0
 rw[hb,hz b (List.mem_of_getElem? hb)]
theorem tN {h:List HEv} (hc:(chkH h).2=0):(rdH h).all=opsR h:=by
 unfold chkH at hc
 unfold rdH
 by_cases h8:8192<h.length
 ·rw[if_pos h8]at hc; cases hc
 ·rw[if_neg h8]at hc ⊢
  have hlt:(goS rd0 h 0).2<0:=by
   by_cases h0:0≤(goS rd0 h 0).2
   ·rw[if_pos h0]at hc; cases hc
   ·omega
  have:=qH h h.length rd0 0 [] 0 (by omega) (Nat.zero_le _) (y4 h) (by rw[List.drop_zero]; exact hlt)
  rw[List.drop_zero]at this
  exact this
end Go.Proofs.YtjfkhlamjdbfkaaGreatDoor
namespace Go.Eng
open Go.RowKit
section
variable {F : Fence} {n : Nat} {P : Program} {ops : Array Oper} {Q : Exit → Act → World → Prop}
theorem iO {Q Q':Exit→Act→World→Prop} (hq:∀e a w,e ≠ .normal→Q e a w→Q' e a w):LetsOut Q→LetsOut Q':=fun⟨a,w,h⟩=>⟨a,w,hq _ a w (by intro e; cases e) h⟩
theorem jZ {o:Oper} {a:Act} {next next':Act→World→Prop} {Q Q':Exit→Act→World→Prop} (hn:∀a w,next a w→next' a w) (hq:∀e a w,e ≠ .normal→Q e a w→Q' e a w):∀(r:Result Next),o.uponIn F n P a next Q r→o.uponIn F n P a next' Q' r
 | .ok (.value v) w',h=>hn _ _ h
 | .ok .skip w',h=>hn _ _ h
 | .ok (.defer d) w',h=>hn _ _ h
 | .ok (.enter f args) w',h=>⟨h.1,h.2.mono fun e w2 h2=>by
   cases e with
   | returned v=>exact hn _ _ h2
   | panicked c=>exact hq _ _ _ (by intro e; cases e) h2
   | outgrown=>exact iO hq h2⟩
 | .ok (.row row args) w',h=>⟨h.1,h.2.mono fun v w2 h2=>hn _ _ h2⟩
 | .ok (.round l f tmps assign body) w',h=>⟨h.1,h.2.mono fun e w2 h2=>by
   cases e with
   | returned v=>exact hn _ _ h2
   | panicked c=>exact hq _ _ _ (by intro e; cases e) h2
   | outgrown=>exact iO hq h2⟩
 | .halt x w',h=>by
  cases x with
  | panic v=>exact hq _ _ _ (by intro e; cases e) h
  | _=>exact h
theorem ez:∀(l1 l2:List Oper) (a:Act) (w:World),wpListIn F n P ops (fun e a w=>match e with | .normal=>wpListIn F n P ops Q l2 a w | e=>Q e a w) l1 a w→wpListIn F n P ops Q (l1++l2) a w
 | [],l2,a,w,h=>h
 | o::l1,l2,a,w,h=>by
  rw[List.cons_append]
  rw[wpListIn]at h ⊢
  split at h <;> rename_i hw
  ·rw[if_pos hw]
   refine⟨h.1,jZ (fun a w h=>ez l1 l2 a w h) (fun e a w he h=>?_) _ h.2⟩
   cases e <;> first | exact absurd rfl he | exact h
  ·rw[if_neg hw]
   exact⟨h.1,ez l1 l2 _ w h.2⟩
end
section
variable {S : Nat → Prop} {P : Program} {T : Tab} {sz : Nat} {all l l1 l2 : List Oper} {n : Nat} {env : Env} {h : Upds} {K : Env → Upds → Nat → Prop} {Q : Exit → St → Prop}
end
end Go.Eng
namespace Go.Eng
open Go.RowKit
section
variable {S : Nat → Prop} {P : Program} {sz : Nat} {n : Nat} {env : Env} {h : Upds} {Q : Exit → St → Prop} {c : Code}
theorem vm {r:Nat} {t:TypeId} {x:D} (env':(Nat→Prop)→Env) (hr:bd h r=some (.box t (.d x))) (hlt:Nat.blt r n=true) (hn:Nat.ble 64 n=true) (hE:∀S,eW S env (env' S))
  (h1:∀S,SatC S P c Q ⟨env' S,(r,some (.box t (.d (.re false (NotS S) x))))::(n,some (.lo S))::h,n+8,sz,64⟩):WC P sz c Q env h n :=
 td (st:=⟨env,h,n,sz,64⟩) env' (by rw[←hr]; exact (bY (st:=⟨env,h,n,sz,64⟩) (r:=r)).symm) hlt hE (Nat.le_of_ble_eq_true hn) h1
theorem pv (h1:WC P sz c Q env h n):SatC S P c Q ⟨env,h,n,sz,64⟩:=Sat.toC h1
theorem dG {x y:Code} (h1:WC P sz x (SeqT S P y Q) env h n):SatC S P (.seq x y) Q ⟨env,h,n,sz,64⟩:=iy (Sat.toC h1)
end
section
variable {S : Nat → Prop} {P : Program} {T : Tab} {sz : Nat} {all l : List Oper} {n : Nat} {env : Env} {h : Upds} {K : Env → Upds → Nat → Prop}
theorem vt (hT:ao P T) {p:Value→Prop} {m:Nat} {j:Int} {k:IntKind} {t e:TypeId} {re:TyR} {x i:Operand} {d:Tmp} {ty:TypeId} {pos:String} {af:Array Edge} (hd:Nat.blt d sz=true) (ht:aW T t=some (.slice e)) (he:lk T e=some re) (hs:Nat.beq re.size 1=true)
  (hx:au env x=some (.d (.jk S p m))) (hi:au env i=some (.int k j)) (h0:0≤j) (h1:j<(m:Int)) (hone:∀u,p u→u.oneCell'=true)
  (next:∀u,p u→RegC S P all sz l (n+8) ((d,.d (.re true S (.pt (.sc u))))::env) h K):RegC S P all sz (⟨some d,.indexAddr t x i,ty,pos,af,none⟩::l) n env h K:=by
 intro C σ w a hS hst Q hQ
 unfold wpListIn
 rw[if_pos (show Region.wanted (⟨some d,.indexAddr t x i,ty,pos,af,none⟩:Oper) (yielded all.toArray a.tmps)=true from rfl)]
 have key:=wO (l:=[]) (K:=fun env' h' n'=>∃u,p u∧env'=(d,.d (.re true S (.pt (.sc u))))::env∧h'=h∧n'=n+8) (all:=all) (P:=P) (sz:=sz) (n:=n) (h:=h) (ty:=ty) (pos:=pos) (af:=af) hT hd ht he hs hx hi h0 h1 hone (fun u hu=>nm ⟨u,hu,rfl,rfl,rfl⟩)
 have k2:=key C σ w a hst (fun e a w=>match e with | .normal=>wpListIn (fen C.ro) 0 P all.toArray Q l a w | e=>Q e a w) ?_
 ·rw[wpListIn,if_pos (show Region.wanted (⟨some d,.indexAddr t x i,ty,pos,af,none⟩:Oper) (yielded all.toArray a.tmps)=true from rfl)]at k2
  refine⟨k2.1,jZ (fun a w h=>h) (fun e a w he h=>?_) _ k2.2⟩
  cases e <;> first | exact absurd rfl he | exact h
 ·rintro env' h' n' σ' w' a' ⟨u,hu,rfl,rfl,rfl⟩ hst'
  exact next u hu C σ' w' a' hS hst' Q hQ
theorem tv {l1 l2:List Oper} (hl:l=l1++l2) (h1:RegS P all sz l1 n env h (fun env h n=>RegC S P all sz l2 n env h K)):RegC S P all sz l n env h K:=by
 intro C σ w a hS hst Q hQ
 rw[hl]
 refine ez _ _ _ _ (h1 C σ w a hst _ fun env h n σ w a hk hst=>hk C σ w a hS hst Q hQ)
end
section
variable {S : Nat → Prop} {P : Program} {sz n i : Nat} {env : Env} {h : Upds} {Q : Exit → St → Prop} {b : Code} {st : St}
theorem tu (h1:Q .normal ⟨env,h,n,sz,64⟩):RegK (BlkQ i Q) sz env h n:=h1
theorem xx (h1:Q .normal st):BlkQ i Q .normal st:=h1
theorem uY (h1:Q .normal st):BlkQ i Q (.exit i) st:=by
 show (if i=i then Q .normal st else Q (.exit i) st)
 rw[if_pos rfl]; exact h1
theorem tc (h1:Q (.exit i) st):SeqT S P b Q (.exit i) st:=h1
theorem loopQ_x.{u} {α:Type u} {mk:α→St} {Inv:α→Prop} {μ:α→Nat} {a:α} (h1:Q (.exit i) st):LoopQ Q mk Inv μ a (.exit i) st:=h1
end
end Go.Eng
namespace Go.Proofs.YtjfkhlamjdbfkaaGreatDoor
open Go.Eng Go.Plain
set_option maxHeartbeats 32000000
set_option maxRecDepth 20000
set_option linter.unusedVariables false
attribute [local irreducible] WC RegS RegD SeqQ BlkQ ScoQ RegK CutK Sat SatN FnIs LoopQ aq OpIs
abbrev isB (u:Value):Prop:=∃z,u=.int .u8 z
def wl (S:Nat→Prop) (x:POp):D :=.cons (u8s x.kind) (.cons (i6 x.index) (.cons (.jk S isB x.data.length) .nil))
def qo (S:Nat→Prop) (x:HOp):D :=.cons (i6 x.client) (.cons (i6 x.number) (.cons (i6 x.era) (.cons (wl S x.op) (.cons (i6 x.invoked) (.cons (i6 x.returned) (.cons (ff x.value) (.cons (i6 x.err) .nil)))))))
theorem w8 {S:Nat→Prop} {x:HOp}:DLe (ee S x) (cg x):=by
 rintro w X cs ⟨a1,r1,rfl,h1,a2,r2,rfl,h2,a3,r3,rfl,h3,a4,r4,rfl,⟨b1,q1,rfl,g1,b2,q2,rfl,g2,b3,q3,rfl,g3,g4⟩,h5⟩
 exact⟨a1,_,rfl,h1,a2,_,rfl,h2,a3,_,rfl,h3,_,r4,rfl,⟨b1,_,rfl,g1,b2,_,rfl,g2,b3,q3,rfl,DLe.re w X b3 g3,g4⟩,h5⟩
theorem vK {S:Nat→Prop} {x:HOp}:DLe (ee S x) (qo S x):=by
 rintro w X cs ⟨a1,r1,rfl,h1,a2,r2,rfl,h2,a3,r3,rfl,h3,a4,r4,rfl,⟨b1,q1,rfl,g1,b2,q2,rfl,g2,b3,q3,rfl,g3,g4⟩,h5⟩
 exact⟨a1,_,rfl,h1,a2,_,rfl,h2,a3,_,rfl,h3,_,r4,rfl,⟨b1,_,rfl,g1,b2,_,rfl,g2,b3,q3,rfl,DLe.re_jk (b5 _) (fun z=>⟨z,rfl⟩) w X b3 g3,g4⟩,h5⟩
theorem gR (h:List HEv):∀(n i:Nat) (out:List HOp) (era:Int),(eS h n i out era).length≤out.length+n
 | 0,_,out,_=>by simp[eS]
 | n+1,i,out,era=>by
  rw[eS]
  split
  ·omega
  ·split
   ·have:=gR h n (i+1) out (era+1); omega
   ·split
    ·rename_i x _ _ _
     have:=gR h n (i+1) (out++[mkOp h i x out era]) era
     rw[List.length_append,List.length_singleton]at this
     omega
    ·have:=gR h n (i+1) out era; omega
theorem lq (h:List HEv):(opsR h).length≤h.length:=by
 have:=gR h h.length 0 [] 0
 simpa[opsR]using this
theorem fP (h:List HEv) (hd:∀x∈h,x.op.data.length≤64):∀(n i:Nat) (out:List HOp) (era:Int),(∀o∈out,o.op.data.length≤64)→∀o∈eS h n i out era,o.op.data.length≤64
 | 0,_,out,_,ho=>by rw[eS]; exact ho
 | n+1,i,out,era,ho=>by
  rw[eS]
  split
  ·exact ho
  ·rename_i x hx
   split
   ·exact fP h hd n (i+1) out (era+1) ho
   ·split
    ·refine fP h hd n (i+1) _ era fun o hm=>?_
     rcases List.mem_append.1 hm with hm | hm
     ·exact ho o hm
     ·rw[List.mem_singleton]at hm
      subst hm
      have:(mkOp h i x out era).op=x.op:=by unfold mkOp dS; split <;> rfl
      rw[this]
      exact hd x (List.mem_of_getElem? hx)
    ·exact fP h hd n (i+1) out era ho
theorem tf (S:Nat→Prop) (p q:List HOp) (hL:p.length≤1000000000):FnIs Tryz.prog 6 [.d (.arr 41 (ee S) p),.d (dO q)] [] (.d (i6 (if p=q then 1 else 0))) []:=
 FnIs.args_le (show di [.d (.arr 41 (ee S) p),.d (dO q)] [.d (dO p),.d (dO q)] from⟨⟨AVLe.d (gZ (g:=id) (List.map_id _).symm fun _ _=>w8) rfl,fun _ _=>trivial⟩,⟨AVLe.of_eq rfl,fun _ _=>trivial⟩,trivial⟩) (k9 p q hL)
theorem sj (z:List XE):FnIs Tryz.prog 3 [.d (kj z)] [] (.bool true) []:=by
 have hx:=xf z
 obtain⟨hl,hc,hok,hwf⟩:=uk z
 generalize hOf z=h at *
 have hal:=tN (h:=h) (by rw[hc])
 have hso:=fun S=>show FnIs Tryz.prog 6 [.d (.arr 41 (ee S) (opsR h)),.d (dO (opsR h))] [] (.d (i6 1)) [] from by
  have:=tf S (opsR h) (opsR h) (by have:=lq h; omega)
  rwa [if_pos rfl]at this
 have hsm:=ss h h (by omega)
 have hro:=qI h (by omega)
 have hop:=fun S=>vY S h (by omega) (by rw[hal]; have:=lq h; omega) (by rw[hc])
 rw[hal]at hop
 rw[if_pos rfl]at hsm
 have hol:=lq h
 have hdl:∀o∈opsR h,o.op.data.length≤64:=fP h (fun x hx=>vk (hwf x hx)) h.length 0 [] 0 (fun o ho=>by cases ho)
 generalize opsR h=l at *
 have q1:(!decide ((l.length:Int)=(l.length:Int)))=false:=by rw[dT rfl]; rfl
 refine aw aa Tryz.func3 rfl rfl rfl ?_;refine sR<|rN ?_;refine rC<|nR ?_;refine rQ iM ?_;refine rQ (am hx rfl rfl (aj ab) (.inl rfl) (fun _=>rfl)) ?_;refine rC<|nS ?_
 refine vm (r:=64) (fun S=>[(1,.ptr 64 []),(3,.d (.re false (NotS S) (encH h)))]) rfl rfl rfl (fun S=>.keep rfl (.old rfl .nil)) (fun S=>?_)
 refine dG<|ai ?_;refine rC ?_;refine bh rfl (bq [(0,some 104)] (hop S) rfl rfl rfl (m5 rfl trivial DLe.re ab) ⟨zH,trivial⟩ rfl rfl (.inl rfl) rfl rfl) rfl rfl ?_
 iterate 5 refine rC ?_
 refine ay ?_
 refine fJ (dG ?_)
 refine sR<|zU ?_;refine rP ?_;refine rC ?_;refine rP ?_;refine rQ (sM aa rfl rfl rfl) ?_;refine rP ?_;refine rC ?_;refine rP ?_;refine rQ (bB aa rfl rfl) ?_;refine rP ?_;refine rC ?_;refine rQ iG ?_;refine rC ?_;refine rO ?_;refine rC ?_;refine rO ?_;refine rC ?_;refine rO ?_;refine rQ (am hro rfl rfl (m5 rfl trivial DLe.re ab) (.inl rfl) (fun _=>rfl)) ?_;refine rO ?_;refine rQ (am (hso S) rfl rfl (nG rfl (aj ab)) (.inr (cJ.sc _)) (fun _=>rfl)) ?_;refine rO ?_;refine rC ?_;refine rQ iF ?_;refine zJ<|aS ?_
 refine fJ (iy (dG ?_))
 refine ai<|rC<|ay ?_
 refine fJ (fK ?_)
 refine satC_inv (fun i:Nat=>⟨[(1,.ptr 64 []),(3,.d (.re false (NotS S) (encH h))),(4,.own 65 0 l.length 41 none),(6,.int .i64 (i:Nat))],[(65,some (.ds 40 41 true (qo S) l)),(64,some (.box 24 (.d (.re false (NotS S) (kj z)))))],500,Tryz.f3.ntmps,64⟩) (fun i=>i≤l.length) (fun i=>l.length-i) 0 [(65,some 120)] (Nat.zero_le _)
  (lg zi ⟨⟨rfl,rfl,_,rfl,aY.ds_map id (List.map_id _).symm fun _ _=>vK⟩,zR,trivial⟩) ?_
 intro i hi
 by_cases hlt:i<l.length
 ·have c1:decide ((i:Int)<(l.length:Int))=true:=dT (by omega)
  obtain⟨o,ho⟩:∃o,l[i]?=some o:=⟨_,List.getElem?_eq_getElem hlt⟩
  have hd64:=hdl o (List.mem_of_getElem? ho)
  have hgi:l[((i:Int)).toNat]?=some o:=by rw[Int.toNat_natCast]; exact ho
  refine dG<|sR ?_;refine zD ?_;refine rQ (bB aa rfl rfl) ?_;refine rC ?_;refine zI<|aS ?_
  refine fJ (iy (fK (dG ?_)))
  refine ai<|rC<|ay ?_
  refine fJ (fK ?_)
  refine satC_inv (fun k:Nat=>⟨[(1,.ptr 64 []),(3,.d (.re false (NotS S) (encH h))),(4,.own 65 0 l.length 41 none),(6,.int .i64 (i:Nat)),(7,.int .i64 (k:Nat))],[(65,some (.ds 40 41 true (qo S) l)),(64,some (.box 24 (.d (.re false (NotS S) (kj z)))))],800,Tryz.f3.ntmps,64⟩) (fun k=>k≤o.op.data.length) (fun k=>o.op.data.length-k) 0 [] (Nat.zero_le _)
   (lg zh ⟨zR,zR,trivial⟩) ?_
  intro k hk
  by_cases hlk:k<o.op.data.length
  ·have c2:decide ((k:Int)<(o.op.data.length:Int))=true:=dT (by omega)
   refine dG<|sR ?_;refine zU ?_;refine rQ (bc aa rfl rfl rfl rfl rfl (by omega) (by omega)) ?_;refine zD ?_;refine rQ (bF (v :=.d (.jk S isB o.op.data.length)) aa rfl rfl ⟨rfl,o,hgi,.jk S isB o.op.data.length,rfl,rfl⟩ rfl) ?_;refine rQ (ub aa rfl rfl) ?_;refine rC ?_;refine zI<|aS ?_
   refine fJ (iy (fK (n7 ?_)))
   refine tv (l1:=[_,_,_,_,_,_,_]) rfl ?_;refine zD ?_;refine rQ (bc aa rfl rfl rfl rfl rfl (by omega) (by omega)) ?_;refine zD ?_;refine rQ (bF (v :=.d (.jk S isB o.op.data.length)) aa rfl rfl ⟨rfl,o,hgi,.jk S isB o.op.data.length,rfl,rfl⟩ rfl) ?_;refine rC ?_;refine nm ?_
   refine vt (p:=isB) (m:=o.op.data.length) (j:=(k:Int)) (k :=.i64) aa rfl rfl rfl rfl rfl rfl (by omega) (by omega) (fun u ⟨z,e⟩=>by rw[e]; rfl) (fun u hu=>?_)
   refine pP (v :=.int .u8 99) aa [(1,.ptr 64 []),(3,.d (.re false (NotS S) (encH h))),(4,.own 65 0 l.length 41 none),(6,.int .i64 (i:Nat)),(7,.int .i64 (k:Nat))] rfl rfl rfl (.cons rfl trivial (.cons rfl (fun _ h=>h) (.cons rfl trivial (.cons rfl trivial (.cons rfl trivial .nil))))) ⟨fun x=>⟨trivial,trivial,trivial,⟨trivial,trivial,⟨99,rfl⟩,trivial⟩,trivial,trivial,fun _=>trivial,trivial,trivial⟩,fun _ h=>h,trivial⟩ ?_
   refine tw (tu (fJ (pv ?_)))
   refine ai<|rC ?_;refine rQ iD ?_;refine rC<|ay ?_
   exact aL (k+1) [] (show k+1≤_ by omega) (by show o.op.data.length-(k+1)<o.op.data.length-k; omega) (lg zh ⟨zR,zR,trivial⟩)
  ·have c2:decide ((k:Int)<(o.op.data.length:Int))=false:=dF (by omega)
   refine dG<|sR ?_;refine zU ?_;refine rQ (bc aa rfl rfl rfl rfl rfl (by omega) (by omega)) ?_;refine zD ?_;refine rQ (bF (v :=.d (.jk S isB o.op.data.length)) aa rfl rfl ⟨rfl,o,hgi,.jk S isB o.op.data.length,rfl,rfl⟩ rfl) ?_;refine rQ (ub aa rfl rfl) ?_;refine rC ?_;refine zG<|cz ?_
   refine tc (loopQ_x (uY (xx (fJ (pv ?_)))))
   refine ai<|rC ?_;refine rQ iD ?_;refine rC<|ay ?_
   exact aL (i+1) [] (show i+1≤_ by omega) (by show l.length-(i+1)<l.length-i; omega) (lg zi ⟨zR,zR,trivial⟩)
 ·have c1:decide ((i:Int)<(l.length:Int))=false:=dF (by omega)
  refine dG<|sR ?_;refine zD ?_;refine rQ (bB aa rfl rfl) ?_;refine rC ?_;refine zG<|cz ?_
  refine tc (loopQ_x (uY (fJ (pv ?_))))
  refine sR<|rC ?_;refine rQ iM ?_;refine rQ (am hx rfl rfl (m5 rfl trivial DLe.re ab) (.inl rfl) (fun _=>rfl)) ?_;refine rQ (am hsm rfl rfl (m5 rfl trivial DLe.re (aj ab)) (.inl rfl) (fun _=>rfl)) ?_;refine zD ?_;refine rP ?_;refine rQ (am qb rfl rfl ab (.inl rfl) (fun _=>rfl)) ?_;refine rQ iU ?_;refine rC<|zT ?_
  exact⟨trivial,[],lf⟩
end Go.Proofs.YtjfkhlamjdbfkaaGreatDoor
namespace Go.Proofs.YtjfkhlamjdbfkaaGreatDoor
open Go.Eng Go.Plain
set_option maxHeartbeats 32000000
set_option maxRecDepth 20000
theorem wW {a:Int} (h:(Lit.int .u8 a).wf=true):0≤a∧a≤255:=by
 simp[Lit.wf,IntKind.min,IntKind.max,IntKind.bits,IntKind.signed]at h
 omega
def toB (l:List Int):List UInt8:=l.map fun z=>z.toNat.toUInt8
theorem m9 {a:Int} (h:(Lit.int .u8 a).wf=true):((a.toNat.toUInt8.toNat:Nat):Int)=a:=by
 obtain⟨h1,h2⟩:=wW h
 simp only[Nat.toUInt8_eq,UInt8.toNat_ofNat']
 omega
theorem vI:gi Tryz.prog 45 3 q6 fun _=>True :=
 gi.map (iH (P:=Tryz.prog) Tryz.underlying45 (by kernel_rfl) (fun _=>rfl) (fb rfl (by kernel_rfl) (jw (P:=Tryz.prog) Tryz.underlying5) (fb rfl (by kernel_rfl) (jw (P:=Tryz.prog) Tryz.underlying5) (fb rfl (by kernel_rfl) (jw (P:=Tryz.prog) Tryz.underlying5) lu))))
  (fun q=>⟨q.1.toNat.toUInt8,q.2.1.toNat.toUInt8,q.2.2.1.toNat.toUInt8⟩) (fun q h=>by simp only[q6,m9 h.1,m9 h.2.1,m9 h.2.2.1]) (fun _ _=>trivial)
theorem tQ:gi Tryz.prog 24 1 kj fun _=>True :=
 gi.map (iH (P:=Tryz.prog) Tryz.underlying24 (by kernel_rfl) (fun _=>rfl) (fb rfl (by kernel_rfl)
  (oz (P:=Tryz.prog) Tryz.underlying22 (by kernel_rfl) vI) lu))
  (fun q=>q.1) (fun _ _=>rfl) (fun _ _=>trivial)
end Go.Proofs.YtjfkhlamjdbfkaaGreatDoor
