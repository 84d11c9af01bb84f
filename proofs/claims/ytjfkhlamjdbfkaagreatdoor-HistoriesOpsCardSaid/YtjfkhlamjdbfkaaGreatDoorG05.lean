/- Texts of the proof: H9, H10, H11, H14, H15, H16, HT, H12, HV, Eng88, Eng87, Eng89, H21, H17, P45, H18, H19, H20, H22, H13, H23, H24, H27, H28, H29, H25. -/
import Derived.Test.YtjfkhlamjdbfkaaGreatDoorG04
import Derived.Test.YtjfkhlamjdbfkaaGreatDoorG03
import Derived.Test.YtjfkhlamjdbfkaaGreatDoorG02
import Derived.Maps.RangeRun

set_option linter.unusedVariables false
set_option linter.unusedSimpArgs false
set_option linter.unusedSectionVars false
set_option maxRecDepth 10000

namespace Go.Proofs.YtjfkhlamjdbfkaaGreatDoor
open Go.Eng Go.Plain
set_option maxHeartbeats 32000000
set_option maxRecDepth 20000
attribute [local irreducible] WC RegS RegD SeqQ BlkQ ScoQ RegK CutK Sat SatN FnIs LoopQ aq OpIs
abbrev fnT (r:Nat):AV :=.fn (.func 27) (.acons (.ptr r []) .anil) .anil
abbrev fnF (r:Nat):AV :=.fn (.func 37) .anil (.acons (.ptr r []) .anil)
def goS:RdS→List HEv→Nat→RdS×Int
 | s,[],_=>(s,-1)
 | s,x::l,i=>if (aZ s x).2 then goS (aZ s x).1 l (i+1) else ((aZ s x).1,(i:Int))
theorem sA (s:RdS) (x:HEv) (n:Nat) (hs:s.Ok n) (hn:n≤1000000):FnIs Tryz.prog 37 [.d (bx x),.ptr 0 []] [(0,.box 82 (fnT 1)),(1,cC s 2),(2,db s.all)] (.bool (!(aZ s x).2)) [(0,.box 82 (fnT 1)),(1,cC (aZ s x).1 64),(64,db (aZ s x).1.all)]:=by
 refine aw aa Tryz.func37 rfl rfl rfl ?_;refine sR<|rN ?_;refine rC<|nR ?_;iterate 2 refine rQ iM ?_
 refine bh rfl (nF [(0,some 1),(1,some 2)] (nf s x n hs hn) rfl rfl rfl rfl (bj rfl rfl (aj ab)) ⟨zH,zH,trivial⟩ rfl rfl (.inl rfl) rfl rfl) rfl rfl ?_;refine zD<|zT ?_
 exact⟨trivial,[(64,some _)],lg zV ⟨zR,zR,zR,trivial⟩⟩
theorem gv {s:RdS} {h:List HEv} {i:Nat} {x:HEv} (hx:h[i]?=some x):goS s (h.drop i) i=if (aZ s x).2 then goS (aZ s x).1 (h.drop (i+1)) (i+1) else ((aZ s x).1,(i:Int)):=by
 have hlt:=(List.getElem?_eq_some_iff.1 hx).1
 rw[List.drop_eq_getElem_cons hlt,(List.getElem?_eq_some_iff.1 hx).2]
 rfl
theorem xc (h:List HEv) (hL:h.length≤1000000) (s0:RdS) (hs0:s0.Ok 0):FnIs Tryz.prog 36 [.d (encH h),fnF 0] [(0,.box 82 (fnT 1)),(1,cC s0 2),(2,db s0.all)] (.int .i64 (goS s0 h 0).2) [(0,.box 82 (fnT 1)),(1,cC (goS s0 h 0).1 64),(64,db (goS s0 h 0).1.all)]:=by
 refine aw aa Tryz.func36 rfl rfl rfl ?_;refine sR<|rC<|zW ?_;refine rC ?_;refine rQ iE ?_;refine rC<|zP ?_
 refine wc_inv (fun q:RdS×Nat=>⟨[(8,.int .i64 q.2),(7,.int .i64 h.length),(1,fnF 0),(0,.d (encH h))],[(0,some (.box 82 (fnT 1))),(1,some (cC q.1 65)),(65,some (db q.1.all))],72,Tryz.f36.ntmps,64⟩) (fun q=>q.2≤h.length∧q.1.Ok q.2∧goS q.1 (h.drop q.2) q.2=goS s0 h 0) (fun q=>h.length-q.2) (s0,0) [(65,some 2)] ⟨Nat.zero_le _,hs0,rfl⟩
  (lg zi ⟨zR,zR,zR,trivial⟩) ?_
 rintro⟨s,i⟩ ⟨hi,hs,hgo⟩
 refine bH<|sR ?_;refine rC<|nQ ?_
 refine bW rfl (fun h2=>?_) (fun h2=>?_)
 ·have hlt:i<h.length:=by have:=of_decide_eq_true h2; omega
  obtain⟨x,hx⟩:∃u,h[i]?=some u:=⟨_,List.getElem?_eq_getElem hlt⟩
  have hx':h[((i:Int)).toNat]?=some x:=by rw[Int.toNat_natCast]; exact hx
  have hfst:=sA s x i hs (by omega)
  have hst:=gv (s:=s) hx
  rw[hgo]at hst
  cases hb:(aZ s x).2 with
  | false =>
   rw[hb]at hst hfst
   rw[hst]
   refine zQ<|zS<|zD<|nR ?_;refine zU ?_;refine rQ (aI aa rfl rfl rfl rfl rfl (by omega) hx') ?_;refine rQ iL ?_;refine bh rfl (bq [(0,some 0),(1,some 1),(2,some 65)] hfst rfl rfl rfl (aj (bj rfl rfl ab)) ⟨zH,zH,zH,trivial⟩ rfl rfl (.inl rfl) rfl rfl) rfl rfl ?_;refine zO<|sR ?_;refine zD<|zT<|zB<|b8<|zB ?_
   exact⟨trivial,[(64,some _)],lg zV ⟨zR,zR,zR,trivial⟩⟩
  | true =>
   rw[hb]at hst hfst
   refine zQ<|zS<|zD<|nR ?_;refine zU ?_;refine rQ (aI aa rfl rfl rfl rfl rfl (by omega) hx') ?_;refine rQ iL ?_;refine bh rfl (bq [(0,some 0),(1,some 1),(2,some 65)] hfst rfl rfl rfl (aj (bj rfl rfl ab)) ⟨zH,zH,zH,trivial⟩ rfl rfl (.inl rfl) rfl rfl) rfl rfl ?_;refine zJ<|aS<|zC<|ai ?_;refine rQ iD ?_;refine rC<|ay ?_
   exact aL ((aZ s x).1,i+1) [(65,some _)] ⟨hlt,hs.next x,hst.symm⟩ (by show h.length-(i+1)<h.length-i; omega) (lg zi ⟨zR,zR,zR,trivial⟩)
 ·have he:i=h.length:=by have:=of_decide_eq_false h2; omega
  subst he
  rw[List.drop_length]at hgo
  rw[←hgo]
  refine zX<|sR<|rC<|zT ?_
  exact⟨trivial,[(64,some _)],lg zV ⟨zR,zR,zR,trivial⟩⟩
theorem oR (h:List HEv) (hL:h.length≤1000000) (s0:RdS) (hs0:s0.Ok 0):FnIs Tryz.prog 26 [.d (encH h),fnT 0] [(0,cC s0 1),(1,db s0.all)] (.int .i64 (goS s0 h 0).2) [(0,cC (goS s0 h 0).1 64),(64,db (goS s0 h 0).1.all)]:=by
 refine aw aa Tryz.func26 rfl rfl rfl ?_;refine sR<|rN ?_;refine rC<|nR ?_;refine zD ?_;refine bh rfl (bq [(0,some 64),(1,some 0),(2,some 1)] (xc h hL s0 hs0) rfl rfl rfl (aj (rp rfl rfl ab)) ⟨zH,zH,zH,trivial⟩ rfl rfl (.inl rfl) rfl rfl) rfl rfl ?_;refine rC<|zT ?_
 exact⟨trivial,[(64,some _)],lg zV ⟨zR,zR,trivial⟩⟩
abbrev ch8:D :=.cons (.sc (.int .i64 0)) (.cons (.sc (.int .i64 0)) (.cons (.sc (.int .i64 0)) (.cons (.sc (.int .i64 0)) (.cons (.sc (.int .i64 0)) (.cons (.sc (.int .i64 0)) (.cons (.sc (.int .i64 0)) (.cons (.sc (.int .i64 0)) .nil)))))))
theorem uS:DLe ch8 (.vec 8 1 i6 dj):=by
 rintro w X cs ⟨a1,r1,rfl,⟨rfl,o1⟩,a2,r2,rfl,⟨rfl,_⟩,a3,r3,rfl,⟨rfl,_⟩,a4,r4,rfl,⟨rfl,_⟩,a5,r5,rfl,⟨rfl,_⟩,a6,r6,rfl,⟨rfl,_⟩,a7,r7,rfl,⟨rfl,_⟩,a8,r8,rfl,⟨rfl,_⟩,rfl⟩
 refine⟨rfl,fun _=>[.int .i64 0],fun i hi=>⟨?_,rfl⟩,rfl⟩
 have hz:∀b∈dj,b=0:=by decide
 rw[hz _ (List.getElem_mem hi)]
 exact⟨rfl,o1⟩
theorem pV:aY (.box 60 (.d (.cons ch8 (.cons ch8 (.cons (.sc (.int .i64 0)) (.cons (.sc (.int .i64 0)) (.cons (.sc (.slice none 0 0)) .nil)))))))
  (.box 60 (.acons (.d (.vec 8 1 i6 dj)) (.acons (.d (.vec 8 1 i6 dj)) (.acons (.d (i6 0)) (.acons (.d (i6 0)) (.acons (.d (.sc nil_)) .anil)))))):=by
 rintro σ w X r ⟨hf,b,cs,h1,h2,a1,r1,h3,h4,a2,r2,rfl,h5,a3,r3,rfl,h6,a4,r4,rfl,h7,a5,r5,rfl,h8,rfl⟩
 exact⟨rfl,b,cs,h1,h2,a1,_,h3,uS _ _ _ h4,a2,_,rfl,uS _ _ _ h5,a3,_,rfl,h6,a4,_,rfl,h7,a5,_,rfl,h8,rfl⟩
def rdH (h:List HEv):RdS:=if 8192<h.length then rd0 else (goS rd0 h 0).1
def chkH (h:List HEv):Int×Int:=if 8192<h.length then (0,3) else if 0≤(goS rd0 h 0).2 then ((goS rd0 h 0).2,18) else (0,0)
theorem qJ (h:List HEv) (hh:h.length≤9223372036854775807):FnIs Tryz.prog 14 [.d (encH h)] [] (.tup (.acons (.ptr 64 []) (.acons (.int .i64 (chkH h).1) (.acons (.int .i64 (chkH h).2) .anil)))) [(64,cC (rdH h) 65),(65,db (rdH h).all)]:=by
 unfold rdH chkH
 obtain⟨Z,hZ⟩:∃Z,decide ((8192:Int)<(h.length:Int))=Z:=⟨_,rfl⟩
 refine aw aa Tryz.func14 rfl rfl rfl ?_;refine sR<|zU<|nR ?_;refine rQ iS ?_;refine rN ?_;refine rC<|nS ?_;refine wD (env':=[(2,.ptr 64 []),(0,.d (encH h))]) (h':=[(64,some (cC rd0 65)),(65,some (db []))]) 72 [(64,some 96),(65,none)] (lg zk ⟨⟨rfl,rfl,_,rfl,pV⟩,⟨rfl,rfl,rfl⟩,trivial⟩) ?_
 cases Z with
 | true =>
  have h8:8192<h.length:=by have:=of_decide_eq_true hZ; omega
  rw[if_pos h8,if_pos h8]
  refine qR<|rC ?_;refine rQ iE ?_;refine rC ?_;refine zI<|sR ?_;iterate 4 refine rC ?_
  refine zT<|aN ?_
  exact⟨trivial,[(64,some _),(65,some _)],lg zV ⟨zR,zR,trivial⟩⟩
 | false =>
  have h8:¬8192<h.length:=by have:=of_decide_eq_false hZ; omega
  have hL:h.length≤1000000:=by omega
  rw[if_neg h8,if_neg h8]
  by_cases h0:0≤(goS rd0 h 0).2
  ·have d0:decide (0≤(goS rd0 h 0).2)=true:=dT h0
   rw[if_pos h0]
   refine qR<|rC ?_;refine rQ iE ?_;refine rC ?_;refine zG<|kS<|qR ?_;refine zU ?_;refine bh rfl (bq [(0,some 64),(1,some 65)] (oR h hL rd0 gm) rfl rfl rfl (aj (kR rfl rfl ab)) ⟨zH,zH,trivial⟩ rfl rfl (.inl rfl) rfl rfl) rfl rfl ?_;refine rC<|nR ?_;refine zD ?_;refine zI<|sR ?_;iterate 5 refine rC ?_
   refine zT<|aN ?_
   exact⟨trivial,[(64,some _),(65,some _)],lg zV ⟨zR,zR,trivial⟩⟩
  ·have d0:decide (0≤(goS rd0 h 0).2)=false:=dF h0
   rw[if_neg h0]
   refine qR<|rC ?_;refine rQ iE ?_;refine rC ?_;refine zG<|kS<|qR ?_;refine zU ?_;refine bh rfl (bq [(0,some 64),(1,some 65)] (oR h hL rd0 gm) rfl rfl rfl (aj (kR rfl rfl ab)) ⟨zH,zH,trivial⟩ rfl rfl (.inl rfl) rfl rfl) rfl rfl ?_;refine rC<|nR ?_;refine zD ?_;refine zG<|kS<|sR ?_;iterate 4 refine rC ?_
   refine zT ?_
   exact⟨trivial,[(64,some _),(65,some _)],lg zV ⟨zR,zR,trivial⟩⟩
theorem ed (h:List HEv) (hh:h.length≤9223372036854775807):FnIs Tryz.prog 19 [.d (encH h)] [] (.tup (.acons (.int .i64 (chkH h).1) (.acons (.int .i64 (chkH h).2) .anil))) []:=by
 refine aw aa Tryz.func19 rfl rfl rfl ?_;refine sR<|zD<|nR ?_;refine rC ?_;refine aU (bq [] (qJ h hh) rfl rfl rfl (aj ab) trivial rfl rfl (.inl rfl) rfl rfl) rfl ?_;iterate 6 refine rC ?_
 refine nR ?_;iterate 4 refine rC ?_
 refine zT ?_
 exact⟨trivial,[],lf⟩
def opsH (h:List HEv):List HOp:=if (chkH h).2=0 then (rdH h).all else[]
theorem vZ (h:List HEv) (hh:h.length≤9223372036854775807) (hal:(rdH h).all.length≤1048576):FnIs Tryz.prog 5 [.d (encH h)] [] (.tup (.acons (.d (wL (opsH h))) (.acons (.int .i64 (chkH h).2) .anil))) []:=by
 unfold opsH
 refine aw aa Tryz.func5 rfl rfl rfl ?_;refine sR<|zD<|nR ?_;refine rC ?_;refine aU (bq [] (qJ h hh) rfl rfl rfl (aj ab) trivial rfl rfl (.inl rfl) rfl rfl) rfl ?_;iterate 7 refine rC ?_
 refine zW<|zD<|nS ?_
 by_cases h0:(chkH h).2=0
 ·have d0:(!decide ((chkH h).2=0))=false:=by rw[dT h0]; rfl
  rw[if_pos h0,h0]
  refine wG<|kS<|sR ?_;refine zU ?_;refine rQ iM ?_;refine bE (env':=[(19,_)]) (h':=[]) 89 _ rfl ⟨⟨_,rfl,Frz.own rfl⟩,trivial⟩ trivial ?_;refine rQ (am (xj (rdH h).all hal) rfl rfl (aj ab) (.inl rfl) (fun _=>rfl)) ?_;refine zD<|zT ?_
  exact⟨trivial,[],lf⟩
 ·have d0:(!decide ((chkH h).2=0))=true:=by rw[dF h0]; rfl
  rw[if_neg h0]
  refine wT<|sR ?_;refine zU<|zT<|aN ?_
  exact⟨trivial,[],lg ⟨⟨_,rfl,AVLe.tup1 (cp _ _) rfl⟩,rfl,trivial⟩ trivial⟩
def jf:List HEv→List (List HEv)→List HEv→List (List HEv)
 | [],out,era=>out++[era]
 | x::l,out,era=>if x.kind=3 then jf l (out++[era]) [] else jf l out (era++[x])
theorem qn {h:List HEv} {i:Nat} {x:HEv} (hx:h[i]?=some x) (out:List (List HEv)) (era:List HEv):jf (h.drop i) out era=if x.kind=3 then jf (h.drop (i+1)) (out++[era]) [] else jf (h.drop (i+1)) out (era++[x]):=by
 have hlt:=(List.getElem?_eq_some_iff.1 hx).1
 rw[List.drop_eq_getElem_cons hlt,(List.getElem?_eq_some_iff.1 hx).2]
 rfl
theorem um (h:List HEv) (hh:h.length≤1000000) (hd:∀x∈h,x.op.data.length≤1048576):FnIs Tryz.prog 20 [.d (encH h)] [] (.tup (.acons (.d (.arx 1 fB (if (chkH h).2=0 then jf h [] [] else[]))) (.acons (.int .i64 (chkH h).2) .anil))) []:=by
 have hh:h.length≤9223372036854775807:=by omega
 refine aw aa Tryz.func20 rfl rfl rfl ?_;refine sR<|zD<|zW ?_;refine rC ?_;refine rQ (am (ed h hh) rfl rfl (aj ab) (.inl rfl) (fun _=>rfl)) ?_;iterate 5 refine rC ?_
 refine nR<|zD<|nS ?_
 by_cases h0:(chkH h).2=0
 ·have d0:(!decide ((chkH h).2=0))=false:=by rw[dT h0]; rfl
  rw[if_pos h0,h0]
  refine wG<|kS<|sR ?_;refine rC<|nR ?_;refine rC<|zW ?_;refine rC ?_;refine rQ iE ?_;refine rC<|zP ?_
  refine wc_inv (fun q:Nat×List (List HEv)×List HEv=>⟨[(20,.int .i64 q.1),(19,.int .i64 h.length),(18,.d (encH h)),(7,.own 66 0 q.2.2.length 38 none),(6,.own 65 0 q.2.1.length 1 none)],[(65,some (.ds 25 1 false fB q.2.1)),(66,some (.ds 48 38 false bx q.2.2))],72,Tryz.f20.ntmps,64⟩) (fun q=>q.1≤h.length∧q.2.1.length≤q.1∧q.2.2.length≤q.1∧jf (h.drop q.1) q.2.1 q.2.2=jf h [] []) (fun q=>h.length-q.1) (0,[],[]) [(65,none),(66,none)] ⟨Nat.zero_le _,Nat.le_refl _,Nat.le_refl _,rfl⟩
   (lg zh ⟨⟨rfl,rfl,rfl⟩,⟨rfl,rfl,rfl⟩,trivial⟩) ?_
  rintro⟨i,out,era⟩ ⟨hi,ho,he,hgo⟩
  simp only at hi ho he hgo
  have hera:era.length≤1048576:=by omega
  have hera1:era.length+1≤1048576:=by omega
  have hout:out.length+1≤1048576:=by omega
  have hout2:(out++[era]).length≤1048576:=by simp; omega
  refine bH<|sR ?_;refine rC<|nQ ?_
  refine bW rfl (fun h2=>?_) (fun h2=>?_)
  ·have hlt:i<h.length:=by have:=of_decide_eq_true h2; omega
   obtain⟨x,hx⟩:∃u,h[i]?=some u:=⟨_,List.getElem?_eq_getElem hlt⟩
   have hx':h[((i:Int)).toNat]?=some x:=by rw[Int.toNat_natCast]; exact hx
   have hdx:=hd x (List.mem_of_getElem? hx)
   have hst:=qn hx out era
   rw[hgo]at hst
   refine zQ<|zS<|rQ (aI aa rfl rfl rfl rfl rfl (by omega) hx') ?_;refine rQ iL ?_;refine rN ?_;refine rW<|zW ?_;refine rC ?_;refine rQ iB ?_;refine rC<|nS ?_
   by_cases k3:x.kind=3
   ·have d3:decide (x.kind=3)=true:=dT k3
    rw[if_pos k3]at hst
    refine wT<|sR ?_;refine zD ?_;refine bE (env':=[(28,_),(27,_),(20,_),(19,_),(18,_),(6,_)]) (h':=[(65,some _)]) 66 _ rfl ⟨⟨_,rfl,Frz.own rfl⟩,zE,zE,zE,zE,zE,trivial⟩ ⟨⟨rfl,_,rfl,.refl _⟩,trivial⟩ ?_;refine rQ (am (nA era hera) rfl rfl (aj ab) (.inl rfl) (fun _=>rfl)) ?_;refine aG (aD (s:=1) aa rfl rfl rfl rfl rfl rfl rfl rfl) rfl ?_;refine aU (aM (enc:=fB) (s:=1) (xs:=out) aa era rfl rfl rfl rfl rfl rfl rfl rfl rfl hout rfl) rfl ?_;refine rC<|nR ?_;refine rC<|nS<|cz<|eZ<|fj<|aK<|ai ?_;refine rQ iD ?_;refine rC<|ay ?_
    have hl1:out.length+1=(out++[era]).length:=by simp
    exact aL (i+1,out++[era],[]) [(65,some _),(66,none)] ⟨hlt,by simp; omega,Nat.zero_le _,hst.symm⟩ (by show h.length-(i+1)<h.length-i; omega) (lg ⟨zE,rfl,zE,rfl,zE,rfl,zE,rfl,⟨_,rfl,AVLe.of_eq (congrArg (fun n=>AV.own _ 0 n 1 none) hl1)⟩,rfl,trivial⟩ ⟨zR,⟨rfl,rfl,rfl⟩,trivial⟩)
   ·have d3:decide (x.kind=3)=false:=dF k3
    rw[if_neg k3]at hst
    refine wF<|kS<|ai ?_;refine rC ?_;refine rQ iM ?_;refine rQ (am (nq x hdx) rfl rfl (aj ab) (.inl rfl) (fun _=>rfl)) ?_;refine aG (aD (s:=38) aa rfl rfl rfl rfl rfl rfl rfl rfl) rfl ?_;refine aU (aM (enc:=bx) (s:=38) (xs:=era) aa x rfl rfl rfl rfl rfl rfl rfl rfl rfl hera1 rfl) rfl ?_;refine rC<|ay<|zC<|ai ?_;refine rQ iD ?_;refine rC<|ay ?_
    have hl2:era.length+1=(era++[x]).length:=by simp
    exact aL (i+1,out,era++[x]) [(65,some 65),(66,some _)] ⟨hlt,by simp only; omega,by simp; omega,hst.symm⟩ (by show h.length-(i+1)<h.length-i; omega) (lg ⟨zE,rfl,zE,rfl,zE,rfl,⟨_,rfl,AVLe.of_eq (congrArg (fun n=>AV.own _ 0 n 38 none) hl2)⟩,rfl,zE,rfl,trivial⟩ ⟨zR,zR,trivial⟩)
  ·have hi2:i=h.length:=by have:=of_decide_eq_false h2; omega
   subst hi2
   rw[List.drop_length]at hgo
   rw[←hgo]
   refine zX<|sR<|zD ?_;refine bE (env':=[(39,_),(38,_)]) (h':=[(65,some _)]) 66 _ rfl ⟨⟨_,rfl,Frz.own rfl⟩,zE,trivial⟩ ⟨⟨rfl,_,rfl,.refl _⟩,trivial⟩ ?_;refine rQ (am (nA era hera) rfl rfl (aj ab) (.inl rfl) (fun _=>rfl)) ?_;refine aG (aD (s:=1) aa rfl rfl rfl rfl rfl rfl rfl rfl) rfl ?_;refine aU (aM (enc:=fB) (s:=1) (xs:=out) aa era rfl rfl rfl rfl rfl rfl rfl rfl rfl hout rfl) rfl ?_;refine bE (env':=[(42,_)]) (h':=[]) 112 _ rfl ⟨⟨_,rfl,Frz.own (by simp)⟩,trivial⟩ trivial ?_;refine rQ (am (xk (out++[era]) hout2) rfl rfl (aj ab) (.inl rfl) (fun _=>rfl)) ?_;refine zD<|zT ?_
   exact⟨trivial,[],lf⟩
 ·have d0:(!decide ((chkH h).2=0))=true:=by rw[dF h0]; rfl
  rw[if_neg h0]
  refine wT<|sR ?_;refine zU<|zT<|aN ?_
  exact⟨trivial,[],lg ⟨⟨_,rfl,AVLe.tup1 (cp _ _) rfl⟩,rfl,trivial⟩ trivial⟩
def cT (c:Int) (x:HEv):Bool:=decide (x.kind=3)||decide (x.client=c)
def gb (c:Int) (h:List HEv):Int:=if (chkH h).2=0 then (if c<0∨8≤c then 1 else 0) else (chkH h).2
theorem uj (h:List HEv) (c:Int) (hh:h.length≤1000000) (hd:∀x∈h,x.op.data.length≤1048576):FnIs Tryz.prog 21 [.d (encH h),.int .i64 c] [] (.tup (.acons (.d (fB (if gb c h=0 then h.filter (cT c) else[]))) (.acons (.int .i64 (gb c h)) .anil))) []:=by
 have hh:h.length≤9223372036854775807:=by omega
 refine aw aa Tryz.func21 rfl rfl rfl ?_;refine sR<|zD<|zW ?_;refine rC ?_;refine rQ (am (ed h hh) rfl rfl (aj ab) (.inl rfl) (fun _=>rfl)) ?_;iterate 5 refine rC ?_
 refine nR<|zD<|nS ?_
 by_cases h0:(chkH h).2=0
 ·have d0:(!decide ((chkH h).2=0))=false:=by rw[dT h0]; rfl
  refine wF<|kS<|qR ?_;refine zU ?_
  by_cases hc0:c<0
  ·have c0:decide (c<0)=true:=dT hc0
   rw[show gb c h=1 by rw[gb,if_pos h0,if_pos (.inl hc0)],if_neg (by decide)]
   iterate 2 refine rS ?_
   refine rQ iT ?_;refine zO<|sR ?_;refine zD<|zT<|aN ?_
   exact⟨trivial,[],lg ⟨⟨_,rfl,AVLe.tup1 (cp _ _) rfl⟩,rfl,trivial⟩ trivial⟩
  ·have c0:decide (c<0)=false:=dF hc0
   refine rO ?_;refine rC ?_;refine rO ?_;refine rC ?_;refine rQ iF<|nS ?_
   by_cases hc8:8≤c
   ·have c8:decide (8≤c)=true:=dT hc8
    rw[show gb c h=1 by rw[gb,if_pos h0,if_pos (.inr hc8)],if_neg (by decide)]
    refine wT<|sR ?_;refine zD<|zT<|aN ?_
    exact⟨trivial,[],lg ⟨⟨_,rfl,AVLe.tup1 (cp _ _) rfl⟩,rfl,trivial⟩ trivial⟩
   ·have c8:decide (8≤c)=false:=dF hc8
    rw[show gb c h=0 by rw[gb,if_pos h0,if_neg (by omega)],if_pos rfl]
    refine wF<|kS<|sR ?_;refine rC<|zW ?_;refine rC ?_;refine rQ iE ?_;refine rC<|zP ?_
    refine wc_inv (fun i:Nat=>⟨[(27,.int .i64 i),(26,.int .i64 h.length),(25,.d (encH h)),(8,.own 65 0 ((h.take i).filter (cT c)).length 38 none),(1,.int .i64 c)],[(65,some (.ds 48 38 false bx ((h.take i).filter (cT c))))],72,Tryz.f21.ntmps,64⟩) (fun i=>i≤h.length) (fun i=>h.length-i) 0 [(65,none)] (Nat.zero_le _)
     (lg zh ⟨⟨rfl,rfl,rfl⟩,trivial⟩) ?_
    intro i hi
    have hlen:((h.take i).filter (cT c)).length≤i:=Nat.le_trans (List.length_filter_le _ _) (by rw[List.length_take]; omega)
    have hera1:((h.take i).filter (cT c)).length+1≤1048576:=by omega
    refine bH<|sR ?_;refine rC<|nQ ?_
    refine bW rfl (fun h2=>?_) (fun h2=>?_)
    ·have hlt:i<h.length:=by have:=of_decide_eq_true h2; omega
     obtain⟨x,hx⟩:∃u,h[i]?=some u:=⟨_,List.getElem?_eq_getElem hlt⟩
     have hx':h[((i:Int)).toNat]?=some x:=by rw[Int.toNat_natCast]; exact hx
     have hdx:=hd x (List.mem_of_getElem? hx)
     have htk:h.take (i+1)=h.take i++[x]:=by rw[List.take_add_one,hx]; rfl
     obtain⟨c1,h1⟩:∃b,decide (x.kind=3)=b:=⟨_,rfl⟩
     obtain⟨c2,h2⟩:∃b,decide (x.client=c)=b:=⟨_,rfl⟩
     refine zQ<|zS<|rQ (aI aa rfl rfl rfl rfl rfl (by omega) hx') ?_;refine rQ iL ?_;refine rN ?_;refine rW<|nR ?_;refine rC ?_;refine rQ iB ?_;refine zD ?_
     cases c1 with
     | true =>
      have hf:(h.take (i+1)).filter (cT c)=(h.take i).filter (cT c)++[x]:=by rw[htk,List.filter_append]; simp[cT,h1]
      have hl1:((h.take i).filter (cT c)).length+1=((h.take (i+1)).filter (cT c)).length:=by rw[hf]; simp
      iterate 4 refine rS ?_
      refine rQ iT ?_;refine zO<|ai ?_;refine rC ?_;refine rQ iM ?_;refine rQ (am (nq x hdx) rfl rfl (aj ab) (.inl rfl) (fun _=>rfl)) ?_;refine aG (aD (s:=38) aa rfl rfl rfl rfl rfl rfl rfl rfl) rfl ?_;refine aU (aM (enc:=bx) (s:=38) (xs:=(h.take i).filter (cT c)) aa x rfl rfl rfl rfl rfl rfl rfl rfl rfl hera1 rfl) rfl ?_;refine rC<|ay<|zC<|ai ?_;refine rQ iD ?_;refine rC<|ay ?_
      exact aL (i+1) [(65,some _)] hlt (by omega) (lg ⟨zE,rfl,zE,rfl,zE,rfl,⟨_,rfl,AVLe.of_eq (congrArg (fun n=>AV.own _ 0 n 38 none) hl1)⟩,rfl,zE,rfl,trivial⟩ ⟨⟨rfl,rfl,_,rfl,aY.of_eq (congrArg (fun l=>Row.ds 48 38 false bx l) hf.symm)⟩,trivial⟩)
     | false =>
      refine rO ?_;refine rC ?_;refine rO ?_;refine rQ iB ?_;refine rO ?_;refine rC ?_;refine rO ?_;refine rC ?_;refine rQ iF<|nS ?_
      cases c2 with
      | true =>
       have hf:(h.take (i+1)).filter (cT c)=(h.take i).filter (cT c)++[x]:=by rw[htk,List.filter_append]; simp[cT,h1,h2]
       have hl1:((h.take i).filter (cT c)).length+1=((h.take (i+1)).filter (cT c)).length:=by rw[hf]; simp
       refine wT<|ai ?_;refine rC ?_;refine rQ iM ?_;refine rQ (am (nq x hdx) rfl rfl (aj ab) (.inl rfl) (fun _=>rfl)) ?_;refine aG (aD (s:=38) aa rfl rfl rfl rfl rfl rfl rfl rfl) rfl ?_;refine aU (aM (enc:=bx) (s:=38) (xs:=(h.take i).filter (cT c)) aa x rfl rfl rfl rfl rfl rfl rfl rfl rfl hera1 rfl) rfl ?_;refine rC<|ay<|zC<|ai ?_;refine rQ iD ?_;refine rC<|ay ?_
       exact aL (i+1) [(65,some _)] hlt (by omega) (lg ⟨zE,rfl,zE,rfl,zE,rfl,⟨_,rfl,AVLe.of_eq (congrArg (fun n=>AV.own _ 0 n 38 none) hl1)⟩,rfl,zE,rfl,trivial⟩ ⟨⟨rfl,rfl,_,rfl,aY.of_eq (congrArg (fun l=>Row.ds 48 38 false bx l) hf.symm)⟩,trivial⟩)
      | false =>
       have hf:(h.take i).filter (cT c)=(h.take (i+1)).filter (cT c):=by rw[htk,List.filter_append]; simp[cT,h1,h2]
       refine wF<|aS<|zC<|ai ?_;refine rQ iD ?_;refine rC<|ay ?_
       exact aL (i+1) [(65,some 65)] hlt (by omega) (lg ⟨zE,rfl,zE,rfl,zE,rfl,⟨_,rfl,AVLe.of_eq (congrArg (fun l:List HEv=>AV.own 65 0 l.length 38 none) hf)⟩,rfl,zE,rfl,trivial⟩ ⟨⟨rfl,rfl,_,rfl,aY.of_eq (congrArg (fun l=>Row.ds 48 38 false bx l) hf)⟩,trivial⟩)
    ·have hi2:i=h.length:=by have:=of_decide_eq_false h2; omega
     subst hi2
     rw[List.take_length]
     have hera:(h.filter (cT c)).length≤1048576:=Nat.le_trans (List.length_filter_le _ _) (by omega)
     refine zX<|sR<|rC ?_;refine bE (env':=[(46,_)]) (h':=[]) 65 _ rfl ⟨⟨_,rfl,Frz.own rfl⟩,trivial⟩ trivial ?_;refine rQ (am (nA (h.filter (cT c)) hera) rfl rfl (aj ab) (.inl rfl) (fun _=>rfl)) ?_;refine zD<|zT ?_
     exact⟨trivial,[],lf⟩
 ·have d0:(!decide ((chkH h).2=0))=true:=by rw[dF h0]; rfl
  have hE:gb c h=(chkH h).2:=by rw[gb,if_neg h0]
  rw[hE,if_neg h0]
  refine wT<|sR ?_;refine zU<|zT<|aN ?_
  exact⟨trivial,[],lg ⟨⟨_,rfl,AVLe.tup1 (cp _ _) rfl⟩,rfl,trivial⟩ trivial⟩
def fu (c:Int) (i:Nat) (a:Int) (x:HEv):Int:=if x.kind=3 then-1 else if x.kind=1 then (if x.client=c then (i:Int) else a) else if x.kind=2 then (if x.client=c then-1 else a) else a
def ib (c:Int):List HEv→Nat→Int→Int
 | [],_,a=>a
 | x::l,i,a=>ib c l (i+1) (fu c i a x)
def pend (h:List HEv) (c:Int):Int:=ib c h 0 (-1)
theorem lh (c:Int) (x:HEv):∀(l:List HEv) (i:Nat) (a:Int),ib c (l++[x]) i a=fu c (i+l.length) (ib c l i a) x
 | [],i,a=>rfl
 | y::l,i,a=>by
  rw[List.cons_append,ib,ib,lh c x l]
  rw[List.length_cons,show i+1+l.length=i+(l.length+1) by omega]
theorem gP (l:List HEv) (c:Int) (x:HEv):pend (l++[x]) c=fu c l.length (pend l c) x:=by
 rw[pend,lh,Nat.zero_add]; rfl
theorem rV {h:List HEv} {c:Int} {i:Nat} {x:HEv} (hx:h[i]?=some x):pend (h.take (i+1)) c=fu c i (pend (h.take i) c) x:=by
 have hlt:=(List.getElem?_eq_some_iff.1 hx).1
 rw[List.take_add_one,hx,Option.toList_some,gP,List.length_take,Nat.min_eq_left (by omega)]
theorem tD (c:Int) (i:Nat) (a:Int) (x:HEv):fu c i a x = -1∨fu c i a x=i∨fu c i a x=a:=by
 unfold fu
 by_cases h1:x.kind=3
 ·simp[h1]
 ·by_cases h2:x.kind=1
  ·by_cases h3:x.client=c <;> simp[h2,h3]
  ·by_cases h4:x.kind=2
   ·by_cases h3:x.client=c <;> simp[h4,h3]
   ·simp[h1,h2,h4]
theorem qM (c:Int):∀(l:List HEv) (i:Nat) (a:Int),-1≤a∧a<i → -1≤ib c l i a∧ib c l i a<(i+l.length:Nat)
 | [],i,a,h=>by simpa[ib]using h
 | x::l,i,a,h=>by
  have hs:=tD c i a x
  have:=qM c l (i+1) (fu c i a x) (by omega)
  rw[ib,List.length_cons]
  omega
theorem qO (h:List HEv) (c:Int) : -1≤pend h c∧pend h c<h.length:=by
 have:=qM c h 0 (-1) (by decide)
 rw[Nat.zero_add]at this
 exact this
theorem qN (h:List HEv) (c:Int) (hL:h.length≤9223372036854775807):FnIs Tryz.prog 10 [.d (encH h),.int .i64 c] [] (.int .i64 (pend h c)) []:=by
 refine aw aa Tryz.func10 rfl rfl rfl ?_;refine sR<|rC<|nR ?_;refine rC<|zW ?_;refine rC<|zP ?_
 refine wc_inv (fun i:Nat=>⟨[(6,.int .i64 i),(5,.int .i64 (pend (h.take i) c)),(1,.int .i64 c),(0,.d (encH h))],[],72,Tryz.f10.ntmps,64⟩) (fun i=>i≤h.length) (fun i=>h.length-i) 0 [] (Nat.zero_le _)
  (lg zi trivial) ?_
 intro i hi
 refine bH<|qR ?_;refine zD ?_;refine rQ iE ?_;refine rC<|nS ?_
 refine bW rfl (fun h3=>?_) (fun h3=>?_)
 ·have hlt:i<h.length:=by have:=of_decide_eq_true h3; omega
  obtain⟨x,hx⟩:∃x,h[i]?=some x:=⟨_,List.getElem?_eq_getElem hlt⟩
  have hx':h[((i:Int)).toNat]?=some x:=by rw[Int.toNat_natCast]; exact hx
  have hp:=rV (c:=c) hx
  unfold fu at hp
  by_cases k3:x.kind=3
  ·have d3:decide (x.kind=3)=true:=dT k3
   have d1:decide (x.kind=1)=false:=dF (by omega)
   have d2:decide (x.kind=2)=false:=dF (by omega)
   rw[if_pos k3]at hp
   refine zQ<|br<|qR<|zD ?_;refine rQ (aI aa rfl rfl rfl rfl rfl (by omega) hx') ?_;refine rC ?_;refine rQ iL ?_;refine rC ?_;refine zI<|ai ?_;refine rC<|zW ?_;refine zD ?_;refine rQ (aI aa rfl rfl rfl rfl rfl (by omega) hx') ?_;refine rC ?_;refine rQ iL ?_;refine zD ?_
   iterate 7 refine rS ?_
   refine rQ iF ?_;refine zJ<|kS<|sR ?_;refine zD ?_;refine rQ (aI aa rfl rfl rfl rfl rfl (by omega) hx') ?_;refine rC ?_;refine rQ iL ?_;refine zD ?_
   iterate 7 refine rS ?_
   refine rQ iF ?_;refine zJ<|aS<|zC<|ai ?_;refine rC ?_;refine rQ iD ?_;refine rC<|ay ?_
   exact aL (i+1) [] hlt (by omega) (lg ⟨zE,rfl,⟨_,rfl,AVLe.of_eq (congrArg (fun n=>AV.int .i64 n) hp.symm)⟩,rfl,zE,rfl,zE,rfl,trivial⟩ trivial)
  ·have d3:decide (x.kind=3)=false:=dF k3
   rw[if_neg k3]at hp
   by_cases k1:x.kind=1
   ·have d1:decide (x.kind=1)=true:=dT k1
    have d2:decide (x.kind=2)=false:=dF (by omega)
    rw[if_pos k1]at hp
    by_cases kc:x.client=c
    ·have dc:decide (x.client=c)=true:=dT kc
     rw[if_pos kc]at hp
     refine zQ<|br<|qR<|zD ?_;refine rQ (aI aa rfl rfl rfl rfl rfl (by omega) hx') ?_;refine rC ?_;refine rQ iL ?_;refine rC ?_;refine zG<|kS<|qR ?_;refine zD ?_;refine rQ (aI aa rfl rfl rfl rfl rfl (by omega) hx') ?_;refine rC ?_;refine rQ iL ?_;refine zD ?_;refine rO ?_;refine rC ?_;refine rO ?_;refine rC ?_;refine rO ?_;refine rQ (aI aa rfl rfl rfl rfl rfl (by omega) hx') ?_;refine rO ?_;refine rC ?_;refine rO ?_;refine rQ iL ?_;refine rO ?_;refine rC ?_;refine rO ?_;refine rC ?_;refine rQ iT ?_;refine zI<|ai ?_;refine zD<|nR ?_;refine zD ?_;refine rQ (aI aa rfl rfl rfl rfl rfl (by omega) hx') ?_;refine rC ?_;refine rQ iL ?_;refine zD ?_
     iterate 7 refine rS ?_
     refine rQ iF ?_;refine zJ<|aS<|zC<|ai ?_;refine rC ?_;refine rQ iD ?_;refine rC<|ay ?_
     exact aL (i+1) [] hlt (by omega) (lg ⟨zE,rfl,⟨_,rfl,AVLe.of_eq (congrArg (fun n=>AV.int .i64 n) hp.symm)⟩,rfl,zE,rfl,zE,rfl,trivial⟩ trivial)
    ·have dc:decide (x.client=c)=false:=dF kc
     rw[if_neg kc]at hp
     refine zQ<|br<|qR<|zD ?_;refine rQ (aI aa rfl rfl rfl rfl rfl (by omega) hx') ?_;refine rC ?_;refine rQ iL ?_;refine rC ?_;refine zG<|kS<|qR ?_;refine zD ?_;refine rQ (aI aa rfl rfl rfl rfl rfl (by omega) hx') ?_;refine rC ?_;refine rQ iL ?_;refine zD ?_;refine rO ?_;refine rC ?_;refine rO ?_;refine rC ?_;refine rO ?_;refine rQ (aI aa rfl rfl rfl rfl rfl (by omega) hx') ?_;refine rO ?_;refine rC ?_;refine rO ?_;refine rQ iL ?_;refine rO ?_;refine rC ?_;refine rO ?_;refine rC ?_;refine rQ iT ?_;refine zG<|kS<|sR ?_;refine zD ?_;refine rQ (aI aa rfl rfl rfl rfl rfl (by omega) hx') ?_;refine rC ?_;refine rQ iL ?_;refine zD ?_
     iterate 7 refine rS ?_
     refine rQ iF ?_;refine zJ<|aS<|zC<|ai ?_;refine rC ?_;refine rQ iD ?_;refine rC<|ay ?_
     exact aL (i+1) [] hlt (by omega) (lg ⟨zE,rfl,⟨_,rfl,AVLe.of_eq (congrArg (fun n=>AV.int .i64 n) hp.symm)⟩,rfl,zE,rfl,zE,rfl,trivial⟩ trivial)
   ·have d1:decide (x.kind=1)=false:=dF k1
    rw[if_neg k1]at hp
    by_cases k2:x.kind=2
    ·have d2:decide (x.kind=2)=true:=dT k2
     rw[if_pos k2]at hp
     by_cases kc:x.client=c
     ·have dc:decide (x.client=c)=true:=dT kc
      rw[if_pos kc]at hp
      refine zQ<|br<|qR<|zD ?_;refine rQ (aI aa rfl rfl rfl rfl rfl (by omega) hx') ?_;refine rC ?_;refine rQ iL ?_;refine rC ?_;refine zG<|kS<|qR ?_;refine zD ?_;refine rQ (aI aa rfl rfl rfl rfl rfl (by omega) hx') ?_;refine rC ?_;refine rQ iL ?_;refine zD ?_
      iterate 7 refine rS ?_
      refine rQ iF ?_;refine zJ<|kS<|sR ?_;refine zD ?_;refine rQ (aI aa rfl rfl rfl rfl rfl (by omega) hx') ?_;refine rC ?_;refine rQ iL ?_;refine zD ?_;refine rO ?_;refine rC ?_;refine rO ?_;refine rC ?_;refine rO ?_;refine rQ (aI aa rfl rfl rfl rfl rfl (by omega) hx') ?_;refine rO ?_;refine rC ?_;refine rO ?_;refine rQ iL ?_;refine rO ?_;refine rC ?_;refine rO ?_;refine rC ?_;refine rQ iT ?_;refine zI<|ai ?_;refine rC<|ay<|zC<|ai ?_;refine rC ?_;refine rQ iD ?_;refine rC<|ay ?_
      exact aL (i+1) [] hlt (by omega) (lg ⟨zE,rfl,⟨_,rfl,AVLe.of_eq (congrArg (fun n=>AV.int .i64 n) hp.symm)⟩,rfl,zE,rfl,zE,rfl,trivial⟩ trivial)
     ·have dc:decide (x.client=c)=false:=dF kc
      rw[if_neg kc]at hp
      refine zQ<|br<|qR<|zD ?_;refine rQ (aI aa rfl rfl rfl rfl rfl (by omega) hx') ?_;refine rC ?_;refine rQ iL ?_;refine rC ?_;refine zG<|kS<|qR ?_;refine zD ?_;refine rQ (aI aa rfl rfl rfl rfl rfl (by omega) hx') ?_;refine rC ?_;refine rQ iL ?_;refine zD ?_
      iterate 7 refine rS ?_
      refine rQ iF ?_;refine zJ<|kS<|sR ?_;refine zD ?_;refine rQ (aI aa rfl rfl rfl rfl rfl (by omega) hx') ?_;refine rC ?_;refine rQ iL ?_;refine zD ?_;refine rO ?_;refine rC ?_;refine rO ?_;refine rC ?_;refine rO ?_;refine rQ (aI aa rfl rfl rfl rfl rfl (by omega) hx') ?_;refine rO ?_;refine rC ?_;refine rO ?_;refine rQ iL ?_;refine rO ?_;refine rC ?_;refine rO ?_;refine rC ?_;refine rQ iT ?_;refine zG<|aS<|zC<|ai ?_;refine rC ?_;refine rQ iD ?_;refine rC<|ay ?_
      exact aL (i+1) [] hlt (by omega) (lg ⟨zE,rfl,⟨_,rfl,AVLe.of_eq (congrArg (fun n=>AV.int .i64 n) hp.symm)⟩,rfl,zE,rfl,zE,rfl,trivial⟩ trivial)
    ·have d2:decide (x.kind=2)=false:=dF k2
     rw[if_neg k2]at hp
     refine zQ<|br<|qR<|zD ?_;refine rQ (aI aa rfl rfl rfl rfl rfl (by omega) hx') ?_;refine rC ?_;refine rQ iL ?_;refine rC ?_;refine zG<|kS<|qR ?_;refine zD ?_;refine rQ (aI aa rfl rfl rfl rfl rfl (by omega) hx') ?_;refine rC ?_;refine rQ iL ?_;refine zD ?_
     iterate 7 refine rS ?_
     refine rQ iF ?_;refine zJ<|kS<|sR ?_;refine zD ?_;refine rQ (aI aa rfl rfl rfl rfl rfl (by omega) hx') ?_;refine rC ?_;refine rQ iL ?_;refine zD ?_
     iterate 7 refine rS ?_
     refine rQ iF ?_;refine zJ<|aS<|zC<|ai ?_;refine rC ?_;refine rQ iD ?_;refine rC<|ay ?_
     exact aL (i+1) [] hlt (by omega) (lg ⟨zE,rfl,⟨_,rfl,AVLe.of_eq (congrArg (fun n=>AV.int .i64 n) hp.symm)⟩,rfl,zE,rfl,zE,rfl,trivial⟩ trivial)
 ·have he:i=h.length:=by have:=of_decide_eq_false h3; omega
  subst he
  rw[List.take_length]
  refine zX<|sR<|zD<|zT ?_
  exact⟨trivial,[],lf⟩
def fit1 (h:List HEv) (x:HEv):Bool:=decide (0≤x.client)&&decide (x.client≤7)&&decide (pend h x.client<0)&&decide (x.op.data.length≤64)&&decide (x.value=zBk)&&decide (x.err=0)
def fit2 (h:List HEv) (x:HEv):Bool:=decide (0≤x.client)&&decide (x.client≤7) && !decide (pend h x.client<0)&&decide (x.op=zOp)&&kn4 x.err&&((match h[(pend h x.client).toNat]? with | some y=>decide (y.op.kind=1)&&decide (x.err=0) | none=>false)||decide (x.value=zBk))
def fitB (h:List HEv) (x:HEv):Bool:=if x.kind=1 then fit1 h x else if x.kind=2 then fit2 h x else if x.kind=3 then jQ x else false
def mw (h:List HEv):Nat→Nat→Int×Int
 | 0,_=>(0,0)
 | n+1,i=>match h[i]? with
  | none=>(0,0)
  | some x=>if fitB (h.take i) x then mw h n (i+1) else ((i:Int),18)
def rchk (h:List HEv):Int×Int:=if 8192<h.length then (0,3) else mw h h.length 0
def fewB (h:List HEv):Bool:=decide (h.length≤60)&&h.all fun x=>decide (x.op.data.length≤70)
end Go.Proofs.YtjfkhlamjdbfkaaGreatDoor
namespace Go.Proofs.YtjfkhlamjdbfkaaGreatDoor
open Go.Eng Go.Plain
set_option maxHeartbeats 32000000
set_option maxRecDepth 20000
structure kv (p:List HEv) (s:RdS):Prop where
 ok:s.Ok p.length
 idle:∀c:Nat,c<8→pend p c<0→s.busy[c]?=some 0
 busy:∀c:Nat,c<8→0≤pend p c→∃b o y,s.busy[c]?=some b∧0<b∧s.all[(b-1).toNat]?=some o∧p[(pend p c).toNat]?=some y∧o.op=y.op
 free:∀c d:Nat,c<8→d<8→c≠d→∀b,s.busy[c]?=some b→s.busy[d]?=some b→b=0
theorem wN:kv [] rd0:=⟨gm,fun c hc _=>by
 match c,hc with
 | 0,_=>rfl
 | 1,_=>rfl
 | 2,_=>rfl
 | 3,_=>rfl
 | 4,_=>rfl
 | 5,_=>rfl
 | 6,_=>rfl
 | 7,_=>rfl,fun c _ h=>absurd h (by rw[show pend [] ((c:Nat):Int) = -1 from rfl]; decide),fun c d hc hd _ b hb _=>by
 have:=List.mem_of_getElem? hb
 have hz:∀b∈rd0.busy,b=0:=by decide
 exact hz b this⟩
theorem kv.fits {p:List HEv} {s:RdS} (T:kv p s) (x:HEv):(aZ s x).2=fitB p x:=by
 unfold aZ fitB
 simp only
 by_cases k1:x.kind=1
 ·rw[if_pos k1,if_pos k1]
  have e:inv1 s x=fit1 p x:=by
   unfold inv1 fit1
   by_cases c0:0≤x.client
   ·by_cases c8:x.client<8
    ·have c7:x.client≤7:=by omega
     have hc:((x.client.toNat:Nat):Int)=x.client:=Int.toNat_of_nonneg c0
     have hb:decide (s.busy[x.client.toNat]?=some 0)=decide (pend p x.client<0):=by
      by_cases hp:pend p x.client<0
      ·rw[T.idle x.client.toNat (by omega) (by rw[hc]; exact hp),dT hp]; rfl
      ·obtain⟨b,o,y,h1,h2,_⟩:=T.busy x.client.toNat (by omega) (by rw[hc]; omega)
       rw[h1,dF hp]
       exact dF fun e=>by cases e; omega
     rw[hb,dT c8,dT c7]
    ·rw[dF c8,dF (by omega:¬x.client≤7)]; simp
   ·rw[dF c0]; simp
  rw[←e]
  cases inv1 s x <;> rfl
 ·rw[if_neg k1,if_neg k1]
  by_cases k2:x.kind=2
  ·rw[if_pos k2,if_pos k2]
   have e:ret1 s x=fit2 p x:=by
    unfold ret1 fit2
    by_cases c0:0≤x.client
    ·by_cases c8:x.client<8
     ·have c7:x.client≤7:=by omega
      have hc:((x.client.toNat:Nat):Int)=x.client:=Int.toNat_of_nonneg c0
      by_cases hp:pend p x.client<0
      ·rw[T.idle x.client.toNat (by omega) (by rw[hc]; exact hp),dT hp]
       simp
      ·obtain⟨b,o,y,h1,h2,h3,h4,h5⟩:=T.busy x.client.toNat (by omega) (by rw[hc]; omega)
       rw[hc]at h4
       rw[opOf,h1]
       simp only
       rw[h3,h4,dF hp,dT c8,dT c7,dT c0,dF (fun e=>by cases e; omega:¬some b=some 0)]
       simp only[h5]
       cases decide (x.op=zOp) <;> cases kn4 x.err <;> cases decide (x.value=zBk) <;> cases decide (y.op.kind=1) <;> cases decide (x.err=0) <;> rfl
     ·rw[dF c8,dF (by omega:¬x.client≤7)]; simp
    ·rw[dF c0]; simp
   rw[←e]
   cases ret1 s x <;> rfl
  ·rw[if_neg k2,if_neg k2]
   by_cases k3:x.kind=3
   ·rw[if_pos k3,if_pos k3]
   ·rw[if_neg k3,if_neg k3]
theorem jp {s:RdS} {x:HEv} (h:(aZ s x).2=true):x.kind=1∧inv1 s x=true∨x.kind=2∧ret1 s x=true∨x.kind=3∧jQ x=true:=by
 unfold aZ at h
 simp only at h
 by_cases k1:x.kind=1
 ·rw[if_pos k1]at h
  cases hi:inv1 s x with
  | true=>exact .inl ⟨k1,rfl⟩
  | false=>rw[hi]at h; cases h
 ·rw[if_neg k1]at h
  by_cases k2:x.kind=2
  ·rw[if_pos k2]at h
   cases hi:ret1 s x with
   | true=>exact .inr (.inl ⟨k2,rfl⟩)
   | false=>rw[hi]at h; cases h
  ·rw[if_neg k2]at h
   by_cases k3:x.kind=3
   ·rw[if_pos k3]at h; exact .inr (.inr ⟨k3,h⟩)
   ·rw[if_neg k3]at h; cases h
theorem lD {s:RdS} {x:HEv} (h:inv1 s x=true):0≤x.client∧x.client<8∧s.busy[x.client.toNat]?=some 0∧x.op.data.length≤64∧x.value=zBk∧x.err=0:=by
 simp only[inv1,Bool.and_eq_true,decide_eq_true_eq]at h
 obtain⟨⟨⟨⟨⟨h1,h2⟩,h3⟩,h4⟩,h5⟩,h6⟩:=h
 exact⟨h1,h2,h3,h4,h5,h6⟩
theorem la {s:RdS} {x:HEv} {n:Nat} (hs:s.Ok n) (h:ret1 s x=true):0≤x.client∧x.client<8∧x.op=zOp∧kn4 x.err=true∧∃b o,s.busy[x.client.toNat]?=some b∧0<b∧s.all[(b-1).toNat]?=some o∧opOf s x=some o∧(x.value=zBk∨o.op.kind=1∧x.err=0):=by
 simp only[ret1,Bool.and_eq_true,decide_eq_true_eq]at h
 obtain⟨⟨⟨⟨⟨h1,h2⟩,h3⟩,h4⟩,h5⟩,h6⟩:=h
 obtain⟨b,hbg⟩:∃b,s.busy[x.client.toNat]?=some b:=⟨_,List.getElem?_eq_getElem (by rw[hs.blen]; omega)⟩
 have hb:=hs.busy b (List.mem_of_getElem? hbg)
 have hb0:b≠0:=by rw[hbg]at h3; simpa using h3
 obtain⟨o,hog⟩:∃o,s.all[(b-1).toNat]?=some o:=⟨_,List.getElem?_eq_getElem (by omega)⟩
 have ho:opOf s x=some o:=by rw[opOf,hbg]; exact hog
 rw[ho]at h6
 refine⟨h1,h2,h4,h5,b,o,hbg,by omega,hog,ho,?_⟩
 simpa[Bool.or_eq_true,Bool.and_eq_true]using h6
theorem j1 {s:RdS} {x:HEv} (k1:x.kind=1) (h:inv1 s x=true):(aZ s x).1=⟨s.busy.set x.client.toNat (s.all.length+1),s.number.set x.client.toNat ((s.number[x.client.toNat]?.getD 0)+1),s.era,s.read+1,s.all++[⟨x.client,s.number[x.client.toNat]?.getD 0,s.era,x.op,s.read,-1,zBk,0⟩]⟩:=by simp[aZ,k1,h]
theorem j0 {s:RdS} {x:HEv} {b:Int} {o:HOp} (k2:x.kind=2) (h:ret1 s x=true) (hb:s.busy[x.client.toNat]?=some b) (ho:opOf s x=some o):(aZ s x).1=⟨s.busy.set x.client.toNat 0,s.number,s.era,s.read+1,s.all.set (b-1).toNat { o with returned:=s.read,value:=x.value,err:=x.err }⟩:=by simp[aZ,k2,h,ho,hb]
theorem ia {s:RdS} {x:HEv} (k3:x.kind=3):(aZ s x).1=⟨dj,s.number,s.era+1,s.read+1,s.all⟩:=by simp[aZ,k3]
theorem jb {α:Type} {p:List α} {x y:α} {k:Nat} (h:p[k]?=some y):(p++[x])[k]?=some y:=by
 rw[List.getElem?_append_left (List.getElem?_eq_some_iff.1 h).1]; exact h
theorem kv.next {p:List HEv} {s:RdS} (T:kv p s) {x:HEv} (h:(aZ s x).2=true):kv (p++[x]) (aZ s x).1:=by
 have hok:=T.ok.next x
 have hlen:(p++[x]).length=p.length+1:=by simp
 rcases jp h with ⟨k1,hi⟩ | ⟨k2,hi⟩ | ⟨k3,hi⟩
 ·obtain⟨c0,c8,hb,_,_,_⟩:=lD hi
  have e:=j1 k1 hi
  rw[e]at hok ⊢
  have hps:∀d:Int,pend (p++[x]) d=if x.client=d then (p.length:Int) else pend p d:=fun d=>by
   rw[gP,fu,if_neg (by omega),if_pos k1]
  refine⟨by rw[hlen]; exact hok,fun d hd hp=>?_,fun d hd hp=>?_,fun c d hc hd hcd b h1 h2=>?_⟩
  ·rw[hps]at hp
   by_cases hcd:x.client=d
   ·rw[if_pos hcd]at hp; omega
   ·rw[if_neg hcd]at hp
    rw[List.getElem?_set_ne (by omega)]
    exact T.idle d hd hp
  ·rw[hps]at hp ⊢
   by_cases hcd:x.client=d
   ·rw[if_pos hcd]
    refine⟨s.all.length+1,_,x,by rw[show x.client.toNat=d by omega]; exact List.getElem?_set_self (by rw[T.ok.blen]; exact hd),by omega,by
     rw[show ((s.all.length:Int)+1-1).toNat=s.all.length by omega]
     exact List.getElem?_concat_length .., by
     rw[Int.toNat_natCast]
     exact List.getElem?_concat_length .., rfl⟩
   ·rw[if_neg hcd]at hp ⊢
    obtain⟨b,o,y,g1,g2,g3,g4,g5⟩:=T.busy d hd hp
    exact⟨b,o,y,by rw[List.getElem?_set_ne (by omega)]; exact g1,g2,jb g3,jb g4,g5⟩
  ·have hbb:∀(k:Nat) (b:Int),s.busy[k]?=some b→b≤s.all.length:=fun k b hk=>(T.ok.busy b (List.mem_of_getElem? hk)).2
   by_cases e1:x.client.toNat=c
   ·subst e1
    rw[List.getElem?_set_self (by rw[T.ok.blen]; exact hc)]at h1
    rw[List.getElem?_set_ne hcd]at h2
    have:=hbb _ _ h2
    cases h1
    omega
   ·rw[List.getElem?_set_ne e1]at h1
    by_cases e2:x.client.toNat=d
    ·subst e2
     rw[List.getElem?_set_self (by rw[T.ok.blen]; exact hd)]at h2
     have:=hbb _ _ h1
     cases h2
     omega
    ·rw[List.getElem?_set_ne e2]at h2
     exact T.free c d hc hd hcd b h1 h2
 ·obtain⟨c0,c8,_,_,b,o,hb,hb0,hog,ho,_⟩:=la T.ok hi
  have e:=j0 k2 hi hb ho
  rw[e]at hok ⊢
  have hps:∀d:Int,pend (p++[x]) d=if x.client=d then-1 else pend p d:=fun d=>by
   rw[gP,fu,if_neg (by omega),if_neg (by omega),if_pos k2]
  refine⟨by rw[hlen]; exact hok,fun d hd hp=>?_,fun d hd hp=>?_,fun c d hc hd hcd b' h1 h2=>?_⟩
  ·rw[hps]at hp
   by_cases hcd:x.client=d
   ·rw[show x.client.toNat=d by omega]; exact List.getElem?_set_self (by rw[T.ok.blen]; exact hd)
   ·rw[if_neg hcd]at hp
    rw[List.getElem?_set_ne (by omega)]
    exact T.idle d hd hp
  ·rw[hps]at hp ⊢
   by_cases hcd:x.client=d
   ·rw[if_pos hcd]at hp; omega
   ·rw[if_neg hcd]at hp ⊢
    obtain⟨b',o',y,g1,g2,g3,g4,g5⟩:=T.busy d hd hp
    have hne:b'≠b:=fun e=>by
     subst e
     have:=T.free x.client.toNat d (by omega) hd (by omega) _ hb g1
     omega
    exact⟨b',o',y,by rw[List.getElem?_set_ne (by omega)]; exact g1,g2,by rw[List.getElem?_set_ne (by omega)]; exact g3,jb g4,g5⟩
  ·by_cases e1:x.client.toNat=c
   ·subst e1
    rw[List.getElem?_set_self (by rw[T.ok.blen]; exact hc)]at h1
    cases h1; rfl
   ·rw[List.getElem?_set_ne e1]at h1
    by_cases e2:x.client.toNat=d
    ·subst e2
     rw[List.getElem?_set_self (by rw[T.ok.blen]; exact hd)]at h2
     cases h2; rfl
    ·rw[List.getElem?_set_ne e2]at h2
     exact T.free c d hc hd hcd b' h1 h2
 ·have e:=ia (s:=s) k3
  rw[e]at hok ⊢
  have hps:∀d:Int,pend (p++[x]) d = -1:=fun d=>by rw[gP,fu,if_pos k3]
  have hz:∀b∈dj,b=0:=by decide
  refine⟨by rw[hlen]; exact hok,fun d hd _=>?_,fun d hd hp=>by rw[hps]at hp; omega,fun c d _ _ _ b h1 _=>hz b (List.mem_of_getElem? h1)⟩
  obtain⟨b,hb⟩:∃b,dj[d]?=some b:=⟨_,List.getElem?_eq_getElem hd⟩
  show dj[d]?=some 0
  rw[hb,hz b (List.mem_of_getElem? hb)]
theorem nX (h:List HEv):∀(n:Nat) (s:RdS) (i:Nat),h.length-i=n→i≤h.length→kv (h.take i) s →
  mw h n i=(if 0≤(goS s (h.drop i) i).2 then ((goS s (h.drop i) i).2,18) else (0,0))∧((goS s (h.drop i) i).2<0→kv h (goS s (h.drop i) i).1)
 | 0,s,i,hn,hi,T=>by
  have he:i=h.length:=by omega
  subst he
  rw[List.drop_length]
  rw[List.take_length]at T
  exact⟨rfl,fun _=>T⟩
 | n+1,s,i,hn,hi,T=>by
  obtain⟨x,hx⟩:∃x,h[i]?=some x:=⟨_,List.getElem?_eq_getElem (by omega)⟩
  have htk:h.take (i+1)=h.take i++[x]:=by rw[List.take_add_one,hx]; rfl
  rw[gv hx,mw,hx]
  simp only
  rw[←T.fits x]
  cases hb:(aZ s x).2 with
  | true =>
   simp only[if_pos]
   have T':=T.next hb
   rw[←htk]at T'
   exact nX h n _ (i+1) (by omega) (by omega) T'
  | false =>
   simp only[Bool.false_eq_true,if_false]
   rw[if_pos (by omega)]
   exact⟨rfl,fun hlt=>by omega⟩
theorem uQ (h:List HEv):chkH h=rchk h:=by
 unfold chkH rchk
 by_cases h8:8192<h.length
 ·rw[if_pos h8,if_pos h8]
 ·rw[if_neg h8,if_neg h8]
  exact (nX h h.length rd0 0 (by omega) (Nat.zero_le _) wN).1.symm
end Go.Proofs.YtjfkhlamjdbfkaaGreatDoor
namespace Go.Proofs.YtjfkhlamjdbfkaaGreatDoor
open Go.Eng Go.Plain
set_option maxHeartbeats 32000000
set_option maxRecDepth 20000
attribute [local irreducible] WC RegS RegD SeqQ BlkQ ScoQ RegK CutK Sat SatN FnIs LoopQ aq OpIs
theorem sW {l p:List UInt8}:FnIs Tryz.prog 55 [.d (strD l),.d (strD p)] [] (.d (strD (Lib.trimPrefix l p))) []:=
 .of_calls1 rfl ⟨_,Tryz.func55,by kernel_rfl,by kernel_rfl⟩ fun σ w X vs ha hg=>by
  rw[ha.two]
  refine (Tryz.strings_TrimPrefix (mkS l) (mkS p) w).mono ?_
  rintro e w' ⟨rfl,rfl⟩
  exact⟨by rw[cH,cH]; rfl,Go.RowKit.Below.refl _ _⟩
theorem sV {l p:List UInt8} (hl:l.length≤9223372036854775807):FnIs Tryz.prog 54 [.d (strD l),.d (strD p)] [] (.d (strD (Lib.trimSuffix l p))) []:=
 .of_calls1 rfl ⟨_,Tryz.func54,by kernel_rfl,by kernel_rfl⟩ fun σ w X vs ha hg=>by
  rw[ha.two]
  refine (Tryz.strings_TrimSuffix (mkS l) (mkS p) w (by rw[co]; exact hl)).mono ?_
  rintro e w' ⟨rfl,rfl⟩
  exact⟨by rw[cH,cH]; rfl,Go.RowKit.Below.refl _ _⟩
theorem sY (p s:List UInt8):Lib.trimPrefix (p++s) p=s:=by
 rw[Lib.trimPrefix,Lib.hasPrefix,if_pos (by rw[List.isPrefixOf_iff_prefix]; exact List.prefix_append _ _),List.drop_left]
theorem sX (s q:List UInt8):Lib.trimSuffix (s++q) q=s:=by
 rw[Lib.trimSuffix,Lib.hasSuffix,if_pos (by rw[List.isSuffixOf_iff_suffix]; exact List.suffix_append _ _)]
 simp
def sOk:List UInt8:=[111,107]
def sArg:List UInt8:=[97,114,103]
def fL:List UInt8:=[110,111,110,99,101]
def fM:List UInt8:=[105,110,116,101,103,114,105,116,121]
def b6:List (Int×AV):=[(0,.d (strD sOk)),(1,.d (strD sArg)),(8,.d (strD fL)),(9,.d (strD fM))]
theorem eH:fk Tryz.prog 28 i6 1:=sk Tryz.underlying28 .i64
theorem kX:FnIs Tryz.prog 45 [] [] (.mapr 64) [(64,.mo (mapC i6 b6))]:=by
 refine aw aa Tryz.func45 rfl rfl rfl ?_;refine sR<|rC<|nR ?_;refine aG (oD) rfl ?_;refine bh rfl (cW (κ:=Int) (enc:=i6) (l:=b6.take 0) (k:=0) (v :=.d (strD sOk)) eH Tryz.underlying107 rfl rfl rfl rfl rfl) rfl rfl ?_;refine bh rfl (cW (κ:=Int) (enc:=i6) (l:=b6.take 1) (k:=1) (v :=.d (strD sArg)) eH Tryz.underlying107 rfl rfl rfl rfl rfl) rfl rfl ?_;refine bh rfl (cW (κ:=Int) (enc:=i6) (l:=b6.take 2) (k:=8) (v :=.d (strD fL)) eH Tryz.underlying107 rfl rfl rfl rfl rfl) rfl rfl ?_;refine bh rfl (cW (κ:=Int) (enc:=i6) (l:=b6.take 3) (k:=9) (v :=.d (strD fM)) eH Tryz.underlying107 rfl rfl rfl rfl rfl) rfl rfl ?_;refine zD<|zT ?_
 exact⟨trivial,[(64,some _)],lg zV ⟨zR,trivial⟩⟩
theorem v7 (l:List UInt8) (hl32:l.length=32):FnIs Tryz.prog 44 [.d (ff l)] [] (.d (strD (hexP l))) []:=by
 have hne:l≠[]:=fun e=>by rw[e]at hl32; cases hl32
 have hL:l.length≤524288:=by omega
 have hbl:(byI l).length=l.length:=b5 l
 refine aw aa Tryz.func44 rfl rfl rfl ?_;refine sR<|rN ?_;refine rC<|nR ?_;refine rN<|zW ?_;refine rQ iM ?_;refine rC<|zP ?_
 refine wc_inv (fun i:Nat=>⟨[(7,.int .i64 i),(6,.d (ff l)),(3,.ptr 65 [])],[(65,some (cF (Nat.beq i 0) 65 66 (2*i))),(66,some (rowT ((l.take i).flatMap hexB)))],72,Tryz.f44.ntmps,64⟩) (fun i=>i≤l.length) (fun i=>l.length-i) 0 [(65,some _),(66,none)] (Nat.zero_le _)
  (lg zj ⟨⟨rfl,rfl,_,rfl,aY.split2⟩,⟨rfl,rfl,rfl⟩,trivial⟩) ?_
 intro i hi
 refine bH<|sR ?_;refine rC<|nQ ?_
 refine bW rfl (fun h3=>?_) (fun h3=>?_)
 ·have hlt:i<l.length:=by have:=of_decide_eq_true h3; omega
  obtain⟨b,hb⟩:∃b,l[i]?=some b:=⟨_,List.getElem?_eq_getElem hlt⟩
  have hb':(byI l)[((i:Int)).toNat]?=some (b.toNat:Int):=by rw[Int.toNat_natCast]; exact rk hb
  have hb8:b.toNat<256:=b.toNat_lt
  have hw16:IntKind.u8.wrap ((b.toNat/16:Nat):Int)=((b.toNat/16:Nat):Int):=cm (by omega)
  have hd1:=iZ (n:=b.toNat/16) (by omega)
  have hd2:=iZ (n:=b.toNat % 16) (by omega)
  have hpl:((l.take i).flatMap hexB).length=2*i:=by rw[dM,List.length_take,Nat.min_eq_left hi]
  have hp1:2*i+1≤1048576:=by omega
  have hpl2:((l.take i).flatMap hexB++[hexC (b.toNat/16)]).length=2*i+1:=by rw[List.length_append,hpl]; rfl
  have hp2:2*i+1+1≤1048576:=by omega
  have hgo:=oO hb
  refine zQ<|zS<|rQ (so aa rfl rfl rfl rfl rfl (by omega) (by omega) ⟨rfl,_,hb',rfl⟩ rfl) ?_;refine rC<|nR ?_;refine rC ?_;refine rQ (dq (a:=b.toNat) (b:=16) aa rfl rfl rfl (by decide) hw16) ?_;refine rQ (ek (l:=hexD) (m:=b.toNat/16) aa rfl rfl rfl hd1) ?_;refine bh rfl (bq [(0,some 65),(1,some 66)] (eF (Nat.beq i 0) ((l.take i).flatMap hexB) (hexC (b.toNat/16)) (2*i) hpl hp1) rfl rfl rfl (bj rfl rfl (aj ab)) ⟨⟨rfl,(by cases Nat.beq i 0 <;> rfl),_,_,rfl,rfl,(by cases Nat.beq i 0 <;> exact .refl _)⟩,zH,trivial⟩ rfl rfl (.inl rfl) rfl rfl) rfl rfl<|nS<|ai ?_;refine rC ?_;refine rQ (bM (a:=b.toNat) (b:=16) aa rfl rfl rfl (by decide)) ?_;refine rQ (ek (l:=hexD) (m:=b.toNat % 16) aa rfl rfl rfl hd2) ?_;refine bh rfl (bq [(0,some 65),(1,some _)] (eF false ((l.take i).flatMap hexB++[hexC (b.toNat/16)]) (hexC (b.toNat % 16)) (2*i+1) hpl2 hp2) rfl rfl rfl (bj rfl rfl (aj ab)) ⟨zH,zH,trivial⟩ rfl rfl (.inl rfl) rfl rfl) rfl rfl<|ay<|zC<|ai ?_;refine rQ iD ?_;refine rC<|ay ?_
  exact aL (i+1) [(66,some _)] hlt (by omega) (lg zj ⟨zR,⟨rfl,rfl,_,rfl,aY.of_eq (congrArg rowT hgo)⟩,trivial⟩)
 ·have he:i=l.length:=by have:=of_decide_eq_false h3; omega
  subst he
  have hnn:l.flatMap hexB≠[]:=fun e=>by have:=dM l; rw[e]at this; simp at this; omega
  have hp4:2*l.length≤1048576:=by omega
  have hbz:Nat.beq l.length 0=false:=by
   cases hz:Nat.beq l.length 0 with
   | false=>rfl
   | true=>have:=Nat.eq_of_beq_eq_true hz; omega
  rw[hbz,List.take_length]
  refine zX<|sR<|aU (bq [(0,some 65),(1,some 66)] (fY (l.flatMap hexB) (2*l.length) (dM l) hnn hp4) rfl rfl rfl (bj rfl rfl ab) ⟨zH,zH,trivial⟩ rfl rfl (.inl rfl) rfl rfl) rfl ?_;refine rC<|zT ?_
  rw[show hexP l=l.flatMap hexB from if_neg hne]
  exact⟨trivial,[],lf⟩
theorem rf {o:POp} (hd:o.data.length≤64):chkP [[o]]=0:=dA.2 ⟨by simp,fun p hp=>by
 rw[List.mem_singleton.1 hp]
 simp[badP]; try omega⟩
theorem kZ (o:POp):bL [[o]]=(aF++[10])++(bg o++[10]):=by simp[bL,opsT]
theorem xe (o:POp) (hok:o.Ok) (hd:o.data.length≤64):FnIs Tryz.prog 43 [.d (bv o)] [] (.d (strD (bg o))) []:=by
 have h0:=rf hd
 have ht:=vo [[o]] (xy h0) (fun p hp q hq=>by rw[List.mem_singleton.1 hp]at hq; rw[List.mem_singleton.1 hq]; exact hok)
 rw[h0,if_pos rfl,kZ]at ht
 have hp:=sW (l:=(aF++[10])++(bg o++[10])) (p:=aF++[10])
 rw[sY]at hp
 have hs:=sV (l:=bg o++[10]) (p:=[10]) (by have:=lz hok; simp; omega)
 rw[sX]at hs
 refine aw aa Tryz.func43 rfl rfl rfl ?_;refine sR<|rN ?_;refine rC<|nR ?_;refine rQ iM ?_;refine rQ (aq.frozen (aD (s:=3) aa rfl rfl rfl rfl rfl rfl rfl rfl) (Frz.lits1 (enc:=bv) o rfl rfl)) ?_;refine rQ (aq.frozen (aD (s:=1) aa rfl rfl rfl rfl rfl rfl rfl rfl) (Frz.lits1 (enc:=encP) [o] rfl rfl)) ?_;refine rQ (am ht rfl rfl (aj ab) (.inl rfl) (fun _=>rfl)) ?_
 iterate 5 refine rC ?_
 refine nR<|rC ?_;refine rQ (am hp rfl rfl (aj (aj ab)) (.inl rfl) (fun _=>rfl)) ?_;refine rQ (am hs rfl rfl (aj (aj ab)) (.inl rfl) (fun _=>rfl)) ?_;refine rC<|zT ?_
 exact⟨trivial,[],lf⟩
def bu:List UInt8:=[99,114,97,115,104]
def bw:List UInt8:=[105,110,118,111,107,101]
def ba:List UInt8:=[114,101,116,117,114,110]
def iv (e:Int):List UInt8:=if e=0 then sOk else if e=1 then sArg else if e=8 then fL else if e=9 then fM else[]
def bI (x:HEv):List UInt8:=if x.kind=3 then bu else if x.kind=1 then (bw++[32])++Lib.itoa x.client++[32]++bg x.op else if x.value=zBk then (ba++[32])++Lib.itoa x.client++[32]++iv x.err else (ba++[32])++Lib.itoa x.client++[32,111,107,32]++hexP x.value
theorem sT:it Tryz.prog 9 (strD []):=qF (by kernel_rfl) rfl
theorem sB (e:Int):cY e b6 0=(if e=0 then some (0,.d (strD sOk)) else if e=1 then some (1,.d (strD sArg)) else if e=8 then some (2,.d (strD fL)) else if e=9 then some (3,.d (strD fM)) else none):=by
 simp only[b6,cY]
theorem iX (x:HEv) (hok:x.Ok) (hd:x.op.data.length≤64):FnIs Tryz.prog 32 [.d (bx x)] [] (.d (strD (bI x))) []:=by
 have hil:=b9 hok.client.1 hok.client.2
 have hll:=lz hok.op
 have hhl:=dL x.value
 rw[hok.value]at hhl
 refine aw aa Tryz.func32 rfl rfl rfl ?_
 unfold bI
 refine sR<|rN ?_;refine rC<|nR ?_;refine rC ?_;refine rQ iB ?_;refine rQ (am (dx hok.client.1 hok.client.2) rfl rfl (aj ab) (.inl rfl) (fun _=>rfl)) ?_;refine rC<|nQ<|zS ?_;refine rC ?_;refine rQ iB ?_;refine zD<|nS ?_
 by_cases k3:x.kind=3
 ·have d3:decide (x.kind=3)=true:=dT k3
  rw[if_pos k3]
  refine wT<|sR ?_;refine rC<|zT<|zB ?_
  exact⟨trivial,[],lf⟩
 ·have d3:decide (x.kind=3)=false:=dF k3
  rw[if_neg k3]
  refine wF<|sR ?_;refine rC ?_;refine rQ iB ?_;refine zD<|nS ?_
  by_cases k1:x.kind=1
  ·have d1:decide (x.kind=1)=true:=dT k1
   rw[if_pos k1]
   refine wT<|sR ?_;refine rC ?_;refine rQ (aT (a:=bw++[32]) (b:=Lib.itoa x.client) rfl rfl (by simp[bw]; omega) rfl) ?_;refine rQ (aT (a:=bw++[32]++Lib.itoa x.client) (b:=[32]) rfl rfl (by simp[bw]; omega) rfl) ?_;refine rC ?_;refine rQ iB ?_;refine rQ (am (xe x.op hok.op hd) rfl rfl (aj ab) (.inl rfl) (fun _=>rfl)) ?_;refine rQ (aT (a:=bw++[32]++Lib.itoa x.client++[32]) (b:=bg x.op) rfl rfl (by simp[bw]; omega) rfl) ?_;refine rC<|zT<|zB ?_
   exact⟨trivial,[],lf⟩
  ·have d1:decide (x.kind=1)=false:=dF k1
   rw[if_neg k1]
   refine wF<|sR ?_;refine rC ?_;refine rQ iB ?_;refine rQ (bk aa rfl rfl rfl) ?_;refine rQ (lw rfl rfl rfl rfl (by kernel_rfl) (by decide) (bG x.value zBk)) ?_;refine rC<|nS ?_
   by_cases hv:x.value=zBk
   ·have v0:(!decide (x.value=zBk))=false:=by rw[dT hv]; rfl
    rw[if_pos hv]
    have hf:=sB x.err
    unfold iv
    refine wF<|aS<|zC<|bD ?_;refine aH (by kernel_rfl) ?_;refine dC [3] [] ?_;refine dQ [34] [] (aT (a:=ba++[32]) (b:=Lib.itoa x.client) rfl rfl (by simp[ba]; omega) rfl) ?_;refine dQ [35] [] (aT (a:=ba++[32]++Lib.itoa x.client) (b:=[32]) rfl rfl (by simp[ba]; omega) rfl) ?_;refine fp [] [] rfl (bq [] kX rfl rfl rfl ab trivial rfl rfl (.inl rfl) rfl rfl) ?_;refine dC [1] [] ?_;refine dQ [38] [64] iB ?_
    by_cases h0:x.err=0
    ·rw[if_pos h0]at hf ⊢
     obtain⟨W,hW⟩:∃W,W=sOk:=⟨_,rfl⟩
     have hWl:W.length≤20:=by rw[hW]; decide
     rw[←hW]at hf ⊢
     refine dQ [37,39] [240] (fc (κ:=Int) (enc:=i6) (l:=b6) (k:=x.err) eH Tryz.underlying107 rfl rfl rfl hf) ?_;refine dQ [36,40] [] (aT (a:=ba++[32]++Lib.itoa x.client++[32]) (b:=W) rfl rfl (by simp[ba]; omega) rfl) ?_;refine dC [41] [] ?_;refine aB (by kernel_rfl)<|aK<|bO ?_
     exact⟨trivial,[],lf⟩
    ·rw[if_neg h0]at hf ⊢
     skip
     by_cases h1:x.err=1
     ·rw[if_pos h1]at hf ⊢
      obtain⟨W,hW⟩:∃W,W=sArg:=⟨_,rfl⟩
      have hWl:W.length≤20:=by rw[hW]; decide
      rw[←hW]at hf ⊢
      refine dQ [37,39] [240] (fc (κ:=Int) (enc:=i6) (l:=b6) (k:=x.err) eH Tryz.underlying107 rfl rfl rfl hf) ?_;refine dQ [36,40] [] (aT (a:=ba++[32]++Lib.itoa x.client++[32]) (b:=W) rfl rfl (by simp[ba]; omega) rfl) ?_;refine dC [41] [] ?_;refine aB (by kernel_rfl)<|aK<|bO ?_
      exact⟨trivial,[],lf⟩
     ·rw[if_neg h1]at hf ⊢
      skip
      by_cases h8:x.err=8
      ·rw[if_pos h8]at hf ⊢
       obtain⟨W,hW⟩:∃W,W=fL:=⟨_,rfl⟩
       have hWl:W.length≤20:=by rw[hW]; decide
       rw[←hW]at hf ⊢
       refine dQ [37,39] [240] (fc (κ:=Int) (enc:=i6) (l:=b6) (k:=x.err) eH Tryz.underlying107 rfl rfl rfl hf) ?_;refine dQ [36,40] [] (aT (a:=ba++[32]++Lib.itoa x.client++[32]) (b:=W) rfl rfl (by simp[ba]; omega) rfl) ?_;refine dC [41] [] ?_;refine aB (by kernel_rfl)<|aK<|bO ?_
       exact⟨trivial,[],lf⟩
      ·rw[if_neg h8]at hf ⊢
       skip
       by_cases h9:x.err=9
       ·rw[if_pos h9]at hf ⊢
        obtain⟨W,hW⟩:∃W,W=fM:=⟨_,rfl⟩
        have hWl:W.length≤20:=by rw[hW]; decide
        rw[←hW]at hf ⊢
        refine dQ [37,39] [240] (fc (κ:=Int) (enc:=i6) (l:=b6) (k:=x.err) eH Tryz.underlying107 rfl rfl rfl hf) ?_;refine dQ [36,40] [] (aT (a:=ba++[32]++Lib.itoa x.client++[32]) (b:=W) rfl rfl (by simp[ba]; omega) rfl) ?_;refine dC [41] [] ?_;refine aB (by kernel_rfl)<|aK<|bO ?_
        exact⟨trivial,[],lf⟩
       ·rw[if_neg h9]at hf ⊢
        refine dQ [37,39] [240] (oF (κ:=Int) (enc:=i6) (l:=b6) (k:=x.err) eH Tryz.underlying107 sT rfl rfl rfl hf) ?_;refine dQ [36,40] [] (aT (a:=ba++[32]++Lib.itoa x.client++[32]) (b:=[]) rfl rfl (by simp[ba]; omega) rfl) ?_;refine dC [41] [] ?_;refine aB (by kernel_rfl)<|aK<|bO ?_
        exact⟨trivial,[],lf⟩
   ·have v0:(!decide (x.value=zBk))=true:=by rw[dF hv]; rfl
    rw[if_neg hv]
    refine wT<|sR ?_;refine rC ?_;refine rQ (aT (a:=ba++[32]) (b:=Lib.itoa x.client) rfl rfl (by simp[ba]; omega) rfl) ?_;refine rQ (aT (a:=ba++[32]++Lib.itoa x.client) (b:=[32,111,107,32]) rfl rfl (by simp[ba]; omega) rfl) ?_;refine rC ?_;refine rQ iB ?_;refine rQ (am (v7 x.value hok.value) rfl rfl (aj ab) (.inl rfl) (fun _=>rfl)) ?_;refine rQ (aT (a:=ba++[32]++Lib.itoa x.client++[32,111,107,32]) (b:=hexP x.value) rfl rfl (by simp[ba]; omega) rfl) ?_;refine rC<|zT<|zB ?_
    exact⟨trivial,[],lf⟩
end Go.Proofs.YtjfkhlamjdbfkaaGreatDoor
namespace Go.Proofs.YtjfkhlamjdbfkaaGreatDoor
open Go.Eng Go.Plain
set_option maxHeartbeats 32000000
set_option maxRecDepth 20000
def WfE (x:HEv):Prop := -9223372036854775808≤x.client∧x.client≤9223372036854775807 ∧
  (x.kind=3∧x.client=0∧x.op=zOp∧x.value=zBk∧x.err=0 ∨
   x.kind=1∧x.value=zBk∧x.err=0∧x.op.Ok∧x.op.data.length≤64 ∨
   x.kind=2∧x.op=zOp∧kn4 x.err=true∧x.value.length=32∧(x.value≠zBk→x.err=0))
def gw:HEv:=⟨3,0,zOp,zBk,0⟩
theorem sH:WfE gw:=⟨by decide,by decide,.inl ⟨rfl,rfl,rfl,rfl,rfl⟩⟩
theorem eU {l:List UInt8} (h:ca l=true) : -9223372036854775808≤cI l∧cI l≤9223372036854775807:=by
 unfold ca at h
 unfold cI
 cases e:Lib.atoiAll l with
 | ok n=>simp only; exact Lib.atoiAll_bounds e
 | _=>rw[e]at h; cases h
def dm (w:List UInt8):Option Int:=if w=sOk then some 0 else if w=sArg then some 1 else if w=fL then some 8 else if w=fM then some 9 else none
def eA (s:List UInt8):Option (List UInt8):=if s.length=64 then dY s else none
def finE (s:List UInt8) (b:Bool) (x:HEv):Option HEv:=if b=true∧bI x=s then some x else none
def evP (s:List UInt8):Option HEv :=
 if s=bu then some gw
 else if (cutA s 32).1=bw then
  match bz (aF++10::((cutA (cutA s 32).2.1 32).2.1++[10])) [] 1 with
  | ([[o]],_,e)=>if e=0 then finE s (ca (cutA (cutA s 32).2.1 32).1) ⟨1,cI (cutA (cutA s 32).2.1 32).1,o,zBk,0⟩ else none
  | _=>none
 else if (cutA s 32).1=ba then
  match dm (cutA (cutA (cutA s 32).2.1 32).2.1 32).1 with
  | none=>none
  | some k=>if (cutA (cutA (cutA s 32).2.1 32).2.1 32).2.2=true then
    match eA (cutA (cutA (cutA s 32).2.1 32).2.1 32).2.1 with
    | none=>none
    | some v=>finE s (ca (cutA (cutA s 32).2.1 32).1) ⟨2,cI (cutA (cutA s 32).2.1 32).1,zOp,v,k⟩
   else finE s (ca (cutA (cutA s 32).2.1 32).1) ⟨2,cI (cutA (cutA s 32).2.1 32).1,zOp,zBk,k⟩
 else none
theorem eo {c:UInt8} {p:List UInt8} (q:List UInt8) (h:c ∉ p):cutA (p++c::q) c=(p,q,true):=by
 unfold cutA; rw[g7 q h]
theorem wq {c:UInt8} {p:List UInt8} (h:c ∉ p):cutA p c=(p,[],false):=by
 unfold cutA
 cases e:cutL p c with
 | none=>rfl
 | some pq =>
  obtain⟨p',q⟩:=pq
  have:=(ct e).1
  exact absurd (by rw[this]; simp) h
theorem gV (n:Int):(32:UInt8) ∉ Lib.itoa n:=fun h=>(iW h).2 rfl
theorem fS {w:List UInt8} {k:Int} (h:dm w=some k):kn4 k=true∧w=iv k:=by
 unfold dm at h
 by_cases h0:w=sOk
 ·rw[if_pos h0]at h; cases h; exact⟨rfl,h0⟩
 ·rw[if_neg h0]at h
  by_cases h1:w=sArg
  ·rw[if_pos h1]at h; cases h; exact⟨rfl,h1⟩
  ·rw[if_neg h1]at h
   by_cases h2:w=fL
   ·rw[if_pos h2]at h; cases h; exact⟨rfl,h2⟩
   ·rw[if_neg h2]at h
    by_cases h3:w=fM
    ·rw[if_pos h3]at h; cases h; exact⟨rfl,h3⟩
    ·rw[if_neg h3]at h; cases h
theorem fe {e:Int} (h:kn4 e=true):e=0∨e=1∨e=8∨e=9:=by
 simp only[kn4,Bool.or_eq_true,decide_eq_true_eq]at h
 omega
theorem qf {e:Int} (h:kn4 e=true):dm (iv e)=some e:=by
 rcases fe h with rfl | rfl | rfl | rfl <;> decide
theorem ry {e:Int} (h:kn4 e=true):(32:UInt8) ∉ iv e:=by
 rcases fe h with rfl | rfl | rfl | rfl <;> decide
theorem xh {v:List UInt8} (h:v.length=32):hexP v=v.flatMap hexB∧(hexP v).length=64:=by
 have hne:v≠[]:=fun e=>by rw[e]at h; cases h
 have e:hexP v=v.flatMap hexB:=by rw[hexP,if_neg hne]
 exact⟨e,by rw[e,dM,h]⟩
theorem sO {v:List UInt8} (h:v.length=32):eA (hexP v)=some v:=by
 obtain⟨e,hl⟩:=xh h
 rw[eA,if_pos hl,e,ju]
theorem mY {s v:List UInt8} (h:eA s=some v):v.length=32:=by
 unfold eA at h
 split at h
 ·have:=jt s v h; omega
 ·cases h
theorem oI (x:HEv) (h:x.kind=1):bI x=bw++32::(Lib.itoa x.client++32::bg x.op):=by
 rw[bI,if_neg (by omega),if_pos h]; simp
theorem mF (x:HEv) (h:x.kind=2) (hv:x.value=zBk):bI x=ba++32::(Lib.itoa x.client++32::iv x.err):=by
 rw[bI,if_neg (by omega),if_neg (by omega),if_pos hv]; simp
theorem jy (x:HEv) (h:x.kind=2) (hv:x.value≠zBk):bI x=ba++32::(Lib.itoa x.client++32::(sOk++32::hexP x.value)):=by
 rw[bI,if_neg (by omega),if_neg (by omega),if_neg hv]; simp[sOk]
theorem oy {o:POp} (ho:o.Ok) (hd:o.data.length≤64):bz (aF++10::(bg o++[10])) [] 1=([[o]],0,0):=by
 have:=p6 (l:=[[o]]) (fun p hp q hq=>by simp at hp; subst hp; simp at hq; subst hq; exact ho) (rf hd)
 rwa [kZ,show aF++[10]++(bg o++[10])=aF++10::(bg o++[10]) by simp]at this
theorem j8 {o:POp} {t:List UInt8} {j:Nat} (h:bz (aF++10::(t++[10])) [] 1=([[o]],j,0)):o.Ok∧o.data.length≤64∧bg o=t:=by
 obtain⟨_,h2,h3,h4⟩:=rY _ _ [] [[o]] 1 j (Nat.le_refl _) (by decide) (fun p hp=>by cases hp) h
 have ho:o.Ok:=h4 [o] (by simp) o (by simp)
 refine⟨ho,?_,?_⟩
 ·have:=(dA.1 h3).2 [o] (by simp)
  simpa[badP]using this
 ·rw[kZ]at h2
  simpa[bL]using h2
theorem jc {s:List UInt8} {b:Bool} {x y:HEv} (h:finE s b x=some y):b=true∧bI x=s∧x=y:=by
 unfold finE at h
 split at h
 ·rename_i hc
  cases h
  exact⟨hc.1,hc.2,rfl⟩
 ·cases h
theorem uA {s:List UInt8} {x:HEv} (h:evP s=some x):WfE x∧bI x=s:=by
 unfold evP at h
 by_cases hc:s=bu
 ·rw[if_pos hc]at h; cases h
  exact⟨sH,hc.symm⟩
 rw[if_neg hc]at h
 by_cases hi:(cutA s 32).1=bw
 ·rw[if_pos hi]at h
  split at h
  ·rename_i o j e hp
   split at h
   ·rename_i he
    subst he
    obtain⟨h1,h2,h3⟩:=j8 hp
    obtain⟨g1,g2,rfl⟩:=jc h
    obtain⟨r1,r2⟩:=eU g1
    exact⟨⟨r1,r2,.inr (.inl ⟨rfl,rfl,rfl,h1,h2⟩)⟩,g2⟩
   ·cases h
  ·cases h
 rw[if_neg hi]at h
 by_cases hr:(cutA s 32).1=ba
 ·rw[if_pos hr]at h
  split at h
  ·cases h
  ·rename_i k hk
   obtain⟨hk1,hk2⟩:=fS hk
   split at h
   ·rename_i hm
    split at h
    ·cases h
    ·rename_i v hv
     obtain⟨g1,g2,rfl⟩:=jc h
     obtain⟨r1,r2⟩:=eU g1
     refine⟨⟨r1,r2,.inr (.inr ⟨rfl,rfl,hk1,mY hv,fun hz=>?_⟩)⟩,g2⟩
     rw[jy _ rfl hz]at g2
     rw[←g2,eo _ (by decide)]at hk2
     simp only at hk2
     rw[eo _ (gV _)]at hk2
     simp only at hk2
     rw[eo _ (by decide)]at hk2
     simp only at hk2
     rcases fe hk1 with rfl | rfl | rfl | rfl
     ·rfl
     ·exact absurd hk2 (by decide)
     ·exact absurd hk2 (by decide)
     ·exact absurd hk2 (by decide)
   ·obtain⟨g1,g2,rfl⟩:=jc h
    obtain⟨r1,r2⟩:=eU g1
    exact⟨⟨r1,r2,.inr (.inr ⟨rfl,rfl,hk1,rfl,fun hz=>absurd rfl hz⟩)⟩,g2⟩
 ·rw[if_neg hr]at h; cases h
theorem sQ {n:Int} (h0 : -9223372036854775808≤n) (h1:n≤9223372036854775807):ca (Lib.itoa n)=true∧cI (Lib.itoa n)=n:=by
 unfold ca cI; rw[mZ h0 h1]; exact⟨rfl,rfl⟩
theorem oX {x:HEv} (h:WfE x):evP (bI x)=some x:=by
 obtain⟨kind,client,op,value,err⟩:=x
 obtain⟨r1,r2,h⟩:=h
 obtain⟨a1,a2⟩:=sQ r1 r2
 simp only at r1 r2 a1 a2
 rcases h with ⟨rfl,rfl,rfl,rfl,rfl⟩ | ⟨rfl,rfl,rfl,h4,h5⟩ | ⟨rfl,rfl,h3,h4,h5⟩
 ·rfl
 ·have hl:=oI ⟨1,client,op,zBk,0⟩ rfl
  have hf:finE (bI ⟨1,client,op,zBk,0⟩) true ⟨1,client,op,zBk,0⟩=some ⟨1,client,op,zBk,0⟩:=if_pos ⟨rfl,rfl⟩
  have c1:cutA (bI ⟨1,client,op,zBk,0⟩) 32=(bw,Lib.itoa client++32::bg op,true):=by rw[hl]; exact eo _ (by decide)
  have hne:bI ⟨1,client,op,zBk,0⟩≠bu:=fun e=>by rw[hl]at e; simp[bw,bu]at e
  unfold evP
  rw[if_neg hne,c1]
  simp only
  rw[if_pos trivial,eo _ (gV _)]
  simp only
  rw[oy h4 h5,a1,a2]
  exact hf
 ·by_cases hz:value=zBk
  ·subst hz
   have hl:=mF ⟨2,client,zOp,zBk,err⟩ rfl rfl
   have hf:finE (bI ⟨2,client,zOp,zBk,err⟩) true ⟨2,client,zOp,zBk,err⟩=some ⟨2,client,zOp,zBk,err⟩:=if_pos ⟨rfl,rfl⟩
   have c1:cutA (bI ⟨2,client,zOp,zBk,err⟩) 32=(ba,Lib.itoa client++32::iv err,true):=by rw[hl]; exact eo _ (by decide)
   have hne:bI ⟨2,client,zOp,zBk,err⟩≠bu:=fun e=>by rw[hl]at e; simp[ba,bu]at e
   unfold evP
   rw[if_neg hne,c1]
   simp only
   rw[if_neg (by decide),if_pos trivial,eo _ (gV _)]
   simp only
   rw[wq (ry h3)]
   simp only
   rw[qf h3,a1,a2]
   exact hf
  ·have he:err=0:=h5 hz
   subst he
   have hl:=jy ⟨2,client,zOp,value,0⟩ rfl hz
   have hf:finE (bI ⟨2,client,zOp,value,0⟩) true ⟨2,client,zOp,value,0⟩=some ⟨2,client,zOp,value,0⟩:=if_pos ⟨rfl,rfl⟩
   have c1:cutA (bI ⟨2,client,zOp,value,0⟩) 32=(ba,Lib.itoa client++32::(sOk++32::hexP value),true):=by rw[hl]; exact eo _ (by decide)
   have hne:bI ⟨2,client,zOp,value,0⟩≠bu:=fun e=>by rw[hl]at e; simp[ba,bu]at e
   unfold evP
   rw[if_neg hne,c1]
   simp only
   rw[if_neg (by decide),if_pos trivial,eo _ (gV _)]
   simp only
   rw[eo _ (by decide)]
   simp only
   rw[show dm sOk=some 0 by decide]
   simp only
   rw[if_pos trivial,sO h4]
   simp only
   rw[a1,a2]
   exact hf
def wE (e:Int):List UInt8:=if e=1 then sArg else if e=8 then fL else if e=9 then fM else sOk
def tj (x:HEv):List UInt8:=if x.kind=3 then bu else if x.kind=1 then (bw++[32])++Lib.itoa x.client++[32]++bg x.op else
 (ba++[32])++Lib.itoa x.client++[32]++wE x.err++(if x.value=zBk then[] else[32]++hexP x.value)
def lO (s:List UInt8) (x:HEv):Option HEv:=if tj x=s then some x else none
def keyR (c:List UInt8):Int:=if c=sArg then 1 else if c=fL then 8 else if c=fM then 9 else 0
def valR (e:Int) (w:List (List UInt8)):Option (List UInt8):=match w with
 | [d]=>match cr d with
  | some v=>if v.length=32∧e=0 then some v else none
  | none=>none
 | _=>some zBk
def evR (s:List UInt8):Option HEv:=match cutL s 32 with
 | none=>lO s gw
 | some (a,r1)=>match cutL r1 32 with
  | none=>lO s gw
  | some (b,rest) =>
   if a=bw then
    match eR rest,intR b with
    | some o,some n=>if o.data.length≤64 then lO s ⟨1,n,o,zBk,0⟩ else none
    | _,_=>none
   else if a=ba then
    match bC rest 32 with
    | []=>none
    | c::w=>match valR (keyR c) w,intR b with
     | some v,some n=>lO s ⟨2,n,zOp,v,keyR c⟩
     | _,_=>none
   else lO s gw
def dh (s:List UInt8) (rd:RdS) (h:List HEv) (n:Nat):List HEv×Nat×Int :=
 if s=[] then (h,0,0) else
 match _h:cutL s 10 with
 | none=>([],n,5)
 | some (t,r)=>match evP t with
  | none=>([],n,5)
  | some x=>if 8192<n then ([],n,3) else if (aZ rd x).2=true then dh r (aZ rd x).1 (h++[x]) (n+1) else ([],n,18)
termination_by s.length
decreasing_by
 have := (ct _h).1
 rw [this]
 simp
 omega
theorem qi (rd:RdS) (h:List HEv) (n:Nat):dh [] rd h n=(h,0,0):=by rw[dh,if_pos rfl]
theorem kf {s:List UInt8} (rd:RdS) (l:List HEv) (n:Nat) (hs:s≠[]) (h:cutL s 10=none):dh s rd l n=([],n,5):=by
 rw[dh,if_neg hs]
 split
 ·rfl
 ·rename_i t r h2; rw[h]at h2; cases h2
theorem gr {s t r:List UInt8} (rd:RdS) (l:List HEv) (n:Nat) (hs:s≠[]) (h:cutL s 10=some (t,r)):dh s rd l n=match evP t with
  | none=>([],n,5)
  | some x=>if 8192<n then ([],n,3) else if (aZ rd x).2=true then dh r (aZ rd x).1 (l++[x]) (n+1) else ([],n,18):=by
 rw[dh,if_neg hs]
 split
 ·rename_i h2; rw[h]at h2; cases h2
 ·rename_i t' r' h2; rw[h]at h2; cases h2; rfl
def nz:List (List UInt8)→Nat→List HEv→List HEv×Nat×Int
 | [],_,h=>(h,0,0)
 | [w],i,h=>if w=[] then (h,0,0) else ([],i+1,5)
 | w::w2::ws,i,h=>match evR w with
  | none=>([],i+1,5)
  | some x=>if 8192≤i then ([],i+1,3) else if fitB h x=true then nz (w2::ws) (i+1) (h++[x]) else ([],i+1,18)
theorem ut {rd:RdS} {x:HEv} {l:List HEv} {i:Nat}:goS rd (x::l) i=if (aZ rd x).2 then goS (aZ rd x).1 l (i+1) else ((aZ rd x).1,(i:Int)):=by
 have:=gv (s:=rd) (h:=List.replicate i x++x::l) (i:=i) (x:=x) (by simp)
 rw[List.drop_left' (by simp)]at this
 rw[this,show List.replicate i x++x::l=(List.replicate i x++[x])++l by simp,List.drop_left' (by simp)]
theorem mG {x:HEv} (h:WfE x):(10:UInt8) ∉ bI x:=by
 obtain⟨_,_,h⟩:=h
 have hi:∀n:Int,(10:UInt8) ∉ Lib.itoa n:=fun n hm=>(iW hm).1 rfl
 rcases h with ⟨h1,_⟩ | ⟨h1,_⟩ | ⟨h1,_,h3,h4,h5⟩
 ·rw[bI,if_pos h1]; decide
 ·rw[oI x h1]
  have:=fun hm=>(oH x.op 10 hm) rfl
  simp only[List.mem_append,List.mem_cons,not_or]
  exact⟨by decide,by decide,hi _,by decide,this⟩
 ·have hw:(10:UInt8) ∉ iv x.err:=by rcases fe h3 with e | e | e | e <;> (rw[e]; decide)
  by_cases hz:x.value=zBk
  ·rw[mF x h1 hz]
   simp only[List.mem_append,List.mem_cons,not_or]
   exact⟨by decide,by decide,hi _,by decide,hw⟩
  ·rw[jy x h1 hz]
   simp only[List.mem_append,List.mem_cons,not_or]
   exact⟨by decide,by decide,hi _,by decide,by decide,by decide,fun hm=>(lN hm).1 rfl⟩
end Go.Proofs.YtjfkhlamjdbfkaaGreatDoor
namespace Go.Eng
open Go.RowKit
open Go.ChangeMaps (setBlock)
section
variable {P : Program} {T : Tab} {env : Env} {h : Upds} {n : Nat}
theorem mx {t kt et:Nat} {x:Operand} {rm:Nat} {κ:Type} {enc:κ→D} {l:List (κ×AV)} (ht:P.underlying t=some (.map kt et)) (hx:au env x=some (.mapr rm)) (hr:bd h rm=some (.mo (mapC enc l))) :
  aq P (.range t x) env h n (some (.ptr n [])) [(n,some (.mi (.mapr rm) l.length l.length []))]:=.of_comes fun C G st σ w a o ho hA hd hst hn=>by
 obtain⟨b,c,hs,hu⟩:=RelV.mapr.1 (an hst (hA.ev hx)).1
 have hgm:G rm:=(an hst (hA.ev hx)).2
 have hrow:=hA.row _ _ hr
 obtain⟨b',es,hb1,hb2,hb3,hb4⟩:=hst.rows rm _ hrow
 rw[hs]at hb2
 cases hb2
 have hl:es.size=l.length:=by
  have:=((cv l _).1 hb4).len
  simpa using this
 have hnn:¬G n:=hn n (Nat.le_refl _) (by omega)
 have hne:rm≠n:=fun e=>hnn (e ▸ hgm)
 have hnew:=aE.freshBy hst hnn (w':=w.alloc (.mapIter (some b) es.size #[] es.size)) (by
   refine⟨rfl,rfl,rfl,by simp,fun k hk _=>?_⟩
   exact heap_alloc_old w _ hk) (Nat.le_refl _) (b:=w.heap.size) (c:=1) (.mi (.mapr rm) l.length l.length []) hgm (fun σ' X' h1 _ hs'=>⟨w.heap.size,b,hs',by rw[←hl]; exact heap_alloc_new w _,h1 (.mapr rm) false _ hgm ⟨b,1,hs,rfl⟩⟩)
 refine⟨some (.ptr n []),[(n,some (.mi (.mapr rm) l.length l.length []))],.value (.pointer (some ⟨w.heap.size,0,none⟩)),.pointer (some ⟨w.heap.size,0,none⟩),w.alloc (.mapIter (some b) es.size #[] es.size),fun q=>if q=n then some (w.heap.size,1) else σ q,fun q=>G q∨q=n,⟨rfl,rfl⟩,?_,.inl rfl,?_,fun r hr=>.inl hr,fun r hr=>hr.imp id (fun e=>by omega)⟩
 ·have hget:(getObj b).run P w=.ok (.map es es.size) w:=by simp[getObj,Sem.run,hb3]
  simp[execOp,ho,Instr.range,run_underlying ht,hu,newObj,Sem.run,hget]
 ·rw[St.put_upd]
  exact hnew.set hd (RelV.ptr.2 ⟨w.heap.size,1,by simp,by simp[aO]⟩) (.inr rfl)
theorem cd.at {κ:Type} {enc:κ→D} {σ:Place} {w:World} {X:Nat→Prop}:∀(l:List (κ×AV)) (es:List MapEntry),cd σ w X enc l es→∀(i:Nat) (e:MapEntry),es[i]?=some e →
  ∃k v,l[i]?=some (k,v)∧RelV σ w X (.d (enc k)) e.key∧RelV σ w X v e.val
 | [],es,h,i,e,he=>by rw[show es=[] from h]at he; simp at he
 | (k,v)::l,es,h,i,e,he=>by
  obtain⟨e0,es',rfl,h1,h2,h3⟩:=h
  cases i with
  | zero =>
   simp only[List.getElem?_cons_zero,Option.some.injEq]at he
   subst he
   exact⟨k,v,rfl,h1,h2⟩
  | succ i=>exact cd.at l es' h3 i e (by simpa using he)
theorem mL {x:Operand} {r rm L i:Nat} {seen:List Nat} {κ:Type} {enc:κ→D} {l:List (κ×AV)} {k:κ} {v:AV} (hx:au env x=some (.ptr r [])) (hr:bd h r=some (.mi (.mapr rm) L L (seen++[i]))) (hm:bd h rm=some (.mo (mapC enc l))) (hL:L=l.length) (hi:l[i]?=some (k,v)) :
  aq P (.entry x) env h n (some (.tup (.acons (.d (enc k)) (.acons v .anil)))) []:=.of_comes fun C G st σ w a o ho hA hd hst hn=>by
 subst hL
 have hrow:=hA.row _ _ hr
 have hrowm:=hA.row _ _ hm
 obtain⟨b,m,hb1,hb2,hb3⟩:=hst.rows r _ hrow
 obtain⟨bm,es,hm0,hm1,hm2,hm3⟩:=hst.rows rm _ hrowm
 obtain⟨bm',c',e1,e2⟩:=hb3
 rw[hm1]at e1
 cases e1
 simp only[List.cons.injEq,Value.map.injEq,Option.some.injEq,and_true]at e2
 subst e2
 obtain⟨b',c',hs',hu⟩:=RelV.ptr.1 (an hst (hA.ev hx)).1
 rw[hb1]at hs'
 cases hs'
 have hent:=(cv l _).1 hm3
 have hlen:es.size=l.length:=by simpa using hent.len
 have hlt:i<es.size:=by rw[hlen]; exact (List.getElem?_eq_some_iff.1 hi).1
 have hei:es[i]?=some es[i]:=Array.getElem?_eq_getElem hlt
 have hbi:=hm0 i _ hei
 obtain⟨k',v',q1,q2,q3⟩:=cd.at l _ hent i es[i] (by simp)
 rw[hi]at q1
 cases q1
 have hnd:(es.toList.map (·.born)).Nodup:=by
  rw[show es.toList.map (·.born)=List.range es.size by
   apply List.ext_getElem?
   intro j
   rw[List.getElem?_map]
   by_cases hj:j<es.size
   ·rw[List.getElem?_eq_getElem (by simpa using hj),List.getElem?_range hj]
    have:=hm0 j _ (Array.getElem?_eq_getElem hj)
    simp[this]
   ·rw[List.getElem?_eq_none (by simpa using hj),List.getElem?_eq_none (by simpa using hj)]; rfl]
  exact List.nodup_range
 refine .quiet (u :=.tuple #[es[i].key,es[i].val]) hst hd ⟨rfl,rfl⟩ ?_ ?_ ?_
 ·have hrun:=run_entry_at (P:=P) w b m l.length seen.toArray es es.size es[i] (by rw[hb2,hbi,hlen,List.push_toArray]) hm2 (by simp) hnd
  simp only[execOp,ho,hu,aO,Sem.run_bind,hrun,Result.andThen_ok,Sem.run_pure]
 ·unfold RelV
  rw[if_neg (by simp[AV.isAgg])]
  exact⟨_,rfl,_,_,rfl,q2,_,_,rfl,q3,rfl⟩
 ·exact⟨trivial,(cV l).1 (hst.rowsG rm _ hrowm).2 (k,v) (List.mem_of_getElem? hi),trivial⟩
variable {sz : Nat} {all rest : List Oper} {K : Env → Upds → Nat → Prop}
theorem iC {d:Tmp} {x:Operand} {ty:TypeId} {pos:String} {af:Array Edge} {r rm L:Nat} {seen:List Nat} {κ:Type} {enc:κ→D} {l:List (κ×AV)} (hd:Nat.blt d sz=true) (hx:au env x=some (.ptr r []))
  (hr:bd h r=some (.mi (.mapr rm) L L seen)) (hm:bd h rm=some (.mo (mapC enc l))) (hL:L=l.length)
  (hend:(∀i,i<l.length→i∈seen)→RegS P all sz rest (n+8) ((d,.tup (.acons (.bool false) .anil))::env) h K)
  (hgo:∀i k v,l[i]?=some (k,v)→i ∉ seen→RegS P all sz rest (n+8) ((d,.tup (.acons (.bool true) (.acons (.d (enc k)) (.acons v .anil))))::env) ((r,some (.mi (.mapr rm) L L (seen++[i])))::h) K) :
  RegS P all sz (⟨some d,.next x false,ty,pos,af,none⟩::rest) n env h K:=by
 subst hL
 intro C σ w a hst Q hQ
 have hrow:(⟨env,h,n,sz,64⟩:St).row r=some (.mi (.mapr rm) l.length l.length seen):=by rw[←bY]; exact hr
 have hrowm:(⟨env,h,n,sz,64⟩:St).row rm=some (.mo (mapC enc l)):=by rw[←bY]; exact hm
 obtain⟨b,m,hb1,hb2,hb3⟩:=hst.rows r _ hrow
 obtain⟨bm,es,hm0,hm1,hm2,hm3⟩:=hst.rows rm _ hrowm
 obtain⟨bm',c',e1,e2⟩:=hb3
 rw[hm1]at e1
 cases e1
 simp only[List.cons.injEq,Value.map.injEq,Option.some.injEq,and_true]at e2
 subst e2
 obtain⟨b',c',hs',hu⟩:=RelV.ptr.1 (an hst hx).1
 rw[hb1]at hs'
 cases hs'
 have hlen:es.size=l.length:=by simpa using ((cv l _).1 hm3).len
 have hborn:∀e∈es.toList,e.born<l.length:=by
  intro e he
  obtain⟨i,hi⟩:=List.getElem?_of_mem he
  have hi':es[i]?=some e:=by simpa using hi
  rw[hm0 i e hi']
  have:=(Array.getElem?_eq_some_iff.1 hi').1
  omega
 have hdst:fg (some d) sz=true:=hd
 unfold wpListIn
 rw[if_pos (show Region.wanted _ _=true from rfl)]
 refine⟨fun _ _=>trivial,?_⟩
 rcases run_next_at (P:=P) w ty b m l.length l.length seen.toArray es es.size hb2 hm2 hborn (Nat.le_refl _)with ⟨h0,hrun⟩ | ⟨e,he,w1,hw1,hrun⟩
 ·have hex:(execOp a.eval ⟨some d,.next x false,ty,pos,af,none⟩).run P w=.ok (.value (.tuple #[.bool false])) w:=by
   simp only[execOp,hu,aO,Sem.run_bind,hrun,Result.andThen_ok,Sem.run_pure]
  rw[eL hex (fun c hc=>by cases hc)]
  have hst2:=hst.set (v:=some (.tup (.acons (.bool false) .anil))) (u :=.tuple #[.bool false]) (dst:=some d) (fC hdst) (by
   unfold RelV
   rw[if_neg (by simp[AV.isAgg])]
   exact⟨_,rfl,_,_,rfl,RelV.sc.2 ⟨rfl,rfl⟩,rfl⟩) ⟨trivial,trivial⟩
  rw[lc]at hst2
  refine hend ?_ C σ w _ ?_ Q hQ
  ·intro i hi
   have hlt:i<es.size:=by omega
   have h1:es[i].born=i:=hm0 i _ (Array.getElem?_eq_getElem hlt)
   by_cases hc:i∈seen
   ·exact hc
   ·exfalso
    have:es[i]∈leftOf es seen.toArray:=by
     unfold leftOf
     rw[Array.mem_filter]
     refine⟨by simp,?_⟩
     rw[h1]
     simpa using hc
    have:=Array.size_pos_of_mem this
    omega
  ·have:=hst2.grow (G':=fun r=>r<n+8) (fun r hr=>Nat.lt_of_lt_of_le hr (Nat.le_add_right n 8))
   exact { this with }
 ·have hheap:w1.heap=w.heap:=by rcases hw1 with rfl | rfl <;> rfl
  have hst1:aE C (fun r=>r<n) ⟨env,h,n,sz,64⟩ σ w1 a:=by
   rcases hw1 with rfl | rfl
   ·exact hst
   ·exact hst.drew
  obtain⟨bm2,es2,_,k1,k2,k3⟩:=hst1.rows rm _ hrowm
  rw[hm1]at k1
  cases k1
  rw[hheap,hm2]at k2
  cases k2
  have hmem:e∈es.toList∧e.born ∉ seen:=by
   unfold leftOf at he
   rw[Array.mem_toList_iff,Array.mem_filter]at he
   exact⟨by simpa using he.1,by simpa using he.2⟩
  obtain⟨i,hi⟩:=List.getElem?_of_mem hmem.1
  have hi':es[i]?=some e:=by simpa using hi
  have hbi:=hm0 i e hi'
  obtain⟨k,v,q1,q2,q3⟩:=cd.at l _ ((cv l _).1 k3) i e hi
  have hex:(execOp a.eval ⟨some d,.next x false,ty,pos,af,none⟩).run P w=.ok (.value (.tuple #[.bool true,e.key,e.val])) (setBlock w1 b (.mapIter (some m) l.length (seen.toArray.push e.born) es.size)):=by
   simp only[execOp,hu,aO,Sem.run_bind,hrun,Result.andThen_ok,Sem.run_pure]
  rw[eL hex (fun c hc=>by cases hc)]
  have hgv:v.within (fun r=>r<n):=(cV l).1 (hst.rowsG rm _ hrowm).2 (k,v) (List.mem_of_getElem? q1)
  have hgm:rm<n:=(hst.rowsG rm _ hrowm).1
  have hst2:=hst1.set (v:=some (.tup (.acons (.bool true) (.acons (.d (enc k)) (.acons v .anil))))) (u :=.tuple #[.bool true,e.key,e.val]) (dst:=some d) (fC hdst) (by
   unfold RelV
   rw[if_neg (by simp[AV.isAgg])]
   exact⟨_,rfl,_,_,rfl,RelV.sc.2 ⟨rfl,rfl⟩,_,_,rfl,q2,_,_,rfl,q3,rfl⟩) ⟨trivial,trivial,hgv,trivial⟩
  rw[lc]at hst2
  have hrow2:(⟨putE (some d) (some (.tup (.acons (.bool true) (.acons (.d (enc k)) (.acons v .anil))))) env,[]++h,n,sz,64⟩:St).row r=some (.mi (.mapr rm) l.length l.length seen):=by rw[←bY]; exact hr
  have hst3:=hst2.writeObj (o' :=.mapIter (some m) l.length (seen.toArray.push e.born) es.size) (row :=.mi (.mapr rm) l.length l.length (seen++[i])) hrow2 hb1 (by rw[hheap]; exact hb2) rfl hgm
   (fun w' ht hh'=>⟨b,m,hb1,by rw[hh',hbi,hlen,List.push_toArray],ht (.mapr rm) false _ hgm ⟨m,1,hm1,rfl⟩⟩)
  refine hgo i k v q1 (by rw[←hbi]; exact hmem.2) C σ _ _ ?_ Q hQ
  have:=hst3.grow (G':=fun r=>r<n+8) (fun r hr=>Nat.lt_of_lt_of_le hr (Nat.le_add_right n 8))
  exact { this with }
end
end Go.Eng
namespace Go.Eng
open Go.RowKit
section
variable {P : Program} {T : Tab} {env : Env} {h : Upds} {n : Nat}
theorem k6 (hT:ao P T) {t e L s:Nat} {re:TyR} {x:Operand} {α:Type} {enc:α→D} {xs:List α} (ht:aW T t=some (.array L e)) (he:lk T e=some re) (hx:au env x=some (.d (.pt (.vec L s enc xs)))) (hL:Nat.ble L 1048576=true) (hs0:Nat.blt 0 s=true) :
  aq P (.slice t x none none none) env h n (some (.d (.arr s enc xs))) []:=.of_comes fun C G st σ w a o ho hA hdst hst hn=>by
 obtain⟨ud,hud,hdd⟩:=aQ hT ht
 cases hdd
 have hL:=Nat.le_of_ble_eq_true hL
 have hs0:=Nat.le_of_ble_eq_true hs0
 have hsz:=(hT e re he).run_size (P:=P)
 obtain⟨ad,cs,hv,⟨hl,f,hf,hcs⟩,hc⟩:=RelV.iptr.1 (RelV.pt.1 (an hst (hA.ev hx)).1)
 have hmax:(1048576:Nat)≤maxLen:=by decide
 refine .quiet (u :=.slice (some ad) L L) hst hdst ⟨rfl,rfl⟩ ?_ (RelV.arr.2 (.inr ⟨ad,L,by rw[hl],by omega,by omega,f,fun i hi=>⟨(hf i hi).1,(hf i hi).2,fun j u hj=>?_⟩⟩)) trivial
 ·simp[execOp,ho,Instr.sliceAt,hv,Instr.sureAddr,run_underlying hud,Instr.sliceBounds,Instr.sliceBound,asIntOf,hsz,Sem.run_bind,Sem.run_pure,Result.andThen_ok,Addr.add_zero']
 ·have hjs:j<s:=by rw[←(hf i hi).2]; exact (List.getElem?_eq_some_iff.1 hj).1
  have:=dP xs.length (fun i hi=>(hf i hi).2) i j hi hjs
  rw[hj]at this
  refine hc _ _ ?_
  rw[hcs,←hl]
  exact this
end
end Go.Eng
namespace Go.Eng
open Go.RowKit
set_option linter.unusedSimpArgs false
section
variable {P : Program} {T : Tab} {env : Env} {h : Upds} {n : Nat}
theorem pG {t:Nat} {w:World} {ms} (hud:P.underlying t=some (.interface ms)):(binOp .neq t .nilIface .nilIface).run P w=.ok (.bool false) w:=by
 have h1:(Op.equalIn 10000 t .nilIface .nilIface).run P w=.ok true w:=by
  rw[show (10000:Nat)=9999+1 from rfl,Op.equalIn]
  simp only[Sem.run_bind,run_underlying hud,Result.andThen_ok,Sem.run_pure]
 show (do let b ←Op.equalIn 10000 t _ _; pure (Value.bool !b):Sem Value).run P w=_
 simp only[Sem.run_bind,h1,Result.andThen_ok,Sem.run_pure,Bool.not_true]
theorem pI {t t1:Nat} {w:World} {ms} {v:Value} (hud:P.underlying t=some (.interface ms)):(binOp .neq t (.iface t1 v) .nilIface).run P w=.ok (.bool true) w:=by
 have h1:(Op.equalIn 10000 t (.iface t1 v) .nilIface).run P w=.ok false w:=by
  rw[show (10000:Nat)=9999+1 from rfl,Op.equalIn]
  simp only[Sem.run_bind,run_underlying hud,Result.andThen_ok,Sem.run_pure]
 show (do let b ←Op.equalIn 10000 t _ _; pure (Value.bool !b):Sem Value).run P w=_
 simp only[Sem.run_bind,h1,Result.andThen_ok,Sem.run_pure,Bool.not_false]
theorem iI {t t':Nat} {x:Operand} {ms} (hu:P.underlying t=some (.interface ms)) (hx:au env x=some (.d (.sc .nilIface))) :
  aq P (.binOp .neq t x (.const .nilIface) t') env h n (some (.bool false)) []:=.of_comes fun C G st σ w ac o ho hA hdst hst hn=>by
 obtain⟨hv,_⟩:=RelV.sc.1 (an hst (hA.ev hx)).1
 refine .quiet (u :=.bool false) hst hdst ⟨rfl,rfl⟩ ?_ (RelV.sc.2 ⟨rfl,rfl⟩) trivial
 have hg:(eqGuard .neq t x (.const .nilIface) .nilIface .nilIface).run P w=.ok () w:=by
  simp[eqGuard]
  try (cases x <;> rfl)
 have hc:ac.eval (.const .nilIface)=.nilIface:=rfl
 simp only[execOp,ho,hv,hc,Sem.run_bind,hg,Result.andThen_ok,pG hu,Sem.run_pure]
theorem xa {t t':Nat} {x:Operand} {ms} (hu:P.underlying t=some (.interface ms)) (hx:au env x=some .er) :
  aq P (.binOp .neq t x (.const .nilIface) t') env h n (some (.bool true)) []:=.of_comes fun C G st σ w ac o ho hA hdst hst hn=>by
 obtain⟨t1,v,hv⟩:=RelV.er.1 (an hst (hA.ev hx)).1
 refine .quiet (u :=.bool true) hst hdst ⟨rfl,rfl⟩ ?_ (RelV.sc.2 ⟨rfl,rfl⟩) trivial
 have hg:(eqGuard .neq t x (.const .nilIface) (.iface t1 v) .nilIface).run P w=.ok () w:=rfl
 have hc:ac.eval (.const .nilIface)=.nilIface:=rfl
 simp only[execOp,ho,hv,hc,Sem.run_bind,hg,Result.andThen_ok,pI hu,Sem.run_pure]
end
end Go.Eng
namespace Go.Proofs.YtjfkhlamjdbfkaaGreatDoor
open Go.Eng Go.Plain
set_option maxHeartbeats 32000000
set_option maxRecDepth 20000
attribute [local irreducible] WC RegS RegD SeqQ BlkQ ScoQ RegK CutK Sat SatN FnIs LoopQ aq OpIs
def Ab (h:List HEv):List UInt8:=h.flatMap fun x=>tj x++[10]
def cntC (l:List HOp) (c:Int):Int:=(l.countP fun o=>decide (o.client=c):Nat)
def j7 (c:Int):List HEv→Nat→Option (Nat×HEv)
 | [],_=>none
 | x::l,k=>if x.kind=3 then none else if x.client=c then some (k,x) else j7 c l (k+1)
def cN (x:HEv) (i:Nat) (era n:Int):HOp:=⟨x.client,n,era,x.op,i,-1,zBk,0⟩
def dS (o:HOp):Option (Nat×HEv)→HOp
 | none=>o
 | some (k,y) => { o with returned:=k,value:=y.value,err:=y.err }
def mkOp (h:List HEv) (i:Nat) (x:HEv) (out:List HOp) (era:Int):HOp:=dS (cN x i era (cntC out x.client)) (j7 x.client (h.drop (i+1)) (i+1))
def eS (h:List HEv):Nat→Nat→List HOp→Int→List HOp
 | 0,_,out,_=>out
 | n+1,i,out,era=>match h[i]? with
  | none=>out
  | some x=>if x.kind=3 then eS h n (i+1) out (era+1) else if x.kind=1 then eS h n (i+1) (out++[mkOp h i x out era]) era else eS h n (i+1) out era
def opsR (h:List HEv):List HOp:=eS h h.length 0 [] 0
theorem sJ {l:List HOp} {k:Nat} {o:HOp} (c:Int) (ho:l[k]?=some o):cntC (l.take (k+1)) c=cntC (l.take k) c+(if o.client=c then 1 else 0):=by
 rw[cntC,cntC,List.take_add_one,ho,Option.toList_some,List.countP_append]
 by_cases h:o.client=c <;> simp[h]
theorem wr (l:List HOp) (c:Int):0≤cntC l c∧cntC l c≤l.length:=by
 have:=List.countP_le_length (p:=fun o:HOp=>decide (o.client=c)) (l:=l)
 unfold cntC
 omega
theorem eQ {h:List HEv} {k:Nat} {y:HEv} (c:Int) (hy:h[k]?=some y):j7 c (h.drop k) k=if y.kind=3 then none else if y.client=c then some (k,y) else j7 c (h.drop (k+1)) (k+1):=by
 have hlt:=(List.getElem?_eq_some_iff.1 hy).1
 rw[List.drop_eq_getElem_cons hlt,(List.getElem?_eq_some_iff.1 hy).2]
 rfl
theorem th (h:List HEv) (hL:h.length≤1000000):FnIs Tryz.prog 7 [.d (encH h)] [] (.own 64 0 (opsR h).length 41 none) [(64,db (opsR h))]:=by
 refine aw aa Tryz.func7 rfl rfl rfl ?_;refine sR<|rC<|nR ?_;refine rC<|nR ?_;refine rC<|zW ?_;refine rC<|zP ?_
 refine wc_inv (fun q:Nat×List HOp×Int=>⟨[(5,.int .i64 q.1),(4,.int .i64 q.2.2),(3,.own 65 0 q.2.1.length 41 none),(0,.d (encH h))],[(65,some (db q.2.1))],72,Tryz.f7.ntmps,64⟩) (fun q=>q.1≤h.length∧q.2.1.length≤q.1∧0≤q.2.2∧q.2.2≤q.1∧eS h (h.length-q.1) q.1 q.2.1 q.2.2=opsR h) (fun q=>h.length-q.1) (0,[],0) [(65,none)] ⟨Nat.zero_le _,Nat.le_refl _,Int.le_refl _,Int.le_refl _,rfl⟩
  (lg zi ⟨⟨rfl,rfl,rfl⟩,trivial⟩) ?_
 rintro⟨i,out,era⟩ ⟨hi,ho,he0,he1,hgo⟩
 simp only at hi ho he0 he1 hgo
 refine bH<|qR ?_;refine zD ?_;refine rQ iE ?_;refine rC<|nS ?_
 refine bW rfl (fun h2=>?_) (fun h2=>?_)
 ·have hlt:i<h.length:=by have:=of_decide_eq_true h2; omega
  obtain⟨x,hx⟩:∃u,h[i]?=some u:=⟨_,List.getElem?_eq_getElem hlt⟩
  have hx':h[((i:Int)).toNat]?=some x:=by rw[Int.toNat_natCast]; exact hx
  have hw22:IntKind.i64.wrap (era+1)=era+1:=aP (by omega) (by omega)
  obtain⟨n,hn⟩:∃n,h.length-i=n+1:=⟨h.length-i-1,by omega⟩
  have hn':h.length-(i+1)=n:=by omega
  rw[hn,eS,hx]at hgo
  simp only at hgo
  refine zQ<|br<|qR<|zD ?_;refine rQ (aI aa rfl rfl rfl rfl rfl (by omega) hx') ?_;refine rC ?_;refine rQ iL ?_;refine rC<|nS ?_
  by_cases k3:x.kind=3
  ·have d3:decide (x.kind=3)=true:=dT k3
   have d1:(!decide (x.kind=1))=true:=by rw[dF (by omega)]; rfl
   rw[if_pos k3]at hgo
   refine wT<|ai ?_;refine rC ?_;refine rQ (eK (m:=era+1) aa rfl rfl hw22) ?_;refine rC<|zW ?_;refine zD ?_;refine rQ (aI aa rfl rfl rfl rfl rfl (by omega) hx') ?_;refine rC ?_;refine rQ iL ?_;refine rC ?_;refine zI<|cz<|eZ<|fj<|aK<|ai ?_;refine rC ?_;refine rQ iD ?_;refine rC<|ay ?_
   exact aL (i+1,out,era+1) [(65,some 65)] ⟨hlt,by simp only; omega,by simp only; omega,by simp only; omega,by simp only[hn']; exact hgo⟩ (by show h.length-(i+1)<h.length-i; omega) (lg zi ⟨zR,trivial⟩)
  ·have d3:decide (x.kind=3)=false:=dF k3
   rw[if_neg k3]at hgo
   refine wF<|kS<|qR ?_;refine zD ?_;refine rQ (aI aa rfl rfl rfl rfl rfl (by omega) hx') ?_;refine rC ?_;refine rQ iL ?_;refine rC<|nS ?_
   by_cases k1:x.kind=1
   ·have d1:(!decide (x.kind=1))=false:=by rw[dT k1]; rfl
    rw[if_pos k1]at hgo
    refine wF<|zQ ?_;refine aH (by kernel_rfl) ?_;refine dC [0] [] ?_;refine dC [5] [] ?_;refine dQ [29,30] [] (aI aa rfl rfl rfl rfl rfl (by omega) hx') ?_;refine dC [31] [] ?_;refine dQ [32] [] iL ?_;refine dC [4] [] ?_;refine dC [0] [] ?_;refine dC [5] [] ?_;refine dQ [35,36] [] (aI aa rfl rfl rfl rfl rfl (by omega) hx') ?_;refine dC [37] [] ?_;refine dQ [38] [] iL ?_;refine dC [5] [] ?_;refine dQ [33,34,39,40] [] iS ?_;refine fp [] [] rfl (aC aa (fun K hk=>hk)) ?_;refine bp [6,41] [304] (aA aa rfl rfl rfl ⟨_,⟨rfl,rfl,rfl⟩,rfl⟩ rfl) ?_;refine aB (by kernel_rfl)<|aK<|qR ?_;refine rC<|zP ?_
    refine wc_inv (fun k:Nat=>⟨[(7,.int .i64 k),(6,.ptr 66 []),(5,.int .i64 i),(4,.int .i64 era),(3,.own 65 0 out.length 41 none),(0,.d (encH h))],[(65,some (db out)),(66,some (.box 40 (.d (cg (cN x i era (cntC (out.take k) x.client))))))],72,Tryz.f7.ntmps,64⟩) (fun k=>k≤out.length) (fun k=>out.length-k) 0 [(65,some 65),(66,some _)] (Nat.zero_le _)
     (lg zg ⟨zR,zR,trivial⟩) ?_
    intro k hk
    refine bH<|qR ?_;refine zD ?_;refine rQ (bB aa rfl rfl) ?_;refine rC<|nS ?_
    refine bW rfl (fun h4=>?_) (fun h4=>?_)
    ·have hkl:k<out.length:=by have:=of_decide_eq_true h4; omega
     obtain⟨q,hq⟩:∃q,out[k]?=some q:=⟨_,List.getElem?_eq_getElem hkl⟩
     have hq':out[((k:Int)).toNat]?=some q:=by rw[Int.toNat_natCast]; exact hq
     have hcn:=sJ x.client hq
     have hcl:=wr (out.take k) x.client
     rw[List.length_take]at hcl
     have hw58:IntKind.i64.wrap (cntC (out.take k) x.client+1)=cntC (out.take k) x.client+1:=aP (by omega) (by omega)
     refine zQ<|br<|bD<|aH (by kernel_rfl) ?_;refine dC [3] [] ?_;refine dC [7] [] ?_;refine dQ [48,49] [] (bc aa rfl rfl rfl rfl rfl (by omega) (by omega)) ?_;refine dC [50] [] ?_;refine dQ [51] [65] (bF aa rfl rfl ⟨rfl,q,hq',_,rfl,rfl⟩ rfl) ?_;refine dC [6] [] ?_;refine dQ [53] [66] iB ?_;refine dC [52,54] [] ?_;refine aB (by kernel_rfl)<|aK ?_
     by_cases kc:q.client=x.client
     ·have dc:decide (q.client=x.client)=true:=dT kc
      rw[if_pos kc]at hcn
      refine wT<|ai ?_;refine rC ?_;refine rQ iB ?_;refine rQ (eK aa rfl rfl hw58) ?_;refine rC ?_;refine rX<|ay<|gh<|aK<|ai ?_;refine rC ?_;refine rQ iD ?_;refine rC<|ay ?_
      exact aL (k+1) [(65,some 65),(66,some 66)] hkl (by omega) (lg zg ⟨zR,⟨rfl,rfl,_,rfl,aY.of_eq (congrArg (fun n=>Row.box 40 (.d (cg (cN x i era n)))) hcn.symm)⟩,trivial⟩)
     ·have dc:decide (q.client=x.client)=false:=dF kc
      rw[if_neg kc,Int.add_zero]at hcn
      refine wF<|aS<|zC<|ai ?_;refine rC ?_;refine rQ iD ?_;refine rC<|ay ?_
      exact aL (k+1) [(65,some 65),(66,some 66)] hkl (by omega) (lg zg ⟨zR,⟨rfl,rfl,_,rfl,aY.of_eq (congrArg (fun n=>Row.box 40 (.d (cg (cN x i era n)))) hcn.symm)⟩,trivial⟩)
    ·have hke:k=out.length:=by have:=of_decide_eq_false h4; omega
     subst hke
     rw[List.take_length]
     refine zX<|qR<|rC ?_;refine rQ iD ?_;refine rC<|zP ?_
     have hal:out.length+1≤1048576:=by omega
     refine wc_inv (fun k:Nat=>⟨[(8,.int .i64 k),(6,.ptr 66 []),(5,.int .i64 i),(4,.int .i64 era),(3,.own 65 0 out.length 41 none),(0,.d (encH h))],[(65,some (db out)),(66,some (.box 40 (.d (cg (cN x i era (cntC out x.client))))))],72,Tryz.f7.ntmps,64⟩) (fun k=>k≤h.length∧j7 x.client (h.drop k) k=j7 x.client (h.drop (i+1)) (i+1)) (fun k=>h.length-k) (i+1) [(65,some 65),(66,some 66)] ⟨hlt,rfl⟩
      (lg zg ⟨zR,zR,trivial⟩) ?_
     rintro k ⟨hk2,hret⟩
     refine bH<|qR ?_;refine zD ?_;refine rQ iE ?_;refine zD ?_
     by_cases hkl:k<h.length
     ·have d66:decide ((k:Int)<(h.length:Int))=true:=dT (by omega)
      obtain⟨y,hy⟩:∃y,h[k]?=some y:=⟨_,List.getElem?_eq_getElem hkl⟩
      have hy':h[((k:Int)).toNat]?=some y:=by rw[Int.toNat_natCast]; exact hy
      have hst:=eQ x.client hy
      rw[hret]at hst
      refine rO ?_;refine rC ?_;refine rO ?_;refine rC ?_;refine rO ?_;refine rQ (aI aa rfl rfl rfl rfl rfl (by omega) hy') ?_;refine rO ?_;refine rC ?_;refine rO ?_;refine rQ iL ?_;refine rO ?_;refine rC ?_;refine rQ iT<|nS ?_
      by_cases y3:y.kind=3
      ·have dy:(!decide (y.kind=3))=false:=by rw[dT y3]; rfl
       rw[if_pos y3]at hst
       have hmk:mkOp h i x out era=dS (cN x i era (cntC out x.client)) none:=by rw[mkOp,hst]
       rw[hmk]at hgo
       have hl1:out.length+1=(out++[dS (cN x i era (cntC out x.client)) none]).length:=by simp
       refine wF<|zX<|ai ?_;refine rC ?_;refine rQ iM ?_;refine aG (aD (s:=41) aa rfl rfl rfl rfl rfl rfl rfl rfl) rfl ?_;refine aU (aM (enc:=cg) (s:=41) (xs:=out) aa (dS (cN x i era (cntC out x.client)) none) rfl rfl rfl rfl rfl rfl rfl rfl rfl hal rfl) rfl ?_;refine rC<|ay<|zC<|ai ?_;refine rC ?_;refine rQ iD ?_;refine rC<|ay ?_
       exact aL (i+1,out++[dS (cN x i era (cntC out x.client)) none],era) [(65,some _)] ⟨hlt,by simp; omega,by simp only; omega,by simp only; omega,by simp only[hn']; exact hgo⟩ (by show h.length-(i+1)<h.length-i; omega) (lg ⟨zE,rfl,zE,rfl,⟨_,rfl,AVLe.of_eq (congrArg (fun n=>AV.own _ 0 n 41 none) hl1)⟩,rfl,zE,rfl,trivial⟩ ⟨zR,trivial⟩)
      ·have dy:(!decide (y.kind=3))=true:=by rw[dF y3]; rfl
       rw[if_neg y3]at hst
       refine wT<|zQ<|br<|bD ?_;refine aH (by kernel_rfl) ?_;refine dC [0] [] ?_;refine dC [8] [] ?_;refine dQ [76,77] [] (aI aa rfl rfl rfl rfl rfl (by omega) hy') ?_;refine dC [78] [] ?_;refine dQ [79] [] iL ?_;refine dC [6] [] ?_;refine dQ [81] [66] iB ?_;refine dC [80,82] [] ?_;refine aB (by kernel_rfl)<|aK ?_
       by_cases yc:y.client=x.client
       ·have dc:decide (y.client=x.client)=true:=dT yc
        rw[if_pos yc]at hst
        have hmk:mkOp h i x out era=dS (cN x i era (cntC out x.client)) (some (k,y)):=by rw[mkOp,hst]
        rw[hmk]at hgo
        have hl1:out.length+1=(out++[dS (cN x i era (cntC out x.client)) (some (k,y))]).length:=by simp
        refine wT<|sR ?_;refine zD ?_;refine rX<|nR ?_;refine zD ?_;refine rQ (aI aa rfl rfl rfl rfl rfl (by omega) hy') ?_;refine rC ?_;refine rQ iL ?_;refine rC ?_;refine rX<|nR ?_;refine zD ?_;refine rQ (aI aa rfl rfl rfl rfl rfl (by omega) hy') ?_;refine rC ?_;refine rQ iL ?_;refine rC ?_;refine rX<|nS<|cz ?_;refine zA rfl<|eZ<|gq<|fj<|aK<|ai ?_;refine rC ?_;refine rQ iM ?_;refine aG (aD (s:=41) aa rfl rfl rfl rfl rfl rfl rfl rfl) rfl ?_;refine aU (aM (enc:=cg) (s:=41) (xs:=out) aa (dS (cN x i era (cntC out x.client)) (some (k,y))) rfl rfl rfl rfl rfl rfl rfl rfl rfl hal rfl) rfl ?_;refine rC<|ay<|zC<|ai ?_;refine rC ?_;refine rQ iD ?_;refine rC<|ay ?_
        exact aL (i+1,out++[dS (cN x i era (cntC out x.client)) (some (k,y))],era) [(65,some _)] ⟨hlt,by simp; omega,by simp only; omega,by simp only; omega,by simp only[hn']; exact hgo⟩ (by show h.length-(i+1)<h.length-i; omega) (lg ⟨zE,rfl,zE,rfl,⟨_,rfl,AVLe.of_eq (congrArg (fun n=>AV.own _ 0 n 41 none) hl1)⟩,rfl,zE,rfl,trivial⟩ ⟨zR,trivial⟩)
       ·have dc:decide (y.client=x.client)=false:=dF yc
        rw[if_neg yc]at hst
        refine wF<|aS<|zC<|ai ?_;refine rC ?_;refine rQ iD ?_;refine rC<|ay ?_
        exact aL (k+1) [(65,some 65),(66,some 66)] ⟨hkl,hst.symm⟩ (by omega) (lg zg ⟨zR,zR,trivial⟩)
     ·have d66:decide ((k:Int)<(h.length:Int))=false:=dF (by omega)
      have hst:j7 x.client (h.drop (i+1)) (i+1)=none:=by rw[←hret,List.drop_eq_nil_of_le (by omega)]; rfl
      have hmk:mkOp h i x out era=dS (cN x i era (cntC out x.client)) none:=by rw[mkOp,hst]
      rw[hmk]at hgo
      have hl1:out.length+1=(out++[dS (cN x i era (cntC out x.client)) none]).length:=by simp
      iterate 6 refine rS ?_
      refine rQ iF ?_;refine zJ<|zX<|ai ?_;refine rC ?_;refine rQ iM ?_;refine aG (aD (s:=41) aa rfl rfl rfl rfl rfl rfl rfl rfl) rfl ?_;refine aU (aM (enc:=cg) (s:=41) (xs:=out) aa (dS (cN x i era (cntC out x.client)) none) rfl rfl rfl rfl rfl rfl rfl rfl rfl hal rfl) rfl ?_;refine rC<|ay<|zC<|ai ?_;refine rC ?_;refine rQ iD ?_;refine rC<|ay ?_
      exact aL (i+1,out++[dS (cN x i era (cntC out x.client)) none],era) [(65,some _)] ⟨hlt,by simp; omega,by simp only; omega,by simp only; omega,by simp only[hn']; exact hgo⟩ (by show h.length-(i+1)<h.length-i; omega) (lg ⟨zE,rfl,zE,rfl,⟨_,rfl,AVLe.of_eq (congrArg (fun n=>AV.own _ 0 n 41 none) hl1)⟩,rfl,zE,rfl,trivial⟩ ⟨zR,trivial⟩)
   ·have d1:(!decide (x.kind=1))=true:=by rw[dF k1]; rfl
    rw[if_neg k1]at hgo
    refine wT<|cz<|eZ<|fj<|aK<|ai ?_;refine rC ?_;refine rQ iD ?_;refine rC<|ay ?_
    exact aL (i+1,out,era) [(65,some 65)] ⟨hlt,by simp only; omega,by simp only; omega,by simp only; omega,by simp only[hn']; exact hgo⟩ (by show h.length-(i+1)<h.length-i; omega) (lg zi ⟨zR,trivial⟩)
 ·have hi2:i=h.length:=by have:=of_decide_eq_false h2; omega
  subst hi2
  rw[Nat.sub_self]at hgo
  rw[←hgo]
  refine zX<|sR<|zD<|zT ?_
  exact⟨trivial,[(64,some _)],lg zV ⟨zR,trivial⟩⟩
theorem qI (h:List HEv) (hL:h.length≤1000000):FnIs Tryz.prog 7 [.d (encH h)] [] (.d (dO (opsR h))) []:=(th h hL).freeze_out 64 _ rfl (Frz.own rfl) trivial
structure PQ where
 kind:UInt8
 index:UInt8
 data:UInt8
def encQ (x:PQ):D :=.cons (u8s x.kind.toNat) (.cons (u8s x.index.toNat) (.cons (u8s x.data.toNat) .nil))
def qOf (x:PQ):POp :=
 if x.kind.toNat % 9<4 then⟨1,((x.index.toNat % 22:Nat):Int)-1,[]⟩
 else if x.kind.toNat % 9<7 then⟨2,((x.index.toNat % 22:Nat):Int)-1,List.replicate 32 x.data⟩
 else if x.kind.toNat % 9=8 then⟨((x.data.toNat % 4:Nat):Int),(x.index.toNat:Int)-100,List.replicate (x.index.toNat % 32) x.data⟩
 else⟨3,0,[]⟩
theorem eM (k i:Int):AVLe (.d (.cons (.sc (.int .u8 k)) (.cons (.sc (.int .i64 i)) (.cons (.sc nil_) .nil)))) (.d (bv ⟨k,i,[]⟩)):=
 AVLe.d (x:=encV (true,⟨k,i,[]⟩)) (fun w X cs h=>wk (x:=(true,⟨k,i,[]⟩)) (fun _=>rfl) h) rfl
def dU (d:Int) (n i:Nat):List Int:=List.replicate i d++List.replicate (n-i) 0
theorem qm (d:Int) (n:Nat):dU d n 0=List.replicate n 0:=by simp[dU]
theorem jH {d:Int} {n i:Nat} (h:i<n):(dU d n i)[i]?=some 0:=by
 obtain⟨k,hk⟩:∃k,n-i=k+1:=⟨n-i-1,by omega⟩
 rw[dU,hk,List.getElem?_append_right (by simp),List.length_replicate,Nat.sub_self]
 rfl
theorem jG {d:Int} {n i:Nat} (h:i<n):(dU d n i).set i d=dU d n (i+1):=by
 obtain⟨k,hk⟩:∃k,n-i=k+1:=⟨n-i-1,by omega⟩
 rw[dU,dU,List.set_append_right _ _ (by simp),List.replicate_succ' (n:=i),List.append_assoc,hk,show n-(i+1)=k by omega,List.length_replicate,Nat.sub_self]
 rfl
theorem jI (d:UInt8) (n:Nat):dU d.toNat n n=byI (List.replicate n d):=by simp[dU,byI]
theorem wS (x:PQ):FnIs Tryz.prog 25 [.d (encQ x)] [] (.d (bv (qOf x))) []:=by
 have hx1:=x.kind.toNat_lt
 have hx2:=x.index.toNat_lt
 have hx3:=x.data.toNat_lt
 refine aw aa Tryz.func25 rfl rfl rfl ?_;refine sR ?_;iterate 2 refine rN ?_
 refine nR<|rQ iS ?_;refine rN ?_;refine rW<|nR ?_;refine aG (dH (enc:=bt) (s:=1) (N:=32) aa (0:Int) rfl rfl rfl rfl rfl rfl rfl (by decide) rfl) rfl ?_;refine rC<|zW ?_;refine rC<|zP ?_
 refine wc_inv (fun i:Nat=>⟨[(5,.int .i64 i),(4,.own 67 0 32 1 none),(3,.ptr 66 []),(2,.ptr 65 []),(1,.ptr 64 [])],[(64,some (.box 79 (.d (encQ x)))),(65,some (.box 36 (.d (encV (true,mC))))),(66,some (.box 36 (.d (encV (true,⟨3,0,[]⟩))))),(67,some (.ds 5 1 true bt (dU x.data.toNat 32 i)))],72,Tryz.f25.ntmps,64⟩) (fun i=>i≤32) (fun i=>32-i) 0 [(64,some _),(65,some _),(66,some _),(67,some _)] (Nat.zero_le _)
  (lg zh ⟨zR,zR,zR,⟨rfl,rfl,_,rfl,aY.of_eq (by rw[qm]; rfl)⟩,trivial⟩) ?_
 intro i hi
 by_cases hlt:i<32
 ·have h3:decide ((i:Int)<32)=true:=dT (by omega)
  have hg:(dU x.data.toNat 32 i)[((i:Int)).toNat]?=some 0:=by rw[Int.toNat_natCast]; exact jH hlt
  have hset:=jG (d:=(x.data.toNat:Int)) hlt
  refine bH<|qR ?_;refine zD ?_;refine zI<|zQ<|br<|ai ?_;refine zU ?_;refine rQ iB ?_;refine rQ (bc aa rfl rfl rfl rfl rfl (by omega) (by omega)) ?_;refine aR (aA aa rfl rfl rfl ⟨rfl,(0:Int),(x.data.toNat:Int),hg,⟨rfl,rfl,rfl⟩,rfl⟩ rfl)<|ay<|zC<|ai ?_;refine rC ?_;refine rQ iD ?_;refine rC<|ay ?_
  exact aL (i+1) [] hlt (by omega) (lg zh ⟨zR,zR,zR,⟨rfl,rfl,_,rfl,aY.of_eq (congrArg (Row.ds 5 1 true bt) hset)⟩,trivial⟩)
 ·have he:i=32:=by omega
  subst he
  rw[jI]
  have h3:decide (((32:Nat):Int)<32)=false:=rfl
  have hl32:32=(byI (List.replicate 32 x.data)).length:=by rw[b5,List.length_replicate]
  refine bH ?_;refine mg (env':=[(5,_),(4,_),(3,_),(2,_),(1,_)]) (h':=[(64,some _),(65,some _),(66,some _)]) 67 _ rfl ⟨zE,⟨_,rfl,Frz.own hl32⟩,zE,zE,zE,trivial⟩ ⟨⟨rfl,_,rfl,.refl _⟩,⟨rfl,_,rfl,.refl _⟩,⟨rfl,_,rfl,.refl _⟩,trivial⟩ ?_
  have hw27:IntKind.i64.wrap ((x.index.toNat % 22:Nat):Int)=((x.index.toNat % 22:Nat):Int):=aP (by omega) (by omega)
  have hw48:IntKind.i64.wrap (x.index.toNat:Int)=(x.index.toNat:Int):=aP (by omega) (by omega)
  have h54:((x.index.toNat % 32:Nat):Int)≤(byI (List.replicate 32 x.data)).length:=by rw[b5,List.length_replicate]; omega
  by_cases q4:x.kind.toNat % 9<4
  ·have d4:decide (((x.kind.toNat % 9:Nat):Int)<4)=true:=dT (by omega)
   rw[show qOf x=⟨1,((x.index.toNat % 22:Nat):Int)-1,[]⟩ by rw[qOf,if_pos q4]]
   refine qR<|zD ?_;refine zJ<|zX<|qR ?_;refine rC ?_;refine rQ iB ?_;refine rQ (bM (a:=x.kind.toNat) (b:=9) aa rfl rfl rfl (by decide)) ?_;refine rC<|zP<|sR ?_;refine zU ?_;refine zI<|ai ?_;refine rC ?_;refine rQ iB ?_;refine rQ (bM (a:=x.index.toNat) (b:=22) aa rfl rfl rfl (by decide)) ?_;refine rQ (bA (m:=((x.index.toNat % 22:Nat):Int)) aa rfl rfl rfl hw27) ?_;refine rQ (cu aa rfl rfl (aP (by omega) (by omega))) ?_;refine rQ iS ?_;refine rW<|ay<|zC<|sR ?_;refine rQ iM ?_;refine rW<|zT ?_
   exact⟨trivial,_,rfl,[],lg ⟨⟨_,rfl,eM _ _⟩,rfl,trivial⟩ trivial⟩
  have d4:decide (((x.kind.toNat % 9:Nat):Int)<4)=false:=dF (by omega)
  by_cases q7:x.kind.toNat % 9<7
  ·have d7:decide (((x.kind.toNat % 9:Nat):Int)<7)=true:=dT (by omega)
   rw[show qOf x=⟨2,((x.index.toNat % 22:Nat):Int)-1,List.replicate 32 x.data⟩ by rw[qOf,if_neg q4,if_pos q7]]
   refine qR<|zD ?_;refine zJ<|zX<|qR ?_;refine rC ?_;refine rQ iB ?_;refine rQ (bM (a:=x.kind.toNat) (b:=9) aa rfl rfl rfl (by decide)) ?_;refine rC<|zP<|sR ?_;refine zU ?_;refine zG<|sR ?_;refine zU ?_;refine zI<|ai ?_;refine rC ?_;refine rQ iB ?_;refine rQ (bM (a:=x.index.toNat) (b:=22) aa rfl rfl rfl (by decide)) ?_;refine rQ (bA (m:=((x.index.toNat % 22:Nat):Int)) aa rfl rfl rfl hw27) ?_;refine rQ (cu aa rfl rfl (aP (by omega) (by omega))) ?_;refine rC ?_;refine rQ iS ?_;refine rW<|ay<|zC<|sR ?_;refine rQ iM ?_;refine rW<|zT ?_
   exact⟨trivial,_,rfl,[],lf⟩
  have d7:decide (((x.kind.toNat % 9:Nat):Int)<7)=false:=dF (by omega)
  by_cases q8:x.kind.toNat % 9=8
  ·have d8:decide (((x.kind.toNat % 9:Nat):Int)=8)=true:=dT (by omega)
   rw[show qOf x=⟨((x.data.toNat % 4:Nat):Int),(x.index.toNat:Int)-100,List.replicate (x.index.toNat % 32) x.data⟩ by rw[qOf,if_neg q4,if_neg q7,if_pos q8]]
   have ht:(byI (List.replicate 32 x.data)).take (((x.index.toNat % 32:Nat):Int)).toNat=byI (List.replicate (x.index.toNat % 32) x.data):=by
    rw[Int.toNat_natCast,byI,byI,←List.map_take,List.take_replicate,Nat.min_eq_left (by omega)]
   refine qR<|zD ?_;refine zJ<|zX<|qR ?_;refine rC ?_;refine rQ iB ?_;refine rQ (bM (a:=x.kind.toNat) (b:=9) aa rfl rfl rfl (by decide)) ?_;refine rC<|zP<|sR ?_;refine zU ?_;refine zG<|sR ?_;refine zU ?_;refine zG<|sR ?_;refine zU ?_;refine zI ?_;refine aH (by kernel_rfl) ?_;refine dC [1] [] ?_;refine dQ [43] [64] iB ?_;refine dQ [44] [] (bM (a:=x.data.toNat) (b:=4) aa rfl rfl rfl (by decide)) ?_;refine dC [1] [] ?_;refine dQ [46] [64] iB ?_;refine dQ [47] [] (bA (m:=(x.index.toNat:Int)) aa rfl rfl rfl hw48) ?_;refine dQ [48] [] (cu aa rfl rfl (aP (by omega) (by omega))) ?_;refine dC [4] [] ?_;refine dC [1] [] ?_;refine dQ [51] [64] iB ?_;refine dQ [52] [] (bM (a:=x.index.toNat) (b:=32) aa rfl rfl rfl (by decide)) ?_;refine dQ [50,53] [] (ta (m:=((x.index.toNat % 32:Nat):Int)) aa rfl rfl rfl rfl (by omega) h54) ?_;refine dQ [45,49,54] [] iS ?_;refine bp [3,55] [66] (aA aa rfl rfl rfl ⟨_,⟨rfl,rfl,rfl⟩,rfl⟩ rfl) ?_;refine aB (by kernel_rfl)<|gh<|aK<|sR ?_;refine rQ iM ?_;refine rW<|zT ?_
   rw[ht]
   exact⟨trivial,_,rfl,[],lf⟩
  ·have d8:decide (((x.kind.toNat % 9:Nat):Int)=8)=false:=dF (by omega)
   rw[show qOf x=⟨3,0,[]⟩ by rw[qOf,if_neg q4,if_neg q7,if_neg q8]]
   refine qR<|zD ?_;refine zJ<|zX<|qR ?_;refine rC ?_;refine rQ iB ?_;refine rQ (bM (a:=x.kind.toNat) (b:=9) aa rfl rfl rfl (by decide)) ?_;refine rC<|zP<|sR ?_;refine zU ?_;refine zG<|sR ?_;refine zU ?_;refine zG<|sR ?_;refine zU ?_;refine zG<|aS<|zC<|sR ?_;refine rQ iM ?_;refine rW<|zT ?_
   exact⟨trivial,_,rfl,[],lg ⟨⟨_,rfl,eM _ _⟩,rfl,trivial⟩ trivial⟩
def blkB (d:UInt8):UInt8:=(d.toNat % 4).toUInt8
theorem uZ (d:UInt8):(blkB d).toNat=d.toNat % 4:=by
 rw[blkB,Nat.toUInt8_eq,UInt8.toNat_ofNat']
 omega
theorem lZ (d:UInt8):FnIs Tryz.prog 13 [.int .u8 d.toNat] [] (.d (ff (List.replicate 32 (blkB d)))) []:=by
 have hd:=d.toNat_lt
 refine aw aa Tryz.func13 rfl rfl rfl ?_;refine sR<|rN<|nR ?_;refine rN<|zW ?_;refine rC<|zP ?_
 refine wc_inv (fun i:Nat=>⟨[(4,.int .i64 i),(3,.ptr 65 []),(2,.ptr 66 []),(0,.int .u8 d.toNat)],[(65,some (.box 38 (.d (.vec 32 1 bt (dU ((d.toNat % 4:Nat):Int) 32 i))))),(66,some (.box 38 (.d (.vec 32 1 bt (List.replicate 32 0)))))],72,Tryz.f13.ntmps,64⟩) (fun i=>i≤32) (fun i=>32-i) 0 [(65,some _),(66,some _)] (Nat.zero_le _)
  (lg zi ⟨zR,zR,trivial⟩) ?_
 intro i hi
 refine bH<|qR ?_;refine zD<|nS ?_
 refine bW rfl (fun h3=>?_) (fun h3=>?_)
 ·have hlt:i<32:=by have:=of_decide_eq_true h3; omega
  have hg:(dU ((d.toNat % 4:Nat):Int) 32 i)[((i:Int)).toNat]?=some 0:=by rw[Int.toNat_natCast]; exact jH hlt
  have hs:=jG (d:=((d.toNat % 4:Nat):Int)) hlt
  refine zQ<|br<|ai<|zD ?_;refine rQ (bM (a:=d.toNat) (b:=4) aa rfl rfl rfl (by decide)) ?_;refine rQ (aC aa (fun K hk=>⟨by omega,by omega,hk⟩)) ?_;refine aR (aA aa rfl rfl rfl ⟨_,⟨_,⟨rfl,_,((d.toNat % 4:Nat):Int),hg,⟨rfl,rfl,rfl⟩,rfl⟩,rfl⟩,rfl⟩ rfl)<|ay<|zC<|ai ?_;refine rC ?_;refine rQ iD ?_;refine rC<|ay ?_
  exact aL (i+1) [(65,some 65),(66,some 66)] hlt (by omega) (lg zi ⟨⟨rfl,rfl,_,rfl,aY.of_eq (congrArg (fun l=>Row.box 38 (.d (.vec 32 1 bt l))) hs)⟩,zR,trivial⟩)
 ·have he:i=32:=by have:=of_decide_eq_false h3; omega
  subst he
  have hE:dU ((d.toNat % 4:Nat):Int) 32 32=byI (List.replicate 32 (blkB d)):=by rw[←uZ]; exact jI _ _
  rw[hE]
  refine zX<|sR<|rQ iM ?_;refine rW<|zT ?_
  exact⟨trivial,_,rfl,[],lf⟩
structure XE where
 who:UInt8
 what:UInt8
 data:UInt8
def q6 (x:XE):D :=.cons (u8s x.who.toNat) (.cons (u8s x.what.toNat) (.cons (u8s x.data.toNat) .nil))
def opX (x:XE):POp :=
 if x.what.toNat % 8<3 then⟨1,((x.data.toNat/4 % 3:Nat):Int),[]⟩
 else if x.what.toNat % 8<6 then⟨2,((x.data.toNat/4 % 3:Nat):Int),List.replicate 32 (blkB x.data)⟩
 else if x.what.toNat % 8=6 then⟨3,0,[]⟩
 else qOf ⟨8,x.data,x.what⟩
theorem tM (x:XE):FnIs Tryz.prog 11 [.d (q6 x)] [] (.d (bv (opX x))) []:=by
 have hx1:=x.what.toNat_lt
 have hx2:=x.data.toNat_lt
 have hwc:IntKind.i64.wrap ((x.data.toNat/4:Nat):Int)=((x.data.toNat/4:Nat):Int):=aP (by omega) (by omega)
 refine aw aa Tryz.func11 rfl rfl rfl ?_;refine sR ?_;iterate 2 refine rN ?_
 refine nR<|rC ?_;refine rQ iB ?_;refine rQ (am (lZ x.data) rfl rfl (aj ab) (.inl rfl) (fun _=>rfl)) ?_;refine rN ?_;refine rW<|nS ?_;refine mg (env':=[(3,_),(2,_),(1,_)]) (h':=[(64,some _),(72,some _)]) 104 _ rfl ⟨⟨_,rfl,Frz.ptr⟩,zE,zE,trivial⟩ ⟨⟨rfl,_,rfl,.refl _⟩,⟨rfl,_,rfl,.refl _⟩,trivial⟩ ?_
 have hw8:x.what.toNat % 8<8:=Nat.mod_lt _ (by decide)
 refine qR<|rC ?_;refine rQ iB ?_;refine rQ (bM (a:=x.what.toNat) (b:=8) aa rfl rfl rfl (by decide))<|zP<|qR ?_;refine zD<|nS ?_
 by_cases w0:x.what.toNat % 8=0
 ·have e0:decide (((x.what.toNat % 8:Nat):Int)=0)=true:=dT (by omega)
  rw[show opX x=⟨1,((x.data.toNat/4 % 3:Nat):Int),[]⟩ by rw[opX,if_pos (by omega)]]
  refine wT<|kS ?_;refine wT<|sR ?_;refine rC ?_;refine rQ iB ?_;refine rQ (gJ (a:=x.data.toNat) (s:=2) (m:=x.data.toNat/4) rfl rfl (by decide) rfl) ?_;refine rQ (bA (m:=((x.data.toNat/4:Nat):Int)) aa rfl rfl rfl hwc) ?_;refine rQ (bM (a:=x.data.toNat/4) (b:=3) aa rfl rfl rfl (by decide)) ?_;refine rQ iS ?_;refine rW<|zT<|zB ?_
  exact⟨trivial,_,rfl,[],lg ⟨⟨_,rfl,eM _ _⟩,rfl,trivial⟩ trivial⟩
 skip
 by_cases w1:x.what.toNat % 8=1
 ·have e0:decide (((x.what.toNat % 8:Nat):Int)=0)=false:=dF (by omega)
  have e1:decide (((x.what.toNat % 8:Nat):Int)=1)=true:=dT (by omega)
  rw[show opX x=⟨1,((x.data.toNat/4 % 3:Nat):Int),[]⟩ by rw[opX,if_pos (by omega)]]
  refine wF<|sR ?_;refine zD ?_;refine zI<|kS ?_;refine wT<|sR ?_;refine rC ?_;refine rQ iB ?_;refine rQ (gJ (a:=x.data.toNat) (s:=2) (m:=x.data.toNat/4) rfl rfl (by decide) rfl) ?_;refine rQ (bA (m:=((x.data.toNat/4:Nat):Int)) aa rfl rfl rfl hwc) ?_;refine rQ (bM (a:=x.data.toNat/4) (b:=3) aa rfl rfl rfl (by decide)) ?_;refine rQ iS ?_;refine rW<|zT<|zB ?_
  exact⟨trivial,_,rfl,[],lg ⟨⟨_,rfl,eM _ _⟩,rfl,trivial⟩ trivial⟩
 skip
 by_cases w2:x.what.toNat % 8=2
 ·have e0:decide (((x.what.toNat % 8:Nat):Int)=0)=false:=dF (by omega)
  have e1:decide (((x.what.toNat % 8:Nat):Int)=1)=false:=dF (by omega)
  have e2:decide (((x.what.toNat % 8:Nat):Int)=2)=true:=dT (by omega)
  rw[show opX x=⟨1,((x.data.toNat/4 % 3:Nat):Int),[]⟩ by rw[opX,if_pos (by omega)]]
  refine wF<|sR ?_;refine zD ?_;refine zG<|ai ?_;refine zD ?_;refine zI<|sR ?_;refine rC ?_;refine rQ iB ?_;refine rQ (gJ (a:=x.data.toNat) (s:=2) (m:=x.data.toNat/4) rfl rfl (by decide) rfl) ?_;refine rQ (bA (m:=((x.data.toNat/4:Nat):Int)) aa rfl rfl rfl hwc) ?_;refine rQ (bM (a:=x.data.toNat/4) (b:=3) aa rfl rfl rfl (by decide)) ?_;refine rQ iS ?_;refine rW<|zT<|zB ?_
  exact⟨trivial,_,rfl,[],lg ⟨⟨_,rfl,eM _ _⟩,rfl,trivial⟩ trivial⟩
 skip
 by_cases w3:x.what.toNat % 8=3
 ·have e0:decide (((x.what.toNat % 8:Nat):Int)=0)=false:=dF (by omega)
  have e1:decide (((x.what.toNat % 8:Nat):Int)=1)=false:=dF (by omega)
  have e2:decide (((x.what.toNat % 8:Nat):Int)=2)=false:=dF (by omega)
  have e3:decide (((x.what.toNat % 8:Nat):Int)=3)=true:=dT (by omega)
  rw[show opX x=⟨2,((x.data.toNat/4 % 3:Nat):Int),List.replicate 32 (blkB x.data)⟩ by rw[opX,if_neg (by omega),if_pos (by omega)]]
  refine wF<|sR ?_;refine zD ?_;refine zG<|ai ?_;refine zD ?_;refine zG<|qR ?_;refine zD ?_;refine zI<|kS ?_;refine wT<|bD ?_;refine aH (by kernel_rfl) ?_;refine dC [1] [] ?_;refine dQ [24] [64] iB ?_;refine dQ [25] [] (gJ (a:=x.data.toNat) (s:=2) (m:=x.data.toNat/4) rfl rfl (by decide) rfl) ?_;refine dQ [26] [] (bA (m:=((x.data.toNat/4:Nat):Int)) aa rfl rfl rfl hwc) ?_;refine dQ [27] [] (bM (a:=x.data.toNat/4) (b:=3) aa rfl rfl rfl (by decide)) ?_;refine dQ [3] [] (k6 aa rfl rfl rfl rfl rfl) ?_;refine dQ [28,29] [] iS ?_;refine bp [2,30] [72] (aA aa rfl rfl rfl ⟨_,⟨rfl,rfl,rfl⟩,rfl⟩ rfl) ?_;refine aB (by kernel_rfl)<|aK<|bO<|zB ?_
  exact⟨trivial,_,rfl,[],lf⟩
 skip
 by_cases w4:x.what.toNat % 8=4
 ·have e0:decide (((x.what.toNat % 8:Nat):Int)=0)=false:=dF (by omega)
  have e1:decide (((x.what.toNat % 8:Nat):Int)=1)=false:=dF (by omega)
  have e2:decide (((x.what.toNat % 8:Nat):Int)=2)=false:=dF (by omega)
  have e3:decide (((x.what.toNat % 8:Nat):Int)=3)=false:=dF (by omega)
  have e4:decide (((x.what.toNat % 8:Nat):Int)=4)=true:=dT (by omega)
  rw[show opX x=⟨2,((x.data.toNat/4 % 3:Nat):Int),List.replicate 32 (blkB x.data)⟩ by rw[opX,if_neg (by omega),if_pos (by omega)]]
  refine wF<|sR ?_;refine zD ?_;refine zG<|ai ?_;refine zD ?_;refine zG<|qR ?_;refine zD ?_;refine zG<|sR ?_;refine zD ?_;refine zI<|kS ?_;refine wT<|bD ?_;refine aH (by kernel_rfl) ?_;refine dC [1] [] ?_;refine dQ [24] [64] iB ?_;refine dQ [25] [] (gJ (a:=x.data.toNat) (s:=2) (m:=x.data.toNat/4) rfl rfl (by decide) rfl) ?_;refine dQ [26] [] (bA (m:=((x.data.toNat/4:Nat):Int)) aa rfl rfl rfl hwc) ?_;refine dQ [27] [] (bM (a:=x.data.toNat/4) (b:=3) aa rfl rfl rfl (by decide)) ?_;refine dQ [3] [] (k6 aa rfl rfl rfl rfl rfl) ?_;refine dQ [28,29] [] iS ?_;refine bp [2,30] [72] (aA aa rfl rfl rfl ⟨_,⟨rfl,rfl,rfl⟩,rfl⟩ rfl) ?_;refine aB (by kernel_rfl)<|aK<|bO<|zB ?_
  exact⟨trivial,_,rfl,[],lf⟩
 skip
 by_cases w5:x.what.toNat % 8=5
 ·have e0:decide (((x.what.toNat % 8:Nat):Int)=0)=false:=dF (by omega)
  have e1:decide (((x.what.toNat % 8:Nat):Int)=1)=false:=dF (by omega)
  have e2:decide (((x.what.toNat % 8:Nat):Int)=2)=false:=dF (by omega)
  have e3:decide (((x.what.toNat % 8:Nat):Int)=3)=false:=dF (by omega)
  have e4:decide (((x.what.toNat % 8:Nat):Int)=4)=false:=dF (by omega)
  have e5:decide (((x.what.toNat % 8:Nat):Int)=5)=true:=dT (by omega)
  rw[show opX x=⟨2,((x.data.toNat/4 % 3:Nat):Int),List.replicate 32 (blkB x.data)⟩ by rw[opX,if_neg (by omega),if_pos (by omega)]]
  refine wF<|sR ?_;refine zD ?_;refine zG<|ai ?_;refine zD ?_;refine zG<|qR ?_;refine zD ?_;refine zG<|sR ?_;refine zD ?_;refine zG<|ai ?_;refine zD ?_;refine zI<|bD ?_;refine aH (by kernel_rfl) ?_;refine dC [1] [] ?_;refine dQ [24] [64] iB ?_;refine dQ [25] [] (gJ (a:=x.data.toNat) (s:=2) (m:=x.data.toNat/4) rfl rfl (by decide) rfl) ?_;refine dQ [26] [] (bA (m:=((x.data.toNat/4:Nat):Int)) aa rfl rfl rfl hwc) ?_;refine dQ [27] [] (bM (a:=x.data.toNat/4) (b:=3) aa rfl rfl rfl (by decide)) ?_;refine dQ [3] [] (k6 aa rfl rfl rfl rfl rfl) ?_;refine dQ [28,29] [] iS ?_;refine bp [2,30] [72] (aA aa rfl rfl rfl ⟨_,⟨rfl,rfl,rfl⟩,rfl⟩ rfl) ?_;refine aB (by kernel_rfl)<|aK<|bO<|zB ?_
  exact⟨trivial,_,rfl,[],lf⟩
 skip
 by_cases w6:x.what.toNat % 8=6
 ·have e0:decide (((x.what.toNat % 8:Nat):Int)=0)=false:=dF (by omega)
  have e1:decide (((x.what.toNat % 8:Nat):Int)=1)=false:=dF (by omega)
  have e2:decide (((x.what.toNat % 8:Nat):Int)=2)=false:=dF (by omega)
  have e3:decide (((x.what.toNat % 8:Nat):Int)=3)=false:=dF (by omega)
  have e4:decide (((x.what.toNat % 8:Nat):Int)=4)=false:=dF (by omega)
  have e5:decide (((x.what.toNat % 8:Nat):Int)=5)=false:=dF (by omega)
  have e6:decide (((x.what.toNat % 8:Nat):Int)=6)=true:=dT (by omega)
  rw[show opX x=⟨3,0,[]⟩ by rw[opX,if_neg (by omega),if_neg (by omega),if_pos w6]]
  refine wF<|sR ?_;refine zD ?_;refine zG<|ai ?_;refine zD ?_;refine zG<|qR ?_;refine zD ?_;refine zG<|sR ?_;refine zD ?_;refine zG<|ai ?_;refine zD ?_;refine zG<|sR ?_;refine zD ?_;refine zI<|sR ?_;refine rQ iS ?_;refine rW<|zT<|zB ?_
  exact⟨trivial,_,rfl,[],lg ⟨⟨_,rfl,eM _ _⟩,rfl,trivial⟩ trivial⟩
 have w7:x.what.toNat % 8=7:=by omega
 have e0:decide (((x.what.toNat % 8:Nat):Int)=0)=false:=dF (by omega)
 have e1:decide (((x.what.toNat % 8:Nat):Int)=1)=false:=dF (by omega)
 have e2:decide (((x.what.toNat % 8:Nat):Int)=2)=false:=dF (by omega)
 have e3:decide (((x.what.toNat % 8:Nat):Int)=3)=false:=dF (by omega)
 have e4:decide (((x.what.toNat % 8:Nat):Int)=4)=false:=dF (by omega)
 have e5:decide (((x.what.toNat % 8:Nat):Int)=5)=false:=dF (by omega)
 have e6:decide (((x.what.toNat % 8:Nat):Int)=6)=false:=dF (by omega)
 rw[show opX x=qOf ⟨8,x.data,x.what⟩ by rw[opX,if_neg (by omega),if_neg (by omega),if_neg w6]]
 refine wF<|sR ?_;refine zD ?_;refine zG<|ai ?_;refine zD ?_;refine zG<|qR ?_;refine zD ?_;refine zG<|sR ?_;refine zD ?_;refine zG<|ai ?_;refine zD ?_;refine zG<|sR ?_;refine zD ?_;refine zG<|aS<|zC<|sR ?_;refine rC ?_;refine rQ iB ?_;refine rC ?_;refine rQ iB ?_;refine rQ iS ?_;refine rQ (am (wS ⟨8,x.data,x.what⟩) rfl rfl (aj ab) (.inl rfl) (fun _=>rfl)) ?_;refine rW<|zT ?_
 exact⟨trivial,_,rfl,[],lf⟩
def kj (l:List XE):D :=.cons (.arr 3 q6 l) .nil
def je:List Int:=[0,0,0,0,0,1,8,9]
def errX (y:HEv) (x:XE):Int:=if badO y.op 3&&decide (x.what.toNat<200) then 1 else je[x.what.toNat % 8]?.getD 0
def bV (out:List HEv) (x:XE):List HEv :=
 if x.who.toNat % 4=3∧x.what.toNat≤20 then out++[⟨3,0,zOp,zBk,0⟩]
 else if pend out ((x.who.toNat % 4 % 3:Nat):Int)<0 then out++[⟨1,((x.who.toNat % 4 % 3:Nat):Int),opX x,zBk,0⟩]
 else match out[(pend out ((x.who.toNat % 4 % 3:Nat):Int)).toNat]? with
  | none=>out
  | some y=>out++[⟨2,((x.who.toNat % 4 % 3:Nat):Int),zOp,if y.op.kind=1∧errX y x=0 then List.replicate 32 (blkB x.data) else zBk,errX y x⟩]
def hOf (l:List XE):List HEv:=(l.take 24).foldl bV []
theorem m6 (k c e:Int):DLe (.cons (u8s k) (.cons (i6 c) (.cons zPOp (.cons (.vec 32 1 bt (List.replicate 32 0)) (.cons (i6 e) .nil))))) (bx ⟨k,c,zOp,zBk,e⟩):=by
 rintro w X cs ⟨c1,r1,rfl,h1,c2,r2,rfl,h2,c3,r3,rfl,h3,h4⟩
 exact⟨c1,_,rfl,h1,c2,_,rfl,h2,c3,_,rfl,pp _ _ _ h3,h4⟩
theorem rJ (out:List HEv) (x:XE):(bV out x).length≤out.length+1:=by
 unfold bV
 split
 ·simp
 ·split
  ·simp
  ·split <;> simp
theorem jE:∀(l:List XE) (out:List HEv),(l.foldl bV out).length≤out.length+l.length
 | [],out=>by simp
 | x::l,out=>by
  have h1:=jE l (bV out x)
  have h2:=rJ out x
  simp only[List.foldl_cons,List.length_cons]
  omega
theorem qk {l:List XE} {i:Nat} {x:XE} (hx:l[i]?=some x):(l.take (i+1)).foldl bV []=bV ((l.take i).foldl bV []) x:=by
 rw[List.take_add_one,hx,Option.toList_some,List.foldl_append]; rfl
theorem v6 (l:List XE):FnIs Tryz.prog 4 [.d (kj l)] [] (.own 64 0 (hOf l).length 38 none) [(64,.ds 48 38 false bx (hOf l))]:=by
 refine aw aa Tryz.func4 rfl rfl rfl ?_;refine sR<|rN ?_;refine rC<|nR ?_;refine rC<|zW ?_;refine rC<|nS<|br ?_
 refine wc_inv (fun q:Nat×List HEv=>⟨[(4,.int .i64 q.1),(3,.own 65 0 q.2.length 38 none),(1,.ptr 64 [])],[(64,some (.box 24 (.d (kj l)))),(65,some (.ds 48 38 false bx q.2))],72,Tryz.f4.ntmps,64⟩) (fun q=>q.1≤l.length∧q.1≤24∧q.2=(l.take q.1).foldl bV []) (fun q=>24-q.1) (0,[]) [(64,some 64),(65,none)] ⟨Nat.zero_le _,Nat.zero_le _,rfl⟩
  (lg zj ⟨zR,⟨rfl,rfl,rfl⟩,trivial⟩) ?_
 rintro⟨i,out⟩ ⟨hi,h24,hout⟩
 simp only at hi h24 hout
 have hol:out.length≤24:=by
  have:=jE (l.take i) []
  rw[←hout,List.length_take]at this
  simp at this; omega
 have hal:out.length+1≤1048576:=by omega
 have hpl:out.length≤9223372036854775807:=by omega
 refine bH<|qR ?_;refine zD ?_;refine rQ iB ?_;refine rQ iE ?_;refine zD ?_
 by_cases hlt:i<l.length
 ·have c1:decide ((i:Int)<(l.length:Int))=true:=dT (by omega)
  refine rO ?_;refine rC ?_;refine rO ?_;refine rC ?_;refine rQ iT<|nS ?_
  by_cases h24:i<24
  ·have c2:decide ((i:Int)<24)=true:=dT (by omega)
   obtain⟨x,hx⟩:∃u,l[i]?=some u:=⟨_,List.getElem?_eq_getElem hlt⟩
   have hx':l[((i:Int)).toNat]?=some x:=by rw[Int.toNat_natCast]; exact hx
   have hx1:=x.who.toNat_lt
   have hx2:=x.what.toNat_lt
   have hwc:IntKind.i64.wrap ((x.who.toNat % 4:Nat):Int)=((x.who.toNat % 4:Nat):Int):=aP (by omega) (by omega)
   have hfx:=qk hx
   rw[←hout]at hfx
   refine wT<|zQ<|zS ?_;refine rC ?_;refine rQ iB ?_;refine rC ?_;refine rQ (aI aa rfl rfl rfl rfl rfl (by omega) hx') ?_;refine rQ iL ?_;refine rN ?_;refine rW<|nR ?_;refine rC ?_;refine rQ iB ?_;refine rQ (bM (a:=x.who.toNat) (b:=4) aa rfl rfl rfl (by decide)) ?_;refine rQ (bA (m:=((x.who.toNat % 4:Nat):Int)) aa rfl rfl rfl hwc) ?_;refine rC<|zW ?_;refine zU ?_
   by_cases w3:x.who.toNat % 4=3
   ·have d3:decide (((x.who.toNat % 4:Nat):Int)=3)=true:=dT (by omega)
    refine rO ?_;refine rC ?_;refine rO ?_;refine rQ iB ?_;refine rO ?_;refine rC ?_;refine rQ iT<|nS ?_
    by_cases w20:x.what.toNat≤20
    ·have d20:decide ((x.what.toNat:Int)≤20)=true:=dT (by omega)
     have hst:bV out x=out++[⟨3,0,zOp,zBk,0⟩]:=by rw[bV,if_pos ⟨w3,w20⟩]
     have hl1:out.length+1=(out++[(⟨3,0,zOp,zBk,0⟩:HEv)]).length:=by simp
     refine wT<|sR ?_;refine rC ?_;refine rQ (aq.val_le (eI aa rfl rfl rfl rfl) (m6 3 0 0) rfl) ?_;refine aG (aD (s:=38) aa rfl rfl rfl rfl rfl rfl rfl rfl) rfl ?_;refine aU (aM (enc:=bx) (s:=38) (xs:=out) aa ⟨3,0,zOp,zBk,0⟩ rfl rfl rfl rfl rfl rfl rfl rfl rfl hal rfl) rfl ?_;refine rC<|nS<|cz<|eZ<|fj<|aK<|ai ?_;refine rC ?_;refine rQ iD ?_;refine rC<|ay ?_
     exact aL (i+1,out++[⟨3,0,zOp,zBk,0⟩]) [(64,some 64),(65,some _)] ⟨hlt,h24,by rw[hfx,hst]⟩ (by show 24-(i+1)<24-i; omega) (lg ⟨zE,rfl,⟨_,rfl,AVLe.of_eq (congrArg (fun n=>AV.own _ 0 n 38 none) hl1)⟩,rfl,zE,rfl,trivial⟩ ⟨zR,zR,trivial⟩)
    ·have d20:decide ((x.what.toNat:Int)≤20)=false:=dF (by omega)
     have hns:¬(x.who.toNat % 4=3∧x.what.toNat≤20):=by omega
     refine wF<|kS<|sR ?_;refine rC ?_;refine rQ (bM (a:=x.who.toNat % 4) (b:=3) aa rfl rfl rfl (by decide)) ?_;refine rC<|nR ?_;refine zD ?_;refine rQ (am (qN out ((x.who.toNat % 4 % 3:Nat):Int) hpl) rfl rfl (nG rfl (aj ab)) (.inr (cJ.sc _)) (fun _=>rfl)) ?_;refine rC<|zW ?_;refine zD<|nS ?_
     by_cases hp:pend out ((x.who.toNat % 4 % 3:Nat):Int)<0
     ·have dp:decide (pend out ((x.who.toNat % 4 % 3:Nat):Int)<0)=true:=dT hp
      have hst:bV out x=out++[⟨1,((x.who.toNat % 4 % 3:Nat):Int),opX x,zBk,0⟩]:=by rw[bV,if_neg hns,if_pos hp]
      have hl1:out.length+1=(out++[(⟨1,((x.who.toNat % 4 % 3:Nat):Int),opX x,zBk,0⟩:HEv)]).length:=by simp
      refine wT<|sR ?_;refine zD ?_;refine rQ iM ?_;refine rQ (am (tM x) rfl rfl (aj ab) (.inl rfl) (fun _=>rfl)) ?_;refine rQ iS ?_;refine aG (aD (s:=38) aa rfl rfl rfl rfl rfl rfl rfl rfl) rfl ?_;refine aU (aM (enc:=bx) (s:=38) (xs:=out) aa ⟨1,((x.who.toNat % 4 % 3:Nat):Int),opX x,zBk,0⟩ rfl rfl rfl rfl rfl rfl rfl rfl rfl hal rfl) rfl ?_;refine rC<|nS<|cz<|eZ<|fj<|aK<|ai ?_;refine rC ?_;refine rQ iD ?_;refine rC<|ay ?_
      exact aL (i+1,out++[⟨1,((x.who.toNat % 4 % 3:Nat):Int),opX x,zBk,0⟩]) [(64,some 64),(65,some _)] ⟨hlt,h24,by rw[hfx,hst]⟩ (by show 24-(i+1)<24-i; omega) (lg ⟨zE,rfl,⟨_,rfl,AVLe.of_eq (congrArg (fun n=>AV.own _ 0 n 38 none) hl1)⟩,rfl,zE,rfl,trivial⟩ ⟨zR,zR,trivial⟩)
     ·have dp:decide (pend out ((x.who.toNat % 4 % 3:Nat):Int)<0)=false:=dF hp
      have hpi:=qO out ((x.who.toNat % 4 % 3:Nat):Int)
      have hge:0≤pend out ((x.who.toNat % 4 % 3:Nat):Int):=by omega
      have hlp:pend out ((x.who.toNat % 4 % 3:Nat):Int)<(out.length:Int):=hpi.2
      obtain⟨y,hy⟩:∃y,out[(pend out ((x.who.toNat % 4 % 3:Nat):Int)).toNat]?=some y:=⟨_,List.getElem?_eq_getElem (by omega)⟩
      obtain⟨e0,he0⟩:∃e0,je[x.what.toNat % 8]?=some e0:=⟨_,List.getElem?_eq_getElem (Nat.mod_lt _ (by decide))⟩
      have hE:je[(((x.what.toNat % 8:Nat):Int)).toNat]?=some e0:=by rw[Int.toNat_natCast]; exact he0
      have hs0:bV out x=out++[⟨2,((x.who.toNat % 4 % 3:Nat):Int),zOp,if y.op.kind=1∧errX y x=0 then List.replicate 32 (blkB x.data) else zBk,errX y x⟩]:=by rw[bV,if_neg hns,if_neg hp,hy]
      have hb:=qK y.op 3
      obtain⟨bad,hbad⟩:∃b,badO y.op 3=b:=⟨_,rfl⟩
      obtain⟨lo,hlo⟩:∃b,decide (x.what.toNat<200)=b:=⟨_,rfl⟩
      have hlo':decide ((x.what.toNat:Int)<200)=lo:=by rw[←hlo]; exact decide_eq_decide.2 (by omega)
      rw[hbad]at hb
      unfold r01 at hb
      refine wF<|kS<|sR ?_;refine rC ?_;refine rQ (aq.frozen (aD (s:=1) aa rfl rfl rfl rfl rfl rfl rfl rfl) (Frz.litsN (enc:=i6) [0,0,0,0,0,1,8,9] rfl (fun _ _=>rfl))) ?_;refine rC ?_;refine rQ iB ?_;refine rQ (bM (a:=x.what.toNat) (b:=8) aa rfl rfl rfl (by decide)) ?_;refine rQ (aI (xs:=je) aa rfl rfl rfl rfl rfl (by omega) hE) ?_;refine rQ iL ?_;refine rQ (aq.val_le (eI aa rfl rfl rfl rfl) (m6 2 ((x.who.toNat % 4 % 3:Nat):Int) e0) rfl) ?_;refine rN ?_;refine rW<|zW ?_;refine zD ?_;refine rQ (bc aa rfl rfl rfl rfl rfl hge hlp) ?_;refine rC ?_;refine rQ (bF aa rfl rfl ⟨rfl,y,hy,_,rfl,rfl⟩ rfl) ?_;refine rQ (am hb rfl rfl (aj (aj ab)) (.inl rfl) (fun _=>rfl)) ?_;refine zD ?_
      cases bad with
      | true =>
       rw[if_pos rfl]at hb
       refine rP ?_;refine rC ?_;refine rP ?_;refine rQ iB ?_;refine rP ?_;refine rC ?_;refine rQ iU<|nS ?_
       cases lo with
       | true =>
        have heX:errX y x=1:=by rw[errX,hbad,hlo]; rfl
        rw[heX]at hs0
        refine wT<|ai ?_;refine rC ?_;refine rX<|zW ?_;refine zD ?_;refine rQ (bc aa rfl rfl rfl rfl rfl hge hlp) ?_;refine zD ?_;refine rQ (bF aa rfl rfl ⟨rfl,y,hy,_,rfl,rfl⟩ rfl) ?_;refine zD ?_
        by_cases hk:y.op.kind=1
        ·have dk:decide (y.op.kind=1)=true:=dT hk
         have hst:bV out x=out++[⟨2,((x.who.toNat % 4 % 3:Nat):Int),zOp,zBk,1⟩]:=by rw[hs0,if_neg (by omega)]
         have hl1:out.length+1=(out++[(⟨2,((x.who.toNat % 4 % 3:Nat):Int),zOp,zBk,1⟩:HEv)]).length:=by simp
         refine rO ?_;refine rC ?_;refine rO ?_;refine rQ iB ?_;refine rO ?_;refine rC ?_;refine rQ iT ?_;refine zJ<|kS<|ai ?_;refine rC ?_;refine rQ iM ?_;refine aG (aD (s:=38) aa rfl rfl rfl rfl rfl rfl rfl rfl) rfl ?_;refine aU (aM (enc:=bx) (s:=38) (xs:=out) aa ⟨2,((x.who.toNat % 4 % 3:Nat):Int),zOp,zBk,1⟩ rfl rfl rfl rfl rfl rfl rfl rfl rfl hal rfl) rfl ?_;refine rC<|ay<|zC<|ai ?_;refine rC ?_;refine rQ iD ?_;refine rC<|ay ?_
         exact aL (i+1,out++[⟨2,((x.who.toNat % 4 % 3:Nat):Int),zOp,zBk,1⟩]) [(64,some 64),(65,some _)] ⟨hlt,h24,by rw[hfx,hst]⟩ (by show 24-(i+1)<24-i; omega) (lg ⟨zE,rfl,⟨_,rfl,AVLe.of_eq (congrArg (fun n=>AV.own _ 0 n 38 none) hl1)⟩,rfl,zE,rfl,trivial⟩ ⟨zR,zR,trivial⟩)
        ·have dk:decide (y.op.kind=1)=false:=dF hk
         have hst:bV out x=out++[⟨2,((x.who.toNat % 4 % 3:Nat):Int),zOp,zBk,1⟩]:=by rw[hs0,if_neg (fun h=>hk h.1)]
         have hl1:out.length+1=(out++[(⟨2,((x.who.toNat % 4 % 3:Nat):Int),zOp,zBk,1⟩:HEv)]).length:=by simp
         iterate 3 refine rS ?_
         refine rQ iF ?_;refine zJ<|kS<|ai ?_;refine rC ?_;refine rQ iM ?_;refine aG (aD (s:=38) aa rfl rfl rfl rfl rfl rfl rfl rfl) rfl ?_;refine aU (aM (enc:=bx) (s:=38) (xs:=out) aa ⟨2,((x.who.toNat % 4 % 3:Nat):Int),zOp,zBk,1⟩ rfl rfl rfl rfl rfl rfl rfl rfl rfl hal rfl) rfl ?_;refine rC<|ay<|zC<|ai ?_;refine rC ?_;refine rQ iD ?_;refine rC<|ay ?_
         exact aL (i+1,out++[⟨2,((x.who.toNat % 4 % 3:Nat):Int),zOp,zBk,1⟩]) [(64,some 64),(65,some _)] ⟨hlt,h24,by rw[hfx,hst]⟩ (by show 24-(i+1)<24-i; omega) (lg ⟨zE,rfl,⟨_,rfl,AVLe.of_eq (congrArg (fun n=>AV.own _ 0 n 38 none) hl1)⟩,rfl,zE,rfl,trivial⟩ ⟨zR,zR,trivial⟩)
       | false =>
        have heX:errX y x=e0:=by rw[errX,hbad,hlo,he0]; rfl
        rw[heX]at hs0
        refine wF<|kS<|qR ?_;refine zD ?_;refine rQ (bc aa rfl rfl rfl rfl rfl hge hlp) ?_;refine zD ?_;refine rQ (bF aa rfl rfl ⟨rfl,y,hy,_,rfl,rfl⟩ rfl) ?_;refine zD ?_
        by_cases hk:y.op.kind=1
        ·have dk:decide (y.op.kind=1)=true:=dT hk
         refine rO ?_;refine rC ?_;refine rO ?_;refine rQ iB ?_;refine rO ?_;refine rC ?_;refine rQ iT<|nS ?_
         by_cases hz:e0=0
         ·have dz:decide (e0=0)=true:=dT hz
          have hst:bV out x=out++[⟨2,((x.who.toNat % 4 % 3:Nat):Int),zOp,List.replicate 32 (blkB x.data),e0⟩]:=by rw[hs0,if_pos ⟨hk,hz⟩]
          have hl1:out.length+1=(out++[(⟨2,((x.who.toNat % 4 % 3:Nat):Int),zOp,List.replicate 32 (blkB x.data),e0⟩:HEv)]).length:=by simp
          refine wT<|ai ?_;refine rC ?_;refine rQ iB ?_;refine rQ (am (lZ x.data) rfl rfl (aj ab) (.inl rfl) (fun _=>rfl)) ?_;refine rC ?_;refine rX<|nS<|ai ?_;refine rC ?_;refine rQ iM ?_;refine aG (aD (s:=38) aa rfl rfl rfl rfl rfl rfl rfl rfl) rfl ?_;refine aU (aM (enc:=bx) (s:=38) (xs:=out) aa ⟨2,((x.who.toNat % 4 % 3:Nat):Int),zOp,List.replicate 32 (blkB x.data),e0⟩ rfl rfl rfl rfl rfl rfl rfl rfl rfl hal rfl) rfl ?_;refine rC<|ay<|zC<|ai ?_;refine rC ?_;refine rQ iD ?_;refine rC<|ay ?_
          exact aL (i+1,out++[⟨2,((x.who.toNat % 4 % 3:Nat):Int),zOp,List.replicate 32 (blkB x.data),e0⟩]) [(64,some 64),(65,some _)] ⟨hlt,h24,by rw[hfx,hst]⟩ (by show 24-(i+1)<24-i; omega) (lg ⟨zE,rfl,⟨_,rfl,AVLe.of_eq (congrArg (fun n=>AV.own _ 0 n 38 none) hl1)⟩,rfl,zE,rfl,trivial⟩ ⟨zR,zR,trivial⟩)
         ·have dz:decide (e0=0)=false:=dF hz
          have hst:bV out x=out++[⟨2,((x.who.toNat % 4 % 3:Nat):Int),zOp,zBk,e0⟩]:=by rw[hs0,if_neg (fun h=>hz h.2)]
          have hl1:out.length+1=(out++[(⟨2,((x.who.toNat % 4 % 3:Nat):Int),zOp,zBk,e0⟩:HEv)]).length:=by simp
          refine wF<|kS<|ai ?_;refine rC ?_;refine rQ iM ?_;refine aG (aD (s:=38) aa rfl rfl rfl rfl rfl rfl rfl rfl) rfl ?_;refine aU (aM (enc:=bx) (s:=38) (xs:=out) aa ⟨2,((x.who.toNat % 4 % 3:Nat):Int),zOp,zBk,e0⟩ rfl rfl rfl rfl rfl rfl rfl rfl rfl hal rfl) rfl ?_;refine rC<|ay<|zC<|ai ?_;refine rC ?_;refine rQ iD ?_;refine rC<|ay ?_
          exact aL (i+1,out++[⟨2,((x.who.toNat % 4 % 3:Nat):Int),zOp,zBk,e0⟩]) [(64,some 64),(65,some _)] ⟨hlt,h24,by rw[hfx,hst]⟩ (by show 24-(i+1)<24-i; omega) (lg ⟨zE,rfl,⟨_,rfl,AVLe.of_eq (congrArg (fun n=>AV.own _ 0 n 38 none) hl1)⟩,rfl,zE,rfl,trivial⟩ ⟨zR,zR,trivial⟩)
        ·have dk:decide (y.op.kind=1)=false:=dF hk
         have hst:bV out x=out++[⟨2,((x.who.toNat % 4 % 3:Nat):Int),zOp,zBk,e0⟩]:=by rw[hs0,if_neg (fun h=>hk h.1)]
         have hl1:out.length+1=(out++[(⟨2,((x.who.toNat % 4 % 3:Nat):Int),zOp,zBk,e0⟩:HEv)]).length:=by simp
         iterate 3 refine rS ?_
         refine rQ iF ?_;refine zJ<|kS<|ai ?_;refine rC ?_;refine rQ iM ?_;refine aG (aD (s:=38) aa rfl rfl rfl rfl rfl rfl rfl rfl) rfl ?_;refine aU (aM (enc:=bx) (s:=38) (xs:=out) aa ⟨2,((x.who.toNat % 4 % 3:Nat):Int),zOp,zBk,e0⟩ rfl rfl rfl rfl rfl rfl rfl rfl rfl hal rfl) rfl ?_;refine rC<|ay<|zC<|ai ?_;refine rC ?_;refine rQ iD ?_;refine rC<|ay ?_
         exact aL (i+1,out++[⟨2,((x.who.toNat % 4 % 3:Nat):Int),zOp,zBk,e0⟩]) [(64,some 64),(65,some _)] ⟨hlt,h24,by rw[hfx,hst]⟩ (by show 24-(i+1)<24-i; omega) (lg ⟨zE,rfl,⟨_,rfl,AVLe.of_eq (congrArg (fun n=>AV.own _ 0 n 38 none) hl1)⟩,rfl,zE,rfl,trivial⟩ ⟨zR,zR,trivial⟩)
      | false =>
       rw[if_neg (by decide)]at hb
       have heX:errX y x=e0:=by rw[errX,hbad,he0]; rfl
       rw[heX]at hs0
       iterate 3 refine rT ?_
       refine rQ iG ?_;refine zJ<|kS<|qR ?_;refine zD ?_;refine rQ (bc aa rfl rfl rfl rfl rfl hge hlp) ?_;refine zD ?_;refine rQ (bF aa rfl rfl ⟨rfl,y,hy,_,rfl,rfl⟩ rfl) ?_;refine zD ?_
       by_cases hk:y.op.kind=1
       ·have dk:decide (y.op.kind=1)=true:=dT hk
        refine rO ?_;refine rC ?_;refine rO ?_;refine rQ iB ?_;refine rO ?_;refine rC ?_;refine rQ iT<|nS ?_
        by_cases hz:e0=0
        ·have dz:decide (e0=0)=true:=dT hz
         have hst:bV out x=out++[⟨2,((x.who.toNat % 4 % 3:Nat):Int),zOp,List.replicate 32 (blkB x.data),e0⟩]:=by rw[hs0,if_pos ⟨hk,hz⟩]
         have hl1:out.length+1=(out++[(⟨2,((x.who.toNat % 4 % 3:Nat):Int),zOp,List.replicate 32 (blkB x.data),e0⟩:HEv)]).length:=by simp
         refine wT<|ai ?_;refine rC ?_;refine rQ iB ?_;refine rQ (am (lZ x.data) rfl rfl (aj ab) (.inl rfl) (fun _=>rfl)) ?_;refine rC ?_;refine rX<|nS<|ai ?_;refine rC ?_;refine rQ iM ?_;refine aG (aD (s:=38) aa rfl rfl rfl rfl rfl rfl rfl rfl) rfl ?_;refine aU (aM (enc:=bx) (s:=38) (xs:=out) aa ⟨2,((x.who.toNat % 4 % 3:Nat):Int),zOp,List.replicate 32 (blkB x.data),e0⟩ rfl rfl rfl rfl rfl rfl rfl rfl rfl hal rfl) rfl ?_;refine rC<|ay<|zC<|ai ?_;refine rC ?_;refine rQ iD ?_;refine rC<|ay ?_
         exact aL (i+1,out++[⟨2,((x.who.toNat % 4 % 3:Nat):Int),zOp,List.replicate 32 (blkB x.data),e0⟩]) [(64,some 64),(65,some _)] ⟨hlt,h24,by rw[hfx,hst]⟩ (by show 24-(i+1)<24-i; omega) (lg ⟨zE,rfl,⟨_,rfl,AVLe.of_eq (congrArg (fun n=>AV.own _ 0 n 38 none) hl1)⟩,rfl,zE,rfl,trivial⟩ ⟨zR,zR,trivial⟩)
        ·have dz:decide (e0=0)=false:=dF hz
         have hst:bV out x=out++[⟨2,((x.who.toNat % 4 % 3:Nat):Int),zOp,zBk,e0⟩]:=by rw[hs0,if_neg (fun h=>hz h.2)]
         have hl1:out.length+1=(out++[(⟨2,((x.who.toNat % 4 % 3:Nat):Int),zOp,zBk,e0⟩:HEv)]).length:=by simp
         refine wF<|kS<|ai ?_;refine rC ?_;refine rQ iM ?_;refine aG (aD (s:=38) aa rfl rfl rfl rfl rfl rfl rfl rfl) rfl ?_;refine aU (aM (enc:=bx) (s:=38) (xs:=out) aa ⟨2,((x.who.toNat % 4 % 3:Nat):Int),zOp,zBk,e0⟩ rfl rfl rfl rfl rfl rfl rfl rfl rfl hal rfl) rfl ?_;refine rC<|ay<|zC<|ai ?_;refine rC ?_;refine rQ iD ?_;refine rC<|ay ?_
         exact aL (i+1,out++[⟨2,((x.who.toNat % 4 % 3:Nat):Int),zOp,zBk,e0⟩]) [(64,some 64),(65,some _)] ⟨hlt,h24,by rw[hfx,hst]⟩ (by show 24-(i+1)<24-i; omega) (lg ⟨zE,rfl,⟨_,rfl,AVLe.of_eq (congrArg (fun n=>AV.own _ 0 n 38 none) hl1)⟩,rfl,zE,rfl,trivial⟩ ⟨zR,zR,trivial⟩)
       ·have dk:decide (y.op.kind=1)=false:=dF hk
        have hst:bV out x=out++[⟨2,((x.who.toNat % 4 % 3:Nat):Int),zOp,zBk,e0⟩]:=by rw[hs0,if_neg (fun h=>hk h.1)]
        have hl1:out.length+1=(out++[(⟨2,((x.who.toNat % 4 % 3:Nat):Int),zOp,zBk,e0⟩:HEv)]).length:=by simp
        iterate 3 refine rS ?_
        refine rQ iF ?_;refine zJ<|kS<|ai ?_;refine rC ?_;refine rQ iM ?_;refine aG (aD (s:=38) aa rfl rfl rfl rfl rfl rfl rfl rfl) rfl ?_;refine aU (aM (enc:=bx) (s:=38) (xs:=out) aa ⟨2,((x.who.toNat % 4 % 3:Nat):Int),zOp,zBk,e0⟩ rfl rfl rfl rfl rfl rfl rfl rfl rfl hal rfl) rfl ?_;refine rC<|ay<|zC<|ai ?_;refine rC ?_;refine rQ iD ?_;refine rC<|ay ?_
        exact aL (i+1,out++[⟨2,((x.who.toNat % 4 % 3:Nat):Int),zOp,zBk,e0⟩]) [(64,some 64),(65,some _)] ⟨hlt,h24,by rw[hfx,hst]⟩ (by show 24-(i+1)<24-i; omega) (lg ⟨zE,rfl,⟨_,rfl,AVLe.of_eq (congrArg (fun n=>AV.own _ 0 n 38 none) hl1)⟩,rfl,zE,rfl,trivial⟩ ⟨zR,zR,trivial⟩)
   ·have d3:decide (((x.who.toNat % 4:Nat):Int)=3)=false:=dF (by omega)
    have hns:¬(x.who.toNat % 4=3∧x.what.toNat≤20):=by omega
    iterate 3 refine rS ?_
    refine rQ iF ?_;refine zJ<|kS<|sR ?_;refine rC ?_;refine rQ (bM (a:=x.who.toNat % 4) (b:=3) aa rfl rfl rfl (by decide)) ?_;refine rC<|nR ?_;refine zD ?_;refine rQ (am (qN out ((x.who.toNat % 4 % 3:Nat):Int) hpl) rfl rfl (nG rfl (aj ab)) (.inr (cJ.sc _)) (fun _=>rfl)) ?_;refine rC<|zW ?_;refine zD<|nS ?_
    by_cases hp:pend out ((x.who.toNat % 4 % 3:Nat):Int)<0
    ·have dp:decide (pend out ((x.who.toNat % 4 % 3:Nat):Int)<0)=true:=dT hp
     have hst:bV out x=out++[⟨1,((x.who.toNat % 4 % 3:Nat):Int),opX x,zBk,0⟩]:=by rw[bV,if_neg hns,if_pos hp]
     have hl1:out.length+1=(out++[(⟨1,((x.who.toNat % 4 % 3:Nat):Int),opX x,zBk,0⟩:HEv)]).length:=by simp
     refine wT<|sR ?_;refine zD ?_;refine rQ iM ?_;refine rQ (am (tM x) rfl rfl (aj ab) (.inl rfl) (fun _=>rfl)) ?_;refine rQ iS ?_;refine aG (aD (s:=38) aa rfl rfl rfl rfl rfl rfl rfl rfl) rfl ?_;refine aU (aM (enc:=bx) (s:=38) (xs:=out) aa ⟨1,((x.who.toNat % 4 % 3:Nat):Int),opX x,zBk,0⟩ rfl rfl rfl rfl rfl rfl rfl rfl rfl hal rfl) rfl ?_;refine rC<|nS<|cz<|eZ<|fj<|aK<|ai ?_;refine rC ?_;refine rQ iD ?_;refine rC<|ay ?_
     exact aL (i+1,out++[⟨1,((x.who.toNat % 4 % 3:Nat):Int),opX x,zBk,0⟩]) [(64,some 64),(65,some _)] ⟨hlt,h24,by rw[hfx,hst]⟩ (by show 24-(i+1)<24-i; omega) (lg ⟨zE,rfl,⟨_,rfl,AVLe.of_eq (congrArg (fun n=>AV.own _ 0 n 38 none) hl1)⟩,rfl,zE,rfl,trivial⟩ ⟨zR,zR,trivial⟩)
    ·have dp:decide (pend out ((x.who.toNat % 4 % 3:Nat):Int)<0)=false:=dF hp
     have hpi:=qO out ((x.who.toNat % 4 % 3:Nat):Int)
     have hge:0≤pend out ((x.who.toNat % 4 % 3:Nat):Int):=by omega
     have hlp:pend out ((x.who.toNat % 4 % 3:Nat):Int)<(out.length:Int):=hpi.2
     obtain⟨y,hy⟩:∃y,out[(pend out ((x.who.toNat % 4 % 3:Nat):Int)).toNat]?=some y:=⟨_,List.getElem?_eq_getElem (by omega)⟩
     obtain⟨e0,he0⟩:∃e0,je[x.what.toNat % 8]?=some e0:=⟨_,List.getElem?_eq_getElem (Nat.mod_lt _ (by decide))⟩
     have hE:je[(((x.what.toNat % 8:Nat):Int)).toNat]?=some e0:=by rw[Int.toNat_natCast]; exact he0
     have hs0:bV out x=out++[⟨2,((x.who.toNat % 4 % 3:Nat):Int),zOp,if y.op.kind=1∧errX y x=0 then List.replicate 32 (blkB x.data) else zBk,errX y x⟩]:=by rw[bV,if_neg hns,if_neg hp,hy]
     have hb:=qK y.op 3
     obtain⟨bad,hbad⟩:∃b,badO y.op 3=b:=⟨_,rfl⟩
     obtain⟨lo,hlo⟩:∃b,decide (x.what.toNat<200)=b:=⟨_,rfl⟩
     have hlo':decide ((x.what.toNat:Int)<200)=lo:=by rw[←hlo]; exact decide_eq_decide.2 (by omega)
     rw[hbad]at hb
     unfold r01 at hb
     refine wF<|kS<|sR ?_;refine rC ?_;refine rQ (aq.frozen (aD (s:=1) aa rfl rfl rfl rfl rfl rfl rfl rfl) (Frz.litsN (enc:=i6) [0,0,0,0,0,1,8,9] rfl (fun _ _=>rfl))) ?_;refine rC ?_;refine rQ iB ?_;refine rQ (bM (a:=x.what.toNat) (b:=8) aa rfl rfl rfl (by decide)) ?_;refine rQ (aI (xs:=je) aa rfl rfl rfl rfl rfl (by omega) hE) ?_;refine rQ iL ?_;refine rQ (aq.val_le (eI aa rfl rfl rfl rfl) (m6 2 ((x.who.toNat % 4 % 3:Nat):Int) e0) rfl) ?_;refine rN ?_;refine rW<|zW ?_;refine zD ?_;refine rQ (bc aa rfl rfl rfl rfl rfl hge hlp) ?_;refine rC ?_;refine rQ (bF aa rfl rfl ⟨rfl,y,hy,_,rfl,rfl⟩ rfl) ?_;refine rQ (am hb rfl rfl (aj (aj ab)) (.inl rfl) (fun _=>rfl)) ?_;refine zD ?_
     cases bad with
     | true =>
      rw[if_pos rfl]at hb
      refine rP ?_;refine rC ?_;refine rP ?_;refine rQ iB ?_;refine rP ?_;refine rC ?_;refine rQ iU<|nS ?_
      cases lo with
      | true =>
       have heX:errX y x=1:=by rw[errX,hbad,hlo]; rfl
       rw[heX]at hs0
       refine wT<|ai ?_;refine rC ?_;refine rX<|zW ?_;refine zD ?_;refine rQ (bc aa rfl rfl rfl rfl rfl hge hlp) ?_;refine zD ?_;refine rQ (bF aa rfl rfl ⟨rfl,y,hy,_,rfl,rfl⟩ rfl) ?_;refine zD ?_
       by_cases hk:y.op.kind=1
       ·have dk:decide (y.op.kind=1)=true:=dT hk
        have hst:bV out x=out++[⟨2,((x.who.toNat % 4 % 3:Nat):Int),zOp,zBk,1⟩]:=by rw[hs0,if_neg (by omega)]
        have hl1:out.length+1=(out++[(⟨2,((x.who.toNat % 4 % 3:Nat):Int),zOp,zBk,1⟩:HEv)]).length:=by simp
        refine rO ?_;refine rC ?_;refine rO ?_;refine rQ iB ?_;refine rO ?_;refine rC ?_;refine rQ iT ?_;refine zJ<|kS<|ai ?_;refine rC ?_;refine rQ iM ?_;refine aG (aD (s:=38) aa rfl rfl rfl rfl rfl rfl rfl rfl) rfl ?_;refine aU (aM (enc:=bx) (s:=38) (xs:=out) aa ⟨2,((x.who.toNat % 4 % 3:Nat):Int),zOp,zBk,1⟩ rfl rfl rfl rfl rfl rfl rfl rfl rfl hal rfl) rfl ?_;refine rC<|ay<|zC<|ai ?_;refine rC ?_;refine rQ iD ?_;refine rC<|ay ?_
        exact aL (i+1,out++[⟨2,((x.who.toNat % 4 % 3:Nat):Int),zOp,zBk,1⟩]) [(64,some 64),(65,some _)] ⟨hlt,h24,by rw[hfx,hst]⟩ (by show 24-(i+1)<24-i; omega) (lg ⟨zE,rfl,⟨_,rfl,AVLe.of_eq (congrArg (fun n=>AV.own _ 0 n 38 none) hl1)⟩,rfl,zE,rfl,trivial⟩ ⟨zR,zR,trivial⟩)
       ·have dk:decide (y.op.kind=1)=false:=dF hk
        have hst:bV out x=out++[⟨2,((x.who.toNat % 4 % 3:Nat):Int),zOp,zBk,1⟩]:=by rw[hs0,if_neg (fun h=>hk h.1)]
        have hl1:out.length+1=(out++[(⟨2,((x.who.toNat % 4 % 3:Nat):Int),zOp,zBk,1⟩:HEv)]).length:=by simp
        iterate 3 refine rS ?_
        refine rQ iF ?_;refine zJ<|kS<|ai ?_;refine rC ?_;refine rQ iM ?_;refine aG (aD (s:=38) aa rfl rfl rfl rfl rfl rfl rfl rfl) rfl ?_;refine aU (aM (enc:=bx) (s:=38) (xs:=out) aa ⟨2,((x.who.toNat % 4 % 3:Nat):Int),zOp,zBk,1⟩ rfl rfl rfl rfl rfl rfl rfl rfl rfl hal rfl) rfl ?_;refine rC<|ay<|zC<|ai ?_;refine rC ?_;refine rQ iD ?_;refine rC<|ay ?_
        exact aL (i+1,out++[⟨2,((x.who.toNat % 4 % 3:Nat):Int),zOp,zBk,1⟩]) [(64,some 64),(65,some _)] ⟨hlt,h24,by rw[hfx,hst]⟩ (by show 24-(i+1)<24-i; omega) (lg ⟨zE,rfl,⟨_,rfl,AVLe.of_eq (congrArg (fun n=>AV.own _ 0 n 38 none) hl1)⟩,rfl,zE,rfl,trivial⟩ ⟨zR,zR,trivial⟩)
      | false =>
       have heX:errX y x=e0:=by rw[errX,hbad,hlo,he0]; rfl
       rw[heX]at hs0
       refine wF<|kS<|qR ?_;refine zD ?_;refine rQ (bc aa rfl rfl rfl rfl rfl hge hlp) ?_;refine zD ?_;refine rQ (bF aa rfl rfl ⟨rfl,y,hy,_,rfl,rfl⟩ rfl) ?_;refine zD ?_
       by_cases hk:y.op.kind=1
       ·have dk:decide (y.op.kind=1)=true:=dT hk
        refine rO ?_;refine rC ?_;refine rO ?_;refine rQ iB ?_;refine rO ?_;refine rC ?_;refine rQ iT<|nS ?_
        by_cases hz:e0=0
        ·have dz:decide (e0=0)=true:=dT hz
         have hst:bV out x=out++[⟨2,((x.who.toNat % 4 % 3:Nat):Int),zOp,List.replicate 32 (blkB x.data),e0⟩]:=by rw[hs0,if_pos ⟨hk,hz⟩]
         have hl1:out.length+1=(out++[(⟨2,((x.who.toNat % 4 % 3:Nat):Int),zOp,List.replicate 32 (blkB x.data),e0⟩:HEv)]).length:=by simp
         refine wT<|ai ?_;refine rC ?_;refine rQ iB ?_;refine rQ (am (lZ x.data) rfl rfl (aj ab) (.inl rfl) (fun _=>rfl)) ?_;refine rC ?_;refine rX<|nS<|ai ?_;refine rC ?_;refine rQ iM ?_;refine aG (aD (s:=38) aa rfl rfl rfl rfl rfl rfl rfl rfl) rfl ?_;refine aU (aM (enc:=bx) (s:=38) (xs:=out) aa ⟨2,((x.who.toNat % 4 % 3:Nat):Int),zOp,List.replicate 32 (blkB x.data),e0⟩ rfl rfl rfl rfl rfl rfl rfl rfl rfl hal rfl) rfl ?_;refine rC<|ay<|zC<|ai ?_;refine rC ?_;refine rQ iD ?_;refine rC<|ay ?_
         exact aL (i+1,out++[⟨2,((x.who.toNat % 4 % 3:Nat):Int),zOp,List.replicate 32 (blkB x.data),e0⟩]) [(64,some 64),(65,some _)] ⟨hlt,h24,by rw[hfx,hst]⟩ (by show 24-(i+1)<24-i; omega) (lg ⟨zE,rfl,⟨_,rfl,AVLe.of_eq (congrArg (fun n=>AV.own _ 0 n 38 none) hl1)⟩,rfl,zE,rfl,trivial⟩ ⟨zR,zR,trivial⟩)
        ·have dz:decide (e0=0)=false:=dF hz
         have hst:bV out x=out++[⟨2,((x.who.toNat % 4 % 3:Nat):Int),zOp,zBk,e0⟩]:=by rw[hs0,if_neg (fun h=>hz h.2)]
         have hl1:out.length+1=(out++[(⟨2,((x.who.toNat % 4 % 3:Nat):Int),zOp,zBk,e0⟩:HEv)]).length:=by simp
         refine wF<|kS<|ai ?_;refine rC ?_;refine rQ iM ?_;refine aG (aD (s:=38) aa rfl rfl rfl rfl rfl rfl rfl rfl) rfl ?_;refine aU (aM (enc:=bx) (s:=38) (xs:=out) aa ⟨2,((x.who.toNat % 4 % 3:Nat):Int),zOp,zBk,e0⟩ rfl rfl rfl rfl rfl rfl rfl rfl rfl hal rfl) rfl ?_;refine rC<|ay<|zC<|ai ?_;refine rC ?_;refine rQ iD ?_;refine rC<|ay ?_
         exact aL (i+1,out++[⟨2,((x.who.toNat % 4 % 3:Nat):Int),zOp,zBk,e0⟩]) [(64,some 64),(65,some _)] ⟨hlt,h24,by rw[hfx,hst]⟩ (by show 24-(i+1)<24-i; omega) (lg ⟨zE,rfl,⟨_,rfl,AVLe.of_eq (congrArg (fun n=>AV.own _ 0 n 38 none) hl1)⟩,rfl,zE,rfl,trivial⟩ ⟨zR,zR,trivial⟩)
       ·have dk:decide (y.op.kind=1)=false:=dF hk
        have hst:bV out x=out++[⟨2,((x.who.toNat % 4 % 3:Nat):Int),zOp,zBk,e0⟩]:=by rw[hs0,if_neg (fun h=>hk h.1)]
        have hl1:out.length+1=(out++[(⟨2,((x.who.toNat % 4 % 3:Nat):Int),zOp,zBk,e0⟩:HEv)]).length:=by simp
        iterate 3 refine rS ?_
        refine rQ iF ?_;refine zJ<|kS<|ai ?_;refine rC ?_;refine rQ iM ?_;refine aG (aD (s:=38) aa rfl rfl rfl rfl rfl rfl rfl rfl) rfl ?_;refine aU (aM (enc:=bx) (s:=38) (xs:=out) aa ⟨2,((x.who.toNat % 4 % 3:Nat):Int),zOp,zBk,e0⟩ rfl rfl rfl rfl rfl rfl rfl rfl rfl hal rfl) rfl ?_;refine rC<|ay<|zC<|ai ?_;refine rC ?_;refine rQ iD ?_;refine rC<|ay ?_
        exact aL (i+1,out++[⟨2,((x.who.toNat % 4 % 3:Nat):Int),zOp,zBk,e0⟩]) [(64,some 64),(65,some _)] ⟨hlt,h24,by rw[hfx,hst]⟩ (by show 24-(i+1)<24-i; omega) (lg ⟨zE,rfl,⟨_,rfl,AVLe.of_eq (congrArg (fun n=>AV.own _ 0 n 38 none) hl1)⟩,rfl,zE,rfl,trivial⟩ ⟨zR,zR,trivial⟩)
     | false =>
      rw[if_neg (by decide)]at hb
      have heX:errX y x=e0:=by rw[errX,hbad,he0]; rfl
      rw[heX]at hs0
      iterate 3 refine rT ?_
      refine rQ iG ?_;refine zJ<|kS<|qR ?_;refine zD ?_;refine rQ (bc aa rfl rfl rfl rfl rfl hge hlp) ?_;refine zD ?_;refine rQ (bF aa rfl rfl ⟨rfl,y,hy,_,rfl,rfl⟩ rfl) ?_;refine zD ?_
      by_cases hk:y.op.kind=1
      ·have dk:decide (y.op.kind=1)=true:=dT hk
       refine rO ?_;refine rC ?_;refine rO ?_;refine rQ iB ?_;refine rO ?_;refine rC ?_;refine rQ iT<|nS ?_
       by_cases hz:e0=0
       ·have dz:decide (e0=0)=true:=dT hz
        have hst:bV out x=out++[⟨2,((x.who.toNat % 4 % 3:Nat):Int),zOp,List.replicate 32 (blkB x.data),e0⟩]:=by rw[hs0,if_pos ⟨hk,hz⟩]
        have hl1:out.length+1=(out++[(⟨2,((x.who.toNat % 4 % 3:Nat):Int),zOp,List.replicate 32 (blkB x.data),e0⟩:HEv)]).length:=by simp
        refine wT<|ai ?_;refine rC ?_;refine rQ iB ?_;refine rQ (am (lZ x.data) rfl rfl (aj ab) (.inl rfl) (fun _=>rfl)) ?_;refine rC ?_;refine rX<|nS<|ai ?_;refine rC ?_;refine rQ iM ?_;refine aG (aD (s:=38) aa rfl rfl rfl rfl rfl rfl rfl rfl) rfl ?_;refine aU (aM (enc:=bx) (s:=38) (xs:=out) aa ⟨2,((x.who.toNat % 4 % 3:Nat):Int),zOp,List.replicate 32 (blkB x.data),e0⟩ rfl rfl rfl rfl rfl rfl rfl rfl rfl hal rfl) rfl ?_;refine rC<|ay<|zC<|ai ?_;refine rC ?_;refine rQ iD ?_;refine rC<|ay ?_
        exact aL (i+1,out++[⟨2,((x.who.toNat % 4 % 3:Nat):Int),zOp,List.replicate 32 (blkB x.data),e0⟩]) [(64,some 64),(65,some _)] ⟨hlt,h24,by rw[hfx,hst]⟩ (by show 24-(i+1)<24-i; omega) (lg ⟨zE,rfl,⟨_,rfl,AVLe.of_eq (congrArg (fun n=>AV.own _ 0 n 38 none) hl1)⟩,rfl,zE,rfl,trivial⟩ ⟨zR,zR,trivial⟩)
       ·have dz:decide (e0=0)=false:=dF hz
        have hst:bV out x=out++[⟨2,((x.who.toNat % 4 % 3:Nat):Int),zOp,zBk,e0⟩]:=by rw[hs0,if_neg (fun h=>hz h.2)]
        have hl1:out.length+1=(out++[(⟨2,((x.who.toNat % 4 % 3:Nat):Int),zOp,zBk,e0⟩:HEv)]).length:=by simp
        refine wF<|kS<|ai ?_;refine rC ?_;refine rQ iM ?_;refine aG (aD (s:=38) aa rfl rfl rfl rfl rfl rfl rfl rfl) rfl ?_;refine aU (aM (enc:=bx) (s:=38) (xs:=out) aa ⟨2,((x.who.toNat % 4 % 3:Nat):Int),zOp,zBk,e0⟩ rfl rfl rfl rfl rfl rfl rfl rfl rfl hal rfl) rfl ?_;refine rC<|ay<|zC<|ai ?_;refine rC ?_;refine rQ iD ?_;refine rC<|ay ?_
        exact aL (i+1,out++[⟨2,((x.who.toNat % 4 % 3:Nat):Int),zOp,zBk,e0⟩]) [(64,some 64),(65,some _)] ⟨hlt,h24,by rw[hfx,hst]⟩ (by show 24-(i+1)<24-i; omega) (lg ⟨zE,rfl,⟨_,rfl,AVLe.of_eq (congrArg (fun n=>AV.own _ 0 n 38 none) hl1)⟩,rfl,zE,rfl,trivial⟩ ⟨zR,zR,trivial⟩)
      ·have dk:decide (y.op.kind=1)=false:=dF hk
       have hst:bV out x=out++[⟨2,((x.who.toNat % 4 % 3:Nat):Int),zOp,zBk,e0⟩]:=by rw[hs0,if_neg (fun h=>hk h.1)]
       have hl1:out.length+1=(out++[(⟨2,((x.who.toNat % 4 % 3:Nat):Int),zOp,zBk,e0⟩:HEv)]).length:=by simp
       iterate 3 refine rS ?_
       refine rQ iF ?_;refine zJ<|kS<|ai ?_;refine rC ?_;refine rQ iM ?_;refine aG (aD (s:=38) aa rfl rfl rfl rfl rfl rfl rfl rfl) rfl ?_;refine aU (aM (enc:=bx) (s:=38) (xs:=out) aa ⟨2,((x.who.toNat % 4 % 3:Nat):Int),zOp,zBk,e0⟩ rfl rfl rfl rfl rfl rfl rfl rfl rfl hal rfl) rfl ?_;refine rC<|ay<|zC<|ai ?_;refine rC ?_;refine rQ iD ?_;refine rC<|ay ?_
       exact aL (i+1,out++[⟨2,((x.who.toNat % 4 % 3:Nat):Int),zOp,zBk,e0⟩]) [(64,some 64),(65,some _)] ⟨hlt,h24,by rw[hfx,hst]⟩ (by show 24-(i+1)<24-i; omega) (lg ⟨zE,rfl,⟨_,rfl,AVLe.of_eq (congrArg (fun n=>AV.own _ 0 n 38 none) hl1)⟩,rfl,zE,rfl,trivial⟩ ⟨zR,zR,trivial⟩)
  ·have c2:decide ((i:Int)<24)=false:=dF (by omega)
   have hE:out=hOf l:=by rw[hout,hOf,show i=24 by omega]
   rw[←hE]
   refine wF<|zX<|sR ?_;refine zD<|zT ?_
   exact⟨trivial,[(64,some _)],lg zV ⟨zR,trivial⟩⟩
 ·have c1:decide ((i:Int)<(l.length:Int))=false:=dF (by omega)
  have hE:out=hOf l:=by rw[hout,hOf,List.take_of_length_le (by omega),List.take_of_length_le (by omega)]
  rw[←hE]
  iterate 2 refine rS ?_
  refine rQ iF ?_;refine zJ<|zX<|sR ?_;refine zD<|zT ?_
  exact⟨trivial,[(64,some _)],lg zV ⟨zR,trivial⟩⟩
theorem mW:∀(l:List UInt8),∃t:List UInt8,byI t=cw l
 | []=>⟨[],rfl⟩
 | [a]=>⟨[(nibV a).toUInt8],by
  have:=ei a
  simp only[byI,cw,List.map_cons,List.map_nil,Nat.toUInt8_eq,UInt8.toNat_ofNat']
  rw[Nat.mod_eq_of_lt (by omega)]⟩
 | a::b::l=>by
  obtain⟨t,ht⟩:=mW l
  have h1:=ei a
  have h2:=ei b
  refine⟨(nibV a*16+nibV b).toUInt8::t,?_⟩
  rw[cw,←ht]
  simp only[byI,List.map_cons,Nat.toUInt8_eq,UInt8.toNat_ofNat']
  rw[Nat.mod_eq_of_lt (by omega)]
theorem xw (m:Nat) (s:List UInt8) (i:Nat):∃t:List UInt8,byI t=uX m s i:=by
 obtain⟨t,ht⟩:=mW (s.take i)
 refine⟨t++List.replicate (m-(i+1)/2) 0,?_⟩
 rw[uX,←ht]
 simp[byI]
abbrev blkR (v:List UInt8) (b:Bool):AV :=.tup (.acons (.d (ff v)) (.acons (.bool b) .anil))
theorem pc (s:List UInt8) (hs:s.length≠64) (hL:s.length≤9223372036854775807):FnIs Tryz.prog 49 [.d (strD s)] [] (blkR zBk false) []:=by
 have h0:(!decide ((s.length:Int)=64))=true:=by rw[dF (by omega)]; rfl
 refine aw aa Tryz.func49 rfl rfl rfl ?_;refine sR<|rN ?_;refine rC<|zW ?_;refine rC ?_;refine rQ (eD aa rfl rfl) ?_;refine rC ?_;refine zI<|sR ?_;refine rQ iM ?_;refine rW ?_;refine rC<|zT<|aN ?_
 exact⟨trivial,_,rfl,[],lf⟩
theorem uW (s:List UInt8) (hs:s.length=2*32) (hall:∀c∈s,0≤Lib.indexByte hexD c) (t:List UInt8) (ht:byI t=cw s):FnIs Tryz.prog 49 [.d (strD s)] [] (blkR t true) []:=by
 have h0:(!decide ((s.length:Int)=64))=false:=by rw[dT (by omega)]; rfl
 refine aw aa Tryz.func49 rfl rfl rfl ?_;refine sR<|rN ?_;refine rC<|zW ?_;refine rC ?_;refine rQ (eD aa rfl rfl) ?_;refine rC ?_;refine zG<|kS<|qR ?_;refine rC ?_;refine aG (gN aa rfl rfl) rfl<|zP ?_
 refine wc_inv (fun i:Nat=>⟨[(11,.ptr 66 []),(2,.ptr 65 []),(0,.d (strD s))],[(65,some (.box 38 (.d (.vec 32 1 bt (uX 32 s i))))),(66,some (.si (mkS s) i))],72,Tryz.f49.ntmps,64⟩) (fun i=>i≤s.length) (fun i=>s.length-i) 0 [(65,some 64),(66,some 112)] (Nat.zero_le _)
  (lg zj ⟨⟨rfl,rfl,_,rfl,aY.of_eq (by rw[kJ]; rfl)⟩,zR,trivial⟩) ?_
 intro i hi
 refine bH ?_
 by_cases hlt:i<s.length
 ·obtain⟨c,hc⟩:∃c,s[i]?=some c:=⟨_,List.getElem?_eq_getElem hlt⟩
  have hib:FnIs Tryz.prog 68 [.d (strD hexD),.int .u8 c.toNat] [] (.int .i64 (Lib.indexByte hexD c)) []:=by
   have:=oN (l:=hexD) (c:=(c.toNat:Int))
   rwa [show ((c.toNat:Int)).toNat.toUInt8=c by simp]at this
  have hneg:¬Lib.indexByte hexD c<0:=by have:=hall c (List.mem_of_getElem? hc); omega
  have hd:decide (Lib.indexByte hexD c<0)=false:=dF hneg
  obtain⟨x,hx1,hx2,hx3⟩:=kK hc hs
  replace hx2:(uX 32 s i)[(((i/2:Nat):Int)).toNat]?=some (x:Int):=by rw[Int.toNat_natCast]; exact hx2
  have hn16:=ei c
  have hwi:IntKind.i64.wrap ((i/2:Nat):Int)=((i/2:Nat):Int):=aP (by omega) (by omega)
  have hw1:IntKind.u8.wrap ((x:Int)*16)=((x*16:Nat):Int):=cm (a:=x*16) (by omega)
  have hw2:IntKind.u8.wrap (Lib.indexByte hexD c)=(nibV c:Int):=by
   rw[show Lib.indexByte hexD c=(nibV c:Int) by unfold nibV; omega]
   exact cm (by omega)
  have hw3:IntKind.u8.wrap (((x*16:Nat):Int)+(nibV c:Int))=((x*16+nibV c:Nat):Int):=cm (a:=x*16+nibV c) (by omega)
  have hlow:=fW (i:=i) hc (iY (by omega))
  refine sR<|aG (fw rfl rfl (by omega)) rfl ?_;refine rC<|nQ ?_;refine wV<|kS<|zS ?_;refine zD<|nR ?_;refine zD ?_;refine rQ (ek (l:=s) (m:=i) aa rfl rfl rfl hc) ?_;refine rQ (am hib rfl rfl (aj (aj ab)) (.inl rfl) (fun _=>rfl)) ?_;refine rC<|nQ<|sR ?_;refine zD ?_;refine zG<|kS<|ai ?_;refine rC ?_;refine rQ (dq (a:=i) (b:=2) aa rfl rfl rfl (by decide) hwi) ?_;refine rC ?_;refine rQ (dq (a:=i) (b:=2) aa rfl rfl rfl (by decide) hwi) ?_;refine rQ (aC aa (fun K hk=>⟨by omega,by omega,hk⟩)) ?_;refine rQ (aV aa rfl rfl ⟨_,⟨rfl,_,hx2,rfl⟩,rfl⟩ rfl) ?_;refine rQ (kM (m:=((x*16:Nat):Int)) aa rfl rfl hw1) ?_;refine rC ?_;refine rQ (bA (m:=(nibV c:Int)) aa rfl rfl rfl hw2) ?_;refine rQ (eK (m:=((x*16+nibV c:Nat):Int)) aa rfl rfl hw3) ?_;refine rQ (aC aa (fun K hk=>⟨by omega,by omega,hk⟩)) ?_;refine aR (aA aa rfl rfl rfl ⟨_,⟨_,⟨rfl,(x:Int),((x*16+nibV c:Nat):Int),hx2,⟨rfl,rfl,rfl⟩,rfl⟩,rfl⟩,rfl⟩ rfl)<|ay<|gh ?_
  exact aL (i+1) [] hlt (by omega) (lg zj ⟨⟨rfl,rfl,_,rfl,aY.of_eq (congrArg (fun l=>Row.box 38 (.d (.vec 32 1 bt l))) hx3)⟩,⟨rfl,rfl,_,rfl,aY.of_eq (by rw[hlow]; rfl)⟩,trivial⟩)
 ·have he:i=s.length:=by omega
  subst he
  have hE:uX 32 s s.length=byI t:=by
   rw[uX,List.take_length,ht,show 32-(s.length+1)/2=0 by omega]; simp
  rw[hE]
  refine sR<|rQ (oA rfl rfl (by omega)) ?_;refine rC<|nQ ?_;refine wG<|cz<|eZ<|gq<|fj<|aK<|sR ?_;refine rQ iM ?_;refine rW ?_;refine rC<|zT ?_
  exact⟨trivial,_,rfl,[],lf⟩
theorem sy (s:List UInt8) (h:¬ ∀c∈s,0≤Lib.indexByte hexD c):∃(j:Nat) (c:UInt8),s[j]?=some c∧Lib.indexByte hexD c<0∧∀i,i<j→∀b,s[i]?=some b→0≤Lib.indexByte hexD b:=by
 induction s with
 | nil=>exact absurd (fun c hc=>by cases hc) h
 | cons a s ih =>
  by_cases ha:Lib.indexByte hexD a<0
  ·exact⟨0,a,rfl,ha,fun i hi=>absurd hi (Nat.not_lt_zero _)⟩
  ·have hs:¬ ∀c∈s,0≤Lib.indexByte hexD c:=fun hs=>h fun c hc=>by
    rcases List.mem_cons.1 hc with rfl | hc
    ·omega
    ·exact hs c hc
   obtain⟨j,c,h1,h2,h3⟩:=ih hs
   refine⟨j+1,c,by simpa using h1,h2,fun i hi b hb=>?_⟩
   cases i with
   | zero=>simp at hb; subst hb; omega
   | succ i=>exact h3 i (by omega) b (by simpa using hb)
theorem sP (s:List UInt8) (hs:s.length=2*32) (j:Nat) (cj:UInt8) (hj:s[j]?=some cj) (hcj:Lib.indexByte hexD cj<0) (hbef:∀i,i<j→∀b,s[i]?=some b→0≤Lib.indexByte hexD b) (t:List UInt8) (ht:byI t=uX 32 s j):FnIs Tryz.prog 49 [.d (strD s)] [] (blkR t false) []:=by
 have h0:(!decide ((s.length:Int)=64))=false:=by rw[dT (by omega)]; rfl
 have hjl:=(List.getElem?_eq_some_iff.1 hj).1
 refine aw aa Tryz.func49 rfl rfl rfl ?_;refine sR<|rN ?_;refine rC<|zW ?_;refine rC ?_;refine rQ (eD aa rfl rfl) ?_;refine rC ?_;refine zG<|kS<|qR ?_;refine rC ?_;refine aG (gN aa rfl rfl) rfl<|zP ?_
 refine wc_inv (fun i:Nat=>⟨[(11,.ptr 66 []),(2,.ptr 65 []),(0,.d (strD s))],[(65,some (.box 38 (.d (.vec 32 1 bt (uX 32 s i))))),(66,some (.si (mkS s) i))],72,Tryz.f49.ntmps,64⟩) (fun i=>i≤j) (fun i=>s.length-i) 0 [(65,some 64),(66,some 112)] (Nat.zero_le _)
  (lg zj ⟨⟨rfl,rfl,_,rfl,aY.of_eq (by rw[kJ]; rfl)⟩,zR,trivial⟩) ?_
 intro i hi
 refine bH ?_
 have hlt:i<s.length:=by omega
 by_cases hij:i<j
 ·obtain⟨c,hc⟩:∃c,s[i]?=some c:=⟨_,List.getElem?_eq_getElem hlt⟩
  have hib:FnIs Tryz.prog 68 [.d (strD hexD),.int .u8 c.toNat] [] (.int .i64 (Lib.indexByte hexD c)) []:=by
   have:=oN (l:=hexD) (c:=(c.toNat:Int))
   rwa [show ((c.toNat:Int)).toNat.toUInt8=c by simp]at this
  have hneg:¬Lib.indexByte hexD c<0:=by have:=hbef i hij c hc; omega
  have hd:decide (Lib.indexByte hexD c<0)=false:=dF hneg
  obtain⟨x,hx1,hx2,hx3⟩:=kK hc hs
  replace hx2:(uX 32 s i)[(((i/2:Nat):Int)).toNat]?=some (x:Int):=by rw[Int.toNat_natCast]; exact hx2
  have hn16:=ei c
  have hwi:IntKind.i64.wrap ((i/2:Nat):Int)=((i/2:Nat):Int):=aP (by omega) (by omega)
  have hw1:IntKind.u8.wrap ((x:Int)*16)=((x*16:Nat):Int):=cm (a:=x*16) (by omega)
  have hw2:IntKind.u8.wrap (Lib.indexByte hexD c)=(nibV c:Int):=by
   rw[show Lib.indexByte hexD c=(nibV c:Int) by unfold nibV; omega]
   exact cm (by omega)
  have hw3:IntKind.u8.wrap (((x*16:Nat):Int)+(nibV c:Int))=((x*16+nibV c:Nat):Int):=cm (a:=x*16+nibV c) (by omega)
  have hlow:=fW (i:=i) hc (iY (by omega))
  refine sR<|aG (fw rfl rfl (by omega)) rfl ?_;refine rC<|nQ ?_;refine wV<|kS<|zS ?_;refine zD<|nR ?_;refine zD ?_;refine rQ (ek (l:=s) (m:=i) aa rfl rfl rfl hc) ?_;refine rQ (am hib rfl rfl (aj (aj ab)) (.inl rfl) (fun _=>rfl)) ?_;refine rC<|nQ<|sR ?_;refine zD ?_;refine zG<|kS<|ai ?_;refine rC ?_;refine rQ (dq (a:=i) (b:=2) aa rfl rfl rfl (by decide) hwi) ?_;refine rC ?_;refine rQ (dq (a:=i) (b:=2) aa rfl rfl rfl (by decide) hwi) ?_;refine rQ (aC aa (fun K hk=>⟨by omega,by omega,hk⟩)) ?_;refine rQ (aV aa rfl rfl ⟨_,⟨rfl,_,hx2,rfl⟩,rfl⟩ rfl) ?_;refine rQ (kM (m:=((x*16:Nat):Int)) aa rfl rfl hw1) ?_;refine rC ?_;refine rQ (bA (m:=(nibV c:Int)) aa rfl rfl rfl hw2) ?_;refine rQ (eK (m:=((x*16+nibV c:Nat):Int)) aa rfl rfl hw3) ?_;refine rQ (aC aa (fun K hk=>⟨by omega,by omega,hk⟩)) ?_;refine aR (aA aa rfl rfl rfl ⟨_,⟨_,⟨rfl,(x:Int),((x*16+nibV c:Nat):Int),hx2,⟨rfl,rfl,rfl⟩,rfl⟩,rfl⟩,rfl⟩ rfl)<|ay<|gh ?_
  exact aL (i+1) [] hij (by omega) (lg zj ⟨⟨rfl,rfl,_,rfl,aY.of_eq (congrArg (fun l=>Row.box 38 (.d (.vec 32 1 bt l))) hx3)⟩,⟨rfl,rfl,_,rfl,aY.of_eq (by rw[hlow]; rfl)⟩,trivial⟩)
 ·have he:i=j:=by omega
  subst he
  have hc:=hj
  obtain⟨c,rfl⟩:∃c,cj=c:=⟨_,rfl⟩
  have hib:FnIs Tryz.prog 68 [.d (strD hexD),.int .u8 cj.toNat] [] (.int .i64 (Lib.indexByte hexD cj)) []:=by
   have:=oN (l:=hexD) (c:=(cj.toNat:Int))
   rwa [show ((cj.toNat:Int)).toNat.toUInt8=cj by simp]at this
  have hd:decide (Lib.indexByte hexD cj<0)=true:=dT hcj
  rw[←ht]
  refine sR<|aG (fw rfl rfl (by omega)) rfl ?_;refine rC<|nQ ?_;refine wV<|kS<|zS ?_;refine zD<|nR ?_;refine zD ?_;refine rQ (ek (l:=s) (m:=i) aa rfl rfl rfl hc) ?_;refine rQ (am hib rfl rfl (aj (aj ab)) (.inl rfl) (fun _=>rfl)) ?_;refine rC<|nQ<|sR ?_;refine zD ?_;refine zI<|sR ?_;refine rQ iM ?_;refine rW ?_;refine rC<|zT<|aN<|gB<|b8<|gB<|aN ?_
  exact⟨trivial,_,rfl,[],lf⟩
theorem qx (s:List UInt8) (h:eA s=none) (hL:s.length≤9223372036854775807):∃v:List UInt8,FnIs Tryz.prog 49 [.d (strD s)] [] (blkR v false) []:=by
 by_cases hs:s.length=64
 ·by_cases hall:∀c∈s,0≤Lib.indexByte hexD c
  ·obtain⟨t,h1,h2⟩:=fO s (by omega) hall
   rw[eA,if_pos hs,h1]at h
   cases h
  ·obtain⟨j,c,h1,h2,h3⟩:=sy s hall
   obtain⟨t,ht⟩:=xw 32 s j
   exact⟨t,sP s hs j c h1 h2 h3 t ht⟩
 ·exact⟨zBk,pc s hs hL⟩
theorem qw (s t:List UInt8) (h:eA s=some t):FnIs Tryz.prog 49 [.d (strD s)] [] (blkR t true) []:=by
 unfold eA at h
 split at h
 ·rename_i hs
  have hall:∀c∈s,0≤Lib.indexByte hexD c:=fun c hc=>by
   by_cases hn:Lib.indexByte hexD c<0
   ·rw[jv s c hc hn]at h; cases h
   ·omega
  obtain⟨t',h1,h2⟩:=fO s (by omega) hall
  rw[h1]at h
  cases h
  exact uW s hs hall _ h2
 ·cases h
def cG (h:List HEv):List UInt8:=h.flatMap fun x=>bI x++[10]
theorem py {h:List HEv} {i:Nat} {x:HEv} (hx:h[i]?=some x):cG (h.take (i+1))=cG (h.take i)++(bI x++[10]):=by
 rw[List.take_add_one,hx]; simp[cG]
theorem s5 (h:List HEv) (i:Nat):(cG (h.take i)).length≤(cG h).length:=by
 have:=congrArg (fun l=>(cG l).length) (List.take_append_drop i h)
 simp only[cG,List.flatMap_append,List.length_append]at this
 unfold cG
 omega
theorem qh (h:List HEv) (hne:h≠[]) (hL:h.length≤1000000) (hc0:(chkH h).2=0) (hok:∀x∈h,x.Ok∧x.op.data.length≤64) (hT:(cG h).length≤1048576):FnIs Tryz.prog 22 [.d (encH h)] [] (.tup (.acons (.d (strD (cG h))) (.acons (.d (i6 0)) .anil))) []:=by
 have hh:h.length≤9223372036854775807:=by omega
 have d0:(!decide ((chkH h).2=0))=false:=by rw[dT hc0]; rfl
 refine aw aa Tryz.func22 rfl rfl rfl ?_;refine sR<|zD<|zW ?_;refine rC ?_;refine rQ (am (ed h hh) rfl rfl (aj ab) (.inl rfl) (fun _=>rfl)) ?_;iterate 5 refine rC ?_
 refine nR<|zD ?_;refine zG<|kS<|sR ?_;refine rN<|zW ?_;refine rC ?_;refine rQ iE ?_;refine rC<|zP ?_
 refine wc_inv (fun i:Nat=>⟨[(19,.int .i64 i),(18,.int .i64 h.length),(17,.d (encH h)),(6,.ptr 65 [])],[(65,some (cF (Nat.beq i 0) 65 66 (cG (h.take i)).length)),(66,some (rowT (cG (h.take i))))],72,Tryz.f22.ntmps,64⟩) (fun i=>i≤h.length) (fun i=>h.length-i) 0 [(65,some _),(66,none)] (Nat.zero_le _)
  (lg zi ⟨⟨rfl,rfl,_,rfl,aY.split2⟩,⟨rfl,rfl,rfl⟩,trivial⟩) ?_
 intro i hi
 refine bH<|sR ?_;refine rC<|nQ ?_
 refine bW rfl (fun h3=>?_) (fun h3=>?_)
 ·have hlt:i<h.length:=by have:=of_decide_eq_true h3; omega
  obtain⟨x,hx⟩:∃x,h[i]?=some x:=⟨_,List.getElem?_eq_getElem hlt⟩
  have hx':h[((i:Int)).toNat]?=some x:=by rw[Int.toNat_natCast]; exact hx
  obtain⟨hokx,hdx⟩:=hok x (List.mem_of_getElem? hx)
  have hs0:0<(bI x++[10]).length:=by simp
  have hgo:=py hx
  have hle:=s5 h (i+1)
  rw[hgo,List.length_append]at hle
  have hp1:(cG (h.take i)).length+(bI x++[10]).length≤1048576:=by omega
  have hll:(bI x).length+1≤1048576:=by rw[List.length_append]at hp1; simp at hp1; omega
  have hl2:(cG (h.take i)).length+(bI x++[10]).length=(cG (h.take (i+1))).length:=by rw[hgo]; simp only[List.length_append]
  refine zQ<|zS<|rQ (aI aa rfl rfl rfl rfl rfl (by omega) hx') ?_;refine rQ iL ?_;refine rN ?_;refine rW<|nS<|ai ?_;refine rQ iM ?_;refine rQ (am (iX x hokx hdx) rfl rfl (aj ab) (.inl rfl) (fun _=>rfl)) ?_;refine rQ (aT (a:=bI x) (b:=[10]) rfl rfl (by simp; omega) rfl) ?_;refine bh rfl (bq [(0,some 65),(1,some 66)] (gj (Nat.beq i 0) (cG (h.take i)) (bI x++[10]) (cG (h.take i)).length rfl hs0 hp1) rfl rfl rfl (bj rfl rfl (aj ab)) ⟨⟨rfl,(by cases Nat.beq i 0 <;> rfl),_,_,rfl,rfl,(by cases Nat.beq i 0 <;> exact .refl _)⟩,zH,trivial⟩ rfl rfl (.inl rfl) rfl rfl) rfl rfl<|ay<|zC<|ai ?_;refine rQ iD ?_;refine rC<|ay ?_
  exact aL (i+1) [(66,some _)] hlt (by omega) (lg zi ⟨⟨rfl,rfl,_,rfl,aY.of_eq (congrArg (cF false 65 _) hl2)⟩,⟨rfl,rfl,_,rfl,aY.of_eq (congrArg rowT hgo.symm)⟩,trivial⟩)
 ·have he:i=h.length:=by have:=of_decide_eq_false h3; omega
  subst he
  have hpos:=List.length_pos_iff.2 hne
  have hnn:cG h≠[]:=fun e=>by
   obtain⟨x,l,rfl⟩:=List.exists_cons_of_ne_nil hne
   simp[cG]at e
  have hbz:Nat.beq h.length 0=false:=by
   cases hz:Nat.beq h.length 0 with
   | false=>rfl
   | true=>have:=Nat.eq_of_beq_eq_true hz; omega
  rw[hbz,List.take_length]
  refine zX<|sR<|aU (bq [(0,some 65),(1,some 66)] (fY (cG h) (cG h).length rfl hnn hT) rfl rfl rfl (bj rfl rfl ab) ⟨zH,zH,trivial⟩ rfl rfl (.inl rfl) rfl rfl) rfl ?_;refine zD<|zT ?_
  exact⟨trivial,[],lf⟩
theorem qg:FnIs Tryz.prog 22 [.d (encH [])] [] (.tup (.acons (.d (strD [])) (.acons (.d (i6 0)) .anil))) []:=by
 have hC:=ed [] (by decide)
 rw[show chkH []=(0,0) from rfl]at hC
 refine aw aa Tryz.func22 rfl rfl rfl ?_;refine sR<|zD<|zW ?_;refine rC ?_;refine rQ (am hC rfl rfl (aj ab) (.inl rfl) (fun _=>rfl)) ?_;iterate 5 refine rC ?_
 refine nR<|zD ?_;refine zJ<|kS<|sR ?_;refine rN<|zW ?_;refine rC ?_;refine rQ iE ?_;refine rC<|zP ?_;refine m7<|sR ?_;refine rC<|nQ ?_;refine wG<|zX<|sR ?_;refine aG (bq [(0,some _)] jj rfl rfl rfl (bj rfl rfl ab) ⟨zH,trivial⟩ rfl rfl (.inl rfl) rfl rfl) rfl ?_;refine zD<|zT ?_
 exact⟨trivial,[],lf⟩
theorem sq (h:List HEv) (hh:h.length≤9223372036854775807) (h0:(chkH h).2≠0):FnIs Tryz.prog 22 [.d (encH h)] [] (.tup (.acons (.d (strD [])) (.acons (.int .i64 (chkH h).2) .anil))) []:=by
 have d0:(!decide ((chkH h).2=0))=true:=by rw[dF h0]; rfl
 have hC:=ed h hh
 refine aw aa Tryz.func22 rfl rfl rfl ?_;refine sR<|zD<|zW ?_;refine rC ?_;refine rQ (am hC rfl rfl (aj ab) (.inl rfl) (fun _=>rfl)) ?_;iterate 5 refine rC ?_
 refine nR<|zD ?_;refine zI<|sR ?_;refine zU<|zT<|aN ?_
 exact⟨trivial,[],lf⟩
theorem ui (h:List HEv) (hh:h.length≤9223372036854775807) (hL:(chkH h).2=0→h.length≤1000000) (hok:(chkH h).2=0→∀x∈h,x.Ok∧x.op.data.length≤64) (hT:(chkH h).2=0→(cG h).length≤1048576):FnIs Tryz.prog 22 [.d (encH h)] [] (.tup (.acons (.d (strD (if (chkH h).2=0 then cG h else[]))) (.acons (.int .i64 (chkH h).2) .anil))) []:=by
 by_cases h0:(chkH h).2=0
 ·rw[if_pos h0,h0]
  by_cases hn:h=[]
  ·subst hn; exact qg
  ·exact qh h hn (hL h0) h0 (hok h0) (hT h0)
 ·rw[if_neg h0]
  exact sq h hh h0
abbrev evR2 (y:HEv) (b:Bool):AV :=.tup (.acons (.d (bx y)) (.acons (.bool b) .anil))
theorem fz (k c e:Int) (b:Bool):AVLe (.tup (.acons (.d (.cons (u8s k) (.cons (i6 c) (.cons zPOp (.cons (.vec 32 1 bt (List.replicate 32 0)) (.cons (i6 e) .nil)))))) (.acons (.bool b) .anil))) (evR2 ⟨k,c,zOp,zBk,e⟩ b):=AVLe.tup1 (AVLe.d (m6 k c e) rfl) rfl
theorem nC (k c e:Int) (v:List UInt8) (b:Bool):AVLe (.tup (.acons (.d (.cons (u8s k) (.cons (i6 c) (.cons zPOp (.cons (ff v) (.cons (i6 e) .nil)))))) (.acons (.bool b) .anil))) (evR2 ⟨k,c,zOp,v,e⟩ b):=by
 refine AVLe.tup1 (AVLe.d ?_ rfl) rfl
 rintro w X cs ⟨c1,r1,rfl,h1,c2,r2,rfl,h2,c3,r3,rfl,h3,h4⟩
 exact⟨c1,_,rfl,h1,c2,_,rfl,h2,c3,_,rfl,pp _ _ _ h3,h4⟩
theorem oW (s:List UInt8) (hs:s=bu):FnIs Tryz.prog 35 [.d (strD s)] [] (evR2 gw true) []:=by
 have d0:decide (s=bu)=true:=dT hs
 refine aw aa Tryz.func35 rfl rfl rfl ?_;refine sR<|rN ?_;refine rC<|zW ?_;refine rC ?_;refine rQ (bK (a:=s) (b:=bu) aa rfl rfl rfl) ?_;refine zI<|sR ?_;refine rQ iS ?_;refine rW ?_;refine rC<|zT<|aN ?_
 exact⟨trivial,_,rfl,[],lg ⟨⟨_,rfl,fz 3 0 0 true⟩,rfl,trivial⟩ trivial⟩
structure jX (s kind r1 cl rest:List UInt8) (b1 b2 ok:Bool) (n:Int):Prop where
 c1:FnIs Tryz.prog 34 [.d (strD s),.d (strD [32])] [] (.tup (.acons (.d (strD kind)) (.acons (.d (strD r1)) (.acons (.bool b1) .anil)))) []
 c2:FnIs Tryz.prog 34 [.d (strD r1),.d (strD [32])] [] (.tup (.acons (.d (strD cl)) (.acons (.d (strD rest)) (.acons (.bool b2) .anil)))) []
 a:FnIs Tryz.prog 47 [.d (strD cl)] [] (.tup (.acons (.int .i64 n) (.acons (erA ok) .anil))) []
theorem oU (s kind r1 cl rest:List UInt8) (b1 b2 ok:Bool) (n:Int) (H:jX s kind r1 cl rest b1 b2 ok n) (hs:s≠bu) (h1:kind≠bw) (h2:kind≠ba):FnIs Tryz.prog 35 [.d (strD s)] [] (evR2 ⟨0,n,zOp,zBk,0⟩ false) []:=by
 have d0:decide (s=bu)=false:=dF hs
 have d1:decide (kind=bw)=false:=dF h1
 have d2:decide (kind=ba)=false:=dF h2
 obtain⟨hc1,hc2,ha⟩:=H
 refine aw aa Tryz.func35 rfl rfl rfl ?_
 cases ok with
 | false =>
  refine sR<|rN ?_;refine rC<|zW ?_;refine rC ?_;refine rQ (bK (a:=s) (b:=bu) aa rfl rfl rfl) ?_;refine zG<|kS<|sR ?_;refine rC ?_;refine rQ (am hc1 rfl rfl (aj (aj ab)) (.inl rfl) (fun _=>rfl)) ?_;iterate 7 refine rC ?_
  refine nR<|rC ?_;refine rQ (am hc2 rfl rfl (aj (aj ab)) (.inl rfl) (fun _=>rfl)) ?_;iterate 7 refine rC ?_
  refine nR<|rC ?_;refine rQ (am ha rfl rfl (aj ab) (.inl rfl) (fun _=>rfl)) ?_;iterate 5 refine rC ?_
  refine nR<|zD ?_;refine rX<|zW ?_;refine rC<|zP<|sR ?_;refine rQ (bK (a:=kind) (b:=bw) aa rfl rfl rfl) ?_;refine rC ?_;refine zG<|sR ?_;refine rQ (bK (a:=kind) (b:=ba) aa rfl rfl rfl) ?_;refine rC ?_;refine zG<|sR ?_;refine rQ iM ?_;refine rW ?_;refine rC<|zT<|zB ?_
  exact⟨trivial,_,rfl,[],lg ⟨⟨_,rfl,fz 0 n 0 false⟩,rfl,trivial⟩ trivial⟩
 | true =>
  refine sR<|rN ?_;refine rC<|zW ?_;refine rC ?_;refine rQ (bK (a:=s) (b:=bu) aa rfl rfl rfl) ?_;refine zG<|kS<|sR ?_;refine rC ?_;refine rQ (am hc1 rfl rfl (aj (aj ab)) (.inl rfl) (fun _=>rfl)) ?_;iterate 7 refine rC ?_
  refine nR<|rC ?_;refine rQ (am hc2 rfl rfl (aj (aj ab)) (.inl rfl) (fun _=>rfl)) ?_;iterate 7 refine rC ?_
  refine nR<|rC ?_;refine rQ (am ha rfl rfl (aj ab) (.inl rfl) (fun _=>rfl)) ?_;iterate 5 refine rC ?_
  refine nR<|zD ?_;refine rX<|zW ?_;refine rC<|zP<|sR ?_;refine rQ (bK (a:=kind) (b:=bw) aa rfl rfl rfl) ?_;refine rC ?_;refine zG<|sR ?_;refine rQ (bK (a:=kind) (b:=ba) aa rfl rfl rfl) ?_;refine rC ?_;refine zG<|sR ?_;refine rQ iM ?_;refine rW ?_;refine rC<|zT<|zB ?_
  exact⟨trivial,_,rfl,[],lg ⟨⟨_,rfl,fz 0 n 0 false⟩,rfl,trivial⟩ trivial⟩
theorem nB (s kind r1 cl rest:List UInt8) (b1 b2 ok:Bool) (n:Int) (H:jX s kind r1 cl rest b1 b2 ok n) (hs:s≠bu) (h1:kind=bw) (hrl:rest.length≤1048568) (l:List (List POp)) (k:Nat) (e:Int)
  (hp:FnIs Tryz.prog 48 [.d (strD (aF++[10]++rest++[10]))] [] (parR l k e) []) (hno:¬(ok=true∧e=0∧l.length=1∧∀p,l[0]?=some p→p.length=1)):FnIs Tryz.prog 35 [.d (strD s)] [] (evR2 ⟨1,n,zOp,zBk,0⟩ false) []:=by
 have d0:decide (s=bu)=false:=dF hs
 have d1:decide (kind=bw)=true:=dT h1
 obtain⟨hc1,hc2,ha⟩:=H
 refine aw aa Tryz.func35 rfl rfl rfl ?_
 cases ok with
 | false =>
  refine sR<|rN ?_;refine rC<|zW ?_;refine rC ?_;refine rQ (bK (a:=s) (b:=bu) aa rfl rfl rfl) ?_;refine zG<|kS<|sR ?_;refine rC ?_;refine rQ (am hc1 rfl rfl (aj (aj ab)) (.inl rfl) (fun _=>rfl)) ?_;iterate 7 refine rC ?_
  refine nR<|rC ?_;refine rQ (am hc2 rfl rfl (aj (aj ab)) (.inl rfl) (fun _=>rfl)) ?_;iterate 7 refine rC ?_
  refine nR<|rC ?_;refine rQ (am ha rfl rfl (aj ab) (.inl rfl) (fun _=>rfl)) ?_;iterate 5 refine rC ?_
  refine nR<|zD ?_;refine rX<|zW ?_;refine rC<|zP<|sR ?_;refine rQ (bK (a:=kind) (b:=bw) aa rfl rfl rfl) ?_;refine rC ?_;refine zI<|sR ?_;refine rC ?_;refine rX<|nR ?_;refine rC ?_;refine rQ (aT (a:=aF++[10]) (b:=rest) rfl rfl (by simp[aF]; omega) rfl) ?_;refine rQ (aT (a:=aF++[10]++rest) (b:=[10]) rfl rfl (by simp[aF]; omega) rfl) ?_;refine rQ (am hp rfl rfl (aj ab) (.inl rfl) (fun _=>rfl)) ?_;iterate 7 refine rC ?_
  refine zW<|rC ?_;refine rQ (xa Tryz.underlying90 rfl) ?_;refine rC ?_;iterate 2 refine rT ?_
  refine rQ iU ?_;refine rC ?_;iterate 3 refine rT ?_
  refine rQ iU ?_;refine rC ?_;iterate 5 refine rT ?_
  refine rQ iU ?_;refine zO<|sR ?_;refine rQ iM ?_;refine rW ?_;refine rC<|zT<|aN<|zB ?_
  exact⟨trivial,_,rfl,[],lg ⟨⟨_,rfl,fz 1 n 0 false⟩,rfl,trivial⟩ trivial⟩
 | true =>
  by_cases he:e=0
  ·have f1:(!decide (e=0))=false:=by rw[dT he]; rfl
   by_cases hl:l.length=1
   ·have f2:(!decide ((l.length:Int)=1))=false:=by rw[dT (by omega)]; rfl
    obtain⟨p,hpl⟩:∃p,l[0]?=some p:=⟨_,List.getElem?_eq_getElem (by omega)⟩
    have hpl':l[((0:Int)).toNat]?=some p:=hpl
    have f3:(!decide ((p.length:Int)=1))=true:=by
     rw[dF]
     ·rfl
     ·intro e1
      exact hno ⟨rfl,he,hl,fun q hq=>by rw[hpl]at hq; cases hq; omega⟩
    refine sR<|rN ?_;refine rC<|zW ?_;refine rC ?_;refine rQ (bK (a:=s) (b:=bu) aa rfl rfl rfl) ?_;refine zG<|kS<|sR ?_;refine rC ?_;refine rQ (am hc1 rfl rfl (aj (aj ab)) (.inl rfl) (fun _=>rfl)) ?_;iterate 7 refine rC ?_
    refine nR<|rC ?_;refine rQ (am hc2 rfl rfl (aj (aj ab)) (.inl rfl) (fun _=>rfl)) ?_;iterate 7 refine rC ?_
    refine nR<|rC ?_;refine rQ (am ha rfl rfl (aj ab) (.inl rfl) (fun _=>rfl)) ?_;iterate 5 refine rC ?_
    refine nR<|zD ?_;refine rX<|zW ?_;refine rC<|zP<|sR ?_;refine rQ (bK (a:=kind) (b:=bw) aa rfl rfl rfl) ?_;refine rC ?_;refine zI<|sR ?_;refine rC ?_;refine rX<|nR ?_;refine rC ?_;refine rQ (aT (a:=aF++[10]) (b:=rest) rfl rfl (by simp[aF]; omega) rfl) ?_;refine rQ (aT (a:=aF++[10]++rest) (b:=[10]) rfl rfl (by simp[aF]; omega) rfl) ?_;refine rQ (am hp rfl rfl (aj ab) (.inl rfl) (fun _=>rfl)) ?_;iterate 7 refine rC ?_
    refine zW<|rC ?_;refine rQ (iI Tryz.underlying90 rfl) ?_;refine rC ?_;refine rP ?_;refine rC ?_;refine rP ?_;refine rC ?_;refine rQ iG ?_;refine rC ?_;refine rO ?_;refine rC ?_;refine rO ?_;refine rQ (ej aa rfl rfl) ?_;refine rO ?_;refine rC ?_;refine rQ iF ?_;refine rC ?_;refine rO ?_;refine rC ?_;refine rO ?_;refine rQ (bS aa rfl rfl rfl rfl rfl (by omega) (by assumption)) ?_;refine rO ?_;refine rQ iL ?_;refine rO ?_;refine rQ (ej aa rfl rfl) ?_;refine rO ?_;refine rC ?_;refine rQ iF ?_;refine zI<|sR ?_;refine rQ iM ?_;refine rW ?_;refine rC<|zT<|aN<|zB ?_
    exact⟨trivial,_,rfl,[],lg ⟨⟨_,rfl,fz 1 n 0 false⟩,rfl,trivial⟩ trivial⟩
   ·have f2:(!decide ((l.length:Int)=1))=true:=by rw[dF (by omega)]; rfl
    refine sR<|rN ?_;refine rC<|zW ?_;refine rC ?_;refine rQ (bK (a:=s) (b:=bu) aa rfl rfl rfl) ?_;refine zG<|kS<|sR ?_;refine rC ?_;refine rQ (am hc1 rfl rfl (aj (aj ab)) (.inl rfl) (fun _=>rfl)) ?_;iterate 7 refine rC ?_
    refine nR<|rC ?_;refine rQ (am hc2 rfl rfl (aj (aj ab)) (.inl rfl) (fun _=>rfl)) ?_;iterate 7 refine rC ?_
    refine nR<|rC ?_;refine rQ (am ha rfl rfl (aj ab) (.inl rfl) (fun _=>rfl)) ?_;iterate 5 refine rC ?_
    refine nR<|zD ?_;refine rX<|zW ?_;refine rC<|zP<|sR ?_;refine rQ (bK (a:=kind) (b:=bw) aa rfl rfl rfl) ?_;refine rC ?_;refine zI<|sR ?_;refine rC ?_;refine rX<|nR ?_;refine rC ?_;refine rQ (aT (a:=aF++[10]) (b:=rest) rfl rfl (by simp[aF]; omega) rfl) ?_;refine rQ (aT (a:=aF++[10]++rest) (b:=[10]) rfl rfl (by simp[aF]; omega) rfl) ?_;refine rQ (am hp rfl rfl (aj ab) (.inl rfl) (fun _=>rfl)) ?_;iterate 7 refine rC ?_
    refine zW<|rC ?_;refine rQ (iI Tryz.underlying90 rfl) ?_;refine rC ?_;refine rP ?_;refine rC ?_;refine rP ?_;refine rC ?_;refine rQ iG ?_;refine rC ?_;refine rO ?_;refine rC ?_;refine rO ?_;refine rQ (ej aa rfl rfl) ?_;refine rO ?_;refine rC ?_;refine rQ iF ?_;refine rC ?_;iterate 5 refine rS ?_
    refine rQ iT ?_;refine zO<|sR ?_;refine rQ iM ?_;refine rW ?_;refine rC<|zT<|aN<|zB ?_
    exact⟨trivial,_,rfl,[],lg ⟨⟨_,rfl,fz 1 n 0 false⟩,rfl,trivial⟩ trivial⟩
  ·have f1:(!decide (e=0))=true:=by rw[dF he]; rfl
   refine sR<|rN ?_;refine rC<|zW ?_;refine rC ?_;refine rQ (bK (a:=s) (b:=bu) aa rfl rfl rfl) ?_;refine zG<|kS<|sR ?_;refine rC ?_;refine rQ (am hc1 rfl rfl (aj (aj ab)) (.inl rfl) (fun _=>rfl)) ?_;iterate 7 refine rC ?_
   refine nR<|rC ?_;refine rQ (am hc2 rfl rfl (aj (aj ab)) (.inl rfl) (fun _=>rfl)) ?_;iterate 7 refine rC ?_
   refine nR<|rC ?_;refine rQ (am ha rfl rfl (aj ab) (.inl rfl) (fun _=>rfl)) ?_;iterate 5 refine rC ?_
   refine nR<|zD ?_;refine rX<|zW ?_;refine rC<|zP<|sR ?_;refine rQ (bK (a:=kind) (b:=bw) aa rfl rfl rfl) ?_;refine rC ?_;refine zI<|sR ?_;refine rC ?_;refine rX<|nR ?_;refine rC ?_;refine rQ (aT (a:=aF++[10]) (b:=rest) rfl rfl (by simp[aF]; omega) rfl) ?_;refine rQ (aT (a:=aF++[10]++rest) (b:=[10]) rfl rfl (by simp[aF]; omega) rfl) ?_;refine rQ (am hp rfl rfl (aj ab) (.inl rfl) (fun _=>rfl)) ?_;iterate 7 refine rC ?_
   refine zW<|rC ?_;refine rQ (iI Tryz.underlying90 rfl) ?_;refine rC ?_;refine rP ?_;refine rC ?_;refine rP ?_;refine rC ?_;refine rQ iG ?_;refine rC ?_;iterate 3 refine rS ?_
   refine rQ iT ?_;refine rC ?_;iterate 5 refine rT ?_
   refine rQ iU ?_;refine zO<|sR ?_;refine rQ iM ?_;refine rW ?_;refine rC<|zT<|aN<|zB ?_
   exact⟨trivial,_,rfl,[],lg ⟨⟨_,rfl,fz 1 n 0 false⟩,rfl,trivial⟩ trivial⟩
theorem sC (s kind r1 cl rest:List UInt8) (b1 b2:Bool) (n:Int) (H:jX s kind r1 cl rest b1 b2 true n) (hs:s≠bu) (h1:kind=bw) (hrl:rest.length≤1048568) (o:POp) (k:Nat)
  (hp:FnIs Tryz.prog 48 [.d (strD (aF++[10]++rest++[10]))] [] (parR [[o]] k 0) []) (hok:HEv.Ok ⟨1,n,o,zBk,0⟩) (hdo:o.data.length≤64) (c:Bool) (hcq:decide (bI ⟨1,n,o,zBk,0⟩=s)=c):FnIs Tryz.prog 35 [.d (strD s)] [] (evR2 ⟨1,n,o,zBk,0⟩ c) []:=by
 subst hcq
 have d0:decide (s=bu)=false:=dF hs
 have d1:decide (kind=bw)=true:=dT h1
 have f2:(!decide ((([[o]]:List (List POp)).length:Int)=1))=false:=rfl
 have f3:(!decide ((([o]:List POp).length:Int)=1))=false:=rfl
 have hpl':([[o]]:List (List POp))[((0:Int)).toNat]?=some [o]:=rfl
 have hpo':([o]:List POp)[((0:Int)).toNat]?=some o:=rfl
 obtain⟨hc1,hc2,ha⟩:=H
 refine aw aa Tryz.func35 rfl rfl rfl ?_;refine sR<|rN ?_;refine rC<|zW ?_;refine rC ?_;refine rQ (bK (a:=s) (b:=bu) aa rfl rfl rfl) ?_;refine zG<|kS<|sR ?_;refine rC ?_;refine rQ (am hc1 rfl rfl (aj (aj ab)) (.inl rfl) (fun _=>rfl)) ?_;iterate 7 refine rC ?_
 refine nR<|rC ?_;refine rQ (am hc2 rfl rfl (aj (aj ab)) (.inl rfl) (fun _=>rfl)) ?_;iterate 7 refine rC ?_
 refine nR<|rC ?_;refine rQ (am ha rfl rfl (aj ab) (.inl rfl) (fun _=>rfl)) ?_;iterate 5 refine rC ?_
 refine nR<|zD ?_;refine rX<|zW ?_;refine rC<|zP<|sR ?_;refine rQ (bK (a:=kind) (b:=bw) aa rfl rfl rfl) ?_;refine rC ?_;refine zI<|sR ?_;refine rC ?_;refine rX<|nR ?_;refine rC ?_;refine rQ (aT (a:=aF++[10]) (b:=rest) rfl rfl (by simp[aF]; omega) rfl) ?_;refine rQ (aT (a:=aF++[10]++rest) (b:=[10]) rfl rfl (by simp[aF]; omega) rfl) ?_;refine rQ (am hp rfl rfl (aj ab) (.inl rfl) (fun _=>rfl)) ?_;iterate 7 refine rC ?_
 refine zW<|rC ?_;refine rQ (iI Tryz.underlying90 rfl) ?_;refine rC ?_;refine rP ?_;refine rC ?_;refine rP ?_;refine rC ?_;refine rQ iG ?_;refine rC ?_;refine rP ?_;refine rC ?_;refine rP ?_;refine rQ (ej aa rfl rfl) ?_;refine rP ?_;refine rC ?_;refine rQ iG ?_;refine rC ?_;refine rP ?_;refine rC ?_;refine rP ?_;refine rQ (bS aa rfl rfl rfl rfl rfl (by omega) (by assumption)) ?_;refine rP ?_;refine rQ iL ?_;refine rP ?_;refine rQ (ej aa rfl rfl) ?_;refine rP ?_;refine rC ?_;refine rQ iG ?_;refine zJ<|kS<|ai ?_;refine rC ?_;refine rQ (bS aa rfl rfl rfl rfl rfl (by omega) (by assumption)) ?_;refine rQ iL ?_;refine rQ (bS aa rfl rfl rfl rfl rfl (by omega) (by assumption)) ?_;refine rQ iL ?_;refine rC ?_;refine rX<|ay<|gh<|aK<|bD ?_;refine aH (by kernel_rfl) ?_;refine dQ [2] [64] iM ?_;refine dC [10] [] ?_;refine dQ [114] [] (fA Tryz.underlying90 rfl) ?_;refine dC [115] [] ?_;refine ak [116,2] [64] rfl rfl rfl rfl (aV aa rfl rfl rfl rfl) ?_;refine ak [116,117] [] rfl rfl rfl rfl (am (iX ⟨1,n,o,zBk,0⟩ hok hdo) rfl rfl (aj ab) (.inl rfl) (fun _=>rfl)) ?_;refine ak [116,0] [] rfl rfl rfl rfl (aC aa (fun K hk=>hk)) ?_;refine ak [116,118,119] [] rfl rfl rfl rfl (bK (a:=bI ⟨1,n,o,zBk,0⟩) (b:=s) aa rfl rfl rfl) ?_;refine dQ [116,120] [] iU ?_;refine bp [2,113] [64] (aA aa rfl rfl rfl ⟨_,⟨rfl,rfl,rfl⟩,rfl⟩ rfl) ?_;refine dC [121] [] ?_;refine aB (by kernel_rfl)<|aK<|bO ?_
 exact⟨trivial,_,rfl,[],lf⟩
end Go.Proofs.YtjfkhlamjdbfkaaGreatDoor
namespace Go.Proofs.YtjfkhlamjdbfkaaGreatDoor
open Go.Eng Go.Plain
set_option maxHeartbeats 32000000
set_option maxRecDepth 20000
set_option linter.unusedVariables false
attribute [local irreducible] WC RegS RegD SeqQ BlkQ ScoQ RegK CutK Sat SatN FnIs LoopQ aq OpIs
theorem nO {i:Nat} {k:Int} {v:AV} (h:b6[i]?=some (k,v)):∃w,v=.d (strD w)∧i<4∧dm w=some k∧w=iv k:=by
 unfold b6 at h
 match i,h with
 | 0,h=>cases h; exact⟨_,rfl,by decide,by decide,rfl⟩
 | 1,h=>cases h; exact⟨_,rfl,by decide,by decide,rfl⟩
 | 2,h=>cases h; exact⟨_,rfl,by decide,by decide,rfl⟩
 | 3,h=>cases h; exact⟨_,rfl,by decide,by decide,rfl⟩
 | i+4,h=>simp at h
theorem rv {w:List UInt8} {k:Int} (h:dm w=some k):∃i,i<4∧b6[i]?=some (k,.d (strD w)):=by
 obtain⟨h1,h2⟩:=fS h
 rw[h2]
 rcases fe h1 with rfl | rfl | rfl | rfl
 ·exact⟨0,by decide,rfl⟩
 ·exact⟨1,by decide,rfl⟩
 ·exact⟨2,by decide,rfl⟩
 ·exact⟨3,by decide,rfl⟩
theorem sS:zOp.Ok:=⟨by decide,by decide⟩
theorem vj (k c e:Int) (v:List UInt8):DLe (.cons (u8s k) (.cons (i6 c) (.cons zPOp (.cons (ff v) (.cons (i6 e) .nil))))) (bx ⟨k,c,zOp,v,e⟩):=by
 rintro w X cs ⟨c1,r1,rfl,h1,c2,r2,rfl,h2,c3,r3,rfl,h3,h4⟩
 exact⟨c1,_,rfl,h1,c2,_,rfl,h2,c3,_,rfl,pp _ _ _ h3,h4⟩
theorem nN (k c e:Int) (v:List UInt8):di [.d (.cons (u8s k) (.cons (i6 c) (.cons zPOp (.cons (ff v) (.cons (i6 e) .nil)))))] [.d (bx ⟨k,c,zOp,v,e⟩)]:=⟨⟨AVLe.d (vj k c e v) rfl,fun _ _=>trivial⟩,trivial⟩
def oK (seen:List Nat):Nat:=(if 0∈seen then 0 else 1)+(if 1∈seen then 0 else 1)+(if 2∈seen then 0 else 1)+(if 3∈seen then 0 else 1)
theorem kO {seen:List Nat} {i:Nat} (hi:i<4) (hs:i ∉ seen):oK (seen++[i])<oK seen:=by
 unfold oK
 simp only[List.mem_append,List.mem_singleton]
 match i,hi,hs with
 | 0,_,hs=>simp only[hs,if_false,or_true,if_true]; simp
 | 1,_,hs=>simp only[hs,if_false,or_true,if_true]; simp
 | 2,_,hs=>simp only[hs,if_false,or_true,if_true]; simp
 | 3,_,hs=>simp only[hs,if_false,or_true,if_true]; simp
structure fG (word:List UInt8) (seen:List Nat) (f:Option Int):Prop where
 no:f=none→∀i∈seen,∀k,b6[i]?≠some (k,.d (strD word))
 yes:∀k,f=some k→dm word=some k
theorem fG.all {word:List UInt8} {seen:List Nat} {f:Option Int} (h:fG word seen f) (ha:∀i,i<4→i∈seen):f=dm word:=by
 cases f with
 | some k=>exact (h.yes k rfl).symm
 | none =>
  cases hk:dm word with
  | none=>rfl
  | some k =>
   obtain⟨i,hi,hg⟩:=rv hk
   exact absurd hg (h.no rfl i (ha i hi) k)
theorem s8 {a b:List UInt8} (h:strD a=strD b):a=b:=by
 simp only[strD,mkS,D.sc.injEq,Value.string.injEq,ByteArray.mk.injEq]at h
 simpa using h
theorem fG.hit {word:List UInt8} {seen:List Nat} {f:Option Int} {i:Nat} {k:Int} (h:b6[i]?=some (k,.d (strD word))) (hk:dm word=some k):fG word (seen++[i]) (some k):=
 ⟨fun e=>(by cases e),fun k' e=>by cases e; exact hk⟩
theorem fG.miss {word w:List UInt8} {seen:List Nat} {f:Option Int} {i:Nat} {k:Int} (H:fG word seen f) (h:b6[i]?=some (k,.d (strD w))) (hne:w≠word):fG word (seen++[i]) f:=by
 refine⟨fun e j hj k' hg=>?_,H.yes⟩
 rcases List.mem_append.1 hj with hj | hj
 ·exact H.no e j hj k' hg
 ·have:j=i:=by simpa using hj
  subst this
  rw[h]at hg
  simp only[Option.some.injEq,Prod.mk.injEq,AV.d.injEq]at hg
  exact hne (s8 hg.2)
def retV (more:Bool) (vb:List UInt8):List UInt8:=if more=true then vb else zBk
def kh (s:List UInt8) (n:Int) (ok more bb:Bool) (vb:List UInt8):Option Int→HEv×Bool
 | none=>(⟨2,n,zOp,zBk,0⟩,false)
 | some k=>(⟨2,n,zOp,retV more vb,k⟩,(if more=true then bb else true)&&(ok&&decide (bI ⟨2,n,zOp,retV more vb,k⟩=s)))
def kInt (f:Option Int):Int:=f.getD 0
abbrev wK (n:Int) (f:Option Int):Row :=.box 48 (.d (.cons (u8s 2) (.cons (i6 n) (.cons zPOp (.cons (.vec 32 1 bt (List.replicate 32 0)) (.cons (i6 (kInt f)) .nil))))))
theorem kG (s kind r1 cl rest word value:List UInt8) (b1 b2 more bb:Bool) (n:Int) (vb:List UInt8) (H:jX s kind r1 cl rest b1 b2 false n) (hs:s≠bu) (h1:kind=ba)
  (hc3:FnIs Tryz.prog 34 [.d (strD rest),.d (strD [32])] [] (.tup (.acons (.d (strD word)) (.acons (.d (strD value)) (.acons (.bool more) .anil)))) []) (hb:FnIs Tryz.prog 49 [.d (strD value)] [] (blkR vb bb) []) (hbl:bb=true→vb.length=32) :
  FnIs Tryz.prog 35 [.d (strD s)] [] (evR2 (kh s n false more bb vb (dm word)).1 (kh s n false more bb vb (dm word)).2) []:=by
 have d0:decide (s=bu)=false:=dF hs
 have d1:decide (kind=bw)=false:=dF (by rw[h1]; decide)
 have d2:decide (kind=ba)=true:=dT h1
 obtain⟨hc1,hc2,ha⟩:=H
 refine aw aa Tryz.func35 rfl rfl rfl ?_;refine sR<|rN ?_;refine rC<|zW ?_;refine rC ?_;refine rQ (bK (a:=s) (b:=bu) aa rfl rfl rfl) ?_;refine zG<|kS<|sR ?_;refine rC ?_;refine rQ (am hc1 rfl rfl (aj (aj ab)) (.inl rfl) (fun _=>rfl)) ?_;iterate 7 refine rC ?_
 refine nR<|rC ?_;refine rQ (am hc2 rfl rfl (aj (aj ab)) (.inl rfl) (fun _=>rfl)) ?_;iterate 7 refine rC ?_
 refine nR<|rC ?_;refine rQ (am ha rfl rfl (aj ab) (.inl rfl) (fun _=>rfl)) ?_;iterate 5 refine rC ?_
 refine nR<|zD ?_;refine rX<|zW ?_;refine rC<|zP<|sR ?_;refine rQ (bK (a:=kind) (b:=bw) aa rfl rfl rfl) ?_;refine rC ?_;refine zG<|sR ?_;refine rQ (bK (a:=kind) (b:=ba) aa rfl rfl rfl) ?_;refine rC ?_;refine zI<|sR ?_;refine rC ?_;refine rX<|nR ?_;refine rC ?_;refine rQ (am hc3 rfl rfl (aj (aj ab)) (.inl rfl) (fun _=>rfl)) ?_;iterate 7 refine rC ?_
 refine zW<|aG (bq [] kX rfl rfl rfl ab trivial rfl rfl (.inl rfl) rfl rfl) rfl ?_;refine aG (mx (κ:=Int) (enc:=i6) (l:=b6) Tryz.underlying107 rfl rfl) rfl<|zP ?_
 refine wc_inv (fun q:List Nat×Option Int=>⟨[(89,.ptr 67 []),(14,.d (strD word)),(15,.d (strD value)),(16,.bool more),(10,erA false),(0,.d (strD s)),(2,.ptr 65 []),(3,.bool q.2.isSome)],[(65,some (wK n q.2)),(66,some (.mo (mapC i6 b6))),(67,some (.mi (.mapr 66) 4 4 q.1))],72,Tryz.f35.ntmps,64⟩) (fun q=>fG word q.1 q.2) (fun q=>oK q.1) ([],none) [(65,some 64),(66,some 448),(67,some 456)] ⟨fun _ i hi=>(by cases hi),fun k e=>(by cases e)⟩
  (lg ze ⟨zR,zR,zR,trivial⟩) ?_
 rintro⟨seen,f⟩ hf
 simp only at hf
 refine bH<|sR ?_
 refine iC (κ:=Int) (enc:=i6) (l:=b6) rfl rfl rfl rfl rfl (fun hall=>?_) (fun i k v hl hs'=>?_)
 ·have hfe:=hf.all hall
  subst hfe
  refine rC<|nQ ?_;refine wG<|zX<|qR ?_;refine zD ?_
  cases hk:dm word with
  | none =>
   skip
   cases more with
   | false =>
    refine rT ?_;refine rQ iG ?_;refine zJ<|kS<|sR ?_;refine zD ?_;refine zO<|sR ?_;refine rQ iM ?_;refine rW ?_;refine rC<|zT<|zB ?_
    exact⟨trivial,_,rfl,[],lg ⟨⟨_,rfl,fz 2 n 0 false⟩,rfl,trivial⟩ trivial⟩
   | true =>
    refine rP ?_;refine rC ?_;refine rQ iU ?_;refine zJ<|kS<|sR ?_;refine zD ?_;refine zO<|sR ?_;refine rQ iM ?_;refine rW ?_;refine rC<|zT<|zB ?_
    exact⟨trivial,_,rfl,[],lg ⟨⟨_,rfl,fz 2 n 0 false⟩,rfl,trivial⟩ trivial⟩
  | some k =>
   have hkn:=(fS hk).1
   have hkr:=fe hkn
   skip
   cases more with
   | false =>
    obtain⟨v,hv⟩:∃v,v=zBk:=⟨_,rfl⟩
    subst hv
    refine rT ?_;refine rQ iG ?_;refine zJ<|kS<|sR ?_;refine zD ?_;refine zJ<|aS<|zC<|bD ?_;refine aH (by kernel_rfl) ?_;refine dQ [2] [65] iM ?_;refine dC [10] [] ?_;refine dQ [114] [] (lT Tryz.underlying90 rfl) ?_;refine dC [115] [] ?_;refine ae [116,2] rfl rfl rfl rfl ?_;refine ae [116,117] rfl rfl rfl rfl ?_;refine ae [116,0] rfl rfl rfl rfl ?_;refine ae [116,118,119] rfl rfl rfl rfl ?_;refine dQ [116,120] [] iG ?_;refine bp [2,113] [65] (aA aa rfl rfl rfl ⟨_,⟨rfl,rfl,rfl⟩,rfl⟩ rfl) ?_;refine dC [121] [] ?_;refine aB (by kernel_rfl)<|aK<|bO ?_
    exact⟨trivial,_,rfl,[],lg ⟨⟨_,rfl,fz 2 n k _⟩,rfl,trivial⟩ trivial⟩
   | true =>
    refine rP ?_;refine rC ?_;refine rQ iU ?_;refine zO<|ai ?_;refine rC ?_;refine rQ (am hb rfl rfl (aj ab) (.inl rfl) (fun _=>rfl)) ?_
    iterate 4 refine rC ?_
    refine rX ?_;refine rC<|nR ?_;refine zD<|nS ?_
    cases bb with
    | false =>
     refine wV<|sR ?_;refine rQ iM ?_;refine rW ?_;refine rC<|zT<|zB ?_
     exact⟨trivial,_,rfl,[],lg ⟨⟨_,rfl,nC 2 n k vb _⟩,rfl,trivial⟩ trivial⟩
    | true =>
     obtain⟨v,hv⟩:∃v,v=vb:=⟨_,rfl⟩
     subst hv
     refine wG<|aS<|zC<|bD ?_;refine aH (by kernel_rfl) ?_;refine dQ [2] [65] iM ?_;refine dC [10] [] ?_;refine dQ [114] [] (lT Tryz.underlying90 rfl) ?_;refine dC [115] [] ?_;refine ae [116,2] rfl rfl rfl rfl ?_;refine ae [116,117] rfl rfl rfl rfl ?_;refine ae [116,0] rfl rfl rfl rfl ?_;refine ae [116,118,119] rfl rfl rfl rfl ?_;refine dQ [116,120] [] iG ?_;refine bp [2,113] [65] (aA aa rfl rfl rfl ⟨_,⟨rfl,rfl,rfl⟩,rfl⟩ rfl) ?_;refine dC [121] [] ?_;refine aB (by kernel_rfl)<|aK<|bO ?_
     exact⟨trivial,_,rfl,[],lg ⟨⟨_,rfl,nC 2 n k v _⟩,rfl,trivial⟩ trivial⟩
 ·obtain⟨w,rfl,hi4,hkw,_⟩:=nO hl
  refine rC<|nQ ?_;refine wV<|kS<|zS ?_;refine rQ (mL (κ:=Int) (enc:=i6) (l:=b6) (i:=i) rfl rfl rfl rfl hl) ?_
  iterate 4 refine rC ?_
  refine nR<|zD ?_;refine rQ (bK (a:=w) (b:=word) aa rfl rfl rfl)<|nS ?_
  by_cases hw:w=word
  ·have dw:decide (w=word)=true:=dT hw
   refine wT<|ai ?_;refine zD ?_;refine rX ?_;refine rC<|ay<|gh ?_
   subst hw
   exact aL (seen++[i],some k) [] (fG.hit (f:=f) hl hkw) (kO hi4 hs') (lg ze ⟨zR,zR,zR,trivial⟩)
  ·have dw:decide (w=word)=false:=dF hw
   refine wF<|aS<|gh ?_
   exact aL (seen++[i],f) [] (fG.miss hf hl hw) (kO hi4 hs') (lg ze ⟨zR,zR,zR,trivial⟩)
theorem lQ (s kind r1 cl rest word value:List UInt8) (b1 b2 more bb:Bool) (n:Int) (vb:List UInt8) (H:jX s kind r1 cl rest b1 b2 true n) (hs:s≠bu) (h1:kind=ba)
  (hc3:FnIs Tryz.prog 34 [.d (strD rest),.d (strD [32])] [] (.tup (.acons (.d (strD word)) (.acons (.d (strD value)) (.acons (.bool more) .anil)))) []) (hb:FnIs Tryz.prog 49 [.d (strD value)] [] (blkR vb bb) []) (hbl:bb=true→vb.length=32) (hn0 : -9223372036854775808≤n) (hn1:n≤9223372036854775807) :
  FnIs Tryz.prog 35 [.d (strD s)] [] (evR2 (kh s n true more bb vb (dm word)).1 (kh s n true more bb vb (dm word)).2) []:=by
 have d0:decide (s=bu)=false:=dF hs
 have d1:decide (kind=bw)=false:=dF (by rw[h1]; decide)
 have d2:decide (kind=ba)=true:=dT h1
 obtain⟨hc1,hc2,ha⟩:=H
 refine aw aa Tryz.func35 rfl rfl rfl ?_;refine sR<|rN ?_;refine rC<|zW ?_;refine rC ?_;refine rQ (bK (a:=s) (b:=bu) aa rfl rfl rfl) ?_;refine zG<|kS<|sR ?_;refine rC ?_;refine rQ (am hc1 rfl rfl (aj (aj ab)) (.inl rfl) (fun _=>rfl)) ?_;iterate 7 refine rC ?_
 refine nR<|rC ?_;refine rQ (am hc2 rfl rfl (aj (aj ab)) (.inl rfl) (fun _=>rfl)) ?_;iterate 7 refine rC ?_
 refine nR<|rC ?_;refine rQ (am ha rfl rfl (aj ab) (.inl rfl) (fun _=>rfl)) ?_;iterate 5 refine rC ?_
 refine nR<|zD ?_;refine rX<|zW ?_;refine rC<|zP<|sR ?_;refine rQ (bK (a:=kind) (b:=bw) aa rfl rfl rfl) ?_;refine rC ?_;refine zG<|sR ?_;refine rQ (bK (a:=kind) (b:=ba) aa rfl rfl rfl) ?_;refine rC ?_;refine zI<|sR ?_;refine rC ?_;refine rX<|nR ?_;refine rC ?_;refine rQ (am hc3 rfl rfl (aj (aj ab)) (.inl rfl) (fun _=>rfl)) ?_;iterate 7 refine rC ?_
 refine zW<|aG (bq [] kX rfl rfl rfl ab trivial rfl rfl (.inl rfl) rfl rfl) rfl ?_;refine aG (mx (κ:=Int) (enc:=i6) (l:=b6) Tryz.underlying107 rfl rfl) rfl<|zP ?_
 refine wc_inv (fun q:List Nat×Option Int=>⟨[(89,.ptr 67 []),(14,.d (strD word)),(15,.d (strD value)),(16,.bool more),(10,erA true),(0,.d (strD s)),(2,.ptr 65 []),(3,.bool q.2.isSome)],[(65,some (wK n q.2)),(66,some (.mo (mapC i6 b6))),(67,some (.mi (.mapr 66) 4 4 q.1))],72,Tryz.f35.ntmps,64⟩) (fun q=>fG word q.1 q.2) (fun q=>oK q.1) ([],none) [(65,some 64),(66,some 448),(67,some 456)] ⟨fun _ i hi=>(by cases hi),fun k e=>(by cases e)⟩
  (lg ze ⟨zR,zR,zR,trivial⟩) ?_
 rintro⟨seen,f⟩ hf
 simp only at hf
 refine bH<|sR ?_
 refine iC (κ:=Int) (enc:=i6) (l:=b6) rfl rfl rfl rfl rfl (fun hall=>?_) (fun i k v hl hs'=>?_)
 ·have hfe:=hf.all hall
  subst hfe
  refine rC<|nQ ?_;refine wG<|zX<|qR ?_;refine zD ?_
  cases hk:dm word with
  | none =>
   skip
   cases more with
   | false =>
    refine rT ?_;refine rQ iG ?_;refine zJ<|kS<|sR ?_;refine zD ?_;refine zO<|sR ?_;refine rQ iM ?_;refine rW ?_;refine rC<|zT<|zB ?_
    exact⟨trivial,_,rfl,[],lg ⟨⟨_,rfl,fz 2 n 0 false⟩,rfl,trivial⟩ trivial⟩
   | true =>
    refine rP ?_;refine rC ?_;refine rQ iU ?_;refine zJ<|kS<|sR ?_;refine zD ?_;refine zO<|sR ?_;refine rQ iM ?_;refine rW ?_;refine rC<|zT<|zB ?_
    exact⟨trivial,_,rfl,[],lg ⟨⟨_,rfl,fz 2 n 0 false⟩,rfl,trivial⟩ trivial⟩
  | some k =>
   have hkn:=(fS hk).1
   have hkr:=fe hkn
   skip
   cases more with
   | false =>
    obtain⟨v,hv⟩:∃v,v=zBk:=⟨_,rfl⟩
    have hok:HEv.Ok ⟨2,n,zOp,v,k⟩:=⟨show (0:Int)≤2∧(2:Int)≤255 by decide,⟨hn0,hn1⟩,sS,by rw[hv]; rfl,by rcases hkr with h | h | h | h <;> (simp only[h]; decide)⟩
    have hline:=FnIs.args_le (nN 2 n k v) (iX ⟨2,n,zOp,v,k⟩ hok (show zOp.data.length≤64 by decide))
    rw[show kh s n true false bb vb (some k)=(⟨2,n,zOp,v,k⟩,decide (bI ⟨2,n,zOp,v,k⟩=s)) by rw[hv]; rfl]
    subst hv
    refine rT ?_;refine rQ iG ?_;refine zJ<|kS<|sR ?_;refine zD ?_;refine zJ<|aS<|zC<|bD ?_;refine aH (by kernel_rfl) ?_;refine dQ [2] [65] iM ?_;refine dC [10] [] ?_;refine dQ [114] [] (fA Tryz.underlying90 rfl) ?_;refine dC [115] [] ?_;refine ak [116,2] [65] rfl rfl rfl rfl (aV aa rfl rfl rfl rfl) ?_;refine ak [116,117] [] rfl rfl rfl rfl (am hline rfl rfl (aj ab) (.inl rfl) (fun _=>rfl)) ?_;refine ak [116,0] [] rfl rfl rfl rfl (aC aa (fun K hk=>hk)) ?_;refine ak [116,118,119] [] rfl rfl rfl rfl (bK (a:=bI ⟨2,n,zOp,zBk,k⟩) (b:=s) aa rfl rfl rfl) ?_;refine dQ [116,120] [] iU ?_;refine bp [2,113] [65] (aA aa rfl rfl rfl ⟨_,⟨rfl,rfl,rfl⟩,rfl⟩ rfl) ?_;refine dC [121] [] ?_;refine aB (by kernel_rfl)<|aK<|bO ?_
    exact⟨trivial,_,rfl,[],lg ⟨⟨_,rfl,fz 2 n k _⟩,rfl,trivial⟩ trivial⟩
   | true =>
    refine rP ?_;refine rC ?_;refine rQ iU ?_;refine zO<|ai ?_;refine rC ?_;refine rQ (am hb rfl rfl (aj ab) (.inl rfl) (fun _=>rfl)) ?_
    iterate 4 refine rC ?_
    refine rX ?_;refine rC<|nR ?_;refine zD<|nS ?_
    cases bb with
    | false =>
     refine wV<|sR ?_;refine rQ iM ?_;refine rW ?_;refine rC<|zT<|zB ?_
     exact⟨trivial,_,rfl,[],lg ⟨⟨_,rfl,nC 2 n k vb _⟩,rfl,trivial⟩ trivial⟩
    | true =>
     obtain⟨v,hv⟩:∃v,v=vb:=⟨_,rfl⟩
     subst hv
     have hok:HEv.Ok ⟨2,n,zOp,v,k⟩:=⟨show (0:Int)≤2∧(2:Int)≤255 by decide,⟨hn0,hn1⟩,sS,hbl rfl,by rcases hkr with h | h | h | h <;> (simp only[h]; decide)⟩
     have hline:=FnIs.args_le (nN 2 n k v) (iX ⟨2,n,zOp,v,k⟩ hok (show zOp.data.length≤64 by decide))
     refine wG<|aS<|zC<|bD ?_;refine aH (by kernel_rfl) ?_;refine dQ [2] [65] iM ?_;refine dC [10] [] ?_;refine dQ [114] [] (fA Tryz.underlying90 rfl) ?_;refine dC [115] [] ?_;refine ak [116,2] [65] rfl rfl rfl rfl (aV aa rfl rfl rfl rfl) ?_;refine ak [116,117] [] rfl rfl rfl rfl (am hline rfl rfl (aj ab) (.inl rfl) (fun _=>rfl)) ?_;refine ak [116,0] [] rfl rfl rfl rfl (aC aa (fun K hk=>hk)) ?_;refine ak [116,118,119] [] rfl rfl rfl rfl (bK (a:=bI ⟨2,n,zOp,v,k⟩) (b:=s) aa rfl rfl rfl) ?_;refine dQ [116,120] [] iU ?_;refine bp [2,113] [65] (aA aa rfl rfl rfl ⟨_,⟨rfl,rfl,rfl⟩,rfl⟩ rfl) ?_;refine dC [121] [] ?_;refine aB (by kernel_rfl)<|aK<|bO ?_
     exact⟨trivial,_,rfl,[],lg ⟨⟨_,rfl,nC 2 n k v _⟩,rfl,trivial⟩ trivial⟩
 ·obtain⟨w,rfl,hi4,hkw,_⟩:=nO hl
  refine rC<|nQ ?_;refine wV<|kS<|zS ?_;refine rQ (mL (κ:=Int) (enc:=i6) (l:=b6) (i:=i) rfl rfl rfl rfl hl) ?_
  iterate 4 refine rC ?_
  refine nR<|zD ?_;refine rQ (bK (a:=w) (b:=word) aa rfl rfl rfl)<|nS ?_
  by_cases hw:w=word
  ·have dw:decide (w=word)=true:=dT hw
   refine wT<|ai ?_;refine zD ?_;refine rX ?_;refine rC<|ay<|gh ?_
   subst hw
   exact aL (seen++[i],some k) [] (fG.hit (f:=f) hl hkw) (kO hi4 hs') (lg ze ⟨zR,zR,zR,trivial⟩)
  ·have dw:decide (w=word)=false:=dF hw
   refine wF<|aS<|gh ?_
   exact aL (seen++[i],f) [] (fG.miss hf hl hw) (kO hi4 hs') (lg ze ⟨zR,zR,zR,trivial⟩)
end Go.Proofs.YtjfkhlamjdbfkaaGreatDoor
namespace Go.Proofs.YtjfkhlamjdbfkaaGreatDoor
open Go.Eng Go.Plain
set_option maxHeartbeats 32000000
set_option maxRecDepth 20000
set_option linter.unusedVariables false
set_option linter.unusedSimpArgs false
attribute [local irreducible] WC RegS RegD SeqQ BlkQ ScoQ RegK CutK Sat SatN FnIs LoopQ aq OpIs
def wH:List (List UInt8)→List UInt8
 | []=>[]
 | [w]=>w
 | w::v::ws=>w++32::wH (v::ws)
def j32 (w:List UInt8):List UInt8:=w++[32]
def joinP (ws:List (List UInt8)) (k:Nat):List UInt8:=if k<ws.length then (ws.take k).flatMap j32 else wH ws
abbrev rdR (y:HEv) (b:Bool):AV :=.tup (.acons (.d (bx y)) (.acons (.int .i64 (if b then 1 else 0)) .anil))
def zw:List Int:=[0,1,8,9]
def keyUp (c:List UInt8) (i:Nat):Int:=(zw.take i).foldl (fun a e=>if wE e=c then e else a) 0
def cpL (l:List Int) (i:Nat):List Int:=l.take i++List.replicate (32-i) 0
abbrev rvBox (n e:Int) (v:List Int):Row :=.box 48 (.d (.cons (u8s 2) (.cons (i6 n) (.cons zPOp (.cons (.vec 32 1 bt v) (.cons (i6 e) .nil))))))
end Go.Proofs.YtjfkhlamjdbfkaaGreatDoor
namespace Go.Proofs.YtjfkhlamjdbfkaaGreatDoor
open Go.Eng Go.Plain
set_option maxHeartbeats 32000000
set_option maxRecDepth 20000
end Go.Proofs.YtjfkhlamjdbfkaaGreatDoor
namespace Go.Proofs.YtjfkhlamjdbfkaaGreatDoor
open Go.Eng Go.Plain
set_option maxHeartbeats 32000000
set_option maxRecDepth 20000
set_option linter.unusedVariables false
theorem lW (l:List UInt8) (c:UInt8):(cutA l c).1.length≤l.length∧(cutA l c).2.1.length≤l.length∧((cutA l c).2.1=[]∨(cutA l c).1.length+1+(cutA l c).2.1.length=l.length):=by
 unfold cutA
 cases h:cutL l c with
 | none=>exact⟨Nat.le_refl _,Nat.zero_le _,.inl rfl⟩
 | some pq =>
  obtain⟨p,q⟩:=pq
  have:=(ct h).1
  have hl:l.length=p.length+1+q.length:=by rw[this]; simp; omega
  exact⟨by simp only; omega,by simp only; omega,.inr (by simp only; omega)⟩
theorem oS {s:List UInt8} {x:HEv}:finE s false x=none:=by rw[finE,if_neg (fun h=>by cases h.1)]
theorem uw {s:List UInt8} {x:HEv}:finE s true x=if bI x=s then some x else none:=by
 unfold finE
 by_cases h:bI x=s
 ·rw[if_pos ⟨rfl,h⟩,if_pos h]
 ·rw[if_neg (fun q=>h q.2),if_neg h]
abbrev EvIs (s:List UInt8):Prop:=∃y,FnIs Tryz.prog 35 [.d (strD s)] [] (evR2 y (evP s).isSome) [] ∧ ∀x,evP s=some x→y=x
theorem lS {s:List UInt8} {ok:Bool} {x:HEv} (he:evP s=finE s ok x) (hf:FnIs Tryz.prog 35 [.d (strD s)] [] (evR2 x (ok&&decide (bI x=s))) []):EvIs s:=by
 refine⟨x,?_,fun y hy=>?_⟩
 ·have:(evP s).isSome=(ok&&decide (bI x=s)):=by
   rw[he]
   cases ok with
   | false=>rw[oS]; rfl
   | true =>
    rw[uw]
    by_cases h:bI x=s
    ·rw[if_pos h,dT h]; rfl
    ·rw[if_neg h,dF h]; rfl
  rw[this]; exact hf
 ·rw[he]at hy
  exact (jc hy).2.2
theorem gW {s:List UInt8} {x:HEv} (he:evP s=none) (hf:FnIs Tryz.prog 35 [.d (strD s)] [] (evR2 x false) []):EvIs s :=
 ⟨x,by rw[he]; exact hf,fun y hy=>by rw[he]at hy; cases hy⟩
theorem oV (s:List UInt8) (hs:s.length≤1048576):EvIs s:=by
 by_cases hc:s=bu
 ·have he:evP s=some gw:=by rw[evP,if_pos hc]
  exact⟨gw,by rw[he]; exact oW s hc,fun x hx=>by rw[he]at hx; cases hx; rfl⟩
 obtain⟨kind,r1,b1,hk1⟩:∃a b c,cutA s 32=(a,b,c):=⟨_,_,_,rfl⟩
 obtain⟨cl,rest,b2,hk2⟩:∃a b c,cutA r1 32=(a,b,c):=⟨_,_,_,rfl⟩
 have l1:=lW s 32
 have l2:=lW r1 32
 rw[hk1]at l1
 rw[hk2]at l2
 simp only at l1 l2
 have c1:=jP (l:=s) (c:=32) (by omega)
 have c2:=jP (l:=r1) (c:=32) (by omega)
 have a:=rn (l:=cl) (by omega)
 rw[hk1]at c1
 rw[hk2]at c2
 have H:jX s kind r1 cl rest b1 b2 (ca cl) (cI cl):=⟨c1,c2,a⟩
 have hev:evP s=if kind=bw then
   match bz (aF++10::(rest++[10])) [] 1 with
   | ([[o]],_,e)=>if e=0 then finE s (ca cl) ⟨1,cI cl,o,zBk,0⟩ else none
   | _=>none
  else if kind=ba then
   match dm (cutA rest 32).1 with
   | none=>none
   | some k=>if (cutA rest 32).2.2=true then
     match eA (cutA rest 32).2.1 with
     | none=>none
     | some v=>finE s (ca cl) ⟨2,cI cl,zOp,v,k⟩
    else finE s (ca cl) ⟨2,cI cl,zOp,zBk,k⟩
  else none:=by
  rw[evP,if_neg hc,hk1]
  simp only
  (rw[hk2]) <;> rfl
 by_cases hi:kind=bw
 ·rw[if_pos hi]at hev
  have hkl:kind.length=6:=by rw[hi]; rfl
  have hrl:rest.length≤1048568:=by
   rcases l1.2.2 with e | e
   ·have:r1.length=0:=by rw[e]; rfl
    omega
   ·rcases l2.2.2 with e2 | e2
    ·have:rest.length=0:=by rw[e2]; rfl
     omega
    ·omega
  have hp:=tL (aF++[10]++rest++[10]) (by simp[aF]; omega)
  have htx:aF++[10]++rest++[10]=aF++10::(rest++[10]):=by simp
  obtain⟨l,k,e,hP⟩:∃l k e,bz (aF++10::(rest++[10])) [] 1=(l,k,e):=⟨_,_,_,rfl⟩
  rw[show bz (aF++[10]++rest++[10]) [] 1=(l,k,e) by rw[htx]; exact hP]at hp
  simp only at hp
  rw[hP]at hev
  by_cases hyes:ca cl=true∧e=0∧l.length=1∧∀p,l[0]?=some p→p.length=1
  ·obtain⟨hok,rfl,hl1,hl2⟩:=hyes
   obtain⟨p,rfl⟩:∃p,l=[p]:=List.length_eq_one_iff.1 hl1
   obtain⟨o,rfl⟩:∃o,p=[o]:=List.length_eq_one_iff.1 (hl2 p rfl)
   simp only[if_pos]at hev
   obtain⟨q1,q2,_⟩:=j8 hP
   obtain⟨r1',r2'⟩:=eU hok
   rw[hok]at H hev
   refine lS hev ?_
   rw[Bool.true_and]
   exact sC s kind r1 cl rest b1 b2 (cI cl) H hc hi hrl o k hp ⟨show (0:Int)≤1∧(1:Int)≤255 by decide,⟨r1',r2'⟩,q1,rfl,by show (-9223372036854775808:Int)≤0∧(0:Int)≤9223372036854775807; decide⟩ q2 _ rfl
  ·refine gW ?_ (nB s kind r1 cl rest b1 b2 (ca cl) (cI cl) H hc hi hrl l k e hp hyes)
   rw[hev]
   split
   ·rename_i o k' e' heq
    cases heq
    split
    ·rename_i he0
     cases hok:ca cl with
     | false=>exact oS
     | true=>exact absurd ⟨hok,he0,rfl,fun p hp=>by cases hp; rfl⟩ hyes
    ·rfl
   ·rfl
 rw[if_neg hi]at hev
 by_cases hr:kind=ba
 ·rw[if_pos hr]at hev
  obtain⟨word,value,more,hk3⟩:∃a b c,cutA rest 32=(a,b,c):=⟨_,_,_,rfl⟩
  have l3:=lW rest 32
  rw[hk3]at l3 hev
  simp only at l3 hev
  have c3:=jP (l:=rest) (c:=32) (by omega)
  rw[hk3]at c3
  have hbk:∃vb bb,FnIs Tryz.prog 49 [.d (strD value)] [] (blkR vb bb) []∧(bb=true→vb.length=32)∧(eA value=if bb=true then some vb else none):=by
   cases hb:eA value with
   | none =>
    obtain⟨v,hv⟩:=qx value hb (by omega)
    exact⟨v,false,hv,(fun h=>by cases h),by rw[if_neg (by decide)]⟩
   | some v=>exact⟨v,true,qw value v hb,fun _=>mY hb,by rw[if_pos rfl]⟩
  obtain⟨vb,bb,hb1,hb2,hb3⟩:=hbk
  have hF:FnIs Tryz.prog 35 [.d (strD s)] [] (evR2 (kh s (cI cl) (ca cl) more bb vb (dm word)).1 (kh s (cI cl) (ca cl) more bb vb (dm word)).2) []:=by
   cases hok:ca cl with
   | false =>
    rw[hok]at H
    exact kG s kind r1 cl rest word value b1 b2 more bb (cI cl) vb H hc hr c3 hb1 hb2
   | true =>
    obtain⟨q1,q2⟩:=eU hok
    rw[hok]at H
    exact lQ s kind r1 cl rest word value b1 b2 more bb (cI cl) vb H hc hr c3 hb1 hb2 q1 q2
  cases hkw:dm word with
  | none =>
   rw[hkw]at hF hev
   exact gW hev hF
  | some k =>
   rw[hkw]at hF hev
   simp only at hev
   unfold kh at hF
   simp only at hF
   cases more with
   | false =>
    simp only[Bool.false_eq_true,if_false,Bool.true_and]at hF hev
    exact lS hev hF
   | true =>
    simp only[if_true]at hF hev
    rw[hb3]at hev
    cases bb with
    | false =>
     simp only[Bool.false_eq_true,if_false,Bool.false_and]at hF hev
     exact gW hev hF
    | true =>
     simp only[if_true,Bool.true_and]at hF hev
     exact lS hev hF
 ·rw[if_neg hr]at hev
  exact gW hev (oU s kind r1 cl rest b1 b2 (ca cl) (cI cl) H hc hi hr)
end Go.Proofs.YtjfkhlamjdbfkaaGreatDoor
