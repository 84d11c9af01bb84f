/- Texts of the proof: Y27, Y28, Y30, Y31, Y32, Y33, Y35, Y36, Y37, YB, YQ, YA, YQ2, YQ3, YQ4, YE, YF, YX1, YC, YC2, YG3, YG4, YK, YX2, YX3, YX4, YX5, Y34. -/
import Derived.Test.YtkehohfgbblokaaG06
import Derived.Test.YtkehohfgbblokaaG03
import Derived.Test.YtkehohfgbblokaaG04

set_option linter.unusedVariables false
set_option linter.unusedSimpArgs false
set_option linter.unusedSectionVars false

namespace Go.Proofs.Ytkehohfgbblokaa
open Go.Eng Go.Plain
set_option maxHeartbeats 32000000
set_option maxRecDepth 20000
attribute [local irreducible] WC RegS RegD SeqQ BlkQ ScoQ RegK CutK Sat SatN FnIs LoopQ ak OpIs
def eqN (a b:List Int):Int:=if a=b then 1 else 0
def eqG:List Int→List Int→Int
 | [],[]=>1
 | x::a,y::b=>if x=y then eqG a b else 0
 | _,_=>0
theorem tc:∀(a b:List Int),eqG a b=eqN a b
 | [],[]=>rfl
 | x::a,y::b=>by
  have ih:=tc a b
  unfold eqN at ih ⊢
  unfold eqG
  by_cases h:x=y
  ·subst h; simp[ih]
  ·simp[h]
 | [],_::_=>by simp[eqG,eqN]
 | _::_,[]=>by simp[eqG,eqN]
theorem xz (a b:List Int) (ha:a.length≤1048576):FnIs Try.prog 25 [.d (mu a),.d (encL b)] [] (.d (i6 (eqN a b))) []:=by
 refine aH aa Try.func25 rfl rfl rfl ?_
 by_cases hl:a.length=b.length
 ·have d1:decide ((a.length:Int)=(b.length:Int))=true:=dT (by omega)
  have d1n:(!decide ((a.length:Int)=(b.length:Int)))=false:=by rw[d1]; rfl
  have d2n:(!decide ((a.length:Int)=(a.length:Int)))=false:=by rw[dT rfl]; rfl
  refine sR<|rC<|zW ?_;refine rC ?_;refine rQ (dW aa rfl rfl) ?_;refine rC ?_;refine rQ iE ?_;refine zD ?_;refine rO ?_;refine rC ?_;refine rO ?_;refine rQ (yZ aa rfl rfl) ?_;refine rO ?_;refine rC ?_;refine rO ?_;refine rQ (dW aa rfl rfl) ?_;refine rO ?_;refine rC ?_;refine rQ iF ?_;refine zG<|kS<|qR ?_;refine rC<|zP ?_
  refine wc_inv (fun i:Nat=>⟨[(5,.int .i64 i),(0,.d (mu a)),(1,.d (encL b))],[],72,Try.f25.ntmps,64⟩) (fun i=>i≤a.length∧eqG (a.drop i) (b.drop i)=eqG a b) (fun i=>a.length-i) 0 [] ⟨Nat.zero_le _,rfl⟩
   (lg zj trivial) ?_
  rintro i ⟨hi,hinv⟩
  refine cj ?_
  by_cases hlt:i<a.length
  ·have d3:decide ((i:Int)<(a.length:Int))=true:=dT (by omega)
   obtain⟨x,hx⟩:∃x,a[i]?=some x:=⟨_,List.getElem?_eq_getElem hlt⟩
   obtain⟨y,hy⟩:∃y,b[i]?=some y:=⟨_,List.getElem?_eq_getElem (by omega)⟩
   have hx2:a[((i:Int)).toNat]?=some x:=by rw[Int.toNat_natCast]; exact hx
   have hy2:b[((i:Int)).toNat]?=some y:=by rw[Int.toNat_natCast]; exact hy
   have hs:eqG (a.drop i) (b.drop i)=if x=y then eqG (a.drop (i+1)) (b.drop (i+1)) else 0:=by
    rw[List.drop_eq_getElem_cons (List.getElem?_eq_some_iff.1 hx).1,(List.getElem?_eq_some_iff.1 hx).2,List.drop_eq_getElem_cons (List.getElem?_eq_some_iff.1 hy).1,(List.getElem?_eq_some_iff.1 hy).2]
    rfl
   rw[hs]at hinv
   by_cases he:x=y
   ·have d4:(!decide (x=y))=false:=by rw[dT he]; rfl
    rw[if_pos he]at hinv
    refine qR<|zD ?_;refine rQ (dW aa rfl rfl) ?_;refine rC ?_;refine zI<|zQ<|bQ<|aZ ?_;refine aB (by kernel_rfl) ?_;refine dC [0] [] ?_;refine dC [5] [] ?_;refine dQ [24,25] [] (bc aa rfl rfl rfl rfl rfl (by omega) hx2) ?_;refine dQ [26] [] iL ?_;refine dC [1] [] ?_;refine dC [5] [] ?_;refine dQ [28,29] [] (aA aa rfl rfl rfl rfl rfl (by omega) hy2) ?_;refine dQ [30] [] iL ?_;refine dC [27,31] [] ?_;refine ao (by kernel_rfl)<|aK ?_;refine wF<|aS<|zC<|ae ?_;refine rC ?_;refine rQ iD ?_;refine rC<|aq ?_
    exact aJ (i+1) [] ⟨hlt,hinv⟩ (by omega) (lg zj trivial)
   ·have d4:(!decide (x=y))=true:=by rw[dF he]; rfl
    rw[if_neg he]at hinv
    rw[←tc,←hinv]
    refine qR<|zD ?_;refine rQ (dW aa rfl rfl) ?_;refine rC ?_;refine zI<|zQ<|bQ<|aZ ?_;refine aB (by kernel_rfl) ?_;refine dC [0] [] ?_;refine dC [5] [] ?_;refine dQ [24,25] [] (bc aa rfl rfl rfl rfl rfl (by omega) hx2) ?_;refine dQ [26] [] iL ?_;refine dC [1] [] ?_;refine dC [5] [] ?_;refine dQ [28,29] [] (aA aa rfl rfl rfl rfl rfl (by omega) hy2) ?_;refine dQ [30] [] iL ?_;refine dC [27,31] [] ?_;refine ao (by kernel_rfl)<|aK ?_;refine wT<|sR ?_;refine rC<|zT<|zB<|ef<|zB ?_
    exact⟨trivial,[],lf⟩
  ·have d3:decide ((i:Int)<(a.length:Int))=false:=dF (by omega)
   rw[List.drop_eq_nil_of_le (by omega),List.drop_eq_nil_of_le (by omega)]at hinv
   rw[←tc,←hinv]
   refine qR<|zD ?_;refine rQ (dW aa rfl rfl) ?_;refine rC ?_;refine zG<|zX<|sR ?_;refine rC<|zT ?_
   exact⟨trivial,[],lf⟩
 ·have d1:decide ((a.length:Int)=(b.length:Int))=false:=dF (by omega)
  have d1n:(!decide ((a.length:Int)=(b.length:Int)))=true:=by rw[d1]; rfl
  have he:eqN a b=0:=by rw[eqN,if_neg fun e=>hl (by rw[e])]
  rw[he]
  refine sR<|rC<|zW ?_;refine rC ?_;refine rQ (dW aa rfl rfl) ?_;refine rC ?_;refine rQ iE ?_;refine zD ?_
  iterate 5 refine rS ?_
  refine rQ iT ?_;refine zO<|sR ?_;refine rC<|zT<|bX ?_
  exact⟨trivial,[],lf⟩
theorem mM (a:List Int) (ha:a.length≤1048576):FnIs Try.prog 25 [.d (mu a),.d (encL a)] [] (.d (i6 1)) []:=by
 have:=xz a a ha
 rwa [eqN,if_pos rfl]at this
abbrev fndE (o:List Int) (f:Bool) (e:Int):AV :=.tup (.acons (.d (mu o)) (.acons (.bool f) (.acons (.int .i64 e) .anil)))
abbrev legE (f:Bool) (e:Int):AV :=.tup (.acons (.bool f) (.acons (.int .i64 e) .anil))
abbrev stsE (m e:Int):AV :=.tup (.acons (.int .i64 m) (.acons (.int .i64 e) .anil))
theorem xa (H G C1 C2:List HEv) (hb1:FnIs Try.prog 35 [.d (bj cS)] [] (.d (encH H)) []) (hb2:FnIs Try.prog 35 [.d (bj zBk)] [] (.d (encH G)) [])
  (lW:FnIs Try.prog 37 [.bool true] [] (.d (encH C1)) []) (lX:FnIs Try.prog 37 [.bool false] [] (.d (encH C2)) [])
  (hf1:FnIs Try.prog 23 [.d (encH H),.int .i64 1,.int .i64 9] [] (fndE [0,1] true 0) []) (hf2:FnIs Try.prog 23 [.d (encH G),.int .i64 1,.int .i64 9] [] (fndE [1,0] true 0) [])
  (hs1:FnIs Try.prog 21 [.d (encH H),.int .i64 1,.int .i64 3] [] (stsE 3 0) []) (hs2:FnIs Try.prog 21 [.d (encH H),.int .i64 1,.int .i64 2] [] (stsE 0 4) []) (hs3:FnIs Try.prog 21 [.d (encH G),.int .i64 1,.int .i64 4] [] (stsE 4 0) [])
  (hacs:∀(k:Nat) o e,[[1,0],[0],[0,0],[0,1]][k]?=some o→([15,15,1,0]:List Int)[k]?=some e→FnIs Try.prog 18 [.d (encH H),.int .i64 1,.d (encL o)] [] (.d (i6 e)) [])
  (hf3:FnIs Try.prog 23 [.d (encH C1),.int .i64 1,.int .i64 99] [] (fndE [0,1,2,3] true 0) []) (hl1:FnIs Try.prog 22 [.d (encH C2),.int .i64 1,.int .i64 99] [] (legE false 0) [])
  (hl2:FnIs Try.prog 22 [.d (encH (q9++didL rdO cS)),.int .i64 1,.int .i64 99] [] (legE false 0) []) (hf4:FnIs Try.prog 23 [.d (encH (tX++didL rdO cS)),.int .i64 1,.int .i64 99] [] (fndE [0,1,2] true 0) [])
  (hsk:FnIs Try.prog 27 [.d (encH (se++didL (wrO 1) zBk))] [] (legE false 0) []) (hl3:FnIs Try.prog 22 [.d (encH (se++didL (wrO 1) zBk)),.int .i64 1,.int .i64 9] [] (legE true 0) []) :
  FnIs Try.prog 12 [] [] (.bool true) []:=by
 refine aH aa Try.func12 rfl rfl rfl ?_;refine sR<|rC<|nR ?_;refine rQ (aE kR rfl rfl aj (.inl rfl) (fun _=>rfl)) ?_;refine rQ (aE hb1 rfl rfl (am aj) (.inl rfl) (fun _=>rfl)) ?_;refine rQ (bH aa rfl rfl rfl) ?_;refine rQ (aE hb2 rfl rfl (am aj) (.inl rfl) (fun _=>rfl)) ?_;refine zD<|nR ?_;refine rC ?_;refine rQ (aE hf1 rfl rfl (am (am (am aj))) (.inl rfl) (fun _=>rfl)) ?_;iterate 7 refine rC ?_
 refine nR<|rC ?_;refine rQ (aE hf2 rfl rfl (am (am (am aj))) (.inl rfl) (fun _=>rfl)) ?_;iterate 7 refine rC ?_
 refine nR<|rC ?_;refine rQ (aE hs1 rfl rfl (am (am (am aj))) (.inl rfl) (fun _=>rfl)) ?_;iterate 5 refine rC ?_
 refine nR<|rC ?_;refine rQ (aE hs2 rfl rfl (am (am (am aj))) (.inl rfl) (fun _=>rfl)) ?_;iterate 5 refine rC ?_
 refine nR<|rC ?_;refine rQ (aE hs3 rfl rfl (am (am (am aj))) (.inl rfl) (fun _=>rfl)) ?_;iterate 5 refine rC ?_
 refine zW<|zU ?_;refine rP ?_;refine rC ?_;refine rP ?_;refine rC ?_;refine rQ iG ?_;refine rC ?_;refine rP ?_;refine rC ?_;refine rP ?_;refine rC ?_;refine rQ iG ?_;refine rC ?_;refine rP ?_;refine rC ?_;refine rP ?_;refine rC ?_;refine rQ iG ?_;refine rC ?_;refine rP ?_;refine rC ?_;refine rP ?_;refine rC ?_;refine rQ iG ?_;refine rC ?_;refine rP ?_;refine rC ?_;refine rP ?_;refine rC ?_;refine rQ iG ?_;refine rC ?_;refine rP ?_;refine rC ?_;refine rP ?_;refine rC ?_;refine rQ iG ?_;refine rC ?_;refine rP ?_;refine rC ?_;refine rP ?_;refine rC ?_;refine rQ iG ?_;refine rC ?_;refine rP ?_;refine rC ?_;refine rP ?_;refine rC ?_;refine rQ iG ?_;refine rC ?_;refine rP ?_;refine rC ?_;refine rP ?_;refine rQ (ak.frozen (ay (s:=1) aa rfl rfl rfl rfl rfl rfl rfl rfl) (Frz.litsN (enc:=i6) [0,1] rfl (fun _ _=>rfl))) ?_;refine rP ?_;refine rQ (aE (mM [0,1] (by decide)) rfl rfl (am (am aj)) (.inl rfl) (fun _=>rfl)) ?_;refine rP ?_;refine rC ?_;refine rP ?_;refine rQ (ak.frozen (ay (s:=1) aa rfl rfl rfl rfl rfl rfl rfl rfl) (Frz.litsN (enc:=i6) [1,0] rfl (fun _ _=>rfl))) ?_;refine rP ?_;refine rQ (aE (mM [1,0] (by decide)) rfl rfl (am (am aj)) (.inl rfl) (fun _=>rfl)) ?_;refine rP ?_;refine rQ (iq (m:=1) aa rfl rfl rfl) ?_;refine rP ?_;refine rC ?_;refine rQ iG ?_;refine zJ<|kS<|qR ?_;refine rQ (ak.frozen (ay (s:=1) aa rfl rfl rfl rfl rfl rfl rfl rfl) (Frz.litsN (enc:=i6) [1,0] rfl (fun _ _=>rfl))) ?_;refine rQ (ak.frozen (ay (s:=1) aa rfl rfl rfl rfl rfl rfl rfl rfl) (Frz.litsN (enc:=i6) [0] rfl (fun _ _=>rfl))) ?_;refine rQ (ak.frozen (ay (s:=1) aa rfl rfl rfl rfl rfl rfl rfl rfl) (Frz.litsN (enc:=i6) [0,0] rfl (fun _ _=>rfl))) ?_;refine rQ (ak.frozen (ay (s:=1) aa rfl rfl rfl rfl rfl rfl rfl rfl) (Frz.litsN (enc:=i6) [0,1] rfl (fun _ _=>rfl))) ?_;refine rQ (ak.frozen (ay (s:=1) aa rfl rfl rfl rfl rfl rfl rfl rfl) (Frz.litsN (enc:=encL) [[1,0],[0],[0,0],[0,1]] rfl (fun _ _=>rfl))) ?_;refine rQ iE ?_;refine rC<|zP ?_
 refine wc_inv (fun k:Nat=>⟨[(107,.int .i64 k),(106,.int .i64 4),(105,.d (.arr 1 encL [[1,0],[0],[0,0],[0,1]])),(1,.d (encH H))],[],72,Try.f12.ntmps,64⟩) (fun k=>k≤4) (fun k=>4-k) 0 [] (Nat.zero_le _)
  (lg zi trivial) ?_
 intro k hk
 refine cj ?_
 by_cases h4:k=4
 ·subst h4
  refine sR<|rC<|nQ ?_;refine wG<|zX<|sR ?_;refine rQ (aE lW rfl rfl (am aj) (.inl rfl) (fun _=>rfl)) ?_;refine rQ (aE hf3 rfl rfl (am (am (am aj))) (.inl rfl) (fun _=>rfl)) ?_;iterate 7 refine rC ?_
  refine nR<|rQ (aE lX rfl rfl (am aj) (.inl rfl) (fun _=>rfl)) ?_;refine rQ (aE hl1 rfl rfl (am (am (am aj))) (.inl rfl) (fun _=>rfl)) ?_
  iterate 5 refine rC ?_
  refine nR<|rQ (aE (fy 1) rfl rfl (am aj) (.inl rfl) (fun _=>rfl)) ?_;refine rQ iS ?_;refine rQ (ak.val_le (bn aa rfl rfl rfl rfl) (fK 3 0 0 0 0 zBk) rfl) ?_;refine rQ (ak.frozen (ay (s:=38) aa rfl rfl rfl rfl rfl rfl rfl rfl) (Frz.litsX (enc:=bU) q9 rfl (fun _=>rfl))) ?_;refine rC<|nR ?_;refine rQ (aE (fy 1) rfl rfl (am aj) (.inl rfl) (fun _=>rfl)) ?_;iterate 2 refine rQ iS ?_
  refine rQ (ak.val_le (bn aa rfl rfl rfl rfl) (fK 1 1 3 0 0 zBk) rfl) ?_;refine rQ (ak.val_le (bn aa rfl rfl rfl rfl) (fK 3 0 0 0 0 zBk) rfl) ?_;refine rQ (ak.frozen (ay (s:=38) aa rfl rfl rfl rfl rfl rfl rfl rfl) (Frz.litsX (enc:=bU) tX rfl (fun _=>rfl))) ?_;refine rC<|nR ?_;refine rC ?_;refine rQ (ak.val_le (bn aa rfl rfl rfl rfl) (lM 1 0) rfl) ?_;refine rQ (aE kR rfl rfl aj (.inl rfl) (fun _=>rfl)) ?_;refine rQ (aE (jq rdO cS) rfl rfl (am (am aj)) (.inl rfl) (fun _=>rfl)) ?_;refine rQ (ak.frozen (ek (s:=38) (enc:=bU) (xs:=q9) (ys:=didL rdO cS) aa rfl rfl rfl rfl rfl rfl (by decide) (by decide) rfl) (Frz.own (by decide))) ?_;refine rQ (aE hl2 rfl rfl (am (am (am aj))) (.inl rfl) (fun _=>rfl)) ?_;iterate 5 refine rC ?_
  refine nR<|rC ?_;refine rQ (ak.val_le (bn aa rfl rfl rfl rfl) (lM 1 0) rfl) ?_;refine rQ (aE kR rfl rfl aj (.inl rfl) (fun _=>rfl)) ?_;refine rQ (aE (jq rdO cS) rfl rfl (am (am aj)) (.inl rfl) (fun _=>rfl)) ?_;refine rQ (ak.frozen (ek (s:=38) (enc:=bU) (xs:=tX) (ys:=didL rdO cS) aa rfl rfl rfl rfl rfl rfl (by decide) (by decide) rfl) (Frz.own (by decide))) ?_;refine rQ (aE hf4 rfl rfl (am (am (am aj))) (.inl rfl) (fun _=>rfl)) ?_;iterate 7 refine rC ?_
  refine zW<|zU ?_;refine rP ?_;refine rC ?_;refine rP ?_;refine rC ?_;refine rQ iG ?_;refine rC ?_;refine rP ?_;refine rC ?_;refine rP ?_;refine rC ?_;refine rQ iG ?_;refine rC ?_;refine rP ?_;refine rC ?_;refine rP ?_;refine rC ?_;refine rQ iG ?_;refine rC ?_;refine rP ?_;refine rC ?_;refine rP ?_;refine rC ?_;refine rQ iG ?_;refine rC ?_;refine rP ?_;refine rC ?_;refine rQ iG ?_;refine rC ?_;refine rP ?_;refine rC ?_;refine rQ iG ?_;refine rC ?_;refine rP ?_;refine rC ?_;refine rP ?_;refine rC ?_;refine rQ iG ?_;refine rC ?_;refine rP ?_;refine rC ?_;refine rP ?_;refine rQ (ak.frozen (ay (s:=1) aa rfl rfl rfl rfl rfl rfl rfl rfl) (Frz.litsN (enc:=i6) [0,1,2,3] rfl (fun _ _=>rfl))) ?_;refine rP ?_;refine rQ (aE (mM [0,1,2,3] (by decide)) rfl rfl (am (am aj)) (.inl rfl) (fun _=>rfl)) ?_;refine rP ?_;refine rC ?_;refine rP ?_;refine rQ (ak.frozen (ay (s:=1) aa rfl rfl rfl rfl rfl rfl rfl rfl) (Frz.litsN (enc:=i6) [0,1,2] rfl (fun _ _=>rfl))) ?_;refine rP ?_;refine rQ (aE (mM [0,1,2] (by decide)) rfl rfl (am (am aj)) (.inl rfl) (fun _=>rfl)) ?_;refine rP ?_;refine rQ (iq (m:=1) aa rfl rfl rfl) ?_;refine rP ?_;refine rC ?_;refine rQ iG ?_;refine zJ<|kS<|sR ?_;refine rQ iS ?_;refine rQ (ak.val_le (bn aa rfl rfl rfl rfl) (fK 1 0 1 0 0 zBk) rfl) ?_;refine rQ (ak.val_le (bn aa rfl rfl rfl rfl) (fK 2 0 0 0 9 zBk) rfl) ?_;refine rQ (ak.frozen (ay (s:=38) aa rfl rfl rfl rfl rfl rfl rfl rfl) (Frz.litsX (enc:=bU) se rfl (fun _=>rfl))) ?_;refine rQ (aE (fy 1) rfl rfl (am aj) (.inl rfl) (fun _=>rfl)) ?_;refine rQ (bH aa rfl rfl rfl) ?_;refine rQ (aE (jq (wrO 1) zBk) rfl rfl (am (am aj)) (.inl rfl) (fun _=>rfl)) ?_;refine rQ (ak.frozen (ek (s:=38) (enc:=bU) (xs:=se) (ys:=didL (wrO 1) zBk) aa rfl rfl rfl rfl rfl rfl (by decide) (by decide) rfl) (Frz.own (by decide))) ?_;refine rC<|nR ?_;refine rC ?_;refine rQ (aE hsk rfl rfl (am aj) (.inl rfl) (fun _=>rfl)) ?_;iterate 5 refine rC ?_
  refine nR<|rC ?_;refine rQ (aE hl3 rfl rfl (am (am (am aj))) (.inl rfl) (fun _=>rfl)) ?_;iterate 5 refine rC ?_
  refine nR<|zU ?_;refine rP ?_;refine rC ?_;refine rP ?_;refine rC ?_;refine rQ iU ?_;refine rC ?_;refine rP ?_;refine rC ?_;refine rP ?_;refine rC ?_;refine rQ iU ?_;refine rC ?_;refine rP ?_;refine rC ?_;refine rQ iU ?_;refine rC<|zT ?_
  exact⟨trivial,[],lf⟩
 by_cases h0:k=0
 ·subst h0
  have hac:=hacs 0 [1,0] 15 rfl rfl
  have hod:([[1,0],[0],[0,0],[0,1]]:List (List Int))[(((0:Nat):Int)).toNat]?=some [1,0]:=rfl
  refine sR<|rC<|nQ ?_;refine wV<|zQ<|zS ?_;refine rC ?_;refine rQ (aA aa rfl rfl rfl rfl rfl (by omega) hod) ?_;refine rQ iL ?_;refine zD<|nQ ?_;refine aB (by kernel_rfl) ?_;refine dC [1] [] ?_;refine dC [16] [] ?_;refine dQ [112,113] [] (aE hac rfl rfl (am (am (am aj))) (.inl rfl) (fun _=>rfl)) ?_;refine dQ [] [] (jT aa rfl rfl rfl rfl rfl) ?_;refine dC [15] [] ?_;refine dQ [115,116] [] (aC aa (fun K hk=>⟨by decide,by decide,_,rfl,hk⟩)) ?_;refine dC [114,117] [] ?_;refine ao (by kernel_rfl)<|aK ?_;refine wG<|aS<|zC<|ae ?_;refine rQ iD ?_;refine rC<|aq ?_
  exact aJ 1 [] (by decide) (by decide) (lg zi trivial)
 by_cases h1:k=1
 ·subst h1
  have hac:=hacs 1 [0] 15 rfl rfl
  have hod:([[1,0],[0],[0,0],[0,1]]:List (List Int))[(((1:Nat):Int)).toNat]?=some [0]:=rfl
  refine sR<|rC<|nQ ?_;refine wV<|zQ<|zS ?_;refine rC ?_;refine rQ (aA aa rfl rfl rfl rfl rfl (by omega) hod) ?_;refine rQ iL ?_;refine zD<|nQ ?_;refine aB (by kernel_rfl) ?_;refine dC [1] [] ?_;refine dC [16] [] ?_;refine dQ [112,113] [] (aE hac rfl rfl (am (am (am aj))) (.inl rfl) (fun _=>rfl)) ?_;refine dQ [] [] (jT aa rfl rfl rfl rfl rfl) ?_;refine dC [15] [] ?_;refine dQ [115,116] [] (aC aa (fun K hk=>⟨by decide,by decide,_,rfl,hk⟩)) ?_;refine dC [114,117] [] ?_;refine ao (by kernel_rfl)<|aK ?_;refine wG<|aS<|zC<|ae ?_;refine rQ iD ?_;refine rC<|aq ?_
  exact aJ 2 [] (by decide) (by decide) (lg zi trivial)
 by_cases h2:k=2
 ·subst h2
  have hac:=hacs 2 [0,0] 1 rfl rfl
  have hod:([[1,0],[0],[0,0],[0,1]]:List (List Int))[(((2:Nat):Int)).toNat]?=some [0,0]:=rfl
  refine sR<|rC<|nQ ?_;refine wV<|zQ<|zS ?_;refine rC ?_;refine rQ (aA aa rfl rfl rfl rfl rfl (by omega) hod) ?_;refine rQ iL ?_;refine zD<|nQ ?_;refine aB (by kernel_rfl) ?_;refine dC [1] [] ?_;refine dC [16] [] ?_;refine dQ [112,113] [] (aE hac rfl rfl (am (am (am aj))) (.inl rfl) (fun _=>rfl)) ?_;refine dQ [] [] (jT aa rfl rfl rfl rfl rfl) ?_;refine dC [15] [] ?_;refine dQ [115,116] [] (aC aa (fun K hk=>⟨by decide,by decide,_,rfl,hk⟩)) ?_;refine dC [114,117] [] ?_;refine ao (by kernel_rfl)<|aK ?_;refine wG<|aS<|zC<|ae ?_;refine rQ iD ?_;refine rC<|aq ?_
  exact aJ 3 [] (by decide) (by decide) (lg zi trivial)
 ·obtain rfl:k=3:=by omega
  have hac:=hacs 3 [0,1] 0 rfl rfl
  have hod:([[1,0],[0],[0,0],[0,1]]:List (List Int))[(((3:Nat):Int)).toNat]?=some [0,1]:=rfl
  refine sR<|rC<|nQ ?_;refine wV<|zQ<|zS ?_;refine rC ?_;refine rQ (aA aa rfl rfl rfl rfl rfl (by omega) hod) ?_;refine rQ iL ?_;refine zD<|nQ ?_;refine aB (by kernel_rfl) ?_;refine dC [1] [] ?_;refine dC [16] [] ?_;refine dQ [112,113] [] (aE hac rfl rfl (am (am (am aj))) (.inl rfl) (fun _=>rfl)) ?_;refine dQ [] [] (jT aa rfl rfl rfl rfl rfl) ?_;refine dC [15] [] ?_;refine dQ [115,116] [] (aC aa (fun K hk=>⟨by decide,by decide,_,rfl,hk⟩)) ?_;refine dC [114,117] [] ?_;refine ao (by kernel_rfl)<|aK ?_;refine wG<|aS<|zC<|ae ?_;refine rQ iD ?_;refine rC<|aq ?_
  exact aJ 4 [] (by decide) (by decide) (lg zi trivial)
theorem nE:FnIs Try.prog 12 [] [] (.bool true) []:=by
 have fnd:∀(h:List HEv) (fuel:Int) r,eI h 1 fuel=r→h.length≤100→fuel≤100→FnIs Try.prog 23 [.d (encH h),.int .i64 1,.int .i64 fuel] [] (fndE r.1.1 r.1.2 r.2) []:=fun h fuel r hr hh hf=>by
  have:=ug (lG h 1 fuel (by omega) (.inl (by omega)) (fun _=>by have:=Nat.mul_le_mul (show fuel.toNat≤100 by omega) (show h.length+1≤101 by omega); omega))
  rwa [hr]at this
 have sts:∀(h:List HEv) (fuel:Int) r,ii h 1 fuel=r→h.length≤100→fuel≤100→FnIs Try.prog 21 [.d (encH h),.int .i64 1,.int .i64 fuel] [] (stsE r.1 r.2) []:=fun h fuel r hr hh hf=>by
  have:=uP (lG h 1 fuel (by omega) (.inl (by omega)) (fun _=>by have:=Nat.mul_le_mul (show fuel.toNat≤100 by omega) (show h.length+1≤101 by omega); omega))
  rwa [hr]at this
 have leg:∀(h:List HEv) (fuel:Int) (f:Bool) (e:Int),(eI h 1 fuel).1.2=f∧(eI h 1 fuel).2=e→h.length≤100→fuel≤100→FnIs Try.prog 22 [.d (encH h),.int .i64 1,.int .i64 fuel] [] (legE f e) []:=fun h fuel f e hr hh hf=>by
  have:=rc (lG h 1 fuel (by omega) (.inl (by omega)) (fun _=>by have:=Nat.mul_le_mul (show fuel.toNat≤100 by omega) (show h.length+1≤101 by omega); omega))
  rwa [hr.1,hr.2]at this
 refine xa (eJ cS) (eJ zBk) (iQ true) (iQ false) (uw _) (uw _) lW lX (fnd _ 9 _ ex1 (by decide) (by decide)) (fnd _ 9 _ ex2 (by decide) (by decide)) (sts _ 3 _ ex3 (by decide) (by decide)) (sts _ 2 _ ex4 (by decide) (by decide)) (sts _ 4 _ ex5 (by decide) (by decide)) (fun k o e ho he=>?_) (fnd _ 99 _ ex6 (by decide) (by decide)) (leg _ 99 _ _ ex7 (by decide) (by decide)) (leg _ 99 _ _ ex8 (by decide) (by decide)) (fnd _ 99 _ ex9 (by decide) (by decide)) ?_ (leg _ 9 _ _ ex11 (by decide) (by decide))
 ·have hal:(rdH (eJ cS)).all.length≤1048576:=Nat.le_trans (fC _) (by decide)
  have key:∀(o:List Int) (e:Int),_root_.Go.Proofs.Ytkehohfgbblokaa.accS 1 (opsH (eJ cS)) o=e→o.length≤100→FnIs Try.prog 18 [.d (encH (eJ cS)),.int .i64 1,.d (encL o)] [] (.d (i6 e)) []:=fun o e h1 h2=>by
   have:=vR (eJ cS) 1 o (by decide) hal (by omega)
   rwa [acA o e h1]at this
  match k,ho,he with
  | 0,ho,he=>cases ho; cases he; exact key _ _ ex12.1 (by decide)
  | 1,ho,he=>cases ho; cases he; exact key _ _ ex12.2.1 (by decide)
  | 2,ho,he=>cases ho; cases he; exact key _ _ ex12.2.2.1 (by decide)
  | 3,ho,he=>cases ho; cases he; exact key _ _ ex12.2.2.2 (by decide)
  | k+4,ho,he=>simp at ho
 ·have hal:(rdH badL).all.length≤1048576:=Nat.le_trans (fC _) (by decide)
  have:=uM badL (by decide) hal
  rw[ex10.1,ex10.2]at this
  exact this
abbrev r01d (b:Bool):AV :=.d (i6 (if b then 1 else 0))
def stB (o p:HOp):Bool:=decide (o.err=9)&&(decide (o.era=p.era)&&(decide (o.returned<p.invoked)&&(decide (0≤p.returned)&&(decide (p.err=0)||decide (p.err=8)))))
def rstV (l:List HOp):Bool := !l.any fun o=>l.any (stB o)
theorem jD (h:List HEv):∀(n i:Nat) (out:List HOp) (era:Int),(fg h n i out era).length≤out.length+n
 | 0,_,out,_=>by simp[fg]
 | n+1,i,out,era=>by
  rw[fg]
  split
  ·omega
  ·split
   ·have:=jD h n (i+1) out (era+1); omega
   ·split
    ·rename_i x _ _ _
     have:=jD h n (i+1) (out++[mkOp h i x out era]) era
     rw[List.length_append,List.length_singleton]at this
     omega
    ·have:=jD h n (i+1) out era; omega
theorem qS (h:List HEv):(opsR h).length≤h.length:=by
 have:=jD h h.length 0 [] 0
 simpa[opsR]using this
structure RS where
 era:Int
 taken:List Int
 arr:List (List UInt8)
 dur:List (List UInt8)
abbrev xD (l:List (List UInt8)):D :=.arr 32 bj l
def z3 (s:RS):D :=.cons (i6 s.era) (.cons (rI s.taken) (.cons (xD s.arr) (.cons (xD s.dur) .nil)))
abbrev bsRow (l:List (List UInt8)):Row :=.ds 27 32 true bj l
def bu (n:Nat):RS:=⟨0,[],List.replicate n zBk,List.replicate n zBk⟩
def bx (s:RS):RS:=⟨s.era+1,[],s.dur,s.dur⟩
def pgAt (l:List (List UInt8)) (i:Int):List UInt8:=l[i.toNat]?.getD zBk
def hapR (s:RS) (o:HOp):RS×Bool :=
 if o.op.kind=1 then (s,!bB o||decide (pgAt s.arr o.op.index=o.value))
 else if o.op.kind=2 then ({ s with arr:=s.arr.set o.op.index.toNat o.op.data },true)
 else ({ s with dur:=s.arr },true)
structure CO (s:RS) (o:HOp):Prop where
 al:s.arr.length≤1048576
 dl:s.dur.length≤1048576
 pg:∀p∈s.arr,p.length=32
 kd:o.op.kind=1∨o.op.kind=2∨o.op.kind=3
 ix:o.op.kind=1∨o.op.kind=2→0≤o.op.index∧o.op.index<s.arr.length
 dt:o.op.kind=2→o.op.data.length=32
abbrev hapE (r:RS×Bool):AV :=.tup (.acons (.d (z3 r.1)) (.acons (r01d r.2) .anil))
abbrev CT (s:RS) (n:Nat):Row :=.box 100 (.acons (.d (i6 s.era)) (.acons (.d (rI s.taken)) (.acons (.own n 0 s.arr.length 32 none) (.acons (.d (xD s.dur)) (.d .nil)))))
def cY (e:Int) (s:RS):RS:=if s.era<e then⟨e,[],s.dur,s.dur⟩ else s
def befA (l:List HOp) (o:HOp) (j:Int):Bool:=match l[j.toNat]? with
 | some p=>befB o p
 | none=>false
def jY (b:Int) (l:List HOp):List Int→List Int→RS→Int
 | [],_,_=>0
 | i::os,pre,s=>if i<0 then 1 else match l[i.toNat]? with
  | none=>1
  | some o=>if pre.any (fun y=>decide (y=i))=true then 1 else if mayB o b=false then 1 else if pre.any (befA l o)=true then 13
   else if (hapR (cY o.era s) o).2=false then 15 else jY b l os (pre++[i]) (hapR (cY o.era s) o).1
def me (ord:List Int):List HOp→Nat→Bool
 | [],_=>false
 | o::l,k=>(bB o && !ord.any (fun y=>decide (y=(k:Int))))||me ord l (k+1)
def wy (b:Int) (n:Nat) (l:List HOp) (order:List Int):Int :=
 if jY b l order [] (bu n)=0 then (if me order l 0=true then 15 else 0) else jY b l order [] (bu n)
structure RSOk (n:Nat) (s:RS):Prop where
 al:s.arr.length=n
 dl:s.dur.length=n
 ap:∀p∈s.arr,p.length=32
 dp:∀p∈s.dur,p.length=32
 e0:0≤s.era
 e1:s.era≤1000000
theorem RSOk.first (n:Nat):RSOk n (bu n):=
 ⟨List.length_replicate,List.length_replicate,fun p hp=>by rw[(List.mem_replicate.1 hp).2]; rfl,fun p hp=>by rw[(List.mem_replicate.1 hp).2]; rfl,Int.le_refl _,by show (0:Int)≤1000000; decide⟩
theorem RSOk.crash {n:Nat} {s:RS} (h:RSOk n s) (he:s.era<1000000):RSOk n (bx s):=⟨h.dl,h.dl,h.dp,h.dp,by have:=h.e0; show 0≤s.era+1; omega,by show s.era+1≤1000000; omega⟩
theorem yz {o:HOp} {n:Nat} (h:mayB o n=true):(o.op.kind=1∨o.op.kind=2∨o.op.kind=3)∧(o.op.kind=1∨o.op.kind=2→0≤o.op.index∧o.op.index<n)∧(o.op.kind=2→o.op.data.length=32):=by
 unfold mayB badO outO at h
 by_cases k1:o.op.kind=1
 ·simp[k1]at h
  exact⟨.inl k1,fun _=>by omega,fun k=>by omega⟩
 ·by_cases k2:o.op.kind=2
  ·simp[k2]at h
   exact⟨.inr (.inl k2),fun _=>by omega,fun _=>h.1.2⟩
  ·simp[k1,k2]at h
   exact⟨.inr (.inr h.1),fun k=>by omega,fun k=>by omega⟩
theorem RSOk.hap {n:Nat} (hn:n≤1048576) {s:RS} (h:RSOk n s) {o:HOp} (hm:mayB o n=true):CO s o∧RSOk n (hapR s o).1:=by
 obtain⟨m1,m2,m3⟩:=yz hm
 refine⟨⟨by rw[h.al]; exact hn,by rw[h.dl]; exact hn,h.ap,m1,fun k=>by rw[h.al]; exact m2 k,m3⟩,?_⟩
 unfold hapR
 split
 ·exact h
 ·split
  ·rename_i k2
   exact⟨by simp only[List.length_set]; exact h.al,h.dl,fun p hp=>by
    rcases List.mem_or_eq_of_mem_set hp with hp | rfl
    ·exact h.ap p hp
    ·exact m3 k2,h.dp,h.e0,h.e1⟩
  ·exact⟨h.al,h.al,h.ap,h.ap,h.e0,h.e1⟩
abbrev rsRow (s:RS):Row :=.box 100 (.d (z3 s))
def dG:List Int→Int→List Int
 | [],n=>[n]
 | a::l,n=>if n<a then n::a::l else a::dG l n
def withD (d:Bool) (l:List Int) (n:Int):List Int:=if d then l else dG l n
abbrev b01 (d:Bool):AV :=.int .i64 (if d then 1 else 0)
theorem oy (n:Int):∀l:List Int,(dG l n).length=l.length+1
 | []=>rfl
 | a::l=>by
  rw[dG]
  split
  ·rfl
  ·rw[List.length_cons,oy n l,List.length_cons]
theorem ownl {r m k s:Nat} {c:Option Nat} (h:m=k):AVLe (.own r 0 m s c) (.own r 0 k s c):=AVLe.of_eq (by rw[h])
def bY (s:RS):List HOp→Nat→Bool
 | [],_=>true
 | o::l,k => !(decide (o.era=s.era)&&(bB o && !s.taken.any (fun y=>decide (y=(k:Int)))))&&bY s l (k+1)
def Co (a b:RS):Bool:=decide (a.era=b.era)&&(decide (a.taken=b.taken)&&(decide (a.arr=b.arr)&&decide (a.dur=b.dur)))
def hitB (s:RS) (o:HOp) (k:Nat) (p:HOp):Bool:=if s.taken.any (fun y=>decide (y=(k:Int))) then befB o p else decide (p.era=s.era)&&(bB p&&befB p o)
def hitL (s:RS) (o:HOp):List HOp→Nat→Bool
 | [],_=>false
 | p::l,k=>hitB s o k p||hitL s o l (k+1)
def takB (s:RS) (l:List HOp) (i:Nat) (o:HOp):Bool:=decide (o.era=s.era)&&(mayB o s.arr.length&&(!s.taken.any (fun y=>decide (y=(i:Int))) && !hitL s o l 0))
def bd (s:RS) (l:List HOp) (i:Nat) (o:HOp):RS×Bool :=
 if takB s l i o then ({ (hapR s o).1 with taken:=dG s.taken i },(hapR s o).2) else (s,false)
abbrev zRS:D :=.cons (i6 0) (.cons (.sc nil_) (.cons (.sc nil_) (.cons (.sc nil_) .nil)))
end Go.Proofs.Ytkehohfgbblokaa
namespace Go.Proofs.Ytkehohfgbblokaa
open Go.Eng Go.Plain
set_option maxHeartbeats 32000000
set_option maxRecDepth 20000
def rAdd (L:List RS) (t:RS):List RS:=if L.any (fun x=>Co x t) then L else L++[t]
def Cq (s:RS) (l:List HOp) (i:Nat) (o:HOp) (L:List RS):List RS:=if (bd s l i o).2 then rAdd L (bd s l i o).1 else L
def zw (most:Nat) (l:List HOp) (s:RS):List HOp→Nat→List RS→List RS
 | [],_,L=>L
 | o::r,i,L=>if L.length≤most then zw most l s r (i+1) (Cq s l i o L) else L
def rCra (l:List HOp) (e:Int) (s:RS) (L:List RS):List RS:=if decide (s.era<e-1)&&bY s l 0 then rAdd L (bx s) else L
def Cr (most:Nat) (l:List HOp) (e:Int) (s:RS) (L:List RS):List RS:=rCra l e s (zw most l s l 0 L)
def rStG (most:Nat) (l:List HOp) (e:Int):Nat→Nat→List RS→List RS
 | 0,_,L=>L
 | n+1,at_,L=>match L[at_]? with
  | none=>L
  | some s=>if L.length≤most then rStG most l e n (at_+1) (Cr most l e s L) else L
def CQ (most:Nat) (l:List HOp) (n:Nat) (e:Int):List RS:=rStG most l e (most+2) 0 [bu n]
structure LOk (n:Nat) (L:List RS):Prop where
 ok:∀(j:Nat) (s:RS),L[j]?=some s→RSOk n s
 tk:∀(j:Nat) (s:RS),L[j]?=some s→s.taken.length≤j
end Go.Proofs.Ytkehohfgbblokaa
namespace Go.Proofs.Ytkehohfgbblokaa
open Go.Eng Go.Plain
set_option maxHeartbeats 32000000
set_option maxRecDepth 20000
abbrev hasB (T:List Int) (i:Int):Bool:=T.any fun y=>decide (y=i)
def tkE (z T:List Int):List UInt8:=z.map fun i=>if hasB T i then 1 else 0
def arE (vs:BMap) (ks:List Int) (A:List (List UInt8)):List UInt8:=ks.flatMap fun k=>dA (valN vs (pgAt A k))
def encS (p:Prep) (ks:List Int) (s:RS):LSt:=⟨s.era,tkE (zOf p s.era) s.taken,arE p.vs ks s.arr,arE p.vs ks s.dur⟩
theorem rr {T:List Int} {i:Int}:hasB T i=true↔i∈T:=by
 simp only[hasB,List.any_eq_true,decide_eq_true_eq]
 exact⟨fun⟨x,h1,h2⟩=>h2 ▸ h1,fun h=>⟨i,h,rfl⟩⟩
theorem cW (T:List Int) (i j:Int):hasB (dG T i) j=(hasB T j||decide (i=j)):=by
 induction T with
 | nil=>simp[dG,hasB]
 | cons a T ih =>
  rw[dG]
  split
  ·simp only[hasB,List.any_cons]
   cases decide (i=j) <;> simp
  ·simp only[hasB,List.any_cons]at ih ⊢
   rw[ih,Bool.or_assoc]
section
variable {f g : Int → List UInt8}
theorem xr (hf:∀k,(f k).length=2):∀ks:List Int,(ks.flatMap f).length=2*ks.length
 | []=>rfl
 | k::ks=>by rw[List.flatMap_cons,List.length_append,hf,xr hf ks,List.length_cons]; omega
theorem ue (hf:∀k,(f k).length=2):∀(ks:List Int) (j:Nat),(ks.flatMap f).take (2*j)=(ks.take j).flatMap f
 | ks,0=>by simp
 | [],j+1=>by simp
 | k::ks,j+1=>by
  rw[List.flatMap_cons,List.take_succ_cons,List.flatMap_cons,←ue hf ks j,List.take_append,hf,show 2*(j+1)-2=2*j by omega,List.take_of_length_le (by rw[hf]; omega)]
theorem qf (hf:∀k,(f k).length=2):∀(ks:List Int) (j:Nat),(ks.flatMap f).drop (2*j)=(ks.drop j).flatMap f
 | ks,0=>by simp
 | [],j+1=>by simp
 | k::ks,j+1=>by
  rw[List.flatMap_cons,List.drop_succ_cons,←qf hf ks j,List.drop_append,hf,show 2*(j+1)-2=2*j by omega,List.drop_of_length_le (by rw[hf]; omega),List.nil_append]
theorem xu (hf:∀k,(f k).length=2) (hg:∀k,(g k).length=2):∀ks:List Int,ks.flatMap f=ks.flatMap g→∀k∈ks,f k=g k
 | [],_,_,h=>by cases h
 | a::ks,h,k,hk=>by
  rw[List.flatMap_cons,List.flatMap_cons]at h
  obtain⟨h1,h2⟩:=List.append_inj h (by rw[hf,hg])
  rcases List.mem_cons.1 hk with rfl | hk
  ·exact h1
  ·exact xu hf hg ks h2 k hk
theorem nZ:∀ks:List Int,(∀k∈ks,f k=g k)→ks.flatMap f=ks.flatMap g
 | [],_=>rfl
 | a::ks,h=>by rw[List.flatMap_cons,List.flatMap_cons,h a List.mem_cons_self,nZ ks fun k hk=>h k (List.mem_cons_of_mem _ hk)]
end
theorem tq {a b:Nat} (ha:a<65536) (hb:b<65536) (h:dA a=dA b):a=b:=by
 unfold dA at h
 simp only[List.cons.injEq,and_true]at h
 have h1:=congrArg UInt8.toNat h.1
 have h2:=congrArg UInt8.toNat h.2
 simp only[UInt8.toNat_ofNat']at h1 h2
 omega
theorem mb (p:HOp→Bool):∀(l:List HOp) (i:Nat),(selI p l i).Pairwise (· < ·)∧∀x∈selI p l i,i≤x
 | [],_=>⟨.nil,fun _ h=>by cases h⟩
 | o::l,i=>by
  obtain⟨h1,h2⟩:=mb p l (i+1)
  unfold selI
  split
  ·exact⟨List.pairwise_cons.2 ⟨fun x hx=>by have:=h2 x hx; omega,h1⟩,fun x hx=>by
    rcases List.mem_cons.1 hx with rfl | hx
    ·exact Nat.le_refl _
    ·have:=h2 x hx; omega⟩
  ·exact⟨h1,fun x hx=>by have:=h2 x hx; omega⟩
theorem uG {l:List Nat} (h:l.Pairwise (· < ·)):(zs l).Pairwise (· < ·):=by
 unfold zs
 rw[List.pairwise_map]
 exact h.imp fun h=>by omega
theorem l8 (P:Int→Bool) (i:Int):∀z:List Int,z.Pairwise (· < ·)→i∈z→P i=false→dG (z.filter P) i=z.filter fun j=>P j||decide (i=j)
 | [],_,h,_=>by cases h
 | a::z,hs,hi,hP=>by
  obtain⟨h1,h2⟩:=List.pairwise_cons.1 hs
  by_cases e:a=i
  ·subst e
   rw[List.filter_cons_of_neg (by rw[hP]; decide),List.filter_cons_of_pos (by simp)]
   have h3:(z.filter fun j=>P j||decide (a=j))=z.filter P:=List.filter_congr fun x hx=>by
    have:=h1 x hx
    rw[dF (by omega),Bool.or_false]
   rw[h3]
   cases h4:z.filter P with
   | nil=>rfl
   | cons b t =>
    have h5:b∈z:=(List.mem_filter.1 (h4 ▸ List.mem_cons_self:b∈z.filter P)).1
    rw[dG,if_pos (h1 b h5)]
  ·have hi2:i∈z:=by
    rcases List.mem_cons.1 hi with h | h
    ·exact absurd h.symm e
    ·exact h
   have ih:=l8 P i z h2 hi2 hP
   have hai:=h1 i hi2
   by_cases hp:P a=true
   ·rw[List.filter_cons_of_pos hp,List.filter_cons_of_pos (by rw[hp]; rfl),dG,if_neg (by omega),ih]
   ·have hp:=Bool.eq_false_iff.2 hp
    rw[List.filter_cons_of_neg (by rw[hp]; decide),List.filter_cons_of_neg (by rw[hp,dF (fun h=>e h.symm)]; decide),ih]
theorem oU {κ ν:Type} [DecidableEq κ] {k:κ} {v:ν}:∀ {m:List (κ×ν)} {q:κ×ν},q∈putA m k v→q∈m∨q.1=k
 | [],q,h=>by simp[putA]at h; exact .inr (by rw[h])
 | (k',v')::m,q,h=>by
  unfold putA at h
  split at h
  ·rename_i e
   rcases List.mem_cons.1 h with rfl | h
   ·exact .inr e.symm
   ·exact .inl (List.mem_cons_of_mem _ h)
  ·rcases List.mem_cons.1 h with rfl | h
   ·exact .inl List.mem_cons_self
   ·rcases oU h with h | h
    ·exact .inl (List.mem_cons_of_mem _ h)
    ·exact .inr h
theorem mh {l:List HOp} {b:Int}:∀(idx:List Nat) (q:IMap×BMap),(∀i∈idx,(opN l i).op.kind≠3→0≤(opN l i).op.index∧(opN l i).op.index<b)→(∀x∈q.1,0≤x.1∧x.1<b)→∀x∈(cC l idx q).1,0≤x.1∧x.1<b
 | [],_,_,h=>h
 | i::idx,q,hi,h=>by
  refine mh idx (numP q.1 (opN l i),numV q.2 (opN l i)) (fun j hj=>hi j (List.mem_cons_of_mem _ hj)) fun x hx=>?_
  simp only at hx
  unfold numP at hx
  split at hx
  ·exact h x hx
  ·rename_i h3
   split at hx
   ·exact h x hx
   ·rcases oU hx with hx | hx
    ·exact h x hx
    ·rw[hx]; exact hi i List.mem_cons_self h3
theorem oV (l:List HOp) (b:Int):∀(e:Nat),∀x∈(cR l b e).pl,0≤x.1∧x.1<b
 | 0,x,h=>by cases h
 | e+1,x,h=>by
  refine mh (l:=l) (mayI l b e) ((cR l b e).pl,(cR l b e).vs) (fun i hi h3=>?_) (oV l b e) x h
  obtain⟨o,ho,_,hm⟩:=c9.1 hi
  have:opN l i=o:=by rw[opN,ho]; rfl
  rw[this]at h3 ⊢
  exact (gX hm).2.2 h3
theorem pp {κ:Type} {k:κ}:∀(ks:List κ) (i:Nat),k∈ks→∃v,(k,v)∈dw ks i
 | [],_,h=>by cases h
 | a::ks,i,h=>by
  rcases List.mem_cons.1 h with rfl | h
  ·exact⟨_,List.mem_cons_self⟩
  ·obtain⟨v,hv⟩:=pp ks (i+1) h
   exact⟨v,List.mem_cons_of_mem _ hv⟩
end Go.Proofs.Ytkehohfgbblokaa
namespace Go.Proofs.Ytkehohfgbblokaa
open Go.Eng Go.Plain
set_option maxHeartbeats 32000000
set_option maxRecDepth 20000
structure ARel (n:Nat) (l:List HOp) (tk:List Bool) (ah:List HOp) (a d:VMap) (pre:List Int) (s:RS):Prop where
 tkl:tk.length=l.length
 tki:∀j,j<l.length→tk[j]?=some (pre.any fun y=>decide (y=(j:Int)))
 any:∀o,ah.any (befB o)=pre.any (befA l o)
 late:∀o,jn ah o=decide (s.era<o.era)
 ord:∀o:HOp,0≤o.era→ah.any (befB o)=false→s.era≤o.era
 av:∀j:Int,0≤j→j<n→getV a j=pgAt s.arr j
 dv:∀j:Int,0≤j→j<n→getV d j=pgAt s.dur j
 ok:RSOk n s
theorem lK (n:Nat) (j:Int):pgAt (List.replicate n zBk) j=zBk:=by
 unfold pgAt
 rw[List.getElem?_replicate]
 split <;> rfl
end Go.Proofs.Ytkehohfgbblokaa
namespace Go.Proofs.Ytkehohfgbblokaa
open Go.Eng Go.Plain
set_option maxHeartbeats 32000000
set_option maxRecDepth 20000
structure Sc (l:List HOp) (n e:Nat) (p:Prep) (ks:List Int) (kv:List (List UInt8)):Prop where
 F:gk l n e p ks kv
 ll:l.length≤8192
 nl:n≤1000000
 el:e≤8200
 kr:∀k∈ks,0≤k∧k<n
section
variable {l : List HOp} {n e : Nat} {p : Prep} {ks : List Int} {kv : List (List UInt8)}
theorem Sc.of (F:gk l n e (cR l n e) ks kv) (hl:l.length≤8192) (hn:n≤1000000) (he:e≤8200):Sc l n e (cR l n e) ks kv :=
 ⟨F,hl,hn,he,fun k hk=>by
  obtain⟨v,hv⟩:=pp ks 0 hk
  rw[←F.pl]at hv
  exact oV l n e _ hv⟩
theorem Sc.kvl (S:Sc l n e p ks kv):kv.length≤8193:=by have:=S.F.vl; have:=m6 l (n:Int) e; have:=S.ll; omega
theorem Sc.val (S:Sc l n e p ks kv) {v:List UInt8} (h:v∈kv):∃j,kv[j]?=some v∧valN p.vs v=j∧j<8193:=by
 obtain⟨j,h1,_,h2⟩:=eO kv 0 h
 have hj:=(List.getElem?_eq_some_iff.1 h1).1
 have:=S.kvl
 refine⟨j,h1,?_,by omega⟩
 rw[valN,S.F.vs,h2,Option.getD_some]
 omega
theorem Sc.val_inj (S:Sc l n e p ks kv) {v w:List UInt8} (h1:v∈kv) (h2:w∈kv) (h:dA (valN p.vs v)=dA (valN p.vs w)):v=w:=by
 obtain⟨i,a1,a2,a3⟩:=S.val h1
 obtain⟨j,b1,b2,b3⟩:=S.val h2
 rw[a2,b2]at h
 have:=tq (by omega) (by omega) h
 subst this
 exact Option.some.inj (a1.symm.trans b1)
theorem Sc.z (S:Sc l n e p ks kv) {k:Int} (h0:0≤k) (h1:k<e):zOf p k=zs (mayI l n k.toNat):=by
 rw[zOf,S.F.opk _ (by omega)]; rfl
theorem Sc.zin (S:Sc l n e p ks kv) {k:Int} (h0:0≤k) (h1:k<e) {i:Int}:i∈zOf p k ↔ ∃(j:Nat) (o:HOp),i=j∧l[j]?=some o∧o.era=k∧mayB o n=true:=by
 rw[S.z h0 h1,zs,List.mem_map]
 constructor
 ·rintro⟨j,hj,rfl⟩
  obtain⟨o,a,b,c⟩:=c9.1 hj
  exact⟨j,o,rfl,a,by omega,c⟩
 ·rintro⟨j,o,rfl,a,b,c⟩
  exact⟨j,c9.2 ⟨o,a,by omega,c⟩,rfl⟩
theorem Sc.zsorted (S:Sc l n e p ks kv) {k:Int} (h0:0≤k) (h1:k<e):(zOf p k).Pairwise (· < ·):=by
 rw[S.z h0 h1]; exact uG (mb _ l 0).1
structure AG (n:Nat) (ks:List Int) (kv:List (List UInt8)) (A:List (List UInt8)):Prop where
 al:A.length=n
 av:∀k∈ks,pgAt A k∈kv
 az:∀k:Int,0≤k→k ∉ ks→pgAt A k=zBk
theorem Sc.zk (S:Sc l n e p ks kv):zBk∈kv:=List.mem_of_getElem? S.F.vz
theorem Sc.agz (S:Sc l n e p ks kv):AG n ks kv (List.replicate n zBk):=
 ⟨List.length_replicate,fun k _=>by rw[lK]; exact S.zk,fun k _ _=>lK n k⟩
theorem pY {A:List (List UInt8)} {i k:Int} {v:List UInt8} (hi:0≤i) (hl:i<A.length) (hk:0≤k):pgAt (A.set i.toNat v) k=if k=i then v else pgAt A k:=by
 unfold pgAt
 by_cases h:k=i
 ·subst h
  rw[if_pos rfl,List.getElem?_set_self (by omega)]; rfl
 ·rw[if_neg h,List.getElem?_set_ne (by omega)]
theorem Sc.agset (S:Sc l n e p ks kv) {A:List (List UInt8)} (h:AG n ks kv A) {i:Int} {v:List UInt8} (hi:i∈ks) (hv:v∈kv):AG n ks kv (A.set i.toNat v):=by
 obtain⟨i0,i1⟩:=S.kr i hi
 have hl:i<A.length:=by rw[h.al]; exact i1
 refine⟨by rw[List.length_set]; exact h.al,fun k hk=>?_,fun k h0 hk=>?_⟩
 ·rw[pY i0 hl (S.kr k hk).1]
  split
  ·exact hv
  ·exact h.av k hk
 ·rw[pY i0 hl h0,if_neg (fun h2:k=i=>hk (h2 ▸ hi))]
  exact h.az k h0 hk
theorem pE (vs:BMap) (A:List (List UInt8)) (k:Int):(dA (valN vs (pgAt A k))).length=2:=rfl
theorem uz (vs:BMap) (ks:List Int) (A:List (List UInt8)):(arE vs ks A).length=2*ks.length:=xr (pE vs A) ks
theorem Sc.arE_inj (S:Sc l n e p ks kv) {A B:List (List UInt8)} (hA:AG n ks kv A) (hB:AG n ks kv B) (h:arE p.vs ks A=arE p.vs ks B):A=B:=by
 have key:∀k:Int,0≤k→pgAt A k=pgAt B k:=fun k h0=>by
  by_cases hk:k∈ks
  ·exact S.val_inj (hA.av k hk) (hB.av k hk) (xu (pE p.vs A) (pE p.vs B) ks h k hk)
  ·rw[hA.az k h0 hk,hB.az k h0 hk]
 apply List.ext_getElem?
 intro j
 by_cases hj:j<n
 ·have:=key j (by omega)
  unfold pgAt at this
  rw[Int.toNat_natCast,List.getElem?_eq_getElem (by rw[hA.al]; exact hj),List.getElem?_eq_getElem (by rw[hB.al]; exact hj)]at this
  rw[List.getElem?_eq_getElem (by rw[hA.al]; exact hj),List.getElem?_eq_getElem (by rw[hB.al]; exact hj)]
  exact congrArg some this
 ·rw[List.getElem?_eq_none (by rw[hA.al]; omega),List.getElem?_eq_none (by rw[hB.al]; omega)]
structure RG (l:List HOp) (n e:Nat) (p:Prep) (ks:List Int) (kv:List (List UInt8)) (s:RS):Prop where
 ok:RSOk n s
 era:s.era<e
 tk:s.taken=(zOf p s.era).filter (hasB s.taken)
 ar:AG n ks kv s.arr
 du:AG n ks kv s.dur
theorem RG.tz {s:RS} (h:RG l n e p ks kv s) {i:Int} (hi:hasB s.taken i=true):i∈zOf p s.era:=by
 have:=rr.1 hi
 rw[h.tk]at this
 exact (List.mem_filter.1 this).1
theorem Sc.first (S:Sc l n e p ks kv) (he:0<e):RG l n e p ks kv (bu n):=
 ⟨.first n,by show (0:Int)<e; omega,by show[]=List.filter _ _; rw[List.filter_eq_nil_iff.2 (fun _ _=>by simp[bu])],S.agz,S.agz⟩
theorem RG.crash {s:RS} (h:RG l n e p ks kv s) (he:s.era+1<e) (h8:e≤8200):RG l n e p ks kv (bx s):=
 ⟨h.ok.crash (by omega),he,by show[]=List.filter _ _; rw[List.filter_eq_nil_iff.2 (fun _ _=>by simp[bx])],h.du,h.du⟩
theorem x7 {z T U:List Int} (h:tkE z T=tkE z U):∀i∈z,hasB T i=hasB U i:=by
 intro i hi
 have:=List.map_inj_left.1 h i hi
 cases h1:hasB T i <;> cases h2:hasB U i <;> simp[h1,h2]at this <;> rfl
theorem Sc.enc_inj (S:Sc l n e p ks kv) {s t:RS} (hs:RG l n e p ks kv s) (ht:RG l n e p ks kv t) (h:encS p ks s=encS p ks t):s=t:=by
 have h1:=congrArg LSt.era h
 have h2:=congrArg LSt.taken h
 have h3:=S.arE_inj hs.ar ht.ar (congrArg LSt.array h)
 have h4:=S.arE_inj hs.du ht.du (congrArg LSt.durable h)
 simp only[encS]at h1 h2
 have h5:s.taken=t.taken:=by
  rw[hs.tk,ht.tk,←h1]
  rw[←h1]at h2
  exact List.filter_congr (x7 h2)
 cases s; cases t
 simp only at h1 h3 h4 h5
 rw[h1,h3,h4,h5]
theorem tx (z:List Int):tkE z []=cJ z.length:=by
 unfold tkE cJ
 induction z with
 | nil=>rfl
 | cons a z ih=>rw[List.map_cons,ih,List.length_cons,List.replicate_succ]; rfl
theorem pu (s:RS):encS p ks (bx s)=⟨s.era+1,cJ (zOf p (s.era+1)).length,(encS p ks s).durable,(encS p ks s).durable⟩:=by
 unfold encS bx
 simp only[tx]
theorem Sc.enc_first (S:Sc l n e p ks kv):encS p ks (bu n)=dq p:=by
 obtain⟨j,h1,h2,_⟩:=S.val S.zk
 have hj:j=0:=by
  have h3:=S.F.vz
  exact (List.getElem?_inj (List.getElem?_eq_some_iff.1 h1).1 S.F.vnd).1 (h1.trans h3.symm)
 subst hj
 have ha:arE p.vs ks (List.replicate n zBk)=cJ (2*p.pl.length):=by
  rw[S.F.pl,eT]
  have:∀ks:List Int,arE p.vs ks (List.replicate n zBk)=cJ (2*ks.length):=by
   intro ks
   induction ks with
   | nil=>rfl
   | cons a ks ih =>
    unfold arE at ih ⊢
    rw[List.flatMap_cons,ih,lK,h2,List.length_cons,show 2*(ks.length+1)=2+2*ks.length by omega]
    unfold cJ
    rw[←List.replicate_append_replicate]; rfl
  exact this ks
 unfold encS dq
 simp only[bu,ha,tx]
theorem Sc.place (S:Sc l n e p ks kv) {i:Int} (h:i∈ks):∃j,ks[j]?=some i∧plN p.pl i=j:=by
 obtain⟨j,h1,_,h2⟩:=eO ks 0 h
 refine⟨j,h1,?_⟩
 rw[plN,S.F.pl,h2,Option.getD_some]
 omega
theorem Sc.ar_get (S:Sc l n e p ks kv) {i:Int} (h:i∈ks) (A:List (List UInt8)):((arE p.vs ks A).drop (2*plN p.pl i)).take 2=dA (valN p.vs (pgAt A i)):=by
 obtain⟨j,h1,h2⟩:=S.place h
 have hlt:=(List.getElem?_eq_some_iff.1 h1).1
 rw[h2,arE,qf (pE p.vs A),List.drop_eq_getElem_cons hlt,(List.getElem?_eq_some_iff.1 h1).2,List.flatMap_cons]
 exact List.take_left' rfl
theorem Sc.ar_set (S:Sc l n e p ks kv) {i:Int} (h:i∈ks) {A:List (List UInt8)} (hl:A.length=n) (v:List UInt8) :
  (arE p.vs ks A).take (2*plN p.pl i)++dA (valN p.vs v)++(arE p.vs ks A).drop (2*plN p.pl i+2)=arE p.vs ks (A.set i.toNat v):=by
 obtain⟨j,h1,h2⟩:=S.place h
 obtain⟨i0,i1⟩:=S.kr i h
 have hlt:=(List.getElem?_eq_some_iff.1 h1).1
 have hn:=S.F.knd
 have hks:ks=ks.take j++i::ks.drop (j+1):=by
  have:=List.take_append_drop j ks
  rw[List.drop_eq_getElem_cons hlt,(List.getElem?_eq_some_iff.1 h1).2]at this
  exact this.symm
 have hni:i ∉ ks.take j∧i ∉ ks.drop (j+1):=by
  rw[hks,List.nodup_append,List.nodup_cons]at hn
  exact⟨fun h=>hn.2.2 i h i List.mem_cons_self rfl,hn.2.1.1⟩
 have hst:∀k:Int,0≤k→pgAt (A.set i.toNat v) k=if k=i then v else pgAt A k:=fun k hk=>pY i0 (by rw[hl]; exact i1) hk
 have hmem:∀k,(k∈ks.take j∨k∈ks.drop (j+1))→0≤k∧k≠i:=fun k hk=>by
  rcases hk with hk | hk
  ·exact⟨(S.kr k (List.mem_of_mem_take hk)).1,fun e=>hni.1 (e ▸ hk)⟩
  ·exact⟨(S.kr k (List.mem_of_mem_drop hk)).1,fun e=>hni.2 (e ▸ hk)⟩
 unfold arE
 rw[h2,show 2*j+2=2*(j+1) by omega,ue (pE p.vs A),qf (pE p.vs A)]
 conv=>rhs; rw[hks]
 rw[List.flatMap_append,List.flatMap_cons,hst i i0,if_pos rfl,List.append_assoc]
 congr 1
 ·exact nZ _ fun k hk=>by
   obtain⟨a,b⟩:=hmem k (.inl hk)
   rw[hst k a,if_neg b]
 ·congr 1
  exact nZ _ fun k hk=>by
   obtain⟨a,b⟩:=hmem k (.inr hk)
   rw[hst k a,if_neg b]
theorem Sc.hap (S:Sc l n e p ks kv) {s:RS} (h:RG l n e p ks kv s) {o:HOp} (hm:mayB o n=true) (hk:o.op.kind≠3→o.op.index∈ks∧numB o∈kv) :
  (hapS p (encS p ks s) o).2=(hapR s o).2∧(hapS p (encS p ks s) o).1=⟨s.era,tkE (zOf p s.era) s.taken,arE p.vs ks (hapR s o).1.arr,arE p.vs ks (hapR s o).1.dur⟩∧AG n ks kv (hapR s o).1.arr∧AG n ks kv (hapR s o).1.dur∧(hapR s o).1.era=s.era:=by
 have hkd:=(gX hm).1
 unfold hapS hapR
 by_cases h3:o.op.kind=3
 ·rw[if_pos h3,if_neg (by omega),if_neg (by omega)]
  exact⟨rfl,rfl,h.ar,h.ar,rfl⟩
 obtain⟨k1,k2⟩:=hk h3
 rw[if_neg h3]
 by_cases h2:o.op.kind=2
 ·rw[if_pos h2,if_neg (by omega),if_pos h2]
  rw[numB,if_pos h2]at k2
  refine⟨rfl,?_,S.agset h.ar k1 k2,h.du,rfl⟩
  simp only[encS]
  rw[S.ar_set k1 h.ar.al]
 ·have h1:o.op.kind=1:=by omega
  rw[if_neg h2,if_pos h1]
  rw[numB,if_neg h2]at k2
  cases hmu:bB o with
  | false =>
   rw[if_neg (by decide)]
   exact⟨rfl,rfl,h.ar,h.du,rfl⟩
  | true =>
   rw[if_pos rfl]
   refine⟨?_,rfl,h.ar,h.du,rfl⟩
   have hg:=S.ar_get k1 s.arr
   rw[Bool.not_true,Bool.false_or]
   by_cases he:pgAt s.arr o.op.index=o.value
   ·rw[dT he]
    exact dT (show ((arE p.vs ks s.arr).drop (2*plN p.pl o.op.index)).take 2=_ by rw[hg,he])
   ·rw[dF he]
    exact dF fun h':((arE p.vs ks s.arr).drop (2*plN p.pl o.op.index)).take 2=_=>he (S.val_inj (h.ar.av _ k1) k2 (hg ▸ h'))
end
end Go.Proofs.Ytkehohfgbblokaa
namespace Go.Proofs.Ytkehohfgbblokaa
open Go.Eng Go.Plain
set_option maxHeartbeats 32000000
set_option maxRecDepth 20000
section
variable {l : List HOp} {n e : Nat} {p : Prep} {ks : List Int} {kv : List (List UInt8)}
theorem sC {z T:List Int} {k:Nat} {i:Int} (h:z[k]?=some i):tkB (tkE z T) (k:Int)=hasB T i∧msB (tkE z T) (k:Int) = !hasB T i:=by
 have h1:(tkE z T)[k]?=some (if hasB T i then 1 else 0):=by rw[tkE,List.getElem?_map,h]; rfl
 unfold tkB msB
 rw[Int.toNat_natCast,h1,Option.getD_some]
 cases hasB T i <;> exact⟨rfl,rfl⟩
theorem fG {s:RS} {o:HOp}:∀(l:List HOp) (k:Nat),hitL s o l k=true ↔ ∃(j:Nat) (q:HOp),l[j]?=some q∧hitB s o (k+j) q=true
 | [],k=>by simp[hitL]
 | a::l,k=>by
  rw[hitL,Bool.or_eq_true,fG l (k+1)]
  constructor
  ·rintro (h | ⟨j,q,h1,h2⟩)
   ·exact⟨0,a,rfl,h⟩
   ·exact⟨j+1,q,by simpa using h1,by rw[show k+(j+1)=k+1+j by omega]; exact h2⟩
  ·rintro⟨j,q,h1,h2⟩
   cases j with
   | zero=>simp at h1; subst h1; exact .inl h2
   | succ j=>exact .inr ⟨j,q,by simpa using h1,by rw[show k+1+j=k+(j+1) by omega]; exact h2⟩
theorem eD {l:List HOp} {i:Nat} {o:HOp} (h:l[i]?=some o):opN l i=o:=by rw[opN,h]; rfl
theorem tN {f:Nat→Bool} {M:List Nat} {z T:List Int} (hz:z=zs M) (g:List UInt8→Int→Bool) (b:Int→Bool) (hg:∀(k:Nat) (i:Int),z[k]?=some i→g (tkE z T) (k:Int)=b i) :
  (posN f M M.length).any (g (tkE z T))=true ↔ ∃m∈M,f m=true∧b (m:Int)=true:=by
 rw[List.any_eq_true]
 constructor
 ·rintro⟨j,h1,h2⟩
  obtain⟨k,rfl,h3,h4⟩:=(jh _).1 h1
  have hk:M[k]?=some M[k]:=List.getElem?_eq_getElem h3
  rw[hk,Option.getD_some]at h4
  rw[hg k (M[k]:Nat) (by rw[hz,zs,List.getElem?_map,hk]; rfl)]at h2
  exact⟨_,List.getElem_mem h3,h4,h2⟩
 ·rintro⟨m,hm,h1,h2⟩
  obtain⟨k,hk⟩:=List.mem_iff_getElem?.1 hm
  refine⟨(k:Int),(jh _).2 ⟨k,rfl,(List.getElem?_eq_some_iff.1 hk).1,by rw[hk]; exact h1⟩,?_⟩
  rw[hg k (m:Int) (by rw[hz,zs,List.getElem?_map,hk]; rfl)]
  exact h2
theorem Sc.skip (S:Sc l n e p ks kv) {s:RS} (h:RG l n e p ks kv s) {k i:Nat} {o:HOp} (hk:(zOf p s.era)[k]?=some (i:Int)) (ho:l[i]?=some o) (he:o.era=s.era) (hm:mayB o n=true) :
  takB s l i o = !jX p (encS p ks s) k i:=by
 have e0:=h.ok.e0
 have e1:=h.era
 obtain⟨E,hE⟩:∃E:Nat,s.era=E:=⟨s.era.toNat,by omega⟩
 have hz:zOf p s.era=zs (mayI l n E):=by rw[S.z e0 e1]; congr 2; omega
 have hEe:E<e:=by omega
 have hi:i∈mayI l n E:=c9.2 ⟨o,ho,by omega,hm⟩
 have hst:=S.F.st E hEe i hi
 have haf:=S.F.af E hEe i hi
 have hah:=S.F.ah E hEe i hi
 have ht:=sC (T:=s.taken) hk
 rw[eD ho]at hst
 have q1:((getA p.af (i:Int)).getD []).any (tkB (tkE (zOf p s.era) s.taken))=true ↔ ∃m∈mayI l n E,afB l i m=true∧hasB s.taken (m:Int)=true:=by
  rw[haf]
  exact tN hz tkB (hasB s.taken) fun k i hk=>(sC hk).1
 have q2:((getA p.ah (i:Int)).getD []).any (msB (tkE (zOf p s.era) s.taken))=true ↔ ∃m∈mayI l n E,ahB l i m=true∧(!hasB s.taken (m:Int))=true:=by
  rw[hah]
  exact tN hz msB (fun i => !hasB s.taken i) fun k i hk=>(sC hk).2
 have hL:hitL s o l 0=((getA p.st (i:Int)).getD false||(((getA p.af (i:Int)).getD []).any (tkB (tkE (zOf p s.era) s.taken))||((getA p.ah (i:Int)).getD []).any (msB (tkE (zOf p s.era) s.taken)))):=by
  rw[Bool.eq_iff_iff,Bool.or_eq_true,Bool.or_eq_true,q1,q2,hst,List.any_eq_true,fG]
  simp only[Nat.zero_add]
  constructor
  ·rintro⟨j,q,h1,h2⟩
   unfold hitB at h2
   cases hj:hasB s.taken (j:Int) with
   | true =>
    rw[if_pos hj]at h2
    have hjz:=h.tz hj
    rw[hz,zs,List.mem_map]at hjz
    obtain⟨j',hj',ej⟩:=hjz
    have:j'=j:=by omega
    subst this
    exact .inr (.inl ⟨j',hj',by rw[afB,eD ho,eD h1]; exact h2,hj⟩)
   | false =>
    rw[if_neg (by have h':(s.taken.any fun y=>decide (y=(j:Int)))=false:=hj; rw[h']; decide),Bool.and_eq_true,Bool.and_eq_true,decide_eq_true_eq]at h2
    obtain⟨h3,h4,h5⟩:=h2
    cases hq:mayB q n with
    | true=>exact .inr (.inr ⟨j,c9.2 ⟨q,h1,by omega,hq⟩,by rw[ahB,eD ho,eD h1,h4,h5]; rfl,by rw[hj]; rfl⟩)
    | false=>exact .inl ⟨j,lu.2 ⟨q,h1,by omega,h4,hq⟩,by rw[eD h1]; exact h5⟩
  ·rintro (⟨j,hj,h1⟩ | ⟨j,hj,h1,h2⟩ | ⟨j,hj,h1,h2⟩)
   ·obtain⟨q,a,b,c,d⟩:=lu.1 hj
    refine⟨j,q,a,?_⟩
    rw[eD a]at h1
    have hnt:hasB s.taken (j:Int)=false:=by
     rw[Bool.eq_false_iff]
     intro hj2
     obtain⟨j',q',e1,e2,e3,e4⟩:=(S.zin e0 h.era).1 (h.tz hj2)
     have:j'=j:=by omega
     subst this
     rw[a]at e2; cases e2
     rw[d]at e4; cases e4
    rw[hitB,if_neg (by have h':(s.taken.any fun y=>decide (y=(j:Int)))=false:=hnt; rw[h']; decide),dT (by omega),c,h1]; rfl
   ·obtain⟨q,a,b,c⟩:=c9.1 hj
    rw[afB,eD ho,eD a]at h1
    exact⟨j,q,a,by rw[hitB,if_pos h2]; exact h1⟩
   ·obtain⟨q,a,b,c⟩:=c9.1 hj
    rw[ahB,eD ho,eD a,Bool.and_eq_true]at h1
    rw[Bool.not_eq_true']at h2
    exact⟨j,q,a,by rw[hitB,if_neg (by have h':(s.taken.any fun y=>decide (y=(j:Int)))=false:=h2; rw[h']; decide),dT (by omega),h1.1,h1.2]; rfl⟩
 rw[takB,dT he,h.ok.al,hm,hL,jX]
 show (true&&(true&&(!hasB s.taken (i:Int)&&_)))=_
 rw[←ht.1]
 simp only[encS]
 cases (getA p.st (i:Int)).getD false <;> cases tkB (tkE (zOf p s.era) s.taken) (k:Int) <;> rfl
theorem x8 {z T:List Int} {k:Nat} {i:Int} (hn:z.Nodup) (h:z[k]?=some i):gS (tkE z T) k=tkE z (dG T i):=by
 have hlt:=(List.getElem?_eq_some_iff.1 h).1
 have hz:z=z.take k++i::z.drop (k+1):=by
  have:=List.take_append_drop k z
  rw[List.drop_eq_getElem_cons hlt,(List.getElem?_eq_some_iff.1 h).2]at this
  exact this.symm
 have hni:i ∉ z.take k∧i ∉ z.drop (k+1):=by
  rw[hz,List.nodup_append,List.nodup_cons]at hn
  exact⟨fun h=>hn.2.2 i h i List.mem_cons_self rfl,hn.2.1.1⟩
 unfold gS tkE
 rw[←List.map_take,←List.map_drop]
 conv=>rhs; rw[hz]
 rw[List.map_append,List.map_cons,cW,dT rfl,Bool.or_true,if_pos rfl,List.append_assoc]
 have hc:∀m,m≠i→hasB (dG T i) m=hasB T m:=fun m hm=>by rw[cW,dF fun e=>hm e.symm,Bool.or_false]
 congr 1
 ·exact List.map_congr_left fun m hm=>by rw[hc m fun e=>hni.1 (e ▸ hm)]
 ·show 1::_=1::_
  congr 1
  exact List.map_congr_left fun m hm=>by rw[hc m fun e=>hni.2 (e ▸ hm)]
theorem Sc.kin (S:Sc l n e p ks kv) {i:Nat} {o:HOp} (h0:0≤o.era) (h1:o.era<e) (ho:l[i]?=some o) (hm:mayB o n=true):o.op.kind≠3→o.op.index∈ks∧numB o∈kv:=by
 have:=S.F.kin o.era.toNat (by omega) i (c9.2 ⟨o,ho,by omega,hm⟩)
 rwa [eD ho]at this
theorem Sc.take (S:Sc l n e p ks kv) {s:RS} (h:RG l n e p ks kv s) {k i:Nat} {o:HOp} (hk:(zOf p s.era)[k]?=some (i:Int)) (ho:l[i]?=some o) (he:o.era=s.era) (hm:mayB o n=true) (ht:takB s l i o=true) :
  (bd s l i o).2=(hapS p (encS p ks s) o).2∧encS p ks (bd s l i o).1 = { (hapS p (encS p ks s) o).1 with taken:=gS (encS p ks s).taken k }∧RG l n e p ks kv (bd s l i o).1:=by
 have e0:=h.ok.e0
 have e1:=h.era
 obtain⟨q1,q2,q3,q4,q5⟩:=S.hap h hm (S.kin (by omega) (by omega) ho hm)
 have hs:=S.zsorted e0 e1
 have hnt:hasB s.taken (i:Int)=false:=by
  unfold takB at ht
  simp only[Bool.and_eq_true,Bool.not_eq_true']at ht
  exact ht.2.2.1
 have hap:=(h.ok.hap (by have:=S.nl; omega) hm).2
 rw[bd,if_pos ht]
 refine⟨q1.symm,?_,⟨⟨hap.al,hap.dl,hap.ap,hap.dp,hap.e0,hap.e1⟩,by show (hapR s o).1.era<_; rw[q5]; exact e1,?_,q3,q4⟩⟩
 ·rw[q2]
  simp only[encS,q5]
  rw[x8 (hs.imp fun h=>by omega) hk]
 ·show dG s.taken i=(zOf p (hapR s o).1.era).filter (hasB (dG s.taken i))
  rw[q5]
  have h2:((zOf p s.era).filter (hasB (dG s.taken i)))=(zOf p s.era).filter fun j=>hasB s.taken j||decide ((i:Int)=j):=List.filter_congr fun x _=>cW _ _ _
  rw[h2,←l8 (hasB s.taken) i _ hs (List.mem_of_getElem? hk) hnt,←h.tk]
theorem Sc.full (S:Sc l n e p ks kv) {s:RS} (h:RG l n e p ks kv s):ja l p.lo (zOf p s.era) (encS p ks s)=bY s l 0:=by
 have e0:=h.ok.e0
 have e1:=h.era
 obtain⟨E,hE⟩:∃E:Nat,s.era=E:=⟨s.era.toNat,by omega⟩
 have hR:∀(l:List HOp) (k:Nat),bY s l k=true ↔ ∀(j:Nat) (q:HOp),l[j]?=some q→q.era=s.era→bB q=true→hasB s.taken ((k+j:Nat):Int)=true:=by
  intro l
  induction l with
  | nil=>intro k; simp[bY]
  | cons a l ih =>
   intro k
   rw[bY,Bool.and_eq_true,ih]
   constructor
   ·rintro⟨h1,h2⟩ j q hj hq hm
    cases j with
    | zero =>
     simp at hj; subst hj
     rw[hm,dT hq]at h1
     simpa using h1
    | succ j=>rw[show k+(j+1)=k+1+j by omega]; exact h2 j q (by simpa using hj) hq hm
   ·intro h1
    refine⟨?_,fun j q hj hq hm=>by rw[show k+1+j=k+(j+1) by omega]; exact h1 (j+1) q (by simpa using hj) hq hm⟩
    cases ha:decide (a.era=s.era) with
    | false=>rfl
    | true =>
     cases hb:bB a with
     | false=>rfl
     | true =>
      have:=h1 0 a rfl (of_decide_eq_true ha) hb
      rw[Nat.add_zero]at this
      have h2:s.taken.any (fun y=>decide (y=(k:Int)))=true:=this
      rw[h2]; rfl
 have hG:∀(z:List Int),j8 l z (tkE z s.taken)=true ↔ ∀i∈z,bB (opN l i.toNat)=true→hasB s.taken i=true:=by
  intro z
  induction z with
  | nil=>simp[j8,tkE]
  | cons a z ih =>
   show j8 l (a::z) ((if hasB s.taken a then 1 else 0)::tkE z s.taken)=true↔_
   rw[j8]
   cases hb:bB (opN l a.toNat) with
   | false =>
    rw[Bool.false_and,if_neg (by decide),ih]
    simp only[List.mem_cons,forall_eq_or_imp,hb]
    simp
   | true =>
    cases ht:hasB s.taken a with
    | true =>
     have h1:(true&&decide ((((if (true:Bool)=true then 1 else 0:UInt8)).toNat:Int)=0))=false:=rfl
     rw[h1,if_neg (by decide),ih]
     simp only[List.mem_cons,forall_eq_or_imp,ht]
     simp
    | false =>
     have h1:(true&&decide ((((if (false:Bool)=true then 1 else 0:UInt8)).toNat:Int)=0))=true:=rfl
     rw[h1,if_pos rfl]
     simp only[List.mem_cons,forall_eq_or_imp,hb,ht]
     simp
 rw[Bool.eq_iff_iff,hR]
 have hlo:=S.F.lo E
 simp only[Nat.zero_add]
 unfold ja
 have hx:(encS p ks s).era=(E:Int):=hE
 rw[hx,hlo,dT (by omega),Bool.true_and]
 have hb0:(badI l n E).isEmpty=true ↔ ∀(j:Nat) (q:HOp),l[j]?=some q→q.era=s.era→bB q=true→mayB q n=true:=by
  rw[List.isEmpty_iff]
  constructor
  ·intro h0 j q hj hq hm
   cases hq2:mayB q n with
   | true=>rfl
   | false =>
    have:j∈badI l n E:=lu.2 ⟨q,hj,by omega,hm,hq2⟩
    rw[h0]at this; cases this
  ·intro h0
   rw[List.eq_nil_iff_forall_not_mem]
   intro j hj
   obtain⟨q,a,b,c,d⟩:=lu.1 hj
   rw[h0 j q a (by omega) c]at d
   cases d
 constructor
 ·intro h1 j q hj hq hm
  split at h1
  ·cases h1
  ·rename_i h2
   simp only[Bool.not_eq_true',Bool.not_eq_false']at h2
   have h2:(badI l n E).isEmpty=true:=by simpa using h2
   have hmay:=hb0.1 h2 j q hj hq hm
   refine (hG (zOf p s.era)).1 h1 j ((S.zin e0 e1).2 ⟨j,q,rfl,hj,hq,hmay⟩) ?_
   rw[Int.toNat_natCast,eD hj]; exact hm
 ·intro h1
  have h2:(badI l n E).isEmpty=true:=hb0.2 fun j q hj hq hm=>by
   obtain⟨j',q',a,b,c,d⟩:=(S.zin e0 e1).1 (h.tz (h1 j q hj hq hm))
   have:j'=j:=by omega
   subst this
   rw[hj]at b; cases b
   exact d
  rw[h2,if_neg (by decide)]
  refine (hG (zOf p s.era)).2 fun i hi hm=>?_
  obtain⟨j,q,rfl,b,c,d⟩:=(S.zin e0 e1).1 hi
  rw[Int.toNat_natCast,eD b]at hm
  exact h1 j q b c hm
end
end Go.Proofs.Ytkehohfgbblokaa
namespace Go.Proofs.Ytkehohfgbblokaa
open Go.Eng Go.Plain
set_option maxHeartbeats 32000000
set_option maxRecDepth 20000
section
variable {l : List HOp} {n e : Nat} {p : Prep} {ks : List Int} {kv : List (List UInt8)}
theorem Sc.sok (S:Sc l n e p ks kv) {s:RS} (h:RG l n e p ks kv s):SOk p e (encS p ks s):=
 ⟨⟨h.ok.e0,h.era⟩,by simp[encS,tkE],by show (arE _ _ _).length=_; rw[uz,S.F.pl,eT],by show (arE _ _ _).length=_; rw[uz,S.F.pl,eT]⟩
structure Sim (l:List HOp) (n e:Nat) (p:Prep) (ks:List Int) (kv:List (List UInt8)) (L:List RS) (q:QS):Prop where
 map:q.2=L.map (encS p ks)
 ok:QOk p e q
 all:∀s∈L,RG l n e p ks kv s
theorem pL {s:RS} {l:List HOp} {i:Nat} {o:HOp} (h:takB s l i o=false):bd s l i o=(s,false):=by rw[bd,h]; rfl
end
end Go.Proofs.Ytkehohfgbblokaa
namespace Go.Proofs.Ytkehohfgbblokaa
open Go.Eng Go.Plain
set_option maxHeartbeats 32000000
set_option maxRecDepth 20000
def rSt1 (s:RS) (l:List HOp) (i:Nat) (o:HOp):List (Int×RS):=if (bd s l i o).2 then[((i:Int),(bd s l i o).1)] else[]
def rStO (l:List HOp) (s:RS):List HOp→Nat→List (Int×RS)
 | [],_=>[]
 | o::r,i=>rSt1 s l i o++rStO l s r (i+1)
def rStC (l:List HOp) (e:Int) (s:RS):List (Int×RS):=if decide (s.era<e-1)&&bY s l 0 then[(-1,bx s)] else[]
def e7 (l:List HOp) (e:Int) (s:RS):List (Int×RS):=rStO l s l 0++rStC l e s
theorem wx {s:RS} {l:List HOp} {i:Nat} {o:HOp} {x:Int×RS}:x∈rSt1 s l i o↔(bd s l i o).2=true∧x=((i:Int),(bd s l i o).1):=by
 unfold rSt1
 split
 ·rename_i h; simp[h]
 ·rename_i h; simp[h]
theorem qK {s:RS} {l:List HOp} {x:Int×RS}:∀(r:List HOp) (i:Nat),l.drop i=r→(x∈rStO l s r i ↔ ∃(j:Nat) (o:HOp),i≤j∧l[j]?=some o∧(bd s l j o).2=true∧x=((j:Int),(bd s l j o).1))
 | [],i,h=>by
  have hl:l.length≤i:=List.drop_eq_nil_iff.1 h
  simp only[rStO,List.not_mem_nil,false_iff]
  rintro⟨j,o,h1,h2,_⟩
  have:=(List.getElem?_eq_some_iff.1 h2).1
  omega
 | o::r,i,h=>by
  have ho:l[i]?=some o:=by
   have:=congrArg (fun x=>x[0]?) h
   simpa using this
  have hr:l.drop (i+1)=r:=by
   have:=congrArg List.tail h
   simpa using this
  rw[rStO,List.mem_append,wx,qK r (i+1) hr]
  constructor
  ·rintro (⟨h1,h2⟩ | ⟨j,o',h1,h2⟩)
   ·exact⟨i,o,Nat.le_refl _,ho,h1,h2⟩
   ·exact⟨j,o',by omega,h2⟩
  ·rintro⟨j,o',h1,h2,h3⟩
   by_cases hj:j=i
   ·subst hj
    rw[ho]at h2; cases h2
    exact .inl h3
   ·exact .inr ⟨j,o',by omega,h2,h3⟩
theorem bK {s:RS} {l:List HOp} {e:Int} {x:Int×RS}:x∈e7 l e s↔(∃(j:Nat) (o:HOp),l[j]?=some o∧(bd s l j o).2=true∧x=((j:Int),(bd s l j o).1))∨(s.era<e-1∧bY s l 0=true∧x=(-1,bx s)):=by
 unfold e7 rStC
 rw[List.mem_append,qK l 0 (List.drop_zero)]
 constructor
 ·rintro (⟨j,o,_,h⟩ | h)
  ·exact .inl ⟨j,o,h⟩
  ·split at h
   ·rename_i hc
    simp only[Bool.and_eq_true,decide_eq_true_eq]at hc
    exact .inr ⟨hc.1,hc.2,List.mem_singleton.1 h⟩
   ·cases h
 ·rintro (⟨j,o,h⟩ | ⟨h1,h2,h3⟩)
  ·exact .inl ⟨j,o,Nat.zero_le _,h⟩
  ·right
   rw[if_pos (by rw[dT h1,h2]; rfl),h3]
   exact List.mem_singleton.2 rfl
inductive lA (l:List HOp) (n:Nat) (e:Int):RS→Prop
 | first:lA l n e (bu n)
 | step {s:RS} (x:Int×RS):lA l n e s→x∈e7 l e s→lA l n e x.2
def StL (p:Prep) (ks:List Int) (st:List LSt):List aI→List (Int×RS)→Prop
 | [],[]=>True
 | y::ys,x::xs=>(y.op=x.1∧0≤y.to∧st[y.to.toNat]?=some (encS p ks x.2))∧StL p ks st ys xs
 | _,_=>False
section
variable {l : List HOp} {n e : Nat} {p : Prep} {ks : List Int} {kv : List (List UInt8)}
theorem StL.ext {a b:List LSt} (h:Ext a b):∀ {ys:List aI} {xs:List (Int×RS)},StL p ks a ys xs→StL p ks b ys xs
 | [],[],_=>trivial
 | y::ys,x::xs,⟨⟨h1,h2,h3⟩,h4⟩=>⟨⟨h1,h2,h _ _ h3⟩,StL.ext h h4⟩
 | [],_::_,h=>h.elim
 | _::_,[],h=>h.elim
theorem StL.app {a:List LSt}:∀ {ys:List aI} {xs:List (Int×RS)} {ys':List aI} {xs':List (Int×RS)},StL p ks a ys xs→StL p ks a ys' xs'→StL p ks a (ys++ys') (xs++xs')
 | [],[],_,_,_,h=>h
 | y::ys,x::xs,_,_,⟨h1,h2⟩,h=>⟨h1,StL.app h2 h⟩
 | [],_::_,_,_,h,_=>h.elim
 | _::_,[],_,_,h,_=>h.elim
theorem StL.mem {a:List LSt}:∀ {ys:List aI} {xs:List (Int×RS)},StL p ks a ys xs→(∀y∈ys,∃x∈xs,y.op=x.1∧0≤y.to∧a[y.to.toNat]?=some (encS p ks x.2))∧(∀x∈xs,∃y∈ys,y.op=x.1∧0≤y.to∧a[y.to.toNat]?=some (encS p ks x.2))
 | [],[],_=>⟨fun _ h=>(by cases h),fun _ h=>(by cases h)⟩
 | y::ys,x::xs,⟨h1,h2⟩=>by
  obtain⟨a1,a2⟩:=StL.mem h2
  refine⟨fun z hz=>?_,fun z hz=>?_⟩
  ·rcases List.mem_cons.1 hz with rfl | hz
   ·exact⟨x,List.mem_cons_self,h1⟩
   ·obtain⟨w,b1,b2⟩:=a1 z hz
    exact⟨w,List.mem_cons_of_mem _ b1,b2⟩
  ·rcases List.mem_cons.1 hz with rfl | hz
   ·exact⟨y,List.mem_cons_self,h1⟩
   ·obtain⟨w,b1,b2⟩:=a2 z hz
    exact⟨w,List.mem_cons_of_mem _ b1,b2⟩
 | [],_::_,h=>h.elim
 | _::_,[],h=>h.elim
def AllE (l:List HOp) (n e:Nat) (p:Prep) (ks:List Int) (kv:List (List UInt8)) (q:QS):Prop:=∀x∈q.2,∃s,RG l n e p ks kv s∧lA l n e s∧encS p ks s=x
theorem od (S:Sc l n e p ks kv) {q:QS} (Q:QOk p e q) (A:AllE l n e p ks kv q) {t:RS} (ht:RG l n e p ks kv t) (hr:lA l n e t) :
  QOk p e (addS q (encS p ks t)).1∧AllE l n e p ks kv (addS q (encS p ks t)).1∧Ext q.2 (addS q (encS p ks t)).1.2∧0≤(addS q (encS p ks t)).2∧(addS q (encS p ks t)).1.2[(addS q (encS p ks t)).2.toNat]?=some (encS p ks t):=by
 obtain⟨a1,a2,a3,a4⟩:=mQ Q (S.sok ht)
 refine⟨a1,fun x hx=>?_,a2,a3,a4⟩
 rcases sl hx with rfl | hx
 ·exact⟨t,ht,hr,rfl⟩
 ·exact A x hx
theorem Sc.ops2 (S:Sc l n e p ks kv) {s:RS} (h:RG l n e p ks kv s) (hR:lA l n e s):∀(r:List HOp) (i k:Nat) (a:QS×List aI),l.drop i=r→(zOf p s.era).drop k=zs (selI (eraB s.era.toNat (fun o=>mayB o n)) r i)→QOk p e a.1→AllE l n e p ks kv a.1 →
  QOk p e (dm p l (encS p ks s) (zs (selI (eraB s.era.toNat (fun o=>mayB o n)) r i)) k a).1∧AllE l n e p ks kv (dm p l (encS p ks s) (zs (selI (eraB s.era.toNat (fun o=>mayB o n)) r i)) k a).1∧Ext a.1.2 (dm p l (encS p ks s) (zs (selI (eraB s.era.toNat (fun o=>mayB o n)) r i)) k a).1.2 ∧
  ∃ys,(dm p l (encS p ks s) (zs (selI (eraB s.era.toNat (fun o=>mayB o n)) r i)) k a).2=a.2++ys∧StL p ks (dm p l (encS p ks s) (zs (selI (eraB s.era.toNat (fun o=>mayB o n)) r i)) k a).1.2 ys (rStO l s r i)
 | [],i,k,a,_,_,Q,A=>⟨Q,A,Ext.refl _,[],(by simp[selI,zs,dm]),trivial⟩
 | o::r,i,k,a,hr,hz,Q,A=>by
  have e0:=h.ok.e0
  have ho:l[i]?=some o:=by
   have:=congrArg (fun x=>x[0]?) hr
   simpa using this
  have hr2:l.drop (i+1)=r:=by
   have:=congrArg List.tail hr
   simpa using this
  cases hP:eraB s.era.toNat (fun o=>mayB o n) o with
  | false =>
   have h1:rSt1 s l i o=[]:=by
    have:takB s l i o=false:=by
     rw[eraB,Bool.and_eq_false_iff]at hP
     unfold takB
     rw[h.ok.al]
     rcases hP with hP | hP
     ·rw[dF (by have:=of_decide_eq_false hP; omega)]; rfl
     ·rw[hP]; simp
    rw[rSt1,pL this]; exact if_neg Bool.false_ne_true
   have hs:selI (eraB s.era.toNat (fun o=>mayB o n)) (o::r) i=selI (eraB s.era.toNat (fun o=>mayB o n)) r (i+1):=by rw[selI,if_neg (by rw[hP]; decide)]
   rw[hs]at hz ⊢
   rw[rStO,h1,List.nil_append]
   exact S.ops2 h hR r (i+1) k a hr2 hz Q A
  | true =>
   have hs:selI (eraB s.era.toNat (fun o=>mayB o n)) (o::r) i=i::selI (eraB s.era.toNat (fun o=>mayB o n)) r (i+1):=by rw[selI,if_pos hP]
   rw[hs]at hz ⊢
   rw[eraB,Bool.and_eq_true,decide_eq_true_eq]at hP
   have he:o.era=s.era:=by omega
   have hk:(zOf p s.era)[k]?=some (i:Int):=by
    have:=congrArg (fun x=>x[0]?) hz
    simpa[zs]using this
   have hz2:(zOf p s.era).drop (k+1)=zs (selI (eraB s.era.toNat (fun o=>mayB o n)) r (i+1)):=by
    have:=congrArg List.tail hz
    simpa[zs]using this
   have hsk:=S.skip h hk ho he hP.2
   have key:QOk p e (opS p l (encS p ks s) k i a).1∧AllE l n e p ks kv (opS p l (encS p ks s) k i a).1∧Ext a.1.2 (opS p l (encS p ks s) k i a).1.2∧∃ys,(opS p l (encS p ks s) k i a).2=a.2++ys∧StL p ks (opS p l (encS p ks s) k i a).1.2 ys (rSt1 s l i o):=by
    unfold opS rSt1
    rw[Int.toNat_natCast,eD ho]
    cases ht:takB s l i o with
    | false =>
     rw[ht]at hsk
     have hsk:jX p (encS p ks s) k i=true:=by simpa using hsk.symm
     rw[if_pos hsk,pL ht]
     exact⟨Q,A,Ext.refl _,[],by simp,trivial⟩
    | true =>
     rw[ht]at hsk
     have hsk:jX p (encS p ks s) k i=false:=by simpa using hsk.symm
     obtain⟨t1,t2,t3⟩:=S.take h hk ho he hP.2 ht
     rw[if_neg (c:=jX p (encS p ks s) k (i:Int)=true) (by rw[hsk]; decide),←t2,←t1]
     cases h2:(bd s l i o).2 with
     | true =>
      obtain⟨b1,b2,b3,b4,b5⟩:=od S Q A t3 (.step ((i:Int),(bd s l i o).1) hR (bK.2 (.inl ⟨i,o,ho,h2,rfl⟩)))
      exact⟨b1,b2,b3,[_],rfl,⟨⟨rfl,b4,b5⟩,trivial⟩⟩
     | false=>exact⟨Q,A,Ext.refl _,[],(by simp),trivial⟩
   obtain⟨k1,k2,k3,ys,k4,k5⟩:=key
   obtain⟨m1,m2,m3,zs',m4,m5⟩:=S.ops2 h hR r (i+1) (k+1) _ hr2 hz2 k1 k2
   have hn:dm p l (encS p ks s) (zs (i::selI (eraB s.era.toNat (fun o=>mayB o n)) r (i+1))) k a=dm p l (encS p ks s) (zs (selI (eraB s.era.toNat (fun o=>mayB o n)) r (i+1))) (k+1) (opS p l (encS p ks s) k i a):=rfl
   rw[hn]
   refine⟨m1,m2,k3.trans m3,ys++zs',by rw[m4,k4,List.append_assoc],?_⟩
   rw[rStO]
   exact (k5.ext m3).app m5
theorem Sc.next2 (S:Sc l n e p ks kv) {s:RS} (h:RG l n e p ks kv s) (hR:lA l n e s) {q:QS} (Q:QOk p e q) (A:AllE l n e p ks kv q) :
  QOk p e (cI p l e (encS p ks s) q).1∧AllE l n e p ks kv (cI p l e (encS p ks s) q).1∧Ext q.2 (cI p l e (encS p ks s) q).1.2∧StL p ks (cI p l e (encS p ks s) q).1.2 (cI p l e (encS p ks s) q).2 (e7 l e s):=by
 have e0:=h.ok.e0
 have hz:zOf p s.era=zs (mayI l n s.era.toNat):=S.z e0 h.era
 have h2:=S.ops2 h hR l 0 0 (q,[]) (by simp) (by rw[List.drop_zero,hz]; rfl) Q A
 have hx:zOf p (encS p ks s).era=zs (selI (eraB s.era.toNat (fun o=>mayB o n)) l 0):=hz
 unfold cI nB e7 rStC
 rw[hx,←show zOf p s.era=zs (selI (eraB s.era.toNat (fun o=>mayB o n)) l 0) from hz,S.full h,show zOf p s.era=zs (selI (eraB s.era.toNat (fun o=>mayB o n)) l 0) from hz]
 have hd:decide ((encS p ks s).era+1<(e:Int))=decide (s.era<(e:Int)-1):=by
  show decide (s.era+1<(e:Int))=_
  by_cases hc:s.era+1<(e:Int)
  ·rw[dT hc,dT (by omega)]
  ·rw[dF hc,dF (by omega)]
 rw[hd]
 obtain⟨k1,k2,k3,ys,k4,k5⟩:=h2
 simp only[List.nil_append]at k4
 have stay:StL p ks (dm p l (encS p ks s) (zs (selI (eraB s.era.toNat (fun o=>mayB o n)) l 0)) 0 (q,[])).1.2 (dm p l (encS p ks s) (zs (selI (eraB s.era.toNat (fun o=>mayB o n)) l 0)) 0 (q,[])).2 (rStO l s l 0++[]):=by rw[k4,List.append_nil]; exact k5
 cases hc:decide (s.era<(e:Int)-1) with
 | false=>exact⟨k1,k2,k3,stay⟩
 | true =>
  rw[Bool.true_and]
  cases hfu:bY s l 0 with
  | true =>
   have hc:=of_decide_eq_true hc
   obtain⟨b1,b2,b3,b4,b5⟩:=od S k1 k2 (h.crash (by omega) S.el) (.step (-1,bx s) hR (bK.2 (.inr ⟨hc,hfu,rfl⟩)))
   rw[pu]at b1 b2 b3 b4 b5
   refine⟨b1,b2,k3.trans b3,?_⟩
   have:StL p ks (addS (dm p l (encS p ks s) (zs (selI (eraB s.era.toNat (fun o=>mayB o n)) l 0)) 0 (q,[])).1 ⟨s.era+1,cJ (zOf p (s.era+1)).length,(encS p ks s).durable,(encS p ks s).durable⟩).1.2 ((dm p l (encS p ks s) (zs (selI (eraB s.era.toNat (fun o=>mayB o n)) l 0)) 0 (q,[])).2++[⟨-1,(addS (dm p l (encS p ks s) (zs (selI (eraB s.era.toNat (fun o=>mayB o n)) l 0)) 0 (q,[])).1 ⟨s.era+1,cJ (zOf p (s.era+1)).length,(encS p ks s).durable,(encS p ks s).durable⟩).2⟩]) (rStO l s l 0++[(-1,bx s)]):=by
    rw[k4]
    exact (k5.ext b3).app ⟨⟨rfl,b4,by rw[pu]; exact b5⟩,trivial⟩
   exact this
  | false=>exact⟨k1,k2,k3,stay⟩
structure SI (l:List HOp) (n e:Nat) (p:Prep) (ks:List Int) (kv:List (List UInt8)) (k:Nat) (q:QS) (sp:List (List aI)):Prop where
 ok:QOk p e q
 al:AllE l n e p ks kv q
 len:sp.length=k
 le:k≤q.2.length
 fst:q.2[0]?=some (encS p ks (bu n))
 rel:∀(j:Nat) (s:RS) (ys:List aI),RG l n e p ks kv s→q.2[j]?=some (encS p ks s)→sp[j]?=some ys→StL p ks q.2 ys (e7 l e s)
theorem Sc.si0 (S:Sc l n e p ks kv) (he:0<e):SI l n e p ks kv 0 (addS ([],[]) (dq p)).1 []:=by
 have Q0:QOk p e ([],[]):=⟨fun _ h=>(by cases h),fun _ _ h=>(by cases h),fun _ _ h=>(by simp at h)⟩
 have h:=od S Q0 (fun _ h=>(by cases h)) (S.first he) .first
 rw[S.enc_first]at h
 refine⟨h.1,h.2.1,rfl,Nat.zero_le _,?_,fun j s ys _ _ h=>by simp at h⟩
 rw[S.enc_first]; rfl
theorem Sc.si1 (S:Sc l n e p ks kv) {k:Nat} {q:QS} {sp:List (List aI)} (I:SI l n e p ks kv k q sp) {x:LSt} (hx:q.2[k]?=some x):SI l n e p ks kv (k+1) (cI p l e x q).1 (sp++[(cI p l e x q).2]):=by
 obtain⟨s,hs,hR,rfl⟩:=I.al x (List.mem_of_getElem? hx)
 obtain⟨a1,a2,a3,a4⟩:=S.next2 hs hR I.ok I.al
 have hk:=(List.getElem?_eq_some_iff.1 (a3 _ _ hx)).1
 refine⟨a1,a2,by simp[I.len],hk,a3 _ _ I.fst,fun j t ys ht hj hy=>?_⟩
 by_cases hjk:j<k
 ·rw[List.getElem?_append_left (by rw[I.len]; exact hjk)]at hy
  have hjq:j<q.2.length:=Nat.lt_of_lt_of_le hjk I.le
  have h1:=a3 _ _ (List.getElem?_eq_getElem hjq)
  rw[hj]at h1
  exact (I.rel j t ys ht (by rw[List.getElem?_eq_getElem hjq]; exact h1.symm) hy).ext a3
 ·have hjl:=(List.getElem?_eq_some_iff.1 hy).1
  rw[List.length_append,I.len]at hjl
  have hjk:j=k:=by simp at hjl; omega
  subst hjk
  rw[List.getElem?_append_right (by rw[I.len]; exact Nat.le_refl _),I.len,Nat.sub_self]at hy
  simp at hy
  subst hy
  rw[a3 _ _ hx]at hj
  have:=S.enc_inj hs ht (Option.some.inj hj)
  subst this
  exact a4
theorem Sc.siG (S:Sc l n e p ks kv) {fuel:Int}:∀(M k:Nat) (q:QS) (sp:List (List aI)) (q':QS) (sp':List (List aI)),SI l n e p ks kv k q sp→fM p l e fuel M k q sp=some (q',sp')→SI l n e p ks kv q'.2.length q' sp'
 | 0,_,_,_,_,_,_,h=>by cases h
 | M+1,k,q,sp,q',sp',I,h=>by
  rw[fM]at h
  cases hx:q.2[k]? with
  | none =>
   rw[hx]at h
   simp only at h
   split at h
   ·cases h
   ·cases h
    have h1:=List.getElem?_eq_none_iff.1 hx
    have h2:=I.le
    have:k=q.2.length:=by omega
    exact this ▸ I
  | some x =>
   rw[hx]at h
   simp only at h
   split at h
   ·cases h
   ·exact S.siG M (k+1) _ _ q' sp' (S.si1 I hx) h
theorem Sc.si (S:Sc l n e p ks kv) (he:0<e) {fuel:Int} {q:QS} {sp:List (List aI)} (h:oG p l e fuel=some (q,sp)):SI l n e p ks kv q.2.length q sp:=S.siG _ _ _ _ _ _ (S.si0 he) h
end
end Go.Proofs.Ytkehohfgbblokaa
namespace Go.Proofs.Ytkehohfgbblokaa
open Go.Eng Go.Plain
set_option maxHeartbeats 32000000
set_option maxRecDepth 20000
inductive EndT (l:List HOp) (e:Int):RS→Prop
 | fin {s:RS}:bY s l 0=true→s.era=e-1→EndT l e s
 | step {s:RS} (x:Int×RS):x∈e7 l e s→EndT l e x.2→EndT l e s
def qL (f:RS→Bool) (l:List HOp) (s:RS):List HOp→Nat→Bool
 | [],_=>false
 | o::r,i=>((bd s l i o).2&&f (bd s l i o).1)||qL f l s r (i+1)
def iZ (l:List HOp) (e:Int):Nat→RS→Bool
 | 0,_=>false
 | N+1,s=>(bY s l 0&&(decide (s.era=e-1)||iZ l e N (bx s)))||qL (iZ l e N) l s l 0
def muR (l:List HOp) (e:Nat) (s:RS):Nat:=(e-s.era.toNat)*(l.length+1)-s.taken.length
theorem oS {f:RS→Bool} {s:RS} {l:List HOp}:∀(r:List HOp) (i:Nat),l.drop i=r→(qL f l s r i=true ↔ ∃(j:Nat) (o:HOp),i≤j∧l[j]?=some o∧(bd s l j o).2=true∧f (bd s l j o).1=true)
 | [],i,h=>by
  have hl:l.length≤i:=List.drop_eq_nil_iff.1 h
  simp only[qL,Bool.false_eq_true,false_iff]
  rintro⟨j,o,h1,h2,_⟩
  have:=(List.getElem?_eq_some_iff.1 h2).1
  omega
 | o::r,i,h=>by
  have ho:l[i]?=some o:=by
   have:=congrArg (fun x=>x[0]?) h
   simpa using this
  have hr:l.drop (i+1)=r:=by
   have:=congrArg List.tail h
   simpa using this
  rw[qL,Bool.or_eq_true,Bool.and_eq_true,oS r (i+1) hr]
  constructor
  ·rintro (⟨h1,h2⟩ | ⟨j,o',h1,h2⟩)
   ·exact⟨i,o,Nat.le_refl _,ho,h1,h2⟩
   ·exact⟨j,o',by omega,h2⟩
  ·rintro⟨j,o',h1,h2,h3⟩
   by_cases hj:j=i
   ·subst hj
    rw[ho]at h2; cases h2
    exact .inl h3
   ·exact .inr ⟨j,o',by omega,h2,h3⟩
section
variable {l : List HOp} {n e : Nat} {p : Prep} {ks : List Int} {kv : List (List UInt8)}
theorem Sc.zlen (S:Sc l n e p ks kv) {k:Int} (h0:0≤k) (h1:k<e):(zOf p k).length≤l.length:=by
 rw[S.z h0 h1,fi,mayI]
 exact fA _ l 0
theorem Sc.tlen (S:Sc l n e p ks kv) {s:RS} (h:RG l n e p ks kv s):s.taken.length≤l.length:=by
 rw[h.tk]
 exact Nat.le_trans (List.length_filter_le _ _) (S.zlen h.ok.e0 h.era)
theorem cG {s:RS} {l:List HOp} {i:Nat} {o:HOp} (h:(bd s l i o).2=true):takB s l i o=true:=by
 cases ht:takB s l i o with
 | true=>rfl
 | false=>rw[pL ht]at h; cases h
theorem fz {s:RS} {l:List HOp} {i:Nat} {o:HOp} (h:takB s l i o=true):o.era=s.era∧mayB o s.arr.length=true∧hasB s.taken (i:Int)=false∧hitL s o l 0=false:=by
 unfold takB at h
 simp only[Bool.and_eq_true,Bool.not_eq_true',decide_eq_true_eq]at h
 exact h
theorem Sc.rgTake (S:Sc l n e p ks kv) {s:RS} (h:RG l n e p ks kv s) {i:Nat} {o:HOp} (ho:l[i]?=some o) (ht:(bd s l i o).2=true):RG l n e p ks kv (bd s l i o).1:=by
 have ht:=cG ht
 obtain⟨h1,h2,_,_⟩:=fz ht
 rw[h.ok.al]at h2
 obtain⟨k,hk⟩:=List.mem_iff_getElem?.1 ((S.zin h.ok.e0 h.era).2 ⟨i,o,rfl,ho,h1,h2⟩)
 exact (S.take h hk ho h1 h2 ht).2.2
theorem eG {s:RS} {l:List HOp} {i:Nat} {o:HOp}:(bd s l i o).1.era=s.era:=by
 unfold bd hapR
 split
 ·simp only
  split
  ·rfl
  ·split <;> rfl
 ·rfl
theorem vY {s:RS} {l:List HOp} {i:Nat} {o:HOp} (h:(bd s l i o).2=true):(bd s l i o).1.taken.length=s.taken.length+1:=by
 rw[bd,if_pos (cG h)]
 exact oy _ _
theorem Sc.rgSteps (S:Sc l n e p ks kv) {s:RS} (h:RG l n e p ks kv s) {x:Int×RS} (hx:x∈e7 l e s):RG l n e p ks kv x.2∧muR l e x.2<muR l e s:=by
 have e0:=h.ok.e0
 have e1:=h.era
 have ht:=S.tlen h
 rcases bK.1 hx with ⟨j,o,h1,h2,rfl⟩ | ⟨h1,h2,rfl⟩
 ·refine⟨S.rgTake h h1 h2,?_⟩
  simp only[muR,eG,vY h2]
  have h3:l.length+1≤(e-s.era.toNat)*(l.length+1):=Nat.le_mul_of_pos_left _ (by omega)
  omega
 ·refine⟨h.crash (by omega) S.el,?_⟩
  simp only[muR,bx,List.length_nil]
  obtain⟨d,hd⟩:∃d,e-s.era.toNat=d+1:=⟨e-s.era.toNat-1,by omega⟩
  rw[show e-(s.era+1).toNat=d by omega,hd,Nat.add_mul]
  omega
theorem EndT.inv {s:RS} (h:EndT l e s):(bY s l 0=true∧s.era=(e:Int)-1)∨∃x∈e7 l e s,EndT l e x.2:=by
 cases h with
 | fin h1 h2=>exact .inl ⟨h1,h2⟩
 | step x h1 h2=>exact .inr ⟨x,h1,h2⟩
theorem Sc.endG (S:Sc l n e p ks kv):∀(N:Nat) (s:RS),RG l n e p ks kv s→muR l e s<N→(iZ l e N s=true↔EndT l e s)
 | 0,s,_,h=>by omega
 | N+1,s,h,hN=>by
  have ih:∀x∈e7 l e s,(iZ l e N x.2=true↔EndT l e x.2):=fun x hx=>by
   obtain⟨h1,h2⟩:=S.rgSteps h hx
   exact S.endG N x.2 h1 (by omega)
  rw[iZ,Bool.or_eq_true,Bool.and_eq_true,Bool.or_eq_true,decide_eq_true_eq,oS l 0 List.drop_zero]
  constructor
  ·rintro (⟨h1,h2 | h2⟩ | ⟨j,o,_,h2,h3,h4⟩)
   ·exact .fin h1 h2
   ·by_cases he:s.era=(e:Int)-1
    ·exact .fin h1 he
    ·have hx:((-1:Int),bx s)∈e7 l e s:=bK.2 (.inr ⟨by have:=h.era; omega,h1,rfl⟩)
     exact .step _ hx ((ih _ hx).1 h2)
   ·have hx:((j:Int),(bd s l j o).1)∈e7 l e s:=bK.2 (.inl ⟨j,o,h2,h3,rfl⟩)
    exact .step _ hx ((ih _ hx).1 h4)
  ·intro hE
   rcases hE.inv with ⟨h1,h2⟩ | ⟨x,hx,h2⟩
   ·exact .inl ⟨h1,.inl h2⟩
   ·have h3:=(ih x hx).2 h2
    rcases bK.1 hx with ⟨j,o,h4,h5,rfl⟩ | ⟨h4,h5,rfl⟩
    ·exact .inr ⟨j,o,Nat.zero_le _,h4,h5,h3⟩
    ·exact .inl ⟨h5,.inr h3⟩
theorem Sc.good (S:Sc l n e p ks kv) {q:QS} {sp:List (List aI)} (I:SI l n e p ks kv q.2.length q sp) (hsp:SpOk q.2 sp):∀(N:Nat) (i:Nat) (s:RS),RG l n e p ks kv s→muR l e s<N→q.2[i]?=some (encS p ks s)→((dX p l e q.2 sp)[i]?=some true↔EndT l e s)
 | 0,_,_,_,h,_=>by omega
 | N+1,i,s,h,hN,hi=>by
  have hil:=(List.getElem?_eq_some_iff.1 hi).1
  obtain⟨ys,hys⟩:∃ys,sp[i]?=some ys:=⟨_,List.getElem?_eq_getElem (by rw[I.len]; exact hil)⟩
  have hst:=I.rel i s ys h hi hys
  obtain⟨m1,m2⟩:=hst.mem
  have hspN:spN sp (i:Int)=ys:=by rw[spN,Int.toNat_natCast,hys]; rfl
  have hstN:stN q.2 (i:Int)=encS p ks s:=by rw[stN,Int.toNat_natCast,hi]; rfl
  have hend:endB p l e (encS p ks s)=true↔(bY s l 0=true∧s.era=(e:Int)-1):=by
   unfold endB
   rw[Bool.and_eq_true,decide_eq_true_eq]
   show s.era=(e:Int)-1∧ja l p.lo (zOf p s.era) (encS p ks s)=true↔_
   rw[S.full h]
   exact⟨fun⟨a,b⟩=>⟨b,a⟩,fun⟨a,b⟩=>⟨b,a⟩⟩
  rw[ru hsp i hil,hspN,hstN,hend]
  constructor
  ·rintro (⟨h1,h2⟩ | ⟨y,hy,h1⟩)
   ·exact .fin h1 h2
   ·obtain⟨x,hx,a1,a2,a3⟩:=m1 y hy
    obtain⟨b1,b2⟩:=S.rgSteps h hx
    exact .step x hx ((S.good I hsp N _ x.2 b1 (by omega) a3).1 h1)
  ·intro hE
   rcases hE.inv with h1 | ⟨x,hx,h2⟩
   ·exact .inl h1
   ·obtain⟨y,hy,a1,a2,a3⟩:=m2 x hx
    obtain⟨b1,b2⟩:=S.rgSteps h hx
    exact .inr ⟨y,hy,(S.good I hsp N _ x.2 b1 (by omega) a3).2 h2⟩
end
end Go.Proofs.Ytkehohfgbblokaa
namespace Go.Proofs.Ytkehohfgbblokaa
open Go.Eng Go.Plain
set_option maxHeartbeats 32000000
set_option maxRecDepth 20000
structure Fwd (n:Nat) (l l':List HOp) (m:Nat→Option Nat):Prop where
 map:∀(j':Nat) (o':HOp),l'[j']?=some o'→(m j'=none∧bB o'=false∧mayB o' n=false)∨∃(j:Nat) (o:HOp),m j'=some j∧l[j]?=some o∧o.era=o'.era∧o.op=o'.op∧(mayB o n=true→mayB o' n=true)∧(bB o'=true→bB o=true∧o.value=o'.value)
 inj:∀(j' k' j:Nat),j'<l'.length→k'<l'.length→m j'=some j→m k'=some j→j'=k'
 onto:∀(j:Nat) (o:HOp),l[j]?=some o→mayB o n=true→∃j',j'<l'.length∧m j'=some j
 bef:∀(j' k' j k:Nat) (o' q' o q:HOp),l'[j']?=some o'→l'[k']?=some q'→m j'=some j→m k'=some k→l[j]?=some o→l[k]?=some q→befB o' q'=true→befB o q=true
structure SimR (l':List HOp) (m:Nat→Option Nat) (s s':RS):Prop where
 era:s'.era=s.era
 arr:s'.arr=s.arr
 dur:s'.dur=s.dur
 tk:∀j',j'<l'.length→hasB s'.taken (j':Int)=match m j' with | some j=>hasB s.taken (j:Int) | none=>false
theorem SimR.crash {l':List HOp} {m:Nat→Option Nat} {s s':RS} (R:SimR l' m s s'):SimR l' m (bx s) (bx s'):=
 ⟨by simp only[bx,R.era],R.dur,R.dur,fun j' _=>by
  simp only[bx]
  cases m j' <;> rfl⟩
theorem xm {o o':HOp} {s s':RS} (ho:o.op=o'.op) (hv:bB o'=true→bB o=true∧o.value=o'.value) (ha:s'.arr=s.arr) (hd:s'.dur=s.dur) (hf:(hapR s o).2=true) :
  (hapR s' o').2=true∧(hapR s' o').1.arr=(hapR s o).1.arr∧(hapR s' o').1.dur=(hapR s o).1.dur:=by
 unfold hapR at hf ⊢
 rw[←ho,ha]
 by_cases k1:o.op.kind=1
 ·rw[if_pos k1]at hf ⊢
  rw[if_pos k1]
  refine⟨?_,ha,hd⟩
  cases hm:bB o' with
  | false=>rfl
  | true =>
   obtain⟨h1,h2⟩:=hv hm
   rw[h1,h2]at hf
   simpa using hf
 ·rw[if_neg k1]at hf ⊢
  rw[if_neg k1]
  by_cases k2:o.op.kind=2
  ·rw[if_pos k2,if_pos k2]; exact⟨rfl,rfl,hd⟩
  ·rw[if_neg k2,if_neg k2]; exact⟨rfl,rfl,rfl⟩
section
variable {l l' : List HOp} {n : Nat} {m : Nat → Option Nat}
theorem jN {s:RS} {l:List HOp}:bY s l 0=true ↔ ∀(j:Nat) (q:HOp),l[j]?=some q→q.era=s.era→bB q=true→hasB s.taken (j:Int)=true:=by
 have key:∀(l:List HOp) (k:Nat),bY s l k=true ↔ ∀(j:Nat) (q:HOp),l[j]?=some q→q.era=s.era→bB q=true→hasB s.taken ((k+j:Nat):Int)=true:=by
  intro l
  induction l with
  | nil=>intro k; simp[bY]
  | cons a l ih =>
   intro k
   rw[bY,Bool.and_eq_true,ih]
   constructor
   ·rintro⟨h1,h2⟩ j q hj hq hm
    cases j with
    | zero =>
     simp at hj; subst hj
     rw[hm,dT hq]at h1
     simpa using h1
    | succ j=>rw[show k+(j+1)=k+1+j by omega]; exact h2 j q (by simpa using hj) hq hm
   ·intro h1
    refine⟨?_,fun j q hj hq hm=>by rw[show k+1+j=k+(j+1) by omega]; exact h1 (j+1) q (by simpa using hj) hq hm⟩
    cases ha:decide (a.era=s.era) with
    | false=>rfl
    | true =>
     cases hb:bB a with
     | false=>rfl
     | true =>
      have:=h1 0 a rfl (of_decide_eq_true ha) hb
      rw[Nat.add_zero]at this
      have h2:s.taken.any (fun y=>decide (y=(k:Int)))=true:=this
      rw[h2]; rfl
 have:=key l 0
 simpa using this
theorem SimR.full (F:Fwd n l l' m) {s s':RS} (R:SimR l' m s s') (h:bY s l 0=true):bY s' l' 0=true:=by
 rw[jN]at h ⊢
 intro j' q' hj' he hm
 have hlt:=(List.getElem?_eq_some_iff.1 hj').1
 rcases F.map j' q' hj' with ⟨_,h2,_⟩ | ⟨j,o,h1,h2,h3,_,_,h6⟩
 ·rw[hm]at h2; cases h2
 ·rw[R.tk j' hlt,h1]
  exact h j o h2 (by rw[h3,he,R.era]) (h6 hm).1
theorem SimR.take (F:Fwd n l l' m) {s s':RS} (R:SimR l' m s s') (hn:s.arr.length=n) {j:Nat} {o:HOp} (ho:l[j]?=some o) (ht:(bd s l j o).2=true) :
  ∃(j':Nat) (o':HOp),l'[j']?=some o'∧(bd s' l' j' o').2=true∧SimR l' m (bd s l j o).1 (bd s' l' j' o').1:=by
 obtain⟨q1,q2,q3,q4⟩:=fz (cG ht)
 rw[hn]at q2
 obtain⟨j',hj',hmj⟩:=F.onto j o ho q2
 obtain⟨o',ho'⟩:∃o',l'[j']?=some o':=⟨_,List.getElem?_eq_getElem hj'⟩
 rcases F.map j' o' ho' with ⟨h1,_⟩ | ⟨j2,o2,h1,h2,h3,h4,h5,h6⟩
 ·rw[hmj]at h1; cases h1
 rw[hmj]at h1
 cases h1
 rw[ho]at h2
 cases h2
 have htk:bd s l j o=({ (hapR s o).1 with taken:=dG s.taken j },(hapR s o).2):=by rw[bd,if_pos (cG ht)]
 have hfit:(hapR s o).2=true:=by rw[htk]at ht; exact ht
 obtain⟨p1,p2,p3⟩:=xm h4 h6 R.arr R.dur hfit
 have hb:takB s' l' j' o'=true:=by
  have hh:hitL s' o' l' 0=false:=by
   rw[Bool.eq_false_iff]
   intro hc
   obtain⟨k',q',hk',hh⟩:=(fG l' 0).1 hc
   rw[Nat.zero_add]at hh
   have hlt:=(List.getElem?_eq_some_iff.1 hk').1
   unfold hitB at hh
   have hR:=R.tk k' hlt
   rcases F.map k' q' hk' with ⟨g1,g2,_⟩ | ⟨k,q,g1,g2,g3,_,_,g6⟩
   ·rw[g1]at hR
    have hR:s'.taken.any (fun y=>decide (y=(k':Int)))=false:=hR
    rw[hR,if_neg Bool.false_ne_true,g2]at hh
    simp at hh
   ·rw[g1]at hR
    simp only at hR
    have:hitL s o l 0=true:=by
     refine (fG l 0).2 ⟨k,q,g2,?_⟩
     rw[Nat.zero_add]
     unfold hitB
     cases hc2:hasB s.taken (k:Int) with
     | true =>
      rw[hc2]at hR
      have hR:s'.taken.any (fun y=>decide (y=(k':Int)))=true:=hR
      have hc2:s.taken.any (fun y=>decide (y=(k:Int)))=true:=hc2
      rw[hR,if_pos rfl]at hh
      rw[hc2,if_pos rfl]
      exact F.bef j' k' j k o' q' o q ho' hk' hmj g1 ho g2 hh
     | false =>
      rw[hc2]at hR
      have hR:s'.taken.any (fun y=>decide (y=(k':Int)))=false:=hR
      have hc2:s.taken.any (fun y=>decide (y=(k:Int)))=false:=hc2
      rw[hR,if_neg Bool.false_ne_true]at hh
      rw[hc2,if_neg Bool.false_ne_true]
      simp only[Bool.and_eq_true,decide_eq_true_eq]at hh ⊢
      exact⟨by rw[g3,hh.1,R.era],(g6 hh.2.1).1,F.bef k' j' k j q' o' q o hk' ho' g1 hmj g2 ho hh.2.2⟩
    rw[q4]at this; cases this
  have ht':hasB s'.taken (j':Int)=false:=by rw[R.tk j' hj',hmj]; exact q3
  unfold takB
  have ht2:s'.taken.any (fun y=>decide (y=(j':Int)))=false:=ht'
  rw[R.arr,hn,h5 q2,hh,ht2,dT (by rw[←h3,q1,R.era])]; rfl
 have htk':bd s' l' j' o'=({ (hapR s' o').1 with taken:=dG s'.taken j' },(hapR s' o').2):=by rw[bd,if_pos hb]
 refine⟨j',o',ho',by rw[htk']; exact p1,⟨by rw[eG,eG,R.era],?_,?_,fun k' hk'=>?_⟩⟩
 ·rw[htk,htk']; exact p2
 ·rw[htk,htk']; exact p3
 ·rw[htk,htk']
  simp only
  rw[cW,R.tk k' hk']
  cases hk:m k' with
  | none =>
   simp only[Bool.false_or]
   refine dF fun h=>?_
   have:j'=k':=by omega
   subst this
   rw[hmj]at hk; cases hk
  | some k =>
   simp only
   rw[cW]
   congr 1
   by_cases h:j=k
   ·subst h
    rw[F.inj j' k' j hj' hk' hmj hk,dT rfl,dT rfl]
   ·rw[dF (show ¬((j:Nat):Int)=k by omega),dF]
    intro h2
    have:j'=k':=by omega
    subst this
    rw[hmj]at hk; cases hk
    exact h rfl
theorem uK {s:RS} {j:Nat} {o:HOp} (hn:s.arr.length=n) (hd:s.dur.length=n):(bd s l j o).1.arr.length=n∧(bd s l j o).1.dur.length=n:=by
 unfold bd hapR
 split
 ·simp only
  split
  ·exact⟨hn,hd⟩
  ·split
   ·exact⟨by simp only[List.length_set]; exact hn,hd⟩
   ·exact⟨hn,hn⟩
 ·exact⟨hn,hd⟩
theorem Fwd.endT (F:Fwd n l l' m) {e:Int} {s:RS} (h:EndT l e s):∀s',SimR l' m s s'→s.arr.length=n→s.dur.length=n→EndT l' e s':=by
 induction h with
 | fin h1 h2=>exact fun s' R _ _=>.fin (R.full F h1) (by rw[R.era]; exact h2)
 | step x hx _ ih =>
  intro s' R hn hd
  rcases bK.1 hx with ⟨j,o,h1,h2,rfl⟩ | ⟨h1,h2,rfl⟩
  ·obtain⟨j',o',g1,g2,g3⟩:=R.take F hn h1 h2
   have hl:=uK (l:=l) (j:=j) (o:=o) hn hd
   exact .step _ (bK.2 (.inl ⟨j',o',g1,g2,rfl⟩)) (ih _ g3 hl.1 hl.2)
  ·exact .step _ (bK.2 (.inr ⟨by rw[R.era]; exact h1,R.full F h2,rfl⟩)) (ih _ R.crash hd hd)
theorem Fwd.first (F:Fwd n l l' m) {e:Int} (h:EndT l e (bu n)):EndT l' e (bu n):=
 F.endT h _ ⟨rfl,rfl,rfl,fun j' _=>by simp only[bu]; cases m j' <;> rfl⟩ List.length_replicate List.length_replicate
end
end Go.Proofs.Ytkehohfgbblokaa
namespace Go.Proofs.Ytkehohfgbblokaa
open Go.Eng Go.Plain
set_option maxHeartbeats 32000000
set_option maxRecDepth 20000
def WInv (l:List HOp) (n:Nat) (s:RS):Prop:=∃st:Int→List UInt8,
 (∀j:Int,0≤j→j<n→st j=zBk∨∃(i:Nat) (o:HOp),l[i]?=some o∧o.era<s.era∧o.op.kind=2∧o.op.index=j∧o.op.data=st j) ∧
 (∀j:Int,0≤j→j<n→pgAt s.arr j=st j∨∃(i:Nat) (o:HOp),l[i]?=some o∧o.era=s.era∧hasB s.taken (i:Int)=true∧o.op.kind=2∧o.op.index=j∧o.op.data=pgAt s.arr j) ∧
 (∀j:Int,0≤j→j<n→pgAt s.dur j=st j∨∃(i:Nat) (o:HOp),l[i]?=some o∧o.era=s.era∧hasB s.taken (i:Int)=true∧o.op.kind=2∧o.op.index=j∧o.op.data=pgAt s.dur j) ∧
 ((∀(i:Nat) (o:HOp),l[i]?=some o→o.era=s.era→o.op.kind≠3)→∀j:Int,0≤j→j<n→pgAt s.dur j=st j)
section
variable {l : List HOp} {n e : Nat} {p : Prep} {ks : List Int} {kv : List (List UInt8)}
theorem sy:WInv l n (bu n):=⟨fun _=>zBk,fun _ _ _=>.inl rfl,fun j _ _=>.inl (lK n j),fun j _ _=>.inl (lK n j),fun _ j _ _=>lK n j⟩
theorem sA {s:RS} (h:WInv l n s):WInv l n (bx s):=by
 obtain⟨st,h1,h2,h3,h4⟩:=h
 refine⟨fun j=>pgAt s.dur j,fun j a b=>?_,fun _ _ _=>.inl rfl,fun _ _ _=>.inl rfl,fun _ _ _ _=>rfl⟩
 have h0:(bx s).era=s.era+1:=rfl
 rw[h0]
 rcases h3 j a b with h5 | ⟨i,o,c1,c2,_,c4,c5,c6⟩
 ·rcases h1 j a b with h6 | ⟨i,o,c1,c2,c3,c4,c5⟩
  ·exact .inl (h5.trans h6)
  ·exact .inr ⟨i,o,c1,by omega,c3,c4,c5.trans h5.symm⟩
 ·exact .inr ⟨i,o,c1,by omega,c4,c5,c6⟩
theorem uH (S:Sc l n e p ks kv) {s:RS} (hs:RG l n e p ks kv s) (h:WInv l n s) {i:Nat} {o:HOp} (ho:l[i]?=some o) (ht:(bd s l i o).2=true):WInv l n (bd s l i o).1:=by
 obtain⟨st,h1,h2,h3,h4⟩:=h
 obtain⟨q1,q2,q3,_⟩:=fz (cG ht)
 rw[hs.ok.al]at q2
 have hmk:=gX q2
 have hera:(bd s l i o).1.era=s.era:=eG
 have htaken:(bd s l i o).1.taken=dG s.taken i:=by rw[bd,if_pos (cG ht)]
 have harr:(bd s l i o).1.arr=(hapR s o).1.arr:=by rw[bd,if_pos (cG ht)]
 have hdur:(bd s l i o).1.dur=(hapR s o).1.dur:=by rw[bd,if_pos (cG ht)]
 have mono:∀k:Nat,hasB s.taken (k:Int)=true→hasB (dG s.taken i) (k:Int)=true:=fun k hk=>by rw[cW,hk]; rfl
 have old:∀(v:List UInt8) (j:Int),(∃(i:Nat) (o:HOp),l[i]?=some o∧o.era=s.era∧hasB s.taken (i:Int)=true∧o.op.kind=2∧o.op.index=j∧o.op.data=v)→∃(k:Nat) (q:HOp),l[k]?=some q∧q.era=s.era∧hasB (dG s.taken i) (k:Int)=true∧q.op.kind=2∧q.op.index=j∧q.op.data=v:=fun v j ⟨k,q,a,b,c,d⟩=>⟨k,q,a,b,mono k c,d⟩
 unfold WInv
 rw[hera,htaken,harr,hdur]
 refine⟨st,h1,fun j a b=>?_,fun j a b=>?_,fun hf j a b=>?_⟩
 ·unfold hapR
  split
  ·exact (h2 j a b).imp id (old _ j)
  ·split
   ·rename_i k2
    obtain⟨i0,i1⟩:=hmk.2.2 (by omega)
    simp only
    rw[pY i0 (by rw[hs.ar.al]; exact i1) a]
    by_cases hj:j=o.op.index
    ·rw[if_pos hj]
     exact .inr ⟨i,o,ho,q1,by rw[cW,dT rfl,Bool.or_true],k2,hj.symm,rfl⟩
    ·rw[if_neg hj]
     exact (h2 j a b).imp id (old _ j)
   ·exact (h2 j a b).imp id (old _ j)
 ·unfold hapR
  split
  ·exact (h3 j a b).imp id (old _ j)
  ·split
   ·exact (h3 j a b).imp id (old _ j)
   ·exact (h2 j a b).imp id (old _ j)
 ·have hk3:=hf i o ho q1
  unfold hapR
  split
  ·exact h4 hf j a b
  ·split
   ·exact h4 hf j a b
   ·omega
theorem lA.winv (S:Sc l n e p ks kv) (he:0<e) {s:RS} (h:lA l n e s):RG l n e p ks kv s∧WInv l n s:=by
 induction h with
 | first=>exact⟨S.first he,sy⟩
 | step x _ hx ih =>
  obtain⟨h1,h2⟩:=ih
  refine⟨(S.rgSteps h1 hx).1,?_⟩
  rcases bK.1 hx with ⟨j,o,a,b,rfl⟩ | ⟨a,b,rfl⟩
  ·exact uH S h1 h2 a b
  ·exact sA h2
def j7 (l:List HOp) (E:Int):Bool:=l.any fun o=>decide (o.era=E)&&decide (o.op.kind=3)
def optO (l:List HOp) (E:Int) (o:HOp):List Nat :=
 if o.era=E then (if o.op.kind=2 then (if j7 l E then[0,1,2,3,4] else[0,1,2]) else[0,1])
 else if o.era<E then[0,1] else[0]
def jd:List (List Nat)→List (List Nat)
 | []=>[[]]
 | os::r=>os.flatMap fun x=>(jd r).map (x :: ·)
theorem ov:∀(oss:List (List Nat)) (w:List Nat),w.length=oss.length→(∀(i:Nat) (x:Nat) (os:List Nat),w[i]?=some x→oss[i]?=some os→x∈os)→w∈jd oss
 | [],[],_,_=>List.mem_singleton.2 rfl
 | [],_::_,h,_=>by simp at h
 | _::_,[],h,_=>by simp at h
 | os::r,x::w,h,hm=>by
  rw[jd,List.mem_flatMap]
  exact⟨x,hm 0 x os rfl rfl,List.mem_map.2 ⟨w,ov r w (by simpa using h) fun i y os' h1 h2=>hm (i+1) y os' (by simpa using h1) (by simpa using h2),rfl⟩⟩
def jZ:List Nat→Nat
 | []=>1
 | a::r=>a*jZ r
theorem mp {α β:Type} {k:Nat} (f:α→List β):∀l:List α,(∀x∈l,(f x).length=k)→(l.flatMap f).length=l.length*k
 | [],_=>by simp
 | a::l,h=>by
  rw[List.flatMap_cons,List.length_append,h a List.mem_cons_self,mp f l fun x hx=>h x (List.mem_cons_of_mem _ hx),List.length_cons,Nat.add_mul,Nat.one_mul,Nat.add_comm]
theorem ow:∀oss:List (List Nat),(jd oss).length=jZ (oss.map List.length)
 | []=>rfl
 | os::r=>by
  rw[jd,mp (k:=(jd r).length) _ os fun x _=>List.length_map ..]
  show _=os.length*jZ (r.map List.length)
  rw[ow r]
def srcD (f:HOp→Nat→Bool):List HOp→List Nat→Option (List UInt8)
 | o::l,x::w=>if f o x then some o.op.data else srcD f l w
 | _,_=>none
theorem lD {f:HOp→Nat→Bool}:∀(l:List HOp) (w:List Nat),(∀(i:Nat) (o:HOp) (x:Nat),l[i]?=some o→w[i]?=some x→f o x=false)→srcD f l w=none
 | [],_,_=>rfl
 | _::_,[],_=>rfl
 | o::l,x::w,h=>by
  rw[srcD,h 0 o x rfl rfl,if_neg Bool.false_ne_true]
  exact lD l w fun i o' x' h1 h2=>h (i+1) o' x' (by simpa using h1) (by simpa using h2)
theorem lC {f:HOp→Nat→Bool} {v:List UInt8}:∀(l:List HOp) (w:List Nat),(∃(i:Nat) (o:HOp) (x:Nat),l[i]?=some o∧w[i]?=some x∧f o x=true)→(∀(i:Nat) (o:HOp) (x:Nat),l[i]?=some o→w[i]?=some x→f o x=true→o.op.data=v)→srcD f l w=some v
 | [],_,⟨i,o,x,h,_⟩,_=>by simp at h
 | _::_,[],⟨i,o,x,_,h,_⟩,_=>by simp at h
 | o::l,x::w,⟨i,o',x',h1,h2,h3⟩,hv=>by
  rw[srcD]
  cases hf:f o x with
  | true=>rw[if_pos rfl,hv 0 o x rfl rfl hf]
  | false =>
   rw[if_neg Bool.false_ne_true]
   cases i with
   | zero =>
    simp at h1 h2
    subst h1 h2
    rw[hf]at h3; cases h3
   | succ i=>exact lC l w ⟨i,o',x',by simpa using h1,by simpa using h2,h3⟩ fun k q y a b c=>hv (k+1) q y (by simpa using a) (by simpa using b) c
def stW (l:List HOp) (E:Int) (w:List Nat) (j:Int):List UInt8:=(srcD (fun o x=>decide (o.era<E)&&(decide (o.op.kind=2)&&(decide (o.op.index=j)&&decide (x=1)))) l w).getD zBk
def arW (l:List HOp) (E:Int) (w:List Nat) (j:Int):List UInt8:=(srcD (fun o x=>decide (o.era=E)&&(decide (o.op.kind=2)&&(decide (o.op.index=j)&&(decide (x=2)||decide (x=4))))) l w).getD (stW l E w j)
def duW (l:List HOp) (E:Int) (w:List Nat) (j:Int):List UInt8:=(srcD (fun o x=>decide (o.era=E)&&(decide (o.op.kind=2)&&(decide (o.op.index=j)&&(decide (x=3)||decide (x=4))))) l w).getD (stW l E w j)
def decW (l:List HOp) (n:Nat) (p:Prep) (E:Int) (w:List Nat):RS :=
 ⟨E,(zOf p E).filter (fun i=>match w[i.toNat]? with | some x=>decide (x≠0) | none=>false),(List.range n).map fun j=>arW l E w (j:Nat),(List.range n).map fun j=>duW l E w (j:Nat)⟩
def symW (a d b:Int→Option Nat) (E:Int) (T:List Int) (i:Nat) (o:HOp):Nat :=
 if o.era=E then (if hasB T (i:Int)=false then 0 else if o.op.kind≠2 then 1
  else if a o.op.index=some i then (if d o.op.index=some i then 4 else 2) else (if d o.op.index=some i then 3 else 1))
 else if o.era<E then (if o.op.kind=2∧b o.op.index=some i then 1 else 0) else 0
theorem wH {A:List (List UInt8)} {f:Int→List UInt8} (hl:A.length=n) (h:∀j:Int,0≤j→j<n→pgAt A j=f j):A=(List.range n).map fun j=>f (j:Nat):=by
 apply List.ext_getElem?
 intro j
 by_cases hj:j<n
 ·have:=h j (by omega) (by omega)
  rw[pgAt,Int.toNat_natCast,List.getElem?_eq_getElem (by omega),Option.getD_some]at this
  rw[List.getElem?_map,List.getElem?_range hj,List.getElem?_eq_getElem (by omega),this]; rfl
 ·rw[List.getElem?_eq_none (by omega),List.getElem?_eq_none (by simp; omega)]
theorem Sc.word (S:Sc l n e p ks kv) {s:RS} (hs:RG l n e p ks kv s) (h:WInv l n s):∃w∈jd (l.map (optO l s.era)),decW l n p s.era w=s:=by
 obtain⟨st,h1,h2,h3,h4⟩:=h
 have e0:=hs.ok.e0
 have cb:∀j:Int,∃y:Option Nat,0≤j→j<n→(y=none∧st j=zBk)∨∃(i:Nat) (o:HOp),y=some i∧l[i]?=some o∧o.era<s.era∧o.op.kind=2∧o.op.index=j∧o.op.data=st j:=fun j=>by
  by_cases hj:0≤j∧j<n
  ·rcases h1 j hj.1 hj.2 with h | ⟨i,o,h⟩
   ·exact⟨none,fun _ _=>.inl ⟨rfl,h⟩⟩
   ·exact⟨some i,fun _ _=>.inr ⟨i,o,rfl,h⟩⟩
  ·exact⟨none,fun a b=>absurd ⟨a,b⟩ hj⟩
 have ca:∀j:Int,∃y:Option Nat,0≤j→j<n→(y=none∧pgAt s.arr j=st j)∨∃(i:Nat) (o:HOp),y=some i∧l[i]?=some o∧o.era=s.era∧hasB s.taken (i:Int)=true∧o.op.kind=2∧o.op.index=j∧o.op.data=pgAt s.arr j:=fun j=>by
  by_cases hj:0≤j∧j<n
  ·rcases h2 j hj.1 hj.2 with h | ⟨i,o,h⟩
   ·exact⟨none,fun _ _=>.inl ⟨rfl,h⟩⟩
   ·exact⟨some i,fun _ _=>.inr ⟨i,o,rfl,h⟩⟩
  ·exact⟨none,fun a b=>absurd ⟨a,b⟩ hj⟩
 have cd:∀j:Int,∃y:Option Nat,(j7 l s.era=false→y=none)∧(0≤j→j<n→(y=none∧pgAt s.dur j=st j)∨∃(i:Nat) (o:HOp),y=some i∧l[i]?=some o∧o.era=s.era∧hasB s.taken (i:Int)=true∧o.op.kind=2∧o.op.index=j∧o.op.data=pgAt s.dur j):=fun j=>by
  by_cases hj:0≤j∧j<n
  ·cases hf:j7 l s.era with
   | false =>
    refine⟨none,fun _=>rfl,fun _ _=>.inl ⟨rfl,h4 (fun i o ho he hk=>?_) j hj.1 hj.2⟩⟩
    have:j7 l s.era=true:=List.any_eq_true.2 ⟨o,List.mem_of_getElem? ho,by rw[dT he,dT hk]; rfl⟩
    rw[hf]at this; cases this
   | true =>
    rcases h3 j hj.1 hj.2 with h | ⟨i,o,h⟩
    ·exact⟨none,fun h=>(by cases h),fun _ _=>.inl ⟨rfl,h⟩⟩
    ·exact⟨some i,fun h=>(by cases h),fun _ _=>.inr ⟨i,o,rfl,h⟩⟩
  ·exact⟨none,fun _=>rfl,fun a b=>absurd ⟨a,b⟩ hj⟩
 obtain⟨b,hb⟩:=Classical.skolem.1 cb
 obtain⟨a,ha⟩:=Classical.skolem.1 ca
 obtain⟨d,hd⟩:=Classical.skolem.1 cd
 obtain⟨w,hw⟩:∃w,w=(List.range l.length).map fun i=>symW a d b s.era s.taken i (opN l i):=⟨_,rfl⟩
 have hwl:w.length=l.length:=by rw[hw]; simp
 have hwg:∀(i:Nat) (o:HOp),l[i]?=some o→w[i]?=some (symW a d b s.era s.taken i o):=fun i o ho=>by
  have hi:=(List.getElem?_eq_some_iff.1 ho).1
  rw[hw,List.getElem?_map,List.getElem?_range hi,←eD ho]; rfl
 have hst:∀j:Int,0≤j→j<n→stW l s.era w j=st j:=fun j j0 j1=>by
  unfold stW
  rcases hb j j0 j1 with ⟨c1,c2⟩ | ⟨i,o,c1,c2,c3,c4,c5,c6⟩
  ·rw[lD,Option.getD_none,c2]
   intro i o x ho hx
   rw[hwg i o ho]at hx; cases hx
   by_cases hE:o.era<s.era
   ·by_cases hk:o.op.kind=2
    ·by_cases hi:o.op.index=j
     ·have:symW a d b s.era s.taken i o=0:=by
       rw[symW,if_neg (by omega),if_pos hE,if_neg (by rw[hi,c1]; rintro⟨_,h⟩; cases h)]
      rw[this]; simp
     ·rw[dF hi]; simp
    ·rw[dF hk]; simp
   ·rw[dF hE]; simp
  ·rw[lC (v:=st j),Option.getD_some]
   ·refine⟨i,o,_,c2,hwg i o c2,?_⟩
    have:symW a d b s.era s.taken i o=1:=by
     rw[symW,if_neg (by omega),if_pos c3,if_pos ⟨c4,by rw[c5,c1]⟩]
    rw[this,dT c3,dT c4,dT c5]; rfl
   ·intro k q x hq hx hf
    simp only[Bool.and_eq_true,decide_eq_true_eq]at hf
    obtain⟨f1,f2,f3,f4⟩:=hf
    rw[hwg k q hq]at hx; cases hx
    rw[symW,if_neg (by omega),if_pos f1]at f4
    split at f4
    ·rename_i hc
     rw[f3,c1]at hc
     have:i=k:=Option.some.inj hc.2
     subst this
     rw[c2]at hq; cases hq
     exact c6
    ·cases f4
 have key:∀(c:Int→Option Nat) (A:Int→List UInt8) (g:Nat→Bool),(∀(i:Nat) (o:HOp),l[i]?=some o→o.era=s.era→o.op.kind=2→hasB s.taken (i:Int)=true→(g (symW a d b s.era s.taken i o)=true↔c o.op.index=some i))→(∀(i:Nat) (o:HOp),l[i]?=some o→o.era=s.era→hasB s.taken (i:Int)=false→g (symW a d b s.era s.taken i o)=false) →
   (∀j:Int,0≤j→j<n→(c j=none∧A j=st j)∨∃(i:Nat) (o:HOp),c j=some i∧l[i]?=some o∧o.era=s.era∧hasB s.taken (i:Int)=true∧o.op.kind=2∧o.op.index=j∧o.op.data=A j) →
   ∀j:Int,0≤j→j<n→A j=(srcD (fun o x=>decide (o.era=s.era)&&(decide (o.op.kind=2)&&(decide (o.op.index=j)&&g x))) l w).getD (stW l s.era w j):=by
  intro c A g hg hg0 hc j j0 j1
  rcases hc j j0 j1 with ⟨c1,c2⟩ | ⟨i,o,c1,c2,c3,c4,c5,c6,c7⟩
  ·rw[lD,Option.getD_none,c2,hst j j0 j1]
   intro i o x ho hx
   rw[hwg i o ho]at hx; cases hx
   by_cases hE:o.era=s.era
   ·by_cases hk:o.op.kind=2
    ·by_cases hi:o.op.index=j
     ·have:g (symW a d b s.era s.taken i o)=false:=by
       cases ht:hasB s.taken (i:Int) with
       | false=>exact hg0 i o ho hE ht
       | true =>
        rw[Bool.eq_false_iff]
        intro h
        rw[hg i o ho hE hk ht,hi,c1]at h
        cases h
      rw[this]; simp
     ·rw[dF hi]; simp
    ·rw[dF hk]; simp
   ·rw[dF hE]; simp
  ·rw[lC (v:=A j),Option.getD_some]
   ·refine⟨i,o,_,c2,hwg i o c2,?_⟩
    rw[(hg i o c2 c3 c5 c4).2 (by rw[c6,c1]),dT c3,dT c5,dT c6]; rfl
   ·intro k q x hq hx hf
    simp only[Bool.and_eq_true,decide_eq_true_eq]at hf
    obtain⟨f1,f2,f3,f4⟩:=hf
    rw[hwg k q hq]at hx; cases hx
    cases ht:hasB s.taken (k:Int) with
    | false=>rw[hg0 k q hq f1 ht]at f4; cases f4
    | true =>
     rw[hg k q hq f1 f2 ht,f3,c1]at f4
     have:i=k:=Option.some.inj f4
     subst this
     rw[c2]at hq; cases hq
     exact c7
 have hAr:=key a (fun j=>pgAt s.arr j) (fun x=>decide (x=2)||decide (x=4)) (fun i o ho hE hk ht=>by
   rw[symW,if_pos hE,if_neg (by rw[ht]; decide),if_neg (by simpa using hk)]
   split
   ·rename_i h5; split <;> simp[h5]
   ·rename_i h5; split <;> simp[h5]) (fun i o ho hE ht=>by rw[symW,if_pos hE,if_pos ht]; rfl) ha
 have hDu:=key d (fun j=>pgAt s.dur j) (fun x=>decide (x=3)||decide (x=4)) (fun i o ho hE hk ht=>by
   rw[symW,if_pos hE,if_neg (by rw[ht]; decide),if_neg (by simpa using hk)]
   split
   ·split
    ·rename_i h5; simp[h5]
    ·rename_i h5; simp[h5]
   ·split
    ·rename_i h5; simp[h5]
    ·rename_i h5; simp[h5]) (fun i o ho hE ht=>by rw[symW,if_pos hE,if_pos ht]; rfl) (fun j=>(hd j).2)
 refine⟨w,ov _ w (by rw[hwl]; simp) fun i x os hx hos=>?_,?_⟩
 ·rw[List.getElem?_map]at hos
  cases ho:l[i]? with
  | none=>rw[ho]at hos; cases hos
  | some o =>
   rw[ho]at hos
   cases hos
   rw[hwg i o ho]at hx; cases hx
   unfold symW optO
   by_cases hE:o.era=s.era
   ·rw[if_pos hE,if_pos hE]
    by_cases hk:o.op.kind=2
    ·rw[if_pos hk,if_neg (show ¬o.op.kind≠2 by simpa using hk)]
     cases hf:j7 l s.era with
     | true =>
      rw[if_pos rfl]
      split
      ·simp
      ·split <;> split <;> simp
     | false =>
      have hn:d o.op.index≠some i:=by rw[(hd o.op.index).1 hf]; intro h; cases h
      rw[if_neg Bool.false_ne_true,if_neg hn,if_neg hn]
      split
      ·simp
      ·split <;> simp
    ·rw[if_neg hk,if_pos (show o.op.kind≠2 from hk)]
     split <;> simp
   ·rw[if_neg hE,if_neg hE]
    split
    ·split <;> simp
    ·simp
 ·have f1:(zOf p s.era).filter (fun i=>match w[i.toNat]? with | some x=>decide (x≠0) | none=>false)=s.taken:=by
   rw[hs.tk]
   refine List.filter_congr fun i hi=>?_
   obtain⟨j,o,rfl,b1,b2,b3⟩:=(S.zin e0 hs.era).1 hi
   rw[Int.toNat_natCast,hwg j o b1,symW,if_pos b2]
   simp only
   cases ht:hasB s.taken (j:Int) with
   | false=>rw[if_pos rfl]; rfl
   | true =>
    rw[if_neg (by decide)]
    split
    ·rfl
    ·split <;> split <;> rfl
  have f2:=wH hs.ar.al hAr
  have f3:=wH hs.du.al hDu
  unfold decW
  rw[f1]
  cases s
  simp only[RS.mk.injEq,true_and]
  exact⟨f2.symm,f3.symm⟩
end
end Go.Proofs.Ytkehohfgbblokaa
namespace Go.Proofs.Ytkehohfgbblokaa
open Go.Eng Go.Plain
set_option maxHeartbeats 32000000
set_option maxRecDepth 20000
def l4 (l:List HOp) (n:Nat) (p:Prep):Nat→List RS
 | 0=>[]
 | k+1=>l4 l n p k++(jd (l.map (optO l (k:Nat)))).map (decW l n p (k:Nat))
theorem qV {α:Type}:∀(xs ys:List α),xs.Nodup→(∀x∈xs,x∈ys)→xs.length≤ys.length
 | [],_,_,_=>Nat.zero_le _
 | x::xs,ys,hn,h=>by
  obtain⟨a,b,rfl⟩:=List.append_of_mem (h x List.mem_cons_self)
  obtain⟨h1,h2⟩:=List.nodup_cons.1 hn
  have:=qV xs (a++b) h2 fun y hy=>by
   have h3:=h y (List.mem_cons_of_mem _ hy)
   rcases List.mem_append.1 h3 with h3 | h3
   ·exact List.mem_append_left _ h3
   ·rcases List.mem_cons.1 h3 with rfl | h3
    ·exact absurd hy h1
    ·exact List.mem_append_right _ h3
  simp only[List.length_append,List.length_cons]at this ⊢
  omega
def Fn (n:Nat):Nat:=if n=0 then 1 else max (3 ^ n) (2*5 ^ (n-1))
theorem qN (l:List HOp) (E:Int):∀r:List HOp,jZ (r.map fun o=>(optO l E o).length)≤2 ^ (r.countP fun o=>decide (o.era<E))*5 ^ (r.countP fun o=>decide (o.era=E)) ∧
    (j7 l E=false→jZ (r.map fun o=>(optO l E o).length)≤2 ^ (r.countP fun o=>decide (o.era<E))*3 ^ (r.countP fun o=>decide (o.era=E))) ∧
    (j7 r E=true→jZ (r.map fun o=>(optO l E o).length)*5≤2*(2 ^ (r.countP fun o=>decide (o.era<E))*5 ^ (r.countP fun o=>decide (o.era=E))))
  | []=>⟨Nat.le_refl _,fun _=>Nat.le_refl _,fun h=>by cases h⟩
  | o::r=>by
    obtain⟨h1,h2,h3⟩:=qN l E r
    have hfl:j7 (o::r) E=((decide (o.era=E)&&decide (o.op.kind=3))||j7 r E):=rfl
    rw[hfl]
    simp only[List.map_cons,jZ,List.countP_cons,decide_eq_true_eq]
    generalize jZ (r.map fun o=>(optO l E o).length)=P at h1 h2 h3 ⊢
    generalize (r.countP fun o=>decide (o.era<E))=a at h1 h2 h3 ⊢
    generalize (r.countP fun o=>decide (o.era=E))=c at h1 h2 h3 ⊢
    by_cases hE:o.era=E
    · rw[if_neg (by omega),if_pos hE,Nat.add_zero,dT hE,Bool.true_and]
      have h5:(optO l E o).length≤5:=by
        unfold optO
        rw[if_pos hE]
        split
        · split <;> simp
        · simp
      have m1:=Nat.mul_le_mul h5 h1
      refine⟨by rw[Nat.pow_succ]; calc _≤_:=m1
                 _=_:=by rw[Nat.mul_left_comm,Nat.mul_comm 5],fun hf=>?_,fun hf=>?_⟩
      · have h6:(optO l E o).length≤3:=by
          unfold optO
          rw[if_pos hE,hf]
          split <;> simp
        have m2:=Nat.mul_le_mul h6 (h2 hf)
        rw[Nat.pow_succ]
        calc _≤_:=m2
          _=_:=by rw[Nat.mul_left_comm,Nat.mul_comm 3]
      · rw[Bool.or_eq_true,decide_eq_true_eq]at hf
        rcases hf with hf | hf
        · have h6:(optO l E o).length=2:=by
            unfold optO
            rw[if_pos hE,if_neg (by omega)]; rfl
          rw[h6,Nat.pow_succ]
          have m2:=Nat.mul_le_mul_left 10 h1
          calc 2*P*5=10*P:=by omega
            _≤_:=m2
            _=_:=by rw[show 10=2*5 by rfl,Nat.mul_assoc 2 5,Nat.mul_left_comm 5,Nat.mul_comm 5]
        · have m2:=Nat.mul_le_mul h5 (h3 hf)
          rw[Nat.pow_succ]
          calc (optO l E o).length*P*5=(optO l E o).length*(P*5):=Nat.mul_assoc ..
            _≤_:=m2
            _=_:=by rw[Nat.mul_left_comm,Nat.mul_left_comm 5,Nat.mul_comm 5]
    · rw[if_neg hE,Nat.add_zero,dF hE,Bool.false_and,Bool.false_or]
      by_cases hlt:o.era<E
      · rw[if_pos hlt]
        have h6:(optO l E o).length=2:=by
          unfold optO
          rw[if_neg hE,if_pos hlt]; rfl
        rw[h6,Nat.pow_succ]
        refine⟨?_,fun hf=>?_,fun hf=>?_⟩
        · have:=Nat.mul_le_mul_left 2 h1
          rw[Nat.mul_comm (2 ^ a) 2,Nat.mul_assoc]; exact this
        · have:=Nat.mul_le_mul_left 2 (h2 hf)
          rw[Nat.mul_comm (2 ^ a) 2,Nat.mul_assoc]; exact this
        · have:=Nat.mul_le_mul_left 2 (h3 hf)
          rw[Nat.mul_comm (2 ^ a) 2,Nat.mul_assoc 2 (2 ^ a),Nat.mul_assoc]; exact this
      · rw[if_neg hlt,Nat.add_zero]
        have h6:(optO l E o).length=1:=by
          unfold optO
          rw[if_neg hE,if_neg hlt]; rfl
        rw[h6,Nat.one_mul]
        exact⟨h1,h2,h3⟩
theorem yn (l:List HOp) (E:Int):jZ ((l.map (optO l E)).map List.length)≤2 ^ (l.countP fun o=>decide (o.era<E))*Fn (l.countP fun o=>decide (o.era=E)):=by
 obtain⟨h1,h2,h3⟩:=qN l E l
 rw[List.map_map]
 have hc:(List.length ∘ optO l E)=fun o=>(optO l E o).length:=rfl
 rw[hc]
 generalize hP:jZ (l.map fun o=>(optO l E o).length)=P at h1 h2 h3 ⊢
 cases hf:j7 l E with
 | false =>
  refine Nat.le_trans (h2 hf) (Nat.mul_le_mul_left _ ?_)
  unfold Fn
  split
  ·rename_i h; rw[h]; exact Nat.le_refl _
  ·exact Nat.le_max_left _ _
 | true =>
  have h4:=h3 hf
  have hpos:0<l.countP fun o=>decide (o.era=E):=by
   obtain⟨o,ho,hb⟩:=List.any_eq_true.1 hf
   rw[Bool.and_eq_true]at hb
   exact List.countP_pos_iff.2 ⟨o,ho,hb.1⟩
  generalize (l.countP fun o=>decide (o.era=E))=c at h4 hpos ⊢
  generalize 2 ^ (l.countP fun o=>decide (o.era<E))=A at h4 ⊢
  obtain⟨d,rfl⟩:∃d,c=d+1:=⟨c-1,by omega⟩
  have h5:P≤A*(2*5 ^ d):=by
   rw[Nat.pow_succ]at h4
   have h6:2*(A*(5 ^ d*5))=A*(2*5 ^ d)*5:=by
    rw[←Nat.mul_assoc A,←Nat.mul_assoc,Nat.mul_left_comm 2]
   rw[h6]at h4
   exact Nat.le_of_mul_le_mul_right h4 (by decide)
  refine Nat.le_trans h5 (Nat.mul_le_mul_left _ ?_)
  unfold Fn
  rw[if_neg (by omega),Nat.add_sub_cancel]
  exact Nat.le_max_right _ _
def cnts:List HEv→Nat→List Nat
 | [],n=>[n]
 | x::r,n=>if x.kind=3 then n::cnts r 0 else if x.kind=1 then cnts r (n+1) else cnts r n
def eraL:List HEv→Int→List Int
 | [],_=>[]
 | x::r,e=>if x.kind=3 then eraL r (e+1) else if x.kind=1 then e::eraL r e else eraL r e
def totN:Nat→List Nat→Nat
 | _,[]=>0
 | pre,n::ns=>pre*Fn n+totN (pre*2 ^ n) ns
def sumL:List Nat→Nat
 | []=>0
 | a::r=>a+sumL r
theorem jR:∀(r:List HEv) (e x:Int),x∈eraL r e→e≤x
 | [],_,_,h=>by cases h
 | y::r,e,x,h=>by
  unfold eraL at h
  split at h
  ·have:=jR r (e+1) x h; omega
  ·split at h
   ·rcases List.mem_cons.1 h with rfl | h
    ·exact Int.le_refl _
    ·exact jR r e x h
   ·exact jR r e x h
theorem lh:∀(r:List HEv) (n:Nat),(cnts r n).length=1+r.countP fun x=>decide (x.kind=3)
 | [],_=>rfl
 | x::r,n=>by
  unfold cnts
  rw[List.countP_cons]
  by_cases h3:x.kind=3
  ·rw[if_pos h3,List.length_cons,lh r,if_pos (dT h3)]; omega
  ·rw[if_neg h3,if_neg (c:=decide (x.kind=3)=true) (by rw[dF h3]; decide)]
   split <;> rw[lh r] <;> omega
theorem li:∀(r:List HEv) (n:Nat) (e:Int) (d:Nat) (c:Nat),(cnts r n)[d]?=some c→c=(eraL r e).countP (fun x=>decide (x=e+d))+(if d=0 then n else 0)∧sumL ((cnts r n).take d)=(eraL r e).countP (fun x=>decide (x<e+d))+(if d=0 then 0 else n)
 | [],n,e,d,c,h=>by
  cases d with
  | zero=>simp[cnts]at h; subst h; simp[eraL,sumL]
  | succ d=>simp[cnts]at h
 | x::r,n,e,d,c,h=>by
  have hge:=jR r (e+1)
  unfold cnts at h ⊢
  unfold eraL
  by_cases h3:x.kind=3
  ·rw[if_pos h3]at h ⊢
   rw[if_pos h3]
   cases d with
   | zero =>
    simp at h; subst h
    have z1:(eraL r (e+1)).countP (fun x=>decide (x=e+((0:Nat):Int)))=0:=List.countP_eq_zero.2 fun y hy=>by
     have:=hge y hy
     simp only[decide_eq_true_eq]; omega
    have z2:(eraL r (e+1)).countP (fun x=>decide (x<e+((0:Nat):Int)))=0:=List.countP_eq_zero.2 fun y hy=>by
     have:=hge y hy
     simp only[decide_eq_true_eq]; omega
    rw[z1,z2]
    exact⟨by simp,by simp[sumL]⟩
   | succ d =>
    obtain⟨a1,a2⟩:=li r 0 (e+1) d c (by simpa using h)
    have e1:e+1+(d:Int)=e+((d+1:Nat):Int):=by omega
    rw[e1]at a1 a2
    refine⟨by rw[a1]; simp,?_⟩
    rw[List.take_succ_cons,sumL,a2]
    simp
    omega
  ·rw[if_neg h3]at h ⊢
   rw[if_neg h3]
   by_cases h1:x.kind=1
   ·rw[if_pos h1]at h ⊢
    rw[if_pos h1]
    obtain⟨a1,a2⟩:=li r (n+1) e d c h
    rw[List.countP_cons,List.countP_cons,a1,a2]
    cases d with
    | zero=>simp; omega
    | succ d =>
     have f1:decide (e=e+((d+1:Nat):Int))=false:=dF (by omega)
     have f2:decide (e<e+((d+1:Nat):Int))=true:=dT (by omega)
     rw[f1,f2]
     simp
     omega
   ·rw[if_neg h1]at h ⊢
    rw[if_neg h1]
    exact li r n e d c h
theorem oA:∀(ns:List Nat) (pre k:Nat) (c:Nat),ns[k]?=some c→totN pre (ns.take (k+1))=totN pre (ns.take k)+pre*2 ^ sumL (ns.take k)*Fn c
 | [],_,k,_,h=>by simp at h
 | n::ns,pre,k,c,h=>by
  cases k with
  | zero=>simp at h; subst h; simp[totN,sumL]
  | succ k =>
   have ih:=oA ns (pre*2 ^ n) k c (by simpa using h)
   rw[List.take_succ_cons,totN,ih,List.take_succ_cons,totN,sumL,Nat.pow_add,Nat.add_assoc,Nat.mul_assoc pre]
theorem im (h:List HEv):∀(m i:Nat) (out:List HOp) (era:Int),(fg h m i out era).map HOp.era=out.map HOp.era++eraL ((h.drop i).take m) era
 | 0,i,out,era=>by rw[fg,List.take_zero]; simp[eraL]
 | m+1,i,out,era=>by
  rw[fg]
  cases hx:h[i]? with
  | none=>rw[List.drop_eq_nil_of_le (List.getElem?_eq_none_iff.1 hx)]; simp[eraL]
  | some x =>
   have hlt:=(List.getElem?_eq_some_iff.1 hx).1
   rw[List.drop_eq_getElem_cons hlt,(List.getElem?_eq_some_iff.1 hx).2,List.take_succ_cons,eraL]
   simp only
   split
   ·exact im h m (i+1) out (era+1)
   ·split
    ·rw[im h m (i+1) _ era,List.map_append]
     have:(mkOp h i x out era).era=era:=by
      unfold mkOp cn bL
      split <;> rfl
     simp[this]
    ·exact im h m (i+1) out era
theorem lL (h:List HEv):(opsR h).map HOp.era=eraL h 0:=by
 rw[opsR,im,List.drop_zero,List.take_length]; rfl
theorem sa (h:List HEv) (n:Nat) (p:Prep):∀k,k≤br h→(l4 (opsR h) n p k).length≤totN 1 ((cnts h 0).take k)
 | 0,_=>Nat.zero_le _
 | k+1,hk=>by
  have ih:=sa h n p k (by omega)
  have hl:k<(cnts h 0).length:=by rw[lh]; unfold br at hk; omega
  have hc:=List.getElem?_eq_getElem hl
  obtain⟨a1,a2⟩:=li h 0 0 k _ hc
  rw[oA _ 1 k _ hc,l4,List.length_append,List.length_map,ow]
  have h1:=yn (opsR h) (k:Nat)
  have h2:(opsR h).countP (fun o=>decide (o.era<((k:Nat):Int)))=sumL ((cnts h 0).take k):=by
   rw[a2,←lL,List.countP_map]
   simp
   rfl
  have h3:(opsR h).countP (fun o=>decide (o.era=((k:Nat):Int)))=(cnts h 0)[k]:=by
   rw[a1,←lL,List.countP_map]
   simp
   rfl
  rw[h2,h3]at h1
  rw[Nat.one_mul]
  omega
def g10 (k:Nat):Nat:=if k % 2=0 then 10*5 ^ (k/2) else 13*5 ^ (k/2)
def Vn (m c n:Nat):Nat:=if m=0 then 25*Fn n else 5 ^ n*g10 (m+3-c)
def chkV:Bool:=(List.range 16).all fun m=>(List.range 4).all fun c=>(List.range 17).all fun n=>decide (n<c)||(decide (16<n+m)||(decide (25*Fn n+2 ^ n*Vn m 0 0≤Vn (m+1) c n)&&((decide (3≤c)||decide (Vn m (c+1) (n+1)≤Vn (m+1) c n))&&(decide (c=0)||decide (Vn m (c-1) n≤Vn (m+1) c n)))))
theorem yX:chkV=true:=by decide+kernel
theorem yY {m c n:Nat} (hm:m<16) (hc:c<4) (hn:n+m≤16) (hcn:c≤n):25*Fn n+2 ^ n*Vn m 0 0≤Vn (m+1) c n∧(c<3→Vn m (c+1) (n+1)≤Vn (m+1) c n)∧(c≠0→Vn m (c-1) n≤Vn (m+1) c n):=by
 have h:=List.all_eq_true.1 (List.all_eq_true.1 (List.all_eq_true.1 yX m (List.mem_range.2 hm)) c (List.mem_range.2 hc)) n (List.mem_range.2 (by omega))
 rw[dF (by omega),dF (by omega)]at h
 simp only[Bool.false_or,Bool.and_eq_true,Bool.or_eq_true,decide_eq_true_eq]at h
 exact⟨h.1,fun h3=>h.2.1.resolve_left (by omega),fun h0=>h.2.2.resolve_left h0⟩
def bP (p:List HEv) (c:Int):Nat:=if pend p c<0 then 0 else 1
def cntP (p:List HEv):Nat:=bP p 0+bP p 1+bP p 2
def Cl3 (h:List HEv):Prop:=∀x∈h,x.kind≠3→0≤x.client∧x.client<3
theorem pD (p:List HEv) (c:Int):bP p c≤1:=by unfold bP; split <;> omega
theorem tB:∀(r p:List HEv) (n pre:Nat),cv (p++r)→Cl3 (p++r)→n+r.length≤16→cntP p≤n→25*totN pre (cnts r n)≤pre*Vn r.length (cntP p) n
 | [],p,n,pre,_,_,_,_=>by
  simp only[cnts,totN,List.length_nil,Vn,if_true,Nat.add_zero]
  rw[Nat.mul_left_comm]
  exact Nat.le_refl _
 | x::r,p,n,pre,hA,hC,hn,hc=>by
  have hf:fitB p x=true:=by
   have:=hA p.length x (by rw[List.getElem?_append_right (Nat.le_refl _),Nat.sub_self]; rfl)
   rwa [List.take_left' rfl]at this
  have hA':cv ((p++[x])++r):=by rw[List.append_assoc]; exact hA
  have hC':Cl3 ((p++[x])++r):=by rw[List.append_assoc]; exact hC
  have b0:=pD p 0
  have b1:=pD p 1
  have b2:=pD p 2
  have hc3:cntP p<4:=by unfold cntP; omega
  rw[List.length_cons]at hn ⊢
  have hK:=yY (m:=r.length) (c:=cntP p) (n:=n) (by omega) hc3 (by omega) hc
  rw[cnts]
  unfold fitB at hf
  by_cases k1:x.kind=1
  ·rw[if_pos k1]at hf
   rw[if_neg (by omega),if_pos k1]
   unfold fit1 at hf
   simp only[Bool.and_eq_true,decide_eq_true_eq]at hf
   have hp:=hf.1.1.1.2
   have hps:∀d:Int,bP (p++[x]) d=if x.client=d then 1 else bP p d:=fun d=>by
    unfold bP
    rw[dL,e8,if_neg (c:=x.kind=3) (by omega),if_pos k1]
    by_cases hd:x.client=d
    ·rw[if_pos hd,if_pos hd,if_neg (by omega)]
    ·rw[if_neg hd,if_neg hd]
   have hz:bP p x.client=0:=by unfold bP; rw[if_pos hp]
   obtain⟨c0,c1⟩:=hC x (by simp) (by omega)
   have hcnt:cntP (p++[x])=cntP p+1:=by
    unfold cntP
    rw[hps,hps,hps]
    rcases (by omega:x.client=0∨x.client=1∨x.client=2)with h | h | h <;> rw[h]at hz ⊢ <;> simp <;> omega
   have hlt:cntP p<3:=by
    have b0:=pD (p++[x]) 0
    have b1:=pD (p++[x]) 1
    have b2:=pD (p++[x]) 2
    have:cntP (p++[x])≤3:=by unfold cntP; omega
    omega
   have ih:=tB r (p++[x]) (n+1) pre hA' hC' (by omega) (by omega)
   rw[hcnt]at ih
   exact Nat.le_trans ih (Nat.mul_le_mul_left _ (hK.2.1 hlt))
  ·rw[if_neg k1]at hf
   by_cases k2:x.kind=2
   ·rw[if_pos k2]at hf
    rw[if_neg (by omega),if_neg k1]
    unfold fit2 at hf
    simp only[Bool.and_eq_true,decide_eq_true_eq]at hf
    have hp:¬pend p x.client<0:=by
     have:=hf.1.1.1.2
     simpa using this
    have hps:∀d:Int,bP (p++[x]) d=if x.client=d then 0 else bP p d:=fun d=>by
     unfold bP
     rw[dL,e8,if_neg (c:=x.kind=3) (by omega),if_neg (c:=x.kind=1) (by omega),if_pos k2]
     by_cases hd:x.client=d
     ·rw[if_pos hd,if_pos hd,if_pos (by omega)]
     ·rw[if_neg hd,if_neg hd]
    have hz:bP p x.client=1:=by unfold bP; rw[if_neg hp]
    obtain⟨c0,c1⟩:=hC x (by simp) (by omega)
    have hcnt:cntP (p++[x])+1=cntP p:=by
     unfold cntP
     rw[hps,hps,hps]
     rcases (by omega:x.client=0∨x.client=1∨x.client=2)with h | h | h <;> rw[h]at hz ⊢ <;> simp <;> omega
    have ih:=tB r (p++[x]) n pre hA' hC' (by omega) (by omega)
    rw[show cntP (p++[x])=cntP p-1 by omega]at ih
    exact Nat.le_trans ih (Nat.mul_le_mul_left _ (hK.2.2 (by omega)))
   ·rw[if_neg k2]at hf
    by_cases k3:x.kind=3
    ·rw[if_pos k3]
     have hps:∀d:Int,bP (p++[x]) d=0:=fun d=>by
      unfold bP
      rw[dL,e8,if_pos k3]; rfl
     have hcnt:cntP (p++[x])=0:=by unfold cntP; rw[hps,hps,hps]
     have ih:=tB r (p++[x]) 0 (pre*2 ^ n) hA' hC' (by omega) (by omega)
     rw[hcnt]at ih
     rw[totN,Nat.mul_add,Nat.mul_left_comm 25 pre]
     have h1:=Nat.mul_le_mul_left pre hK.1
     rw[Nat.mul_add,←Nat.mul_assoc pre (2 ^ n)]at h1
     omega
    ·rw[if_neg k3]at hf; cases hf
section
variable {n : Nat} {p : Prep} {ks : List Int} {kv : List (List UInt8)}
theorem Sc.count {h:List HEv} (S:Sc (opsR h) n (br h) p ks kv) (he:0<br h) (hA:cv h) (hC:Cl3 h) (hl:h.length≤16) {k:Nat} {q:QS} {sp:List (List aI)} (I:SI (opsR h) n (br h) p ks kv k q sp):q.2.length≤1015625:=by
 have h1:q.2.length≤((l4 (opsR h) n p (br h)).map (encS p ks)).length:=by
  refine qV _ _ ?_ fun x hx=>?_
  ·refine List.pairwise_iff_getElem.2 fun i j hi hj hij hne=>?_
   have a:=I.ok.uq i _ (List.getElem?_eq_getElem hi)
   have b:=I.ok.uq j _ (List.getElem?_eq_getElem hj)
   rw[hne,b]at a
   have:=Option.some.inj a
   omega
  ·obtain⟨s,hs,hR,rfl⟩:=I.al x hx
   obtain⟨w,hw,hd⟩:=S.word hs (hR.winv S he).2
   refine List.mem_map.2 ⟨s,?_,rfl⟩
   have e0:=hs.ok.e0
   have e1:=hs.era
   have key:∀k:Nat,s.era<k→s∈l4 (opsR h) n p k:=by
    intro k
    induction k with
    | zero=>intro h; omega
    | succ k ih =>
     intro hk
     rw[l4,List.mem_append]
     by_cases h2:s.era<k
     ·exact .inl (ih h2)
     ·have h3:s.era=(k:Nat):=by omega
      rw[h3]at hw hd
      exact .inr (List.mem_map.2 ⟨w,hw,hd⟩)
   exact key _ e1
 rw[List.length_map]at h1
 have h2:=sa h n p (br h) (Nat.le_refl _)
 rw[List.take_of_length_le (by rw[lh]; exact Nat.le_refl _)]at h2
 have h3:=tB h [] 0 1 hA hC (by omega) (by rw[show cntP []=0 from rfl]; exact Nat.le_refl _)
 rw[show cntP []=0 from rfl,Nat.one_mul]at h3
 have h4:Vn h.length 0 0≤25*1015625:=by
  have key:∀m,m≤16→Vn m 0 0≤25*1015625:=by
   intro m hm
   have:(List.range 17).all (fun m=>decide (Vn m 0 0≤25*1015625))=true:=by decide+kernel
   exact of_decide_eq_true (List.all_eq_true.1 this m (List.mem_range.2 (by omega)))
  exact key _ hl
 omega
end
end Go.Proofs.Ytkehohfgbblokaa
namespace Go.Proofs.Ytkehohfgbblokaa
open Go.Eng Go.Plain
set_option maxHeartbeats 32000000
set_option maxRecDepth 20000
inductive NowT (l:List HOp) (e:Int):RS→Prop
 | fin {s:RS}:bY s l 0=true→s.era=e-1→NowT l e s
 | step {s:RS}:bY s l 0=true→s.era<e-1→NowT l e (bx s)→NowT l e s
inductive CrP (l:List HOp) (e:Int):RS→RS→Prop
 | refl (s:RS):CrP l e s s
 | step {s t:RS}:bY s l 0=true→s.era<e-1→CrP l e (bx s) t→CrP l e s t
def crF (l:List HOp) (E:Int):Nat→RS→RS
 | 0,t=>t
 | N+1,t=>if decide (t.era<E)&&bY t l 0 then crF l E N (bx t) else t
def jp (f:Nat→HOp→Bool):List HOp→Nat→Int
 | [],_ => -1
 | o::r,i=>if f i o then (i:Int) else jp f r (i+1)
def jr (l:List HOp) (e M:Nat) (s:RS) (i:Nat) (o:HOp):Bool:=(bd (crF l o.era e s) l i o).2&&iZ l e M (bd (crF l o.era e s) l i o).1
def lJ (l:List HOp) (n e M:Nat):Nat→RS→List Int→List Int×Bool
 | 0,_,_=>([],false)
 | N+1,s,out=>if wy n n l out=0 then (out,true) else
  match l[(jp (jr l e M s) l 0).toNat]? with
  | none=>([],false)
  | some o=>if jp (jr l e M s) l 0<0 then ([],false) else lJ l n e M N (bd (cY o.era s) l (jp (jr l e M s) l 0).toNat o).1 (out++[jp (jr l e M s) l 0])
theorem rz {s:RS}:∀(l:List HOp) (k:Nat),bY s l k=true ↔ ∀(j:Nat) (q:HOp),l[j]?=some q→q.era=s.era→bB q=true→hasB s.taken ((k+j:Nat):Int)=true:=by
 intro l
 induction l with
 | nil=>intro k; simp[bY]
 | cons a l ih =>
  intro k
  rw[bY,Bool.and_eq_true,ih]
  constructor
  ·rintro⟨h1,h2⟩ j q hj hq hm
   cases j with
   | zero =>
    simp at hj; subst hj
    rw[hm,dT hq]at h1
    simpa using h1
   | succ j=>rw[show k+(j+1)=k+1+j by omega]; exact h2 j q (by simpa using hj) hq hm
  ·intro h1
   refine⟨?_,fun j q hj hq hm=>by rw[show k+1+j=k+(j+1) by omega]; exact h1 (j+1) q (by simpa using hj) hq hm⟩
   cases ha:decide (a.era=s.era) with
   | false=>rfl
   | true =>
    cases hb:bB a with
    | false=>rfl
    | true =>
     have:=h1 0 a rfl (of_decide_eq_true ha) hb
     rw[Nat.add_zero]at this
     have h2:s.taken.any (fun y=>decide (y=(k:Int)))=true:=this
     rw[h2]; rfl
section
variable {l : List HOp} {n e : Nat} {p : Prep} {ks : List Int} {kv : List (List UInt8)}
theorem CrP.snoc {E:Int} {s t:RS} (h:CrP l E s t) (h1:bY t l 0=true) (h2:t.era<E-1):CrP l E s (bx t):=by
 induction h with
 | refl s=>exact .step h1 h2 (.refl _)
 | step a b _ ih=>exact .step a b (ih h1 h2)
theorem NowT.inv {E:Int} {s:RS} (h:NowT l E s):bY s l 0=true∧(s.era=E-1∨s.era<E-1∧NowT l E (bx s)):=by
 cases h with
 | fin h1 h2=>exact⟨h1,.inl h2⟩
 | step h1 h2 h3=>exact⟨h1,.inr ⟨h2,h3⟩⟩
theorem CrP.now {E:Int} {s t:RS} (h:CrP l E s t):NowT l E s↔NowT l E t:=by
 induction h with
 | refl s=>exact Iff.rfl
 | step a b _ ih =>
  rw[←ih]
  constructor
  ·intro h
   rcases h.inv.2 with h | h
   ·omega
   ·exact h.2
  ·exact fun h=>.step a b h
theorem CrP.era_le {E:Int} {s t:RS} (h:CrP l E s t):s.era≤t.era:=by
 induction h with
 | refl s=>exact Int.le_refl _
 | step a b _ ih=>simp only[bx]at ih; omega
theorem CrP.rg (S:Sc l n e p ks kv) {s t:RS} (h:CrP l e s t):RG l n e p ks kv s→RG l n e p ks kv t∧muR l e t≤muR l e s:=by
 induction h with
 | refl s=>exact fun h=>⟨h,Nat.le_refl _⟩
 | step a b _ ih =>
  intro hs
  obtain⟨h1,h2⟩:=S.rgSteps hs (x:=(-1,bx _)) (bK.2 (.inr ⟨b,a,rfl⟩))
  obtain⟨h3,h4⟩:=ih h1
  exact⟨h3,by simp only at h2; omega⟩
theorem CrP.must {E:Int} {s t:RS} (h:CrP l E s t):∀(j:Nat) (o:HOp),l[j]?=some o→bB o=true→s.era≤o.era→o.era<t.era→o.era=s.era∧hasB s.taken (j:Int)=true:=by
 induction h with
 | refl s=>exact fun j o _ _ h1 h2=>by omega
 | step a b _ ih =>
  intro j o ho hm h1 h2
  rename_i s t _
  by_cases he:o.era=s.era
  ·have:=(rz l 0).1 a j o ho he hm
   rw[Nat.zero_add]at this
   exact⟨he,this⟩
  ·have:=(ih j o ho hm (by simp only[bx]; omega) h2).2
   simp[bx]at this
theorem ia {E:Int} {s:RS} (h:¬s.era<E) (N:Nat):crF l E N s=s:=by
 cases N with
 | zero=>rfl
 | succ N=>rw[crF,dF h,Bool.false_and,if_neg Bool.false_ne_true]
theorem rM {E:Int}:∀(N M:Nat) (s:RS),(E-s.era).toNat≤N→(E-s.era).toNat≤M→crF l E N s=crF l E M s
 | 0,M,s,h1,_=>by rw[ia (by omega),ia (by omega)]
 | N+1,0,s,_,h2=>by rw[ia (by omega),ia (by omega)]
 | N+1,M+1,s,h1,h2=>by
  rw[crF,crF]
  split
  ·rename_i hc
   simp only[Bool.and_eq_true,decide_eq_true_eq]at hc
   exact rM N M (bx s) (by simp only[bx]; omega) (by simp only[bx]; omega)
  ·rfl
theorem CrP.crF {E:Int} {N:Nat} {X:Int} {s t:RS} (h:CrP l X s t) (hE:t.era≤E) (h0:(E-s.era).toNat≤N):crF l E N s=crF l E N t:=by
 induction h with
 | refl s=>rfl
 | step a b hc ih =>
  rename_i s t
  have h1:=hc.era_le
  simp only[bx]at h1
  rw[←ih hE (by simp only[bx]; omega)]
  cases N with
  | zero=>omega
  | succ N =>
   rw[Go.Proofs.Ytkehohfgbblokaa.crF,dT (by omega),a,Bool.true_and,if_pos rfl]
   exact rM N (N+1) (bx s) (by simp only[bx]; omega) (by simp only[bx]; omega)
theorem pj {f:Nat→HOp→Bool} {j:Nat} {o:HOp}:∀(r:List HOp) (i:Nat),r[j]?=some o→f (i+j) o=true→(∀(k:Nat) (q:HOp),k<j→r[k]?=some q→f (i+k) q=false)→jp f r i=((i+j:Nat):Int)
 | [],i,h,_,_=>by simp at h
 | a::r,i,h,h1,h2=>by
  rw[jp]
  cases j with
  | zero =>
   simp at h; subst h
   rw[Nat.add_zero]at h1
   rw[h1,if_pos rfl,Nat.add_zero]
  | succ j =>
   have h3:=h2 0 a (by omega) rfl
   rw[Nat.add_zero]at h3
   rw[h3,if_neg Bool.false_ne_true,pj r (i+1) (j:=j) (by simpa using h) (by rw[show i+1+j=i+(j+1) by omega]; exact h1) fun k q hk hq=>by
    rw[show i+1+k=i+(k+1) by omega]; exact h2 (k+1) q (by omega) (by simpa using hq)]
   congr 1; omega
theorem Sc.nowG (S:Sc l n e p ks kv) {q:QS} {sp:List (List aI)} (I:SI l n e p ks kv q.2.length q sp):∀(N:Nat) (i:Int) (s:RS),RG l n e p ks kv s→(e:Int)-s.era≤N→0≤i→q.2[i.toNat]?=some (encS p ks s)→(la p l e q.2 sp N i=true↔NowT l e s)
 | 0,_,s,h,hN,_,_=>by have:=h.era; omega
 | N+1,i,s,h,hN,hi0,hi=>by
  have hil:=(List.getElem?_eq_some_iff.1 hi).1
  obtain⟨ys,hys⟩:∃ys,sp[i.toNat]?=some ys:=⟨_,List.getElem?_eq_getElem (by rw[I.len]; exact hil)⟩
  obtain⟨m1,m2⟩:=(I.rel i.toNat s ys h hi hys).mem
  have hspN:spN sp i=ys:=by rw[spN,hys]; rfl
  have hstN:stN q.2 i=encS p ks s:=by rw[stN,hi]; rfl
  have he:(encS p ks s).era=s.era:=rfl
  rw[la,hspN,hstN,he]
  by_cases h1:s.era=(e:Int)-1
  ·rw[if_pos (dT h1)]
   have:=S.full h
   rw[he]at *
   rw[show ja l p.lo (zOf p s.era) (encS p ks s)=bY s l 0 from S.full h]
   exact⟨fun h2=>.fin h2 h1,fun h2=>h2.inv.1⟩
  ·rw[if_neg (by rw[dF h1]; decide)]
   cases hf:ys.find? (fun y=>decide (y.op<0)) with
   | none =>
    simp only[Bool.false_eq_true,false_iff]
    intro h2
    rcases h2.inv with ⟨a,b | ⟨b,c⟩⟩
    ·exact h1 b
    ·obtain⟨y,hy,e1,_⟩:=m2 _ (bK.2 (.inr ⟨b,a,rfl⟩))
     have:=List.find?_eq_none.1 hf y hy
     rw[e1]at this
     exact this rfl
   | some y =>
    have hyn:y.op<0:=of_decide_eq_true (List.find?_some (p:=fun y:aI=>decide (y.op<0)) hf)
    obtain⟨x,hx,e1,e2,e3⟩:=m1 y (List.mem_of_find?_eq_some hf)
    rcases bK.1 hx with ⟨j,o,_,_,rfl⟩ | ⟨a,b,rfl⟩
    ·simp only at e1; omega
    ·obtain⟨c1,_⟩:=S.rgSteps h hx
     rw[S.nowG I N y.to (bx s) c1 (by simp only[bx]; omega) e2 e3]
     exact⟨fun h2=>.step b a h2,fun h2=>by
      rcases h2.inv.2 with h3 | h3
      ·omega
      ·exact h3.2⟩
theorem StL.find {a:List LSt} {g:List Bool} {f:RS→Bool}:∀ {ys:List aI} {xs:List (Int×RS)},StL p ks a ys xs→(∀y∈ys,∀x∈xs,a[y.to.toNat]?=some (encS p ks x.2)→gF g y=f x.2) →
  (ys.find? (gF g)=none∧xs.find? (fun x=>f x.2)=none)∨∃y x,ys.find? (gF g)=some y∧xs.find? (fun x=>f x.2)=some x∧y.op=x.1∧0≤y.to∧a[y.to.toNat]?=some (encS p ks x.2)
 | [],[],_,_=>.inl ⟨rfl,rfl⟩
 | y::ys,x::xs,⟨h1,h2⟩,hg=>by
  have hb:=hg y List.mem_cons_self x List.mem_cons_self h1.2.2
  rw[List.find?_cons,List.find?_cons,hb]
  cases f x.2 with
  | true=>exact .inr ⟨y,x,rfl,rfl,h1⟩
  | false=>exact StL.find h2 fun y hy x hx=>hg y (List.mem_cons_of_mem _ hy) x (List.mem_cons_of_mem _ hx)
 | [],_::_,h,_=>h.elim
 | _::_,[],h,_=>h.elim
theorem zA {s:RS} {f:RS→Bool}:∀(r:List HOp) (i:Nat),l.drop i=r →
  (match (rStO l s r i).find? (fun x=>f x.2) with
  | none=>∀(j:Nat) (o:HOp),i≤j→l[j]?=some o→((bd s l j o).2&&f (bd s l j o).1)=false
  | some x=>∃(j:Nat) (o:HOp),i≤j∧l[j]?=some o∧(bd s l j o).2=true∧f (bd s l j o).1=true∧x=((j:Int),(bd s l j o).1)∧∀(k:Nat) (q:HOp),i≤k→k<j→l[k]?=some q→((bd s l k q).2&&f (bd s l k q).1)=false)
 | [],i,h=>by
  have hl:l.length≤i:=List.drop_eq_nil_iff.1 h
  intro j o h1 h2
  have:=(List.getElem?_eq_some_iff.1 h2).1
  omega
 | o::r,i,h=>by
  have ho:l[i]?=some o:=by
   have:=congrArg (fun x=>x[0]?) h
   simpa using this
  have hr:l.drop (i+1)=r:=by
   have:=congrArg List.tail h
   simpa using this
  have ih:=zA (s:=s) (f:=f) r (i+1) hr
  rw[rStO,List.find?_append]
  have key:∀(b:Bool),((bd s l i o).2&&f (bd s l i o).1)=b→(rSt1 s l i o).find? (fun x=>f x.2)=if b then some ((i:Int),(bd s l i o).1) else none:=by
   intro b hb
   unfold rSt1
   cases h1:(bd s l i o).2 with
   | false =>
    rw[h1]at hb
    rw[←hb]; rfl
   | true =>
    rw[h1,Bool.true_and]at hb
    rw[if_pos rfl,List.find?_cons]
    simp only[hb]
    cases b <;> rfl
  cases hb:((bd s l i o).2&&f (bd s l i o).1) with
  | true =>
   rw[key true hb]
   simp only[Bool.and_eq_true]at hb
   exact⟨i,o,Nat.le_refl _,ho,hb.1,hb.2,rfl,fun k q h1 h2=>by omega⟩
  | false =>
   rw[key false hb]
   simp only[Bool.false_eq_true,if_false,Option.none_or]
   cases hf:(rStO l s r (i+1)).find? (fun x=>f x.2) with
   | none =>
    rw[hf]at ih
    simp only at ih ⊢
    intro j o' h1 h2
    by_cases hj:j=i
    ·subst hj
     rw[ho]at h2; cases h2
     exact hb
    ·exact ih j o' (by omega) h2
   | some x =>
    rw[hf]at ih
    simp only at ih ⊢
    obtain⟨j,o',h1,h2,h3,h4,h5,h6⟩:=ih
    refine⟨j,o',by omega,h2,h3,h4,h5,fun k q k1 k2 k3=>?_⟩
    by_cases hk:k=i
    ·subst hk
     rw[ho]at k3; cases k3
     exact hb
    ·exact h6 k q (by omega) k2 k3
end
end Go.Proofs.Ytkehohfgbblokaa
namespace Go.Proofs.Ytkehohfgbblokaa
open Go.Eng Go.Plain
set_option maxHeartbeats 32000000
set_option maxRecDepth 20000
def iY (l:List HOp):List Int→RS→RS
 | [],s=>s
 | i::os,s=>match l[i.toNat]? with
  | none=>s
  | some o=>iY l os (hapR (cY o.era s) o).1
def noTk (s:RS):RS := { s with taken:=[] }
structure AccI (l:List HOp) (n:Nat) (s:RS) (out:List Int):Prop where
 acc:jY n l out [] (bu n)=0
 st:iY l out (bu n)=noTk s
 now:∀(j:Nat) (o:HOp),l[j]?=some o→o.era=s.era→hasB out (j:Int)=hasB s.taken (j:Int)
 old:∀(j:Nat) (o:HOp),l[j]?=some o→o.era<s.era→bB o=true→hasB out (j:Int)=true
 new:∀(j:Nat) (o:HOp),l[j]?=some o→s.era<o.era→hasB out (j:Int)=false
 val:∀i∈out,∃(j:Nat) (o:HOp),i=j∧l[j]?=some o
section
variable {l : List HOp} {n e : Nat} {p : Prep} {ks : List Int} {kv : List (List UInt8)}
theorem oQ {b:Int} {i:Int}:∀(os pre:List Int) (s:RS),jY b l os pre s=0→jY b l (os++[i]) pre s=jY b l [i] (pre++os) (iY l os s)
 | [],pre,s,_=>by rw[List.nil_append,List.append_nil]; rfl
 | a::os,pre,s,h=>by
  rw[jY]at h
  rw[List.cons_append,jY]
  split at h
  ·cases h
  ·rename_i h0
   rw[if_neg h0]
   cases ho:l[a.toNat]? with
   | none=>rw[ho]at h; cases h
   | some o =>
    rw[ho]at h
    simp only at h ⊢
    have h1:¬(pre.any (fun y=>decide (y=a))=true):=fun c=>by rw[if_pos c]at h; cases h
    rw[if_neg h1]at h ⊢
    have h2:¬(mayB o b=false):=fun c=>by rw[if_pos c]at h; cases h
    rw[if_neg h2]at h ⊢
    have h3:¬(pre.any (befA l o)=true):=fun c=>by rw[if_pos c]at h; cases h
    rw[if_neg h3]at h ⊢
    have h4:¬((hapR (cY o.era s) o).2=false):=fun c=>by rw[if_pos c]at h; cases h
    rw[if_neg h4]at h ⊢
    rw[oQ os (pre++[a]) _ h,iY,ho,List.append_assoc]
    rfl
theorem oR {i:Int}:∀(os:List Int) (s:RS),(∀j∈os,∃(k:Nat) (o:HOp),j=k∧l[k]?=some o)→iY l (os++[i]) s=iY l [i] (iY l os s)
 | [],s,_=>rfl
 | a::os,s,h=>by
  obtain⟨k,o,rfl,ho⟩:=h a List.mem_cons_self
  have h1:∀os:List Int,iY l ((k:Int)::os) s=iY l os (hapR (cY o.era s) o).1:=fun os=>by rw[iY,Int.toNat_natCast,ho]
  rw[List.cons_append,h1,h1]
  exact oR os _ fun j hj=>h j (List.mem_cons_of_mem _ hj)
structure ScL (l:List HOp) (e:Nat):Prop where
 er:∀(j:Nat) (o:HOp),l[j]?=some o→0≤o.era∧o.era<e
 mono:∀(i j:Nat) (o q:HOp),i≤j→l[i]?=some o→l[j]?=some q→o.era≤q.era
theorem AccI.first (L:ScL l e) (n:Nat):AccI l n (bu n) []:=
 ⟨rfl,rfl,fun _ _ _ _=>rfl,fun j o ho h1 _=>(by have:=(L.er j o ho).1; simp only[bu]at h1; omega),fun _ _ _ _=>rfl,fun _ h=>(by cases h)⟩
theorem ld (s:RS):cY s.era s=s:=by rw[cY,if_neg (by omega)]
theorem CrP.to {E:Int} {s t:RS} (h:CrP l E s t):t=cY t.era s:=by
 induction h with
 | refl s=>rw[ld]
 | step a b hc ih =>
  rename_i s t
  have h1:=hc.era_le
  have h0:(bx s).era=s.era+1:=rfl
  rw[h0]at h1
  have key:cY t.era (bx s)=⟨t.era,[],s.dur,s.dur⟩:=by
   unfold cY
   by_cases h3:(bx s).era<t.era
   ·rw[if_pos h3]; rfl
   ·rw[if_neg h3]
    have h4:t.era=s.era+1:=by omega
    rw[h4]; rfl
  rw[cY,if_pos (by omega),←key]
  exact ih
theorem ti (E:Int) (s:RS):cY E (noTk s)=noTk (cY E s):=by
 unfold cY noTk
 by_cases h:s.era<E
 ·rw[if_pos h,if_pos h]
 ·rw[if_neg h,if_neg h]
theorem ub (s:RS) (o:HOp):hapR (noTk s) o=(noTk (hapR s o).1,(hapR s o).2):=by
 unfold hapR
 split
 ·rfl
 ·split <;> rfl
theorem nU (T:List Int) (i j:Int):hasB (T++[i]) j=(hasB T j||decide (i=j)):=by
 simp[hasB]
theorem AccI.step (S:Sc l n e p ks kv) {s0 s':RS} {out:List Int} (h0:RG l n e p ks kv s0) (C:CrP l e s0 s') (A:AccI l n s0 out) {j:Nat} {o:HOp} (ho:l[j]?=some o) (ht:(bd s' l j o).2=true):AccI l n (bd s' l j o).1 (out++[(j:Int)]):=by
 have hs':=(C.rg S h0).1
 have hle:=C.era_le
 have hto:=C.to
 obtain⟨q1,q2,q3,q4⟩:=fz (cG ht)
 rw[hs'.ok.al]at q2
 have hsame:s'.era=s0.era→s'=s0:=fun h=>by rw[h,ld]at hto; exact hto
 have hfar:s0.era<s'.era→s'.taken=[]:=fun h=>by rw[hto,cY,if_pos h]
 have hout:hasB out (j:Int)=false:=by
  by_cases h:s'.era=s0.era
  ·rw[A.now j o ho (by omega),←hsame h]; exact q3
  ·exact A.new j o ho (by omega)
 have hbef:out.any (befA l o)=false:=by
  rw[Bool.eq_false_iff]
  intro h
  obtain⟨x,hx,hb⟩:=List.any_eq_true.1 h
  obtain⟨k,q,rfl,hq⟩:=A.val x hx
  have hk:hasB out (k:Int)=true:=rr.2 hx
  have hb:befB o q=true:=by rw[befA,Int.toNat_natCast,hq]at hb; exact hb
  by_cases h1:s0.era<q.era
  ·rw[A.new k q hq h1]at hk; cases hk
  ·by_cases h2:o.era=q.era
   ·have h3:s'.era=s0.era:=by omega
    have h4:=A.now k q hq (by omega)
    rw[hk,←hsame h3]at h4
    have:hitL s' o l 0=true:=(fG l 0).2 ⟨k,q,hq,by
     rw[Nat.zero_add,hitB,if_pos h4.symm]; exact hb⟩
    rw[q4]at this; cases this
   ·rw[befB,if_neg h2]at hb
    have:=of_decide_eq_true hb
    omega
 have htk:bd s' l j o=({ (hapR s' o).1 with taken:=dG s'.taken j },(hapR s' o).2):=by rw[bd,if_pos (cG ht)]
 have hfit:(hapR s' o).2=true:=by rw[htk]at ht; exact ht
 have hera:(bd s' l j o).1.era=s'.era:=eG
 have htaken:(bd s' l j o).1.taken=dG s'.taken j:=by rw[htk]
 have hcr:cY o.era (noTk s0)=noTk s':=by rw[ti,q1,←hto]
 refine⟨?_,?_,fun k q hq he=>?_,fun k q hq he hm=>?_,fun k q hq he=>?_,fun i hi=>?_⟩
 ·rw[oQ out [] _ A.acc,A.st,List.nil_append,jY,if_neg (by omega),Int.toNat_natCast,ho]
  simp only
  rw[if_neg (show ¬(out.any (fun y=>decide (y=(j:Int)))=true) by rw[show out.any (fun y=>decide (y=(j:Int)))=false from hout]; decide),if_neg (by rw[q2]; decide),if_neg (by rw[hbef]; decide),hcr,ub,hfit,if_neg (by decide)]
  rfl
 ·rw[oR out _ A.val,A.st,iY,Int.toNat_natCast,ho]
  simp only[iY]
  rw[hcr,ub,htk]
  rfl
 ·rw[hera]at he
  rw[nU,htaken,cW]
  congr 1
  by_cases h:s'.era=s0.era
  ·rw[A.now k q hq (by omega),←hsame h]
  ·rw[A.new k q hq (by omega),hfar (by omega)]; rfl
 ·rw[hera]at he
  rw[nU]
  have:hasB out (k:Int)=true:=by
   by_cases h:q.era<s0.era
   ·exact A.old k q hq h hm
   ·obtain⟨h1,h2⟩:=C.must k q hq hm (by omega) he
    rw[A.now k q hq h1]; exact h2
  rw[this]; rfl
 ·rw[hera]at he
  rw[nU,A.new k q hq (by omega),Bool.false_or]
  refine dF fun h=>?_
  have:j=k:=by omega
  subst this
  rw[ho]at hq; cases hq
  omega
 ·rcases List.mem_append.1 hi with hi | hi
  ·exact A.val i hi
  ·exact⟨j,o,List.mem_singleton.1 hi,ho⟩
theorem qD {ord:List Int}:∀(l:List HOp) (k:Nat),me ord l k=false ↔ ∀(j:Nat) (o:HOp),l[j]?=some o→bB o=true→hasB ord ((k+j:Nat):Int)=true
 | [],k=>by simp[me]
 | a::l,k=>by
  rw[me,Bool.or_eq_false_iff,qD l (k+1)]
  constructor
  ·rintro⟨h1,h2⟩ j o hj hm
   cases j with
   | zero =>
    simp at hj; subst hj
    rw[hm,Bool.true_and]at h1
    simpa using h1
   | succ j=>rw[show k+(j+1)=k+1+j by omega]; exact h2 j o (by simpa using hj) hm
  ·intro h1
   refine⟨?_,fun j o hj hm=>by rw[show k+1+j=k+(j+1) by omega]; exact h1 (j+1) o (by simpa using hj) hm⟩
   cases hm:bB a with
   | false=>rfl
   | true =>
    have:=h1 0 a rfl hm
    rw[Nat.add_zero]at this
    have h2:ord.any (fun y=>decide (y=(k:Int)))=true:=this
    rw[h2]; rfl
theorem p7 (L:ScL l e):∀(d:Nat) (s:RS),s.era<e→(e:Int)-1-s.era≤d→(NowT l e s ↔ ∀(j:Nat) (o:HOp),l[j]?=some o→bB o=true→s.era≤o.era→o.era=s.era∧hasB s.taken (j:Int)=true)
 | d,s,he,hd=>by
  have key:(bY s l 0=true) ↔ ∀(j:Nat) (o:HOp),l[j]?=some o→o.era=s.era→bB o=true→hasB s.taken (j:Int)=true:=by
   rw[rz l 0]
   simp only[Nat.zero_add]
  constructor
  ·intro h j o ho hm h1
   obtain⟨h2,h3⟩:=h.inv
   have h2:=key.1 h2
   by_cases h4:o.era=s.era
   ·exact⟨h4,h2 j o ho h4 hm⟩
   ·have:=(L.er j o ho).2
    rcases h3 with h3 | ⟨h3,h5⟩
    ·omega
    ·cases d with
     | zero=>omega
     | succ d =>
      have h0:(bx s).era=s.era+1:=rfl
      have:=((p7 L d (bx s) (by rw[h0]; omega) (by rw[h0]; omega)).1 h5 j o ho hm (by rw[h0]; omega)).2
      simp[bx]at this
  ·intro h
   have hf:=key.2 fun j o ho h1 hm=>(h j o ho hm (by omega)).2
   by_cases h3:s.era=(e:Int)-1
   ·exact .fin hf h3
   ·cases d with
    | zero=>omega
    | succ d =>
     have h0:(bx s).era=s.era+1:=rfl
     refine .step hf (by omega) ((p7 L d (bx s) (by rw[h0]; omega) (by rw[h0]; omega)).2 fun j o ho hm h1=>?_)
     have:=(h j o ho hm (by rw[h0]at h1; omega)).1
     rw[h0]at h1
     omega
theorem AccI.done (L:ScL l e) {s:RS} {out:List Int} (he:s.era<e) (h0:0≤s.era) (A:AccI l n s out):wy n n l out=0↔NowT l e s:=by
 rw[wy,A.acc,if_pos rfl,p7 L e s he (by omega)]
 have h1:((if me out l 0=true then (15:Int) else 0)=0)↔me out l 0=false:=by
  cases me out l 0 <;> simp
 rw[h1,qD l 0]
 simp only[Nat.zero_add]
 constructor
 ·intro h j o ho hm h2
  have h3:=h j o ho hm
  by_cases h4:o.era=s.era
  ·exact⟨h4,by rw[←A.now j o ho h4]; exact h3⟩
  ·rw[A.new j o ho (by omega)]at h3; cases h3
 ·intro h j o ho hm
  by_cases h4:o.era<s.era
  ·exact A.old j o ho h4 hm
  ·obtain⟨h5,h6⟩:=h j o ho hm (by omega)
   rw[A.now j o ho h5]; exact h6
theorem Sc.least (S:Sc l n e p ks kv) (L:ScL l e) {q:QS} {sp:List (List aI)} (I:SI l n e p ks kv q.2.length q sp) (hsp:SpOk q.2 sp) {MM:Nat} (hMM:∀s,RG l n e p ks kv s→muR l e s<MM):∀(N:Nat) (i:Int) (s' s0:RS) (acc:List Int) (M:Nat),RG l n e p ks kv s0→CrP l e s0 s'→0≤i→q.2[i.toNat]?=some (encS p ks s')→EndT l e s' →
  (∀(j:Nat) (o:HOp),l[j]?=some o→o.era<s'.era→jr l e MM s0 j o=false)→AccI l n s0 acc→muR l e s'<N→muR l e s0<M→lJ l n e MM M s0 acc=(eF p l e q.2 sp (dX p l e q.2 sp) N i acc,true)
 | 0,_,_,_,_,_,_,_,_,_,_,_,_,hN,_=>by omega
 | N+1,i,s',s0,acc,0,_,_,_,_,_,_,_,_,hM=>by omega
 | N+1,i,s',s0,acc,M+1,h0,C,hi0,hi,hE,hno,A,hN,hM=>by
  obtain⟨hs,hmu⟩:=C.rg S h0
  have e0:=h0.ok.e0
  have e1:=hs.era
  have hle:=C.era_le
  have hil:=(List.getElem?_eq_some_iff.1 hi).1
  have hdone:=A.done L h0.era e0
  rw[C.now]at hdone
  have hgE:∀x,RG l n e p ks kv x→(iZ l e MM x=true↔EndT l e x):=fun x hx=>S.endG MM x hx (hMM x hx)
  rw[eF,lJ]
  by_cases hnow:NowT l e s'
  ·rw[if_pos ((S.nowG I e i s' hs (by have:=hs.ok.e0; omega) hi0 hi).2 hnow),if_pos (hdone.2 hnow)]
  have hcr:∀E:Int,s'.era=E→crF l E e s0=s':=fun E hE2=>by
   rw[C.crF (by omega) (by omega),ia (by omega)]
  rw[if_neg (fun h=>hnow ((S.nowG I e i s' hs (by have:=hs.ok.e0; omega) hi0 hi).1 h)),if_neg (fun h=>hnow (hdone.1 h))]
  obtain⟨ys,hys⟩:∃ys,sp[i.toNat]?=some ys:=⟨_,List.getElem?_eq_getElem (by rw[I.len]; exact hil)⟩
  have hst:=I.rel i.toNat s' ys hs hi hys
  have hspN:spN sp i=ys:=by rw[spN,hys]; rfl
  rw[hspN]
  have hgood:∀y∈ys,∀x∈e7 l e s',q.2[y.to.toNat]?=some (encS p ks x.2)→gF (dX p l e q.2 sp) y=iZ l e MM x.2:=fun y _ x hx hy=>by
   have hx2:=(S.rgSteps hs hx).1
   rw[Bool.eq_iff_iff,hgE x.2 hx2,←S.good I hsp (muR l e x.2+1) _ x.2 hx2 (Nat.lt_succ_self _) hy,gF]
   cases (dX p l e q.2 sp)[y.to.toNat]? with
   | none=>simp
   | some b=>simp
  rcases hst.find hgood with ⟨f1,f2⟩ | ⟨y,x,f1,f2,f3,f4,f5⟩
  ·exfalso
   rcases hE.inv with ⟨h1,h2⟩ | ⟨x,hx,h2⟩
   ·exact hnow (.fin h1 h2)
   ·have:=List.find?_eq_none.1 f2 x hx
    exact this ((hgE x.2 (S.rgSteps hs hx).1).2 h2)
  ·rw[f1]
   simp only
   have hxm:=List.mem_of_find?_eq_some f2
   obtain⟨hx1,hx2⟩:=S.rgSteps hs hxm
   have hxE:EndT l e x.2:=(hgE x.2 hx1).1 (List.find?_some (p:=fun x:Int×RS=>iZ l e MM x.2) f2)
   have hO:=zA (s:=s') (f:=iZ l e MM) l 0 List.drop_zero
   rw[e7,List.find?_append]at f2
   cases hf:(rStO l s' l 0).find? (fun x=>iZ l e MM x.2) with
   | some z =>
    rw[hf,Option.some_or]at f2
    cases f2
    rw[hf]at hO
    simp only at hO
    obtain⟨j,o,_,h2,h3,h4,h5,h6⟩:=hO
    have hoe:=(fz (cG h3)).1
    have hfst:jp (jr l e MM s0) l 0=(j:Int):=by
     have:=pj (f:=jr l e MM s0) l 0 (j:=j) h2 (by
      rw[Nat.zero_add,jr,hcr _ hoe.symm,h3,h4]; rfl) fun k r hk hr=>by
      rw[Nat.zero_add]
      have hm:=L.mono k j r o (by omega) hr h2
      by_cases hlt:r.era<s'.era
      ·exact hno k r hr hlt
      ·rw[jr,hcr _ (by omega)]
       exact h6 k r (Nat.zero_le _) hk hr
     rwa [Nat.zero_add]at this
    rw[hfst,Int.toNat_natCast,h2]
    simp only
    rw[if_neg (by omega)]
    have hop:y.op=(j:Int):=by rw[f3,h5]
    have hs0':cY o.era s0=s':=by rw[hoe]; exact C.to.symm
    rw[hop,if_pos (dT (by omega)),hs0']
    rw[h5]at hx1 hx2 hxE f5
    simp only at hx1 hx2 hxE f5
    refine S.least L I hsp hMM N y.to _ _ _ M hx1 (.refl _) f4 f5 hxE (fun k r hr hlt=>?_) (A.step S h0 C h2 h3) (by omega) (by omega)
    rw[jr,ia (by omega)]
    cases ht:(bd (bd s' l j o).1 l k r).2 with
    | false=>rfl
    | true =>
     have:=(fz (cG ht)).1
     omega
   | none =>
    rw[hf,Option.none_or]at f2
    rw[hf]at hO
    simp only at hO
    unfold rStC at f2
    split at f2
    ·rename_i hc
     simp only[Bool.and_eq_true,decide_eq_true_eq]at hc
     have hxe:=List.mem_of_find?_eq_some f2
     have hxe:=List.mem_singleton.1 hxe
     subst hxe
     simp only at f3 f5 hx1 hx2 hxE
     have hw:lJ l n e MM (M+1) s0 acc=(eF p l e q.2 sp (dX p l e q.2 sp) N y.to acc,true):=by
      refine S.least L I hsp hMM N y.to (bx s') s0 acc (M+1) h0 (C.snoc hc.2 hc.1) f4 f5 hxE (fun k r hr hlt=>?_) A (by omega) hM
      have h0:(bx s').era=s'.era+1:=rfl
      rw[h0]at hlt
      by_cases h2:r.era<s'.era
      ·exact hno k r hr h2
      ·rw[jr,hcr _ (by omega)]
       exact hO k r (Nat.zero_le _) hr
     rw[lJ,if_neg (fun h=>hnow (hdone.1 h))]at hw
     rw[hw,if_neg (by rw[f3]; decide)]
    ·cases f2
end
def nn (l:List HOp) (n e M:Nat):List Int×Bool:=if iZ l e M (bu n)=true then lJ l n e M M (bu n) [] else ([],false)
theorem vE {l:List HOp} {n e:Nat} {p:Prep} {ks:List Int} {kv:List (List UInt8)} (S:Sc l n e p ks kv) (L:ScL l e) (he:0<e) {q:QS} {sp:List (List aI)} (I:SI l n e p ks kv q.2.length q sp) (hsp:SpOk q.2 sp) {μ:Nat→Nat} (dn:∀(i:Nat) ys,sp[i]?=some ys→∀y∈ys,μ y.to.toNat<μ i) {N M:Nat} (hN:μ 0<N) (hM:e*(l.length+1)<M) :
  kz p l e q.2 sp N=nn l n e M:=by
 have hMM:∀s,RG l n e p ks kv s→muR l e s<M:=fun s _=>by
  have:muR l e s≤e*(l.length+1):=Nat.le_trans (Nat.sub_le _ _) (Nat.mul_le_mul_right _ (Nat.sub_le _ _))
  omega
 have hf:=S.first he
 unfold kz nn
 have hg:=S.good I hsp (muR l e (bu n)+1) 0 _ hf (Nat.lt_succ_self _) I.fst
 have hgE:=S.endG M _ hf (hMM _ hf)
 by_cases h:EndT l e (bu n)
 ·rw[if_pos (hg.2 h),if_pos (hgE.2 h)]
  have h1:=gD (p:=p) (l:=l) (e:=e) (st:=q.2) (g:=dX p l e q.2 sp) dn N 0 [] (N+muR l e (bu n)) hN (by show μ 0<_; omega)
  rw[h1]
  refine (S.least L I hsp hMM _ 0 (bu n) (bu n) [] M hf (.refl _) (Int.le_refl _) I.fst h (fun j o ho hlt=>?_) (.first L n) (by omega) (hMM _ hf)).symm
  have:=(L.er j o ho).1
  simp only[bu]at hlt
  omega
 ·rw[if_neg (fun h2=>h (hg.1 h2)),if_neg (fun h2=>h (hgE.1 h2))]
end Go.Proofs.Ytkehohfgbblokaa
namespace Go.Proofs.Ytkehohfgbblokaa
open Go.Eng Go.Plain
set_option maxHeartbeats 32000000
set_option maxRecDepth 20000
theorem mL:∀(r:List HEv) (e x:Int),x∈eraL r e→x<e+1+((r.countP fun x=>decide (x.kind=3):Nat):Int)
 | [],_,_,h=>by cases h
 | y::r,e,x,h=>by
  rw[List.countP_cons]
  unfold eraL at h
  by_cases h3:y.kind=3
  ·rw[if_pos h3]at h
   have:=mL r (e+1) x h
   rw[if_pos (dT h3)]; omega
  ·rw[if_neg h3]at h
   split at h
   ·rcases List.mem_cons.1 h with rfl | h
    ·omega
    ·have:=mL r e x h; omega
   ·have:=mL r e x h; omega
theorem jQ:∀(r:List HEv) (e:Int),(eraL r e).Pairwise (· ≤ ·)
 | [],_=>.nil
 | y::r,e=>by
  unfold eraL
  split
  ·exact jQ r (e+1)
  ·split
   ·exact List.pairwise_cons.2 ⟨fun x hx=>jR r e x hx,jQ r e⟩
   ·exact jQ r e
theorem wN (h:List HEv):ScL (opsR h) (br h):=by
 have hm:=lL h
 refine⟨fun j o ho=>?_,fun i j o q hij ho hq=>?_⟩
 ·have:o.era∈eraL h 0:=by rw[←hm]; exact List.mem_map.2 ⟨o,List.mem_of_getElem? ho,rfl⟩
  have h1:=jR h 0 _ this
  have h2:=mL h 0 _ this
  unfold br
  omega
 ·by_cases he:i=j
  ·subst he; rw[ho]at hq; cases hq; exact Int.le_refl _
  ·have hp:=jQ h 0
   rw[←hm,List.pairwise_map,List.pairwise_iff_getElem]at hp
   have hi:=(List.getElem?_eq_some_iff.1 ho)
   have hj:=(List.getElem?_eq_some_iff.1 hq)
   have:=hp i j hi.1 hj.1 (by omega)
   rwa [hi.2,hj.2]at this
structure lz (h:List HEv):Prop where
 fit:cv h
 cl:Cl3 h
 len:h.length≤16
def bigM (h:List HEv):Nat:=br h*((opsR h).length+1)+1
section
variable {l : List HOp} {n e : Nat} {p : Prep} {ks : List Int} {kv : List (List UInt8)}
theorem Sc.enough (S:Sc l n e p ks kv) {fuel:Int} {B:Nat} (hB:(B:Int)≤fuel) (hI:∀k q sp,SI l n e p ks kv k q sp→q.2.length≤B):∀(M k:Nat) (q:QS) (sp:List (List aI)),SI l n e p ks kv k q sp→fuel.toNat+2≤M+k→∃r,fM p l e fuel M k q sp=some r
 | 0,k,q,sp,I,hM=>by have:=hI k q sp I; have:=I.le; omega
 | M+1,k,q,sp,I,hM=>by
  have h1:=hI k q sp I
  rw[fM]
  cases hx:q.2[k]? with
  | none=>exact⟨(q,sp),by simp only; rw[if_neg (by omega)]⟩
  | some x =>
   simp only
   rw[if_neg (by omega)]
   exact S.enough hB hI M (k+1) _ _ (S.si1 I hx) (by omega)
end
theorem lz.go {h:List HEv} (H:lz h) {b:Nat} (h0:1≤b) (h1:b≤4096):oj h b 1048576∧eI h b 1048576=(nn (opsR h) b (br h) (bigM h),0)∧opE h b=0∧lH h b=opsR h∧((nn (opsR h) b (br h) (bigM h)).2=true↔EndT (opsR h) (br h) (bu b)):=by
 have hlen:=H.len
 have hchk:chkH h=(0,0):=yW H.fit (by omega)
 have hE:opE h b=0:=by rw[opE,hchk,if_pos rfl,if_neg (by omega)]
 have hL:lH h b=opsR h:=by rw[lH,opL,if_pos hE,opsH,hchk,if_pos rfl,wM (by rw[hchk])]
 have hol:(opsR h).length≤h.length:=qS h
 have hel:br h≤17:=by have:=List.countP_le_length (p:=fun x:HEv=>decide (x.kind=3)) (l:=h); unfold br; omega
 obtain⟨ks,kv,F⟩:=ga (opsR h) b (br h)
 have S:=Sc.of F (by omega) (by omega) (by omega)
 have he:=fV h
 have hcount:∀k q sp,SI (opsR h) b (br h) (cR (opsR h) b (br h)) ks kv k q sp→q.2.length≤1015625:=fun k q sp I=>S.count he H.fit H.cl hlen I
 have hp:pH h b=cR (opsR h) b (br h):=by rw[pH,hL]
 have hR:oj h b 1048576:=by
  refine wl h b 1048576 (by omega) (fun k q sp=>SI (opsR h) b (br h) (cR (opsR h) b (br h)) ks kv k q sp) (fun _=>?_) (fun i q sp x _ _ _ I hx _=>?_) (fun i q sp _ I=>?_) (fun r _ _ _ hr=>?_)
  ·rw[hp]; exact S.si0 he
  ·rw[hp,hL]; exact S.si1 I hx
  ·have:=hcount _ _ _ I; omega
  ·obtain⟨q,sp⟩:=r
   unfold kH at hr
   rw[hp,hL]at hr
   have h2:=hcount _ _ _ (S.si he hr)
   have h3:q.2.length*(h.length+1)≤1015625*17:=Nat.mul_le_mul h2 (by omega)
   show q.2.length*(h.length+1)+1≤_
   omega
 obtain⟨⟨q,sp⟩,hr⟩:=S.enough (fuel:=1048576) (B:=1015625) (by decide) hcount ((1048576:Int).toNat+2) 0 _ [] (S.si0 he) (Nat.le_refl _)
 have hr:oG (cR (opsR h) b (br h)) (opsR h) (br h) 1048576=some (q,sp):=hr
 have I:=S.si he hr
 have P:=F.ok (by omega:(opsR h).length≤8192)
 obtain⟨I2,_⟩:=jB P he hr
 have hsame:=vE S (wN h) he I I2.spOk (μ:=muS (cR (opsR h) b (br h)) (br h) q.2) (N:=br h+sumM (opsR h) b (br h)+1) (fun i ys hys y hy=>I2.dn i ys hys y hy) (by rw[mu0 F I2 he]; exact Nat.lt_succ_self _) (Nat.lt_succ_self (br h*((opsR h).length+1)))
 have hleg:(nn (opsR h) b (br h) (bigM h)).2=true↔EndT (opsR h) (br h) (bu b):=by
  rw[bigM,←hsame,←S.good I I2.spOk (muR (opsR h) (br h) (bu b)+1) 0 _ (S.first he) (Nat.lt_succ_self _) I.fst]
  unfold kz
  by_cases hg:(dX (cR (opsR h) b (br h)) (opsR h) (br h) q.2 sp)[0]?=some true
  ·rw[if_pos hg]; exact⟨fun _=>hg,fun _=>rfl⟩
  ·rw[if_neg hg]; exact⟨fun h=>(by cases h),fun h=>absurd h hg⟩
 refine⟨hR,?_,hE,hL,hleg⟩
 unfold eI kH
 rw[if_pos hE,if_neg (by decide),hp,hL,hr]
 simp only
 rw[hsame]
 rfl
theorem wb {out:List HEv} (x:XE) (h:Cl3 out):Cl3 (b6 out x):=by
 have key:∀ev:HEv,(ev.kind≠3→0≤ev.client∧ev.client<3)→Cl3 (out++[ev]):=fun ev hev y hy hk=>by
  rcases List.mem_append.1 hy with hy | hy
  ·exact h y hy hk
  ·rw[List.mem_singleton.1 hy]at hk ⊢; exact hev hk
 have hc:(0:Int)≤((x.who.toNat % 4 % 3:Nat):Int)∧((x.who.toNat % 4 % 3:Nat):Int)<3:=by omega
 unfold b6
 repeat' split
 all_goals first
  | exact h
  | exact key _ fun hk=>absurd rfl hk
  | exact key _ fun _=>hc
theorem rB:∀(l:List XE) (out:List HEv),Cl3 out→Cl3 (l.foldl b6 out)
 | [],_,h=>h
 | x::l,_,h=>rB l _ (wb x h)
theorem vu {x:List XE} (h:x.length≤16):lz (hOf x):=by
 refine⟨yJ x,rB _ [] (fun _ hy=>by cases hy),?_⟩
 have:=jO (x.take 24) []
 rw[List.length_take]at this
 unfold hOf
 simp at this
 omega
end Go.Proofs.Ytkehohfgbblokaa
namespace Go.Proofs.Ytkehohfgbblokaa
open Go.Eng Go.Plain
set_option maxHeartbeats 32000000
set_option maxRecDepth 20000
def ml (o:HOp):HOp := { o with number:=0 }
def opsT:List HEv→Nat→Int→List HOp
 | [],_,_=>[]
 | x::r,i,era=>if x.kind=3 then opsT r (i+1) (era+1) else if x.kind=1 then cn (bL x i era 0) (ba x.client r (i+1))::opsT r (i+1) era else opsT r (i+1) era
theorem mK (h:List HEv):∀(n i:Nat) (out:List HOp) (era:Int),n+i=h.length→(fg h n i out era).map ml=out.map ml++opsT (h.drop i) i era
 | 0,i,out,era,hn=>by rw[fg,List.drop_eq_nil_of_le (by omega),opsT,List.append_nil]
 | n+1,i,out,era,hn=>by
  have hlt:i<h.length:=by omega
  rw[fg,List.getElem?_eq_getElem hlt,List.drop_eq_getElem_cons hlt,opsT]
  simp only
  split
  ·exact mK h n (i+1) out (era+1) (by omega)
  ·split
   ·rw[mK h n (i+1) _ era (by omega),List.map_append,List.append_assoc]
    congr 1
    simp only[List.map_cons,List.map_nil,List.cons_append,List.nil_append]
    congr 1
    unfold mkOp
    cases ba h[i].client (h.drop (i+1)) (i+1) with
    | none=>rfl
    | some v=>rfl
   ·exact mK h n (i+1) out era (by omega)
theorem p5 (h:List HEv):(opsR h).map ml=opsT h 0 0:=by
 rw[opsR,mK h h.length 0 [] 0 (by omega)]; rfl
section
variable {l l' : List HOp} {n : Nat}
theorem Fwd.id (hl:l'.length=l.length) (h:∀(j:Nat) (o o':HOp),l[j]?=some o→l'[j]?=some o'→o.era=o'.era∧o.op=o'.op∧(mayB o n=true→mayB o' n=true)∧(bB o'=true→bB o=true∧o.value=o'.value))
  (hb:∀(j k:Nat) (o o' q q':HOp),l[j]?=some o→l'[j]?=some o'→l[k]?=some q→l'[k]?=some q'→befB o' q'=true→befB o q=true):Fwd n l l' some:=by
 refine⟨fun j o' ho'=>.inr ?_,fun j k i _ _ h1 h2=>by cases h1; cases h2; rfl,fun j o ho _=>⟨j,by rw[hl]; exact (List.getElem?_eq_some_iff.1 ho).1,rfl⟩,fun j' k' j k o' q' o q a b c d e f g=>?_⟩
 ·obtain⟨o,ho⟩:∃o,l[j]?=some o:=⟨_,List.getElem?_eq_getElem (by rw[←hl]; exact (List.getElem?_eq_some_iff.1 ho').1)⟩
  exact⟨j,o,rfl,ho,h j o o' ho ho'⟩
 ·cases c; cases d
  exact hb _ _ o o' q q' e a f b g
end
theorem n6 {l:List HOp} {n:Nat} {e:Int}:EndT l e (bu n)↔EndT (l.map ml) e (bu n):=by
 have hg:∀(j:Nat) (o o':HOp),l[j]?=some o→(l.map ml)[j]?=some o'→o'=ml o:=fun j o o' h1 h2=>by
  rw[List.getElem?_map,h1]at h2
  exact (Option.some.inj h2).symm
 constructor
 ·refine (Fwd.id (n:=n) (l:=l) (l':=l.map ml) (by simp) (fun j o o' h1 h2=>?_) (fun j k o o' q q' h1 h2 h3 h4 h5=>?_)).first
  ·rw[hg j o o' h1 h2]; exact⟨rfl,rfl,fun h=>h,fun h=>⟨h,rfl⟩⟩
  ·rw[hg j o o' h1 h2,hg k q q' h3 h4]at h5; exact h5
 ·refine (Fwd.id (n:=n) (l:=l.map ml) (l':=l) (by simp) (fun j o' o h1 h2=>?_) (fun j k o' o q' q h1 h2 h3 h4 h5=>?_)).first
  ·rw[hg j o o' h2 h1]; exact⟨rfl,rfl,fun h=>h,fun h=>⟨h,rfl⟩⟩
  ·rw[hg j o o' h2 h1,hg k q q' h4 h3]; exact h5
def noCr (r:List HEv):Bool:=r.all fun x => !decide (x.kind=3)
theorem kL (c:Int) (x:HEv):∀(r:List HEv) (k:Nat),ba c (r++[x]) k=match ba c r k with
  | some v=>some v
  | none=>if noCr r=true∧x.kind≠3∧x.client=c then some (k+r.length,x) else none
 | [],k=>by
  show (if x.kind=3 then none else if x.client=c then some (k,x) else none)=_
  simp only[ba,noCr,List.all_nil,List.length_nil,Nat.add_zero,true_and]
  by_cases h3:x.kind=3
  ·simp[h3]
  ·by_cases hc:x.client=c <;> simp[h3,hc]
 | y::r,k=>by
  rw[List.cons_append,ba,ba]
  by_cases h3:y.kind=3
  ·simp[h3,noCr]
  ·rw[if_neg h3,if_neg h3]
   by_cases hc:y.client=c
   ·rw[if_pos hc,if_pos hc]
   ·rw[if_neg hc,if_neg hc,kL c x r (k+1)]
    cases ba c r (k+1) with
    | some v=>rfl
    | none =>
     have hn:noCr (y::r)=noCr r:=by simp[noCr,h3]
     simp only[hn,List.length_cons]
     rw[show k+1+r.length=k+(r.length+1) by omega]
theorem oZ {c:Int}:∀(r p:List HEv) (k:Nat),0≤pend p c→ba c r k=none→noCr r=true→0≤pend (p++r) c
 | [],p,_,h,_,_=>by rw[List.append_nil]; exact h
 | x::r,p,k,h,h1,h2=>by
  rw[ba]at h1
  unfold noCr at h2
  rw[List.all_cons,Bool.and_eq_true]at h2
  have h3:¬x.kind=3:=by simpa using h2.1
  rw[if_neg h3]at h1
  by_cases hc:x.client=c
  ·rw[if_pos hc]at h1; cases h1
  ·rw[if_neg hc]at h1
   have:0≤pend (p++[x]) c:=by
    rw[dL,e8,if_neg h3]
    by_cases k1:x.kind=1
    ·rw[if_pos k1,if_neg hc]; exact h
    ·rw[if_neg k1]
     by_cases k2:x.kind=2
     ·rw[if_pos k2,if_neg hc]; exact h
     ·rw[if_neg k2]; exact h
   have:=oZ r (p++[x]) (k+1) this h1 h2.2
   rwa [List.append_assoc]at this
theorem gg:∀(r:List HEv) (i:Nat) (era:Int) (o:HOp),o∈opsT r i era→(i:Int)≤o.invoked∧o.invoked<((i+r.length:Nat):Int)∧o.returned<((i+r.length:Nat):Int)∧era≤o.era
 | [],_,_,_,h=>by cases h
 | x::r,i,era,o,h=>by
  have hret:∀(c:Int) (r:List HEv) (k:Nat) (v:Nat×HEv),ba c r k=some v→k≤v.1∧v.1<k+r.length:=by
   intro c r
   induction r with
   | nil=>intro k v h; cases h
   | cons y r ih =>
    intro k v h
    rw[ba]at h
    split at h
    ·cases h
    ·split at h
     ·cases h; simp
     ·have:=ih (k+1) v h
      rw[List.length_cons]; omega
  rw[List.length_cons]
  rw[opsT]at h
  split at h
  ·have:=gg r (i+1) (era+1) o h; omega
  ·split at h
   ·rcases List.mem_cons.1 h with rfl | h
    ·cases hv:ba x.client r (i+1) with
     | none=>simp only[cn,bL]; omega
     | some v =>
      obtain⟨h1,h2⟩:=hret _ _ _ v hv
      obtain⟨q,y⟩:=v
      simp only[cn,bL]at h1 h2 ⊢; omega
    ·have:=gg r (i+1) era o h; omega
   ·have:=gg r (i+1) era o h; omega
def nCr (r:List HEv):Nat:=r.countP fun x=>decide (x.kind=3)
theorem kp (x:HEv) (h3:x.kind=3):∀(r:List HEv) (i:Nat) (era:Int),opsT (r++[x]) i era=opsT r i era
 | [],i,era=>by simp[opsT,h3]
 | y::r,i,era=>by
  rw[List.cons_append,opsT,opsT,kp x h3 r,kp x h3 r,kL]
  have:(match ba y.client r (i+1) with
   | some v=>some v
   | none=>if noCr r=true∧x.kind≠3∧x.client=y.client then some (i+1+r.length,x) else none)=ba y.client r (i+1):=by
   cases ba y.client r (i+1) with
   | some v=>rfl
   | none=>simp[h3]
  rw[this]
theorem ny (x:HEv) (h1:x.kind=1):∀(r p:List HEv) (i:Nat) (era:Int),pend (p++r) x.client<0→opsT (r++[x]) i era=opsT r i era++[bL x (i+r.length) (era+nCr r) 0]
 | [],p,i,era,_=>by
  have h3:¬x.kind=3:=by omega
  simp[opsT,h3,h1,ba,cn,nCr]
 | y::r,p,i,era,hp=>by
  have hp2:pend ((p++[y])++r) x.client<0:=by rw[List.append_assoc]; exact hp
  have e1:era+1+(nCr r:Int)=era+((nCr r+1:Nat):Int):=by omega
  rw[List.cons_append,opsT,opsT,ny x h1 r (p++[y]) _ _ hp2,ny x h1 r (p++[y]) _ _ hp2,kL,List.length_cons,show i+1+r.length=i+(r.length+1) by omega]
  have hn:nCr (y::r)=nCr r+if y.kind=3 then 1 else 0:=by
   unfold nCr
   rw[List.countP_cons]
   by_cases h3:y.kind=3
   ·rw[if_pos (dT h3),if_pos h3]
   ·rw[if_neg (by rw[dF h3]; decide),if_neg h3]
  by_cases h3:y.kind=3
  ·rw[if_pos h3,if_pos h3,hn,if_pos h3,e1]
  ·rw[if_neg h3,if_neg h3,hn,if_neg h3,Nat.add_zero]
   by_cases k1:y.kind=1
   ·rw[if_pos k1,if_pos k1]
    have:(match ba y.client r (i+1) with
     | some v=>some v
     | none=>if noCr r=true∧x.kind≠3∧x.client=y.client then some (i+(r.length+1),x) else none)=ba y.client r (i+1):=by
     cases hv:ba y.client r (i+1) with
     | some v=>rfl
     | none =>
      simp only
      rw[if_neg]
      rintro⟨a,_,c⟩
      have h0:0≤pend (p++[y]) y.client:=by
       rw[dL,e8,if_neg h3,if_pos k1,if_pos rfl]; omega
      have:=oZ r (p++[y]) (i+1) h0 hv a
      rw[c]at hp2
      omega
    rw[this]; rfl
   ·rw[if_neg k1,if_neg k1]
    rfl
def Answ (N:Nat) (o o':HOp):Prop:=o=o'∨(o'.returned = -1∧o'.err=0∧∃(v:List UInt8) (e:Int),o = { o' with returned:=N,value:=v,err:=e })
theorem nw (x:HEv) (h2:x.kind=2):∀(r:List HEv) (i:Nat) (era:Int),(opsT (r++[x]) i era).length=(opsT r i era).length∧∀(j:Nat) (o o':HOp),(opsT (r++[x]) i era)[j]?=some o→(opsT r i era)[j]?=some o'→Answ (i+r.length) o o'
 | [],i,era=>by
  have h3:¬x.kind=3:=by omega
  have h1:¬x.kind=1:=by omega
  have h0:opsT ([]++[x]) i era=[]:=by simp[opsT,h3,h1]
  rw[h0]
  exact⟨rfl,fun j o o' h=>by simp at h⟩
 | y::r,i,era=>by
  obtain⟨a1,a2⟩:=nw x h2 r (i+1) era
  obtain⟨b1,b2⟩:=nw x h2 r (i+1) (era+1)
  rw[show i+1+r.length=i+(r.length+1) by omega]at a2 b2
  rw[List.cons_append,opsT,opsT,List.length_cons]
  by_cases h3:y.kind=3
  ·rw[if_pos h3,if_pos h3]; exact⟨b1,b2⟩
  ·rw[if_neg h3,if_neg h3]
   by_cases k1:y.kind=1
   ·rw[if_pos k1,if_pos k1]
    refine⟨by rw[List.length_cons,List.length_cons,a1],fun j o o' ho ho'=>?_⟩
    cases j with
    | succ j=>exact a2 j o o' (by simpa using ho) (by simpa using ho')
    | zero =>
     simp only[List.getElem?_cons_zero,Option.some.injEq]at ho ho'
     subst ho ho'
     rw[kL]
     cases ba y.client r (i+1) with
     | some v=>exact .inl rfl
     | none =>
      simp only
      split
      ·refine .inr ⟨rfl,rfl,x.value,x.err,?_⟩
       simp only[cn,bL]
       rw[show i+1+r.length=i+(r.length+1) by omega]
      ·exact .inl rfl
   ·rw[if_neg k1,if_neg k1]; exact⟨a1,a2⟩
theorem xA {n:Nat} {e:Int} {x:HEv} (h2:x.kind=2) (g:List HEv) (h:EndT (opsT (g++[x]) 0 0) e (bu n)):EndT (opsT g 0 0) e (bu n):=by
 obtain⟨a1,a2⟩:=nw x h2 g 0 0
 refine (Fwd.id (n:=n) a1.symm (fun j o o' h1 h2=>?_) (fun j k o o' q q' h1 h2 h3 h4 h5=>?_)).first h
 ·rcases a2 j o o' h1 h2 with rfl | ⟨c1,c2,v,e,rfl⟩
  ·exact⟨rfl,rfl,fun h=>h,fun h=>⟨h,rfl⟩⟩
  ·refine⟨rfl,rfl,fun hm=>?_,fun hm=>?_⟩
   ·unfold mayB at hm ⊢
    rw[Bool.and_eq_true]at hm ⊢
    exact⟨hm.1,by rw[c1]; rfl⟩
   ·unfold bB at hm
    rw[c1]at hm; cases hm
 ·have hq:q.invoked=q'.invoked∧q.era=q'.era:=by
   rcases a2 k q q' h3 h4 with rfl | ⟨_,_,v,e,rfl⟩ <;> exact⟨rfl,rfl⟩
  unfold befB at h5 ⊢
  rw[hq.1,hq.2]
  rcases a2 j o o' h1 h2 with rfl | ⟨c1,c2,v,e,rfl⟩
  ·exact h5
  ·by_cases he:o'.era=q'.era
   ·rw[if_pos he,c1]at h5; cases h5
   ·rw[if_neg he]at h5
    simp only
    rw[if_neg he]; exact h5
theorem td {l:List HOp} {e:Int} {s:RS} (h:EndT l (e+1) s):s.era<e→EndT l e s:=by
 induction h with
 | fin h1 h2=>intro h3; omega
 | step x hx _ ih =>
  intro h3
  rcases bK.1 hx with ⟨j,o,h1,h2,rfl⟩ | ⟨h1,h2,rfl⟩
  ·exact .step _ (bK.2 (.inl ⟨j,o,h1,h2,rfl⟩)) (ih (by rw[eG]; exact h3))
  ·rename_i s _
   by_cases h4:s.era=e-1
   ·exact .fin h2 h4
   ·exact .step _ (bK.2 (.inr ⟨by omega,h2,rfl⟩)) (ih (by simp only[bx]; omega))
section
variable {l : List HOp} {z : HOp} {e : Int}
theorem m9 {j:Nat} {o:HOp} (h:(l++[z])[j]?=some o):(j<l.length∧l[j]?=some o)∨(j=l.length∧o=z):=by
 rw[List.getElem?_append]at h
 split at h
 ·rename_i hj; exact .inl ⟨hj,h⟩
 ·rcases hk:j-l.length with _ | k
  ·rw[hk]at h; cases h; exact .inr ⟨by omega,rfl⟩
  ·rw[hk]at h; simp at h
theorem iz {s:RS} (h:bY s (l++[z]) 0=true):bY s l 0=true:=by
 rw[jN]at h ⊢
 exact fun j q hj he hm=>h j q (gZ hj) he hm
theorem vH (hz:z.era=e-1) (hb:∀o∈l,o.era=z.era→0≤o.returned→befB o z=true) (hm:bB z=false) {t:RS} (h:EndT (l++[z]) e t):t.era=z.era→hasB t.taken (l.length:Int)=true→bY t (l++[z]) 0=true:=by
 induction h with
 | fin h1 _=>exact fun _ _=>h1
 | step x hx _ ih =>
  rename_i t _
  intro he ht
  rcases bK.1 hx with ⟨j,o,h1,h2,rfl⟩ | ⟨h1,h2,rfl⟩
  ·obtain⟨q1,q2,q3,q4⟩:=fz (cG h2)
   have htk:(bd t (l++[z]) j o).1.taken=dG t.taken j:=by rw[bd,if_pos (cG h2)]
   have hf:=ih (by rw[eG]; exact he) (by rw[htk,cW,ht]; rfl)
   rw[jN]at hf ⊢
   intro k q hk hq hqm
   have:=hf k q hk (by rw[eG]; exact hq) hqm
   rw[htk,cW,Bool.or_eq_true,decide_eq_true_eq]at this
   rcases this with h3 | h3
   ·exact h3
   ·have:j=k:=by omega
    subst this
    have hqo:o=q:=by rw[hk]at h1; exact (Option.some.inj h1).symm
    subst hqo
    rcases m9 hk with ⟨hj,hq2⟩ | ⟨hj,rfl⟩
    ·have hmr:0≤o.returned:=by
      unfold bB at hqm
      rw[Bool.and_eq_true]at hqm
      exact of_decide_eq_true hqm.1
     have hbz:=hb o (List.mem_of_getElem? hq2) (by omega) hmr
     have:hitL t o (l++[z]) 0=true:=(fG _ 0).2 ⟨l.length,z,by simp,by
      rw[Nat.zero_add]
      unfold hitB
      have ht:t.taken.any (fun y=>decide (y=(l.length:Int)))=true:=ht
      rw[ht,if_pos rfl]; exact hbz⟩
     rw[q4]at this; cases this
    ·rw[hm]at hqm; cases hqm
  ·omega
theorem xB (hz:z.era=e-1) (hb:∀o∈l,o.era=z.era→0≤o.returned→befB o z=true) (hm:bB z=false) {s:RS} (h:EndT (l++[z]) e s):hasB s.taken (l.length:Int)=false→EndT l e s:=by
 induction h with
 | fin h1 h2=>exact fun _=>.fin (iz h1) h2
 | step x hx hE ih =>
  rename_i s
  intro hn
  rcases bK.1 hx with ⟨j,o,h1,h2,rfl⟩ | ⟨h1,h2,rfl⟩
  ·obtain⟨q1,q2,q3,q4⟩:=fz (cG h2)
   have htk:(bd s (l++[z]) j o).1.taken=dG s.taken j:=by rw[bd,if_pos (cG h2)]
   rcases m9 h1 with ⟨hj,ho⟩ | ⟨hj,rfl⟩
   ·have hit:hitL s o l 0=false:=by
     rw[Bool.eq_false_iff]
     intro hc
     obtain⟨k,q,hk,hh⟩:=(fG l 0).1 hc
     have:hitL s o (l++[z]) 0=true:=(fG _ 0).2 ⟨k,q,gZ hk,hh⟩
     rw[q4]at this; cases this
    have hb2:takB s l j o=true:=by
     unfold takB
     have q3:s.taken.any (fun y=>decide (y=(j:Int)))=false:=q3
     rw[dT q1,q2,q3,hit]; rfl
    have hsame:bd s (l++[z]) j o=bd s l j o:=by rw[bd,bd,if_pos (cG h2),if_pos hb2]
    rw[hsame]at ih h2
    refine .step _ (bK.2 (.inl ⟨j,o,ho,h2,rfl⟩)) (ih ?_)
    have htk2:(bd s l j o).1.taken=dG s.taken j:=by rw[bd,if_pos hb2]
    rw[htk2,cW,hn,dF (by omega)]; rfl
   ·subst hj
    have hera:s.era=e-1:=by rw[←q1]; exact hz
    have hf:=vH hz hb hm hE (by rw[eG]; exact q1.symm) (by rw[htk,cW,dT rfl,Bool.or_true])
    refine .fin (iz (z:=o) ?_) hera
    rw[jN]at hf ⊢
    intro k q hk hq hqm
    have:=hf k q hk (by rw[eG]; exact hq) hqm
    rw[htk,cW,Bool.or_eq_true,decide_eq_true_eq]at this
    rcases this with h3 | h3
    ·exact h3
    ·have:k=l.length:=by omega
     subst this
     rcases m9 hk with ⟨h5,_⟩ | ⟨_,rfl⟩
     ·omega
     ·rw[hm]at hqm; cases hqm
  ·exact .step _ (bK.2 (.inr ⟨h1,iz h2,rfl⟩)) (ih rfl)
end
theorem vh {n:Nat} {g:List HEv} {x:HEv} (hA:cv (g++[x])) (h:EndT (opsR (g++[x])) (br (g++[x])) (bu n)):EndT (opsR g) (br g) (bu n):=by
 rw[n6,p5]at h ⊢
 have hf:fitB g x=true:=by
  have:=hA g.length x (by rw[List.getElem?_append_right (Nat.le_refl _),Nat.sub_self]; rfl)
  rwa [List.take_left' rfl]at this
 have hE:br (g++[x])=br g+if x.kind=3 then 1 else 0:=by
  unfold br
  rw[List.countP_append,List.countP_cons,List.countP_nil,Nat.zero_add]
  by_cases h3:x.kind=3
  ·rw[if_pos (dT h3),if_pos h3]; omega
  ·rw[if_neg (by rw[dF h3]; decide),if_neg h3]; rfl
 unfold fitB at hf
 by_cases k1:x.kind=1
 ·rw[if_pos k1]at hf
  unfold fit1 at hf
  simp only[Bool.and_eq_true,decide_eq_true_eq]at hf
  rw[hE,if_neg (by omega),Nat.add_zero,ny x k1 g [] 0 0 hf.1.1.1.2]at h
  refine xB (z:=bL x (0+g.length) (0+(nCr g:Int)) 0) ?_ (fun o ho he hr=>?_) rfl h rfl
  ·simp only[bL,nCr,br]; omega
  ·have:=gg g 0 0 o ho
   rw[befB,if_pos he,dT hr]
   simp only[bL,Bool.true_and]
   exact dT (by omega)
 ·rw[if_neg k1]at hf
  by_cases k2:x.kind=2
  ·rw[hE,if_neg (by omega),Nat.add_zero]at h
   exact xA k2 g h
  ·rw[if_neg k2]at hf
   by_cases k3:x.kind=3
   ·rw[hE,if_pos k3,kp x k3]at h
    refine td (e:=br g) ?_ ?_
    ·have:((br g+1:Nat):Int)=(br g:Int)+1:=by omega
     rwa [this]at h
    ·have:=fV g
     show (0:Int)<_
     omega
   ·rw[if_neg k3]at hf; cases hf
end Go.Proofs.Ytkehohfgbblokaa
namespace Go.Proofs.Ytkehohfgbblokaa
open Go.Eng Go.Plain
set_option maxHeartbeats 32000000
set_option maxRecDepth 20000
def badE (y:HEv):Bool:=decide (y.err=1)||decide (y.err=8)
def badC (c:Int) (r:List HEv):Bool:=match ba c r 0 with
 | some v=>badE v.2
 | none=>false
def remE (x:HEv) (r:List HEv):Bool:=if x.kind=1 then badC x.client r else if x.kind=2 then badE x else false
def filt:List HEv→List HEv
 | []=>[]
 | x::r=>if remE x r then filt r else x::filt r
def eA:List HEv→List HEv→List HEv
 | [],_=>[]
 | x::p,r=>if remE x (p++r) then eA p r else x::eA p r
theorem lQ:∀p:List HEv,eA p []=filt p
 | []=>rfl
 | x::p=>by rw[eA,filt,List.append_nil,lQ p]
theorem iJ (x:HEv) (r:List HEv):∀p:List HEv,eA (p++[x]) r=eA p (x::r)++if remE x r then[] else[x]
 | []=>by
  show (if remE x ([]++r) then eA [] r else x::eA [] r)=_
  cases h:remE x r <;> simp[eA,h]
 | y::p=>by
  rw[List.cons_append,eA,eA,iJ x r p,List.append_assoc]
  simp only[List.cons_append,List.nil_append]
  split <;> rfl
theorem lI (c:Int):∀(r:List HEv) (k:Nat),ba c r (k+1)=(ba c r k).map fun v=>(v.1+1,v.2)
 | [],_=>rfl
 | x::r,k=>by
  rw[ba,ba]
  split
  ·rfl
  ·split
   ·rfl
   ·exact lI c r (k+1)
theorem fI (c:Int) (r:List HEv):∀k:Nat,ba c r k=(ba c r 0).map fun v=>(v.1+k,v.2)
 | 0=>by cases ba c r 0 <;> rfl
 | k+1=>by
  rw[lI,fI c r k,Option.map_map]
  congr 1
theorem jV {c:Int} {x:HEv} {r:List HEv} (h3:x.kind≠3) (hc:x.client≠c):badC c (x::r)=badC c r:=by
 unfold badC
 rw[ba,if_neg h3,if_neg hc,lI]
 cases ba c r 0 <;> rfl
theorem xX {x:HEv} {r:List HEv} (h3:x.kind≠3):badC x.client (x::r)=badE x:=by
 unfold badC
 rw[ba,if_neg h3,if_pos rfl]
def FI (p r:List HEv):Prop:=∀c:Int,(pend p c<0→pend (eA p r) c<0)∧(0≤pend p c→(badC c r=true→pend (eA p r) c<0)∧(badC c r=false→0≤pend (eA p r) c∧(eA p r)[(pend (eA p r) c).toNat]?=p[(pend p c).toNat]?))
theorem e9 (p:List HEv) (x:HEv) (c:Int):pend (p++[x]) c=if x.kind=3 then-1 else if x.kind=1 then (if x.client=c then (p.length:Int) else pend p c) else if x.kind=2 then (if x.client=c then-1 else pend p c) else pend p c:=by
 rw[dL,e8]
theorem g7 {p:List HEv} {x:HEv} {c:Int} (h:0≤pend p c):(p++[x])[(pend p c).toNat]?=p[(pend p c).toNat]?:=by
 have:=pZ p c
 rw[List.getElem?_append_left (by omega)]
theorem yM {p r:List HEv} {x:HEv} (hf:fitB p x=true) (I:FI p (x::r)):FI (p++[x]) r∧(remE x r=false→fitB (eA p (x::r)) x=true):=by
 unfold FI
 obtain⟨Q,hQ⟩:∃Q,Q=eA p (x::r):=⟨_,rfl⟩
 have hQ':=iJ x r p
 unfold FI at I
 rw[←hQ]at hQ' I ⊢
 rw[hQ']
 unfold fitB at hf ⊢
 by_cases k1:x.kind=1
 ·rw[if_pos k1]at hf ⊢
  have h3:x.kind≠3:=by omega
  have hp:pend p x.client<0:=by
   unfold fit1 at hf
   simp only[Bool.and_eq_true,decide_eq_true_eq]at hf
   exact hf.1.1.1.2
  have hQp:=(I x.client).1 hp
  have hrm:remE x r=badC x.client r:=by rw[remE,if_pos k1]
  refine⟨fun c=>?_,fun _=>?_⟩
  ·rw[hrm]
   cases hb:badC x.client r with
   | true =>
    rw[if_pos rfl,List.append_nil,e9,if_neg h3,if_pos k1]
    by_cases hc:x.client=c
    ·subst hc
     rw[if_pos rfl]
     exact⟨fun h=>by omega,fun _=>⟨fun _=>hQp,fun h=>(by rw[hb]at h; cases h)⟩⟩
    ·rw[if_neg hc]
     obtain⟨i1,i2⟩:=I c
     rw[jV h3 hc]at i2
     refine⟨i1,fun h=>?_⟩
     rw[g7 h]
     exact i2 h
   | false =>
    rw[if_neg Bool.false_ne_true,e9,e9,if_neg h3,if_neg h3,if_pos k1,if_pos k1]
    by_cases hc:x.client=c
    ·subst hc
     rw[if_pos rfl,if_pos rfl]
     refine⟨fun h=>by omega,fun _=>⟨fun h=>(by rw[hb]at h; cases h),fun _=>⟨by omega,?_⟩⟩⟩
     rw[Int.toNat_natCast,Int.toNat_natCast,List.getElem?_append_right (Nat.le_refl _),List.getElem?_append_right (Nat.le_refl _),Nat.sub_self,Nat.sub_self]
    ·rw[if_neg hc,if_neg hc]
     obtain⟨i1,i2⟩:=I c
     rw[jV h3 hc]at i2
     refine⟨i1,fun h=>⟨(i2 h).1,fun hb2=>?_⟩⟩
     obtain⟨j1,j2⟩:=(i2 h).2 hb2
     rw[g7 h,g7 j1]
     exact⟨j1,j2⟩
  ·unfold fit1 at hf ⊢
   simp only[Bool.and_eq_true,decide_eq_true_eq]at hf ⊢
   exact⟨⟨⟨⟨hf.1.1.1.1,hQp⟩,hf.1.1.2⟩,hf.1.2⟩,hf.2⟩
 ·rw[if_neg k1]at hf ⊢
  by_cases k2:x.kind=2
  ·rw[if_pos k2]at hf ⊢
   have h3:x.kind≠3:=by omega
   have hp:0≤pend p x.client:=by
    unfold fit2 at hf
    simp only[Bool.and_eq_true]at hf
    have:=hf.1.1.1.2
    simp at this
    exact this
   have hrm:remE x r=badE x:=by rw[remE,if_neg k1,if_pos k2]
   obtain⟨i1,i2⟩:=I x.client
   rw[xX h3]at i2
   refine⟨fun c=>?_,fun hr=>?_⟩
   ·rw[hrm]
    cases hb:badE x with
    | true =>
     rw[if_pos rfl,List.append_nil,e9,if_neg h3,if_neg k1,if_pos k2]
     by_cases hc:x.client=c
     ·subst hc
      rw[if_pos rfl]
      exact⟨fun _=>(i2 hp).1 hb,fun h=>by omega⟩
     ·rw[if_neg hc]
      obtain⟨i1,i2⟩:=I c
      rw[jV h3 hc]at i2
      refine⟨i1,fun h=>?_⟩
      rw[g7 h]
      exact i2 h
    | false =>
     rw[if_neg Bool.false_ne_true,e9,e9,if_neg h3,if_neg h3,if_neg k1,if_neg k1,if_pos k2,if_pos k2]
     by_cases hc:x.client=c
     ·rw[if_pos hc,if_pos hc]
      exact⟨fun h=>h,fun h=>by omega⟩
     ·rw[if_neg hc,if_neg hc]
      obtain⟨i1,i2⟩:=I c
      rw[jV h3 hc]at i2
      refine⟨i1,fun h=>⟨(i2 h).1,fun hb2=>?_⟩⟩
      obtain⟨j1,j2⟩:=(i2 h).2 hb2
      rw[g7 h,g7 j1]
      exact⟨j1,j2⟩
   ·rw[hrm]at hr
    obtain⟨j1,j2⟩:=(i2 hp).2 hr
    unfold fit2 at hf ⊢
    rw[j2]
    simp only[Bool.and_eq_true]at hf ⊢
    refine⟨⟨⟨⟨hf.1.1.1.1,?_⟩,hf.1.1.2⟩,hf.1.2⟩,hf.2⟩
    simp; exact j1
  ·rw[if_neg k2]at hf ⊢
   by_cases k3:x.kind=3
   ·rw[if_pos k3]at hf ⊢
    have hrm:remE x r=false:=by rw[remE,if_neg k1,if_neg k2]
    refine⟨fun c=>?_,fun _=>hf⟩
    rw[hrm,if_neg Bool.false_ne_true,e9,e9,if_pos k3,if_pos k3]
    exact⟨fun h=>h,fun h=>by omega⟩
   ·rw[if_neg k3]at hf; cases hf
theorem rG:∀(r p:List HEv),cv (p++r)→FI p r→cv (eA p r)→cv (filt (p++r))
 | [],p,_,_,h=>by rw[List.append_nil,←lQ]; exact h
 | x::r,p,hA,I,h=>by
  have hf:fitB p x=true:=by
   have:=hA p.length x (by rw[List.getElem?_append_right (Nat.le_refl _),Nat.sub_self]; rfl)
   rwa [List.take_left' rfl]at this
  obtain⟨h1,h2⟩:=yM hf I
  have h3:cv (eA (p++[x]) r):=by
   rw[iJ]
   cases hr:remE x r with
   | true=>rw[if_pos rfl,List.append_nil]; exact h
   | false=>rw[if_neg Bool.false_ne_true]; exact h.snoc (h2 hr)
  have:=rG r (p++[x]) (by rw[List.append_assoc]; exact hA) h1 h3
  rwa [List.append_assoc]at this
theorem n4:∀(r:List HEv) (x:HEv),x∈filt r→x∈r
 | [],_,h=>h
 | y::r,x,h=>by
  rw[filt]at h
  split at h
  ·exact List.mem_cons_of_mem _ (n4 r x h)
  ·rcases List.mem_cons.1 h with rfl | h
   ·exact List.mem_cons_self
   ·exact List.mem_cons_of_mem _ (n4 r x h)
theorem rE:∀r:List HEv,(filt r).length≤r.length
 | []=>Nat.le_refl _
 | y::r=>by
  have:=rE r
  rw[filt]
  split
  ·rw[List.length_cons]; omega
  ·rw[List.length_cons,List.length_cons]; omega
theorem s9 {h:List HEv} (H:lz h):lz (filt h):=by
 have:=rG h [] H.fit (fun c=>⟨fun h=>h,fun h=>absurd h (by rw[show pend [] c = -1 from rfl]; decide)⟩) oc
 refine⟨this,fun x hx=>H.cl x (n4 h x hx),Nat.le_trans (rE h) H.len⟩
theorem uh:∀r:List HEv,(filt r).countP (fun x=>decide (x.kind=3))=r.countP fun x=>decide (x.kind=3)
 | []=>rfl
 | y::r=>by
  rw[filt,List.countP_cons,←uh r]
  cases hr:remE y r with
  | true =>
   have:¬y.kind=3:=by
    intro h3
    rw[remE,if_neg (by omega),if_neg (by omega)]at hr; cases hr
   rw[if_pos rfl,if_neg (by rw[dF this]; decide)]; rfl
  | false=>rw[if_neg Bool.false_ne_true,List.countP_cons]
def mB (r:List HEv):Prop:=∀(p r':List HEv) (x:HEv),r=p++x::r'→x.kind=1→∀v,ba x.client r' 0=some v→v.2.kind=2
theorem qF {c:Int}:∀(r p:List HEv) (k:Nat) (v:Nat×HEv),cv (p++r)→0≤pend p c→ba c r k=some v→v.2.kind=2
 | [],_,_,_,_,_,h=>by cases h
 | x::r,p,k,v,hA,hp,h=>by
  have hf:fitB p x=true:=by
   have:=hA p.length x (by rw[List.getElem?_append_right (Nat.le_refl _),Nat.sub_self]; rfl)
   rwa [List.take_left' rfl]at this
  rw[ba]at h
  by_cases h3:x.kind=3
  ·rw[if_pos h3]at h; cases h
  ·rw[if_neg h3]at h
   by_cases hc:x.client=c
   ·rw[if_pos hc]at h
    cases h
    unfold fitB at hf
    by_cases k1:x.kind=1
    ·rw[if_pos k1]at hf
     unfold fit1 at hf
     simp only[Bool.and_eq_true,decide_eq_true_eq]at hf
     have:=hf.1.1.1.2
     rw[hc]at this
     omega
    ·rw[if_neg k1]at hf
     by_cases k2:x.kind=2
     ·exact k2
     ·rw[if_neg k2,if_neg h3]at hf; cases hf
   ·rw[if_neg hc]at h
    refine qF r (p++[x]) (k+1) v (by rw[List.append_assoc]; exact hA) ?_ h
    rw[e9,if_neg h3]
    by_cases k1:x.kind=1
    ·rw[if_pos k1,if_neg hc]; exact hp
    ·rw[if_neg k1]
     by_cases k2:x.kind=2
     ·rw[if_pos k2,if_neg hc]; exact hp
     ·rw[if_neg k2]; exact hp
theorem zy {h:List HEv} (hA:cv h):mB h:=fun p r' x e k1 v hv=>by
 subst e
 refine qF r' (p++[x]) 0 v (by rw[List.append_assoc]; exact hA) ?_ hv
 rw[e9,if_neg (by omega),if_pos k1,if_pos rfl]; omega
theorem mB.tail {x:HEv} {r:List HEv} (h:mB (x::r)):mB r:=fun p r' y e=>h (x::p) r' y (by rw[e]; rfl)
end Go.Proofs.Ytkehohfgbblokaa
namespace Go.Proofs.Ytkehohfgbblokaa
open Go.Eng Go.Plain
set_option maxHeartbeats 32000000
set_option maxRecDepth 20000
def posF:List HEv→Nat→Nat→Nat→Nat
 | [],_,i',_=>i'
 | x::r,i,i',q=>if q≤i then i' else posF r (i+1) (if remE x r then i' else i'+1) q
def eH (o:HOp):Bool := !(decide (0≤o.returned)&&(decide (o.err=1)||decide (o.err=8)))
def renO (t:Nat→Nat) (o:HOp):HOp := { o with invoked:=t o.invoked.toNat,returned:=if o.returned<0 then o.returned else (t o.returned.toNat:Int) }
def l7 (r:List HEv) (i q:Nat):Prop:=∃(a b:List HEv) (x:HEv),r=a++x::b∧q=i+a.length∧remE x b=false
theorem pW:∀(r:List HEv) (i i' q:Nat),i'≤posF r i i' q
 | [],_,_,_=>Nat.le_refl _
 | x::r,i,i',q=>by
  rw[posF]
  split
  ·exact Nat.le_refl _
  ·exact Nat.le_trans (by split <;> omega) (pW r (i+1) (if remE x r then i' else i'+1) q)
theorem oW:∀(r:List HEv) (i i' a b:Nat),a≤b→posF r i i' a≤posF r i i' b
 | [],_,_,_,_,_=>Nat.le_refl _
 | x::r,i,i',a,b,h=>by
  rw[posF,posF]
  by_cases ha:a≤i
  ·rw[if_pos ha]
   split
   ·exact Nat.le_refl _
   ·exact Nat.le_trans (by split <;> omega) (pW r (i+1) (if remE x r then i' else i'+1) b)
  ·rw[if_neg ha,if_neg (c:=b≤i) (by omega)]
   exact oW r (i+1) _ a b h
theorem tO:∀(r:List HEv) (i i' a b:Nat),l7 r i a→a<b→posF r i i' a<posF r i i' b
 | [],_,_,_,_,⟨p,q,x,h,_⟩,_=>by simp at h
 | x::r,i,i',a,b,⟨p,q,y,h,ha,hr⟩,hab=>by
  rw[posF,posF]
  cases p with
  | nil =>
   simp at h
   obtain⟨rfl,rfl⟩:=h
   simp at ha
   rw[if_pos (by omega),if_neg (by omega),hr,if_neg Bool.false_ne_true]
   have:=pW r (i+1) (i'+1) b
   omega
  | cons z p =>
   simp at h
   obtain⟨rfl,rfl⟩:=h
   simp at ha
   rw[if_neg (c:=a≤i) (by omega),if_neg (c:=b≤i) (by omega)]
   exact tO _ (i+1) _ a b ⟨p,q,y,rfl,by omega,hr⟩ hab
theorem l7.tail {x:HEv} {r:List HEv} {i q:Nat} (h:l7 r (i+1) q):l7 (x::r) i q:=by
 obtain⟨a,b,y,rfl,h2,h3⟩:=h
 exact⟨x::a,b,y,rfl,by rw[List.length_cons]; omega,h3⟩
theorem retF (c:Int):∀(r:List HEv) (k k':Nat),(∀v,ba c r k=some v→v.2.kind=2∧badE v.2=false)→ba c (filt r) k'=(ba c r k).map fun v=>(posF r k k' v.1,v.2)
 | [],_,_,_=>rfl
 | x::r,k,k',hg=>by
  rw[ba]at hg ⊢
  by_cases h3:x.kind=3
  ·have hr:remE x r=false:=by rw[remE,if_neg (by omega),if_neg (by omega)]
   rw[if_pos h3,filt,hr,if_neg Bool.false_ne_true,ba,if_pos h3]; rfl
  ·rw[if_neg h3]at hg ⊢
   by_cases hc:x.client=c
   ·rw[if_pos hc]at hg ⊢
    obtain⟨g1,g2⟩:=hg _ rfl
    have hr:remE x r=false:=by rw[remE,if_neg (by simp only at g1; omega),if_pos g1]; exact g2
    rw[filt,hr,if_neg Bool.false_ne_true,ba,if_neg h3,if_pos hc,Option.map_some,posF,if_pos (Nat.le_refl _)]
   ·rw[if_neg hc]at hg ⊢
    have hpos:∀v,ba c r (k+1)=some v→posF (x::r) k k' v.1=posF r (k+1) (if remE x r then k' else k'+1) v.1:=fun v hv=>by
     have hk:k+1≤v.1:=by
      rw[fI c r (k+1)]at hv
      cases h0:ba c r 0 with
      | none=>rw[h0]at hv; cases hv
      | some w=>rw[h0]at hv; cases hv; simp only; omega
     rw[posF,if_neg (by omega)]
    have hmap:(ba c r (k+1)).map (fun v=>(posF (x::r) k k' v.1,v.2))=(ba c r (k+1)).map fun v=>(posF r (k+1) (if remE x r then k' else k'+1) v.1,v.2):=by
     cases hv:ba c r (k+1) with
     | none=>rfl
     | some v=>rw[Option.map_some,Option.map_some,hpos v hv]
    rw[hmap,filt]
    cases hr:remE x r with
    | true =>
     rw[if_pos rfl,if_pos rfl]
     exact retF c r (k+1) k' hg
    | false =>
     rw[if_neg Bool.false_ne_true,if_neg Bool.false_ne_true,ba,if_neg h3,if_neg hc]
     exact retF c r (k+1) (k'+1) hg
theorem fT:∀(r:List HEv) (i i':Nat) (era:Int),mB r→opsT (filt r) i' era=((opsT r i era).filter eH).map (renO (posF r i i'))
 | [],_,_,_,_=>rfl
 | x::r,i,i',era,hG=>by
  have tail:∀(era2:Int) (L:List HOp),L=opsT r (i+1) era2→(L.filter eH).map (renO (posF (x::r) i i'))=(L.filter eH).map (renO (posF r (i+1) (if remE x r then i' else i'+1))):=fun era2 L hL=>by
   refine List.map_congr_left fun o ho=>?_
   have ho:=(List.mem_filter.1 ho).1
   rw[hL]at ho
   obtain⟨b1,_,b3,_⟩:=gg r (i+1) era2 o ho
   have hret:o.returned<0∨i+1≤o.returned.toNat:=by
    by_cases hr:o.returned<0
    ·exact .inl hr
    ·right
     have key:∀(r:List HEv) (i:Nat) (era:Int) (o:HOp),o∈opsT r i era→0≤o.returned→(i:Int)≤o.returned:=by
      intro r
      induction r with
      | nil=>intro i era o h; cases h
      | cons y r ih =>
       intro i era o h h0
       rw[opsT]at h
       split at h
       ·have:=ih (i+1) _ o h h0; omega
       ·split at h
        ·rcases List.mem_cons.1 h with rfl | h
         ·cases hv:ba y.client r (i+1) with
          | none=>rw[hv]at h0; simp[cn,bL]at h0
          | some v =>
           rw[fI]at hv
           cases hw:ba y.client r 0 with
           | none=>rw[hw]at hv; cases hv
           | some w=>rw[hw]at hv; cases hv; simp only[cn]; omega
         ·have:=ih (i+1) _ o h h0; omega
        ·have:=ih (i+1) _ o h h0; omega
     have:=key r (i+1) era2 o ho (by omega)
     omega
   have e1:posF (x::r) i i' o.invoked.toNat=posF r (i+1) (if remE x r then i' else i'+1) o.invoked.toNat:=by rw[posF,if_neg (by omega)]
   unfold renO
   rw[e1]
   rcases hret with hr | hr
   ·rw[if_pos hr,if_pos hr]
   ·rw[show posF (x::r) i i' o.returned.toNat=posF r (i+1) (if remE x r then i' else i'+1) o.returned.toNat by rw[posF,if_neg (by omega)]]
  by_cases h3:x.kind=3
  ·have hr:remE x r=false:=by rw[remE,if_neg (by omega),if_neg (by omega)]
   rw[filt,hr,if_neg Bool.false_ne_true,opsT,if_pos h3,opsT,if_pos h3,fT r (i+1) (i'+1) (era+1) hG.tail,tail (era+1) _ rfl,hr,if_neg Bool.false_ne_true]
  ·by_cases k1:x.kind=1
   ·have hrm:remE x r=badC x.client r:=by rw[remE,if_pos k1]
    have hk:eH (cn (bL x i era 0) (ba x.client r (i+1))) = !badC x.client r:=by
     unfold badC
     rw[fI x.client r (i+1)]
     cases ba x.client r 0 with
     | none=>rfl
     | some v =>
      show (!(decide ((0:Int)≤((v.1+(i+1):Nat):Int))&&(decide (v.2.err=1)||decide (v.2.err=8)))) = !(decide (v.2.err=1)||decide (v.2.err=8))
      rw[dT (by omega),Bool.true_and]
    rw[opsT,if_neg h3,if_pos k1,filt]
    cases hb:badC x.client r with
    | true =>
     rw[hrm,hb,if_pos rfl,List.filter_cons_of_neg (by rw[hk,hb]; decide),tail era _ rfl,hrm,hb,if_pos rfl]
     exact fT r (i+1) i' era hG.tail
    | false =>
     rw[hrm,hb,if_neg Bool.false_ne_true,List.filter_cons_of_pos (by rw[hk,hb]; rfl),List.map_cons,opsT,if_neg h3,if_pos k1,tail era _ rfl,hrm,hb,if_neg Bool.false_ne_true,fT r (i+1) (i'+1) era hG.tail]
     congr 1
     have hgd:∀v,ba x.client r (i+1)=some v→v.2.kind=2∧badE v.2=false:=fun v hv=>by
      rw[fI]at hv
      unfold badC at hb
      cases hw:ba x.client r 0 with
      | none=>rw[hw]at hv; cases hv
      | some w =>
       rw[hw]at hv hb
       cases hv
       exact⟨hG [] r x rfl k1 w hw,hb⟩
     rw[retF x.client r (i+1) (i'+1) hgd]
     have key:posF (x::r) i i' i=i':=by rw[posF,if_pos (Nat.le_refl _)]
     cases hv:ba x.client r (i+1) with
     | none=>simp[renO,cn,bL,key]
     | some v =>
      have hv1:i+1≤v.1:=by
       rw[fI]at hv
       cases hw:ba x.client r 0 with
       | none=>rw[hw]at hv; cases hv
       | some w=>rw[hw]at hv; cases hv; simp only; omega
      have key2:posF (x::r) i i' v.1=posF r (i+1) (i'+1) v.1:=by rw[posF,if_neg (by omega),hrm,hb,if_neg Bool.false_ne_true]
      obtain⟨q,y⟩:=v
      simp only at key2
      have hq:¬((q:Nat):Int)<0:=by omega
      simp[renO,cn,bL,key,key2,hq]
   ·rw[opsT,if_neg h3,if_neg k1,filt,tail era _ rfl]
    cases hr:remE x r with
    | true =>
     rw[if_pos rfl,if_pos rfl]
     exact fT r (i+1) i' era hG.tail
    | false =>
     rw[if_neg Bool.false_ne_true,if_neg Bool.false_ne_true,opsT,if_neg h3,if_neg k1]
     exact fT r (i+1) (i'+1) era hG.tail
theorem fD:∀(r:List HEv) (i:Nat) (era:Int),(opsT r i era).Pairwise fun a b=>a.invoked<b.invoked
 | [],_,_=>.nil
 | x::r,i,era=>by
  rw[opsT]
  split
  ·exact fD r (i+1) (era+1)
  ·split
   ·refine List.pairwise_cons.2 ⟨fun o ho=>?_,fD r (i+1) era⟩
    have:=(gg r (i+1) era o ho).1
    have h2:(cn (bL x i era 0) (ba x.client r (i+1))).invoked=i:=by
     cases ba x.client r (i+1) <;> rfl
    rw[h2]; omega
   ·exact fD r (i+1) era
theorem gW:∀(r:List HEv) (i:Nat) (era:Int),mB r→∀o∈opsT r i era,eH o=true→l7 r i o.invoked.toNat∧(0≤o.returned→l7 r i o.returned.toNat)
 | [],_,_,_,_,h,_=>by cases h
 | x::r,i,era,hG,o,h,hk=>by
  rw[opsT]at h
  split at h
  ·obtain⟨a,b⟩:=gW r (i+1) _ hG.tail o h hk
   exact⟨a.tail,fun h=>(b h).tail⟩
  ·rename_i h3
   split at h
   ·rename_i k1
    rcases List.mem_cons.1 h with rfl | h
    ·have hrm:remE x r=badC x.client r:=by rw[remE,if_pos k1]
     have hb:badC x.client r=false:=by
      unfold badC
      rw[fI x.client r (i+1)]at hk
      cases hw:ba x.client r 0 with
      | none=>rfl
      | some v =>
       rw[hw]at hk
       have hk:(!(decide ((0:Int)≤((v.1+(i+1):Nat):Int))&&(decide (v.2.err=1)||decide (v.2.err=8))))=true:=hk
       rw[dT (by omega),Bool.true_and]at hk
       simpa[badE]using hk
     have hi:(cn (bL x i era 0) (ba x.client r (i+1))).invoked=i:=by
      cases ba x.client r (i+1) <;> rfl
     refine⟨⟨[],r,x,rfl,by rw[hi]; simp,by rw[hrm]; exact hb⟩,fun h0=>?_⟩
     cases hw:ba x.client r 0 with
     | none =>
      rw[fI,hw]at h0
      simp[cn,bL]at h0
     | some v =>
      have hk2:=hG [] r x rfl k1 v hw
      have hbv:badE v.2=false:=by unfold badC at hb; rw[hw]at hb; exact hb
      have split:∀(c:Int) (r:List HEv) (k:Nat) (v:Nat×HEv),ba c r k=some v→∃a b,r=a++v.2::b∧v.1=k+a.length:=by
       intro c r
       induction r with
       | nil=>intro k v h; cases h
       | cons y r ih =>
        intro k v h
        rw[ba]at h
        by_cases h3:y.kind=3
        ·rw[if_pos h3]at h; cases h
        ·rw[if_neg h3]at h
         by_cases hc:y.client=c
         ·rw[if_pos hc]at h; cases h; exact⟨[],r,rfl,rfl⟩
         ·rw[if_neg hc]at h
          obtain⟨a,b,h1,h2⟩:=ih (k+1) v h
          exact⟨y::a,b,by rw[h1]; rfl,by rw[List.length_cons]; omega⟩
      obtain⟨a,b,h1,h2⟩:=split x.client r 0 v hw
      rw[fI,hw]
      simp only[Option.map_some,cn,Int.toNat_natCast]
      refine⟨x::a,b,v.2,by rw[h1]; rfl,by rw[List.length_cons]; omega,?_⟩
      rw[remE,if_neg (by omega),if_pos hk2]; exact hbv
    ·obtain⟨a,b⟩:=gW r (i+1) _ hG.tail o h hk
     exact⟨a.tail,fun h=>(b h).tail⟩
   ·obtain⟨a,b⟩:=gW r (i+1) _ hG.tail o h hk
    exact⟨a.tail,fun h=>(b h).tail⟩
theorem rF {α:Type} (k:α→Bool):∀L:List α,∃f:Nat→Nat,(∀j o,(L.filter k)[j]?=some o→L[f j]?=some o)∧(∀j o,L[j]?=some o→k o=true→∃j',(L.filter k)[j']?=some o∧f j'=j)
 | []=>⟨id,fun j o h=>by simp at h,fun j o h=>by simp at h⟩
 | a::L=>by
  obtain⟨f,h1,h2⟩:=rF k L
  cases ha:k a with
  | true =>
   rw[List.filter_cons_of_pos ha]
   refine⟨fun j=>match j with | 0=>0 | j+1=>f j+1,fun j o h=>?_,fun j o h hk=>?_⟩
   ·cases j with
    | zero=>simpa using h
    | succ j=>simpa using h1 j o (by simpa using h)
   ·cases j with
    | zero=>exact⟨0,by simpa using h,rfl⟩
    | succ j =>
     obtain⟨j',g1,g2⟩:=h2 j o (by simpa using h) hk
     exact⟨j'+1,by simpa using g1,by simp only; rw[g2]⟩
  | false =>
   rw[List.filter_cons_of_neg (by rw[ha]; decide)]
   refine⟨fun j=>f j+1,fun j o h=>by simpa using h1 j o h,fun j o h hk=>?_⟩
   cases j with
   | zero =>
    simp at h; subst h
    rw[ha]at hk; cases hk
   | succ j =>
    obtain⟨j',g1,g2⟩:=h2 j o (by simpa using h) hk
    exact⟨j',g1,by simp only; rw[g2]⟩
theorem sI {L:List HOp} (h:L.Pairwise fun a b=>a.invoked<b.invoked) {j k:Nat} {o q:HOp} (hj:L[j]?=some o) (hk:L[k]?=some q) (he:o.invoked=q.invoked):j=k:=by
 obtain⟨a1,a2⟩:=List.getElem?_eq_some_iff.1 hj
 obtain⟨b1,b2⟩:=List.getElem?_eq_some_iff.1 hk
 rw[List.pairwise_iff_getElem]at h
 rcases Nat.lt_trichotomy j k with hlt | rfl | hlt
 ·have:=h j k a1 b1 hlt; rw[a2,b2]at this; omega
 ·rfl
 ·have:=h k j b1 a1 hlt; rw[a2,b2]at this; omega
section
variable {n : Nat}
theorem tH {t:Nat→Nat} {o:HOp}:mayB (renO t o) n=mayB o n∧bB (renO t o)=bB o:=by
 unfold mayB bB renO
 by_cases h:o.returned<0
 ·simp only[if_pos h,and_self]
 ·simp only[if_neg h]
  have e1:decide (((t o.returned.toNat:Nat):Int)<0)=false:=dF (by omega)
  have e2:decide (o.returned<0)=false:=dF h
  have e3:decide (0≤((t o.returned.toNat:Nat):Int))=true:=dT (by omega)
  have e4:decide (0≤o.returned)=true:=dT (by omega)
  rw[e1,e2,e3,e4]; exact⟨rfl,rfl⟩
theorem gone {o:HOp} (h:eH o=false):bB o=false∧mayB o n=false:=by
 unfold eH at h
 simp only[Bool.not_eq_false',Bool.and_eq_true,Bool.or_eq_true,decide_eq_true_eq]at h
 obtain⟨h0,h1⟩:=h
 unfold bB mayB
 rw[dF (show ¬o.err=0 by omega),dF (show ¬o.returned<0 by omega),dF (show ¬o.err=9 by omega)]
 simp
theorem tI {r:List HEv} {o q:HOp} (hG:mB r) (ho:o∈opsT r 0 0) (hq:q∈opsT r 0 0) (hko:eH o=true) (hkq:eH q=true):befB (renO (posF r 0 0) o) (renO (posF r 0 0) q)=befB o q:=by
 obtain⟨_,a2⟩:=gW r 0 0 hG o ho hko
 obtain⟨b1,_⟩:=gW r 0 0 hG q hq hkq
 have hqi:=(gg r 0 0 q hq).1
 unfold befB renO
 simp only
 by_cases he:o.era=q.era
 ·rw[if_pos he,if_pos he]
  by_cases hr:o.returned<0
  ·rw[if_pos hr,dF (by omega)]; rfl
  ·rw[if_neg hr,dT (by omega),dT (by omega:0≤o.returned),Bool.true_and,Bool.true_and]
   by_cases hlt:o.returned<q.invoked
   ·have:=tO r 0 0 _ q.invoked.toNat (a2 (by omega)) (by omega)
    rw[dT hlt,dT (by omega)]
   ·have:=oW r 0 0 q.invoked.toNat o.returned.toNat (by omega)
    rw[dF hlt,dF (by omega)]
 ·rw[if_neg he,if_neg he]
theorem vI {e:Int} {r:List HEv} (hG:mB r):EndT (opsT r 0 0) e (bu n)↔EndT (opsT (filt r) 0 0) e (bu n):=by
 have hL:=fT r 0 0 0 hG
 obtain⟨f,f1,f2⟩:=rF eH (opsT r 0 0)
 have hs:=fD r 0 0
 have hs':=fD (filt r) 0 0
 have g1:∀(j':Nat) (o':HOp),(opsT (filt r) 0 0)[j']?=some o' → ∃o,(opsT r 0 0)[f j']?=some o∧eH o=true∧o'=renO (posF r 0 0) o:=fun j' o' h=>by
  rw[hL,List.getElem?_map]at h
  cases ho:((opsT r 0 0).filter eH)[j']? with
  | none=>rw[ho]at h; cases h
  | some o =>
   rw[ho]at h
   exact⟨o,f1 j' o ho,(List.mem_filter.1 (List.mem_of_getElem? ho)).2,(Option.some.inj h).symm⟩
 have g2:∀(j:Nat) (o:HOp),(opsT r 0 0)[j]?=some o→eH o=true→∃j',(opsT (filt r) 0 0)[j']?=some (renO (posF r 0 0) o)∧f j'=j:=fun j o ho hk=>by
  obtain⟨j',h1,h2⟩:=f2 j o ho hk
  exact⟨j',by rw[hL,List.getElem?_map,h1]; rfl,h2⟩
 have finj:∀j' k',j'<(opsT (filt r) 0 0).length→k'<(opsT (filt r) 0 0).length→f j'=f k'→j'=k':=fun j' k' hj hk he=>by
  obtain⟨o,h1,_,h3⟩:=g1 j' _ (List.getElem?_eq_getElem hj)
  obtain⟨q,h4,_,h6⟩:=g1 k' _ (List.getElem?_eq_getElem hk)
  rw[he,h4]at h1
  cases h1
  exact sI hs' (List.getElem?_eq_getElem hj) (List.getElem?_eq_getElem hk) (by rw[h3,h6])
 have hkeep:∀o:HOp,mayB o n=true→eH o=true:=fun o hm=>by
  cases hk:eH o with
  | true=>rfl
  | false=>rw[(gone hk).2]at hm; cases hm
 constructor
 ·refine (Fwd.first (n:=n) (m:=fun j'=>some (f j')) ⟨fun j' o' ho'=>.inr ?_,fun j' k' j hj hk h1 h2=>?_,fun j o ho hm=>?_,fun j' k' j k o' q' o q a b c d x y z=>?_⟩)
  ·obtain⟨o,h1,h2,rfl⟩:=g1 j' o' ho'
   obtain⟨m1,m2⟩:=tH (n:=n) (t:=posF r 0 0) (o:=o)
   exact⟨f j',o,rfl,h1,rfl,rfl,fun h=>by rw[m1]; exact h,fun h=>⟨by rw[←m2]; exact h,rfl⟩⟩
  ·simp only[Option.some.injEq]at h1 h2
   exact finj j' k' hj hk (by omega)
  ·obtain⟨j',h1,h2⟩:=g2 j o ho (hkeep o hm)
   exact⟨j',(List.getElem?_eq_some_iff.1 h1).1,by rw[h2]⟩
  ·simp only[Option.some.injEq]at c d
   subst c d
   obtain⟨o2,h1,h2,rfl⟩:=g1 j' o' a
   obtain⟨q2,h3,h4,rfl⟩:=g1 k' q' b
   rw[x]at h1; cases h1
   rw[y]at h3; cases h3
   rwa [tI hG (List.mem_of_getElem? x) (List.mem_of_getElem? y) h2 h4]at z
 ·have hm:∀j:Nat,∃y:Option Nat,∀o,(opsT r 0 0)[j]?=some o→(eH o=true→∃j',y=some j'∧(opsT (filt r) 0 0)[j']?=some (renO (posF r 0 0) o)∧f j'=j)∧(eH o=false→y=none):=fun j=>by
   cases ho:(opsT r 0 0)[j]? with
   | none=>exact⟨none,fun o h=>by cases h⟩
   | some o =>
    cases hk:eH o with
    | true =>
     obtain⟨j',h1,h2⟩:=g2 j o ho hk
     exact⟨some j',fun o2 h=>by cases h; exact⟨fun _=>⟨j',rfl,h1,h2⟩,fun h=>(by rw[hk]at h; cases h)⟩⟩
    | false=>exact⟨none,fun o2 h=>by cases h; exact⟨fun h=>(by rw[hk]at h; cases h),fun _=>rfl⟩⟩
  obtain⟨m,hm⟩:=Classical.skolem.1 hm
  have hms:∀(j j':Nat),j<(opsT r 0 0).length→m j=some j' → ∃o,(opsT r 0 0)[j]?=some o∧eH o=true∧(opsT (filt r) 0 0)[j']?=some (renO (posF r 0 0) o)∧f j'=j:=fun j j' hj h=>by
   have ho:=List.getElem?_eq_getElem hj
   obtain⟨a1,a2⟩:=hm j _ ho
   cases hk:eH (opsT r 0 0)[j] with
   | false=>rw[a2 hk]at h; cases h
   | true =>
    obtain⟨i,b1,b2,b3⟩:=a1 hk
    rw[b1]at h; cases h
    exact⟨_,ho,hk,b2,b3⟩
  refine (Fwd.first (n:=n) (m:=m) ⟨fun j o ho=>?_,fun j k i hj hk h1 h2=>?_,fun j' o' ho' hmay=>?_,fun j k j' k' o q o' q' a b c d x y z=>?_⟩)
  ·obtain⟨a1,a2⟩:=hm j o ho
   cases hk:eH o with
   | false=>exact .inl ⟨a2 hk,(gone (n:=n) hk).1,(gone hk).2⟩
   | true =>
    obtain⟨j',b1,b2,_⟩:=a1 hk
    obtain⟨m1,m2⟩:=tH (n:=n) (t:=posF r 0 0) (o:=o)
    exact .inr ⟨j',_,b1,b2,rfl,rfl,fun h=>by rw[←m1]; exact h,fun h=>⟨by rw[m2]; exact h,rfl⟩⟩
  ·obtain⟨_,_,_,_,h3⟩:=hms j i hj h1
   obtain⟨_,_,_,_,h4⟩:=hms k i hk h2
   omega
  ·obtain⟨o,h1,h2,rfl⟩:=g1 j' o' ho'
   have hlt:=(List.getElem?_eq_some_iff.1 h1).1
   obtain⟨a1,_⟩:=hm (f j') o h1
   obtain⟨i,b1,b2,b3⟩:=a1 h2
   exact⟨f j',hlt,by rw[b1,finj i j' (List.getElem?_eq_some_iff.1 b2).1 (List.getElem?_eq_some_iff.1 ho').1 b3]⟩
  ·obtain⟨o2,h1,h2,h3,_⟩:=hms j j' (List.getElem?_eq_some_iff.1 a).1 c
   obtain⟨q2,h4,h5,h6,_⟩:=hms k k' (List.getElem?_eq_some_iff.1 b).1 d
   rw[a]at h1; cases h1
   rw[b]at h4; cases h4
   rw[x]at h3; cases h3
   rw[y]at h6; cases h6
   rw[tI hG (List.mem_of_getElem? a) (List.mem_of_getElem? b) h2 h5]; exact z
end
theorem s2 {n:Nat} {h:List HEv} (hA:cv h):EndT (opsR h) (br h) (bu n)↔EndT (opsR (filt h)) (br (filt h)) (bu n):=by
 rw[n6,p5,n6 (l:=opsR (filt h)),p5,vI (zy hA)]
 unfold br
 rw[uh]
end Go.Proofs.Ytkehohfgbblokaa
namespace Go.Proofs.Ytkehohfgbblokaa
open Go.Eng Go.Plain
set_option maxHeartbeats 32000000
set_option maxRecDepth 20000
def outB (i:Int) (o:HOp):Bool:=decide (o.returned≥0)&&((decide (o.err=1)||decide (o.err=8))&&(decide (o.invoked=i)||decide (o.returned=i)))
theorem gV {o:HOp}:∀(r:List HEv) (i:Nat) (era:Int),o∈opsT r i era ↔ ∃(p r':List HEv) (x:HEv) (e:Int),r=p++x::r'∧x.kind=1∧e=era+nCr p∧o=cn (bL x (i+p.length) e 0) (ba x.client r' (i+p.length+1))
 | [],i,era=>by
  simp only[opsT,List.not_mem_nil,false_iff]
  rintro⟨p,r',x,e,h,_⟩
  simp at h
 | y::r,i,era=>by
  have hn:nCr (y::r)=nCr r+if y.kind=3 then 1 else 0:=by
   unfold nCr
   rw[List.countP_cons]
   by_cases h3:y.kind=3
   ·rw[if_pos (dT h3),if_pos h3]
   ·rw[if_neg (by rw[dF h3]; decide),if_neg h3]
  have step:∀era2:Int,(∀p:List HEv,era2+(nCr p:Int)=era+(nCr (y::p):Int))→((∃(p r':List HEv) (x:HEv) (e:Int),r=p++x::r'∧x.kind=1∧e=era2+nCr p∧o=cn (bL x (i+1+p.length) e 0) (ba x.client r' (i+1+p.length+1))) ↔ ∃(p r':List HEv) (x:HEv) (e:Int),r=p++x::r'∧x.kind=1∧e=era+nCr (y::p)∧o=cn (bL x (i+(p.length+1)) e 0) (ba x.client r' (i+(p.length+1)+1))):=fun era2 h=>by
   constructor
   ·rintro⟨p,r',x,e,h1,h2,h3,h4⟩
    exact⟨p,r',x,e,h1,h2,by rw[h3,h p],by rw[h4,show i+1+p.length=i+(p.length+1) by omega]⟩
   ·rintro⟨p,r',x,e,h1,h2,h3,h4⟩
    exact⟨p,r',x,e,h1,h2,by rw[h3,h p],by rw[h4,show i+1+p.length=i+(p.length+1) by omega]⟩
  have ncons:∀p:List HEv,nCr (y::p)=nCr p+if y.kind=3 then 1 else 0:=fun p=>by
   unfold nCr
   rw[List.countP_cons]
   by_cases h3:y.kind=3
   ·rw[if_pos (dT h3),if_pos h3]
   ·rw[if_neg (by rw[dF h3]; decide),if_neg h3]
  have out:(∃(p r':List HEv) (x:HEv) (e:Int),y::r=p++x::r'∧x.kind=1∧e=era+nCr p∧o=cn (bL x (i+p.length) e 0) (ba x.client r' (i+p.length+1)))↔(y.kind=1∧o=cn (bL y i era 0) (ba y.client r (i+1)))∨∃(p r':List HEv) (x:HEv) (e:Int),r=p++x::r'∧x.kind=1∧e=era+nCr (y::p)∧o=cn (bL x (i+(p.length+1)) e 0) (ba x.client r' (i+(p.length+1)+1)):=by
   constructor
   ·rintro⟨p,r',x,e,h1,h2,h3,h4⟩
    cases p with
    | nil =>
     simp at h1
     obtain⟨rfl,rfl⟩:=h1
     refine .inl ⟨h2,?_⟩
     rw[h4,h3]
     simp[nCr]
    | cons z p =>
     simp at h1
     obtain⟨rfl,rfl⟩:=h1
     exact .inr ⟨p,r',x,e,rfl,h2,h3,by rw[h4,List.length_cons]⟩
   ·rintro (⟨h1,h2⟩ | ⟨p,r',x,e,h1,h2,h3,h4⟩)
    ·exact⟨[],r,y,era,rfl,h1,by simp[nCr],by rw[h2]; rfl⟩
    ·exact⟨y::p,r',x,e,by rw[h1]; rfl,h2,h3,by rw[h4,List.length_cons]⟩
  rw[out,opsT]
  by_cases h3:y.kind=3
  ·rw[if_pos h3,gV r (i+1) (era+1),step (era+1) fun p=>by rw[ncons p,if_pos h3]; omega]
   constructor
   ·exact .inr
   ·rintro (⟨h,_⟩ | h)
    ·omega
    ·exact h
  ·rw[if_neg h3]
   by_cases k1:y.kind=1
   ·rw[if_pos k1,List.mem_cons,gV r (i+1) era,step era fun p=>by rw[ncons p,if_neg h3]; omega]
    exact⟨fun h=>h.imp (fun h=>⟨k1,h⟩) id,fun h=>h.imp (fun h=>h.2) id⟩
   ·rw[if_neg k1,gV r (i+1) era,step era fun p=>by rw[ncons p,if_neg h3]; omega]
    constructor
    ·exact .inr
    ·rintro (⟨h,_⟩ | h)
     ·exact absurd h k1
     ·exact h
theorem oJ {c:Int}:∀(r:List HEv) (k:Nat) (v:Nat×HEv),ba c r k=some v→∃a b,r=a++v.2::b∧v.1=k+a.length
 | [],_,_,h=>by cases h
 | y::r,k,v,h=>by
  rw[ba]at h
  by_cases h3:y.kind=3
  ·rw[if_pos h3]at h; cases h
  ·rw[if_neg h3]at h
   by_cases hc:y.client=c
   ·rw[if_pos hc]at h; cases h; exact⟨[],r,rfl,rfl⟩
   ·rw[if_neg hc]at h
    obtain⟨a,b,h1,h2⟩:=oJ r (k+1) v h
    exact⟨y::a,b,by rw[h1]; rfl,by rw[List.length_cons]; omega⟩
theorem tG {c:Int} {x:HEv} {r:List HEv} (h3:x.kind≠3) (hc:x.client=c):∀(p:List HEv) (k:Nat),(∀y∈p,y.kind≠3∧y.client≠c)→ba c (p++x::r) k=some (k+p.length,x)
 | [],k,_=>by
  show (if x.kind=3 then none else if x.client=c then some (k,x) else ba c r (k+1))=_
  rw[if_neg h3,if_pos hc]; rfl
 | y::p,k,h=>by
  obtain⟨h1,h2⟩:=h y List.mem_cons_self
  rw[List.cons_append,ba,if_neg h1,if_neg h2,tG h3 hc p (k+1) fun z hz=>h z (List.mem_cons_of_mem _ hz),List.length_cons]
  congr 2; omega
theorem xv {p:List HEv} {x:HEv} (h:fitB p x=true):x.kind=1∨x.kind=2∨x.kind=3:=by
 unfold fitB at h
 by_cases k1:x.kind=1
 ·exact .inl k1
 ·by_cases k2:x.kind=2
  ·exact .inr (.inl k2)
  ·by_cases k3:x.kind=3
   ·exact .inr (.inr k3)
   ·rw[if_neg k1,if_neg k2,if_neg k3]at h; cases h
theorem o4 {c:Int}:∀(m:Nat) (p:List HEv),p.length=m→(∀x∈p,x.kind=1∨x.kind=2∨x.kind=3)→0≤pend p c→∃(p1 p2:List HEv) (x:HEv),p=p1++x::p2∧x.kind=1∧x.client=c∧∀y∈p2,y.kind≠3∧y.client≠c
 | 0,p,hl,_,h=>by
  rw[List.eq_nil_of_length_eq_zero hl]at h
  exact absurd h (by rw[show pend [] c = -1 from rfl]; decide)
 | m+1,p,hl,hk,h=>by
  rcases List.eq_nil_or_concat p with rfl | ⟨q,y,rfl⟩
  ·simp at hl
  ·rw[List.concat_eq_append]at hl hk h ⊢
   rw[e9]at h
   have hy:=hk y (by simp)
   have rec_:y.kind≠3→y.client≠c→0≤pend q c→∃(p1 p2:List HEv) (x:HEv),q++[y]=p1++x::p2∧x.kind=1∧x.client=c∧∀y∈p2,y.kind≠3∧y.client≠c:=fun a b hq=>by
    obtain⟨p1,p2,x,h1,h2,h3,h4⟩:=o4 m q (by simpa using hl) (fun x hx=>hk x (List.mem_append_left _ hx)) hq
    refine⟨p1,p2++[y],x,by rw[h1]; simp,h2,h3,fun z hz=>?_⟩
    rcases List.mem_append.1 hz with hz | hz
    ·exact h4 z hz
    ·rw[List.mem_singleton.1 hz]; exact⟨a,b⟩
   by_cases h3:y.kind=3
   ·rw[if_pos h3]at h; omega
   ·rw[if_neg h3]at h
    by_cases k1:y.kind=1
    ·rw[if_pos k1]at h
     by_cases hc:y.client=c
     ·exact⟨q,[],y,rfl,k1,hc,fun _ h=>by cases h⟩
     ·rw[if_neg hc]at h
      exact rec_ h3 hc h
    ·rw[if_neg k1,if_pos (show y.kind=2 from hy.elim (fun h=>absurd h k1) fun h=>h.elim id fun h=>absurd h h3)]at h
     by_cases hc:y.client=c
     ·rw[if_pos hc]at h; omega
     ·rw[if_neg hc]at h
      exact rec_ h3 hc h
theorem yp {h:List HEv} (hA:cv h) {i:Nat} {x:HEv} (hx:h[i]?=some x):(opsR h).any (outB i)=remE x (h.drop (i+1)):=by
 have hany:(opsR h).any (outB i)=(opsT h 0 0).any (outB i):=by
  rw[←p5,List.any_map]
  congr 1
 obtain⟨hlt,hxe⟩:=List.getElem?_eq_some_iff.1 hx
 have hsp:h=h.take i++x::h.drop (i+1):=by
  have:=List.take_append_drop i h
  rw[List.drop_eq_getElem_cons hlt,hxe]at this
  exact this.symm
 have hG:=zy hA
 have uniq:∀(p r':List HEv) (y:HEv),h=p++y::r'→p.length=i→y=x∧r'=h.drop (i+1):=fun p r' y e hl=>by
  have h1:h[i]?=some y:=by rw[e,List.getElem?_append_right (by omega),hl,Nat.sub_self]; rfl
  rw[hx]at h1
  refine⟨(Option.some.inj h1).symm,?_⟩
  have:h.drop (i+1)=r':=by
   rw[e,←hl]
   have:p++y::r'=(p++[y])++r':=by simp
   rw[this,List.drop_left' (by simp)]
  exact this.symm
 rw[hany,Bool.eq_iff_iff,List.any_eq_true]
 constructor
 ·rintro⟨o,ho,hb⟩
  obtain⟨p,r',y,e,h1,h2,_,h4⟩:=(gV h 0 0).1 ho
  unfold outB at hb
  simp only[Bool.and_eq_true,Bool.or_eq_true,decide_eq_true_eq]at hb
  obtain⟨b1,b2,b3⟩:=hb
  rw[Nat.zero_add]at h4
  cases hv:ba y.client r' (p.length+1) with
  | none =>
   rw[hv]at h4
   rw[h4]at b1
   simp[cn,bL]at b1
  | some v =>
   obtain⟨q,z⟩:=v
   rw[hv]at h4
   have b2:z.err=1∨z.err=8:=by rw[h4]at b2; exact b2
   have hz:badE z=true:=by
    unfold badE
    rw[Bool.or_eq_true,decide_eq_true_eq,decide_eq_true_eq]; exact b2
   have b3:((p.length:Nat):Int)=i∨((q:Nat):Int)=i:=by rw[h4]at b3; exact b3
   rcases b3 with b3 | b3
   ·obtain⟨rfl,rfl⟩:=uniq p r' y h1 (by omega)
    rw[remE,if_pos h2]
    unfold badC
    rw[fI]at hv
    cases hw:ba y.client (h.drop (i+1)) 0 with
    | none=>rw[hw]at hv; cases hv
    | some w=>rw[hw]at hv; cases hv; exact hz
   ·obtain⟨a,b,g1,g2⟩:=oJ r' _ _ hv
    simp only at g1 g2
    have hk:z.kind=2:=by
     rw[fI]at hv
     cases hw:ba y.client r' 0 with
     | none=>rw[hw]at hv; cases hv
     | some w =>
      rw[hw]at hv; cases hv
      exact hG p r' y h1 h2 w hw
    obtain⟨rfl,_⟩:=uniq (p++y::a) b z (by rw[h1,g1]; simp) (by simp; omega)
    rw[remE,if_neg (by omega),if_pos hk]; exact hz
 ·intro hr
  rw[remE]at hr
  by_cases k1:x.kind=1
  ·rw[if_pos k1]at hr
   unfold badC at hr
   cases hw:ba x.client (h.drop (i+1)) 0 with
   | none=>rw[hw]at hr; cases hr
   | some v =>
    rw[hw]at hr
    simp only at hr
    refine⟨_,(gV h 0 0).2 ⟨h.take i,h.drop (i+1),x,_,hsp,k1,rfl,rfl⟩,?_⟩
    have hti:(h.take i).length=i:=by rw[List.length_take]; omega
    rw[hti,Nat.zero_add,fI,hw]
    unfold badE at hr
    show (decide (((v.1+(i+1):Nat):Int)≥0)&&((decide (v.2.err=1)||decide (v.2.err=8))&&(decide ((i:Int)=(i:Int))||decide (((v.1+(i+1):Nat):Int)=(i:Int)))))=true
    rw[hr,dT rfl,dT (by omega)]; rfl
  ·rw[if_neg k1]at hr
   by_cases k2:x.kind=2
   ·rw[if_pos k2]at hr
    have hf:=hA i x hx
    unfold fitB at hf
    rw[if_neg k1,if_pos k2]at hf
    have hp:0≤pend (h.take i) x.client:=by
     unfold fit2 at hf
     simp only[Bool.and_eq_true]at hf
     have:=hf.1.1.1.2
     simp at this
     exact this
    have hkk:∀y∈h.take i,y.kind=1∨y.kind=2∨y.kind=3:=fun y hy=>by
     obtain⟨j,hj⟩:=List.mem_iff_getElem?.1 (List.mem_of_mem_take hy)
     exact xv (hA j y hj)
    obtain⟨p1,p2,y,g1,g2,g3,g4⟩:=o4 _ (h.take i) rfl hkk hp
    have hrf:=tG (r:=h.drop (i+1)) (show x.kind≠3 by omega) rfl p2 (p1.length+1) g4
    have hlen:p1.length+1+p2.length=i:=by
     have:=congrArg List.length g1
     rw[List.length_take,List.length_append,List.length_cons]at this
     omega
    refine⟨_,(gV h 0 0).2 ⟨p1,p2++x::h.drop (i+1),y,_,by
     conv=>lhs; rw[hsp,g1]
     simp,g2,rfl,rfl⟩,?_⟩
    rw[Nat.zero_add,g3,hrf,hlen]
    unfold badE at hr
    show (decide ((i:Int)≥0)&&((decide (x.err=1)||decide (x.err=8))&&(decide ((p1.length:Int)=(i:Int))||decide ((i:Int)=(i:Int)))))=true
    rw[hr,dT (by omega),dT (rfl:(i:Int)=i),Bool.or_true]; rfl
   ·rw[if_neg k2]at hr; cases hr
end Go.Proofs.Ytkehohfgbblokaa
namespace Go.Proofs.Ytkehohfgbblokaa
open Go.Eng Go.Plain
set_option maxHeartbeats 32000000
set_option maxRecDepth 20000
attribute [local irreducible] WC RegS RegD SeqQ BlkQ ScoQ RegK CutK Sat SatN FnIs LoopQ ak OpIs
theorem yH (x:List XE):FnIs Try.prog 17 [.d (lb x)] [] (.d (encH (hOf x))) []:=(yG x).freeze_out 64 _ rfl (Frz.own rfl) trivial
end Go.Proofs.Ytkehohfgbblokaa
