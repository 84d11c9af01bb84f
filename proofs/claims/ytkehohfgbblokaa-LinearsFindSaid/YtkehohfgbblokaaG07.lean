/- Texts of the proof: Y27, Y28, Y30, Y31, Y32, Y33, Y35, Y36, Y37, YB, YQ, YA, YQ2, YQ3, YQ4, YE, YF, YC, YC2, YG3. -/
import Derived.Test.YtkehohfgbblokaaG06
import Derived.Test.YtkehohfgbblokaaG03
import Derived.Test.YtkehohfgbblokaaG04

set_option linter.unusedVariables false
set_option linter.unusedSimpArgs false
set_option linter.unusedSectionVars false

namespace Go.Proofs.Ytkehohfgbblokaa
open Go.Eng Go.Plain
set_option maxHeartbeats 32000000
set_option maxRecDepth 20000
attribute [local irreducible] WC RegS RegD SeqQ BlkQ ScoQ RegK CutK Sat SatN FnIs LoopQ au OpIs
def eqN (a b:List Int):Int:=if a=b then 1 else 0
def eqG:List Int→List Int→Int
 | [],[]=>1
 | x::a,y::b=>if x=y then eqG a b else 0
 | _,_=>0
theorem s4:∀(a b:List Int),eqG a b=eqN a b
 | [],[]=>rfl
 | x::a,y::b=>by
  have ih:=s4 a b
  unfold eqN at ih ⊢
  unfold eqG
  by_cases h:x=y
  ·subst h; simp[ih]
  ·simp[h]
 | [],_::_=>by simp[eqG,eqN]
 | _::_,[]=>by simp[eqG,eqN]
theorem xq (a b:List Int) (ha:a.length≤1048576):FnIs Try.prog 25 [.d (kY a),.d (encL b)] [] (.d (i6 (eqN a b))) []:=by
 refine aE aa Try.func25 rfl rfl rfl ?_
 by_cases hl:a.length=b.length
 ·have d1:decide ((a.length:Int)=(b.length:Int))=true:=dT (by omega)
  have d1n:(!decide ((a.length:Int)=(b.length:Int)))=false:=by rw[d1]; rfl
  have d2n:(!decide ((a.length:Int)=(a.length:Int)))=false:=by rw[dT rfl]; rfl
  refine sR<|rC<|zW ?_;refine rC ?_;refine rQ (ea aa rfl rfl) ?_;refine rC ?_;refine rQ iE ?_;refine zD ?_;refine rO ?_;refine rC ?_;refine rO ?_;refine rQ (yP aa rfl rfl) ?_;refine rO ?_;refine rC ?_;refine rO ?_;refine rQ (ea aa rfl rfl) ?_;refine rO ?_;refine rC ?_;refine rQ iF ?_;refine zG<|kS<|qR ?_;refine rC<|zP ?_
  refine wc_inv (fun i:Nat=>⟨[(5,.int .i64 i),(0,.d (kY a)),(1,.d (encL b))],[],72,Try.f25.ntmps,64⟩) (fun i=>i≤a.length∧eqG (a.drop i) (b.drop i)=eqG a b) (fun i=>a.length-i) 0 [] ⟨Nat.zero_le _,rfl⟩
   (lg zj trivial) ?_
  rintro i ⟨hi,hinv⟩
  refine bM ?_
  by_cases hlt:i<a.length
  ·have d3:decide ((i:Int)<(a.length:Int))=true:=dT (by omega)
   obtain⟨x,hx⟩:∃x,a[i]?=some x:=⟨_,List.getElem?_eq_getElem hlt⟩
   obtain⟨y,hy⟩:∃y,b[i]?=some y:=⟨_,List.getElem?_eq_getElem (by omega)⟩
   have hx2:a[((i:Int)).toNat]?=some x:=by rw[Int.toNat_natCast]; exact hx
   have hy2:b[((i:Int)).toNat]?=some y:=by rw[Int.toNat_natCast]; exact hy
   have hs:eqG (a.drop i) (b.drop i)=if x=y then eqG (a.drop (i+1)) (b.drop (i+1)) else 0:=by
    rw[List.drop_eq_getElem_cons (List.getElem?_eq_some_iff.1 hx).1,(List.getElem?_eq_some_iff.1 hx).2,List.drop_eq_getElem_cons (List.getElem?_eq_some_iff.1 hy).1,(List.getElem?_eq_some_iff.1 hy).2]
    rfl
   rw[hs]at hinv
   by_cases he:x=y
   ·have d4:(!decide (x=y))=false:=by rw[dT he]; rfl
    rw[if_pos he]at hinv
    refine qR<|zD ?_;refine rQ (ea aa rfl rfl) ?_;refine rC ?_;refine zI<|zQ<|bn<|aS ?_;refine aA (by kernel_rfl) ?_;refine dC [0] [] ?_;refine dC [5] [] ?_;refine dQ [24,25] [] (bf aa rfl rfl rfl rfl rfl (by omega) hx2) ?_;refine dQ [26] [] iL ?_;refine dC [1] [] ?_;refine dC [5] [] ?_;refine dQ [28,29] [] (ao aa rfl rfl rfl rfl rfl (by omega) hy2) ?_;refine dQ [30] [] iL ?_;refine dC [27,31] [] ?_;refine am (by kernel_rfl)<|aG ?_;refine wF<|aN<|zC<|aj ?_;refine rC ?_;refine rQ iD ?_;refine rC<|aw ?_
    exact aI (i+1) [] ⟨hlt,hinv⟩ (by omega) (lg zj trivial)
   ·have d4:(!decide (x=y))=true:=by rw[dF he]; rfl
    rw[if_neg he]at hinv
    rw[←s4,←hinv]
    refine qR<|zD ?_;refine rQ (ea aa rfl rfl) ?_;refine rC ?_;refine zI<|zQ<|bn<|aS ?_;refine aA (by kernel_rfl) ?_;refine dC [0] [] ?_;refine dC [5] [] ?_;refine dQ [24,25] [] (bf aa rfl rfl rfl rfl rfl (by omega) hx2) ?_;refine dQ [26] [] iL ?_;refine dC [1] [] ?_;refine dC [5] [] ?_;refine dQ [28,29] [] (ao aa rfl rfl rfl rfl rfl (by omega) hy2) ?_;refine dQ [30] [] iL ?_;refine dC [27,31] [] ?_;refine am (by kernel_rfl)<|aG ?_;refine wT<|sR ?_;refine rC<|zT<|zB<|ci<|zB ?_
    exact⟨trivial,[],lf⟩
  ·have d3:decide ((i:Int)<(a.length:Int))=false:=dF (by omega)
   rw[List.drop_eq_nil_of_le (by omega),List.drop_eq_nil_of_le (by omega)]at hinv
   rw[←s4,←hinv]
   refine qR<|zD ?_;refine rQ (ea aa rfl rfl) ?_;refine rC ?_;refine zG<|zX<|sR ?_;refine rC<|zT ?_
   exact⟨trivial,[],lf⟩
 ·have d1:decide ((a.length:Int)=(b.length:Int))=false:=dF (by omega)
  have d1n:(!decide ((a.length:Int)=(b.length:Int)))=true:=by rw[d1]; rfl
  have he:eqN a b=0:=by rw[eqN,if_neg fun e=>hl (by rw[e])]
  rw[he]
  refine sR<|rC<|zW ?_;refine rC ?_;refine rQ (ea aa rfl rfl) ?_;refine rC ?_;refine rQ iE ?_;refine zD ?_
  iterate 5 refine rS ?_
  refine rQ iT ?_;refine zO<|sR ?_;refine rC<|zT<|bA ?_
  exact⟨trivial,[],lf⟩
theorem kV (a:List Int) (ha:a.length≤1048576):FnIs Try.prog 25 [.d (kY a),.d (encL a)] [] (.d (i6 1)) []:=by
 have:=xq a a ha
 rwa [eqN,if_pos rfl]at this
abbrev fndE (o:List Int) (f:Bool) (e:Int):AV :=.tup (.acons (.d (kY o)) (.acons (.bool f) (.acons (.int .i64 e) .anil)))
abbrev legE (f:Bool) (e:Int):AV :=.tup (.acons (.bool f) (.acons (.int .i64 e) .anil))
abbrev stsE (m e:Int):AV :=.tup (.acons (.int .i64 m) (.acons (.int .i64 e) .anil))
theorem wS (H G C1 C2:List HEv) (hb1:FnIs Try.prog 35 [.d (br cS)] [] (.d (encH H)) []) (hb2:FnIs Try.prog 35 [.d (br zBk)] [] (.d (encH G)) [])
  (lN:FnIs Try.prog 37 [.bool true] [] (.d (encH C1)) []) (lO:FnIs Try.prog 37 [.bool false] [] (.d (encH C2)) [])
  (hf1:FnIs Try.prog 23 [.d (encH H),.int .i64 1,.int .i64 9] [] (fndE [0,1] true 0) []) (hf2:FnIs Try.prog 23 [.d (encH G),.int .i64 1,.int .i64 9] [] (fndE [1,0] true 0) [])
  (hs1:FnIs Try.prog 21 [.d (encH H),.int .i64 1,.int .i64 3] [] (stsE 3 0) []) (hs2:FnIs Try.prog 21 [.d (encH H),.int .i64 1,.int .i64 2] [] (stsE 0 4) []) (hs3:FnIs Try.prog 21 [.d (encH G),.int .i64 1,.int .i64 4] [] (stsE 4 0) [])
  (hacs:∀(k:Nat) o e,[[1,0],[0],[0,0],[0,1]][k]?=some o→([15,15,1,0]:List Int)[k]?=some e→FnIs Try.prog 18 [.d (encH H),.int .i64 1,.d (encL o)] [] (.d (i6 e)) [])
  (hf3:FnIs Try.prog 23 [.d (encH C1),.int .i64 1,.int .i64 99] [] (fndE [0,1,2,3] true 0) []) (hl1:FnIs Try.prog 22 [.d (encH C2),.int .i64 1,.int .i64 99] [] (legE false 0) [])
  (hl2:FnIs Try.prog 22 [.d (encH (qN++didL rdO cS)),.int .i64 1,.int .i64 99] [] (legE false 0) []) (hf4:FnIs Try.prog 23 [.d (encH (tN++didL rdO cS)),.int .i64 1,.int .i64 99] [] (fndE [0,1,2] true 0) [])
  (hsk:FnIs Try.prog 27 [.d (encH (rD++didL (wrO 1) zBk))] [] (legE false 0) []) (hl3:FnIs Try.prog 22 [.d (encH (rD++didL (wrO 1) zBk)),.int .i64 1,.int .i64 9] [] (legE true 0) []) :
  FnIs Try.prog 12 [] [] (.bool true) []:=by
 refine aE aa Try.func12 rfl rfl rfl ?_;refine sR<|rC<|nR ?_;refine rQ (aq kK rfl rfl ai (.inl rfl) (fun _=>rfl)) ?_;refine rQ (aq hb1 rfl rfl (ak ai) (.inl rfl) (fun _=>rfl)) ?_;refine rQ (bI aa rfl rfl rfl) ?_;refine rQ (aq hb2 rfl rfl (ak ai) (.inl rfl) (fun _=>rfl)) ?_;refine zD<|nR ?_;refine rC ?_;refine rQ (aq hf1 rfl rfl (ak (ak (ak ai))) (.inl rfl) (fun _=>rfl)) ?_;iterate 7 refine rC ?_
 refine nR<|rC ?_;refine rQ (aq hf2 rfl rfl (ak (ak (ak ai))) (.inl rfl) (fun _=>rfl)) ?_;iterate 7 refine rC ?_
 refine nR<|rC ?_;refine rQ (aq hs1 rfl rfl (ak (ak (ak ai))) (.inl rfl) (fun _=>rfl)) ?_;iterate 5 refine rC ?_
 refine nR<|rC ?_;refine rQ (aq hs2 rfl rfl (ak (ak (ak ai))) (.inl rfl) (fun _=>rfl)) ?_;iterate 5 refine rC ?_
 refine nR<|rC ?_;refine rQ (aq hs3 rfl rfl (ak (ak (ak ai))) (.inl rfl) (fun _=>rfl)) ?_;iterate 5 refine rC ?_
 refine zW<|zU ?_;refine rP ?_;refine rC ?_;refine rP ?_;refine rC ?_;refine rQ iG ?_;refine rC ?_;refine rP ?_;refine rC ?_;refine rP ?_;refine rC ?_;refine rQ iG ?_;refine rC ?_;refine rP ?_;refine rC ?_;refine rP ?_;refine rC ?_;refine rQ iG ?_;refine rC ?_;refine rP ?_;refine rC ?_;refine rP ?_;refine rC ?_;refine rQ iG ?_;refine rC ?_;refine rP ?_;refine rC ?_;refine rP ?_;refine rC ?_;refine rQ iG ?_;refine rC ?_;refine rP ?_;refine rC ?_;refine rP ?_;refine rC ?_;refine rQ iG ?_;refine rC ?_;refine rP ?_;refine rC ?_;refine rP ?_;refine rC ?_;refine rQ iG ?_;refine rC ?_;refine rP ?_;refine rC ?_;refine rP ?_;refine rC ?_;refine rQ iG ?_;refine rC ?_;refine rP ?_;refine rC ?_;refine rP ?_;refine rQ (au.frozen (aD (s:=1) aa rfl rfl rfl rfl rfl rfl rfl rfl) (Frz.litsN (enc:=i6) [0,1] rfl (fun _ _=>rfl))) ?_;refine rP ?_;refine rQ (aq (kV [0,1] (by decide)) rfl rfl (ak (ak ai)) (.inl rfl) (fun _=>rfl)) ?_;refine rP ?_;refine rC ?_;refine rP ?_;refine rQ (au.frozen (aD (s:=1) aa rfl rfl rfl rfl rfl rfl rfl rfl) (Frz.litsN (enc:=i6) [1,0] rfl (fun _ _=>rfl))) ?_;refine rP ?_;refine rQ (aq (kV [1,0] (by decide)) rfl rfl (ak (ak ai)) (.inl rfl) (fun _=>rfl)) ?_;refine rP ?_;refine rQ (iq (m:=1) aa rfl rfl rfl) ?_;refine rP ?_;refine rC ?_;refine rQ iG ?_;refine zJ<|kS<|qR ?_;refine rQ (au.frozen (aD (s:=1) aa rfl rfl rfl rfl rfl rfl rfl rfl) (Frz.litsN (enc:=i6) [1,0] rfl (fun _ _=>rfl))) ?_;refine rQ (au.frozen (aD (s:=1) aa rfl rfl rfl rfl rfl rfl rfl rfl) (Frz.litsN (enc:=i6) [0] rfl (fun _ _=>rfl))) ?_;refine rQ (au.frozen (aD (s:=1) aa rfl rfl rfl rfl rfl rfl rfl rfl) (Frz.litsN (enc:=i6) [0,0] rfl (fun _ _=>rfl))) ?_;refine rQ (au.frozen (aD (s:=1) aa rfl rfl rfl rfl rfl rfl rfl rfl) (Frz.litsN (enc:=i6) [0,1] rfl (fun _ _=>rfl))) ?_;refine rQ (au.frozen (aD (s:=1) aa rfl rfl rfl rfl rfl rfl rfl rfl) (Frz.litsN (enc:=encL) [[1,0],[0],[0,0],[0,1]] rfl (fun _ _=>rfl))) ?_;refine rQ iE ?_;refine rC<|zP ?_
 refine wc_inv (fun k:Nat=>⟨[(107,.int .i64 k),(106,.int .i64 4),(105,.d (.arr 1 encL [[1,0],[0],[0,0],[0,1]])),(1,.d (encH H))],[],72,Try.f12.ntmps,64⟩) (fun k=>k≤4) (fun k=>4-k) 0 [] (Nat.zero_le _)
  (lg zi trivial) ?_
 intro k hk
 refine bM ?_
 by_cases h4:k=4
 ·subst h4
  refine sR<|rC<|nQ ?_;refine wG<|zX<|sR ?_;refine rQ (aq lN rfl rfl (ak ai) (.inl rfl) (fun _=>rfl)) ?_;refine rQ (aq hf3 rfl rfl (ak (ak (ak ai))) (.inl rfl) (fun _=>rfl)) ?_;iterate 7 refine rC ?_
  refine nR<|rQ (aq lO rfl rfl (ak ai) (.inl rfl) (fun _=>rfl)) ?_;refine rQ (aq hl1 rfl rfl (ak (ak (ak ai))) (.inl rfl) (fun _=>rfl)) ?_
  iterate 5 refine rC ?_
  refine nR<|rQ (aq (fE 1) rfl rfl (ak ai) (.inl rfl) (fun _=>rfl)) ?_;refine rQ iS ?_;refine rQ (au.val_le (bp aa rfl rfl rfl rfl) (fN 3 0 0 0 0 zBk) rfl) ?_;refine rQ (au.frozen (aD (s:=38) aa rfl rfl rfl rfl rfl rfl rfl rfl) (Frz.litsX (enc:=bY) qN rfl (fun _=>rfl))) ?_;refine rC<|nR ?_;refine rQ (aq (fE 1) rfl rfl (ak ai) (.inl rfl) (fun _=>rfl)) ?_;iterate 2 refine rQ iS ?_
  refine rQ (au.val_le (bp aa rfl rfl rfl rfl) (fN 1 1 3 0 0 zBk) rfl) ?_;refine rQ (au.val_le (bp aa rfl rfl rfl rfl) (fN 3 0 0 0 0 zBk) rfl) ?_;refine rQ (au.frozen (aD (s:=38) aa rfl rfl rfl rfl rfl rfl rfl rfl) (Frz.litsX (enc:=bY) tN rfl (fun _=>rfl))) ?_;refine rC<|nR ?_;refine rC ?_;refine rQ (au.val_le (bp aa rfl rfl rfl rfl) (lC 1 0) rfl) ?_;refine rQ (aq kK rfl rfl ai (.inl rfl) (fun _=>rfl)) ?_;refine rQ (aq (jm rdO cS) rfl rfl (ak (ak ai)) (.inl rfl) (fun _=>rfl)) ?_;refine rQ (au.frozen (eu (s:=38) (enc:=bY) (xs:=qN) (ys:=didL rdO cS) aa rfl rfl rfl rfl rfl rfl (by decide) (by decide) rfl) (Frz.own (by decide))) ?_;refine rQ (aq hl2 rfl rfl (ak (ak (ak ai))) (.inl rfl) (fun _=>rfl)) ?_;iterate 5 refine rC ?_
  refine nR<|rC ?_;refine rQ (au.val_le (bp aa rfl rfl rfl rfl) (lC 1 0) rfl) ?_;refine rQ (aq kK rfl rfl ai (.inl rfl) (fun _=>rfl)) ?_;refine rQ (aq (jm rdO cS) rfl rfl (ak (ak ai)) (.inl rfl) (fun _=>rfl)) ?_;refine rQ (au.frozen (eu (s:=38) (enc:=bY) (xs:=tN) (ys:=didL rdO cS) aa rfl rfl rfl rfl rfl rfl (by decide) (by decide) rfl) (Frz.own (by decide))) ?_;refine rQ (aq hf4 rfl rfl (ak (ak (ak ai))) (.inl rfl) (fun _=>rfl)) ?_;iterate 7 refine rC ?_
  refine zW<|zU ?_;refine rP ?_;refine rC ?_;refine rP ?_;refine rC ?_;refine rQ iG ?_;refine rC ?_;refine rP ?_;refine rC ?_;refine rP ?_;refine rC ?_;refine rQ iG ?_;refine rC ?_;refine rP ?_;refine rC ?_;refine rP ?_;refine rC ?_;refine rQ iG ?_;refine rC ?_;refine rP ?_;refine rC ?_;refine rP ?_;refine rC ?_;refine rQ iG ?_;refine rC ?_;refine rP ?_;refine rC ?_;refine rQ iG ?_;refine rC ?_;refine rP ?_;refine rC ?_;refine rQ iG ?_;refine rC ?_;refine rP ?_;refine rC ?_;refine rP ?_;refine rC ?_;refine rQ iG ?_;refine rC ?_;refine rP ?_;refine rC ?_;refine rP ?_;refine rQ (au.frozen (aD (s:=1) aa rfl rfl rfl rfl rfl rfl rfl rfl) (Frz.litsN (enc:=i6) [0,1,2,3] rfl (fun _ _=>rfl))) ?_;refine rP ?_;refine rQ (aq (kV [0,1,2,3] (by decide)) rfl rfl (ak (ak ai)) (.inl rfl) (fun _=>rfl)) ?_;refine rP ?_;refine rC ?_;refine rP ?_;refine rQ (au.frozen (aD (s:=1) aa rfl rfl rfl rfl rfl rfl rfl rfl) (Frz.litsN (enc:=i6) [0,1,2] rfl (fun _ _=>rfl))) ?_;refine rP ?_;refine rQ (aq (kV [0,1,2] (by decide)) rfl rfl (ak (ak ai)) (.inl rfl) (fun _=>rfl)) ?_;refine rP ?_;refine rQ (iq (m:=1) aa rfl rfl rfl) ?_;refine rP ?_;refine rC ?_;refine rQ iG ?_;refine zJ<|kS<|sR ?_;refine rQ iS ?_;refine rQ (au.val_le (bp aa rfl rfl rfl rfl) (fN 1 0 1 0 0 zBk) rfl) ?_;refine rQ (au.val_le (bp aa rfl rfl rfl rfl) (fN 2 0 0 0 9 zBk) rfl) ?_;refine rQ (au.frozen (aD (s:=38) aa rfl rfl rfl rfl rfl rfl rfl rfl) (Frz.litsX (enc:=bY) rD rfl (fun _=>rfl))) ?_;refine rQ (aq (fE 1) rfl rfl (ak ai) (.inl rfl) (fun _=>rfl)) ?_;refine rQ (bI aa rfl rfl rfl) ?_;refine rQ (aq (jm (wrO 1) zBk) rfl rfl (ak (ak ai)) (.inl rfl) (fun _=>rfl)) ?_;refine rQ (au.frozen (eu (s:=38) (enc:=bY) (xs:=rD) (ys:=didL (wrO 1) zBk) aa rfl rfl rfl rfl rfl rfl (by decide) (by decide) rfl) (Frz.own (by decide))) ?_;refine rC<|nR ?_;refine rC ?_;refine rQ (aq hsk rfl rfl (ak ai) (.inl rfl) (fun _=>rfl)) ?_;iterate 5 refine rC ?_
  refine nR<|rC ?_;refine rQ (aq hl3 rfl rfl (ak (ak (ak ai))) (.inl rfl) (fun _=>rfl)) ?_;iterate 5 refine rC ?_
  refine nR<|zU ?_;refine rP ?_;refine rC ?_;refine rP ?_;refine rC ?_;refine rQ iU ?_;refine rC ?_;refine rP ?_;refine rC ?_;refine rP ?_;refine rC ?_;refine rQ iU ?_;refine rC ?_;refine rP ?_;refine rC ?_;refine rQ iU ?_;refine rC<|zT ?_
  exact⟨trivial,[],lf⟩
 by_cases h0:k=0
 ·subst h0
  have hac:=hacs 0 [1,0] 15 rfl rfl
  have hod:([[1,0],[0],[0,0],[0,1]]:List (List Int))[(((0:Nat):Int)).toNat]?=some [1,0]:=rfl
  refine sR<|rC<|nQ ?_;refine wV<|zQ<|zS ?_;refine rC ?_;refine rQ (ao aa rfl rfl rfl rfl rfl (by omega) hod) ?_;refine rQ iL ?_;refine zD<|nQ ?_;refine aA (by kernel_rfl) ?_;refine dC [1] [] ?_;refine dC [16] [] ?_;refine dQ [112,113] [] (aq hac rfl rfl (ak (ak (ak ai))) (.inl rfl) (fun _=>rfl)) ?_;refine dQ [] [] (jP aa rfl rfl rfl rfl rfl) ?_;refine dC [15] [] ?_;refine dQ [115,116] [] (an aa (fun K hk=>⟨by decide,by decide,_,rfl,hk⟩)) ?_;refine dC [114,117] [] ?_;refine am (by kernel_rfl)<|aG ?_;refine wG<|aN<|zC<|aj ?_;refine rQ iD ?_;refine rC<|aw ?_
  exact aI 1 [] (by decide) (by decide) (lg zi trivial)
 by_cases h1:k=1
 ·subst h1
  have hac:=hacs 1 [0] 15 rfl rfl
  have hod:([[1,0],[0],[0,0],[0,1]]:List (List Int))[(((1:Nat):Int)).toNat]?=some [0]:=rfl
  refine sR<|rC<|nQ ?_;refine wV<|zQ<|zS ?_;refine rC ?_;refine rQ (ao aa rfl rfl rfl rfl rfl (by omega) hod) ?_;refine rQ iL ?_;refine zD<|nQ ?_;refine aA (by kernel_rfl) ?_;refine dC [1] [] ?_;refine dC [16] [] ?_;refine dQ [112,113] [] (aq hac rfl rfl (ak (ak (ak ai))) (.inl rfl) (fun _=>rfl)) ?_;refine dQ [] [] (jP aa rfl rfl rfl rfl rfl) ?_;refine dC [15] [] ?_;refine dQ [115,116] [] (an aa (fun K hk=>⟨by decide,by decide,_,rfl,hk⟩)) ?_;refine dC [114,117] [] ?_;refine am (by kernel_rfl)<|aG ?_;refine wG<|aN<|zC<|aj ?_;refine rQ iD ?_;refine rC<|aw ?_
  exact aI 2 [] (by decide) (by decide) (lg zi trivial)
 by_cases h2:k=2
 ·subst h2
  have hac:=hacs 2 [0,0] 1 rfl rfl
  have hod:([[1,0],[0],[0,0],[0,1]]:List (List Int))[(((2:Nat):Int)).toNat]?=some [0,0]:=rfl
  refine sR<|rC<|nQ ?_;refine wV<|zQ<|zS ?_;refine rC ?_;refine rQ (ao aa rfl rfl rfl rfl rfl (by omega) hod) ?_;refine rQ iL ?_;refine zD<|nQ ?_;refine aA (by kernel_rfl) ?_;refine dC [1] [] ?_;refine dC [16] [] ?_;refine dQ [112,113] [] (aq hac rfl rfl (ak (ak (ak ai))) (.inl rfl) (fun _=>rfl)) ?_;refine dQ [] [] (jP aa rfl rfl rfl rfl rfl) ?_;refine dC [15] [] ?_;refine dQ [115,116] [] (an aa (fun K hk=>⟨by decide,by decide,_,rfl,hk⟩)) ?_;refine dC [114,117] [] ?_;refine am (by kernel_rfl)<|aG ?_;refine wG<|aN<|zC<|aj ?_;refine rQ iD ?_;refine rC<|aw ?_
  exact aI 3 [] (by decide) (by decide) (lg zi trivial)
 ·obtain rfl:k=3:=by omega
  have hac:=hacs 3 [0,1] 0 rfl rfl
  have hod:([[1,0],[0],[0,0],[0,1]]:List (List Int))[(((3:Nat):Int)).toNat]?=some [0,1]:=rfl
  refine sR<|rC<|nQ ?_;refine wV<|zQ<|zS ?_;refine rC ?_;refine rQ (ao aa rfl rfl rfl rfl rfl (by omega) hod) ?_;refine rQ iL ?_;refine zD<|nQ ?_;refine aA (by kernel_rfl) ?_;refine dC [1] [] ?_;refine dC [16] [] ?_;refine dQ [112,113] [] (aq hac rfl rfl (ak (ak (ak ai))) (.inl rfl) (fun _=>rfl)) ?_;refine dQ [] [] (jP aa rfl rfl rfl rfl rfl) ?_;refine dC [15] [] ?_;refine dQ [115,116] [] (an aa (fun K hk=>⟨by decide,by decide,_,rfl,hk⟩)) ?_;refine dC [114,117] [] ?_;refine am (by kernel_rfl)<|aG ?_;refine wG<|aN<|zC<|aj ?_;refine rQ iD ?_;refine rC<|aw ?_
  exact aI 4 [] (by decide) (by decide) (lg zi trivial)
theorem nj:FnIs Try.prog 12 [] [] (.bool true) []:=by
 have fnd:∀(h:List HEv) (fuel:Int) r,eN h 1 fuel=r→h.length≤100→fuel≤100→FnIs Try.prog 23 [.d (encH h),.int .i64 1,.int .i64 fuel] [] (fndE r.1.1 r.1.2 r.2) []:=fun h fuel r hr hh hf=>by
  have:=pU (lA h 1 fuel (by omega) (.inl (by omega)) (fun _=>by have:=Nat.mul_le_mul (show fuel.toNat≤100 by omega) (show h.length+1≤101 by omega); omega))
  rwa [hr]at this
 have sts:∀(h:List HEv) (fuel:Int) r,ii h 1 fuel=r→h.length≤100→fuel≤100→FnIs Try.prog 21 [.d (encH h),.int .i64 1,.int .i64 fuel] [] (stsE r.1 r.2) []:=fun h fuel r hr hh hf=>by
  have:=uF (lA h 1 fuel (by omega) (.inl (by omega)) (fun _=>by have:=Nat.mul_le_mul (show fuel.toNat≤100 by omega) (show h.length+1≤101 by omega); omega))
  rwa [hr]at this
 have leg:∀(h:List HEv) (fuel:Int) (f:Bool) (e:Int),(eN h 1 fuel).1.2=f∧(eN h 1 fuel).2=e→h.length≤100→fuel≤100→FnIs Try.prog 22 [.d (encH h),.int .i64 1,.int .i64 fuel] [] (legE f e) []:=fun h fuel f e hr hh hf=>by
  have:=qQ (lA h 1 fuel (by omega) (.inl (by omega)) (fun _=>by have:=Nat.mul_le_mul (show fuel.toNat≤100 by omega) (show h.length+1≤101 by omega); omega))
  rwa [hr.1,hr.2]at this
 refine wS (eO cS) (eO zBk) (iK true) (iK false) (ul _) (ul _) lN lO (fnd _ 9 _ ex1 (by decide) (by decide)) (fnd _ 9 _ ex2 (by decide) (by decide)) (sts _ 3 _ ex3 (by decide) (by decide)) (sts _ 2 _ ex4 (by decide) (by decide)) (sts _ 4 _ ex5 (by decide) (by decide)) (fun k o e ho he=>?_) (fnd _ 99 _ ex6 (by decide) (by decide)) (leg _ 99 _ _ ex7 (by decide) (by decide)) (leg _ 99 _ _ ex8 (by decide) (by decide)) (fnd _ 99 _ ex9 (by decide) (by decide)) ?_ (leg _ 9 _ _ ex11 (by decide) (by decide))
 ·have hal:(rdH (eO cS)).all.length≤1048576:=Nat.le_trans (eY _) (by decide)
  have key:∀(o:List Int) (e:Int),_root_.Go.Proofs.Ytkehohfgbblokaa.accS 1 (opsH (eO cS)) o=e→o.length≤100→FnIs Try.prog 18 [.d (encH (eO cS)),.int .i64 1,.d (encL o)] [] (.d (i6 e)) []:=fun o e h1 h2=>by
   have:=pm (eO cS) 1 o (by decide) hal (by omega)
   rwa [acA o e h1]at this
  match k,ho,he with
  | 0,ho,he=>cases ho; cases he; exact key _ _ ex12.1 (by decide)
  | 1,ho,he=>cases ho; cases he; exact key _ _ ex12.2.1 (by decide)
  | 2,ho,he=>cases ho; cases he; exact key _ _ ex12.2.2.1 (by decide)
  | 3,ho,he=>cases ho; cases he; exact key _ _ ex12.2.2.2 (by decide)
  | k+4,ho,he=>simp at ho
 ·have hal:(rdH badL).all.length≤1048576:=Nat.le_trans (eY _) (by decide)
  have:=uC badL (by decide) hal
  rw[ex10.1,ex10.2]at this
  exact this
abbrev r01d (b:Bool):AV :=.d (i6 (if b then 1 else 0))
theorem tw (o:HOp) (b:Int):FnIs Try.prog 14 [.d (bt o),.int .i64 b] [] (r01d (mayB o b)) []:=by
 have hb:=pG o.op b
 refine aE aa Try.func14 rfl rfl rfl ?_
 unfold mayB
 cases hbd:badO o.op b with
 | true =>
  rw[hbd]at hb
  refine sR<|rN ?_;refine rC<|zW ?_;refine rC ?_;refine rQ iB ?_;refine rC ?_;refine rQ (aq hb rfl rfl (ak (ak ai)) (.inl rfl) (fun _=>rfl)) ?_;refine rC ?_;refine zO<|sR ?_;refine rC<|zT<|bA ?_
  exact⟨trivial,[],lf⟩
 | false =>
  rw[hbd]at hb
  cases h1:decide (o.returned<0) with
  | true =>
   refine sR<|rN ?_;refine rC<|zW ?_;refine rC ?_;refine rQ iB ?_;refine rC ?_;refine rQ (aq hb rfl rfl (ak (ak ai)) (.inl rfl) (fun _=>rfl)) ?_;refine rC ?_;refine zJ<|kS<|qR ?_;refine rC ?_;refine rQ iB ?_;refine zD ?_
   iterate 3 refine rS ?_
   refine rQ iT ?_;refine rC ?_;iterate 3 refine rT ?_
   refine rQ iU ?_;refine zO<|sR ?_;refine rC<|zT<|bA ?_
   exact⟨trivial,[],lf⟩
  | false =>
   cases h2:decide (o.err=0) with
   | true =>
    refine sR<|rN ?_;refine rC<|zW ?_;refine rC ?_;refine rQ iB ?_;refine rC ?_;refine rQ (aq hb rfl rfl (ak (ak ai)) (.inl rfl) (fun _=>rfl)) ?_;refine rC ?_;refine zJ<|kS<|qR ?_;refine rC ?_;refine rQ iB ?_;refine zD ?_;refine rO ?_;refine rC ?_;refine rO ?_;refine rQ iB ?_;refine rO ?_;refine rC ?_;refine rQ iF ?_;refine rC ?_;iterate 3 refine rS ?_
    refine rQ iT ?_;refine zO<|sR ?_;refine rC<|zT<|bA ?_
    exact⟨trivial,[],lf⟩
   | false =>
    cases h3:decide (o.err=9) with
    | true =>
     refine sR<|rN ?_;refine rC<|zW ?_;refine rC ?_;refine rQ iB ?_;refine rC ?_;refine rQ (aq hb rfl rfl (ak (ak ai)) (.inl rfl) (fun _=>rfl)) ?_;refine rC ?_;refine zJ<|kS<|qR ?_;refine rC ?_;refine rQ iB ?_;refine zD ?_;refine rO ?_;refine rC ?_;refine rO ?_;refine rQ iB ?_;refine rO ?_;refine rC ?_;refine rQ iF ?_;refine rC ?_;refine rO ?_;refine rC ?_;refine rO ?_;refine rQ iB ?_;refine rO ?_;refine rC ?_;refine rQ iF ?_;refine zI<|sR ?_;refine rC<|zT<|bA ?_
     exact⟨trivial,[],lf⟩
    | false =>
     refine sR<|rN ?_;refine rC<|zW ?_;refine rC ?_;refine rQ iB ?_;refine rC ?_;refine rQ (aq hb rfl rfl (ak (ak ai)) (.inl rfl) (fun _=>rfl)) ?_;refine rC ?_;refine zJ<|kS<|qR ?_;refine rC ?_;refine rQ iB ?_;refine zD ?_;refine rO ?_;refine rC ?_;refine rO ?_;refine rQ iB ?_;refine rO ?_;refine rC ?_;refine rQ iF ?_;refine rC ?_;refine rO ?_;refine rC ?_;refine rO ?_;refine rQ iB ?_;refine rO ?_;refine rC ?_;refine rQ iF ?_;refine zG<|kS<|sR ?_;refine rC<|zT ?_
     exact⟨trivial,[],lf⟩
theorem kC (o:HOp):FnIs Try.prog 16 [.d (bt o)] [] (r01d (bT o)) []:=by
 refine aE aa Try.func16 rfl rfl rfl ?_
 unfold bT
 cases h1:decide (0≤o.returned) with
 | true =>
  cases h2:decide (o.err=0) with
  | true =>
   refine sR<|rN ?_;refine rC<|zW ?_;refine rC ?_;refine rQ iB ?_;refine zD ?_;refine rO ?_;refine rC ?_;refine rO ?_;refine rQ iB ?_;refine rO ?_;refine rC ?_;refine rQ iT ?_;refine zI<|sR ?_;refine rC<|nS<|dV<|bA ?_
   exact⟨trivial,[],lf⟩
  | false =>
   refine sR<|rN ?_;refine rC<|zW ?_;refine rC ?_;refine rQ iB ?_;refine zD ?_;refine rO ?_;refine rC ?_;refine rO ?_;refine rQ iB ?_;refine rO ?_;refine rC ?_;refine rQ iT ?_;refine zG<|kS<|sR ?_;refine rC<|zT ?_
   exact⟨trivial,[],lf⟩
 | false =>
  refine sR<|rN ?_;refine rC<|zW ?_;refine rC ?_;refine rQ iB ?_;refine zD ?_
  iterate 3 refine rS ?_
  refine rQ iF ?_;refine zJ<|kS<|sR ?_;refine rC<|zT ?_
  exact⟨trivial,[],lf⟩
def stB (o p:HOp):Bool:=decide (o.err=9)&&(decide (o.era=p.era)&&(decide (o.returned<p.invoked)&&(decide (0≤p.returned)&&(decide (p.err=0)||decide (p.err=8)))))
def rstV (l:List HOp):Bool := !l.any fun o=>l.any (stB o)
theorem rI {α:Type} (f:α→Bool) {l:List α} {i:Nat} {o:α} (h:l[i]?=some o):(l.drop i).any f=(f o||(l.drop (i+1)).any f):=by
 have hlt:=(List.getElem?_eq_some_iff.1 h).1
 rw[List.drop_eq_getElem_cons hlt,(List.getElem?_eq_some_iff.1 h).2,List.any_cons]
theorem jy (h:List HEv):∀(n i:Nat) (out:List HOp) (era:Int),(fj h n i out era).length≤out.length+n
 | 0,_,out,_=>by simp[fj]
 | n+1,i,out,era=>by
  rw[fj]
  split
  ·omega
  ·split
   ·have:=jy h n (i+1) out (era+1); omega
   ·split
    ·rename_i x _ _ _
     have:=jy h n (i+1) (out++[mkOp h i x out era]) era
     rw[List.length_append,List.length_singleton]at this
     omega
    ·have:=jy h n (i+1) out era; omega
theorem qC (h:List HEv):(opsR h).length≤h.length:=by
 have:=jy h h.length 0 [] 0
 simpa[opsR]using this
structure RS where
 era:Int
 taken:List Int
 arr:List (List UInt8)
 dur:List (List UInt8)
abbrev iX (l:List (List UInt8)):D :=.arr 32 br l
def fS (s:RS):D :=.cons (i6 s.era) (.cons (ff s.taken) (.cons (iX s.arr) (.cons (iX s.dur) .nil)))
abbrev nO (l:List (List UInt8)):Row :=.ds 27 32 true br l
theorem Ca {α:Type} {l:List α} {k:Nat} {x z:α} (h:l[k]?=some x):(l.take k++List.replicate (l.length-k) z).set k x=l.take (k+1)++List.replicate (l.length-(k+1)) z:=by
 have hlt:=(List.getElem?_eq_some_iff.1 h).1
 obtain⟨m,hm⟩:∃m,l.length-k=m+1:=⟨l.length-k-1,by omega⟩
 rw[hm,show l.length-(k+1)=m by omega,List.replicate_succ,List.set_append_right _ _ (by rw[List.length_take]; omega),List.length_take,Nat.min_eq_left (by omega),Nat.sub_self,List.set_cons_zero,List.take_add_one,h]
 simp
theorem nN (l:List (List UInt8)) (hl:l.length≤1048576):FnIs Try.prog 65 [.d (iX l)] [] (.own 64 0 l.length 32 none) [(64,nO l)]:=by
 refine aE aa Try.func65 rfl rfl rfl ?_;refine sR<|rC<|nR ?_;refine rC ?_;refine rQ iE ?_;refine aW (dB (enc:=br) (s:=32) (N:=l.length) aa zBk rfl rfl rfl rfl rfl rfl rfl hl rfl) rfl ?_;refine rC<|zW ?_;refine rC<|zP ?_
 refine wc_inv (fun k:Nat=>⟨[(4,.int .i64 k),(3,.own 65 0 l.length 32 none),(0,.d (iX l))],[(65,some (nO (l.take k++List.replicate (l.length-k) zBk)))],72,Try.f65.ntmps,64⟩) (fun k=>k≤l.length) (fun k=>l.length-k) 0 [(65,some _)] (Nat.zero_le _)
  (lg zj ⟨zR,trivial⟩) ?_
 intro k hk
 refine bM ?_
 by_cases hlt:k<l.length
 ·have d1:decide ((k:Int)<(l.length:Int))=true:=dT (by omega)
  obtain⟨x,hx⟩:∃x,l[k]?=some x:=⟨_,List.getElem?_eq_getElem hlt⟩
  have hx2:l[((k:Int)).toNat]?=some x:=by rw[Int.toNat_natCast]; exact hx
  obtain⟨z0,hz1⟩:∃z0,(l.take k++List.replicate (l.length-k) zBk)[k]?=some z0:=⟨_,List.getElem?_eq_getElem (by rw[List.length_append,List.length_take,List.length_replicate]; omega)⟩
  have hz0:(l.take k++List.replicate (l.length-k) zBk)[((k:Int)).toNat]?=some z0:=by rw[Int.toNat_natCast]; exact hz1
  have hset:(l.take k++List.replicate (l.length-k) zBk).set ((k:Int)).toNat x=l.take (k+1)++List.replicate (l.length-(k+1)) zBk:=by rw[Int.toNat_natCast]; exact Ca hx
  refine qR<|zD ?_;refine rQ iE ?_;refine rC ?_;refine zI<|zQ<|bn<|aj ?_;iterate 4 refine rC ?_
  refine rQ (ao aa rfl rfl rfl rfl rfl (by omega) hx2) ?_;refine rQ iL ?_;refine rQ (aP aa rfl rfl rfl rfl rfl (by omega) (by omega)) ?_;refine bO (aL aa rfl rfl rfl ⟨rfl,z0,x,hz0,⟨rfl,rfl,rfl⟩,rfl⟩ rfl)<|aw<|zC<|aj ?_;refine rC ?_;refine rQ iD ?_;refine rC<|aw ?_
  exact aI (k+1) [(65,some 65)] hlt (by omega) (lg zj ⟨⟨rfl,rfl,_,rfl,aR.of_eq (congrArg nO hset)⟩,trivial⟩)
 ·have d1:decide ((k:Int)<(l.length:Int))=false:=dF (by omega)
  obtain rfl:k=l.length:=by omega
  rw[List.take_length,Nat.sub_self,List.replicate_zero,List.append_nil]
  refine qR<|zD ?_;refine rQ iE ?_;refine rC ?_;refine zG<|zX<|sR ?_;refine zD<|zT ?_
  exact⟨trivial,[(64,some 65)],lg zV ⟨zR,trivial⟩⟩
theorem gb (l:List (List UInt8)) (hl:l.length≤1048576):FnIs Try.prog 65 [.d (iX l)] [] (.d (iX l)) []:=(nN l hl).freeze_out 64 _ rfl (Frz.own rfl) trivial
def bD (n:Nat):RS:=⟨0,[],List.replicate n zBk,List.replicate n zBk⟩
theorem Ao (n:Nat):DLe (.cons (i6 0) (.cons (.sc nil_) (.cons (iX (List.replicate n zBk)) (.cons (iX (List.replicate n zBk)) .nil)))) (fS (bD n)):=by
 rintro w X cs ⟨c1,r1,rfl,h1,c2,r2,rfl,h2,h3⟩
 exact⟨c1,_,rfl,h1,c2,_,rfl,.inl ⟨rfl,h2.1⟩,h3⟩
theorem ow (n:Nat) (hn:n≤1048576):FnIs Try.prog 48 [.int .i64 n] [] (.d (fS (bD n))) []:=by
 refine aE aa Try.func48 rfl rfl rfl ?_;refine sR<|rN<|nQ ?_;refine aA (by kernel_rfl) ?_;refine dC [0] [] ?_;refine dQ [3] [] (au.frozen (dB (enc:=br) (s:=32) (N:=n) aa zBk rfl rfl rfl rfl rfl rfl rfl hn rfl) (Frz.own (by rw[List.length_replicate]))) ?_;refine dC [0] [] ?_;refine dQ [5] [] (au.frozen (dB (enc:=br) (s:=32) (N:=n) aa zBk rfl rfl rfl rfl rfl rfl rfl hn rfl) (Frz.own (by rw[List.length_replicate]))) ?_;refine dQ [4,6] [] (au.val_le (bp aa rfl rfl rfl rfl) (Ao n) rfl) ?_;refine bu [2,7] [64] (aL aa rfl rfl rfl ⟨_,⟨rfl,rfl,rfl⟩,rfl⟩ rfl) ?_;refine am (by kernel_rfl)<|aG<|dV ?_
 exact⟨trivial,_,rfl,[],lf⟩
def aY (s:RS):RS:=⟨s.era+1,[],s.dur,s.dur⟩
theorem Ax (e:Int) (d:List (List UInt8)):DLe (.cons (i6 e) (.cons (.sc nil_) (.cons (iX d) (.cons (iX d) .nil)))) (fS ⟨e,[],d,d⟩):=by
 rintro w X cs ⟨c1,r1,rfl,h1,c2,r2,rfl,h2,h3⟩
 exact⟨c1,_,rfl,h1,c2,_,rfl,.inl ⟨rfl,h2.1⟩,h3⟩
theorem gz (s:RS) (hd:s.dur.length≤1048576) (he:IntKind.i64.wrap (s.era+1)=s.era+1):FnIs Try.prog 51 [.d (fS s)] [] (.d (fS (aY s))) []:=by
 have hc:=gb s.dur hd
 refine aE aa Try.func51 rfl rfl rfl ?_;refine sR ?_;iterate 2 refine rN ?_
 refine nQ<|aA (by kernel_rfl) ?_;refine dC [1] [] ?_;refine dQ [3] [64] iB ?_;refine dQ [4] [] (dq (m:=s.era+1) aa rfl rfl he) ?_;refine dC [1] [] ?_;refine dQ [6] [64] iB ?_;refine dQ [7] [] (aq hc rfl rfl (ak ai) (.inl rfl) (fun _=>rfl)) ?_;refine dC [1] [] ?_;refine dQ [9] [64] iB ?_;refine dQ [10] [] (aq hc rfl rfl (ak ai) (.inl rfl) (fun _=>rfl)) ?_;refine dQ [5,8,11] [] (au.val_le (bp aa rfl rfl rfl rfl) (Ax (s.era+1) s.dur) rfl) ?_;refine bu [2,12] [72] (aL aa rfl rfl rfl ⟨_,⟨rfl,rfl,rfl⟩,rfl⟩ rfl) ?_;refine am (by kernel_rfl)<|aG<|dV ?_
 exact⟨trivial,_,rfl,[],lf⟩
theorem kD (l:List Int) (n:Int) (hl:l.length≤1048576):FnIs Try.prog 49 [.d (ff l),.int .i64 n] [] (.d (i6 (if l.any (fun y=>decide (y=n))=true then 1 else 0))) []:=by
 refine aE aa Try.func49 rfl rfl rfl ?_;refine sR<|rC<|zW ?_;refine rC<|zP ?_
 refine wc_inv (fun k:Nat=>⟨[(5,.int .i64 k),(1,.int .i64 n),(0,.d (ff l))],[],72,Try.f49.ntmps,64⟩) (fun k=>k≤l.length∧(l.drop k).any (fun y=>decide (y=n))=l.any (fun y=>decide (y=n))) (fun k=>l.length-k) 0 [] ⟨Nat.zero_le _,rfl⟩
  (lg zj trivial) ?_
 rintro k ⟨hk,hd⟩
 refine bM ?_
 by_cases hlt:k<l.length
 ·have d1:decide ((k:Int)<(l.length:Int))=true:=dT (by omega)
  obtain⟨x,hx⟩:∃x,l[k]?=some x:=⟨_,List.getElem?_eq_getElem hlt⟩
  have hx2:l[((k:Int)).toNat]?=some x:=by rw[Int.toNat_natCast]; exact hx
  rw[rI _ hx]at hd
  by_cases h2:x=n
  ·have d2:decide (x=n)=true:=dT h2
   rw[d2,Bool.true_or]at hd
   rw[if_pos hd.symm]
   refine qR<|zD ?_;refine rQ iE ?_;refine rC ?_;refine zI<|zQ<|zS ?_;refine zD ?_;refine rQ (ao aa rfl rfl rfl rfl rfl (by omega) hx2) ?_;refine rQ iL ?_;refine zD ?_;refine zI<|sR ?_;refine rC<|zT<|zB<|ci<|zB ?_
   exact⟨trivial,[],lf⟩
  ·have d2:decide (x=n)=false:=dF h2
   rw[d2,Bool.false_or]at hd
   refine qR<|zD ?_;refine rQ iE ?_;refine rC ?_;refine zI<|zQ<|zS ?_;refine zD ?_;refine rQ (ao aa rfl rfl rfl rfl rfl (by omega) hx2) ?_;refine rQ iL ?_;refine zD ?_;refine zG<|aN<|zC<|aj ?_;refine rC ?_;refine rQ iD ?_;refine rC<|aw ?_
   exact aI (k+1) [] ⟨hlt,hd⟩ (by omega) (lg zj trivial)
 ·have d1:decide ((k:Int)<(l.length:Int))=false:=dF (by omega)
  rw[List.drop_eq_nil_of_le (by omega),List.any_nil]at hd
  rw[if_neg (by rw[←hd]; decide)]
  refine qR<|zD ?_;refine rQ iE ?_;refine rC ?_;refine zG<|zX<|sR ?_;refine rC<|zT ?_
  exact⟨trivial,[],lf⟩
theorem vX {α:Type} {l:List α} {i:Nat} {x:α} (h:l[i]?=some x):l.set i x=l:=by
 apply List.ext_getElem?
 intro j
 rw[List.getElem?_set]
 split
 ·rename_i e
  subst e
  rw[if_pos (List.getElem?_eq_some_iff.1 h).1,h]
 ·rfl
def pgAt (l:List (List UInt8)) (i:Int):List UInt8:=l[i.toNat]?.getD zBk
def hapR (s:RS) (o:HOp):RS×Bool :=
 if o.op.kind=1 then (s,!bT o||decide (pgAt s.arr o.op.index=o.value))
 else if o.op.kind=2 then ({ s with arr:=s.arr.set o.op.index.toNat o.op.data },true)
 else ({ s with dur:=s.arr },true)
structure sa (s:RS) (o:HOp):Prop where
 al:s.arr.length≤1048576
 dl:s.dur.length≤1048576
 pg:∀p∈s.arr,p.length=32
 kd:o.op.kind=1∨o.op.kind=2∨o.op.kind=3
 ix:o.op.kind=1∨o.op.kind=2→0≤o.op.index∧o.op.index<s.arr.length
 dt:o.op.kind=2→o.op.data.length=32
abbrev hapE (r:RS×Bool):AV :=.tup (.acons (.d (fS r.1)) (.acons (r01d r.2) .anil))
theorem wk (s:RS) (o:HOp) (h:sa s o) (h1:o.op.kind=1):FnIs Try.prog 52 [.d (fS s),.d (bt o)] [] (hapE (hapR s o)) []:=by
 have hca:=gb s.arr h.al
 have hcd:=gb s.dur h.dl
 have hmu:=kC o
 have k1:decide (o.op.kind=1)=true:=dT h1
 have k2:decide (o.op.kind=2)=false:=dF (by omega)
 have k3:decide (o.op.kind=3)=false:=dF (by omega)
 obtain⟨hi0,hi1⟩:=h.ix (.inl h1)
 obtain⟨x,hx⟩:∃x,s.arr[o.op.index.toNat]?=some x:=⟨_,List.getElem?_eq_getElem (by omega)⟩
 have hp:pgAt s.arr o.op.index=x:=by rw[pgAt,hx]; rfl
 refine aE aa Try.func52 rfl rfl rfl ?_
 rw[hapR,if_pos h1,hp]
 cases hm:bT o with
 | false =>
  rw[hm]at hmu
  refine sR ?_;iterate 3 refine rN ?_
  refine rC<|nQ ?_;refine aA (by kernel_rfl) ?_;refine dC [2] [] ?_;refine dQ [8] [64] iB ?_;refine dC [2] [] ?_;refine dQ [10] [64] iB ?_;refine dC [2] [] ?_;refine dQ [12] [64] iB ?_;refine dQ [13] [] (aq hca rfl rfl (ak ai) (.inl rfl) (fun _=>rfl)) ?_;refine dC [2] [] ?_;refine dQ [15] [64] iB ?_;refine dQ [16] [] (aq hcd rfl rfl (ak ai) (.inl rfl) (fun _=>rfl)) ?_;refine dQ [9,11,14,17] [] iS ?_;refine cY [] [] rfl (an aa (fun K hk=>hk)) ?_;refine bu [6,18] [184] (aL aa rfl rfl rfl ⟨_,⟨rfl,rfl,rfl⟩,rfl⟩ rfl) ?_;refine am (by kernel_rfl)<|aG<|qR ?_;refine zD ?_;refine rQ iB<|zP<|sR ?_;refine zD ?_;refine zI<|aS ?_;refine aA (by kernel_rfl) ?_;refine dQ [3] [72] iM ?_;refine dQ [24] [] (aq hmu rfl rfl (ak ai) (.inl rfl) (fun _=>rfl)) ?_;refine dC [25] [] ?_;refine dC [26] [] ?_;refine ae [27,2] rfl rfl rfl rfl ?_;refine ae [27,28] rfl rfl rfl rfl ?_;refine ae [27,3] rfl rfl rfl rfl ?_;refine ae [27,30] rfl rfl rfl rfl ?_;refine ae [27,31] rfl rfl rfl rfl ?_;refine ae [27,29,32] rfl rfl rfl rfl ?_;refine ae [27,33] rfl rfl rfl rfl ?_;refine ae [27,3] rfl rfl rfl rfl ?_;refine ae [27,35] rfl rfl rfl rfl ?_;refine ae [27,34,36] rfl rfl rfl rfl ?_;refine dQ [27,37] [] iG ?_;refine am (by kernel_rfl)<|aG ?_;refine wG<|aN<|zC<|sR ?_;refine rQ iM ?_;refine rW ?_;refine rC<|zT ?_
  exact⟨trivial,_,rfl,[],lf⟩
 | true =>
  rw[hm]at hmu
  by_cases he:x=o.value
  ·have d2:decide (x=o.value)=true:=dT he
   have d1:(!decide (x=o.value))=false:=by rw[d2]; rfl
   rw[d2]
   refine sR ?_;iterate 3 refine rN ?_
   refine rC<|nQ ?_;refine aA (by kernel_rfl) ?_;refine dC [2] [] ?_;refine dQ [8] [64] iB ?_;refine dC [2] [] ?_;refine dQ [10] [64] iB ?_;refine dC [2] [] ?_;refine dQ [12] [64] iB ?_;refine dQ [13] [] (aq hca rfl rfl (ak ai) (.inl rfl) (fun _=>rfl)) ?_;refine dC [2] [] ?_;refine dQ [15] [64] iB ?_;refine dQ [16] [] (aq hcd rfl rfl (ak ai) (.inl rfl) (fun _=>rfl)) ?_;refine dQ [9,11,14,17] [] iS ?_;refine cY [] [] rfl (an aa (fun K hk=>hk)) ?_;refine bu [6,18] [184] (aL aa rfl rfl rfl ⟨_,⟨rfl,rfl,rfl⟩,rfl⟩ rfl) ?_;refine am (by kernel_rfl)<|aG<|qR ?_;refine zD ?_;refine rQ iB<|zP<|sR ?_;refine zD ?_;refine zI<|aS ?_;refine aA (by kernel_rfl) ?_;refine dQ [3] [72] iM ?_;refine dQ [24] [] (aq hmu rfl rfl (ak ai) (.inl rfl) (fun _=>rfl)) ?_;refine dC [25] [] ?_;refine dC [26] [] ?_;refine ab [27,2] [] rfl rfl rfl rfl (an aa (fun K hk=>hk)) ?_;refine ab [27,28] [64] rfl rfl rfl rfl (aK aa rfl rfl ⟨_,rfl,rfl⟩ rfl) ?_;refine ab [27,3] [] rfl rfl rfl rfl (an aa (fun K hk=>hk)) ?_;refine ab [27,30] [] rfl rfl rfl rfl (an aa (fun K hk=>hk)) ?_;refine ab [27,31] [72] rfl rfl rfl rfl (aK aa rfl rfl ⟨_,rfl,rfl⟩ rfl) ?_;refine ab [27,29,32] [] rfl rfl rfl rfl (ao aa rfl rfl rfl rfl rfl hi0 hx) ?_;refine ab [27,33] [] rfl rfl rfl rfl (cI aa rfl rfl) ?_;refine ab [27,3] [] rfl rfl rfl rfl (an aa (fun K hk=>hk)) ?_;refine ab [27,35] [72] rfl rfl rfl rfl (aK aa rfl rfl ⟨_,rfl,rfl⟩ rfl) ?_;refine ab [27,34,36] [] rfl rfl rfl rfl (qI rfl rfl rfl rfl (by kernel_rfl) (by decide) (cZ x o.value)) ?_;refine dQ [27,37] [] iU ?_;refine am (by kernel_rfl)<|aG ?_;refine wF<|aN<|zC<|sR ?_;refine rQ iM ?_;refine rW ?_;refine rC<|zT ?_
   exact⟨trivial,_,rfl,[],lf⟩
  ·have d2:decide (x=o.value)=false:=dF he
   have d1:(!decide (x=o.value))=true:=by rw[d2]; rfl
   rw[d2]
   refine sR ?_;iterate 3 refine rN ?_
   refine rC<|nQ ?_;refine aA (by kernel_rfl) ?_;refine dC [2] [] ?_;refine dQ [8] [64] iB ?_;refine dC [2] [] ?_;refine dQ [10] [64] iB ?_;refine dC [2] [] ?_;refine dQ [12] [64] iB ?_;refine dQ [13] [] (aq hca rfl rfl (ak ai) (.inl rfl) (fun _=>rfl)) ?_;refine dC [2] [] ?_;refine dQ [15] [64] iB ?_;refine dQ [16] [] (aq hcd rfl rfl (ak ai) (.inl rfl) (fun _=>rfl)) ?_;refine dQ [9,11,14,17] [] iS ?_;refine cY [] [] rfl (an aa (fun K hk=>hk)) ?_;refine bu [6,18] [184] (aL aa rfl rfl rfl ⟨_,⟨rfl,rfl,rfl⟩,rfl⟩ rfl) ?_;refine am (by kernel_rfl)<|aG<|qR ?_;refine zD ?_;refine rQ iB<|zP<|sR ?_;refine zD ?_;refine zI<|aS ?_;refine aA (by kernel_rfl) ?_;refine dQ [3] [72] iM ?_;refine dQ [24] [] (aq hmu rfl rfl (ak ai) (.inl rfl) (fun _=>rfl)) ?_;refine dC [25] [] ?_;refine dC [26] [] ?_;refine ab [27,2] [] rfl rfl rfl rfl (an aa (fun K hk=>hk)) ?_;refine ab [27,28] [64] rfl rfl rfl rfl (aK aa rfl rfl ⟨_,rfl,rfl⟩ rfl) ?_;refine ab [27,3] [] rfl rfl rfl rfl (an aa (fun K hk=>hk)) ?_;refine ab [27,30] [] rfl rfl rfl rfl (an aa (fun K hk=>hk)) ?_;refine ab [27,31] [72] rfl rfl rfl rfl (aK aa rfl rfl ⟨_,rfl,rfl⟩ rfl) ?_;refine ab [27,29,32] [] rfl rfl rfl rfl (ao aa rfl rfl rfl rfl rfl hi0 hx) ?_;refine ab [27,33] [] rfl rfl rfl rfl (cI aa rfl rfl) ?_;refine ab [27,3] [] rfl rfl rfl rfl (an aa (fun K hk=>hk)) ?_;refine ab [27,35] [72] rfl rfl rfl rfl (aK aa rfl rfl ⟨_,rfl,rfl⟩ rfl) ?_;refine ab [27,34,36] [] rfl rfl rfl rfl (qI rfl rfl rfl rfl (by kernel_rfl) (by decide) (cZ x o.value)) ?_;refine dQ [27,37] [] iU ?_;refine am (by kernel_rfl)<|aG ?_;refine wT<|sR ?_;refine rQ iM ?_;refine rW ?_;refine rC<|zT<|zB ?_
   exact⟨trivial,_,rfl,[],lf⟩
theorem wi (s:RS) (o:HOp) (h:sa s o) (h3:o.op.kind=3):FnIs Try.prog 52 [.d (fS s),.d (bt o)] [] (hapE (hapR s o)) []:=by
 have hca:=gb s.arr h.al
 have hcd:=gb s.dur h.dl
 have k1:decide (o.op.kind=1)=false:=dF (by omega)
 have k2:decide (o.op.kind=2)=false:=dF (by omega)
 have k3:decide (o.op.kind=3)=true:=dT h3
 refine aE aa Try.func52 rfl rfl rfl ?_
 rw[hapR,if_neg (by omega),if_neg (by omega)]
 refine sR ?_;iterate 3 refine rN ?_
 refine rC<|nQ ?_;refine aA (by kernel_rfl) ?_;refine dC [2] [] ?_;refine dQ [8] [64] iB ?_;refine dC [2] [] ?_;refine dQ [10] [64] iB ?_;refine dC [2] [] ?_;refine dQ [12] [64] iB ?_;refine dQ [13] [] (aq hca rfl rfl (ak ai) (.inl rfl) (fun _=>rfl)) ?_;refine dC [2] [] ?_;refine dQ [15] [64] iB ?_;refine dQ [16] [] (aq hcd rfl rfl (ak ai) (.inl rfl) (fun _=>rfl)) ?_;refine dQ [9,11,14,17] [] iS ?_;refine cY [] [] rfl (an aa (fun K hk=>hk)) ?_;refine bu [6,18] [184] (aL aa rfl rfl rfl ⟨_,⟨rfl,rfl,rfl⟩,rfl⟩ rfl) ?_;refine am (by kernel_rfl)<|aG<|qR ?_;refine zD ?_;refine rQ iB<|zP<|sR ?_;refine zD ?_;refine zG<|sR ?_;refine zD ?_;refine zG<|sR ?_;refine zD ?_;refine zI<|aj ?_;refine rC ?_;refine rQ iB ?_;refine rQ (aq hca rfl rfl (ak ai) (.inl rfl) (fun _=>rfl)) ?_;refine rC ?_;refine rX<|aw<|zC<|sR ?_;refine rQ iM ?_;refine rW ?_;refine rC<|zT ?_
 exact⟨trivial,_,rfl,[],lf⟩
abbrev z5 (s:RS) (n:Nat):Row :=.box 100 (.acons (.d (i6 s.era)) (.acons (.d (ff s.taken)) (.acons (.own n 0 s.arr.length 32 none) (.acons (.d (iX s.dur)) (.d .nil)))))
theorem wj (s:RS) (o:HOp) (h:sa s o) (h2:o.op.kind=2):FnIs Try.prog 52 [.d (fS s),.d (bt o)] [] (.tup (.acons (.acons (.d (i6 s.era)) (.acons (.d (ff s.taken)) (.acons (.own 64 0 s.arr.length 32 none) (.acons (.d (iX s.dur)) (.d .nil))))) (.acons (r01d true) .anil))) [(64,nO (s.arr.set o.op.index.toNat o.op.data))]:=by
 have hca:=nN s.arr h.al
 have hcd:=gb s.dur h.dl
 have k1:decide (o.op.kind=1)=false:=dF (by omega)
 have k2:decide (o.op.kind=2)=true:=dT h2
 have k3:decide (o.op.kind=3)=false:=dF (by omega)
 obtain⟨hi0,hi1⟩:=h.ix (.inr h2)
 have hdl:=h.dt h2
 obtain⟨x,hx⟩:∃x,s.arr[o.op.index.toNat]?=some x:=⟨_,List.getElem?_eq_getElem (by omega)⟩
 have hxl:x.length=32:=h.pg x (List.mem_of_getElem? hx)
 have hset0:s.arr=s.arr.set o.op.index.toNat (o.op.data.take 0++x.drop 0):=by
  rw[List.take_zero,List.nil_append,List.drop_zero]
  exact (vX hx).symm
 refine aE aa Try.func52 rfl rfl rfl ?_;refine sR ?_;iterate 3 refine rN ?_
 refine rC<|nQ ?_;refine aA (by kernel_rfl) ?_;refine dC [2] [] ?_;refine dQ [8] [64] iB ?_;refine dC [2] [] ?_;refine dQ [10] [64] iB ?_;refine dC [2] [] ?_;refine dQ [12] [64] iB ?_;refine cY [13] [] rfl (bc [] hca rfl rfl rfl (ak ai) trivial rfl rfl (.inl rfl) rfl rfl) ?_;refine dC [2] [] ?_;refine dQ [15] [64] iB ?_;refine dQ [16] [] (aq hcd rfl rfl (ak ai) (.inl rfl) (fun _=>rfl)) ?_;refine dQ [9,11,14,17] [144] iS ?_;refine cY [] [] rfl (an aa (fun K hk=>hk)) ?_;refine bu [6,18] [184] (aL aa rfl rfl rfl ⟨_,⟨rfl,rfl,rfl⟩,rfl⟩ rfl) ?_;refine am (by kernel_rfl)<|aG<|qR ?_;refine zD ?_;refine rQ iB<|zP<|sR ?_;refine zD ?_;refine zG<|sR ?_;refine zD ?_;refine zI<|sR ?_;refine rC<|zP ?_
 refine wc_inv (fun k:Nat=>⟨[(7,.int .i64 k),(6,.ptr 66 []),(4,.ptr 67 []),(3,.ptr 65 []),(2,.ptr 64 [])],[(64,some (.box 100 (.d (fS s)))),(65,some (tE o)),(66,some (z5 s 68)),(67,some (.box 100 (.d r100.zero))),(68,some (nO (s.arr.set o.op.index.toNat (o.op.data.take k++x.drop k))))],72,Try.f52.ntmps,64⟩) (fun k=>k≤32) (fun k=>32-k) 0 [(64,some _),(65,some _),(66,some _),(67,some _),(68,some _)] (Nat.zero_le _)
  (lg zh ⟨zR,zR,zR,zR,⟨rfl,rfl,_,rfl,aR.of_eq (congrArg nO hset0)⟩,trivial⟩) ?_
 intro k hk
 refine bM ?_
 by_cases hlt:k<32
 ·have d5:decide ((k:Int)<32)=true:=dT (by omega)
  obtain⟨y,hy⟩:∃y,o.op.data[k]?=some y:=⟨_,List.getElem?_eq_getElem (by omega)⟩
  obtain⟨z,hz⟩:∃z,x[k]?=some z:=⟨_,List.getElem?_eq_getElem (by omega)⟩
  have hbl:(byI o.op.data).length=o.op.data.length:=fD _
  have hy2:(byI o.op.data)[((k:Int)).toNat]?=some ((y.toNat:Nat):Int):=by rw[Int.toNat_natCast]; exact uj hy
  obtain⟨e0,he0⟩:∃e0:Int,((z.toNat:Nat):Int)=e0:=⟨_,rfl⟩
  have htl:(o.op.data.take k).length=k:=by rw[List.length_take]; omega
  have hgm:(o.op.data.take k++x.drop k)[k]?=some z:=by rw[List.getElem?_append_right (by omega),htl,Nat.sub_self,List.getElem?_drop,Nat.add_zero]; exact hz
  have hgb:(byI (o.op.data.take k++x.drop k))[((k:Int)).toNat]?=some e0:=by rw[Int.toNat_natCast,←he0]; exact uj hgm
  have hset:(byI (o.op.data.take k++x.drop k)).set ((k:Int)).toNat ((y.toNat:Nat):Int)=byI (o.op.data.take (k+1)++x.drop (k+1)):=by
   rw[Int.toNat_natCast,byI,byI,←List.map_set,List.set_append_right _ _ (by omega),htl,Nat.sub_self,List.drop_eq_getElem_cons (by omega:k<x.length),List.set_cons_zero,List.take_add_one,hy]
   simp
  have hga:(s.arr.set o.op.index.toNat (o.op.data.take k++x.drop k))[o.op.index.toNat]?=some (o.op.data.take k++x.drop k):=by rw[List.getElem?_set_self (by omega)]
  have hss:(s.arr.set o.op.index.toNat (o.op.data.take k++x.drop k)).set o.op.index.toNat (o.op.data.take (k+1)++x.drop (k+1))=s.arr.set o.op.index.toNat (o.op.data.take (k+1)++x.drop (k+1)):=List.set_set ..
  refine qR<|zD ?_;refine zI<|zQ<|bn ?_;refine aA (by kernel_rfl) ?_;refine dC [6] [] ?_;refine dQ [46] [66] iM ?_;refine dC [3] [] ?_;refine dC [48] [] ?_;refine dQ [49] [65] iB ?_;refine dC [7] [] ?_;refine dC [3] [] ?_;refine dC [52] [] ?_;refine dQ [53] [65] iB ?_;refine dC [7] [] ?_;refine dQ [54,55] [] (ao aa rfl rfl rfl rfl rfl (by omega) hy2) ?_;refine dQ [56] [] iL ?_;refine dQ [47,50] [] (aP aa rfl rfl rfl rfl rfl hi0 hi1) ?_;refine dQ [58,51] [] (an aa (fun K hk=>⟨by omega,by omega,hk⟩)) ?_;refine bu [59,57] [68] (aL aa rfl rfl rfl ⟨rfl,_,o.op.data.take (k+1)++x.drop (k+1),hga,⟨rfl,e0,((y.toNat:Nat):Int),hgb,⟨rfl,rfl,rfl⟩,congrArg (D.vec 32 1 cU) hset.symm⟩,rfl⟩ rfl) ?_;refine am (by kernel_rfl)<|zC<|aj ?_;refine rC ?_;refine rQ iD ?_;refine rC<|aw ?_
  exact aI (k+1) [(64,some _),(65,some _),(66,some _),(67,some _),(68,some _)] hlt (by omega) (lg zh ⟨zR,zR,zR,zR,⟨rfl,rfl,_,rfl,aR.of_eq (congrArg nO hss)⟩,trivial⟩)
 ·have d5:decide ((k:Int)<32)=false:=dF (by omega)
  have hfin:o.op.data.take k++x.drop k=o.op.data:=by rw[List.take_of_length_le (by omega),List.drop_eq_nil_of_le (by omega),List.append_nil]
  rw[hfin]
  refine qR<|zD ?_;refine zG<|bV<|db<|dY<|dj<|zC<|sR ?_;refine rQ iM ?_;refine rW ?_;refine rC<|zT ?_
  exact⟨trivial,_,rfl,[(64,some 68)],lg zV ⟨zR,trivial⟩⟩
theorem mU (s:RS) (o:HOp) (h:sa s o):FnIs Try.prog 52 [.d (fS s),.d (bt o)] [] (hapE (hapR s o)) []:=by
 rcases h.kd with k | k | k
 ·exact wk s o h k
 ·have:hapR s o=({ s with arr:=s.arr.set o.op.index.toNat o.op.data },true):=by rw[hapR,if_neg (by omega),if_pos k]
  rw[this]
  exact (wj s o h k).freeze_out 64 _ rfl (Frz.tup (.cons (Frz.dcons (.refl _) (Frz.dcons (.refl _) (Frz.dcons (Frz.own (by rw[List.length_set])) (Frz.dcons (.refl _) (.refl _))))) (.cons (.refl _) .nil))) trivial
 ·exact wi s o h k
def bh (e:Int) (s:RS):RS:=if s.era<e then⟨e,[],s.dur,s.dur⟩ else s
def befA (l:List HOp) (o:HOp) (j:Int):Bool:=match l[j.toNat]? with
 | some p=>befB o p
 | none=>false
def eL (b:Int) (l:List HOp):List Int→List Int→RS→Int
 | [],_,_=>0
 | i::os,pre,s=>if i<0 then 1 else match l[i.toNat]? with
  | none=>1
  | some o=>if pre.any (fun y=>decide (y=i))=true then 1 else if mayB o b=false then 1 else if pre.any (befA l o)=true then 13
   else if (hapR (bh o.era s) o).2=false then 15 else eL b l os (pre++[i]) (hapR (bh o.era s) o).1
def fi (ord:List Int):List HOp→Nat→Bool
 | [],_=>false
 | o::l,k=>(bT o && !ord.any (fun y=>decide (y=(k:Int))))||fi ord l (k+1)
def fH (b:Int) (n:Nat) (l:List HOp) (order:List Int):Int :=
 if eL b l order [] (bD n)=0 then (if fi order l 0=true then 15 else 0) else eL b l order [] (bD n)
structure RSOk (n:Nat) (s:RS):Prop where
 al:s.arr.length=n
 dl:s.dur.length=n
 ap:∀p∈s.arr,p.length=32
 dp:∀p∈s.dur,p.length=32
 e0:0≤s.era
 e1:s.era≤1000000
theorem RSOk.first (n:Nat):RSOk n (bD n):=
 ⟨List.length_replicate,List.length_replicate,fun p hp=>by rw[(List.mem_replicate.1 hp).2]; rfl,fun p hp=>by rw[(List.mem_replicate.1 hp).2]; rfl,Int.le_refl _,by show (0:Int)≤1000000; decide⟩
theorem RSOk.crash {n:Nat} {s:RS} (h:RSOk n s) (he:s.era<1000000):RSOk n (aY s):=⟨h.dl,h.dl,h.dp,h.dp,by have:=h.e0; show 0≤s.era+1; omega,by show s.era+1≤1000000; omega⟩
theorem RSOk.to {n:Nat} {s:RS} (h:RSOk n s) {e:Int} (he:e≤1000000):RSOk n (bh e s):=by
 unfold bh
 split
 ·exact⟨h.dl,h.dl,h.dp,h.dp,by have:=h.e0; show 0≤e; omega,he⟩
 ·exact h
theorem tH {o:HOp} {n:Nat} (h:mayB o n=true):(o.op.kind=1∨o.op.kind=2∨o.op.kind=3)∧(o.op.kind=1∨o.op.kind=2→0≤o.op.index∧o.op.index<n)∧(o.op.kind=2→o.op.data.length=32):=by
 unfold mayB badO outO at h
 by_cases k1:o.op.kind=1
 ·simp[k1]at h
  exact⟨.inl k1,fun _=>by omega,fun k=>by omega⟩
 ·by_cases k2:o.op.kind=2
  ·simp[k2]at h
   exact⟨.inr (.inl k2),fun _=>by omega,fun _=>h.1.2⟩
  ·simp[k1,k2]at h
   exact⟨.inr (.inr h.1),fun k=>by omega,fun k=>by omega⟩
theorem RSOk.hap {n:Nat} (hn:n≤1048576) {s:RS} (h:RSOk n s) {o:HOp} (hm:mayB o n=true):sa s o∧RSOk n (hapR s o).1:=by
 obtain⟨m1,m2,m3⟩:=tH hm
 refine⟨⟨by rw[h.al]; exact hn,by rw[h.dl]; exact hn,h.ap,m1,fun k=>by rw[h.al]; exact m2 k,m3⟩,?_⟩
 unfold hapR
 split
 ·exact h
 ·split
  ·rename_i k2
   exact⟨by simp only[List.length_set]; exact h.al,h.dl,fun p hp=>by
    rcases List.mem_or_eq_of_mem_set hp with hp | rfl
    ·exact h.ap p hp
    ·exact m3 k2,h.dp,h.e0,h.e1⟩
  ·exact⟨h.al,h.al,h.ap,h.ap,h.e0,h.e1⟩
theorem sI {b:Int} {l:List HOp} {order:List Int} {k:Nat} {i:Int} (h:order[k]?=some i) (pre:List Int) (s:RS):eL b l (order.drop k) pre s=eL b l (i::order.drop (k+1)) pre s:=by
 have hlt:=(List.getElem?_eq_some_iff.1 h).1
 rw[List.drop_eq_getElem_cons hlt,(List.getElem?_eq_some_iff.1 h).2]
theorem uJ {ord:List Int} {l:List HOp} {k:Nat} {o:HOp} (h:l[k]?=some o):fi ord (l.drop k) k=((bT o && !ord.any (fun y=>decide (y=(k:Int))))||fi ord (l.drop (k+1)) (k+1)):=by
 have hlt:=(List.getElem?_eq_some_iff.1 h).1
 rw[List.drop_eq_getElem_cons hlt,(List.getElem?_eq_some_iff.1 h).2,fi]
abbrev iR (s:RS):Row :=.box 100 (.d (fS s))
theorem sH (h:List HEv) (n:Nat) (order:List Int) (l:List HOp) (hop:FnIs Try.prog 26 [.d (encH h)] [] (.d (cD l)) []) (hL:l.length≤1000000) (hn:n≤1000000) (hO:order.length≤1000000) (hE:∀o∈l,0≤o.era∧o.era≤1000000):FnIs Try.prog 19 [.d (encH h),.int .i64 n,.d (ff order)] [] (.d (i6 (fH n n l order))) []:=by
 have hfi:=ow n (by omega)
 refine aE aa Try.func19 rfl rfl rfl ?_
 have fin:∀v,v≠0→eL n l order [] (bD n)=v→fH n n l order=v:=fun v hv e=>by rw[fH,e,if_neg hv]
 have fin0:∀c,eL n l order [] (bD n)=0→fi order l 0=c→fH n n l order=if c=true then 15 else 0:=fun c e e2=>by rw[fH,e,if_pos rfl,e2]
 refine sR<|rC<|nR ?_;refine rC ?_;refine rQ (aq hop rfl rfl (ak ai) (.inl rfl) (fun _=>rfl)) ?_;refine rC<|nR ?_;refine rC ?_;refine rQ (aq hfi rfl rfl (ak ai) (.inl rfl) (fun _=>rfl)) ?_;refine rN ?_;refine rW<|zW ?_;refine rC<|zP ?_
 refine wc_inv (fun q:Nat×RS=>⟨[(9,.int .i64 q.1),(8,.ptr 64 []),(7,.d (cD l)),(2,.d (ff order)),(1,.int .i64 n)],[(64,some (iR q.2))],72,Try.f19.ntmps,64⟩) (fun q=>q.1≤order.length∧RSOk n q.2∧(∀y∈order.take q.1,0≤y∧y<l.length)∧eL n l (order.drop q.1) (order.take q.1) q.2=eL n l order [] (bD n)) (fun q=>order.length-q.1) (0,bD n) [(64,some _)] ⟨Nat.zero_le _,.first n,fun y hy=>(by simp at hy),rfl⟩
  (lg zh ⟨zR,trivial⟩) ?_
 rintro⟨k,s⟩ ⟨hk,hs,hr,hg⟩
 simp only at hk hs hr hg
 refine bM ?_
 by_cases hlt:k<order.length
 ·have d1:decide ((k:Int)<(order.length:Int))=true:=dT (by omega)
  obtain⟨i,hi⟩:∃i,order[k]?=some i:=⟨_,List.getElem?_eq_getElem hlt⟩
  have hi2:order[((k:Int)).toNat]?=some i:=by rw[Int.toNat_natCast]; exact hi
  rw[sI hi,eL]at hg
  have htk:order.take (k+1)=order.take k++[i]:=by rw[List.take_add_one,hi]; rfl
  have htl:(order.take k).length=k:=by rw[List.length_take]; omega
  refine qR<|zD ?_;refine rQ iE ?_;refine rC ?_;refine zI<|zQ<|zS ?_;refine zD ?_;refine rQ (ao aa rfl rfl rfl rfl rfl (by omega) hi2) ?_;refine rQ iL ?_;refine rC<|zW ?_;refine zU ?_
  by_cases h1:i<0
  ·have e1:decide (i<0)=true:=dT h1
   rw[if_pos h1]at hg
   rw[fin 1 (by decide) hg.symm]
   iterate 4 refine rS ?_
   refine rQ iT ?_;refine rC ?_;iterate 6 refine rT ?_
   refine rQ iU ?_;refine rC ?_;iterate 7 refine rT ?_
   refine rQ iU ?_;refine zO<|sR ?_;refine rC<|zT<|bA<|zB<|ci<|zB ?_
   exact⟨trivial,[],lf⟩
  have e1:decide (i<0)=false:=dF h1
  have hi0:0≤i:=by omega
  rw[if_neg h1]at hg
  by_cases h2:(l.length:Int)≤i
  ·have e2:decide ((l.length:Int)≤i)=true:=dT h2
   rw[List.getElem?_eq_none (by omega)]at hg
   simp only at hg
   rw[fin 1 (by decide) hg.symm]
   refine rO ?_;refine rC ?_;refine rO ?_;refine rC ?_;refine rO ?_;refine rQ iE ?_;refine rO ?_;refine rC ?_;refine rQ iF ?_;refine rC ?_;iterate 6 refine rS ?_
   refine rQ iT ?_;refine rC ?_;iterate 7 refine rT ?_
   refine rQ iU ?_;refine zO<|sR ?_;refine rC<|zT<|bA<|zB<|ci<|zB ?_
   exact⟨trivial,[],lf⟩
  have e2:decide ((l.length:Int)≤i)=false:=dF h2
  obtain⟨o,ho⟩:∃o,l[i.toNat]?=some o:=⟨_,List.getElem?_eq_getElem (by omega)⟩
  rw[ho]at hg
  simp only at hg
  obtain⟨he0,he1⟩:=hE o (List.mem_of_getElem? ho)
  have hha:=kD (order.take k) i (by omega)
  have hma:=tw o n
  cases h3:(order.take k).any (fun y=>decide (y=i)) with
  | true =>
   rw[if_pos h3]at hg
   rw[h3]at hha
   rw[fin 1 (by decide) hg.symm]
   refine rO ?_;refine rC ?_;refine rO ?_;refine rC ?_;refine rO ?_;refine rQ iE ?_;refine rO ?_;refine rC ?_;refine rQ iF ?_;refine rC ?_;refine rO ?_;refine rC ?_;refine rO ?_;refine rC ?_;refine rO ?_;refine rQ (kz (m:=(k:Int)) aa rfl rfl rfl rfl (by omega) (by omega)) ?_;refine rO ?_;refine rC ?_;refine rO ?_;refine rQ (aq hha rfl rfl (ak (ak ai)) (.inl rfl) (fun _=>rfl)) ?_;refine rO ?_;refine rC ?_;refine rQ iF ?_;refine rC ?_;iterate 7 refine rT ?_
   refine rQ iU ?_;refine zO<|sR ?_;refine rC<|zT<|bA<|zB<|ci<|zB ?_
   exact⟨trivial,[],lf⟩
  | false =>
  rw[if_neg (by rw[h3]; decide)]at hg
  rw[h3]at hha
  cases h4:mayB o n with
  | false =>
   rw[if_pos h4]at hg
   rw[h4]at hma
   rw[fin 1 (by decide) hg.symm]
   refine rO ?_;refine rC ?_;refine rO ?_;refine rC ?_;refine rO ?_;refine rQ iE ?_;refine rO ?_;refine rC ?_;refine rQ iF ?_;refine rC ?_;refine rO ?_;refine rC ?_;refine rO ?_;refine rC ?_;refine rO ?_;refine rQ (kz (m:=(k:Int)) aa rfl rfl rfl rfl (by omega) (by omega)) ?_;refine rO ?_;refine rC ?_;refine rO ?_;refine rQ (aq hha rfl rfl (ak (ak ai)) (.inl rfl) (fun _=>rfl)) ?_;refine rO ?_;refine rC ?_;refine rQ iF ?_;refine rC ?_;refine rP ?_;refine rC ?_;refine rP ?_;refine rC ?_;refine rP ?_;refine rQ (ao aa rfl rfl rfl rfl rfl hi0 ho) ?_;refine rP ?_;refine rQ iL ?_;refine rP ?_;refine rC ?_;refine rP ?_;refine rQ (aq hma rfl rfl (ak (ak ai)) (.inl rfl) (fun _=>rfl)) ?_;refine rP ?_;refine rC ?_;refine rQ iG ?_;refine zO<|sR ?_;refine rC<|zT<|bA<|zB<|ci<|zB ?_
   exact⟨trivial,[],lf⟩
  | true =>
  rw[if_neg (by rw[h4]; decide)]at hg
  rw[h4]at hma
  refine rO ?_;refine rC ?_;refine rO ?_;refine rC ?_;refine rO ?_;refine rQ iE ?_;refine rO ?_;refine rC ?_;refine rQ iF ?_;refine rC ?_;refine rO ?_;refine rC ?_;refine rO ?_;refine rC ?_;refine rO ?_;refine rQ (kz (m:=(k:Int)) aa rfl rfl rfl rfl (by omega) (by omega)) ?_;refine rO ?_;refine rC ?_;refine rO ?_;refine rQ (aq hha rfl rfl (ak (ak ai)) (.inl rfl) (fun _=>rfl)) ?_;refine rO ?_;refine rC ?_;refine rQ iF ?_;refine rC ?_;refine rP ?_;refine rC ?_;refine rP ?_;refine rC ?_;refine rP ?_;refine rQ (ao aa rfl rfl rfl rfl rfl hi0 ho) ?_;refine rP ?_;refine rQ iL ?_;refine rP ?_;refine rC ?_;refine rP ?_;refine rQ (aq hma rfl rfl (ak (ak ai)) (.inl rfl) (fun _=>rfl)) ?_;refine rP ?_;refine rC ?_;refine rQ iG ?_;refine zJ<|kS<|qR ?_;refine rC<|zP ?_
  refine wc_inv (fun j:Nat=>⟨[(11,.int .i64 j),(10,.int .i64 i),(9,.int .i64 k),(8,.ptr 64 []),(7,.d (cD l)),(2,.d (ff order)),(1,.int .i64 n)],[(64,some (iR s))],72,Try.f19.ntmps,64⟩) (fun j=>j≤k∧((order.take k).drop j).any (befA l o)=(order.take k).any (befA l o)) (fun j=>k-j) 0 [(64,some _)] ⟨Nat.zero_le _,rfl⟩
   (lg zf ⟨zR,trivial⟩) ?_
  rintro j ⟨hj,hja⟩
  refine bM ?_
  by_cases hjt:j<k
  ·have d2:decide ((j:Int)<(k:Int))=true:=dT (by omega)
   obtain⟨y,hy⟩:∃y,order[j]?=some y:=⟨_,List.getElem?_eq_getElem (by omega)⟩
   have hy2:order[((j:Int)).toNat]?=some y:=by rw[Int.toNat_natCast]; exact hy
   have hyt:(order.take k)[j]?=some y:=by rw[List.getElem?_take_of_lt hjt]; exact hy
   obtain⟨hy0,hyl⟩:=hr y (List.mem_of_getElem? hyt)
   obtain⟨p,hp⟩:∃p,l[y.toNat]?=some p:=⟨_,List.getElem?_eq_getElem (by omega)⟩
   have hba:befA l o y=befB o p:=by rw[befA,hp]
   rw[rI _ hyt,hba]at hja
   have hbe:=j7 o p
   cases hb:befB o p with
   | true =>
    rw[hb]at hbe hja
    rw[Bool.true_or]at hja
    rw[if_pos hja.symm]at hg
    rw[fin 13 (by decide) hg.symm]
    refine qR<|zU ?_;refine zI<|zQ<|bn<|aS ?_;refine aA (by kernel_rfl) ?_;refine dC [7] [] ?_;refine dC [10] [] ?_;refine dQ [59,60] [] (ao aa rfl rfl rfl rfl rfl hi0 ho) ?_;refine dQ [61] [] iL ?_;refine dC [7] [] ?_;refine dC [2] [] ?_;refine dC [11] [] ?_;refine dQ [64,65] [] (ao aa rfl rfl rfl rfl rfl (by omega) hy2) ?_;refine dQ [66] [] iL ?_;refine dQ [63,67] [] (ao aa rfl rfl rfl rfl rfl hy0 hp) ?_;refine dQ [68] [] iL ?_;refine dQ [62,69] [] (aq hbe rfl rfl (ak (ak ai)) (.inl rfl) (fun _=>rfl)) ?_;refine dC [70] [] ?_;refine am (by kernel_rfl)<|aG ?_;refine wV<|sR ?_;refine rC<|zT<|zB<|ci<|zB<|zB<|ci<|zB ?_
    exact⟨trivial,[],lf⟩
   | false =>
    rw[hb]at hbe hja
    rw[Bool.false_or]at hja
    refine qR<|zU ?_;refine zI<|zQ<|bn<|aS ?_;refine aA (by kernel_rfl) ?_;refine dC [7] [] ?_;refine dC [10] [] ?_;refine dQ [59,60] [] (ao aa rfl rfl rfl rfl rfl hi0 ho) ?_;refine dQ [61] [] iL ?_;refine dC [7] [] ?_;refine dC [2] [] ?_;refine dC [11] [] ?_;refine dQ [64,65] [] (ao aa rfl rfl rfl rfl rfl (by omega) hy2) ?_;refine dQ [66] [] iL ?_;refine dQ [63,67] [] (ao aa rfl rfl rfl rfl rfl hy0 hp) ?_;refine dQ [68] [] iL ?_;refine dQ [62,69] [] (aq hbe rfl rfl (ak (ak ai)) (.inl rfl) (fun _=>rfl)) ?_;refine dC [70] [] ?_;refine am (by kernel_rfl)<|aG ?_;refine wG<|aN<|zC<|aj ?_;refine rC ?_;refine rQ iD ?_;refine rC<|aw ?_
    exact aI (j+1) [(64,some _)] ⟨hjt,hja⟩ (by omega) (lg zf ⟨zR,trivial⟩)
  ·have d2:decide ((j:Int)<(k:Int))=false:=dF (by omega)
   rw[List.drop_eq_nil_of_le (by omega),List.any_nil]at hja
   rw[if_neg (by rw[←hja]; decide)]at hg
   refine qR<|zU ?_;refine zG<|zX<|aS<|bn ?_
   refine wc_inv (fun q:RS=>⟨[(10,.int .i64 i),(9,.int .i64 k),(8,.ptr 64 []),(7,.d (cD l)),(2,.d (ff order)),(1,.int .i64 n)],[(64,some (iR q))],72,Try.f19.ntmps,64⟩) (fun q=>RSOk n q∧bh o.era q=bh o.era s) (fun q=>(o.era-q.era).toNat) s [(64,some _)] ⟨hs,rfl⟩
    (lg zg ⟨zR,trivial⟩) ?_
   rintro q ⟨hq,hqe⟩
   refine bM ?_
   by_cases hqt:q.era<o.era
   ·have d3:decide (q.era<o.era)=true:=dT hqt
    have hq0:=hq.e0
    have hcr:=gz q (by rw[hq.dl]; omega) (aV (by omega) (by omega))
    have hnx:bh o.era (aY q)=bh o.era s:=by
     rw[←hqe]
     unfold bh
     rw[if_pos hqt]
     by_cases hc:(aY q).era<o.era
     ·rw[if_pos hc]; rfl
     ·rw[if_neg hc]
      have:q.era+1=o.era:=by have:¬q.era+1<o.era:=hc; omega
      rw[aY,this]
    iterate 2 refine aS ?_
    refine aA (by kernel_rfl) ?_;refine dC [8] [] ?_;refine dQ [72] [64] iB ?_;refine dC [7] [] ?_;refine dC [10] [] ?_;refine dQ [74,75] [] (ao aa rfl rfl rfl rfl rfl hi0 ho) ?_;refine dC [76] [] ?_;refine dQ [77] [] iL ?_;refine dC [73,78] [] ?_;refine am (by kernel_rfl)<|aG ?_;refine wT<|kS<|bn<|aj ?_;refine rQ iM ?_;refine rQ (aq hcr rfl rfl (ak ai) (.inl rfl) (fun _=>rfl)) ?_;refine rW<|aw<|ep ?_
    exact aI (aY q) [(64,some _)] ⟨hq.crash (by omega),hnx⟩ (by show (o.era-(q.era+1)).toNat<(o.era-q.era).toNat; omega) (lg zg ⟨zR,trivial⟩)
   ·have d3:decide (q.era<o.era)=false:=dF hqt
    have hqq:bh o.era s=q:=by rw[←hqe,bh,if_neg hqt]
    rw[hqq]at hg
    obtain⟨hho,hso⟩:=hq.hap (by omega) h4
    have hhp:=mU q o hho
    obtain⟨⟨u,f⟩,hu⟩:∃r,hapR q o=r:=⟨_,rfl⟩
    rw[hu]at hhp hg hso
    cases f with
    | false =>
     rw[if_pos rfl]at hg
     rw[fin 15 (by decide) hg.symm]
     iterate 2 refine aS ?_
     refine aA (by kernel_rfl) ?_;refine dC [8] [] ?_;refine dQ [72] [64] iB ?_;refine dC [7] [] ?_;refine dC [10] [] ?_;refine dQ [74,75] [] (ao aa rfl rfl rfl rfl rfl hi0 ho) ?_;refine dC [76] [] ?_;refine dQ [77] [] iL ?_;refine dC [73,78] [] ?_;refine am (by kernel_rfl)<|aG ?_;refine wF<|bV<|db<|dY<|dj<|aG<|aS ?_;refine aA (by kernel_rfl) ?_;refine dQ [8] [64] iM ?_;refine dC [7] [] ?_;refine dC [10] [] ?_;refine dQ [84,85] [] (ao aa rfl rfl rfl rfl rfl hi0 ho) ?_;refine dQ [86] [] iL ?_;refine dQ [83,87] [] (aq hhp rfl rfl (ak (ak ai)) (.inl rfl) (fun _=>rfl)) ?_;refine dC [88] [] ?_;iterate 2 refine dC [82] [] ?_
     refine cY [] [] rfl (an aa (fun K hk=>hk)) ?_;refine bu [12,89] [208] (aL aa rfl rfl rfl ⟨_,⟨rfl,rfl,rfl⟩,rfl⟩ rfl) ?_;refine dC [90] [] ?_;refine am (by kernel_rfl)<|aG<|qR ?_;refine zD ?_;refine zO<|sR ?_;refine rC<|zT<|bA<|zB<|ci<|nP<|bA ?_
     exact⟨trivial,[],lf⟩
    | true =>
     rw[if_neg (by show ¬(true=false); decide)]at hg
     iterate 2 refine aS ?_
     refine aA (by kernel_rfl) ?_;refine dC [8] [] ?_;refine dQ [72] [64] iB ?_;refine dC [7] [] ?_;refine dC [10] [] ?_;refine dQ [74,75] [] (ao aa rfl rfl rfl rfl rfl hi0 ho) ?_;refine dC [76] [] ?_;refine dQ [77] [] iL ?_;refine dC [73,78] [] ?_;refine am (by kernel_rfl)<|aG ?_;refine wF<|bV<|db<|dY<|dj<|aG<|aS ?_;refine aA (by kernel_rfl) ?_;refine dQ [8] [64] iM ?_;refine dC [7] [] ?_;refine dC [10] [] ?_;refine dQ [84,85] [] (ao aa rfl rfl rfl rfl rfl hi0 ho) ?_;refine dQ [86] [] iL ?_;refine dQ [83,87] [] (aq hhp rfl rfl (ak (ak ai)) (.inl rfl) (fun _=>rfl)) ?_;refine dC [88] [] ?_;iterate 2 refine dC [82] [] ?_
     refine cY [] [] rfl (an aa (fun K hk=>hk)) ?_;refine bu [12,89] [208] (aL aa rfl rfl rfl ⟨_,⟨rfl,rfl,rfl⟩,rfl⟩ rfl) ?_;refine dC [90] [] ?_;refine am (by kernel_rfl)<|aG<|qR ?_;refine zD ?_;refine zJ<|kS<|aj ?_;refine rQ iM ?_;refine rW<|aw<|zC<|aj ?_;refine rC ?_;refine rQ iD ?_;refine rC<|aw ?_
     exact aI (k+1,u) [(64,some _)] ⟨hlt,hso,fun y hy=>(by
      rw[htk]at hy
      rcases List.mem_append.1 hy with hy | hy
      ·exact hr y hy
      ·obtain rfl:=List.mem_singleton.1 hy
       exact⟨hi0,by omega⟩),by simp only[htk]; exact hg⟩ (by simp only; omega) (lg zh ⟨zR,trivial⟩)
 ·have d1:decide ((k:Int)<(order.length:Int))=false:=dF (by omega)
  rw[List.drop_eq_nil_of_le (by omega),eL]at hg
  refine qR<|zD ?_;refine rQ iE ?_;refine rC ?_;refine zG<|zX<|qR ?_;refine rC<|zP ?_
  refine wc_inv (fun j:Nat=>⟨[(14,.int .i64 j),(7,.d (cD l)),(2,.d (ff order))],[],72,Try.f19.ntmps,64⟩) (fun j=>j≤l.length∧fi order (l.drop j) j=fi order l 0) (fun j=>l.length-j) 0 [] ⟨Nat.zero_le _,rfl⟩
   (lg zj trivial) ?_
  rintro j ⟨hj,hjm⟩
  refine bM ?_
  by_cases hjt:j<l.length
  ·have d2:decide ((j:Int)<(l.length:Int))=true:=dT (by omega)
   obtain⟨o,ho⟩:∃o,l[j]?=some o:=⟨_,List.getElem?_eq_getElem hjt⟩
   have ho2:l[((j:Int)).toNat]?=some o:=by rw[Int.toNat_natCast]; exact ho
   rw[uJ ho]at hjm
   have hmu:=kC o
   have hhs:=kD order (j:Int) (by omega)
   cases hm:bT o with
   | false =>
    rw[hm]at hmu hjm
    rw[Bool.false_and,Bool.false_or]at hjm
    refine qR<|zD ?_;refine rQ iE ?_;refine rC ?_;refine zI<|zQ<|zS ?_;refine zD ?_;refine rQ (ao aa rfl rfl rfl rfl rfl (by omega) ho2) ?_;refine rQ iL ?_;refine rQ (aq hmu rfl rfl (ak ai) (.inl rfl) (fun _=>rfl)) ?_;refine zD ?_
    iterate 4 refine rT ?_
    refine rQ iG ?_;refine zJ<|aN<|zC<|aj ?_;refine rC ?_;refine rQ iD ?_;refine rC<|aw ?_
    exact aI (j+1) [] ⟨hjt,hjm⟩ (by omega) (lg zj trivial)
   | true =>
    rw[hm]at hmu hjm
    cases ha:order.any (fun y=>decide (y=(j:Int))) with
    | true =>
     rw[ha]at hhs hjm
     refine qR<|zD ?_;refine rQ iE ?_;refine rC ?_;refine zI<|zQ<|zS ?_;refine zD ?_;refine rQ (ao aa rfl rfl rfl rfl rfl (by omega) ho2) ?_;refine rQ iL ?_;refine rQ (aq hmu rfl rfl (ak ai) (.inl rfl) (fun _=>rfl)) ?_;refine zD ?_;refine rP ?_;refine rC ?_;refine rP ?_;refine rC ?_;refine rP ?_;refine rQ (aq hhs rfl rfl (ak (ak ai)) (.inl rfl) (fun _=>rfl)) ?_;refine rP ?_;refine rC ?_;refine rQ iU ?_;refine zJ<|aN<|zC<|aj ?_;refine rC ?_;refine rQ iD ?_;refine rC<|aw ?_
     exact aI (j+1) [] ⟨hjt,hjm⟩ (by omega) (lg zj trivial)
    | false =>
     rw[ha]at hhs hjm
     rw[fin0 true hg.symm hjm.symm]
     refine qR<|zD ?_;refine rQ iE ?_;refine rC ?_;refine zI<|zQ<|zS ?_;refine zD ?_;refine rQ (ao aa rfl rfl rfl rfl rfl (by omega) ho2) ?_;refine rQ iL ?_;refine rQ (aq hmu rfl rfl (ak ai) (.inl rfl) (fun _=>rfl)) ?_;refine zD ?_;refine rP ?_;refine rC ?_;refine rP ?_;refine rC ?_;refine rP ?_;refine rQ (aq hhs rfl rfl (ak (ak ai)) (.inl rfl) (fun _=>rfl)) ?_;refine rP ?_;refine rC ?_;refine rQ iU ?_;refine zO<|sR ?_;refine rC<|zT<|zB<|ci<|nP<|bA ?_
     exact⟨trivial,[],lf⟩
  ·have d2:decide ((j:Int)<(l.length:Int))=false:=dF (by omega)
   rw[List.drop_eq_nil_of_le (by omega),fi]at hjm
   rw[fin0 false hg.symm hjm.symm]
   refine qR<|zD ?_;refine rQ iE ?_;refine rC ?_;refine zG<|zX<|sR ?_;refine rC<|zT ?_
   exact⟨trivial,[],lf⟩
def da:List Int→Int→List Int
 | [],n=>[n]
 | a::l,n=>if n<a then n::a::l else a::da l n
def qb (d:Bool) (l:List Int) (n:Int):List Int:=if d then l else da l n
abbrev b01 (d:Bool):AV :=.int .i64 (if d then 1 else 0)
theorem ob (n:Int):∀l:List Int,(da l n).length=l.length+1
 | []=>rfl
 | a::l=>by
  rw[da]
  split
  ·rfl
  ·rw[List.length_cons,ob n l,List.length_cons]
theorem rH {P:Program} {T:Tab} {env:Env} {h:Upds} {n:Nat} (hT:ay P T) {t e r r2 m:Nat} {re:TyR} {s:Nat} {ex ex2:Bool} {cap2:Option Nat} {α:Type} {enc:α→D} {xs:List α} {x y:Operand} {d:D} (el:α) (ht:bz T t=some (.slice e)) (he:lk T e=some re) (hs:Nat.beq re.size s=true) (hs0:Nat.blt 0 s=true)
  (hx:aB env x=some (.own r 0 m s none)) (hrow:aX h r=some (.ds e s ex enc xs)) (hy:aB env y=some (.own r2 0 1 s cap2)) (hrow2:aX h r2=some (.lits e s 1 ex2 (.acons (.d d) .anil))) (hd:d=enc el)
  (hlen:xs.length+1≤1048576) (hbytes:Nat.ble re.bytes 134217728=true) (hm:m=xs.length) :
  au P (.call { callee :=.builtin .append,args := #[x,y],argTypes := #[t,t] }) env h n (some (.own n 0 (m+1) s none)) [(n,some (.ds e s false enc (xs++[el]))),(r,none)]:=by
 subst hm
 exact aQ hT el ht he hs hs0 hx hrow hy hrow2 hd hlen hbytes
theorem ownl {r m k s:Nat} {c:Option Nat} (h:m=k):AVLe (.own r 0 m s c) (.own r 0 k s c):=AVLe.of_eq (by rw[h])
theorem vJ (l:List Int) (n:Int) (hl:l.length≤1000000):FnIs Try.prog 66 [.d (ff l),.int .i64 n] [] (.own 64 0 (da l n).length 1 none) [(64,zRow (da l n))]:=by
 refine aE aa Try.func66 rfl rfl rfl ?_;refine sR<|rC<|nR ?_;refine rC<|nR ?_;refine rC<|zW ?_;refine rC<|zP ?_
 refine wc_inv (fun q:Nat×List Int×Bool=>⟨[(7,.int .i64 q.1),(6,b01 q.2.2),(5,.own 65 0 q.2.1.length 1 none),(1,.int .i64 n),(0,.d (ff l))],[(65,some (zRow q.2.1))],72,Try.f66.ntmps,64⟩) (fun q=>q.1≤l.length∧(q.2.2=false→q.2.1.length≤q.1)∧q.2.1.length≤q.1+1∧q.2.1++qb q.2.2 (l.drop q.1) n=da l n) (fun q=>l.length-q.1) (0,[],false) [(65,none)] ⟨Nat.zero_le _,fun _=>Nat.zero_le _,Nat.zero_le _,rfl⟩
  (lg zh ⟨⟨rfl,rfl,rfl⟩,trivial⟩) ?_
 rintro⟨k,out,d⟩ ⟨hk,ho0,ho,hg⟩
 simp only at hk ho0 ho hg
 have hol:out.length+1≤1048576:=by omega
 have hol2:(out++[n]).length+1≤1048576:=by rw[List.length_append]; simp only[List.length_cons,List.length_nil]; omega
 have hl1:out.length+1=(out++[n]).length:=by simp
 refine bM ?_
 by_cases hlt:k<l.length
 ·have d1:decide ((k:Int)<(l.length:Int))=true:=dT (by omega)
  obtain⟨a,hx⟩:∃x,l[k]?=some x:=⟨_,List.getElem?_eq_getElem hlt⟩
  have hx2:l[((k:Int)).toNat]?=some a:=by rw[Int.toNat_natCast]; exact hx
  rw[List.drop_eq_getElem_cons hlt,(List.getElem?_eq_some_iff.1 hx).2]at hg
  cases d with
  | true =>
   have d0:decide ((1:Int)=0)=false:=rfl
   refine qR<|zD ?_;refine rQ iE ?_;refine rC ?_;refine zI<|zQ<|bn<|qR ?_;refine zU ?_
   iterate 6 refine rT ?_
   refine rQ iG ?_;refine zJ<|kS<|aj ?_;refine zU ?_;refine rQ (ao aa rfl rfl rfl rfl rfl (by omega) hx2) ?_;refine rQ iL ?_;refine aW (aD (s:=1) aa rfl rfl rfl rfl rfl rfl rfl rfl) rfl ?_;refine aO (aQ (enc:=i6) (s:=1) (xs:=out) aa a rfl rfl rfl rfl rfl rfl rfl rfl rfl hol rfl) rfl ?_;refine rC<|aw<|ep<|aG<|aj ?_;refine rC ?_;refine rQ iD ?_;refine rC<|aw ?_
   exact aI (k+1,out++[a],true) [(65,some _)] ⟨hlt,fun h=>(by cases h),by simp only[List.length_append,List.length_cons,List.length_nil]; omega,by simp only; rw[←hg]; simp[qb]⟩ (by show l.length-(k+1)<l.length-k; omega) (lg ⟨zE,rfl,zE,rfl,⟨_,rfl,ownl (by simp)⟩,rfl,zE,rfl,zE,rfl,trivial⟩ ⟨zR,trivial⟩)
  | false =>
   have d0:decide ((0:Int)=0)=true:=rfl
   by_cases h2:n<a
   ·have d2:decide (n<a)=true:=dT h2
    refine qR<|zD ?_;refine rQ iE ?_;refine rC ?_;refine zI<|zQ<|bn<|qR ?_;refine zU ?_;refine rP ?_;refine rC ?_;refine rP ?_;refine rC ?_;refine rP ?_;refine rQ (ao aa rfl rfl rfl rfl rfl (by omega) hx2) ?_;refine rP ?_;refine rQ iL ?_;refine rP ?_;refine rC ?_;refine rP ?_;refine rC ?_;refine rQ iU ?_;refine zI<|sR ?_;refine zD ?_;refine aW (aD (s:=1) aa rfl rfl rfl rfl rfl rfl rfl rfl) rfl ?_;refine aO (aQ (enc:=i6) (s:=1) (xs:=out) aa n rfl rfl rfl rfl rfl rfl rfl rfl rfl hol rfl) rfl ?_;refine rC<|nS<|aj ?_;refine rC<|nS<|aj ?_;refine zU ?_;refine rQ (ao aa rfl rfl rfl rfl rfl (by omega) hx2) ?_;refine rQ iL ?_;refine aW (aD (s:=1) aa rfl rfl rfl rfl rfl rfl rfl rfl) rfl ?_;refine aO (rH (enc:=i6) (s:=1) (xs:=out++[n]) aa a rfl rfl rfl rfl rfl rfl rfl rfl rfl hol2 rfl hl1) rfl ?_;refine rC<|aw<|zC<|aj ?_;refine rC ?_;refine rQ iD ?_;refine rC<|aw ?_
    exact aI (k+1,out++[n]++[a],true) [(65,some _)] ⟨hlt,fun h=>(by cases h),by have:=ho0 rfl; simp only[List.length_append,List.length_cons,List.length_nil]; omega,by simp only; rw[←hg]; simp[qb,da,h2]⟩ (by show l.length-(k+1)<l.length-k; omega) (lg ⟨zE,rfl,zE,rfl,⟨_,rfl,ownl (by simp)⟩,rfl,zE,rfl,zE,rfl,trivial⟩ ⟨zR,trivial⟩)
   ·have d2:decide (n<a)=false:=dF h2
    refine qR<|zD ?_;refine rQ iE ?_;refine rC ?_;refine zI<|zQ<|bn<|qR ?_;refine zU ?_;refine rP ?_;refine rC ?_;refine rP ?_;refine rC ?_;refine rP ?_;refine rQ (ao aa rfl rfl rfl rfl rfl (by omega) hx2) ?_;refine rP ?_;refine rQ iL ?_;refine rP ?_;refine rC ?_;refine rP ?_;refine rC ?_;refine rQ iU ?_;refine zG<|kS<|aj ?_;refine zU ?_;refine rQ (ao aa rfl rfl rfl rfl rfl (by omega) hx2) ?_;refine rQ iL ?_;refine aW (aD (s:=1) aa rfl rfl rfl rfl rfl rfl rfl rfl) rfl ?_;refine aO (aQ (enc:=i6) (s:=1) (xs:=out) aa a rfl rfl rfl rfl rfl rfl rfl rfl rfl hol rfl) rfl ?_;refine rC<|aw<|ep<|aG<|aj ?_;refine rC ?_;refine rQ iD ?_;refine rC<|aw ?_
    exact aI (k+1,out++[a],false) [(65,some _)] ⟨hlt,fun _=>(by have:=ho0 rfl; simp only[List.length_append,List.length_cons,List.length_nil]; omega),by simp only[List.length_append,List.length_cons,List.length_nil]; omega,by simp only; rw[←hg]; simp[qb,da,h2]⟩ (by show l.length-(k+1)<l.length-k; omega) (lg ⟨zE,rfl,zE,rfl,⟨_,rfl,ownl (by simp)⟩,rfl,zE,rfl,zE,rfl,trivial⟩ ⟨zR,trivial⟩)
 ·have d1:decide ((k:Int)<(l.length:Int))=false:=dF (by omega)
  rw[List.drop_eq_nil_of_le (by omega)]at hg
  cases d with
  | true =>
   have d0:decide ((1:Int)=0)=false:=rfl
   rw[qb,if_pos rfl,List.append_nil]at hg
   subst hg
   refine qR<|zD ?_;refine rQ iE ?_;refine rC ?_;refine zG<|zX<|qR ?_;refine zD ?_;refine zJ<|kS<|sR ?_;refine zD<|zT ?_
   exact⟨trivial,[(64,some 65)],lg zV ⟨zR,trivial⟩⟩
  | false =>
   have d0:decide ((0:Int)=0)=true:=rfl
   have hg2:out++[n]=da l n:=hg
   rw[←hg2]
   refine qR<|zD ?_;refine rQ iE ?_;refine rC ?_;refine zG<|zX<|qR ?_;refine zD ?_;refine zO<|aj ?_;refine zD ?_;refine aW (aD (s:=1) aa rfl rfl rfl rfl rfl rfl rfl rfl) rfl ?_;refine aO (aQ (enc:=i6) (s:=1) (xs:=out) aa n rfl rfl rfl rfl rfl rfl rfl rfl rfl hol rfl) rfl ?_;refine rC<|nR ?_;refine zD<|zT ?_
   exact⟨trivial,[(64,some _)],lg ⟨⟨_,rfl,ownl (by simp)⟩,rfl,trivial⟩ ⟨zR,trivial⟩⟩
theorem xU (l:List Int) (n:Int) (hl:l.length≤1000000):FnIs Try.prog 66 [.d (ff l),.int .i64 n] [] (.d (ff (da l n))) []:=(vJ l n hl).freeze_out 64 _ rfl (Frz.own rfl) trivial
theorem wm (h:List HEv) (hh:h.length≤1000000):FnIs Try.prog 30 [.d (encH h)] [] (.int .i64 (aU h)) []:=by
 refine aE aa Try.func30 rfl rfl rfl ?_;refine sR<|rC<|nR ?_;refine rC<|zW ?_;refine rC<|zP ?_
 refine wc_inv (fun k:Nat=>⟨[(4,.int .i64 k),(3,.int .i64 ((1+(h.take k).countP (fun x=>decide (x.kind=3)):Nat):Int)),(0,.d (encH h))],[],72,Try.f30.ntmps,64⟩) (fun k=>k≤h.length) (fun k=>h.length-k) 0 [] (Nat.zero_le _)
  (lg zj trivial) ?_
 intro k hk
 refine bM ?_
 by_cases hlt:k<h.length
 ·have d1:decide ((k:Int)<(h.length:Int))=true:=dT (by omega)
  obtain⟨x,hx⟩:∃x,h[k]?=some x:=⟨_,List.getElem?_eq_getElem hlt⟩
  have hx2:h[((k:Int)).toNat]?=some x:=by rw[Int.toNat_natCast]; exact hx
  have hc:(h.take (k+1)).countP (fun x=>decide (x.kind=3))=(h.take k).countP (fun x=>decide (x.kind=3))+if decide (x.kind=3)=true then 1 else 0:=by
   rw[List.take_add_one,hx,Option.toList_some,List.countP_append,List.countP_cons,List.countP_nil,Nat.zero_add]
  have hcl:(h.take k).countP (fun x=>decide (x.kind=3))≤k:=Nat.le_trans List.countP_le_length (by rw[List.length_take]; omega)
  cases h2:decide (x.kind=3) with
  | true =>
   rw[h2,if_pos rfl]at hc
   refine qR<|zD ?_;refine rQ iE ?_;refine rC ?_;refine zI<|zQ<|zS ?_;refine zD ?_;refine rQ (ao aa rfl rfl rfl rfl rfl (by omega) hx2) ?_;refine rC ?_;refine rQ iL ?_;refine rC ?_;refine zI<|aj ?_;refine rC ?_;refine rQ (dq (m:=((1+(h.take k).countP (fun x=>decide (x.kind=3))+1:Nat):Int)) aa rfl rfl (by rw[aV (by omega) (by omega)]; omega)) ?_;refine rC<|aw<|zC<|aj ?_;refine rC ?_;refine rQ iD ?_;refine rC<|aw ?_
   exact aI (k+1) [] hlt (by omega) (lg ⟨zE,rfl,⟨_,rfl,AVLe.of_eq (by rw[hc]; rfl)⟩,rfl,zE,rfl,trivial⟩ trivial)
  | false =>
   rw[h2,if_neg (by decide),Nat.add_zero]at hc
   refine qR<|zD ?_;refine rQ iE ?_;refine rC ?_;refine zI<|zQ<|zS ?_;refine zD ?_;refine rQ (ao aa rfl rfl rfl rfl rfl (by omega) hx2) ?_;refine rC ?_;refine rQ iL ?_;refine rC ?_;refine zG<|aN<|ep<|aG<|aj ?_;refine rC ?_;refine rQ iD ?_;refine rC<|aw ?_
   exact aI (k+1) [] hlt (by omega) (lg ⟨zE,rfl,⟨_,rfl,AVLe.of_eq (by rw[hc]; rfl)⟩,rfl,zE,rfl,trivial⟩ trivial)
 ·have d1:decide ((k:Int)<(h.length:Int))=false:=dF (by omega)
  obtain rfl:k=h.length:=by omega
  rw[List.take_length]
  refine qR<|zD ?_;refine rQ iE ?_;refine rC ?_;refine zG<|zX<|sR ?_;refine zD<|zT ?_
  exact⟨trivial,[],lf⟩
def bR (s:RS):List HOp→Nat→Bool
 | [],_=>true
 | o::l,k => !(decide (o.era=s.era)&&(bT o && !s.taken.any (fun y=>decide (y=(k:Int)))))&&bR s l (k+1)
theorem sA {s:RS} {l:List HOp} {k:Nat} {o:HOp} (h:l[k]?=some o):bR s (l.drop k) k=(!(decide (o.era=s.era)&&(bT o && !s.taken.any (fun y=>decide (y=(k:Int)))))&&bR s (l.drop (k+1)) (k+1)):=by
 have hlt:=(List.getElem?_eq_some_iff.1 h).1
 rw[List.drop_eq_getElem_cons hlt,(List.getElem?_eq_some_iff.1 h).2,bR]
theorem qo (s:RS) (l:List HOp) (hs:s.taken.length≤1048576) (hl:l.length≤1048576):FnIs Try.prog 55 [.d (fS s),.d (cD l)] [] (r01d (bR s l 0)) []:=by
 refine aE aa Try.func55 rfl rfl rfl ?_;refine sR<|rN ?_;refine rC<|zW ?_;refine rC<|zP ?_
 refine wc_inv (fun k:Nat=>⟨[(5,.int .i64 k),(2,.ptr 64 []),(1,.d (cD l))],[(64,some (iR s))],72,Try.f55.ntmps,64⟩) (fun k=>k≤l.length∧bR s (l.drop k) k=bR s l 0) (fun k=>l.length-k) 0 [(64,some 64)] ⟨Nat.zero_le _,rfl⟩
  (lg zj ⟨zR,trivial⟩) ?_
 rintro k ⟨hk,hd⟩
 refine bM ?_
 by_cases hlt:k<l.length
 ·have d1:decide ((k:Int)<(l.length:Int))=true:=dT (by omega)
  obtain⟨o,ho⟩:∃x,l[k]?=some x:=⟨_,List.getElem?_eq_getElem hlt⟩
  have ho2:l[((k:Int)).toNat]?=some o:=by rw[Int.toNat_natCast]; exact ho
  rw[sA ho]at hd
  have hmu:=kC o
  have hhs:=kD s.taken (k:Int) hs
  refine qR<|zD ?_;refine rQ iE ?_;refine rC ?_;refine zI<|zQ<|bn<|aS ?_;refine aA (by kernel_rfl) ?_;refine dC [1] [] ?_;refine dC [5] [] ?_;refine dQ [12,13] [] (ao aa rfl rfl rfl rfl rfl (by omega) ho2) ?_;refine dC [14] [] ?_;refine dQ [15] [] iL ?_;refine dC [2] [] ?_;refine dQ [17] [64] iB ?_;refine dC [16,18] [] ?_;refine dC [19] [] ?_
  cases h2:decide (o.era=s.era) with
  | false =>
   rw[h2,Bool.false_and,Bool.not_false,Bool.true_and]at hd
   refine ae [20,1] rfl rfl rfl rfl ?_;refine ae [20,5] rfl rfl rfl rfl ?_;refine ae [20,21,22] rfl rfl rfl rfl ?_;refine ae [20,23] rfl rfl rfl rfl ?_;refine ae [20,24] rfl rfl rfl rfl ?_;refine ae [20,25] rfl rfl rfl rfl ?_;refine dQ [20,26] [] iG ?_;refine dC [27] [] ?_;refine ae [28,2] rfl rfl rfl rfl ?_;refine ae [28,29] rfl rfl rfl rfl ?_;refine ae [28,5] rfl rfl rfl rfl ?_;refine ae [28,30,31] rfl rfl rfl rfl ?_;refine ae [28,32] rfl rfl rfl rfl ?_;refine dQ [28,33] [] iG ?_;refine am (by kernel_rfl)<|aG ?_;refine wG<|aN<|zC<|aj ?_;refine rC ?_;refine rQ iD ?_;refine rC<|aw ?_
   exact aI (k+1) [(64,some 64)] ⟨hlt,hd⟩ (by omega) (lg zj ⟨zR,trivial⟩)
  | true =>
  cases h3:bT o with
  | false =>
   rw[h2,h3,Bool.false_and,Bool.and_false,Bool.not_false,Bool.true_and]at hd
   rw[h3]at hmu
   refine ab [20,1] [] rfl rfl rfl rfl (an aa (fun K hk=>hk)) ?_;refine ab [20,5] [] rfl rfl rfl rfl (an aa (fun K hk=>hk)) ?_;refine ab [20,21,22] [] rfl rfl rfl rfl (ao aa rfl rfl rfl rfl rfl (by omega) ho2) ?_;refine ab [20,23] [] rfl rfl rfl rfl (cI aa rfl rfl) ?_;refine ab [20,24] [] rfl rfl rfl rfl (aq hmu rfl rfl (ak ai) (.inl rfl) (fun _=>rfl)) ?_;refine ab [20,25] [] rfl rfl rfl rfl (an aa (fun K hk=>hk)) ?_;refine dQ [20,26] [] iU ?_;refine dC [27] [] ?_;refine ae [28,2] rfl rfl rfl rfl ?_;refine ae [28,29] rfl rfl rfl rfl ?_;refine ae [28,5] rfl rfl rfl rfl ?_;refine ae [28,30,31] rfl rfl rfl rfl ?_;refine ae [28,32] rfl rfl rfl rfl ?_;refine dQ [28,33] [] iG ?_;refine am (by kernel_rfl)<|aG ?_;refine wG<|aN<|zC<|aj ?_;refine rC ?_;refine rQ iD ?_;refine rC<|aw ?_
   exact aI (k+1) [(64,some 64)] ⟨hlt,hd⟩ (by omega) (lg zj ⟨zR,trivial⟩)
  | true =>
  rw[h3]at hmu
  cases h4:s.taken.any (fun y=>decide (y=(k:Int))) with
  | true =>
   rw[h2,h3,h4,Bool.not_true,Bool.and_false,Bool.and_false,Bool.not_false,Bool.true_and]at hd
   rw[h4]at hhs
   refine ab [20,1] [] rfl rfl rfl rfl (an aa (fun K hk=>hk)) ?_;refine ab [20,5] [] rfl rfl rfl rfl (an aa (fun K hk=>hk)) ?_;refine ab [20,21,22] [] rfl rfl rfl rfl (ao aa rfl rfl rfl rfl rfl (by omega) ho2) ?_;refine ab [20,23] [] rfl rfl rfl rfl (cI aa rfl rfl) ?_;refine ab [20,24] [] rfl rfl rfl rfl (aq hmu rfl rfl (ak ai) (.inl rfl) (fun _=>rfl)) ?_;refine ab [20,25] [] rfl rfl rfl rfl (an aa (fun K hk=>hk)) ?_;refine dQ [20,26] [] iU ?_;refine dC [27] [] ?_;refine ab [28,2] [] rfl rfl rfl rfl (an aa (fun K hk=>hk)) ?_;refine ab [28,29] [64] rfl rfl rfl rfl (aK aa rfl rfl ⟨_,rfl,rfl⟩ rfl) ?_;refine ab [28,5] [] rfl rfl rfl rfl (an aa (fun K hk=>hk)) ?_;refine ab [28,30,31] [] rfl rfl rfl rfl (aq hhs rfl rfl (ak (ak ai)) (.inl rfl) (fun _=>rfl)) ?_;refine ab [28,32] [] rfl rfl rfl rfl (an aa (fun K hk=>hk)) ?_;refine dQ [28,33] [] iU ?_;refine am (by kernel_rfl)<|aG ?_;refine wG<|aN<|zC<|aj ?_;refine rC ?_;refine rQ iD ?_;refine rC<|aw ?_
   exact aI (k+1) [(64,some 64)] ⟨hlt,hd⟩ (by omega) (lg zj ⟨zR,trivial⟩)
  | false =>
   rw[h2,h3,h4,Bool.not_false,Bool.and_true,Bool.and_true,Bool.not_true,Bool.false_and]at hd
   rw[h4]at hhs
   rw[←hd]
   refine ab [20,1] [] rfl rfl rfl rfl (an aa (fun K hk=>hk)) ?_;refine ab [20,5] [] rfl rfl rfl rfl (an aa (fun K hk=>hk)) ?_;refine ab [20,21,22] [] rfl rfl rfl rfl (ao aa rfl rfl rfl rfl rfl (by omega) ho2) ?_;refine ab [20,23] [] rfl rfl rfl rfl (cI aa rfl rfl) ?_;refine ab [20,24] [] rfl rfl rfl rfl (aq hmu rfl rfl (ak ai) (.inl rfl) (fun _=>rfl)) ?_;refine ab [20,25] [] rfl rfl rfl rfl (an aa (fun K hk=>hk)) ?_;refine dQ [20,26] [] iU ?_;refine dC [27] [] ?_;refine ab [28,2] [] rfl rfl rfl rfl (an aa (fun K hk=>hk)) ?_;refine ab [28,29] [64] rfl rfl rfl rfl (aK aa rfl rfl ⟨_,rfl,rfl⟩ rfl) ?_;refine ab [28,5] [] rfl rfl rfl rfl (an aa (fun K hk=>hk)) ?_;refine ab [28,30,31] [] rfl rfl rfl rfl (aq hhs rfl rfl (ak (ak ai)) (.inl rfl) (fun _=>rfl)) ?_;refine ab [28,32] [] rfl rfl rfl rfl (an aa (fun K hk=>hk)) ?_;refine dQ [28,33] [] iU ?_;refine am (by kernel_rfl)<|aG ?_;refine wV<|sR ?_;refine rC<|zT<|nP<|bA<|ci<|zB ?_
   exact⟨trivial,[],lf⟩
 ·have d1:decide ((k:Int)<(l.length:Int))=false:=dF (by omega)
  rw[List.drop_eq_nil_of_le (by omega),bR]at hd
  rw[←hd]
  refine qR<|zD ?_;refine rQ iE ?_;refine rC ?_;refine zG<|zX<|sR ?_;refine rC<|zT ?_
  exact⟨trivial,[],lf⟩
def Cb (a b:RS):Bool:=decide (a.era=b.era)&&(decide (a.taken=b.taken)&&(decide (a.arr=b.arr)&&decide (a.dur=b.dur)))
def hitB (s:RS) (o:HOp) (k:Nat) (p:HOp):Bool:=if s.taken.any (fun y=>decide (y=(k:Int))) then befB o p else decide (p.era=s.era)&&(bT p&&befB p o)
def hitL (s:RS) (o:HOp):List HOp→Nat→Bool
 | [],_=>false
 | p::l,k=>hitB s o k p||hitL s o l (k+1)
theorem vg {s:RS} {o p:HOp} {l:List HOp} {k:Nat} (h:l[k]?=some p):hitL s o (l.drop k) k=(hitB s o k p||hitL s o (l.drop (k+1)) (k+1)):=by
 have hlt:=(List.getElem?_eq_some_iff.1 h).1
 rw[List.drop_eq_getElem_cons hlt,(List.getElem?_eq_some_iff.1 h).2,hitL]
def takB (s:RS) (l:List HOp) (i:Nat) (o:HOp):Bool:=decide (o.era=s.era)&&(mayB o s.arr.length&&(!s.taken.any (fun y=>decide (y=(i:Int))) && !hitL s o l 0))
def bg (s:RS) (l:List HOp) (i:Nat) (o:HOp):RS×Bool :=
 if takB s l i o then ({ (hapR s o).1 with taken:=da s.taken i },(hapR s o).2) else (s,false)
abbrev zRS:D :=.cons (i6 0) (.cons (.sc nil_) (.cons (.sc nil_) (.cons (.sc nil_) .nil)))
theorem mR (s:RS) (l:List HOp) (i:Nat) (o:HOp) (n:Nat) (ho:l[i]?=some o) (hs:RSOk n s) (hn:n≤1000000) (hl:l.length≤1000000) (ht:s.taken.length≤1000000):FnIs Try.prog 53 [.d (fS s),.d (cD l),.int .i64 i] [] (hapE (bg s l i o)) []:=by
 have ho2:l[((i:Int)).toNat]?=some o:=by rw[Int.toNat_natCast]; exact ho
 have hma:=tw o s.arr.length
 have hhi:=kD s.taken (i:Int) (by omega)
 refine aE aa Try.func53 rfl rfl rfl ?_
 have no:takB s l i o=false→bg s l i o=(s,false):=fun h=>by rw[bg,h]; rfl
 refine sR ?_;iterate 2 refine rN ?_
 refine rC<|nQ<|aS ?_;refine aA (by kernel_rfl) ?_;refine dC [1] [] ?_;refine dC [2] [] ?_;refine dQ [12,13] [] (ao aa rfl rfl rfl rfl rfl (by omega) ho2) ?_;refine dC [14] [] ?_;refine dQ [15] [] iL ?_;refine dC [3] [] ?_;refine dQ [17] [64] iB ?_;refine dC [16,18] [] ?_;refine dC [19] [] ?_
 cases h1:decide (o.era=s.era) with
 | false =>
  rw[no (by rw[takB,h1]; rfl)]
  refine ae [20,1] rfl rfl rfl rfl ?_;refine ae [20,2] rfl rfl rfl rfl ?_;refine ae [20,21,22] rfl rfl rfl rfl ?_;refine ae [20,23] rfl rfl rfl rfl ?_;refine ae [20,3] rfl rfl rfl rfl ?_;refine ae [20,25] rfl rfl rfl rfl ?_;refine ae [20,26] rfl rfl rfl rfl ?_;refine ae [20,24,27] rfl rfl rfl rfl ?_;refine ae [20,28] rfl rfl rfl rfl ?_;refine dQ [20,29] [] iU ?_;refine dC [30] [] ?_;refine ae [31,3] rfl rfl rfl rfl ?_;refine ae [31,32] rfl rfl rfl rfl ?_;refine ae [31,2] rfl rfl rfl rfl ?_;refine ae [31,33,34] rfl rfl rfl rfl ?_;refine ae [31,35] rfl rfl rfl rfl ?_;refine dQ [31,36] [] iU ?_;refine am (by kernel_rfl)<|aG ?_;refine wV<|sR ?_;refine rQ iM ?_;refine rW ?_;refine rC<|zT<|bA ?_
  exact⟨trivial,_,rfl,[],lf⟩
 | true =>
 cases h2:mayB o s.arr.length with
 | false =>
  rw[no (by rw[takB,h1,h2]; rfl)]
  rw[h2]at hma
  refine ab [20,1] [] rfl rfl rfl rfl (an aa (fun K hk=>hk)) ?_;refine ab [20,2] [] rfl rfl rfl rfl (an aa (fun K hk=>hk)) ?_;refine ab [20,21,22] [] rfl rfl rfl rfl (ao aa rfl rfl rfl rfl rfl (by omega) ho2) ?_;refine ab [20,23] [] rfl rfl rfl rfl (cI aa rfl rfl) ?_;refine ab [20,3] [] rfl rfl rfl rfl (an aa (fun K hk=>hk)) ?_;refine ab [20,25] [64] rfl rfl rfl rfl (aK aa rfl rfl ⟨_,rfl,rfl⟩ rfl) ?_;refine ab [20,26] [] rfl rfl rfl rfl (jE aa rfl rfl) ?_;refine ab [20,24,27] [] rfl rfl rfl rfl (aq hma rfl rfl (ak (ak ai)) (.inl rfl) (fun _=>rfl)) ?_;refine ab [20,28] [] rfl rfl rfl rfl (an aa (fun K hk=>hk)) ?_;refine dQ [20,29] [] iG ?_;refine dC [30] [] ?_;refine ae [31,3] rfl rfl rfl rfl ?_;refine ae [31,32] rfl rfl rfl rfl ?_;refine ae [31,2] rfl rfl rfl rfl ?_;refine ae [31,33,34] rfl rfl rfl rfl ?_;refine ae [31,35] rfl rfl rfl rfl ?_;refine dQ [31,36] [] iU ?_;refine am (by kernel_rfl)<|aG ?_;refine wV<|sR ?_;refine rQ iM ?_;refine rW ?_;refine rC<|zT<|bA ?_
  exact⟨trivial,_,rfl,[],lf⟩
 | true =>
 rw[h2]at hma
 cases h3:s.taken.any (fun y=>decide (y=(i:Int))) with
 | true =>
  rw[no (by rw[takB,h1,h2,h3]; rfl)]
  rw[h3]at hhi
  refine ab [20,1] [] rfl rfl rfl rfl (an aa (fun K hk=>hk)) ?_;refine ab [20,2] [] rfl rfl rfl rfl (an aa (fun K hk=>hk)) ?_;refine ab [20,21,22] [] rfl rfl rfl rfl (ao aa rfl rfl rfl rfl rfl (by omega) ho2) ?_;refine ab [20,23] [] rfl rfl rfl rfl (cI aa rfl rfl) ?_;refine ab [20,3] [] rfl rfl rfl rfl (an aa (fun K hk=>hk)) ?_;refine ab [20,25] [64] rfl rfl rfl rfl (aK aa rfl rfl ⟨_,rfl,rfl⟩ rfl) ?_;refine ab [20,26] [] rfl rfl rfl rfl (jE aa rfl rfl) ?_;refine ab [20,24,27] [] rfl rfl rfl rfl (aq hma rfl rfl (ak (ak ai)) (.inl rfl) (fun _=>rfl)) ?_;refine ab [20,28] [] rfl rfl rfl rfl (an aa (fun K hk=>hk)) ?_;refine dQ [20,29] [] iG ?_;refine dC [30] [] ?_;refine ab [31,3] [] rfl rfl rfl rfl (an aa (fun K hk=>hk)) ?_;refine ab [31,32] [64] rfl rfl rfl rfl (aK aa rfl rfl ⟨_,rfl,rfl⟩ rfl) ?_;refine ab [31,2] [] rfl rfl rfl rfl (an aa (fun K hk=>hk)) ?_;refine ab [31,33,34] [] rfl rfl rfl rfl (aq hhi rfl rfl (ak (ak ai)) (.inl rfl) (fun _=>rfl)) ?_;refine ab [31,35] [] rfl rfl rfl rfl (an aa (fun K hk=>hk)) ?_;refine dQ [31,36] [] iG ?_;refine am (by kernel_rfl)<|aG ?_;refine wV<|sR ?_;refine rQ iM ?_;refine rW ?_;refine rC<|zT<|bA ?_
  exact⟨trivial,_,rfl,[],lf⟩
 | false =>
 rw[h3]at hhi
 refine ab [20,1] [] rfl rfl rfl rfl (an aa (fun K hk=>hk)) ?_;refine ab [20,2] [] rfl rfl rfl rfl (an aa (fun K hk=>hk)) ?_;refine ab [20,21,22] [] rfl rfl rfl rfl (ao aa rfl rfl rfl rfl rfl (by omega) ho2) ?_;refine ab [20,23] [] rfl rfl rfl rfl (cI aa rfl rfl) ?_;refine ab [20,3] [] rfl rfl rfl rfl (an aa (fun K hk=>hk)) ?_;refine ab [20,25] [64] rfl rfl rfl rfl (aK aa rfl rfl ⟨_,rfl,rfl⟩ rfl) ?_;refine ab [20,26] [] rfl rfl rfl rfl (jE aa rfl rfl) ?_;refine ab [20,24,27] [] rfl rfl rfl rfl (aq hma rfl rfl (ak (ak ai)) (.inl rfl) (fun _=>rfl)) ?_;refine ab [20,28] [] rfl rfl rfl rfl (an aa (fun K hk=>hk)) ?_;refine dQ [20,29] [] iG ?_;refine dC [30] [] ?_;refine ab [31,3] [] rfl rfl rfl rfl (an aa (fun K hk=>hk)) ?_;refine ab [31,32] [64] rfl rfl rfl rfl (aK aa rfl rfl ⟨_,rfl,rfl⟩ rfl) ?_;refine ab [31,2] [] rfl rfl rfl rfl (an aa (fun K hk=>hk)) ?_;refine ab [31,33,34] [] rfl rfl rfl rfl (aq hhi rfl rfl (ak (ak ai)) (.inl rfl) (fun _=>rfl)) ?_;refine ab [31,35] [] rfl rfl rfl rfl (an aa (fun K hk=>hk)) ?_;refine dQ [31,36] [] iG ?_;refine am (by kernel_rfl)<|aG ?_;refine wG<|kS<|qR ?_;refine rC<|zP ?_
 refine wc_inv (fun k:Nat=>⟨[(8,.int .i64 k),(6,.ptr 65 []),(3,.ptr 64 []),(2,.int .i64 i),(1,.d (cD l))],[(64,some (iR s)),(65,some (.box 100 (.d zRS)))],72,Try.f53.ntmps,64⟩) (fun k=>k≤l.length∧hitL s o (l.drop k) k=hitL s o l 0) (fun k=>l.length-k) 0 [(64,some 64),(65,some _)] ⟨Nat.zero_le _,rfl⟩
  (lg zh ⟨zR,zR,trivial⟩) ?_
 rintro k ⟨hk,hd⟩
 refine bM ?_
 by_cases hlt:k<l.length
 ·have d1:decide ((k:Int)<(l.length:Int))=true:=dT (by omega)
  obtain⟨p,hp⟩:∃x,l[k]?=some x:=⟨_,List.getElem?_eq_getElem hlt⟩
  have hp2:l[((k:Int)).toNat]?=some p:=by rw[Int.toNat_natCast]; exact hp
  rw[vg hp]at hd
  have hit:hitB s o k p=true→takB s l i o=false:=fun e=>by
   rw[e,Bool.true_or]at hd
   rw[takB,←hd]; simp
  have hhk:=kD s.taken (k:Int) (by omega)
  have hb1:=j7 o p
  have hb2:=j7 p o
  have hmu:=kC p
  refine qR<|zD ?_;refine rQ iE ?_;refine rC ?_;refine zI<|zQ<|zS ?_;refine rC ?_;refine rQ iB ?_;refine rC ?_;refine rQ (aq hhk rfl rfl (ak (ak ai)) (.inl rfl) (fun _=>rfl)) ?_;refine rC<|nQ<|aS ?_;refine aA (by kernel_rfl) ?_;refine dC [9] [] ?_;refine dC [49] [] ?_;refine dC [50] [] ?_
  cases h4:s.taken.any (fun y=>decide (y=(k:Int))) with
  | true =>
   rw[h4]at hhk
   refine ab [51,1] [] rfl rfl rfl rfl (an aa (fun K hk=>hk)) ?_;refine ab [51,2] [] rfl rfl rfl rfl (an aa (fun K hk=>hk)) ?_;refine ab [51,52,53] [] rfl rfl rfl rfl (ao aa rfl rfl rfl rfl rfl (by omega) ho2) ?_;refine ab [51,54] [] rfl rfl rfl rfl (cI aa rfl rfl) ?_;refine ab [51,1] [] rfl rfl rfl rfl (an aa (fun K hk=>hk)) ?_;refine ab [51,8] [] rfl rfl rfl rfl (an aa (fun K hk=>hk)) ?_;refine ab [51,56,57] [] rfl rfl rfl rfl (ao aa rfl rfl rfl rfl rfl (by omega) hp2) ?_;refine ab [51,58] [] rfl rfl rfl rfl (cI aa rfl rfl) ?_;refine ab [51,55,59] [] rfl rfl rfl rfl (aq hb1 rfl rfl (ak (ak ai)) (.inl rfl) (fun _=>rfl)) ?_;refine ab [51,60] [] rfl rfl rfl rfl (an aa (fun K hk=>hk)) ?_;refine dQ [51,61] [] iU ?_;refine am (by kernel_rfl)<|aG ?_
   cases h5:befB o p with
   | true =>
    rw[h5]at hb1
    rw[no (hit (by rw[hitB,h4,if_pos rfl,h5]))]
    refine wV<|sR ?_;refine rQ iM ?_;refine rW ?_;refine rC<|zT<|bA<|zB<|ci<|zB ?_
    exact⟨trivial,_,rfl,[],lf⟩
   | false =>
    rw[h5]at hb1
    rw[hitB,h4,if_pos rfl,h5,Bool.false_or]at hd
    refine wG<|zQ ?_;refine aA (by kernel_rfl) ?_;refine dC [9] [] ?_;refine dC [64] [] ?_;refine dC [65] [] ?_;refine ae [66,1] rfl rfl rfl rfl ?_;refine ae [66,8] rfl rfl rfl rfl ?_;refine ae [66,67,68] rfl rfl rfl rfl ?_;refine ae [66,69] rfl rfl rfl rfl ?_;refine ae [66,70] rfl rfl rfl rfl ?_;refine ae [66,3] rfl rfl rfl rfl ?_;refine ae [66,72] rfl rfl rfl rfl ?_;refine ae [66,71,73] rfl rfl rfl rfl ?_;refine dQ [66,74] [] iG ?_;refine dC [75] [] ?_;refine ae [76,1] rfl rfl rfl rfl ?_;refine ae [76,8] rfl rfl rfl rfl ?_;refine ae [76,77,78] rfl rfl rfl rfl ?_;refine ae [76,79] rfl rfl rfl rfl ?_;refine ae [76,80] rfl rfl rfl rfl ?_;refine ae [76,81] rfl rfl rfl rfl ?_;refine dQ [76,82] [] iG ?_;refine dC [83] [] ?_;refine ae [84,1] rfl rfl rfl rfl ?_;refine ae [84,8] rfl rfl rfl rfl ?_;refine ae [84,85,86] rfl rfl rfl rfl ?_;refine ae [84,87] rfl rfl rfl rfl ?_;refine ae [84,1] rfl rfl rfl rfl ?_;refine ae [84,2] rfl rfl rfl rfl ?_;refine ae [84,89,90] rfl rfl rfl rfl ?_;refine ae [84,91] rfl rfl rfl rfl ?_;refine ae [84,88,92] rfl rfl rfl rfl ?_;refine ae [84,93] rfl rfl rfl rfl ?_;refine dQ [84,94] [] iG ?_;refine am (by kernel_rfl)<|aG ?_;refine wG<|aN<|ep<|aG<|aj ?_;refine rC ?_;refine rQ iD ?_;refine rC<|aw ?_
    exact aI (k+1) [(64,some 64),(65,some 65)] ⟨hlt,hd⟩ (by omega) (lg zh ⟨zR,zR,trivial⟩)
  | false =>
   rw[h4]at hhk
   refine ae [51,1] rfl rfl rfl rfl ?_;refine ae [51,2] rfl rfl rfl rfl ?_;refine ae [51,52,53] rfl rfl rfl rfl ?_;refine ae [51,54] rfl rfl rfl rfl ?_;refine ae [51,1] rfl rfl rfl rfl ?_;refine ae [51,8] rfl rfl rfl rfl ?_;refine ae [51,56,57] rfl rfl rfl rfl ?_;refine ae [51,58] rfl rfl rfl rfl ?_;refine ae [51,55,59] rfl rfl rfl rfl ?_;refine ae [51,60] rfl rfl rfl rfl ?_;refine dQ [51,61] [] iG ?_;refine am (by kernel_rfl)<|aG ?_;refine wG<|zQ ?_;refine aA (by kernel_rfl) ?_;refine dC [9] [] ?_;refine dC [64] [] ?_;refine dC [65] [] ?_;refine ab [66,1] [] rfl rfl rfl rfl (an aa (fun K hk=>hk)) ?_;refine ab [66,8] [] rfl rfl rfl rfl (an aa (fun K hk=>hk)) ?_;refine ab [66,67,68] [] rfl rfl rfl rfl (ao aa rfl rfl rfl rfl rfl (by omega) hp2) ?_;refine ab [66,69] [] rfl rfl rfl rfl (an aa (fun K hk=>hk)) ?_;refine ab [66,70] [] rfl rfl rfl rfl (cI aa rfl rfl) ?_;refine ab [66,3] [] rfl rfl rfl rfl (an aa (fun K hk=>hk)) ?_;refine ab [66,72] [64] rfl rfl rfl rfl (aK aa rfl rfl ⟨_,rfl,rfl⟩ rfl) ?_;refine ab [66,71,73] [] rfl rfl rfl rfl (an aa (fun K hk=>hk)) ?_;refine dQ [66,74] [] iU ?_;refine dC [75] [] ?_
   cases h5:decide (p.era=s.era) with
   | false =>
    rw[hitB,h4,if_neg (by decide),h5,Bool.false_and,Bool.false_or]at hd
    refine ae [76,1] rfl rfl rfl rfl ?_;refine ae [76,8] rfl rfl rfl rfl ?_;refine ae [76,77,78] rfl rfl rfl rfl ?_;refine ae [76,79] rfl rfl rfl rfl ?_;refine ae [76,80] rfl rfl rfl rfl ?_;refine ae [76,81] rfl rfl rfl rfl ?_;refine dQ [76,82] [] iG ?_;refine dC [83] [] ?_;refine ae [84,1] rfl rfl rfl rfl ?_;refine ae [84,8] rfl rfl rfl rfl ?_;refine ae [84,85,86] rfl rfl rfl rfl ?_;refine ae [84,87] rfl rfl rfl rfl ?_;refine ae [84,1] rfl rfl rfl rfl ?_;refine ae [84,2] rfl rfl rfl rfl ?_;refine ae [84,89,90] rfl rfl rfl rfl ?_;refine ae [84,91] rfl rfl rfl rfl ?_;refine ae [84,88,92] rfl rfl rfl rfl ?_;refine ae [84,93] rfl rfl rfl rfl ?_;refine dQ [84,94] [] iG ?_;refine am (by kernel_rfl)<|aG ?_;refine wG<|aN<|ep<|aG<|aj ?_;refine rC ?_;refine rQ iD ?_;refine rC<|aw ?_
    exact aI (k+1) [(64,some 64),(65,some 65)] ⟨hlt,hd⟩ (by omega) (lg zh ⟨zR,zR,trivial⟩)
   | true =>
   cases h6:bT p with
   | false =>
    rw[h6]at hmu
    rw[hitB,h4,if_neg (by decide),h6,Bool.false_and,Bool.and_false,Bool.false_or]at hd
    refine ab [76,1] [] rfl rfl rfl rfl (an aa (fun K hk=>hk)) ?_;refine ab [76,8] [] rfl rfl rfl rfl (an aa (fun K hk=>hk)) ?_;refine ab [76,77,78] [] rfl rfl rfl rfl (ao aa rfl rfl rfl rfl rfl (by omega) hp2) ?_;refine ab [76,79] [] rfl rfl rfl rfl (cI aa rfl rfl) ?_;refine ab [76,80] [] rfl rfl rfl rfl (aq hmu rfl rfl (ak ai) (.inl rfl) (fun _=>rfl)) ?_;refine ab [76,81] [] rfl rfl rfl rfl (an aa (fun K hk=>hk)) ?_;refine dQ [76,82] [] iU ?_;refine dC [83] [] ?_;refine ae [84,1] rfl rfl rfl rfl ?_;refine ae [84,8] rfl rfl rfl rfl ?_;refine ae [84,85,86] rfl rfl rfl rfl ?_;refine ae [84,87] rfl rfl rfl rfl ?_;refine ae [84,1] rfl rfl rfl rfl ?_;refine ae [84,2] rfl rfl rfl rfl ?_;refine ae [84,89,90] rfl rfl rfl rfl ?_;refine ae [84,91] rfl rfl rfl rfl ?_;refine ae [84,88,92] rfl rfl rfl rfl ?_;refine ae [84,93] rfl rfl rfl rfl ?_;refine dQ [84,94] [] iG ?_;refine am (by kernel_rfl)<|aG ?_;refine wG<|aN<|ep<|aG<|aj ?_;refine rC ?_;refine rQ iD ?_;refine rC<|aw ?_
    exact aI (k+1) [(64,some 64),(65,some 65)] ⟨hlt,hd⟩ (by omega) (lg zh ⟨zR,zR,trivial⟩)
   | true =>
   rw[h6]at hmu
   cases h7:befB p o with
   | false =>
    rw[h7]at hb2
    rw[hitB,h4,if_neg (by decide),h7,Bool.and_false,Bool.and_false,Bool.false_or]at hd
    refine ab [76,1] [] rfl rfl rfl rfl (an aa (fun K hk=>hk)) ?_;refine ab [76,8] [] rfl rfl rfl rfl (an aa (fun K hk=>hk)) ?_;refine ab [76,77,78] [] rfl rfl rfl rfl (ao aa rfl rfl rfl rfl rfl (by omega) hp2) ?_;refine ab [76,79] [] rfl rfl rfl rfl (cI aa rfl rfl) ?_;refine ab [76,80] [] rfl rfl rfl rfl (aq hmu rfl rfl (ak ai) (.inl rfl) (fun _=>rfl)) ?_;refine ab [76,81] [] rfl rfl rfl rfl (an aa (fun K hk=>hk)) ?_;refine dQ [76,82] [] iU ?_;refine dC [83] [] ?_;refine ab [84,1] [] rfl rfl rfl rfl (an aa (fun K hk=>hk)) ?_;refine ab [84,8] [] rfl rfl rfl rfl (an aa (fun K hk=>hk)) ?_;refine ab [84,85,86] [] rfl rfl rfl rfl (ao aa rfl rfl rfl rfl rfl (by omega) hp2) ?_;refine ab [84,87] [] rfl rfl rfl rfl (cI aa rfl rfl) ?_;refine ab [84,1] [] rfl rfl rfl rfl (an aa (fun K hk=>hk)) ?_;refine ab [84,2] [] rfl rfl rfl rfl (an aa (fun K hk=>hk)) ?_;refine ab [84,89,90] [] rfl rfl rfl rfl (ao aa rfl rfl rfl rfl rfl (by omega) ho2) ?_;refine ab [84,91] [] rfl rfl rfl rfl (cI aa rfl rfl) ?_;refine ab [84,88,92] [] rfl rfl rfl rfl (aq hb2 rfl rfl (ak (ak ai)) (.inl rfl) (fun _=>rfl)) ?_;refine ab [84,93] [] rfl rfl rfl rfl (an aa (fun K hk=>hk)) ?_;refine dQ [84,94] [] iU ?_;refine am (by kernel_rfl)<|aG ?_;refine wG<|aN<|zC<|aj ?_;refine rC ?_;refine rQ iD ?_;refine rC<|aw ?_
    exact aI (k+1) [(64,some 64),(65,some 65)] ⟨hlt,hd⟩ (by omega) (lg zh ⟨zR,zR,trivial⟩)
   | true =>
    rw[h7]at hb2
    rw[no (hit (by rw[hitB,h4,if_neg (by decide),h5,h6,h7]; rfl))]
    refine ab [76,1] [] rfl rfl rfl rfl (an aa (fun K hk=>hk)) ?_;refine ab [76,8] [] rfl rfl rfl rfl (an aa (fun K hk=>hk)) ?_;refine ab [76,77,78] [] rfl rfl rfl rfl (ao aa rfl rfl rfl rfl rfl (by omega) hp2) ?_;refine ab [76,79] [] rfl rfl rfl rfl (cI aa rfl rfl) ?_;refine ab [76,80] [] rfl rfl rfl rfl (aq hmu rfl rfl (ak ai) (.inl rfl) (fun _=>rfl)) ?_;refine ab [76,81] [] rfl rfl rfl rfl (an aa (fun K hk=>hk)) ?_;refine dQ [76,82] [] iU ?_;refine dC [83] [] ?_;refine ab [84,1] [] rfl rfl rfl rfl (an aa (fun K hk=>hk)) ?_;refine ab [84,8] [] rfl rfl rfl rfl (an aa (fun K hk=>hk)) ?_;refine ab [84,85,86] [] rfl rfl rfl rfl (ao aa rfl rfl rfl rfl rfl (by omega) hp2) ?_;refine ab [84,87] [] rfl rfl rfl rfl (cI aa rfl rfl) ?_;refine ab [84,1] [] rfl rfl rfl rfl (an aa (fun K hk=>hk)) ?_;refine ab [84,2] [] rfl rfl rfl rfl (an aa (fun K hk=>hk)) ?_;refine ab [84,89,90] [] rfl rfl rfl rfl (ao aa rfl rfl rfl rfl rfl (by omega) ho2) ?_;refine ab [84,91] [] rfl rfl rfl rfl (cI aa rfl rfl) ?_;refine ab [84,88,92] [] rfl rfl rfl rfl (aq hb2 rfl rfl (ak (ak ai)) (.inl rfl) (fun _=>rfl)) ?_;refine ab [84,93] [] rfl rfl rfl rfl (an aa (fun K hk=>hk)) ?_;refine dQ [84,94] [] iU ?_;refine am (by kernel_rfl)<|aG ?_;refine wV<|sR ?_;refine rQ iM ?_;refine rW ?_;refine rC<|zT<|zB<|ci<|zB ?_
    exact⟨trivial,_,rfl,[],lf⟩
 ·have d1:decide ((k:Int)<(l.length:Int))=false:=dF (by omega)
  rw[List.drop_eq_nil_of_le (by omega),hitL]at hd
  have hy:bg s l i o=({ (hapR s o).1 with taken:=da s.taken i },(hapR s o).2):=by rw[bg,takB,h1,h2,h3,←hd]; rfl
  rw[hy]
  have hha:=mU s o (hs.hap (by omega) (by rw[←hs.al]; exact h2)).1
  have hwi:=xU s.taken (i:Int) ht
  generalize hapR s o=r at hha
  obtain⟨u,c⟩:=r
  refine qR<|zD ?_;refine rQ iE ?_;refine rC ?_;refine zG<|zX<|aS ?_;refine aA (by kernel_rfl) ?_;refine dQ [3] [64] iM ?_;refine dC [1] [] ?_;refine dC [2] [] ?_;refine dQ [99,100] [] (ao aa rfl rfl rfl rfl rfl (by omega) ho2) ?_;refine dQ [101] [] iL ?_;refine dQ [98,102] [] (aq hha rfl rfl (ak (ak ai)) (.inl rfl) (fun _=>rfl)) ?_;refine dC [103] [] ?_;iterate 2 refine dC [97] [] ?_
  refine cY [] [] rfl (an aa (fun K hk=>hk)) ?_;refine bu [10,104] [176] (aL aa rfl rfl rfl ⟨_,⟨rfl,rfl,rfl⟩,rfl⟩ rfl) ?_;refine dC [105] [] ?_;refine am (by kernel_rfl)<|aG<|sR ?_;refine rC ?_;refine rQ iB ?_;refine rC ?_;refine rQ (aq hwi rfl rfl (ak (ak ai)) (.inl rfl) (fun _=>rfl)) ?_;refine rC ?_;refine rX<|nR ?_;refine rQ iM ?_;refine rC ?_;refine rW ?_;refine rC<|zT ?_
  exact⟨trivial,_,rfl,[],lf⟩
end Go.Proofs.Ytkehohfgbblokaa
namespace Go.Proofs.Ytkehohfgbblokaa
open Go.Eng Go.Plain
set_option maxHeartbeats 32000000
set_option maxRecDepth 20000
def rAdd (L:List RS) (t:RS):List RS:=if L.any (fun x=>Cb x t) then L else L++[t]
def Cd (s:RS) (l:List HOp) (i:Nat) (o:HOp) (L:List RS):List RS:=if (bg s l i o).2 then rAdd L (bg s l i o).1 else L
def y7 (most:Nat) (l:List HOp) (s:RS):List HOp→Nat→List RS→List RS
 | [],_,L=>L
 | o::r,i,L=>if L.length≤most then y7 most l s r (i+1) (Cd s l i o L) else L
def rCra (l:List HOp) (e:Int) (s:RS) (L:List RS):List RS:=if decide (s.era<e-1)&&bR s l 0 then rAdd L (aY s) else L
def Ce (most:Nat) (l:List HOp) (e:Int) (s:RS) (L:List RS):List RS:=rCra l e s (y7 most l s l 0 L)
def rStG (most:Nat) (l:List HOp) (e:Int):Nat→Nat→List RS→List RS
 | 0,_,L=>L
 | n+1,at_,L=>match L[at_]? with
  | none=>L
  | some s=>if L.length≤most then rStG most l e n (at_+1) (Ce most l e s L) else L
def CE (most:Nat) (l:List HOp) (n:Nat) (e:Int):List RS:=rStG most l e (most+2) 0 [bD n]
structure LOk (n:Nat) (L:List RS):Prop where
 ok:∀(j:Nat) (s:RS),L[j]?=some s→RSOk n s
 tk:∀(j:Nat) (s:RS),L[j]?=some s→s.taken.length≤j
end Go.Proofs.Ytkehohfgbblokaa
namespace Go.Proofs.Ytkehohfgbblokaa
open Go.Eng Go.Plain
set_option maxHeartbeats 32000000
set_option maxRecDepth 20000
abbrev hasB (T:List Int) (i:Int):Bool:=T.any fun y=>decide (y=i)
def tkE (z T:List Int):List UInt8:=z.map fun i=>if hasB T i then 1 else 0
def arE (vs:BMap) (ks:List Int) (A:List (List UInt8)):List UInt8:=ks.flatMap fun k=>dJ (valN vs (pgAt A k))
def encS (p:Prep) (ks:List Int) (s:RS):LSt:=⟨s.era,tkE (zOf p s.era) s.taken,arE p.vs ks s.arr,arE p.vs ks s.dur⟩
theorem q6 {T:List Int} {i:Int}:hasB T i=true↔i∈T:=by
 simp only[hasB,List.any_eq_true,decide_eq_true_eq]
 exact⟨fun⟨x,h1,h2⟩=>h2 ▸ h1,fun h=>⟨i,h,rfl⟩⟩
theorem ga (T:List Int) (i j:Int):hasB (da T i) j=(hasB T j||decide (i=j)):=by
 induction T with
 | nil=>simp[da,hasB]
 | cons a T ih =>
  rw[da]
  split
  ·simp only[hasB,List.any_cons]
   cases decide (i=j) <;> simp
  ·simp only[hasB,List.any_cons]at ih ⊢
   rw[ih,Bool.or_assoc]
section
variable {f g : Int → List UInt8}
theorem xl (hf:∀k,(f k).length=2):∀ks:List Int,(ks.flatMap f).length=2*ks.length
 | []=>rfl
 | k::ks=>by rw[List.flatMap_cons,List.length_append,hf,xl hf ks,List.length_cons]; omega
theorem tV (hf:∀k,(f k).length=2):∀(ks:List Int) (j:Nat),(ks.flatMap f).take (2*j)=(ks.take j).flatMap f
 | ks,0=>by simp
 | [],j+1=>by simp
 | k::ks,j+1=>by
  rw[List.flatMap_cons,List.take_succ_cons,List.flatMap_cons,←tV hf ks j,List.take_append,hf,show 2*(j+1)-2=2*j by omega,List.take_of_length_le (by rw[hf]; omega)]
theorem pT (hf:∀k,(f k).length=2):∀(ks:List Int) (j:Nat),(ks.flatMap f).drop (2*j)=(ks.drop j).flatMap f
 | ks,0=>by simp
 | [],j+1=>by simp
 | k::ks,j+1=>by
  rw[List.flatMap_cons,List.drop_succ_cons,←pT hf ks j,List.drop_append,hf,show 2*(j+1)-2=2*j by omega,List.drop_of_length_le (by rw[hf]; omega),List.nil_append]
theorem xm (hf:∀k,(f k).length=2) (hg:∀k,(g k).length=2):∀ks:List Int,ks.flatMap f=ks.flatMap g→∀k∈ks,f k=g k
 | [],_,_,h=>by cases h
 | a::ks,h,k,hk=>by
  rw[List.flatMap_cons,List.flatMap_cons]at h
  obtain⟨h1,h2⟩:=List.append_inj h (by rw[hf,hg])
  rcases List.mem_cons.1 hk with rfl | hk
  ·exact h1
  ·exact xm hf hg ks h2 k hk
theorem nH:∀ks:List Int,(∀k∈ks,f k=g k)→ks.flatMap f=ks.flatMap g
 | [],_=>rfl
 | a::ks,h=>by rw[List.flatMap_cons,List.flatMap_cons,h a List.mem_cons_self,nH ks fun k hk=>h k (List.mem_cons_of_mem _ hk)]
end
theorem td {a b:Nat} (ha:a<65536) (hb:b<65536) (h:dJ a=dJ b):a=b:=by
 unfold dJ at h
 simp only[List.cons.injEq,and_true]at h
 have h1:=congrArg UInt8.toNat h.1
 have h2:=congrArg UInt8.toNat h.2
 simp only[UInt8.toNat_ofNat']at h1 h2
 omega
theorem lY (p:HOp→Bool):∀(l:List HOp) (i:Nat),(selI p l i).Pairwise (· < ·)∧∀x∈selI p l i,i≤x
 | [],_=>⟨.nil,fun _ h=>by cases h⟩
 | o::l,i=>by
  obtain⟨h1,h2⟩:=lY p l (i+1)
  unfold selI
  split
  ·exact⟨List.pairwise_cons.2 ⟨fun x hx=>by have:=h2 x hx; omega,h1⟩,fun x hx=>by
    rcases List.mem_cons.1 hx with rfl | hx
    ·exact Nat.le_refl _
    ·have:=h2 x hx; omega⟩
  ·exact⟨h1,fun x hx=>by have:=h2 x hx; omega⟩
theorem ux {l:List Nat} (h:l.Pairwise (· < ·)):(zs l).Pairwise (· < ·):=by
 unfold zs
 rw[List.pairwise_map]
 exact h.imp fun h=>by omega
theorem lV (P:Int→Bool) (i:Int):∀z:List Int,z.Pairwise (· < ·)→i∈z→P i=false→da (z.filter P) i=z.filter fun j=>P j||decide (i=j)
 | [],_,h,_=>by cases h
 | a::z,hs,hi,hP=>by
  obtain⟨h1,h2⟩:=List.pairwise_cons.1 hs
  by_cases e:a=i
  ·subst e
   rw[List.filter_cons_of_neg (by rw[hP]; decide),List.filter_cons_of_pos (by simp)]
   have h3:(z.filter fun j=>P j||decide (a=j))=z.filter P:=List.filter_congr fun x hx=>by
    have:=h1 x hx
    rw[dF (by omega),Bool.or_false]
   rw[h3]
   cases h4:z.filter P with
   | nil=>rfl
   | cons b t =>
    have h5:b∈z:=(List.mem_filter.1 (h4 ▸ List.mem_cons_self:b∈z.filter P)).1
    rw[da,if_pos (h1 b h5)]
  ·have hi2:i∈z:=by
    rcases List.mem_cons.1 hi with h | h
    ·exact absurd h.symm e
    ·exact h
   have ih:=lV P i z h2 hi2 hP
   have hai:=h1 i hi2
   by_cases hp:P a=true
   ·rw[List.filter_cons_of_pos hp,List.filter_cons_of_pos (by rw[hp]; rfl),da,if_neg (by omega),ih]
   ·have hp:=Bool.eq_false_iff.2 hp
    rw[List.filter_cons_of_neg (by rw[hp]; decide),List.filter_cons_of_neg (by rw[hp,dF (fun h=>e h.symm)]; decide),ih]
theorem oH {κ ν:Type} [DecidableEq κ] {k:κ} {v:ν}:∀ {m:List (κ×ν)} {q:κ×ν},q∈putA m k v→q∈m∨q.1=k
 | [],q,h=>by simp[putA]at h; exact .inr (by rw[h])
 | (k',v')::m,q,h=>by
  unfold putA at h
  split at h
  ·rename_i e
   rcases List.mem_cons.1 h with rfl | h
   ·exact .inr e.symm
   ·exact .inl (List.mem_cons_of_mem _ h)
  ·rcases List.mem_cons.1 h with rfl | h
   ·exact .inl List.mem_cons_self
   ·rcases oH h with h | h
    ·exact .inl (List.mem_cons_of_mem _ h)
    ·exact .inr h
theorem l7 {l:List HOp} {b:Int}:∀(idx:List Nat) (q:IMap×BMap),(∀i∈idx,(opN l i).op.kind≠3→0≤(opN l i).op.index∧(opN l i).op.index<b)→(∀x∈q.1,0≤x.1∧x.1<b)→∀x∈(cz l idx q).1,0≤x.1∧x.1<b
 | [],_,_,h=>h
 | i::idx,q,hi,h=>by
  refine l7 idx (numP q.1 (opN l i),numV q.2 (opN l i)) (fun j hj=>hi j (List.mem_cons_of_mem _ hj)) fun x hx=>?_
  simp only at hx
  unfold numP at hx
  split at hx
  ·exact h x hx
  ·rename_i h3
   split at hx
   ·exact h x hx
   ·rcases oH hx with hx | hx
    ·exact h x hx
    ·rw[hx]; exact hi i List.mem_cons_self h3
theorem oI (l:List HOp) (b:Int):∀(e:Nat),∀x∈(cX l b e).pl,0≤x.1∧x.1<b
 | 0,x,h=>by cases h
 | e+1,x,h=>by
  refine l7 (l:=l) (mayI l b e) ((cX l b e).pl,(cX l b e).vs) (fun i hi h3=>?_) (oI l b e) x h
  obtain⟨o,ho,_,hm⟩:=de.1 hi
  have:opN l i=o:=by rw[opN,ho]; rfl
  rw[this]at h3 ⊢
  exact (gZ hm).2.2 h3
theorem o5 {κ:Type} {k:κ}:∀(ks:List κ) (i:Nat),k∈ks→∃v,(k,v)∈dH ks i
 | [],_,h=>by cases h
 | a::ks,i,h=>by
  rcases List.mem_cons.1 h with rfl | h
  ·exact⟨_,List.mem_cons_self⟩
  ·obtain⟨v,hv⟩:=o5 ks (i+1) h
   exact⟨v,List.mem_cons_of_mem _ hv⟩
end Go.Proofs.Ytkehohfgbblokaa
namespace Go.Proofs.Ytkehohfgbblokaa
open Go.Eng Go.Plain
set_option maxHeartbeats 32000000
set_option maxRecDepth 20000
theorem jz (h:List HEv):∀(n i:Nat) (out:List HOp) (era:Int),0≤era→(∀o∈out,0≤o.era∧o.era≤era)→∀o∈fj h n i out era,0≤o.era∧o.era≤era+n
 | 0,_,out,era,h0,ho,o,hm=>by
  rw[fj]at hm
  have:=ho o hm
  omega
 | n+1,i,out,era,h0,ho,o,hm=>by
  rw[fj]at hm
  split at hm
  ·have:=ho o hm; omega
  ·rename_i x _
   split at hm
   ·have:=jz h n (i+1) out (era+1) (by omega) (fun y hy=>by have:=ho y hy; omega) o hm
    omega
   ·split at hm
    ·have:=jz h n (i+1) (out++[mkOp h i x out era]) era h0 (fun y hy=>by
      rcases List.mem_append.1 hy with hy | hy
      ·exact ho y hy
      ·rw[List.mem_singleton.1 hy]
       have:(mkOp h i x out era).era=era:=by
        unfold mkOp fc dx
        split <;> rfl
       omega) o hm
     omega
    ·have:=jz h n (i+1) out era h0 ho o hm
     omega
theorem wI (h:List HEv):∀o∈opsR h,0≤o.era∧o.era≤h.length:=by
 intro o ho
 have:=jz h h.length 0 [] 0 (Int.le_refl _) (fun _ hy=>by cases hy) o ho
 omega
structure ARel (n:Nat) (l:List HOp) (tk:List Bool) (ah:List HOp) (a d:VMap) (pre:List Int) (s:RS):Prop where
 tkl:tk.length=l.length
 tki:∀j,j<l.length→tk[j]?=some (pre.any fun y=>decide (y=(j:Int)))
 any:∀o,ah.any (befB o)=pre.any (befA l o)
 late:∀o,fR ah o=decide (s.era<o.era)
 ord:∀o:HOp,0≤o.era→ah.any (befB o)=false→s.era≤o.era
 av:∀j:Int,0≤j→j<n→getV a j=pgAt s.arr j
 dv:∀j:Int,0≤j→j<n→getV d j=pgAt s.dur j
 ok:RSOk n s
theorem jf (n:Nat) (j:Int):pgAt (List.replicate n zBk) j=zBk:=by
 unfold pgAt
 rw[List.getElem?_replicate]
 split <;> rfl
theorem ARel.first (n:Nat) (l:List HOp):ARel n l (List.replicate l.length false) [] [] [] [] (bD n):=
 ⟨List.length_replicate,fun j hj=>by rw[List.getElem?_replicate,if_pos hj]; rfl,fun _=>rfl,fun _=>rfl,fun o h0 _=>h0,fun j _ _=>(jf n j).symm,fun j _ _=>(jf n j).symm,.first n⟩
theorem rq {n:Nat} {l:List HOp} {tk:List Bool} {ah:List HOp} {a d:VMap} {pre:List Int} {s:RS} (R:ARel n l tk ah a d pre s) (o:HOp) :
  (∀j:Int,0≤j→j<n→getV (if fR ah o=true then d else a) j=pgAt (bh o.era s).arr j)∧(∀j:Int,0≤j→j<n→getV d j=pgAt (bh o.era s).dur j):=by
 rw[R.late,bh]
 by_cases h:s.era<o.era
 ·rw[if_pos (dT h),if_pos h]
  exact⟨R.dv,R.dv⟩
 ·rw[if_neg (by rw[dF h]; decide),if_neg h]
  exact⟨R.av,R.dv⟩
theorem yz {n:Nat} {a d:VMap} {s:RS} {o:HOp} (ha:∀j:Int,0≤j→j<n→getV a j=pgAt s.arr j) (hd:∀j:Int,0≤j→j<n→getV d j=pgAt s.dur j) (hl:s.arr.length=n) (hm:mayB o n=true) :
  (hapV a d o).1=(hapR s o).2∧(∀j:Int,0≤j→j<n→getV (hapV a d o).2.1 j=pgAt (hapR s o).1.arr j)∧(∀j:Int,0≤j→j<n→getV (hapV a d o).2.2 j=pgAt (hapR s o).1.dur j)∧(hapR s o).1.era=s.era:=by
 obtain⟨m1,m2,m3⟩:=tH hm
 unfold hapV hapR
 by_cases k1:o.op.kind=1
 ·rw[if_pos k1,if_pos k1]
  obtain⟨i0,i1⟩:=m2 (.inl k1)
  exact⟨by simp only; rw[ha _ i0 i1],ha,hd,rfl⟩
 ·rw[if_neg k1,if_neg k1]
  by_cases k2:o.op.kind=2
  ·rw[if_pos k2,if_pos k2]
   obtain⟨i0,i1⟩:=m2 (.inr k2)
   refine⟨rfl,fun j j0 j1=>?_,hd,rfl⟩
   simp only
   rw[xj,pgAt]
   by_cases e:j=o.op.index
   ·subst e
    rw[if_pos rfl,List.getElem?_set_self (by omega)]
    rfl
   ·rw[if_neg e,List.getElem?_set_ne (by omega)]
    exact ha j j0 j1
  ·rw[if_neg k2,if_neg k2]
   exact⟨rfl,ha,ha,rfl⟩
theorem ARel.step {n:Nat} {l:List HOp} {tk:List Bool} {ah:List HOp} {a d:VMap} {pre:List Int} {s:RS} (R:ARel n l tk ah a d pre s) {i:Int} {o:HOp} (hE:0≤o.era) (hE1:o.era≤1000000) (hn:n≤1048576) (h0:0≤i) (ho:l[i.toNat]?=some o) (hm:mayB o n=true) (hb:pre.any (befA l o)=false) :
  (hapV (if fR ah o=true then d else a) d o).1=(hapR (bh o.era s) o).2∧ARel n l (tk.set i.toNat true) (ah++[o]) (hapV (if fR ah o=true then d else a) d o).2.1 (hapV (if fR ah o=true then d else a) d o).2.2 (pre++[i]) (hapR (bh o.era s) o).1:=by
 obtain⟨c1,c2⟩:=rq R o
 have K:=R.ok.to hE1
 obtain⟨e1,e2,e3,e4⟩:=yz c1 c2 K.al hm
 have hlt:=(List.getElem?_eq_some_iff.1 ho).1
 have hso:s.era≤o.era:=R.ord o hE (by rw[R.any]; exact hb)
 have hse:(hapR (bh o.era s) o).1.era=o.era:=by
  rw[e4,bh]
  by_cases h:s.era<o.era
  ·rw[if_pos h]
  ·rw[if_neg h]; omega
 refine⟨e1,⟨by rw[List.length_set]; exact R.tkl,fun j hj=>?_,fun x=>?_,fun x=>?_,fun x x0 hx=>?_,e2,e3,(K.hap hn hm).2⟩⟩
 ·rw[List.any_append,List.any_cons,List.any_nil,Bool.or_false]
  by_cases e:j=i.toNat
  ·subst e
   have:decide (i=((i.toNat:Nat):Int))=true:=dT (by omega)
   rw[List.getElem?_set_self (by rw[R.tkl]; exact hlt),this,Bool.or_true]
  ·have:decide (i=(j:Int))=false:=dF (by omega)
   rw[List.getElem?_set_ne (fun x=>e x.symm),R.tki j hj,this,Bool.or_false]
 ·rw[List.any_append,List.any_append,R.any x]
  congr 1
  simp only[List.any_cons,List.any_nil,befA,ho]
 ·rw[hse,fR,List.getLast?_concat]
 ·rw[hse]
  rw[List.any_append,Bool.or_eq_false_iff]at hx
  have h2:=hx.2
  simp only[List.any_cons,List.any_nil,Bool.or_false]at h2
  unfold befB at h2
  split at h2
  ·omega
  ·have:=of_decide_eq_false h2
   omega
theorem uo {n:Nat} {l:List HOp} (hn:n≤1048576) (hE:∀o∈l,0≤o.era∧o.era≤1000000):∀(order:List Int) (tk:List Bool) (ah:List HOp) (a d:VMap) (pre:List Int) (s:RS),ARel n l tk ah a d pre s →
  (accL n l order tk ah a d).1=eL n l order pre s∧((accL n l order tk ah a d).1=0→(accL n l order tk ah a d).2.length=l.length∧∀j,j<l.length→(accL n l order tk ah a d).2[j]?=some ((pre++order).any fun y=>decide (y=(j:Int))))
 | [],tk,ah,a,d,pre,s,R=>by
  rw[accL,eL]
  exact⟨rfl,fun _=>⟨R.tkl,fun j hj=>by rw[List.append_nil]; exact R.tki j hj⟩⟩
 | i::os,tk,ah,a,d,pre,s,R=>by
  rw[accL,eL]
  by_cases h0:i<0
  ·rw[if_pos h0,if_pos h0]
   exact⟨rfl,fun h=>by cases h⟩
  rw[if_neg h0,if_neg h0]
  cases ho:l[i.toNat]? with
  | none=>exact⟨rfl,fun h=>by cases h⟩
  | some o =>
  simp only
  have hlt:=(List.getElem?_eq_some_iff.1 ho).1
  have hii:((i.toNat:Nat):Int)=i:=by omega
  have ht:tk[i.toNat]?=some (pre.any fun y=>decide (y=i)):=by
   have:=R.tki i.toNat hlt
   rw[hii]at this
   exact this
  rw[ht]
  by_cases h1:(pre.any fun y=>decide (y=i))=true
  ·rw[if_pos (by rw[h1]),if_pos h1]
   exact⟨rfl,fun h=>by cases h⟩
  rw[if_neg (fun h=>h1 (Option.some.inj h)),if_neg h1]
  by_cases h2:mayB o n=false
  ·rw[if_pos h2,if_pos h2]
   exact⟨rfl,fun h=>by cases h⟩
  rw[if_neg h2,if_neg h2,R.any o]
  by_cases h3:pre.any (befA l o)=true
  ·rw[if_pos h3,if_pos h3]
   exact⟨rfl,fun h=>by cases h⟩
  rw[if_neg h3,if_neg h3]
  obtain⟨e0,e1⟩:=hE o (List.mem_of_getElem? ho)
  obtain⟨f1,f2⟩:=R.step e0 e1 hn (by omega) ho (by simpa using h2) (by simpa using h3)
  rw[f1]
  by_cases h4:(hapR (bh o.era s) o).2=false
  ·rw[if_pos h4,if_pos h4]
   exact⟨rfl,fun h=>by cases h⟩
  rw[if_neg h4,if_neg h4]
  have:=uo hn hE os _ _ _ _ _ _ f2
  rw[List.append_assoc]at this
  exact this
theorem tG (ord:List Int):∀(l:List HOp) (tk:List Bool) (k:Nat),tk.length=l.length→(∀j,j<l.length→tk[j]?=some (ord.any fun y=>decide (y=((k+j:Nat):Int))))→misB l tk=fi ord l k
 | [],tk,k,_,_=>by rw[qJ,fi]
 | o::l,[],k,h,_=>by cases h
 | o::l,t::tk,k,h,hj=>by
  have h0:=hj 0 (Nat.zero_lt_succ _)
  rw[List.getElem?_cons_zero,Nat.add_zero]at h0
  rw[misB,fi,Option.some.inj h0,tG ord l tk (k+1) (by simpa using h) (fun j hl=>by
   have:=hj (j+1) (Nat.succ_lt_succ hl)
   rw[List.getElem?_cons_succ,show k+(j+1)=k+1+j by omega]at this
   exact this)]
theorem rR {n:Nat} {l:List HOp} (hn:n≤1048576) (hE:∀o∈l,0≤o.era∧o.era≤1000000) (order:List Int):_root_.Go.Proofs.Ytkehohfgbblokaa.accS n l order=fH n n l order:=by
 obtain⟨h1,h2⟩:=uo hn hE order _ _ _ _ _ _ (ARel.first n l)
 unfold _root_.Go.Proofs.Ytkehohfgbblokaa.accS fH
 rw[←h1]
 by_cases h:(accL n l order (List.replicate l.length false) [] [] []).1=0
 ·rw[if_pos h,if_pos h]
  obtain⟨e1,e2⟩:=h2 h
  rw[tG order l _ 0 e1 (fun j hj=>by rw[Nat.zero_add]; exact e2 j hj)]
 ·rw[if_neg h,if_neg h]
end Go.Proofs.Ytkehohfgbblokaa
namespace Go.Proofs.Ytkehohfgbblokaa
open Go.Eng Go.Plain
set_option maxHeartbeats 32000000
set_option maxRecDepth 20000
structure Sc (l:List HOp) (n e:Nat) (p:Prep) (ks:List Int) (kv:List (List UInt8)):Prop where
 F:gn l n e p ks kv
 ll:l.length≤8192
 nl:n≤1000000
 el:e≤8200
 kr:∀k∈ks,0≤k∧k<n
section
variable {l : List HOp} {n e : Nat} {p : Prep} {ks : List Int} {kv : List (List UInt8)}
theorem Sc.of (F:gn l n e (cX l n e) ks kv) (hl:l.length≤8192) (hn:n≤1000000) (he:e≤8200):Sc l n e (cX l n e) ks kv :=
 ⟨F,hl,hn,he,fun k hk=>by
  obtain⟨v,hv⟩:=o5 ks 0 hk
  rw[←F.pl]at hv
  exact oI l n e _ hv⟩
theorem Sc.kvl (S:Sc l n e p ks kv):kv.length≤8193:=by have:=S.F.vl; have:=mL l (n:Int) e; have:=S.ll; omega
theorem Sc.val (S:Sc l n e p ks kv) {v:List UInt8} (h:v∈kv):∃j,kv[j]?=some v∧valN p.vs v=j∧j<8193:=by
 obtain⟨j,h1,_,h2⟩:=eU kv 0 h
 have hj:=(List.getElem?_eq_some_iff.1 h1).1
 have:=S.kvl
 refine⟨j,h1,?_,by omega⟩
 rw[valN,S.F.vs,h2,Option.getD_some]
 omega
theorem Sc.val_inj (S:Sc l n e p ks kv) {v w:List UInt8} (h1:v∈kv) (h2:w∈kv) (h:dJ (valN p.vs v)=dJ (valN p.vs w)):v=w:=by
 obtain⟨i,a1,a2,a3⟩:=S.val h1
 obtain⟨j,b1,b2,b3⟩:=S.val h2
 rw[a2,b2]at h
 have:=td (by omega) (by omega) h
 subst this
 exact Option.some.inj (a1.symm.trans b1)
theorem Sc.z (S:Sc l n e p ks kv) {k:Int} (h0:0≤k) (h1:k<e):zOf p k=zs (mayI l n k.toNat):=by
 rw[zOf,S.F.opk _ (by omega)]; rfl
theorem Sc.zin (S:Sc l n e p ks kv) {k:Int} (h0:0≤k) (h1:k<e) {i:Int}:i∈zOf p k ↔ ∃(j:Nat) (o:HOp),i=j∧l[j]?=some o∧o.era=k∧mayB o n=true:=by
 rw[S.z h0 h1,zs,List.mem_map]
 constructor
 ·rintro⟨j,hj,rfl⟩
  obtain⟨o,a,b,c⟩:=de.1 hj
  exact⟨j,o,rfl,a,by omega,c⟩
 ·rintro⟨j,o,rfl,a,b,c⟩
  exact⟨j,de.2 ⟨o,a,by omega,c⟩,rfl⟩
theorem Sc.zsorted (S:Sc l n e p ks kv) {k:Int} (h0:0≤k) (h1:k<e):(zOf p k).Pairwise (· < ·):=by
 rw[S.z h0 h1]; exact ux (lY _ l 0).1
structure AG (n:Nat) (ks:List Int) (kv:List (List UInt8)) (A:List (List UInt8)):Prop where
 al:A.length=n
 av:∀k∈ks,pgAt A k∈kv
 az:∀k:Int,0≤k→k ∉ ks→pgAt A k=zBk
theorem Sc.zk (S:Sc l n e p ks kv):zBk∈kv:=List.mem_of_getElem? S.F.vz
theorem Sc.agz (S:Sc l n e p ks kv):AG n ks kv (List.replicate n zBk):=
 ⟨List.length_replicate,fun k _=>by rw[jf]; exact S.zk,fun k _ _=>jf n k⟩
theorem pJ {A:List (List UInt8)} {i k:Int} {v:List UInt8} (hi:0≤i) (hl:i<A.length) (hk:0≤k):pgAt (A.set i.toNat v) k=if k=i then v else pgAt A k:=by
 unfold pgAt
 by_cases h:k=i
 ·subst h
  rw[if_pos rfl,List.getElem?_set_self (by omega)]; rfl
 ·rw[if_neg h,List.getElem?_set_ne (by omega)]
theorem Sc.agset (S:Sc l n e p ks kv) {A:List (List UInt8)} (h:AG n ks kv A) {i:Int} {v:List UInt8} (hi:i∈ks) (hv:v∈kv):AG n ks kv (A.set i.toNat v):=by
 obtain⟨i0,i1⟩:=S.kr i hi
 have hl:i<A.length:=by rw[h.al]; exact i1
 refine⟨by rw[List.length_set]; exact h.al,fun k hk=>?_,fun k h0 hk=>?_⟩
 ·rw[pJ i0 hl (S.kr k hk).1]
  split
  ·exact hv
  ·exact h.av k hk
 ·rw[pJ i0 hl h0,if_neg (fun h2:k=i=>hk (h2 ▸ hi))]
  exact h.az k h0 hk
theorem pk (vs:BMap) (A:List (List UInt8)) (k:Int):(dJ (valN vs (pgAt A k))).length=2:=rfl
theorem un (vs:BMap) (ks:List Int) (A:List (List UInt8)):(arE vs ks A).length=2*ks.length:=xl (pk vs A) ks
theorem Sc.arE_inj (S:Sc l n e p ks kv) {A B:List (List UInt8)} (hA:AG n ks kv A) (hB:AG n ks kv B) (h:arE p.vs ks A=arE p.vs ks B):A=B:=by
 have key:∀k:Int,0≤k→pgAt A k=pgAt B k:=fun k h0=>by
  by_cases hk:k∈ks
  ·exact S.val_inj (hA.av k hk) (hB.av k hk) (xm (pk p.vs A) (pk p.vs B) ks h k hk)
  ·rw[hA.az k h0 hk,hB.az k h0 hk]
 apply List.ext_getElem?
 intro j
 by_cases hj:j<n
 ·have:=key j (by omega)
  unfold pgAt at this
  rw[Int.toNat_natCast,List.getElem?_eq_getElem (by rw[hA.al]; exact hj),List.getElem?_eq_getElem (by rw[hB.al]; exact hj)]at this
  rw[List.getElem?_eq_getElem (by rw[hA.al]; exact hj),List.getElem?_eq_getElem (by rw[hB.al]; exact hj)]
  exact congrArg some this
 ·rw[List.getElem?_eq_none (by rw[hA.al]; omega),List.getElem?_eq_none (by rw[hB.al]; omega)]
structure RG (l:List HOp) (n e:Nat) (p:Prep) (ks:List Int) (kv:List (List UInt8)) (s:RS):Prop where
 ok:RSOk n s
 era:s.era<e
 tk:s.taken=(zOf p s.era).filter (hasB s.taken)
 ar:AG n ks kv s.arr
 du:AG n ks kv s.dur
theorem RG.tz {s:RS} (h:RG l n e p ks kv s) {i:Int} (hi:hasB s.taken i=true):i∈zOf p s.era:=by
 have:=q6.1 hi
 rw[h.tk]at this
 exact (List.mem_filter.1 this).1
theorem Sc.first (S:Sc l n e p ks kv) (he:0<e):RG l n e p ks kv (bD n):=
 ⟨.first n,by show (0:Int)<e; omega,by show[]=List.filter _ _; rw[List.filter_eq_nil_iff.2 (fun _ _=>by simp[bD])],S.agz,S.agz⟩
theorem RG.crash {s:RS} (h:RG l n e p ks kv s) (he:s.era+1<e) (h8:e≤8200):RG l n e p ks kv (aY s):=
 ⟨h.ok.crash (by omega),he,by show[]=List.filter _ _; rw[List.filter_eq_nil_iff.2 (fun _ _=>by simp[aY])],h.du,h.du⟩
theorem xW {z T U:List Int} (h:tkE z T=tkE z U):∀i∈z,hasB T i=hasB U i:=by
 intro i hi
 have:=List.map_inj_left.1 h i hi
 cases h1:hasB T i <;> cases h2:hasB U i <;> simp[h1,h2]at this <;> rfl
theorem Sc.enc_inj (S:Sc l n e p ks kv) {s t:RS} (hs:RG l n e p ks kv s) (ht:RG l n e p ks kv t) (h:encS p ks s=encS p ks t):s=t:=by
 have h1:=congrArg LSt.era h
 have h2:=congrArg LSt.taken h
 have h3:=S.arE_inj hs.ar ht.ar (congrArg LSt.array h)
 have h4:=S.arE_inj hs.du ht.du (congrArg LSt.durable h)
 simp only[encS]at h1 h2
 have h5:s.taken=t.taken:=by
  rw[hs.tk,ht.tk,←h1]
  rw[←h1]at h2
  exact List.filter_congr (xW h2)
 cases s; cases t
 simp only at h1 h3 h4 h5
 rw[h1,h3,h4,h5]
theorem tj (z:List Int):tkE z []=cJ z.length:=by
 unfold tkE cJ
 induction z with
 | nil=>rfl
 | cons a z ih=>rw[List.map_cons,ih,List.length_cons,List.replicate_succ]; rfl
theorem o7 (s:RS):encS p ks (aY s)=⟨s.era+1,cJ (zOf p (s.era+1)).length,(encS p ks s).durable,(encS p ks s).durable⟩:=by
 unfold encS aY
 simp only[tj]
theorem Sc.enc_first (S:Sc l n e p ks kv):encS p ks (bD n)=dG p:=by
 obtain⟨j,h1,h2,_⟩:=S.val S.zk
 have hj:j=0:=by
  have h3:=S.F.vz
  exact (List.getElem?_inj (List.getElem?_eq_some_iff.1 h1).1 S.F.vnd).1 (h1.trans h3.symm)
 subst hj
 have ha:arE p.vs ks (List.replicate n zBk)=cJ (2*p.pl.length):=by
  rw[S.F.pl,eZ]
  have:∀ks:List Int,arE p.vs ks (List.replicate n zBk)=cJ (2*ks.length):=by
   intro ks
   induction ks with
   | nil=>rfl
   | cons a ks ih =>
    unfold arE at ih ⊢
    rw[List.flatMap_cons,ih,jf,h2,List.length_cons,show 2*(ks.length+1)=2+2*ks.length by omega]
    unfold cJ
    rw[←List.replicate_append_replicate]; rfl
  exact this ks
 unfold encS dG
 simp only[bD,ha,tj]
theorem Sc.place (S:Sc l n e p ks kv) {i:Int} (h:i∈ks):∃j,ks[j]?=some i∧plN p.pl i=j:=by
 obtain⟨j,h1,_,h2⟩:=eU ks 0 h
 refine⟨j,h1,?_⟩
 rw[plN,S.F.pl,h2,Option.getD_some]
 omega
theorem Sc.ar_get (S:Sc l n e p ks kv) {i:Int} (h:i∈ks) (A:List (List UInt8)):((arE p.vs ks A).drop (2*plN p.pl i)).take 2=dJ (valN p.vs (pgAt A i)):=by
 obtain⟨j,h1,h2⟩:=S.place h
 have hlt:=(List.getElem?_eq_some_iff.1 h1).1
 rw[h2,arE,pT (pk p.vs A),List.drop_eq_getElem_cons hlt,(List.getElem?_eq_some_iff.1 h1).2,List.flatMap_cons]
 exact List.take_left' rfl
theorem Sc.ar_set (S:Sc l n e p ks kv) {i:Int} (h:i∈ks) {A:List (List UInt8)} (hl:A.length=n) (v:List UInt8) :
  (arE p.vs ks A).take (2*plN p.pl i)++dJ (valN p.vs v)++(arE p.vs ks A).drop (2*plN p.pl i+2)=arE p.vs ks (A.set i.toNat v):=by
 obtain⟨j,h1,h2⟩:=S.place h
 obtain⟨i0,i1⟩:=S.kr i h
 have hlt:=(List.getElem?_eq_some_iff.1 h1).1
 have hn:=S.F.knd
 have hks:ks=ks.take j++i::ks.drop (j+1):=by
  have:=List.take_append_drop j ks
  rw[List.drop_eq_getElem_cons hlt,(List.getElem?_eq_some_iff.1 h1).2]at this
  exact this.symm
 have hni:i ∉ ks.take j∧i ∉ ks.drop (j+1):=by
  rw[hks,List.nodup_append,List.nodup_cons]at hn
  exact⟨fun h=>hn.2.2 i h i List.mem_cons_self rfl,hn.2.1.1⟩
 have hst:∀k:Int,0≤k→pgAt (A.set i.toNat v) k=if k=i then v else pgAt A k:=fun k hk=>pJ i0 (by rw[hl]; exact i1) hk
 have hmem:∀k,(k∈ks.take j∨k∈ks.drop (j+1))→0≤k∧k≠i:=fun k hk=>by
  rcases hk with hk | hk
  ·exact⟨(S.kr k (List.mem_of_mem_take hk)).1,fun e=>hni.1 (e ▸ hk)⟩
  ·exact⟨(S.kr k (List.mem_of_mem_drop hk)).1,fun e=>hni.2 (e ▸ hk)⟩
 unfold arE
 rw[h2,show 2*j+2=2*(j+1) by omega,tV (pk p.vs A),pT (pk p.vs A)]
 conv=>rhs; rw[hks]
 rw[List.flatMap_append,List.flatMap_cons,hst i i0,if_pos rfl,List.append_assoc]
 congr 1
 ·exact nH _ fun k hk=>by
   obtain⟨a,b⟩:=hmem k (.inl hk)
   rw[hst k a,if_neg b]
 ·congr 1
  exact nH _ fun k hk=>by
   obtain⟨a,b⟩:=hmem k (.inr hk)
   rw[hst k a,if_neg b]
theorem Sc.hap (S:Sc l n e p ks kv) {s:RS} (h:RG l n e p ks kv s) {o:HOp} (hm:mayB o n=true) (hk:o.op.kind≠3→o.op.index∈ks∧numB o∈kv) :
  (hapS p (encS p ks s) o).2=(hapR s o).2∧(hapS p (encS p ks s) o).1=⟨s.era,tkE (zOf p s.era) s.taken,arE p.vs ks (hapR s o).1.arr,arE p.vs ks (hapR s o).1.dur⟩∧AG n ks kv (hapR s o).1.arr∧AG n ks kv (hapR s o).1.dur∧(hapR s o).1.era=s.era:=by
 have hkd:=(gZ hm).1
 unfold hapS hapR
 by_cases h3:o.op.kind=3
 ·rw[if_pos h3,if_neg (by omega),if_neg (by omega)]
  exact⟨rfl,rfl,h.ar,h.ar,rfl⟩
 obtain⟨k1,k2⟩:=hk h3
 rw[if_neg h3]
 by_cases h2:o.op.kind=2
 ·rw[if_pos h2,if_neg (by omega),if_pos h2]
  rw[numB,if_pos h2]at k2
  refine⟨rfl,?_,S.agset h.ar k1 k2,h.du,rfl⟩
  simp only[encS]
  rw[S.ar_set k1 h.ar.al]
 ·have h1:o.op.kind=1:=by omega
  rw[if_neg h2,if_pos h1]
  rw[numB,if_neg h2]at k2
  cases hmu:bT o with
  | false =>
   rw[if_neg (by decide)]
   exact⟨rfl,rfl,h.ar,h.du,rfl⟩
  | true =>
   rw[if_pos rfl]
   refine⟨?_,rfl,h.ar,h.du,rfl⟩
   have hg:=S.ar_get k1 s.arr
   rw[Bool.not_true,Bool.false_or]
   by_cases he:pgAt s.arr o.op.index=o.value
   ·rw[dT he]
    exact dT (show ((arE p.vs ks s.arr).drop (2*plN p.pl o.op.index)).take 2=_ by rw[hg,he])
   ·rw[dF he]
    exact dF fun h':((arE p.vs ks s.arr).drop (2*plN p.pl o.op.index)).take 2=_=>he (S.val_inj (h.ar.av _ k1) k2 (hg ▸ h'))
end
end Go.Proofs.Ytkehohfgbblokaa
namespace Go.Proofs.Ytkehohfgbblokaa
open Go.Eng Go.Plain
set_option maxHeartbeats 32000000
set_option maxRecDepth 20000
section
variable {l : List HOp} {n e : Nat} {p : Prep} {ks : List Int} {kv : List (List UInt8)}
theorem sk {z T:List Int} {k:Nat} {i:Int} (h:z[k]?=some i):tkB (tkE z T) (k:Int)=hasB T i∧msB (tkE z T) (k:Int) = !hasB T i:=by
 have h1:(tkE z T)[k]?=some (if hasB T i then 1 else 0):=by rw[tkE,List.getElem?_map,h]; rfl
 unfold tkB msB
 rw[Int.toNat_natCast,h1,Option.getD_some]
 cases hasB T i <;> exact⟨rfl,rfl⟩
theorem nC {s:RS} {o:HOp}:∀(l:List HOp) (k:Nat),hitL s o l k=true ↔ ∃(j:Nat) (q:HOp),l[j]?=some q∧hitB s o (k+j) q=true
 | [],k=>by simp[hitL]
 | a::l,k=>by
  rw[hitL,Bool.or_eq_true,nC l (k+1)]
  constructor
  ·rintro (h | ⟨j,q,h1,h2⟩)
   ·exact⟨0,a,rfl,h⟩
   ·exact⟨j+1,q,by simpa using h1,by rw[show k+(j+1)=k+1+j by omega]; exact h2⟩
  ·rintro⟨j,q,h1,h2⟩
   cases j with
   | zero=>simp at h1; subst h1; exact .inl h2
   | succ j=>exact .inr ⟨j,q,by simpa using h1,by rw[show k+1+j=k+(j+1) by omega]; exact h2⟩
theorem eI {l:List HOp} {i:Nat} {o:HOp} (h:l[i]?=some o):opN l i=o:=by rw[opN,h]; rfl
theorem tA {f:Nat→Bool} {M:List Nat} {z T:List Int} (hz:z=zs M) (g:List UInt8→Int→Bool) (b:Int→Bool) (hg:∀(k:Nat) (i:Int),z[k]?=some i→g (tkE z T) (k:Int)=b i) :
  (posN f M M.length).any (g (tkE z T))=true ↔ ∃m∈M,f m=true∧b (m:Int)=true:=by
 rw[List.any_eq_true]
 constructor
 ·rintro⟨j,h1,h2⟩
  obtain⟨k,rfl,h3,h4⟩:=(je _).1 h1
  have hk:M[k]?=some M[k]:=List.getElem?_eq_getElem h3
  rw[hk,Option.getD_some]at h4
  rw[hg k (M[k]:Nat) (by rw[hz,zs,List.getElem?_map,hk]; rfl)]at h2
  exact⟨_,List.getElem_mem h3,h4,h2⟩
 ·rintro⟨m,hm,h1,h2⟩
  obtain⟨k,hk⟩:=List.mem_iff_getElem?.1 hm
  refine⟨(k:Int),(je _).2 ⟨k,rfl,(List.getElem?_eq_some_iff.1 hk).1,by rw[hk]; exact h1⟩,?_⟩
  rw[hg k (m:Int) (by rw[hz,zs,List.getElem?_map,hk]; rfl)]
  exact h2
theorem Sc.skip (S:Sc l n e p ks kv) {s:RS} (h:RG l n e p ks kv s) {k i:Nat} {o:HOp} (hk:(zOf p s.era)[k]?=some (i:Int)) (ho:l[i]?=some o) (he:o.era=s.era) (hm:mayB o n=true) :
  takB s l i o = !jS p (encS p ks s) k i:=by
 have e0:=h.ok.e0
 have e1:=h.era
 obtain⟨E,hE⟩:∃E:Nat,s.era=E:=⟨s.era.toNat,by omega⟩
 have hz:zOf p s.era=zs (mayI l n E):=by rw[S.z e0 e1]; congr 2; omega
 have hEe:E<e:=by omega
 have hi:i∈mayI l n E:=de.2 ⟨o,ho,by omega,hm⟩
 have hst:=S.F.st E hEe i hi
 have haf:=S.F.af E hEe i hi
 have hah:=S.F.ah E hEe i hi
 have ht:=sk (T:=s.taken) hk
 rw[eI ho]at hst
 have q1:((getA p.af (i:Int)).getD []).any (tkB (tkE (zOf p s.era) s.taken))=true ↔ ∃m∈mayI l n E,afB l i m=true∧hasB s.taken (m:Int)=true:=by
  rw[haf]
  exact tA hz tkB (hasB s.taken) fun k i hk=>(sk hk).1
 have q2:((getA p.ah (i:Int)).getD []).any (msB (tkE (zOf p s.era) s.taken))=true ↔ ∃m∈mayI l n E,ahB l i m=true∧(!hasB s.taken (m:Int))=true:=by
  rw[hah]
  exact tA hz msB (fun i => !hasB s.taken i) fun k i hk=>(sk hk).2
 have hL:hitL s o l 0=((getA p.st (i:Int)).getD false||(((getA p.af (i:Int)).getD []).any (tkB (tkE (zOf p s.era) s.taken))||((getA p.ah (i:Int)).getD []).any (msB (tkE (zOf p s.era) s.taken)))):=by
  rw[Bool.eq_iff_iff,Bool.or_eq_true,Bool.or_eq_true,q1,q2,hst,List.any_eq_true,nC]
  simp only[Nat.zero_add]
  constructor
  ·rintro⟨j,q,h1,h2⟩
   unfold hitB at h2
   cases hj:hasB s.taken (j:Int) with
   | true =>
    rw[if_pos hj]at h2
    have hjz:=h.tz hj
    rw[hz,zs,List.mem_map]at hjz
    obtain⟨j',hj',ej⟩:=hjz
    have:j'=j:=by omega
    subst this
    exact .inr (.inl ⟨j',hj',by rw[afB,eI ho,eI h1]; exact h2,hj⟩)
   | false =>
    rw[if_neg (by have h':(s.taken.any fun y=>decide (y=(j:Int)))=false:=hj; rw[h']; decide),Bool.and_eq_true,Bool.and_eq_true,decide_eq_true_eq]at h2
    obtain⟨h3,h4,h5⟩:=h2
    cases hq:mayB q n with
    | true=>exact .inr (.inr ⟨j,de.2 ⟨q,h1,by omega,hq⟩,by rw[ahB,eI ho,eI h1,h4,h5]; rfl,by rw[hj]; rfl⟩)
    | false=>exact .inl ⟨j,lj.2 ⟨q,h1,by omega,h4,hq⟩,by rw[eI h1]; exact h5⟩
  ·rintro (⟨j,hj,h1⟩ | ⟨j,hj,h1,h2⟩ | ⟨j,hj,h1,h2⟩)
   ·obtain⟨q,a,b,c,d⟩:=lj.1 hj
    refine⟨j,q,a,?_⟩
    rw[eI a]at h1
    have hnt:hasB s.taken (j:Int)=false:=by
     rw[Bool.eq_false_iff]
     intro hj2
     obtain⟨j',q',e1,e2,e3,e4⟩:=(S.zin e0 h.era).1 (h.tz hj2)
     have:j'=j:=by omega
     subst this
     rw[a]at e2; cases e2
     rw[d]at e4; cases e4
    rw[hitB,if_neg (by have h':(s.taken.any fun y=>decide (y=(j:Int)))=false:=hnt; rw[h']; decide),dT (by omega),c,h1]; rfl
   ·obtain⟨q,a,b,c⟩:=de.1 hj
    rw[afB,eI ho,eI a]at h1
    exact⟨j,q,a,by rw[hitB,if_pos h2]; exact h1⟩
   ·obtain⟨q,a,b,c⟩:=de.1 hj
    rw[ahB,eI ho,eI a,Bool.and_eq_true]at h1
    rw[Bool.not_eq_true']at h2
    exact⟨j,q,a,by rw[hitB,if_neg (by have h':(s.taken.any fun y=>decide (y=(j:Int)))=false:=h2; rw[h']; decide),dT (by omega),h1.1,h1.2]; rfl⟩
 rw[takB,dT he,h.ok.al,hm,hL,jS]
 show (true&&(true&&(!hasB s.taken (i:Int)&&_)))=_
 rw[←ht.1]
 simp only[encS]
 cases (getA p.st (i:Int)).getD false <;> cases tkB (tkE (zOf p s.era) s.taken) (k:Int) <;> rfl
theorem xX {z T:List Int} {k:Nat} {i:Int} (hn:z.Nodup) (h:z[k]?=some i):gV (tkE z T) k=tkE z (da T i):=by
 have hlt:=(List.getElem?_eq_some_iff.1 h).1
 have hz:z=z.take k++i::z.drop (k+1):=by
  have:=List.take_append_drop k z
  rw[List.drop_eq_getElem_cons hlt,(List.getElem?_eq_some_iff.1 h).2]at this
  exact this.symm
 have hni:i ∉ z.take k∧i ∉ z.drop (k+1):=by
  rw[hz,List.nodup_append,List.nodup_cons]at hn
  exact⟨fun h=>hn.2.2 i h i List.mem_cons_self rfl,hn.2.1.1⟩
 unfold gV tkE
 rw[←List.map_take,←List.map_drop]
 conv=>rhs; rw[hz]
 rw[List.map_append,List.map_cons,ga,dT rfl,Bool.or_true,if_pos rfl,List.append_assoc]
 have hc:∀m,m≠i→hasB (da T i) m=hasB T m:=fun m hm=>by rw[ga,dF fun e=>hm e.symm,Bool.or_false]
 congr 1
 ·exact List.map_congr_left fun m hm=>by rw[hc m fun e=>hni.1 (e ▸ hm)]
 ·show 1::_=1::_
  congr 1
  exact List.map_congr_left fun m hm=>by rw[hc m fun e=>hni.2 (e ▸ hm)]
theorem Sc.kin (S:Sc l n e p ks kv) {i:Nat} {o:HOp} (h0:0≤o.era) (h1:o.era<e) (ho:l[i]?=some o) (hm:mayB o n=true):o.op.kind≠3→o.op.index∈ks∧numB o∈kv:=by
 have:=S.F.kin o.era.toNat (by omega) i (de.2 ⟨o,ho,by omega,hm⟩)
 rwa [eI ho]at this
theorem Sc.take (S:Sc l n e p ks kv) {s:RS} (h:RG l n e p ks kv s) {k i:Nat} {o:HOp} (hk:(zOf p s.era)[k]?=some (i:Int)) (ho:l[i]?=some o) (he:o.era=s.era) (hm:mayB o n=true) (ht:takB s l i o=true) :
  (bg s l i o).2=(hapS p (encS p ks s) o).2∧encS p ks (bg s l i o).1 = { (hapS p (encS p ks s) o).1 with taken:=gV (encS p ks s).taken k }∧RG l n e p ks kv (bg s l i o).1:=by
 have e0:=h.ok.e0
 have e1:=h.era
 obtain⟨q1,q2,q3,q4,q5⟩:=S.hap h hm (S.kin (by omega) (by omega) ho hm)
 have hs:=S.zsorted e0 e1
 have hnt:hasB s.taken (i:Int)=false:=by
  unfold takB at ht
  simp only[Bool.and_eq_true,Bool.not_eq_true']at ht
  exact ht.2.2.1
 have hap:=(h.ok.hap (by have:=S.nl; omega) hm).2
 rw[bg,if_pos ht]
 refine⟨q1.symm,?_,⟨⟨hap.al,hap.dl,hap.ap,hap.dp,hap.e0,hap.e1⟩,by show (hapR s o).1.era<_; rw[q5]; exact e1,?_,q3,q4⟩⟩
 ·rw[q2]
  simp only[encS,q5]
  rw[xX (hs.imp fun h=>by omega) hk]
 ·show da s.taken i=(zOf p (hapR s o).1.era).filter (hasB (da s.taken i))
  rw[q5]
  have h2:((zOf p s.era).filter (hasB (da s.taken i)))=(zOf p s.era).filter fun j=>hasB s.taken j||decide ((i:Int)=j):=List.filter_congr fun x _=>ga _ _ _
  rw[h2,←lV (hasB s.taken) i _ hs (List.mem_of_getElem? hk) hnt,←h.tk]
theorem Sc.full (S:Sc l n e p ks kv) {s:RS} (h:RG l n e p ks kv s):iW l p.lo (zOf p s.era) (encS p ks s)=bR s l 0:=by
 have e0:=h.ok.e0
 have e1:=h.era
 obtain⟨E,hE⟩:∃E:Nat,s.era=E:=⟨s.era.toNat,by omega⟩
 have hR:∀(l:List HOp) (k:Nat),bR s l k=true ↔ ∀(j:Nat) (q:HOp),l[j]?=some q→q.era=s.era→bT q=true→hasB s.taken ((k+j:Nat):Int)=true:=by
  intro l
  induction l with
  | nil=>intro k; simp[bR]
  | cons a l ih =>
   intro k
   rw[bR,Bool.and_eq_true,ih]
   constructor
   ·rintro⟨h1,h2⟩ j q hj hq hm
    cases j with
    | zero =>
     simp at hj; subst hj
     rw[hm,dT hq]at h1
     simpa using h1
    | succ j=>rw[show k+(j+1)=k+1+j by omega]; exact h2 j q (by simpa using hj) hq hm
   ·intro h1
    refine⟨?_,fun j q hj hq hm=>by rw[show k+1+j=k+(j+1) by omega]; exact h1 (j+1) q (by simpa using hj) hq hm⟩
    cases ha:decide (a.era=s.era) with
    | false=>rfl
    | true =>
     cases hb:bT a with
     | false=>rfl
     | true =>
      have:=h1 0 a rfl (of_decide_eq_true ha) hb
      rw[Nat.add_zero]at this
      have h2:s.taken.any (fun y=>decide (y=(k:Int)))=true:=this
      rw[h2]; rfl
 have hG:∀(z:List Int),jY l z (tkE z s.taken)=true ↔ ∀i∈z,bT (opN l i.toNat)=true→hasB s.taken i=true:=by
  intro z
  induction z with
  | nil=>simp[jY,tkE]
  | cons a z ih =>
   show jY l (a::z) ((if hasB s.taken a then 1 else 0)::tkE z s.taken)=true↔_
   rw[jY]
   cases hb:bT (opN l a.toNat) with
   | false =>
    rw[Bool.false_and,if_neg (by decide),ih]
    simp only[List.mem_cons,forall_eq_or_imp,hb]
    simp
   | true =>
    cases ht:hasB s.taken a with
    | true =>
     have h1:(true&&decide ((((if (true:Bool)=true then 1 else 0:UInt8)).toNat:Int)=0))=false:=rfl
     rw[h1,if_neg (by decide),ih]
     simp only[List.mem_cons,forall_eq_or_imp,ht]
     simp
    | false =>
     have h1:(true&&decide ((((if (false:Bool)=true then 1 else 0:UInt8)).toNat:Int)=0))=true:=rfl
     rw[h1,if_pos rfl]
     simp only[List.mem_cons,forall_eq_or_imp,hb,ht]
     simp
 rw[Bool.eq_iff_iff,hR]
 have hlo:=S.F.lo E
 simp only[Nat.zero_add]
 unfold iW
 have hx:(encS p ks s).era=(E:Int):=hE
 rw[hx,hlo,dT (by omega),Bool.true_and]
 have hb0:(badI l n E).isEmpty=true ↔ ∀(j:Nat) (q:HOp),l[j]?=some q→q.era=s.era→bT q=true→mayB q n=true:=by
  rw[List.isEmpty_iff]
  constructor
  ·intro h0 j q hj hq hm
   cases hq2:mayB q n with
   | true=>rfl
   | false =>
    have:j∈badI l n E:=lj.2 ⟨q,hj,by omega,hm,hq2⟩
    rw[h0]at this; cases this
  ·intro h0
   rw[List.eq_nil_iff_forall_not_mem]
   intro j hj
   obtain⟨q,a,b,c,d⟩:=lj.1 hj
   rw[h0 j q a (by omega) c]at d
   cases d
 constructor
 ·intro h1 j q hj hq hm
  split at h1
  ·cases h1
  ·rename_i h2
   simp only[Bool.not_eq_true',Bool.not_eq_false']at h2
   have h2:(badI l n E).isEmpty=true:=by simpa using h2
   have hmay:=hb0.1 h2 j q hj hq hm
   refine (hG (zOf p s.era)).1 h1 j ((S.zin e0 e1).2 ⟨j,q,rfl,hj,hq,hmay⟩) ?_
   rw[Int.toNat_natCast,eI hj]; exact hm
 ·intro h1
  have h2:(badI l n E).isEmpty=true:=hb0.2 fun j q hj hq hm=>by
   obtain⟨j',q',a,b,c,d⟩:=(S.zin e0 e1).1 (h.tz (h1 j q hj hq hm))
   have:j'=j:=by omega
   subst this
   rw[hj]at b; cases b
   exact d
  rw[h2,if_neg (by decide)]
  refine (hG (zOf p s.era)).2 fun i hi hm=>?_
  obtain⟨j,q,rfl,b,c,d⟩:=(S.zin e0 e1).1 hi
  rw[Int.toNat_natCast,eI b]at hm
  exact h1 j q b c hm
end
end Go.Proofs.Ytkehohfgbblokaa
namespace Go.Proofs.Ytkehohfgbblokaa
open Go.Eng Go.Plain
set_option maxHeartbeats 32000000
set_option maxRecDepth 20000
section
variable {l : List HOp} {n e : Nat} {p : Prep} {ks : List Int} {kv : List (List UInt8)}
theorem Sc.sok (S:Sc l n e p ks kv) {s:RS} (h:RG l n e p ks kv s):SOk p e (encS p ks s):=
 ⟨⟨h.ok.e0,h.era⟩,by simp[encS,tkE],by show (arE _ _ _).length=_; rw[un,S.F.pl,eZ],by show (arE _ _ _).length=_; rw[un,S.F.pl,eZ]⟩
structure Sim (l:List HOp) (n e:Nat) (p:Prep) (ks:List Int) (kv:List (List UInt8)) (L:List RS) (q:QS):Prop where
 map:q.2=L.map (encS p ks)
 ok:QOk p e q
 all:∀s∈L,RG l n e p ks kv s
theorem pv {s:RS} {l:List HOp} {i:Nat} {o:HOp} (h:takB s l i o=false):bg s l i o=(s,false):=by rw[bg,h]; rfl
end
end Go.Proofs.Ytkehohfgbblokaa
namespace Go.Proofs.Ytkehohfgbblokaa
open Go.Eng Go.Plain
set_option maxHeartbeats 32000000
set_option maxRecDepth 20000
def rSt1 (s:RS) (l:List HOp) (i:Nat) (o:HOp):List (Int×RS):=if (bg s l i o).2 then[((i:Int),(bg s l i o).1)] else[]
def rStO (l:List HOp) (s:RS):List HOp→Nat→List (Int×RS)
 | [],_=>[]
 | o::r,i=>rSt1 s l i o++rStO l s r (i+1)
def rStC (l:List HOp) (e:Int) (s:RS):List (Int×RS):=if decide (s.era<e-1)&&bR s l 0 then[(-1,aY s)] else[]
def eF (l:List HOp) (e:Int) (s:RS):List (Int×RS):=rStO l s l 0++rStC l e s
theorem wu {s:RS} {l:List HOp} {i:Nat} {o:HOp} {x:Int×RS}:x∈rSt1 s l i o↔(bg s l i o).2=true∧x=((i:Int),(bg s l i o).1):=by
 unfold rSt1
 split
 ·rename_i h; simp[h]
 ·rename_i h; simp[h]
theorem qu {s:RS} {l:List HOp} {x:Int×RS}:∀(r:List HOp) (i:Nat),l.drop i=r→(x∈rStO l s r i ↔ ∃(j:Nat) (o:HOp),i≤j∧l[j]?=some o∧(bg s l j o).2=true∧x=((j:Int),(bg s l j o).1))
 | [],i,h=>by
  have hl:l.length≤i:=List.drop_eq_nil_iff.1 h
  simp only[rStO,List.not_mem_nil,false_iff]
  rintro⟨j,o,h1,h2,_⟩
  have:=(List.getElem?_eq_some_iff.1 h2).1
  omega
 | o::r,i,h=>by
  have ho:l[i]?=some o:=by
   have:=congrArg (fun x=>x[0]?) h
   simpa using this
  have hr:l.drop (i+1)=r:=by
   have:=congrArg List.tail h
   simpa using this
  rw[rStO,List.mem_append,wu,qu r (i+1) hr]
  constructor
  ·rintro (⟨h1,h2⟩ | ⟨j,o',h1,h2⟩)
   ·exact⟨i,o,Nat.le_refl _,ho,h1,h2⟩
   ·exact⟨j,o',by omega,h2⟩
  ·rintro⟨j,o',h1,h2,h3⟩
   by_cases hj:j=i
   ·subst hj
    rw[ho]at h2; cases h2
    exact .inl h3
   ·exact .inr ⟨j,o',by omega,h2,h3⟩
theorem cw {s:RS} {l:List HOp} {e:Int} {x:Int×RS}:x∈eF l e s↔(∃(j:Nat) (o:HOp),l[j]?=some o∧(bg s l j o).2=true∧x=((j:Int),(bg s l j o).1))∨(s.era<e-1∧bR s l 0=true∧x=(-1,aY s)):=by
 unfold eF rStC
 rw[List.mem_append,qu l 0 (List.drop_zero)]
 constructor
 ·rintro (⟨j,o,_,h⟩ | h)
  ·exact .inl ⟨j,o,h⟩
  ·split at h
   ·rename_i hc
    simp only[Bool.and_eq_true,decide_eq_true_eq]at hc
    exact .inr ⟨hc.1,hc.2,List.mem_singleton.1 h⟩
   ·cases h
 ·rintro (⟨j,o,h⟩ | ⟨h1,h2,h3⟩)
  ·exact .inl ⟨j,o,Nat.zero_le _,h⟩
  ·right
   rw[if_pos (by rw[dT h1,h2]; rfl),h3]
   exact List.mem_singleton.2 rfl
inductive lv (l:List HOp) (n:Nat) (e:Int):RS→Prop
 | first:lv l n e (bD n)
 | step {s:RS} (x:Int×RS):lv l n e s→x∈eF l e s→lv l n e x.2
def StL (p:Prep) (ks:List Int) (st:List LSt):List aM→List (Int×RS)→Prop
 | [],[]=>True
 | y::ys,x::xs=>(y.op=x.1∧0≤y.to∧st[y.to.toNat]?=some (encS p ks x.2))∧StL p ks st ys xs
 | _,_=>False
section
variable {l : List HOp} {n e : Nat} {p : Prep} {ks : List Int} {kv : List (List UInt8)}
theorem StL.ext {a b:List LSt} (h:Ext a b):∀ {ys:List aM} {xs:List (Int×RS)},StL p ks a ys xs→StL p ks b ys xs
 | [],[],_=>trivial
 | y::ys,x::xs,⟨⟨h1,h2,h3⟩,h4⟩=>⟨⟨h1,h2,h _ _ h3⟩,StL.ext h h4⟩
 | [],_::_,h=>h.elim
 | _::_,[],h=>h.elim
theorem StL.app {a:List LSt}:∀ {ys:List aM} {xs:List (Int×RS)} {ys':List aM} {xs':List (Int×RS)},StL p ks a ys xs→StL p ks a ys' xs'→StL p ks a (ys++ys') (xs++xs')
 | [],[],_,_,_,h=>h
 | y::ys,x::xs,_,_,⟨h1,h2⟩,h=>⟨h1,StL.app h2 h⟩
 | [],_::_,_,_,h,_=>h.elim
 | _::_,[],_,_,h,_=>h.elim
theorem StL.mem {a:List LSt}:∀ {ys:List aM} {xs:List (Int×RS)},StL p ks a ys xs→(∀y∈ys,∃x∈xs,y.op=x.1∧0≤y.to∧a[y.to.toNat]?=some (encS p ks x.2))∧(∀x∈xs,∃y∈ys,y.op=x.1∧0≤y.to∧a[y.to.toNat]?=some (encS p ks x.2))
 | [],[],_=>⟨fun _ h=>(by cases h),fun _ h=>(by cases h)⟩
 | y::ys,x::xs,⟨h1,h2⟩=>by
  obtain⟨a1,a2⟩:=StL.mem h2
  refine⟨fun z hz=>?_,fun z hz=>?_⟩
  ·rcases List.mem_cons.1 hz with rfl | hz
   ·exact⟨x,List.mem_cons_self,h1⟩
   ·obtain⟨w,b1,b2⟩:=a1 z hz
    exact⟨w,List.mem_cons_of_mem _ b1,b2⟩
  ·rcases List.mem_cons.1 hz with rfl | hz
   ·exact⟨y,List.mem_cons_self,h1⟩
   ·obtain⟨w,b1,b2⟩:=a2 z hz
    exact⟨w,List.mem_cons_of_mem _ b1,b2⟩
 | [],_::_,h=>h.elim
 | _::_,[],h=>h.elim
def AllE (l:List HOp) (n e:Nat) (p:Prep) (ks:List Int) (kv:List (List UInt8)) (q:QS):Prop:=∀x∈q.2,∃s,RG l n e p ks kv s∧lv l n e s∧encS p ks s=x
theorem nY (S:Sc l n e p ks kv) {q:QS} (Q:QOk p e q) (A:AllE l n e p ks kv q) {t:RS} (ht:RG l n e p ks kv t) (hr:lv l n e t) :
  QOk p e (addS q (encS p ks t)).1∧AllE l n e p ks kv (addS q (encS p ks t)).1∧Ext q.2 (addS q (encS p ks t)).1.2∧0≤(addS q (encS p ks t)).2∧(addS q (encS p ks t)).1.2[(addS q (encS p ks t)).2.toNat]?=some (encS p ks t):=by
 obtain⟨a1,a2,a3,a4⟩:=mC Q (S.sok ht)
 refine⟨a1,fun x hx=>?_,a2,a3,a4⟩
 rcases rL hx with rfl | hx
 ·exact⟨t,ht,hr,rfl⟩
 ·exact A x hx
theorem Sc.ops2 (S:Sc l n e p ks kv) {s:RS} (h:RG l n e p ks kv s) (hR:lv l n e s):∀(r:List HOp) (i k:Nat) (a:QS×List aM),l.drop i=r→(zOf p s.era).drop k=zs (selI (eraB s.era.toNat (fun o=>mayB o n)) r i)→QOk p e a.1→AllE l n e p ks kv a.1 →
  QOk p e (dA p l (encS p ks s) (zs (selI (eraB s.era.toNat (fun o=>mayB o n)) r i)) k a).1∧AllE l n e p ks kv (dA p l (encS p ks s) (zs (selI (eraB s.era.toNat (fun o=>mayB o n)) r i)) k a).1∧Ext a.1.2 (dA p l (encS p ks s) (zs (selI (eraB s.era.toNat (fun o=>mayB o n)) r i)) k a).1.2 ∧
  ∃ys,(dA p l (encS p ks s) (zs (selI (eraB s.era.toNat (fun o=>mayB o n)) r i)) k a).2=a.2++ys∧StL p ks (dA p l (encS p ks s) (zs (selI (eraB s.era.toNat (fun o=>mayB o n)) r i)) k a).1.2 ys (rStO l s r i)
 | [],i,k,a,_,_,Q,A=>⟨Q,A,Ext.refl _,[],(by simp[selI,zs,dA]),trivial⟩
 | o::r,i,k,a,hr,hz,Q,A=>by
  have e0:=h.ok.e0
  have ho:l[i]?=some o:=by
   have:=congrArg (fun x=>x[0]?) hr
   simpa using this
  have hr2:l.drop (i+1)=r:=by
   have:=congrArg List.tail hr
   simpa using this
  cases hP:eraB s.era.toNat (fun o=>mayB o n) o with
  | false =>
   have h1:rSt1 s l i o=[]:=by
    have:takB s l i o=false:=by
     rw[eraB,Bool.and_eq_false_iff]at hP
     unfold takB
     rw[h.ok.al]
     rcases hP with hP | hP
     ·rw[dF (by have:=of_decide_eq_false hP; omega)]; rfl
     ·rw[hP]; simp
    rw[rSt1,pv this]; exact if_neg Bool.false_ne_true
   have hs:selI (eraB s.era.toNat (fun o=>mayB o n)) (o::r) i=selI (eraB s.era.toNat (fun o=>mayB o n)) r (i+1):=by rw[selI,if_neg (by rw[hP]; decide)]
   rw[hs]at hz ⊢
   rw[rStO,h1,List.nil_append]
   exact S.ops2 h hR r (i+1) k a hr2 hz Q A
  | true =>
   have hs:selI (eraB s.era.toNat (fun o=>mayB o n)) (o::r) i=i::selI (eraB s.era.toNat (fun o=>mayB o n)) r (i+1):=by rw[selI,if_pos hP]
   rw[hs]at hz ⊢
   rw[eraB,Bool.and_eq_true,decide_eq_true_eq]at hP
   have he:o.era=s.era:=by omega
   have hk:(zOf p s.era)[k]?=some (i:Int):=by
    have:=congrArg (fun x=>x[0]?) hz
    simpa[zs]using this
   have hz2:(zOf p s.era).drop (k+1)=zs (selI (eraB s.era.toNat (fun o=>mayB o n)) r (i+1)):=by
    have:=congrArg List.tail hz
    simpa[zs]using this
   have hsk:=S.skip h hk ho he hP.2
   have key:QOk p e (opS p l (encS p ks s) k i a).1∧AllE l n e p ks kv (opS p l (encS p ks s) k i a).1∧Ext a.1.2 (opS p l (encS p ks s) k i a).1.2∧∃ys,(opS p l (encS p ks s) k i a).2=a.2++ys∧StL p ks (opS p l (encS p ks s) k i a).1.2 ys (rSt1 s l i o):=by
    unfold opS rSt1
    rw[Int.toNat_natCast,eI ho]
    cases ht:takB s l i o with
    | false =>
     rw[ht]at hsk
     have hsk:jS p (encS p ks s) k i=true:=by simpa using hsk.symm
     rw[if_pos hsk,pv ht]
     exact⟨Q,A,Ext.refl _,[],by simp,trivial⟩
    | true =>
     rw[ht]at hsk
     have hsk:jS p (encS p ks s) k i=false:=by simpa using hsk.symm
     obtain⟨t1,t2,t3⟩:=S.take h hk ho he hP.2 ht
     rw[if_neg (c:=jS p (encS p ks s) k (i:Int)=true) (by rw[hsk]; decide),←t2,←t1]
     cases h2:(bg s l i o).2 with
     | true =>
      obtain⟨b1,b2,b3,b4,b5⟩:=nY S Q A t3 (.step ((i:Int),(bg s l i o).1) hR (cw.2 (.inl ⟨i,o,ho,h2,rfl⟩)))
      exact⟨b1,b2,b3,[_],rfl,⟨⟨rfl,b4,b5⟩,trivial⟩⟩
     | false=>exact⟨Q,A,Ext.refl _,[],(by simp),trivial⟩
   obtain⟨k1,k2,k3,ys,k4,k5⟩:=key
   obtain⟨m1,m2,m3,zs',m4,m5⟩:=S.ops2 h hR r (i+1) (k+1) _ hr2 hz2 k1 k2
   have hn:dA p l (encS p ks s) (zs (i::selI (eraB s.era.toNat (fun o=>mayB o n)) r (i+1))) k a=dA p l (encS p ks s) (zs (selI (eraB s.era.toNat (fun o=>mayB o n)) r (i+1))) (k+1) (opS p l (encS p ks s) k i a):=rfl
   rw[hn]
   refine⟨m1,m2,k3.trans m3,ys++zs',by rw[m4,k4,List.append_assoc],?_⟩
   rw[rStO]
   exact (k5.ext m3).app m5
theorem Sc.next2 (S:Sc l n e p ks kv) {s:RS} (h:RG l n e p ks kv s) (hR:lv l n e s) {q:QS} (Q:QOk p e q) (A:AllE l n e p ks kv q) :
  QOk p e (cF p l e (encS p ks s) q).1∧AllE l n e p ks kv (cF p l e (encS p ks s) q).1∧Ext q.2 (cF p l e (encS p ks s) q).1.2∧StL p ks (cF p l e (encS p ks s) q).1.2 (cF p l e (encS p ks s) q).2 (eF l e s):=by
 have e0:=h.ok.e0
 have hz:zOf p s.era=zs (mayI l n s.era.toNat):=S.z e0 h.era
 have h2:=S.ops2 h hR l 0 0 (q,[]) (by simp) (by rw[List.drop_zero,hz]; rfl) Q A
 have hx:zOf p (encS p ks s).era=zs (selI (eraB s.era.toNat (fun o=>mayB o n)) l 0):=hz
 unfold cF nh eF rStC
 rw[hx,←show zOf p s.era=zs (selI (eraB s.era.toNat (fun o=>mayB o n)) l 0) from hz,S.full h,show zOf p s.era=zs (selI (eraB s.era.toNat (fun o=>mayB o n)) l 0) from hz]
 have hd:decide ((encS p ks s).era+1<(e:Int))=decide (s.era<(e:Int)-1):=by
  show decide (s.era+1<(e:Int))=_
  by_cases hc:s.era+1<(e:Int)
  ·rw[dT hc,dT (by omega)]
  ·rw[dF hc,dF (by omega)]
 rw[hd]
 obtain⟨k1,k2,k3,ys,k4,k5⟩:=h2
 simp only[List.nil_append]at k4
 have stay:StL p ks (dA p l (encS p ks s) (zs (selI (eraB s.era.toNat (fun o=>mayB o n)) l 0)) 0 (q,[])).1.2 (dA p l (encS p ks s) (zs (selI (eraB s.era.toNat (fun o=>mayB o n)) l 0)) 0 (q,[])).2 (rStO l s l 0++[]):=by rw[k4,List.append_nil]; exact k5
 cases hc:decide (s.era<(e:Int)-1) with
 | false=>exact⟨k1,k2,k3,stay⟩
 | true =>
  rw[Bool.true_and]
  cases hfu:bR s l 0 with
  | true =>
   have hc:=of_decide_eq_true hc
   obtain⟨b1,b2,b3,b4,b5⟩:=nY S k1 k2 (h.crash (by omega) S.el) (.step (-1,aY s) hR (cw.2 (.inr ⟨hc,hfu,rfl⟩)))
   rw[o7]at b1 b2 b3 b4 b5
   refine⟨b1,b2,k3.trans b3,?_⟩
   have:StL p ks (addS (dA p l (encS p ks s) (zs (selI (eraB s.era.toNat (fun o=>mayB o n)) l 0)) 0 (q,[])).1 ⟨s.era+1,cJ (zOf p (s.era+1)).length,(encS p ks s).durable,(encS p ks s).durable⟩).1.2 ((dA p l (encS p ks s) (zs (selI (eraB s.era.toNat (fun o=>mayB o n)) l 0)) 0 (q,[])).2++[⟨-1,(addS (dA p l (encS p ks s) (zs (selI (eraB s.era.toNat (fun o=>mayB o n)) l 0)) 0 (q,[])).1 ⟨s.era+1,cJ (zOf p (s.era+1)).length,(encS p ks s).durable,(encS p ks s).durable⟩).2⟩]) (rStO l s l 0++[(-1,aY s)]):=by
    rw[k4]
    exact (k5.ext b3).app ⟨⟨rfl,b4,by rw[o7]; exact b5⟩,trivial⟩
   exact this
  | false=>exact⟨k1,k2,k3,stay⟩
structure SI (l:List HOp) (n e:Nat) (p:Prep) (ks:List Int) (kv:List (List UInt8)) (k:Nat) (q:QS) (sp:List (List aM)):Prop where
 ok:QOk p e q
 al:AllE l n e p ks kv q
 len:sp.length=k
 le:k≤q.2.length
 fst:q.2[0]?=some (encS p ks (bD n))
 rel:∀(j:Nat) (s:RS) (ys:List aM),RG l n e p ks kv s→q.2[j]?=some (encS p ks s)→sp[j]?=some ys→StL p ks q.2 ys (eF l e s)
theorem Sc.si0 (S:Sc l n e p ks kv) (he:0<e):SI l n e p ks kv 0 (addS ([],[]) (dG p)).1 []:=by
 have Q0:QOk p e ([],[]):=⟨fun _ h=>(by cases h),fun _ _ h=>(by cases h),fun _ _ h=>(by simp at h)⟩
 have h:=nY S Q0 (fun _ h=>(by cases h)) (S.first he) .first
 rw[S.enc_first]at h
 refine⟨h.1,h.2.1,rfl,Nat.zero_le _,?_,fun j s ys _ _ h=>by simp at h⟩
 rw[S.enc_first]; rfl
theorem Sc.si1 (S:Sc l n e p ks kv) {k:Nat} {q:QS} {sp:List (List aM)} (I:SI l n e p ks kv k q sp) {x:LSt} (hx:q.2[k]?=some x):SI l n e p ks kv (k+1) (cF p l e x q).1 (sp++[(cF p l e x q).2]):=by
 obtain⟨s,hs,hR,rfl⟩:=I.al x (List.mem_of_getElem? hx)
 obtain⟨a1,a2,a3,a4⟩:=S.next2 hs hR I.ok I.al
 have hk:=(List.getElem?_eq_some_iff.1 (a3 _ _ hx)).1
 refine⟨a1,a2,by simp[I.len],hk,a3 _ _ I.fst,fun j t ys ht hj hy=>?_⟩
 by_cases hjk:j<k
 ·rw[List.getElem?_append_left (by rw[I.len]; exact hjk)]at hy
  have hjq:j<q.2.length:=Nat.lt_of_lt_of_le hjk I.le
  have h1:=a3 _ _ (List.getElem?_eq_getElem hjq)
  rw[hj]at h1
  exact (I.rel j t ys ht (by rw[List.getElem?_eq_getElem hjq]; exact h1.symm) hy).ext a3
 ·have hjl:=(List.getElem?_eq_some_iff.1 hy).1
  rw[List.length_append,I.len]at hjl
  have hjk:j=k:=by simp at hjl; omega
  subst hjk
  rw[List.getElem?_append_right (by rw[I.len]; exact Nat.le_refl _),I.len,Nat.sub_self]at hy
  simp at hy
  subst hy
  rw[a3 _ _ hx]at hj
  have:=S.enc_inj hs ht (Option.some.inj hj)
  subst this
  exact a4
theorem Sc.siG (S:Sc l n e p ks kv) {fuel:Int}:∀(M k:Nat) (q:QS) (sp:List (List aM)) (q':QS) (sp':List (List aM)),SI l n e p ks kv k q sp→fP p l e fuel M k q sp=some (q',sp')→SI l n e p ks kv q'.2.length q' sp'
 | 0,_,_,_,_,_,_,h=>by cases h
 | M+1,k,q,sp,q',sp',I,h=>by
  rw[fP]at h
  cases hx:q.2[k]? with
  | none =>
   rw[hx]at h
   simp only at h
   split at h
   ·cases h
   ·cases h
    have h1:=List.getElem?_eq_none_iff.1 hx
    have h2:=I.le
    have:k=q.2.length:=by omega
    exact this ▸ I
  | some x =>
   rw[hx]at h
   simp only at h
   split at h
   ·cases h
   ·exact S.siG M (k+1) _ _ q' sp' (S.si1 I hx) h
theorem Sc.si (S:Sc l n e p ks kv) (he:0<e) {fuel:Int} {q:QS} {sp:List (List aM)} (h:ot p l e fuel=some (q,sp)):SI l n e p ks kv q.2.length q sp:=S.siG _ _ _ _ _ _ (S.si0 he) h
end
end Go.Proofs.Ytkehohfgbblokaa
namespace Go.Proofs.Ytkehohfgbblokaa
open Go.Eng Go.Plain
set_option maxHeartbeats 32000000
set_option maxRecDepth 20000
inductive EndT (l:List HOp) (e:Int):RS→Prop
 | fin {s:RS}:bR s l 0=true→s.era=e-1→EndT l e s
 | step {s:RS} (x:Int×RS):x∈eF l e s→EndT l e x.2→EndT l e s
def jc (f:RS→Bool) (l:List HOp) (s:RS):List HOp→Nat→Bool
 | [],_=>false
 | o::r,i=>((bg s l i o).2&&f (bg s l i o).1)||jc f l s r (i+1)
def dO (l:List HOp) (e:Int):Nat→RS→Bool
 | 0,_=>false
 | N+1,s=>(bR s l 0&&(decide (s.era=e-1)||dO l e N (aY s)))||jc (dO l e N) l s l 0
def muR (l:List HOp) (e:Nat) (s:RS):Nat:=(e-s.era.toNat)*(l.length+1)-s.taken.length
theorem oF {f:RS→Bool} {s:RS} {l:List HOp}:∀(r:List HOp) (i:Nat),l.drop i=r→(jc f l s r i=true ↔ ∃(j:Nat) (o:HOp),i≤j∧l[j]?=some o∧(bg s l j o).2=true∧f (bg s l j o).1=true)
 | [],i,h=>by
  have hl:l.length≤i:=List.drop_eq_nil_iff.1 h
  simp only[jc,Bool.false_eq_true,false_iff]
  rintro⟨j,o,h1,h2,_⟩
  have:=(List.getElem?_eq_some_iff.1 h2).1
  omega
 | o::r,i,h=>by
  have ho:l[i]?=some o:=by
   have:=congrArg (fun x=>x[0]?) h
   simpa using this
  have hr:l.drop (i+1)=r:=by
   have:=congrArg List.tail h
   simpa using this
  rw[jc,Bool.or_eq_true,Bool.and_eq_true,oF r (i+1) hr]
  constructor
  ·rintro (⟨h1,h2⟩ | ⟨j,o',h1,h2⟩)
   ·exact⟨i,o,Nat.le_refl _,ho,h1,h2⟩
   ·exact⟨j,o',by omega,h2⟩
  ·rintro⟨j,o',h1,h2,h3⟩
   by_cases hj:j=i
   ·subst hj
    rw[ho]at h2; cases h2
    exact .inl h3
   ·exact .inr ⟨j,o',by omega,h2,h3⟩
section
variable {l : List HOp} {n e : Nat} {p : Prep} {ks : List Int} {kv : List (List UInt8)}
theorem Sc.zlen (S:Sc l n e p ks kv) {k:Int} (h0:0≤k) (h1:k<e):(zOf p k).length≤l.length:=by
 rw[S.z h0 h1,fm,mayI]
 exact fF _ l 0
theorem Sc.tlen (S:Sc l n e p ks kv) {s:RS} (h:RG l n e p ks kv s):s.taken.length≤l.length:=by
 rw[h.tk]
 exact Nat.le_trans (List.length_filter_le _ _) (S.zlen h.ok.e0 h.era)
theorem ef {s:RS} {l:List HOp} {i:Nat} {o:HOp} (h:(bg s l i o).2=true):takB s l i o=true:=by
 cases ht:takB s l i o with
 | true=>rfl
 | false=>rw[pv ht]at h; cases h
theorem gW {s:RS} {l:List HOp} {i:Nat} {o:HOp} (h:takB s l i o=true):o.era=s.era∧mayB o s.arr.length=true∧hasB s.taken (i:Int)=false∧hitL s o l 0=false:=by
 unfold takB at h
 simp only[Bool.and_eq_true,Bool.not_eq_true',decide_eq_true_eq]at h
 exact h
theorem Sc.rgTake (S:Sc l n e p ks kv) {s:RS} (h:RG l n e p ks kv s) {i:Nat} {o:HOp} (ho:l[i]?=some o) (ht:(bg s l i o).2=true):RG l n e p ks kv (bg s l i o).1:=by
 have ht:=ef ht
 obtain⟨h1,h2,_,_⟩:=gW ht
 rw[h.ok.al]at h2
 obtain⟨k,hk⟩:=List.mem_iff_getElem?.1 ((S.zin h.ok.e0 h.era).2 ⟨i,o,rfl,ho,h1,h2⟩)
 exact (S.take h hk ho h1 h2 ht).2.2
theorem mK {s:RS} {l:List HOp} {i:Nat} {o:HOp}:(bg s l i o).1.era=s.era:=by
 unfold bg hapR
 split
 ·simp only
  split
  ·rfl
  ·split <;> rfl
 ·rfl
theorem vO {s:RS} {l:List HOp} {i:Nat} {o:HOp} (h:(bg s l i o).2=true):(bg s l i o).1.taken.length=s.taken.length+1:=by
 rw[bg,if_pos (ef h)]
 exact ob _ _
theorem Sc.rgSteps (S:Sc l n e p ks kv) {s:RS} (h:RG l n e p ks kv s) {x:Int×RS} (hx:x∈eF l e s):RG l n e p ks kv x.2∧muR l e x.2<muR l e s:=by
 have e0:=h.ok.e0
 have e1:=h.era
 have ht:=S.tlen h
 rcases cw.1 hx with ⟨j,o,h1,h2,rfl⟩ | ⟨h1,h2,rfl⟩
 ·refine⟨S.rgTake h h1 h2,?_⟩
  simp only[muR,mK,vO h2]
  have h3:l.length+1≤(e-s.era.toNat)*(l.length+1):=Nat.le_mul_of_pos_left _ (by omega)
  omega
 ·refine⟨h.crash (by omega) S.el,?_⟩
  simp only[muR,aY,List.length_nil]
  obtain⟨d,hd⟩:∃d,e-s.era.toNat=d+1:=⟨e-s.era.toNat-1,by omega⟩
  rw[show e-(s.era+1).toNat=d by omega,hd,Nat.add_mul]
  omega
theorem EndT.inv {s:RS} (h:EndT l e s):(bR s l 0=true∧s.era=(e:Int)-1)∨∃x∈eF l e s,EndT l e x.2:=by
 cases h with
 | fin h1 h2=>exact .inl ⟨h1,h2⟩
 | step x h1 h2=>exact .inr ⟨x,h1,h2⟩
theorem Sc.endG (S:Sc l n e p ks kv):∀(N:Nat) (s:RS),RG l n e p ks kv s→muR l e s<N→(dO l e N s=true↔EndT l e s)
 | 0,s,_,h=>by omega
 | N+1,s,h,hN=>by
  have ih:∀x∈eF l e s,(dO l e N x.2=true↔EndT l e x.2):=fun x hx=>by
   obtain⟨h1,h2⟩:=S.rgSteps h hx
   exact S.endG N x.2 h1 (by omega)
  rw[dO,Bool.or_eq_true,Bool.and_eq_true,Bool.or_eq_true,decide_eq_true_eq,oF l 0 List.drop_zero]
  constructor
  ·rintro (⟨h1,h2 | h2⟩ | ⟨j,o,_,h2,h3,h4⟩)
   ·exact .fin h1 h2
   ·by_cases he:s.era=(e:Int)-1
    ·exact .fin h1 he
    ·have hx:((-1:Int),aY s)∈eF l e s:=cw.2 (.inr ⟨by have:=h.era; omega,h1,rfl⟩)
     exact .step _ hx ((ih _ hx).1 h2)
   ·have hx:((j:Int),(bg s l j o).1)∈eF l e s:=cw.2 (.inl ⟨j,o,h2,h3,rfl⟩)
    exact .step _ hx ((ih _ hx).1 h4)
  ·intro hE
   rcases hE.inv with ⟨h1,h2⟩ | ⟨x,hx,h2⟩
   ·exact .inl ⟨h1,.inl h2⟩
   ·have h3:=(ih x hx).2 h2
    rcases cw.1 hx with ⟨j,o,h4,h5,rfl⟩ | ⟨h4,h5,rfl⟩
    ·exact .inr ⟨j,o,Nat.zero_le _,h4,h5,h3⟩
    ·exact .inl ⟨h5,.inr h3⟩
theorem Sc.good (S:Sc l n e p ks kv) {q:QS} {sp:List (List aM)} (I:SI l n e p ks kv q.2.length q sp) (hsp:SpOk q.2 sp):∀(N:Nat) (i:Nat) (s:RS),RG l n e p ks kv s→muR l e s<N→q.2[i]?=some (encS p ks s)→((ei p l e q.2 sp)[i]?=some true↔EndT l e s)
 | 0,_,_,_,h,_=>by omega
 | N+1,i,s,h,hN,hi=>by
  have hil:=(List.getElem?_eq_some_iff.1 hi).1
  obtain⟨ys,hys⟩:∃ys,sp[i]?=some ys:=⟨_,List.getElem?_eq_getElem (by rw[I.len]; exact hil)⟩
  have hst:=I.rel i s ys h hi hys
  obtain⟨m1,m2⟩:=hst.mem
  have hspN:spN sp (i:Int)=ys:=by rw[spN,Int.toNat_natCast,hys]; rfl
  have hstN:stN q.2 (i:Int)=encS p ks s:=by rw[stN,Int.toNat_natCast,hi]; rfl
  have hend:endB p l e (encS p ks s)=true↔(bR s l 0=true∧s.era=(e:Int)-1):=by
   unfold endB
   rw[Bool.and_eq_true,decide_eq_true_eq]
   show s.era=(e:Int)-1∧iW l p.lo (zOf p s.era) (encS p ks s)=true↔_
   rw[S.full h]
   exact⟨fun⟨a,b⟩=>⟨b,a⟩,fun⟨a,b⟩=>⟨b,a⟩⟩
  rw[q9 hsp i hil,hspN,hstN,hend]
  constructor
  ·rintro (⟨h1,h2⟩ | ⟨y,hy,h1⟩)
   ·exact .fin h1 h2
   ·obtain⟨x,hx,a1,a2,a3⟩:=m1 y hy
    obtain⟨b1,b2⟩:=S.rgSteps h hx
    exact .step x hx ((S.good I hsp N _ x.2 b1 (by omega) a3).1 h1)
  ·intro hE
   rcases hE.inv with h1 | ⟨x,hx,h2⟩
   ·exact .inl h1
   ·obtain⟨y,hy,a1,a2,a3⟩:=m2 x hx
    obtain⟨b1,b2⟩:=S.rgSteps h hx
    exact .inr ⟨y,hy,(S.good I hsp N _ x.2 b1 (by omega) a3).2 h2⟩
end
end Go.Proofs.Ytkehohfgbblokaa
namespace Go.Proofs.Ytkehohfgbblokaa
open Go.Eng Go.Plain
set_option maxHeartbeats 32000000
set_option maxRecDepth 20000
def WInv (l:List HOp) (n:Nat) (s:RS):Prop:=∃st:Int→List UInt8,
 (∀j:Int,0≤j→j<n→st j=zBk∨∃(i:Nat) (o:HOp),l[i]?=some o∧o.era<s.era∧o.op.kind=2∧o.op.index=j∧o.op.data=st j) ∧
 (∀j:Int,0≤j→j<n→pgAt s.arr j=st j∨∃(i:Nat) (o:HOp),l[i]?=some o∧o.era=s.era∧hasB s.taken (i:Int)=true∧o.op.kind=2∧o.op.index=j∧o.op.data=pgAt s.arr j) ∧
 (∀j:Int,0≤j→j<n→pgAt s.dur j=st j∨∃(i:Nat) (o:HOp),l[i]?=some o∧o.era=s.era∧hasB s.taken (i:Int)=true∧o.op.kind=2∧o.op.index=j∧o.op.data=pgAt s.dur j) ∧
 ((∀(i:Nat) (o:HOp),l[i]?=some o→o.era=s.era→o.op.kind≠3)→∀j:Int,0≤j→j<n→pgAt s.dur j=st j)
section
variable {l : List HOp} {n e : Nat} {p : Prep} {ks : List Int} {kv : List (List UInt8)}
theorem sf:WInv l n (bD n):=⟨fun _=>zBk,fun _ _ _=>.inl rfl,fun j _ _=>.inl (jf n j),fun j _ _=>.inl (jf n j),fun _ j _ _=>jf n j⟩
theorem sh {s:RS} (h:WInv l n s):WInv l n (aY s):=by
 obtain⟨st,h1,h2,h3,h4⟩:=h
 refine⟨fun j=>pgAt s.dur j,fun j a b=>?_,fun _ _ _=>.inl rfl,fun _ _ _=>.inl rfl,fun _ _ _ _=>rfl⟩
 have h0:(aY s).era=s.era+1:=rfl
 rw[h0]
 rcases h3 j a b with h5 | ⟨i,o,c1,c2,_,c4,c5,c6⟩
 ·rcases h1 j a b with h6 | ⟨i,o,c1,c2,c3,c4,c5⟩
  ·exact .inl (h5.trans h6)
  ·exact .inr ⟨i,o,c1,by omega,c3,c4,c5.trans h5.symm⟩
 ·exact .inr ⟨i,o,c1,by omega,c4,c5,c6⟩
theorem uy (S:Sc l n e p ks kv) {s:RS} (hs:RG l n e p ks kv s) (h:WInv l n s) {i:Nat} {o:HOp} (ho:l[i]?=some o) (ht:(bg s l i o).2=true):WInv l n (bg s l i o).1:=by
 obtain⟨st,h1,h2,h3,h4⟩:=h
 obtain⟨q1,q2,q3,_⟩:=gW (ef ht)
 rw[hs.ok.al]at q2
 have hmk:=gZ q2
 have hera:(bg s l i o).1.era=s.era:=mK
 have htaken:(bg s l i o).1.taken=da s.taken i:=by rw[bg,if_pos (ef ht)]
 have harr:(bg s l i o).1.arr=(hapR s o).1.arr:=by rw[bg,if_pos (ef ht)]
 have hdur:(bg s l i o).1.dur=(hapR s o).1.dur:=by rw[bg,if_pos (ef ht)]
 have mono:∀k:Nat,hasB s.taken (k:Int)=true→hasB (da s.taken i) (k:Int)=true:=fun k hk=>by rw[ga,hk]; rfl
 have old:∀(v:List UInt8) (j:Int),(∃(i:Nat) (o:HOp),l[i]?=some o∧o.era=s.era∧hasB s.taken (i:Int)=true∧o.op.kind=2∧o.op.index=j∧o.op.data=v)→∃(k:Nat) (q:HOp),l[k]?=some q∧q.era=s.era∧hasB (da s.taken i) (k:Int)=true∧q.op.kind=2∧q.op.index=j∧q.op.data=v:=fun v j ⟨k,q,a,b,c,d⟩=>⟨k,q,a,b,mono k c,d⟩
 unfold WInv
 rw[hera,htaken,harr,hdur]
 refine⟨st,h1,fun j a b=>?_,fun j a b=>?_,fun hf j a b=>?_⟩
 ·unfold hapR
  split
  ·exact (h2 j a b).imp id (old _ j)
  ·split
   ·rename_i k2
    obtain⟨i0,i1⟩:=hmk.2.2 (by omega)
    simp only
    rw[pJ i0 (by rw[hs.ar.al]; exact i1) a]
    by_cases hj:j=o.op.index
    ·rw[if_pos hj]
     exact .inr ⟨i,o,ho,q1,by rw[ga,dT rfl,Bool.or_true],k2,hj.symm,rfl⟩
    ·rw[if_neg hj]
     exact (h2 j a b).imp id (old _ j)
   ·exact (h2 j a b).imp id (old _ j)
 ·unfold hapR
  split
  ·exact (h3 j a b).imp id (old _ j)
  ·split
   ·exact (h3 j a b).imp id (old _ j)
   ·exact (h2 j a b).imp id (old _ j)
 ·have hk3:=hf i o ho q1
  unfold hapR
  split
  ·exact h4 hf j a b
  ·split
   ·exact h4 hf j a b
   ·omega
theorem lv.winv (S:Sc l n e p ks kv) (he:0<e) {s:RS} (h:lv l n e s):RG l n e p ks kv s∧WInv l n s:=by
 induction h with
 | first=>exact⟨S.first he,sf⟩
 | step x _ hx ih =>
  obtain⟨h1,h2⟩:=ih
  refine⟨(S.rgSteps h1 hx).1,?_⟩
  rcases cw.1 hx with ⟨j,o,a,b,rfl⟩ | ⟨a,b,rfl⟩
  ·exact uy S h1 h2 a b
  ·exact sh h2
def jX (l:List HOp) (E:Int):Bool:=l.any fun o=>decide (o.era=E)&&decide (o.op.kind=3)
def optO (l:List HOp) (E:Int) (o:HOp):List Nat :=
 if o.era=E then (if o.op.kind=2 then (if jX l E then[0,1,2,3,4] else[0,1,2]) else[0,1])
 else if o.era<E then[0,1] else[0]
def ja:List (List Nat)→List (List Nat)
 | []=>[[]]
 | os::r=>os.flatMap fun x=>(ja r).map (x :: ·)
theorem n9:∀(oss:List (List Nat)) (w:List Nat),w.length=oss.length→(∀(i:Nat) (x:Nat) (os:List Nat),w[i]?=some x→oss[i]?=some os→x∈os)→w∈ja oss
 | [],[],_,_=>List.mem_singleton.2 rfl
 | [],_::_,h,_=>by simp at h
 | _::_,[],h,_=>by simp at h
 | os::r,x::w,h,hm=>by
  rw[ja,List.mem_flatMap]
  exact⟨x,hm 0 x os rfl rfl,List.mem_map.2 ⟨w,n9 r w (by simpa using h) fun i y os' h1 h2=>hm (i+1) y os' (by simpa using h1) (by simpa using h2),rfl⟩⟩
def jT:List Nat→Nat
 | []=>1
 | a::r=>a*jT r
theorem ma {α β:Type} {k:Nat} (f:α→List β):∀l:List α,(∀x∈l,(f x).length=k)→(l.flatMap f).length=l.length*k
 | [],_=>by simp
 | a::l,h=>by
  rw[List.flatMap_cons,List.length_append,h a List.mem_cons_self,ma f l fun x hx=>h x (List.mem_cons_of_mem _ hx),List.length_cons,Nat.add_mul,Nat.one_mul,Nat.add_comm]
theorem oa:∀oss:List (List Nat),(ja oss).length=jT (oss.map List.length)
 | []=>rfl
 | os::r=>by
  rw[ja,ma (k:=(ja r).length) _ os fun x _=>List.length_map ..]
  show _=os.length*jT (r.map List.length)
  rw[oa r]
def srcD (f:HOp→Nat→Bool):List HOp→List Nat→Option (List UInt8)
 | o::l,x::w=>if f o x then some o.op.data else srcD f l w
 | _,_=>none
theorem ly {f:HOp→Nat→Bool}:∀(l:List HOp) (w:List Nat),(∀(i:Nat) (o:HOp) (x:Nat),l[i]?=some o→w[i]?=some x→f o x=false)→srcD f l w=none
 | [],_,_=>rfl
 | _::_,[],_=>rfl
 | o::l,x::w,h=>by
  rw[srcD,h 0 o x rfl rfl,if_neg Bool.false_ne_true]
  exact ly l w fun i o' x' h1 h2=>h (i+1) o' x' (by simpa using h1) (by simpa using h2)
theorem lx {f:HOp→Nat→Bool} {v:List UInt8}:∀(l:List HOp) (w:List Nat),(∃(i:Nat) (o:HOp) (x:Nat),l[i]?=some o∧w[i]?=some x∧f o x=true)→(∀(i:Nat) (o:HOp) (x:Nat),l[i]?=some o→w[i]?=some x→f o x=true→o.op.data=v)→srcD f l w=some v
 | [],_,⟨i,o,x,h,_⟩,_=>by simp at h
 | _::_,[],⟨i,o,x,_,h,_⟩,_=>by simp at h
 | o::l,x::w,⟨i,o',x',h1,h2,h3⟩,hv=>by
  rw[srcD]
  cases hf:f o x with
  | true=>rw[if_pos rfl,hv 0 o x rfl rfl hf]
  | false =>
   rw[if_neg Bool.false_ne_true]
   cases i with
   | zero =>
    simp at h1 h2
    subst h1 h2
    rw[hf]at h3; cases h3
   | succ i=>exact lx l w ⟨i,o',x',by simpa using h1,by simpa using h2,h3⟩ fun k q y a b c=>hv (k+1) q y (by simpa using a) (by simpa using b) c
def stW (l:List HOp) (E:Int) (w:List Nat) (j:Int):List UInt8:=(srcD (fun o x=>decide (o.era<E)&&(decide (o.op.kind=2)&&(decide (o.op.index=j)&&decide (x=1)))) l w).getD zBk
def arW (l:List HOp) (E:Int) (w:List Nat) (j:Int):List UInt8:=(srcD (fun o x=>decide (o.era=E)&&(decide (o.op.kind=2)&&(decide (o.op.index=j)&&(decide (x=2)||decide (x=4))))) l w).getD (stW l E w j)
def duW (l:List HOp) (E:Int) (w:List Nat) (j:Int):List UInt8:=(srcD (fun o x=>decide (o.era=E)&&(decide (o.op.kind=2)&&(decide (o.op.index=j)&&(decide (x=3)||decide (x=4))))) l w).getD (stW l E w j)
def decW (l:List HOp) (n:Nat) (p:Prep) (E:Int) (w:List Nat):RS :=
 ⟨E,(zOf p E).filter (fun i=>match w[i.toNat]? with | some x=>decide (x≠0) | none=>false),(List.range n).map fun j=>arW l E w (j:Nat),(List.range n).map fun j=>duW l E w (j:Nat)⟩
def symW (a d b:Int→Option Nat) (E:Int) (T:List Int) (i:Nat) (o:HOp):Nat :=
 if o.era=E then (if hasB T (i:Int)=false then 0 else if o.op.kind≠2 then 1
  else if a o.op.index=some i then (if d o.op.index=some i then 4 else 2) else (if d o.op.index=some i then 3 else 1))
 else if o.era<E then (if o.op.kind=2∧b o.op.index=some i then 1 else 0) else 0
theorem wB {A:List (List UInt8)} {f:Int→List UInt8} (hl:A.length=n) (h:∀j:Int,0≤j→j<n→pgAt A j=f j):A=(List.range n).map fun j=>f (j:Nat):=by
 apply List.ext_getElem?
 intro j
 by_cases hj:j<n
 ·have:=h j (by omega) (by omega)
  rw[pgAt,Int.toNat_natCast,List.getElem?_eq_getElem (by omega),Option.getD_some]at this
  rw[List.getElem?_map,List.getElem?_range hj,List.getElem?_eq_getElem (by omega),this]; rfl
 ·rw[List.getElem?_eq_none (by omega),List.getElem?_eq_none (by simp; omega)]
theorem Sc.word (S:Sc l n e p ks kv) {s:RS} (hs:RG l n e p ks kv s) (h:WInv l n s):∃w∈ja (l.map (optO l s.era)),decW l n p s.era w=s:=by
 obtain⟨st,h1,h2,h3,h4⟩:=h
 have e0:=hs.ok.e0
 have cb:∀j:Int,∃y:Option Nat,0≤j→j<n→(y=none∧st j=zBk)∨∃(i:Nat) (o:HOp),y=some i∧l[i]?=some o∧o.era<s.era∧o.op.kind=2∧o.op.index=j∧o.op.data=st j:=fun j=>by
  by_cases hj:0≤j∧j<n
  ·rcases h1 j hj.1 hj.2 with h | ⟨i,o,h⟩
   ·exact⟨none,fun _ _=>.inl ⟨rfl,h⟩⟩
   ·exact⟨some i,fun _ _=>.inr ⟨i,o,rfl,h⟩⟩
  ·exact⟨none,fun a b=>absurd ⟨a,b⟩ hj⟩
 have ca:∀j:Int,∃y:Option Nat,0≤j→j<n→(y=none∧pgAt s.arr j=st j)∨∃(i:Nat) (o:HOp),y=some i∧l[i]?=some o∧o.era=s.era∧hasB s.taken (i:Int)=true∧o.op.kind=2∧o.op.index=j∧o.op.data=pgAt s.arr j:=fun j=>by
  by_cases hj:0≤j∧j<n
  ·rcases h2 j hj.1 hj.2 with h | ⟨i,o,h⟩
   ·exact⟨none,fun _ _=>.inl ⟨rfl,h⟩⟩
   ·exact⟨some i,fun _ _=>.inr ⟨i,o,rfl,h⟩⟩
  ·exact⟨none,fun a b=>absurd ⟨a,b⟩ hj⟩
 have cd:∀j:Int,∃y:Option Nat,(jX l s.era=false→y=none)∧(0≤j→j<n→(y=none∧pgAt s.dur j=st j)∨∃(i:Nat) (o:HOp),y=some i∧l[i]?=some o∧o.era=s.era∧hasB s.taken (i:Int)=true∧o.op.kind=2∧o.op.index=j∧o.op.data=pgAt s.dur j):=fun j=>by
  by_cases hj:0≤j∧j<n
  ·cases hf:jX l s.era with
   | false =>
    refine⟨none,fun _=>rfl,fun _ _=>.inl ⟨rfl,h4 (fun i o ho he hk=>?_) j hj.1 hj.2⟩⟩
    have:jX l s.era=true:=List.any_eq_true.2 ⟨o,List.mem_of_getElem? ho,by rw[dT he,dT hk]; rfl⟩
    rw[hf]at this; cases this
   | true =>
    rcases h3 j hj.1 hj.2 with h | ⟨i,o,h⟩
    ·exact⟨none,fun h=>(by cases h),fun _ _=>.inl ⟨rfl,h⟩⟩
    ·exact⟨some i,fun h=>(by cases h),fun _ _=>.inr ⟨i,o,rfl,h⟩⟩
  ·exact⟨none,fun _=>rfl,fun a b=>absurd ⟨a,b⟩ hj⟩
 obtain⟨b,hb⟩:=Classical.skolem.1 cb
 obtain⟨a,ha⟩:=Classical.skolem.1 ca
 obtain⟨d,hd⟩:=Classical.skolem.1 cd
 obtain⟨w,hw⟩:∃w,w=(List.range l.length).map fun i=>symW a d b s.era s.taken i (opN l i):=⟨_,rfl⟩
 have hwl:w.length=l.length:=by rw[hw]; simp
 have hwg:∀(i:Nat) (o:HOp),l[i]?=some o→w[i]?=some (symW a d b s.era s.taken i o):=fun i o ho=>by
  have hi:=(List.getElem?_eq_some_iff.1 ho).1
  rw[hw,List.getElem?_map,List.getElem?_range hi,←eI ho]; rfl
 have hst:∀j:Int,0≤j→j<n→stW l s.era w j=st j:=fun j j0 j1=>by
  unfold stW
  rcases hb j j0 j1 with ⟨c1,c2⟩ | ⟨i,o,c1,c2,c3,c4,c5,c6⟩
  ·rw[ly,Option.getD_none,c2]
   intro i o x ho hx
   rw[hwg i o ho]at hx; cases hx
   by_cases hE:o.era<s.era
   ·by_cases hk:o.op.kind=2
    ·by_cases hi:o.op.index=j
     ·have:symW a d b s.era s.taken i o=0:=by
       rw[symW,if_neg (by omega),if_pos hE,if_neg (by rw[hi,c1]; rintro⟨_,h⟩; cases h)]
      rw[this]; simp
     ·rw[dF hi]; simp
    ·rw[dF hk]; simp
   ·rw[dF hE]; simp
  ·rw[lx (v:=st j),Option.getD_some]
   ·refine⟨i,o,_,c2,hwg i o c2,?_⟩
    have:symW a d b s.era s.taken i o=1:=by
     rw[symW,if_neg (by omega),if_pos c3,if_pos ⟨c4,by rw[c5,c1]⟩]
    rw[this,dT c3,dT c4,dT c5]; rfl
   ·intro k q x hq hx hf
    simp only[Bool.and_eq_true,decide_eq_true_eq]at hf
    obtain⟨f1,f2,f3,f4⟩:=hf
    rw[hwg k q hq]at hx; cases hx
    rw[symW,if_neg (by omega),if_pos f1]at f4
    split at f4
    ·rename_i hc
     rw[f3,c1]at hc
     have:i=k:=Option.some.inj hc.2
     subst this
     rw[c2]at hq; cases hq
     exact c6
    ·cases f4
 have key:∀(c:Int→Option Nat) (A:Int→List UInt8) (g:Nat→Bool),(∀(i:Nat) (o:HOp),l[i]?=some o→o.era=s.era→o.op.kind=2→hasB s.taken (i:Int)=true→(g (symW a d b s.era s.taken i o)=true↔c o.op.index=some i))→(∀(i:Nat) (o:HOp),l[i]?=some o→o.era=s.era→hasB s.taken (i:Int)=false→g (symW a d b s.era s.taken i o)=false) →
   (∀j:Int,0≤j→j<n→(c j=none∧A j=st j)∨∃(i:Nat) (o:HOp),c j=some i∧l[i]?=some o∧o.era=s.era∧hasB s.taken (i:Int)=true∧o.op.kind=2∧o.op.index=j∧o.op.data=A j) →
   ∀j:Int,0≤j→j<n→A j=(srcD (fun o x=>decide (o.era=s.era)&&(decide (o.op.kind=2)&&(decide (o.op.index=j)&&g x))) l w).getD (stW l s.era w j):=by
  intro c A g hg hg0 hc j j0 j1
  rcases hc j j0 j1 with ⟨c1,c2⟩ | ⟨i,o,c1,c2,c3,c4,c5,c6,c7⟩
  ·rw[ly,Option.getD_none,c2,hst j j0 j1]
   intro i o x ho hx
   rw[hwg i o ho]at hx; cases hx
   by_cases hE:o.era=s.era
   ·by_cases hk:o.op.kind=2
    ·by_cases hi:o.op.index=j
     ·have:g (symW a d b s.era s.taken i o)=false:=by
       cases ht:hasB s.taken (i:Int) with
       | false=>exact hg0 i o ho hE ht
       | true =>
        rw[Bool.eq_false_iff]
        intro h
        rw[hg i o ho hE hk ht,hi,c1]at h
        cases h
      rw[this]; simp
     ·rw[dF hi]; simp
    ·rw[dF hk]; simp
   ·rw[dF hE]; simp
  ·rw[lx (v:=A j),Option.getD_some]
   ·refine⟨i,o,_,c2,hwg i o c2,?_⟩
    rw[(hg i o c2 c3 c5 c4).2 (by rw[c6,c1]),dT c3,dT c5,dT c6]; rfl
   ·intro k q x hq hx hf
    simp only[Bool.and_eq_true,decide_eq_true_eq]at hf
    obtain⟨f1,f2,f3,f4⟩:=hf
    rw[hwg k q hq]at hx; cases hx
    cases ht:hasB s.taken (k:Int) with
    | false=>rw[hg0 k q hq f1 ht]at f4; cases f4
    | true =>
     rw[hg k q hq f1 f2 ht,f3,c1]at f4
     have:i=k:=Option.some.inj f4
     subst this
     rw[c2]at hq; cases hq
     exact c7
 have hAr:=key a (fun j=>pgAt s.arr j) (fun x=>decide (x=2)||decide (x=4)) (fun i o ho hE hk ht=>by
   rw[symW,if_pos hE,if_neg (by rw[ht]; decide),if_neg (by simpa using hk)]
   split
   ·rename_i h5; split <;> simp[h5]
   ·rename_i h5; split <;> simp[h5]) (fun i o ho hE ht=>by rw[symW,if_pos hE,if_pos ht]; rfl) ha
 have hDu:=key d (fun j=>pgAt s.dur j) (fun x=>decide (x=3)||decide (x=4)) (fun i o ho hE hk ht=>by
   rw[symW,if_pos hE,if_neg (by rw[ht]; decide),if_neg (by simpa using hk)]
   split
   ·split
    ·rename_i h5; simp[h5]
    ·rename_i h5; simp[h5]
   ·split
    ·rename_i h5; simp[h5]
    ·rename_i h5; simp[h5]) (fun i o ho hE ht=>by rw[symW,if_pos hE,if_pos ht]; rfl) (fun j=>(hd j).2)
 refine⟨w,n9 _ w (by rw[hwl]; simp) fun i x os hx hos=>?_,?_⟩
 ·rw[List.getElem?_map]at hos
  cases ho:l[i]? with
  | none=>rw[ho]at hos; cases hos
  | some o =>
   rw[ho]at hos
   cases hos
   rw[hwg i o ho]at hx; cases hx
   unfold symW optO
   by_cases hE:o.era=s.era
   ·rw[if_pos hE,if_pos hE]
    by_cases hk:o.op.kind=2
    ·rw[if_pos hk,if_neg (show ¬o.op.kind≠2 by simpa using hk)]
     cases hf:jX l s.era with
     | true =>
      rw[if_pos rfl]
      split
      ·simp
      ·split <;> split <;> simp
     | false =>
      have hn:d o.op.index≠some i:=by rw[(hd o.op.index).1 hf]; intro h; cases h
      rw[if_neg Bool.false_ne_true,if_neg hn,if_neg hn]
      split
      ·simp
      ·split <;> simp
    ·rw[if_neg hk,if_pos (show o.op.kind≠2 from hk)]
     split <;> simp
   ·rw[if_neg hE,if_neg hE]
    split
    ·split <;> simp
    ·simp
 ·have f1:(zOf p s.era).filter (fun i=>match w[i.toNat]? with | some x=>decide (x≠0) | none=>false)=s.taken:=by
   rw[hs.tk]
   refine List.filter_congr fun i hi=>?_
   obtain⟨j,o,rfl,b1,b2,b3⟩:=(S.zin e0 hs.era).1 hi
   rw[Int.toNat_natCast,hwg j o b1,symW,if_pos b2]
   simp only
   cases ht:hasB s.taken (j:Int) with
   | false=>rw[if_pos rfl]; rfl
   | true =>
    rw[if_neg (by decide)]
    split
    ·rfl
    ·split <;> split <;> rfl
  have f2:=wB hs.ar.al hAr
  have f3:=wB hs.du.al hDu
  unfold decW
  rw[f1]
  cases s
  simp only[RS.mk.injEq,true_and]
  exact⟨f2.symm,f3.symm⟩
end
end Go.Proofs.Ytkehohfgbblokaa
namespace Go.Proofs.Ytkehohfgbblokaa
open Go.Eng Go.Plain
set_option maxHeartbeats 32000000
set_option maxRecDepth 20000
def lS (l:List HOp) (n:Nat) (p:Prep):Nat→List RS
 | 0=>[]
 | k+1=>lS l n p k++(ja (l.map (optO l (k:Nat)))).map (decW l n p (k:Nat))
theorem qF {α:Type}:∀(xs ys:List α),xs.Nodup→(∀x∈xs,x∈ys)→xs.length≤ys.length
 | [],_,_,_=>Nat.zero_le _
 | x::xs,ys,hn,h=>by
  obtain⟨a,b,rfl⟩:=List.append_of_mem (h x List.mem_cons_self)
  obtain⟨h1,h2⟩:=List.nodup_cons.1 hn
  have:=qF xs (a++b) h2 fun y hy=>by
   have h3:=h y (List.mem_cons_of_mem _ hy)
   rcases List.mem_append.1 h3 with h3 | h3
   ·exact List.mem_append_left _ h3
   ·rcases List.mem_cons.1 h3 with rfl | h3
    ·exact absurd hy h1
    ·exact List.mem_append_right _ h3
  simp only[List.length_append,List.length_cons]at this ⊢
  omega
def Fn (n:Nat):Nat:=if n=0 then 1 else max (3 ^ n) (2*5 ^ (n-1))
theorem qw (l:List HOp) (E:Int):∀r:List HOp,jT (r.map fun o=>(optO l E o).length)≤2 ^ (r.countP fun o=>decide (o.era<E))*5 ^ (r.countP fun o=>decide (o.era=E)) ∧
    (jX l E=false→jT (r.map fun o=>(optO l E o).length)≤2 ^ (r.countP fun o=>decide (o.era<E))*3 ^ (r.countP fun o=>decide (o.era=E))) ∧
    (jX r E=true→jT (r.map fun o=>(optO l E o).length)*5≤2*(2 ^ (r.countP fun o=>decide (o.era<E))*5 ^ (r.countP fun o=>decide (o.era=E))))
  | []=>⟨Nat.le_refl _,fun _=>Nat.le_refl _,fun h=>by cases h⟩
  | o::r=>by
    obtain⟨h1,h2,h3⟩:=qw l E r
    have hfl:jX (o::r) E=((decide (o.era=E)&&decide (o.op.kind=3))||jX r E):=rfl
    rw[hfl]
    simp only[List.map_cons,jT,List.countP_cons,decide_eq_true_eq]
    generalize jT (r.map fun o=>(optO l E o).length)=P at h1 h2 h3 ⊢
    generalize (r.countP fun o=>decide (o.era<E))=a at h1 h2 h3 ⊢
    generalize (r.countP fun o=>decide (o.era=E))=c at h1 h2 h3 ⊢
    by_cases hE:o.era=E
    · rw[if_neg (by omega),if_pos hE,Nat.add_zero,dT hE,Bool.true_and]
      have h5:(optO l E o).length≤5:=by
        unfold optO
        rw[if_pos hE]
        split
        · split <;> simp
        · simp
      have m1:=Nat.mul_le_mul h5 h1
      refine⟨by rw[Nat.pow_succ]; calc _≤_:=m1
                 _=_:=by rw[Nat.mul_left_comm,Nat.mul_comm 5],fun hf=>?_,fun hf=>?_⟩
      · have h6:(optO l E o).length≤3:=by
          unfold optO
          rw[if_pos hE,hf]
          split <;> simp
        have m2:=Nat.mul_le_mul h6 (h2 hf)
        rw[Nat.pow_succ]
        calc _≤_:=m2
          _=_:=by rw[Nat.mul_left_comm,Nat.mul_comm 3]
      · rw[Bool.or_eq_true,decide_eq_true_eq]at hf
        rcases hf with hf | hf
        · have h6:(optO l E o).length=2:=by
            unfold optO
            rw[if_pos hE,if_neg (by omega)]; rfl
          rw[h6,Nat.pow_succ]
          have m2:=Nat.mul_le_mul_left 10 h1
          calc 2*P*5=10*P:=by omega
            _≤_:=m2
            _=_:=by rw[show 10=2*5 by rfl,Nat.mul_assoc 2 5,Nat.mul_left_comm 5,Nat.mul_comm 5]
        · have m2:=Nat.mul_le_mul h5 (h3 hf)
          rw[Nat.pow_succ]
          calc (optO l E o).length*P*5=(optO l E o).length*(P*5):=Nat.mul_assoc ..
            _≤_:=m2
            _=_:=by rw[Nat.mul_left_comm,Nat.mul_left_comm 5,Nat.mul_comm 5]
    · rw[if_neg hE,Nat.add_zero,dF hE,Bool.false_and,Bool.false_or]
      by_cases hlt:o.era<E
      · rw[if_pos hlt]
        have h6:(optO l E o).length=2:=by
          unfold optO
          rw[if_neg hE,if_pos hlt]; rfl
        rw[h6,Nat.pow_succ]
        refine⟨?_,fun hf=>?_,fun hf=>?_⟩
        · have:=Nat.mul_le_mul_left 2 h1
          rw[Nat.mul_comm (2 ^ a) 2,Nat.mul_assoc]; exact this
        · have:=Nat.mul_le_mul_left 2 (h2 hf)
          rw[Nat.mul_comm (2 ^ a) 2,Nat.mul_assoc]; exact this
        · have:=Nat.mul_le_mul_left 2 (h3 hf)
          rw[Nat.mul_comm (2 ^ a) 2,Nat.mul_assoc 2 (2 ^ a),Nat.mul_assoc]; exact this
      · rw[if_neg hlt,Nat.add_zero]
        have h6:(optO l E o).length=1:=by
          unfold optO
          rw[if_neg hE,if_neg hlt]; rfl
        rw[h6,Nat.one_mul]
        exact⟨h1,h2,h3⟩
theorem yg (l:List HOp) (E:Int):jT ((l.map (optO l E)).map List.length)≤2 ^ (l.countP fun o=>decide (o.era<E))*Fn (l.countP fun o=>decide (o.era=E)):=by
 obtain⟨h1,h2,h3⟩:=qw l E l
 rw[List.map_map]
 have hc:(List.length ∘ optO l E)=fun o=>(optO l E o).length:=rfl
 rw[hc]
 generalize hP:jT (l.map fun o=>(optO l E o).length)=P at h1 h2 h3 ⊢
 cases hf:jX l E with
 | false =>
  refine Nat.le_trans (h2 hf) (Nat.mul_le_mul_left _ ?_)
  unfold Fn
  split
  ·rename_i h; rw[h]; exact Nat.le_refl _
  ·exact Nat.le_max_left _ _
 | true =>
  have h4:=h3 hf
  have hpos:0<l.countP fun o=>decide (o.era=E):=by
   obtain⟨o,ho,hb⟩:=List.any_eq_true.1 hf
   rw[Bool.and_eq_true]at hb
   exact List.countP_pos_iff.2 ⟨o,ho,hb.1⟩
  generalize (l.countP fun o=>decide (o.era=E))=c at h4 hpos ⊢
  generalize 2 ^ (l.countP fun o=>decide (o.era<E))=A at h4 ⊢
  obtain⟨d,rfl⟩:∃d,c=d+1:=⟨c-1,by omega⟩
  have h5:P≤A*(2*5 ^ d):=by
   rw[Nat.pow_succ]at h4
   have h6:2*(A*(5 ^ d*5))=A*(2*5 ^ d)*5:=by
    rw[←Nat.mul_assoc A,←Nat.mul_assoc,Nat.mul_left_comm 2]
   rw[h6]at h4
   exact Nat.le_of_mul_le_mul_right h4 (by decide)
  refine Nat.le_trans h5 (Nat.mul_le_mul_left _ ?_)
  unfold Fn
  rw[if_neg (by omega),Nat.add_sub_cancel]
  exact Nat.le_max_right _ _
def cnts:List HEv→Nat→List Nat
 | [],n=>[n]
 | x::r,n=>if x.kind=3 then n::cnts r 0 else if x.kind=1 then cnts r (n+1) else cnts r n
def eraL:List HEv→Int→List Int
 | [],_=>[]
 | x::r,e=>if x.kind=3 then eraL r (e+1) else if x.kind=1 then e::eraL r e else eraL r e
def totN:Nat→List Nat→Nat
 | _,[]=>0
 | pre,n::ns=>pre*Fn n+totN (pre*2 ^ n) ns
def sumL:List Nat→Nat
 | []=>0
 | a::r=>a+sumL r
theorem jN:∀(r:List HEv) (e x:Int),x∈eraL r e→e≤x
 | [],_,_,h=>by cases h
 | y::r,e,x,h=>by
  unfold eraL at h
  split at h
  ·have:=jN r (e+1) x h; omega
  ·split at h
   ·rcases List.mem_cons.1 h with rfl | h
    ·exact Int.le_refl _
    ·exact jN r e x h
   ·exact jN r e x h
theorem la:∀(r:List HEv) (n:Nat),(cnts r n).length=1+r.countP fun x=>decide (x.kind=3)
 | [],_=>rfl
 | x::r,n=>by
  unfold cnts
  rw[List.countP_cons]
  by_cases h3:x.kind=3
  ·rw[if_pos h3,List.length_cons,la r,if_pos (dT h3)]; omega
  ·rw[if_neg h3,if_neg (c:=decide (x.kind=3)=true) (by rw[dF h3]; decide)]
   split <;> rw[la r] <;> omega
theorem lb:∀(r:List HEv) (n:Nat) (e:Int) (d:Nat) (c:Nat),(cnts r n)[d]?=some c→c=(eraL r e).countP (fun x=>decide (x=e+d))+(if d=0 then n else 0)∧sumL ((cnts r n).take d)=(eraL r e).countP (fun x=>decide (x<e+d))+(if d=0 then 0 else n)
 | [],n,e,d,c,h=>by
  cases d with
  | zero=>simp[cnts]at h; subst h; simp[eraL,sumL]
  | succ d=>simp[cnts]at h
 | x::r,n,e,d,c,h=>by
  have hge:=jN r (e+1)
  unfold cnts at h ⊢
  unfold eraL
  by_cases h3:x.kind=3
  ·rw[if_pos h3]at h ⊢
   rw[if_pos h3]
   cases d with
   | zero =>
    simp at h; subst h
    have z1:(eraL r (e+1)).countP (fun x=>decide (x=e+((0:Nat):Int)))=0:=List.countP_eq_zero.2 fun y hy=>by
     have:=hge y hy
     simp only[decide_eq_true_eq]; omega
    have z2:(eraL r (e+1)).countP (fun x=>decide (x<e+((0:Nat):Int)))=0:=List.countP_eq_zero.2 fun y hy=>by
     have:=hge y hy
     simp only[decide_eq_true_eq]; omega
    rw[z1,z2]
    exact⟨by simp,by simp[sumL]⟩
   | succ d =>
    obtain⟨a1,a2⟩:=lb r 0 (e+1) d c (by simpa using h)
    have e1:e+1+(d:Int)=e+((d+1:Nat):Int):=by omega
    rw[e1]at a1 a2
    refine⟨by rw[a1]; simp,?_⟩
    rw[List.take_succ_cons,sumL,a2]
    simp
    omega
  ·rw[if_neg h3]at h ⊢
   rw[if_neg h3]
   by_cases h1:x.kind=1
   ·rw[if_pos h1]at h ⊢
    rw[if_pos h1]
    obtain⟨a1,a2⟩:=lb r (n+1) e d c h
    rw[List.countP_cons,List.countP_cons,a1,a2]
    cases d with
    | zero=>simp; omega
    | succ d =>
     have f1:decide (e=e+((d+1:Nat):Int))=false:=dF (by omega)
     have f2:decide (e<e+((d+1:Nat):Int))=true:=dT (by omega)
     rw[f1,f2]
     simp
     omega
   ·rw[if_neg h1]at h ⊢
    rw[if_neg h1]
    exact lb r n e d c h
theorem od:∀(ns:List Nat) (pre k:Nat) (c:Nat),ns[k]?=some c→totN pre (ns.take (k+1))=totN pre (ns.take k)+pre*2 ^ sumL (ns.take k)*Fn c
 | [],_,k,_,h=>by simp at h
 | n::ns,pre,k,c,h=>by
  cases k with
  | zero=>simp at h; subst h; simp[totN,sumL]
  | succ k =>
   have ih:=od ns (pre*2 ^ n) k c (by simpa using h)
   rw[List.take_succ_cons,totN,ih,List.take_succ_cons,totN,sumL,Nat.pow_add,Nat.add_assoc,Nat.mul_assoc pre]
theorem im (h:List HEv):∀(m i:Nat) (out:List HOp) (era:Int),(fj h m i out era).map HOp.era=out.map HOp.era++eraL ((h.drop i).take m) era
 | 0,i,out,era=>by rw[fj,List.take_zero]; simp[eraL]
 | m+1,i,out,era=>by
  rw[fj]
  cases hx:h[i]? with
  | none=>rw[List.drop_eq_nil_of_le (List.getElem?_eq_none_iff.1 hx)]; simp[eraL]
  | some x =>
   have hlt:=(List.getElem?_eq_some_iff.1 hx).1
   rw[List.drop_eq_getElem_cons hlt,(List.getElem?_eq_some_iff.1 hx).2,List.take_succ_cons,eraL]
   simp only
   split
   ·exact im h m (i+1) out (era+1)
   ·split
    ·rw[im h m (i+1) _ era,List.map_append]
     have:(mkOp h i x out era).era=era:=by
      unfold mkOp fc dx
      split <;> rfl
     simp[this]
    ·exact im h m (i+1) out era
theorem lB (h:List HEv):(opsR h).map HOp.era=eraL h 0:=by
 rw[opsR,im,List.drop_zero,List.take_length]; rfl
theorem rz (h:List HEv) (n:Nat) (p:Prep):∀k,k≤aU h→(lS (opsR h) n p k).length≤totN 1 ((cnts h 0).take k)
 | 0,_=>Nat.zero_le _
 | k+1,hk=>by
  have ih:=rz h n p k (by omega)
  have hl:k<(cnts h 0).length:=by rw[la]; unfold aU at hk; omega
  have hc:=List.getElem?_eq_getElem hl
  obtain⟨a1,a2⟩:=lb h 0 0 k _ hc
  rw[od _ 1 k _ hc,lS,List.length_append,List.length_map,oa]
  have h1:=yg (opsR h) (k:Nat)
  have h2:(opsR h).countP (fun o=>decide (o.era<((k:Nat):Int)))=sumL ((cnts h 0).take k):=by
   rw[a2,←lB,List.countP_map]
   simp
   rfl
  have h3:(opsR h).countP (fun o=>decide (o.era=((k:Nat):Int)))=(cnts h 0)[k]:=by
   rw[a1,←lB,List.countP_map]
   simp
   rfl
  rw[h2,h3]at h1
  rw[Nat.one_mul]
  omega
def g10 (k:Nat):Nat:=if k % 2=0 then 10*5 ^ (k/2) else 13*5 ^ (k/2)
def Vn (m c n:Nat):Nat:=if m=0 then 25*Fn n else 5 ^ n*g10 (m+3-c)
def chkV:Bool:=(List.range 16).all fun m=>(List.range 4).all fun c=>(List.range 17).all fun n=>decide (n<c)||(decide (16<n+m)||(decide (25*Fn n+2 ^ n*Vn m 0 0≤Vn (m+1) c n)&&((decide (3≤c)||decide (Vn m (c+1) (n+1)≤Vn (m+1) c n))&&(decide (c=0)||decide (Vn m (c-1) n≤Vn (m+1) c n)))))
theorem yN:chkV=true:=by decide+kernel
theorem yO {m c n:Nat} (hm:m<16) (hc:c<4) (hn:n+m≤16) (hcn:c≤n):25*Fn n+2 ^ n*Vn m 0 0≤Vn (m+1) c n∧(c<3→Vn m (c+1) (n+1)≤Vn (m+1) c n)∧(c≠0→Vn m (c-1) n≤Vn (m+1) c n):=by
 have h:=List.all_eq_true.1 (List.all_eq_true.1 (List.all_eq_true.1 yN m (List.mem_range.2 hm)) c (List.mem_range.2 hc)) n (List.mem_range.2 (by omega))
 rw[dF (by omega),dF (by omega)]at h
 simp only[Bool.false_or,Bool.and_eq_true,Bool.or_eq_true,decide_eq_true_eq]at h
 exact⟨h.1,fun h3=>h.2.1.resolve_left (by omega),fun h0=>h.2.2.resolve_left h0⟩
def bP (p:List HEv) (c:Int):Nat:=if pend p c<0 then 0 else 1
def cntP (p:List HEv):Nat:=bP p 0+bP p 1+bP p 2
def Cl3 (h:List HEv):Prop:=∀x∈h,x.kind≠3→0≤x.client∧x.client<3
theorem pj (p:List HEv) (c:Int):bP p c≤1:=by unfold bP; split <;> omega
theorem tn:∀(r p:List HEv) (n pre:Nat),eK (p++r)→Cl3 (p++r)→n+r.length≤16→cntP p≤n→25*totN pre (cnts r n)≤pre*Vn r.length (cntP p) n
 | [],p,n,pre,_,_,_,_=>by
  simp only[cnts,totN,List.length_nil,Vn,if_true,Nat.add_zero]
  rw[Nat.mul_left_comm]
  exact Nat.le_refl _
 | x::r,p,n,pre,hA,hC,hn,hc=>by
  have hf:fitB p x=true:=by
   have:=hA p.length x (by rw[List.getElem?_append_right (Nat.le_refl _),Nat.sub_self]; rfl)
   rwa [List.take_left' rfl]at this
  have hA':eK ((p++[x])++r):=by rw[List.append_assoc]; exact hA
  have hC':Cl3 ((p++[x])++r):=by rw[List.append_assoc]; exact hC
  have b0:=pj p 0
  have b1:=pj p 1
  have b2:=pj p 2
  have hc3:cntP p<4:=by unfold cntP; omega
  rw[List.length_cons]at hn ⊢
  have hK:=yO (m:=r.length) (c:=cntP p) (n:=n) (by omega) hc3 (by omega) hc
  rw[cnts]
  unfold fitB at hf
  by_cases k1:x.kind=1
  ·rw[if_pos k1]at hf
   rw[if_neg (by omega),if_pos k1]
   unfold fit1 at hf
   simp only[Bool.and_eq_true,decide_eq_true_eq]at hf
   have hp:=hf.1.1.1.2
   have hps:∀d:Int,bP (p++[x]) d=if x.client=d then 1 else bP p d:=fun d=>by
    unfold bP
    rw[fq,fQ,if_neg (c:=x.kind=3) (by omega),if_pos k1]
    by_cases hd:x.client=d
    ·rw[if_pos hd,if_pos hd,if_neg (by omega)]
    ·rw[if_neg hd,if_neg hd]
   have hz:bP p x.client=0:=by unfold bP; rw[if_pos hp]
   obtain⟨c0,c1⟩:=hC x (by simp) (by omega)
   have hcnt:cntP (p++[x])=cntP p+1:=by
    unfold cntP
    rw[hps,hps,hps]
    rcases (by omega:x.client=0∨x.client=1∨x.client=2)with h | h | h <;> rw[h]at hz ⊢ <;> simp <;> omega
   have hlt:cntP p<3:=by
    have b0:=pj (p++[x]) 0
    have b1:=pj (p++[x]) 1
    have b2:=pj (p++[x]) 2
    have:cntP (p++[x])≤3:=by unfold cntP; omega
    omega
   have ih:=tn r (p++[x]) (n+1) pre hA' hC' (by omega) (by omega)
   rw[hcnt]at ih
   exact Nat.le_trans ih (Nat.mul_le_mul_left _ (hK.2.1 hlt))
  ·rw[if_neg k1]at hf
   by_cases k2:x.kind=2
   ·rw[if_pos k2]at hf
    rw[if_neg (by omega),if_neg k1]
    unfold fit2 at hf
    simp only[Bool.and_eq_true,decide_eq_true_eq]at hf
    have hp:¬pend p x.client<0:=by
     have:=hf.1.1.1.2
     simpa using this
    have hps:∀d:Int,bP (p++[x]) d=if x.client=d then 0 else bP p d:=fun d=>by
     unfold bP
     rw[fq,fQ,if_neg (c:=x.kind=3) (by omega),if_neg (c:=x.kind=1) (by omega),if_pos k2]
     by_cases hd:x.client=d
     ·rw[if_pos hd,if_pos hd,if_pos (by omega)]
     ·rw[if_neg hd,if_neg hd]
    have hz:bP p x.client=1:=by unfold bP; rw[if_neg hp]
    obtain⟨c0,c1⟩:=hC x (by simp) (by omega)
    have hcnt:cntP (p++[x])+1=cntP p:=by
     unfold cntP
     rw[hps,hps,hps]
     rcases (by omega:x.client=0∨x.client=1∨x.client=2)with h | h | h <;> rw[h]at hz ⊢ <;> simp <;> omega
    have ih:=tn r (p++[x]) n pre hA' hC' (by omega) (by omega)
    rw[show cntP (p++[x])=cntP p-1 by omega]at ih
    exact Nat.le_trans ih (Nat.mul_le_mul_left _ (hK.2.2 (by omega)))
   ·rw[if_neg k2]at hf
    by_cases k3:x.kind=3
    ·rw[if_pos k3]
     have hps:∀d:Int,bP (p++[x]) d=0:=fun d=>by
      unfold bP
      rw[fq,fQ,if_pos k3]; rfl
     have hcnt:cntP (p++[x])=0:=by unfold cntP; rw[hps,hps,hps]
     have ih:=tn r (p++[x]) 0 (pre*2 ^ n) hA' hC' (by omega) (by omega)
     rw[hcnt]at ih
     rw[totN,Nat.mul_add,Nat.mul_left_comm 25 pre]
     have h1:=Nat.mul_le_mul_left pre hK.1
     rw[Nat.mul_add,←Nat.mul_assoc pre (2 ^ n)]at h1
     omega
    ·rw[if_neg k3]at hf; cases hf
section
variable {n : Nat} {p : Prep} {ks : List Int} {kv : List (List UInt8)}
theorem Sc.count {h:List HEv} (S:Sc (opsR h) n (aU h) p ks kv) (he:0<aU h) (hA:eK h) (hC:Cl3 h) (hl:h.length≤16) {k:Nat} {q:QS} {sp:List (List aM)} (I:SI (opsR h) n (aU h) p ks kv k q sp):q.2.length≤1015625:=by
 have h1:q.2.length≤((lS (opsR h) n p (aU h)).map (encS p ks)).length:=by
  refine qF _ _ ?_ fun x hx=>?_
  ·refine List.pairwise_iff_getElem.2 fun i j hi hj hij hne=>?_
   have a:=I.ok.uq i _ (List.getElem?_eq_getElem hi)
   have b:=I.ok.uq j _ (List.getElem?_eq_getElem hj)
   rw[hne,b]at a
   have:=Option.some.inj a
   omega
  ·obtain⟨s,hs,hR,rfl⟩:=I.al x hx
   obtain⟨w,hw,hd⟩:=S.word hs (hR.winv S he).2
   refine List.mem_map.2 ⟨s,?_,rfl⟩
   have e0:=hs.ok.e0
   have e1:=hs.era
   have key:∀k:Nat,s.era<k→s∈lS (opsR h) n p k:=by
    intro k
    induction k with
    | zero=>intro h; omega
    | succ k ih =>
     intro hk
     rw[lS,List.mem_append]
     by_cases h2:s.era<k
     ·exact .inl (ih h2)
     ·have h3:s.era=(k:Nat):=by omega
      rw[h3]at hw hd
      exact .inr (List.mem_map.2 ⟨w,hw,hd⟩)
   exact key _ e1
 rw[List.length_map]at h1
 have h2:=rz h n p (aU h) (Nat.le_refl _)
 rw[List.take_of_length_le (by rw[la]; exact Nat.le_refl _)]at h2
 have h3:=tn h [] 0 1 hA hC (by omega) (by rw[show cntP []=0 from rfl]; exact Nat.le_refl _)
 rw[show cntP []=0 from rfl,Nat.one_mul]at h3
 have h4:Vn h.length 0 0≤25*1015625:=by
  have key:∀m,m≤16→Vn m 0 0≤25*1015625:=by
   intro m hm
   have:(List.range 17).all (fun m=>decide (Vn m 0 0≤25*1015625))=true:=by decide+kernel
   exact of_decide_eq_true (List.all_eq_true.1 this m (List.mem_range.2 (by omega)))
  exact key _ hl
 omega
end
end Go.Proofs.Ytkehohfgbblokaa
namespace Go.Proofs.Ytkehohfgbblokaa
open Go.Eng Go.Plain
set_option maxHeartbeats 32000000
set_option maxRecDepth 20000
inductive NowT (l:List HOp) (e:Int):RS→Prop
 | fin {s:RS}:bR s l 0=true→s.era=e-1→NowT l e s
 | step {s:RS}:bR s l 0=true→s.era<e-1→NowT l e (aY s)→NowT l e s
inductive CrP (l:List HOp) (e:Int):RS→RS→Prop
 | refl (s:RS):CrP l e s s
 | step {s t:RS}:bR s l 0=true→s.era<e-1→CrP l e (aY s) t→CrP l e s t
def crF (l:List HOp) (E:Int):Nat→RS→RS
 | 0,t=>t
 | N+1,t=>if decide (t.era<E)&&bR t l 0 then crF l E N (aY t) else t
def dD (f:Nat→HOp→Bool):List HOp→Nat→Int
 | [],_ => -1
 | o::r,i=>if f i o then (i:Int) else dD f r (i+1)
def eo (l:List HOp) (e M:Nat) (s:RS) (i:Nat) (o:HOp):Bool:=(bg (crF l o.era e s) l i o).2&&dO l e M (bg (crF l o.era e s) l i o).1
def eT (l:List HOp) (n e M:Nat):Nat→RS→List Int→List Int×Bool
 | 0,_,_=>([],false)
 | N+1,s,out=>if fH n n l out=0 then (out,true) else
  match l[(dD (eo l e M s) l 0).toNat]? with
  | none=>([],false)
  | some o=>if dD (eo l e M s) l 0<0 then ([],false) else eT l n e M N (bg (bh o.era s) l (dD (eo l e M s) l 0).toNat o).1 (out++[dD (eo l e M s) l 0])
theorem rc {s:RS}:∀(l:List HOp) (k:Nat),bR s l k=true ↔ ∀(j:Nat) (q:HOp),l[j]?=some q→q.era=s.era→bT q=true→hasB s.taken ((k+j:Nat):Int)=true:=by
 intro l
 induction l with
 | nil=>intro k; simp[bR]
 | cons a l ih =>
  intro k
  rw[bR,Bool.and_eq_true,ih]
  constructor
  ·rintro⟨h1,h2⟩ j q hj hq hm
   cases j with
   | zero =>
    simp at hj; subst hj
    rw[hm,dT hq]at h1
    simpa using h1
   | succ j=>rw[show k+(j+1)=k+1+j by omega]; exact h2 j q (by simpa using hj) hq hm
  ·intro h1
   refine⟨?_,fun j q hj hq hm=>by rw[show k+1+j=k+(j+1) by omega]; exact h1 (j+1) q (by simpa using hj) hq hm⟩
   cases ha:decide (a.era=s.era) with
   | false=>rfl
   | true =>
    cases hb:bT a with
    | false=>rfl
    | true =>
     have:=h1 0 a rfl (of_decide_eq_true ha) hb
     rw[Nat.add_zero]at this
     have h2:s.taken.any (fun y=>decide (y=(k:Int)))=true:=this
     rw[h2]; rfl
section
variable {l : List HOp} {n e : Nat} {p : Prep} {ks : List Int} {kv : List (List UInt8)}
theorem CrP.snoc {E:Int} {s t:RS} (h:CrP l E s t) (h1:bR t l 0=true) (h2:t.era<E-1):CrP l E s (aY t):=by
 induction h with
 | refl s=>exact .step h1 h2 (.refl _)
 | step a b _ ih=>exact .step a b (ih h1 h2)
theorem NowT.inv {E:Int} {s:RS} (h:NowT l E s):bR s l 0=true∧(s.era=E-1∨s.era<E-1∧NowT l E (aY s)):=by
 cases h with
 | fin h1 h2=>exact⟨h1,.inl h2⟩
 | step h1 h2 h3=>exact⟨h1,.inr ⟨h2,h3⟩⟩
theorem CrP.now {E:Int} {s t:RS} (h:CrP l E s t):NowT l E s↔NowT l E t:=by
 induction h with
 | refl s=>exact Iff.rfl
 | step a b _ ih =>
  rw[←ih]
  constructor
  ·intro h
   rcases h.inv.2 with h | h
   ·omega
   ·exact h.2
  ·exact fun h=>.step a b h
theorem CrP.era_le {E:Int} {s t:RS} (h:CrP l E s t):s.era≤t.era:=by
 induction h with
 | refl s=>exact Int.le_refl _
 | step a b _ ih=>simp only[aY]at ih; omega
theorem CrP.rg (S:Sc l n e p ks kv) {s t:RS} (h:CrP l e s t):RG l n e p ks kv s→RG l n e p ks kv t∧muR l e t≤muR l e s:=by
 induction h with
 | refl s=>exact fun h=>⟨h,Nat.le_refl _⟩
 | step a b _ ih =>
  intro hs
  obtain⟨h1,h2⟩:=S.rgSteps hs (x:=(-1,aY _)) (cw.2 (.inr ⟨b,a,rfl⟩))
  obtain⟨h3,h4⟩:=ih h1
  exact⟨h3,by simp only at h2; omega⟩
theorem CrP.must {E:Int} {s t:RS} (h:CrP l E s t):∀(j:Nat) (o:HOp),l[j]?=some o→bT o=true→s.era≤o.era→o.era<t.era→o.era=s.era∧hasB s.taken (j:Int)=true:=by
 induction h with
 | refl s=>exact fun j o _ _ h1 h2=>by omega
 | step a b _ ih =>
  intro j o ho hm h1 h2
  rename_i s t _
  by_cases he:o.era=s.era
  ·have:=(rc l 0).1 a j o ho he hm
   rw[Nat.zero_add]at this
   exact⟨he,this⟩
  ·have:=(ih j o ho hm (by simp only[aY]; omega) h2).2
   simp[aY]at this
theorem ia {E:Int} {s:RS} (h:¬s.era<E) (N:Nat):crF l E N s=s:=by
 cases N with
 | zero=>rfl
 | succ N=>rw[crF,dF h,Bool.false_and,if_neg Bool.false_ne_true]
theorem nM {E:Int}:∀(N M:Nat) (s:RS),(E-s.era).toNat≤N→(E-s.era).toNat≤M→crF l E N s=crF l E M s
 | 0,M,s,h1,_=>by rw[ia (by omega),ia (by omega)]
 | N+1,0,s,_,h2=>by rw[ia (by omega),ia (by omega)]
 | N+1,M+1,s,h1,h2=>by
  rw[crF,crF]
  split
  ·rename_i hc
   simp only[Bool.and_eq_true,decide_eq_true_eq]at hc
   exact nM N M (aY s) (by simp only[aY]; omega) (by simp only[aY]; omega)
  ·rfl
theorem CrP.crF {E:Int} {N:Nat} {X:Int} {s t:RS} (h:CrP l X s t) (hE:t.era≤E) (h0:(E-s.era).toNat≤N):crF l E N s=crF l E N t:=by
 induction h with
 | refl s=>rfl
 | step a b hc ih =>
  rename_i s t
  have h1:=hc.era_le
  simp only[aY]at h1
  rw[←ih hE (by simp only[aY]; omega)]
  cases N with
  | zero=>omega
  | succ N =>
   rw[Go.Proofs.Ytkehohfgbblokaa.crF,dT (by omega),a,Bool.true_and,if_pos rfl]
   exact nM N (N+1) (aY s) (by simp only[aY]; omega) (by simp only[aY]; omega)
theorem xy {E:Int}:∀(N:Nat) (s:RS),s.era≤E→(crF l E N s).era=E→crF l E N s=bh E s
 | 0,s,h1,h2=>by
  rw[crF]at h2 ⊢
  rw[bh,if_neg (by omega)]
 | N+1,s,h1,h2=>by
  rw[crF]at h2 ⊢
  split at h2
  ·rename_i hc
   rw[if_pos hc]
   simp only[Bool.and_eq_true,decide_eq_true_eq]at hc
   have key:bh E (aY s)=⟨E,[],s.dur,s.dur⟩:=by
    unfold bh
    by_cases h3:(aY s).era<E
    ·rw[if_pos h3]; rfl
    ·rw[if_neg h3]
     have h4:E=s.era+1:=by simp only[aY]at h3; omega
     rw[h4]; rfl
   rw[xy N (aY s) (by simp only[aY]; omega) h2,key,bh,if_pos hc.1]
  ·rename_i hc
   rw[if_neg hc,bh,if_neg (by omega)]
theorem oX {f:Nat→HOp→Bool} {j:Nat} {o:HOp}:∀(r:List HOp) (i:Nat),r[j]?=some o→f (i+j) o=true→(∀(k:Nat) (q:HOp),k<j→r[k]?=some q→f (i+k) q=false)→dD f r i=((i+j:Nat):Int)
 | [],i,h,_,_=>by simp at h
 | a::r,i,h,h1,h2=>by
  rw[dD]
  cases j with
  | zero =>
   simp at h; subst h
   rw[Nat.add_zero]at h1
   rw[h1,if_pos rfl,Nat.add_zero]
  | succ j =>
   have h3:=h2 0 a (by omega) rfl
   rw[Nat.add_zero]at h3
   rw[h3,if_neg Bool.false_ne_true,oX r (i+1) (j:=j) (by simpa using h) (by rw[show i+1+j=i+(j+1) by omega]; exact h1) fun k q hk hq=>by
    rw[show i+1+k=i+(k+1) by omega]; exact h2 (k+1) q (by omega) (by simpa using hq)]
   congr 1; omega
theorem Sc.nowG (S:Sc l n e p ks kv) {q:QS} {sp:List (List aM)} (I:SI l n e p ks kv q.2.length q sp):∀(N:Nat) (i:Int) (s:RS),RG l n e p ks kv s→(e:Int)-s.era≤N→0≤i→q.2[i.toNat]?=some (encS p ks s)→(kX p l e q.2 sp N i=true↔NowT l e s)
 | 0,_,s,h,hN,_,_=>by have:=h.era; omega
 | N+1,i,s,h,hN,hi0,hi=>by
  have hil:=(List.getElem?_eq_some_iff.1 hi).1
  obtain⟨ys,hys⟩:∃ys,sp[i.toNat]?=some ys:=⟨_,List.getElem?_eq_getElem (by rw[I.len]; exact hil)⟩
  obtain⟨m1,m2⟩:=(I.rel i.toNat s ys h hi hys).mem
  have hspN:spN sp i=ys:=by rw[spN,hys]; rfl
  have hstN:stN q.2 i=encS p ks s:=by rw[stN,hi]; rfl
  have he:(encS p ks s).era=s.era:=rfl
  rw[kX,hspN,hstN,he]
  by_cases h1:s.era=(e:Int)-1
  ·rw[if_pos (dT h1)]
   have:=S.full h
   rw[he]at *
   rw[show iW l p.lo (zOf p s.era) (encS p ks s)=bR s l 0 from S.full h]
   exact⟨fun h2=>.fin h2 h1,fun h2=>h2.inv.1⟩
  ·rw[if_neg (by rw[dF h1]; decide)]
   cases hf:ys.find? (fun y=>decide (y.op<0)) with
   | none =>
    simp only[Bool.false_eq_true,false_iff]
    intro h2
    rcases h2.inv with ⟨a,b | ⟨b,c⟩⟩
    ·exact h1 b
    ·obtain⟨y,hy,e1,_⟩:=m2 _ (cw.2 (.inr ⟨b,a,rfl⟩))
     have:=List.find?_eq_none.1 hf y hy
     rw[e1]at this
     exact this rfl
   | some y =>
    have hyn:y.op<0:=of_decide_eq_true (List.find?_some (p:=fun y:aM=>decide (y.op<0)) hf)
    obtain⟨x,hx,e1,e2,e3⟩:=m1 y (List.mem_of_find?_eq_some hf)
    rcases cw.1 hx with ⟨j,o,_,_,rfl⟩ | ⟨a,b,rfl⟩
    ·simp only at e1; omega
    ·obtain⟨c1,_⟩:=S.rgSteps h hx
     rw[S.nowG I N y.to (aY s) c1 (by simp only[aY]; omega) e2 e3]
     exact⟨fun h2=>.step b a h2,fun h2=>by
      rcases h2.inv.2 with h3 | h3
      ·omega
      ·exact h3.2⟩
theorem StL.find {a:List LSt} {g:List Bool} {f:RS→Bool}:∀ {ys:List aM} {xs:List (Int×RS)},StL p ks a ys xs→(∀y∈ys,∀x∈xs,a[y.to.toNat]?=some (encS p ks x.2)→gJ g y=f x.2) →
  (ys.find? (gJ g)=none∧xs.find? (fun x=>f x.2)=none)∨∃y x,ys.find? (gJ g)=some y∧xs.find? (fun x=>f x.2)=some x∧y.op=x.1∧0≤y.to∧a[y.to.toNat]?=some (encS p ks x.2)
 | [],[],_,_=>.inl ⟨rfl,rfl⟩
 | y::ys,x::xs,⟨h1,h2⟩,hg=>by
  have hb:=hg y List.mem_cons_self x List.mem_cons_self h1.2.2
  rw[List.find?_cons,List.find?_cons,hb]
  cases f x.2 with
  | true=>exact .inr ⟨y,x,rfl,rfl,h1⟩
  | false=>exact StL.find h2 fun y hy x hx=>hg y (List.mem_cons_of_mem _ hy) x (List.mem_cons_of_mem _ hx)
 | [],_::_,h,_=>h.elim
 | _::_,[],h,_=>h.elim
theorem zn {s:RS} {f:RS→Bool}:∀(r:List HOp) (i:Nat),l.drop i=r →
  (match (rStO l s r i).find? (fun x=>f x.2) with
  | none=>∀(j:Nat) (o:HOp),i≤j→l[j]?=some o→((bg s l j o).2&&f (bg s l j o).1)=false
  | some x=>∃(j:Nat) (o:HOp),i≤j∧l[j]?=some o∧(bg s l j o).2=true∧f (bg s l j o).1=true∧x=((j:Int),(bg s l j o).1)∧∀(k:Nat) (q:HOp),i≤k→k<j→l[k]?=some q→((bg s l k q).2&&f (bg s l k q).1)=false)
 | [],i,h=>by
  have hl:l.length≤i:=List.drop_eq_nil_iff.1 h
  intro j o h1 h2
  have:=(List.getElem?_eq_some_iff.1 h2).1
  omega
 | o::r,i,h=>by
  have ho:l[i]?=some o:=by
   have:=congrArg (fun x=>x[0]?) h
   simpa using this
  have hr:l.drop (i+1)=r:=by
   have:=congrArg List.tail h
   simpa using this
  have ih:=zn (s:=s) (f:=f) r (i+1) hr
  rw[rStO,List.find?_append]
  have key:∀(b:Bool),((bg s l i o).2&&f (bg s l i o).1)=b→(rSt1 s l i o).find? (fun x=>f x.2)=if b then some ((i:Int),(bg s l i o).1) else none:=by
   intro b hb
   unfold rSt1
   cases h1:(bg s l i o).2 with
   | false =>
    rw[h1]at hb
    rw[←hb]; rfl
   | true =>
    rw[h1,Bool.true_and]at hb
    rw[if_pos rfl,List.find?_cons]
    simp only[hb]
    cases b <;> rfl
  cases hb:((bg s l i o).2&&f (bg s l i o).1) with
  | true =>
   rw[key true hb]
   simp only[Bool.and_eq_true]at hb
   exact⟨i,o,Nat.le_refl _,ho,hb.1,hb.2,rfl,fun k q h1 h2=>by omega⟩
  | false =>
   rw[key false hb]
   simp only[Bool.false_eq_true,if_false,Option.none_or]
   cases hf:(rStO l s r (i+1)).find? (fun x=>f x.2) with
   | none =>
    rw[hf]at ih
    simp only at ih ⊢
    intro j o' h1 h2
    by_cases hj:j=i
    ·subst hj
     rw[ho]at h2; cases h2
     exact hb
    ·exact ih j o' (by omega) h2
   | some x =>
    rw[hf]at ih
    simp only at ih ⊢
    obtain⟨j,o',h1,h2,h3,h4,h5,h6⟩:=ih
    refine⟨j,o',by omega,h2,h3,h4,h5,fun k q k1 k2 k3=>?_⟩
    by_cases hk:k=i
    ·subst hk
     rw[ho]at k3; cases k3
     exact hb
    ·exact h6 k q (by omega) k2 k3
end
end Go.Proofs.Ytkehohfgbblokaa
