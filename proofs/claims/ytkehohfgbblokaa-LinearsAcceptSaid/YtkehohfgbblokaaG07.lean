/- Texts of the proof: Y27, Y28, Y30, Y31, Y32, Y33, YA, Y34, YO. -/
import Derived.Test.YtkehohfgbblokaaG06
import Derived.Test.YtkehohfgbblokaaG03
import Derived.Test.YtkehohfgbblokaaG04
import Derived.Test.YtkehohfgbblokaaG02

set_option linter.unusedVariables false
set_option linter.unusedSimpArgs false
set_option linter.unusedSectionVars false

namespace Go.Proofs.Ytkehohfgbblokaa
open Go.Eng Go.Plain
set_option maxHeartbeats 32000000
set_option maxRecDepth 20000
attribute [local irreducible] WC RegS RegD SeqQ BlkQ ScoQ RegK CutK Sat SatN FnIs LoopQ am OpIs
def eqN (a b:List Int):Int:=if a=b then 1 else 0
def eqG:List Int→List Int→Int
 | [],[]=>1
 | x::a,y::b=>if x=y then eqG a b else 0
 | _,_=>0
theorem p5:∀(a b:List Int),eqG a b=eqN a b
 | [],[]=>rfl
 | x::a,y::b=>by
  have ih:=p5 a b
  unfold eqN at ih ⊢
  unfold eqG
  by_cases h:x=y
  ·subst h; simp[ih]
  ·simp[h]
 | [],_::_=>by simp[eqG,eqN]
 | _::_,[]=>by simp[eqG,eqN]
theorem tW (a b:List Int) (ha:a.length≤1048576):FnIs Try.prog 25 [.d (kj a),.d (encL b)] [] (.d (i6 (eqN a b))) []:=by
 refine aF aa Try.func25 rfl rfl rfl ?_
 by_cases hl:a.length=b.length
 ·have d1:decide ((a.length:Int)=(b.length:Int))=true:=dT (by omega)
  have d1n:(!decide ((a.length:Int)=(b.length:Int)))=false:=by rw[d1]; rfl
  have d2n:(!decide ((a.length:Int)=(a.length:Int)))=false:=by rw[dT rfl]; rfl
  refine sR<|rC<|zW ?_;refine rC ?_;refine rQ (de aa rfl rfl) ?_;refine rC ?_;refine rQ iE ?_;refine zD ?_;refine rO ?_;refine rC ?_;refine rO ?_;refine rQ (vo aa rfl rfl) ?_;refine rO ?_;refine rC ?_;refine rO ?_;refine rQ (de aa rfl rfl) ?_;refine rO ?_;refine rC ?_;refine rQ iF ?_;refine zG<|kS<|qR ?_;refine rC<|zP ?_
  refine wc_inv (fun i:Nat=>⟨[(5,.int .i64 i),(0,.d (kj a)),(1,.d (encL b))],[],72,Try.f25.ntmps,64⟩) (fun i=>i≤a.length∧eqG (a.drop i) (b.drop i)=eqG a b) (fun i=>a.length-i) 0 [] ⟨Nat.zero_le _,rfl⟩
   (lg zj trivial) ?_
  rintro i ⟨hi,hinv⟩
  refine bP ?_
  by_cases hlt:i<a.length
  ·have d3:decide ((i:Int)<(a.length:Int))=true:=dT (by omega)
   obtain⟨x,hx⟩:∃x,a[i]?=some x:=⟨_,List.getElem?_eq_getElem hlt⟩
   obtain⟨y,hy⟩:∃y,b[i]?=some y:=⟨_,List.getElem?_eq_getElem (by omega)⟩
   have hx2:a[((i:Int)).toNat]?=some x:=by rw[Int.toNat_natCast]; exact hx
   have hy2:b[((i:Int)).toNat]?=some y:=by rw[Int.toNat_natCast]; exact hy
   have hs:eqG (a.drop i) (b.drop i)=if x=y then eqG (a.drop (i+1)) (b.drop (i+1)) else 0:=by
    rw[List.drop_eq_getElem_cons (List.getElem?_eq_some_iff.1 hx).1,(List.getElem?_eq_some_iff.1 hx).2,List.drop_eq_getElem_cons (List.getElem?_eq_some_iff.1 hy).1,(List.getElem?_eq_some_iff.1 hy).2]
    rfl
   rw[hs]at hinv
   by_cases he:x=y
   ·have d4:(!decide (x=y))=false:=by rw[dT he]; rfl
    rw[if_pos he]at hinv
    refine qR<|zD ?_;refine rQ (de aa rfl rfl) ?_;refine rC ?_;refine zI<|zQ<|bw<|aS ?_;refine az (by kernel_rfl) ?_;refine dC [0] [] ?_;refine dC [5] [] ?_;refine dQ [24,25] [] (a9 aa rfl rfl rfl rfl rfl (by omega) hx2) ?_;refine dQ [26] [] iL ?_;refine dC [1] [] ?_;refine dC [5] [] ?_;refine dQ [28,29] [] (aq aa rfl rfl rfl rfl rfl (by omega) hy2) ?_;refine dQ [30] [] iL ?_;refine dC [27,31] [] ?_;refine an (by kernel_rfl)<|aI ?_;refine wF<|aP<|zC<|aj ?_;refine rC ?_;refine rQ iD ?_;refine rC<|au ?_
    exact aJ (i+1) [] ⟨hlt,hinv⟩ (by omega) (lg zj trivial)
   ·have d4:(!decide (x=y))=true:=by rw[dF he]; rfl
    rw[if_neg he]at hinv
    rw[←p5,←hinv]
    refine qR<|zD ?_;refine rQ (de aa rfl rfl) ?_;refine rC ?_;refine zI<|zQ<|bw<|aS ?_;refine az (by kernel_rfl) ?_;refine dC [0] [] ?_;refine dC [5] [] ?_;refine dQ [24,25] [] (a9 aa rfl rfl rfl rfl rfl (by omega) hx2) ?_;refine dQ [26] [] iL ?_;refine dC [1] [] ?_;refine dC [5] [] ?_;refine dQ [28,29] [] (aq aa rfl rfl rfl rfl rfl (by omega) hy2) ?_;refine dQ [30] [] iL ?_;refine dC [27,31] [] ?_;refine an (by kernel_rfl)<|aI ?_;refine wT<|sR ?_;refine rC<|zT<|zB<|ce<|zB ?_
    exact⟨trivial,[],lf⟩
  ·have d3:decide ((i:Int)<(a.length:Int))=false:=dF (by omega)
   rw[List.drop_eq_nil_of_le (by omega),List.drop_eq_nil_of_le (by omega)]at hinv
   rw[←p5,←hinv]
   refine qR<|zD ?_;refine rQ (de aa rfl rfl) ?_;refine rC ?_;refine zG<|zX<|sR ?_;refine rC<|zT ?_
   exact⟨trivial,[],lf⟩
 ·have d1:decide ((a.length:Int)=(b.length:Int))=false:=dF (by omega)
  have d1n:(!decide ((a.length:Int)=(b.length:Int)))=true:=by rw[d1]; rfl
  have he:eqN a b=0:=by rw[eqN,if_neg fun e=>hl (by rw[e])]
  rw[he]
  refine sR<|rC<|zW ?_;refine rC ?_;refine rQ (de aa rfl rfl) ?_;refine rC ?_;refine rQ iE ?_;refine zD ?_
  iterate 5 refine rS ?_
  refine rQ iT ?_;refine zO<|sR ?_;refine rC<|zT<|bu ?_
  exact⟨trivial,[],lf⟩
theorem kF (a:List Int) (ha:a.length≤1048576):FnIs Try.prog 25 [.d (kj a),.d (encL a)] [] (.d (i6 1)) []:=by
 have:=tW a a ha
 rwa [eqN,if_pos rfl]at this
abbrev fndE (o:List Int) (f:Bool) (e:Int):AV :=.tup (.acons (.d (kj o)) (.acons (.bool f) (.acons (.int .i64 e) .anil)))
abbrev legE (f:Bool) (e:Int):AV :=.tup (.acons (.bool f) (.acons (.int .i64 e) .anil))
abbrev stsE (m e:Int):AV :=.tup (.acons (.int .i64 m) (.acons (.int .i64 e) .anil))
theorem tA (H G C1 C2:List HEv) (hb1:FnIs Try.prog 35 [.d (bf cn)] [] (.d (encH H)) []) (hb2:FnIs Try.prog 35 [.d (bf zBk)] [] (.d (encH G)) [])
  (jT:FnIs Try.prog 37 [.bool true] [] (.d (encH C1)) []) (jU:FnIs Try.prog 37 [.bool false] [] (.d (encH C2)) [])
  (hf1:FnIs Try.prog 23 [.d (encH H),.int .i64 1,.int .i64 9] [] (fndE [0,1] true 0) []) (hf2:FnIs Try.prog 23 [.d (encH G),.int .i64 1,.int .i64 9] [] (fndE [1,0] true 0) [])
  (hs1:FnIs Try.prog 21 [.d (encH H),.int .i64 1,.int .i64 3] [] (stsE 3 0) []) (hs2:FnIs Try.prog 21 [.d (encH H),.int .i64 1,.int .i64 2] [] (stsE 0 4) []) (hs3:FnIs Try.prog 21 [.d (encH G),.int .i64 1,.int .i64 4] [] (stsE 4 0) [])
  (hacs:∀(k:Nat) o e,[[1,0],[0],[0,0],[0,1]][k]?=some o→([15,15,1,0]:List Int)[k]?=some e→FnIs Try.prog 18 [.d (encH H),.int .i64 1,.d (encL o)] [] (.d (i6 e)) [])
  (hf3:FnIs Try.prog 23 [.d (encH C1),.int .i64 1,.int .i64 99] [] (fndE [0,1,2,3] true 0) []) (hl1:FnIs Try.prog 22 [.d (encH C2),.int .i64 1,.int .i64 99] [] (legE false 0) [])
  (hl2:FnIs Try.prog 22 [.d (encH (ov++didL rdO cn)),.int .i64 1,.int .i64 99] [] (legE false 0) []) (hf4:FnIs Try.prog 23 [.d (encH (qA++didL rdO cn)),.int .i64 1,.int .i64 99] [] (fndE [0,1,2] true 0) [])
  (hsk:FnIs Try.prog 27 [.d (encH (o4++didL (wrO 1) zBk))] [] (legE false 0) []) (hl3:FnIs Try.prog 22 [.d (encH (o4++didL (wrO 1) zBk)),.int .i64 1,.int .i64 9] [] (legE true 0) []) :
  FnIs Try.prog 12 [] [] (.bool true) []:=by
 refine aF aa Try.func12 rfl rfl rfl ?_;refine sR<|rC<|nR ?_;refine rQ (aA jm rfl rfl ai (.inl rfl) (fun _=>rfl)) ?_;refine rQ (aA hb1 rfl rfl (ak ai) (.inl rfl) (fun _=>rfl)) ?_;refine rQ (bC aa rfl rfl rfl) ?_;refine rQ (aA hb2 rfl rfl (ak ai) (.inl rfl) (fun _=>rfl)) ?_;refine zD<|nR ?_;refine rC ?_;refine rQ (aA hf1 rfl rfl (ak (ak (ak ai))) (.inl rfl) (fun _=>rfl)) ?_;iterate 7 refine rC ?_
 refine nR<|rC ?_;refine rQ (aA hf2 rfl rfl (ak (ak (ak ai))) (.inl rfl) (fun _=>rfl)) ?_;iterate 7 refine rC ?_
 refine nR<|rC ?_;refine rQ (aA hs1 rfl rfl (ak (ak (ak ai))) (.inl rfl) (fun _=>rfl)) ?_;iterate 5 refine rC ?_
 refine nR<|rC ?_;refine rQ (aA hs2 rfl rfl (ak (ak (ak ai))) (.inl rfl) (fun _=>rfl)) ?_;iterate 5 refine rC ?_
 refine nR<|rC ?_;refine rQ (aA hs3 rfl rfl (ak (ak (ak ai))) (.inl rfl) (fun _=>rfl)) ?_;iterate 5 refine rC ?_
 refine zW<|zU ?_;refine rP ?_;refine rC ?_;refine rP ?_;refine rC ?_;refine rQ iG ?_;refine rC ?_;refine rP ?_;refine rC ?_;refine rP ?_;refine rC ?_;refine rQ iG ?_;refine rC ?_;refine rP ?_;refine rC ?_;refine rP ?_;refine rC ?_;refine rQ iG ?_;refine rC ?_;refine rP ?_;refine rC ?_;refine rP ?_;refine rC ?_;refine rQ iG ?_;refine rC ?_;refine rP ?_;refine rC ?_;refine rP ?_;refine rC ?_;refine rQ iG ?_;refine rC ?_;refine rP ?_;refine rC ?_;refine rP ?_;refine rC ?_;refine rQ iG ?_;refine rC ?_;refine rP ?_;refine rC ?_;refine rP ?_;refine rC ?_;refine rQ iG ?_;refine rC ?_;refine rP ?_;refine rC ?_;refine rP ?_;refine rC ?_;refine rQ iG ?_;refine rC ?_;refine rP ?_;refine rC ?_;refine rP ?_;refine rQ (am.frozen (aC (s:=1) aa rfl rfl rfl rfl rfl rfl rfl rfl) (Frz.litsN (enc:=i6) [0,1] rfl (fun _ _=>rfl))) ?_;refine rP ?_;refine rQ (aA (kF [0,1] (by decide)) rfl rfl (ak (ak ai)) (.inl rfl) (fun _=>rfl)) ?_;refine rP ?_;refine rC ?_;refine rP ?_;refine rQ (am.frozen (aC (s:=1) aa rfl rfl rfl rfl rfl rfl rfl rfl) (Frz.litsN (enc:=i6) [1,0] rfl (fun _ _=>rfl))) ?_;refine rP ?_;refine rQ (aA (kF [1,0] (by decide)) rfl rfl (ak (ak ai)) (.inl rfl) (fun _=>rfl)) ?_;refine rP ?_;refine rQ (gm (m:=1) aa rfl rfl rfl) ?_;refine rP ?_;refine rC ?_;refine rQ iG ?_;refine zJ<|kS<|qR ?_;refine rQ (am.frozen (aC (s:=1) aa rfl rfl rfl rfl rfl rfl rfl rfl) (Frz.litsN (enc:=i6) [1,0] rfl (fun _ _=>rfl))) ?_;refine rQ (am.frozen (aC (s:=1) aa rfl rfl rfl rfl rfl rfl rfl rfl) (Frz.litsN (enc:=i6) [0] rfl (fun _ _=>rfl))) ?_;refine rQ (am.frozen (aC (s:=1) aa rfl rfl rfl rfl rfl rfl rfl rfl) (Frz.litsN (enc:=i6) [0,0] rfl (fun _ _=>rfl))) ?_;refine rQ (am.frozen (aC (s:=1) aa rfl rfl rfl rfl rfl rfl rfl rfl) (Frz.litsN (enc:=i6) [0,1] rfl (fun _ _=>rfl))) ?_;refine rQ (am.frozen (aC (s:=1) aa rfl rfl rfl rfl rfl rfl rfl rfl) (Frz.litsN (enc:=encL) [[1,0],[0],[0,0],[0,1]] rfl (fun _ _=>rfl))) ?_;refine rQ iE ?_;refine rC<|zP ?_
 refine wc_inv (fun k:Nat=>⟨[(107,.int .i64 k),(106,.int .i64 4),(105,.d (.arr 1 encL [[1,0],[0],[0,0],[0,1]])),(1,.d (encH H))],[],72,Try.f12.ntmps,64⟩) (fun k=>k≤4) (fun k=>4-k) 0 [] (Nat.zero_le _)
  (lg zi trivial) ?_
 intro k hk
 refine bP ?_
 by_cases h4:k=4
 ·subst h4
  refine sR<|rC<|nQ ?_;refine wG<|zX<|sR ?_;refine rQ (aA jT rfl rfl (ak ai) (.inl rfl) (fun _=>rfl)) ?_;refine rQ (aA hf3 rfl rfl (ak (ak (ak ai))) (.inl rfl) (fun _=>rfl)) ?_;iterate 7 refine rC ?_
  refine nR<|rQ (aA jU rfl rfl (ak ai) (.inl rfl) (fun _=>rfl)) ?_;refine rQ (aA hl1 rfl rfl (ak (ak (ak ai))) (.inl rfl) (fun _=>rfl)) ?_
  iterate 5 refine rC ?_
  refine nR<|rQ (aA (eN 1) rfl rfl (ak ai) (.inl rfl) (fun _=>rfl)) ?_;refine rQ iS ?_;refine rQ (am.val_le (bc aa rfl rfl rfl rfl) (eV 3 0 0 0 0 zBk) rfl) ?_;refine rQ (am.frozen (aC (s:=38) aa rfl rfl rfl rfl rfl rfl rfl rfl) (Frz.litsX (enc:=bM) ov rfl (fun _=>rfl))) ?_;refine rC<|nR ?_;refine rQ (aA (eN 1) rfl rfl (ak ai) (.inl rfl) (fun _=>rfl)) ?_;iterate 2 refine rQ iS ?_
  refine rQ (am.val_le (bc aa rfl rfl rfl rfl) (eV 1 1 3 0 0 zBk) rfl) ?_;refine rQ (am.val_le (bc aa rfl rfl rfl rfl) (eV 3 0 0 0 0 zBk) rfl) ?_;refine rQ (am.frozen (aC (s:=38) aa rfl rfl rfl rfl rfl rfl rfl rfl) (Frz.litsX (enc:=bM) qA rfl (fun _=>rfl))) ?_;refine rC<|nR ?_;refine rC ?_;refine rQ (am.val_le (bc aa rfl rfl rfl rfl) (jK 1 0) rfl) ?_;refine rQ (aA jm rfl rfl ai (.inl rfl) (fun _=>rfl)) ?_;refine rQ (aA (gY rdO cn) rfl rfl (ak (ak ai)) (.inl rfl) (fun _=>rfl)) ?_;refine rQ (am.frozen (dD (s:=38) (enc:=bM) (xs:=ov) (ys:=didL rdO cn) aa rfl rfl rfl rfl rfl rfl (by decide) (by decide) rfl) (Frz.own (by decide))) ?_;refine rQ (aA hl2 rfl rfl (ak (ak (ak ai))) (.inl rfl) (fun _=>rfl)) ?_;iterate 5 refine rC ?_
  refine nR<|rC ?_;refine rQ (am.val_le (bc aa rfl rfl rfl rfl) (jK 1 0) rfl) ?_;refine rQ (aA jm rfl rfl ai (.inl rfl) (fun _=>rfl)) ?_;refine rQ (aA (gY rdO cn) rfl rfl (ak (ak ai)) (.inl rfl) (fun _=>rfl)) ?_;refine rQ (am.frozen (dD (s:=38) (enc:=bM) (xs:=qA) (ys:=didL rdO cn) aa rfl rfl rfl rfl rfl rfl (by decide) (by decide) rfl) (Frz.own (by decide))) ?_;refine rQ (aA hf4 rfl rfl (ak (ak (ak ai))) (.inl rfl) (fun _=>rfl)) ?_;iterate 7 refine rC ?_
  refine zW<|zU ?_;refine rP ?_;refine rC ?_;refine rP ?_;refine rC ?_;refine rQ iG ?_;refine rC ?_;refine rP ?_;refine rC ?_;refine rP ?_;refine rC ?_;refine rQ iG ?_;refine rC ?_;refine rP ?_;refine rC ?_;refine rP ?_;refine rC ?_;refine rQ iG ?_;refine rC ?_;refine rP ?_;refine rC ?_;refine rP ?_;refine rC ?_;refine rQ iG ?_;refine rC ?_;refine rP ?_;refine rC ?_;refine rQ iG ?_;refine rC ?_;refine rP ?_;refine rC ?_;refine rQ iG ?_;refine rC ?_;refine rP ?_;refine rC ?_;refine rP ?_;refine rC ?_;refine rQ iG ?_;refine rC ?_;refine rP ?_;refine rC ?_;refine rP ?_;refine rQ (am.frozen (aC (s:=1) aa rfl rfl rfl rfl rfl rfl rfl rfl) (Frz.litsN (enc:=i6) [0,1,2,3] rfl (fun _ _=>rfl))) ?_;refine rP ?_;refine rQ (aA (kF [0,1,2,3] (by decide)) rfl rfl (ak (ak ai)) (.inl rfl) (fun _=>rfl)) ?_;refine rP ?_;refine rC ?_;refine rP ?_;refine rQ (am.frozen (aC (s:=1) aa rfl rfl rfl rfl rfl rfl rfl rfl) (Frz.litsN (enc:=i6) [0,1,2] rfl (fun _ _=>rfl))) ?_;refine rP ?_;refine rQ (aA (kF [0,1,2] (by decide)) rfl rfl (ak (ak ai)) (.inl rfl) (fun _=>rfl)) ?_;refine rP ?_;refine rQ (gm (m:=1) aa rfl rfl rfl) ?_;refine rP ?_;refine rC ?_;refine rQ iG ?_;refine zJ<|kS<|sR ?_;refine rQ iS ?_;refine rQ (am.val_le (bc aa rfl rfl rfl rfl) (eV 1 0 1 0 0 zBk) rfl) ?_;refine rQ (am.val_le (bc aa rfl rfl rfl rfl) (eV 2 0 0 0 9 zBk) rfl) ?_;refine rQ (am.frozen (aC (s:=38) aa rfl rfl rfl rfl rfl rfl rfl rfl) (Frz.litsX (enc:=bM) o4 rfl (fun _=>rfl))) ?_;refine rQ (aA (eN 1) rfl rfl (ak ai) (.inl rfl) (fun _=>rfl)) ?_;refine rQ (bC aa rfl rfl rfl) ?_;refine rQ (aA (gY (wrO 1) zBk) rfl rfl (ak (ak ai)) (.inl rfl) (fun _=>rfl)) ?_;refine rQ (am.frozen (dD (s:=38) (enc:=bM) (xs:=o4) (ys:=didL (wrO 1) zBk) aa rfl rfl rfl rfl rfl rfl (by decide) (by decide) rfl) (Frz.own (by decide))) ?_;refine rC<|nR ?_;refine rC ?_;refine rQ (aA hsk rfl rfl (ak ai) (.inl rfl) (fun _=>rfl)) ?_;iterate 5 refine rC ?_
  refine nR<|rC ?_;refine rQ (aA hl3 rfl rfl (ak (ak (ak ai))) (.inl rfl) (fun _=>rfl)) ?_;iterate 5 refine rC ?_
  refine nR<|zU ?_;refine rP ?_;refine rC ?_;refine rP ?_;refine rC ?_;refine rQ iU ?_;refine rC ?_;refine rP ?_;refine rC ?_;refine rP ?_;refine rC ?_;refine rQ iU ?_;refine rC ?_;refine rP ?_;refine rC ?_;refine rQ iU ?_;refine rC<|zT ?_
  exact⟨trivial,[],lf⟩
 by_cases h0:k=0
 ·subst h0
  have hac:=hacs 0 [1,0] 15 rfl rfl
  have hod:([[1,0],[0],[0,0],[0,1]]:List (List Int))[(((0:Nat):Int)).toNat]?=some [1,0]:=rfl
  refine sR<|rC<|nQ ?_;refine wV<|zQ<|zS ?_;refine rC ?_;refine rQ (aq aa rfl rfl rfl rfl rfl (by omega) hod) ?_;refine rQ iL ?_;refine zD<|nQ ?_;refine az (by kernel_rfl) ?_;refine dC [1] [] ?_;refine dC [16] [] ?_;refine dQ [112,113] [] (aA hac rfl rfl (ak (ak (ak ai))) (.inl rfl) (fun _=>rfl)) ?_;refine dQ [] [] (iv aa rfl rfl rfl rfl rfl) ?_;refine dC [15] [] ?_;refine dQ [115,116] [] (aB aa (fun K hk=>⟨by decide,by decide,_,rfl,hk⟩)) ?_;refine dC [114,117] [] ?_;refine an (by kernel_rfl)<|aI ?_;refine wG<|aP<|zC<|aj ?_;refine rQ iD ?_;refine rC<|au ?_
  exact aJ 1 [] (by decide) (by decide) (lg zi trivial)
 by_cases h1:k=1
 ·subst h1
  have hac:=hacs 1 [0] 15 rfl rfl
  have hod:([[1,0],[0],[0,0],[0,1]]:List (List Int))[(((1:Nat):Int)).toNat]?=some [0]:=rfl
  refine sR<|rC<|nQ ?_;refine wV<|zQ<|zS ?_;refine rC ?_;refine rQ (aq aa rfl rfl rfl rfl rfl (by omega) hod) ?_;refine rQ iL ?_;refine zD<|nQ ?_;refine az (by kernel_rfl) ?_;refine dC [1] [] ?_;refine dC [16] [] ?_;refine dQ [112,113] [] (aA hac rfl rfl (ak (ak (ak ai))) (.inl rfl) (fun _=>rfl)) ?_;refine dQ [] [] (iv aa rfl rfl rfl rfl rfl) ?_;refine dC [15] [] ?_;refine dQ [115,116] [] (aB aa (fun K hk=>⟨by decide,by decide,_,rfl,hk⟩)) ?_;refine dC [114,117] [] ?_;refine an (by kernel_rfl)<|aI ?_;refine wG<|aP<|zC<|aj ?_;refine rQ iD ?_;refine rC<|au ?_
  exact aJ 2 [] (by decide) (by decide) (lg zi trivial)
 by_cases h2:k=2
 ·subst h2
  have hac:=hacs 2 [0,0] 1 rfl rfl
  have hod:([[1,0],[0],[0,0],[0,1]]:List (List Int))[(((2:Nat):Int)).toNat]?=some [0,0]:=rfl
  refine sR<|rC<|nQ ?_;refine wV<|zQ<|zS ?_;refine rC ?_;refine rQ (aq aa rfl rfl rfl rfl rfl (by omega) hod) ?_;refine rQ iL ?_;refine zD<|nQ ?_;refine az (by kernel_rfl) ?_;refine dC [1] [] ?_;refine dC [16] [] ?_;refine dQ [112,113] [] (aA hac rfl rfl (ak (ak (ak ai))) (.inl rfl) (fun _=>rfl)) ?_;refine dQ [] [] (iv aa rfl rfl rfl rfl rfl) ?_;refine dC [15] [] ?_;refine dQ [115,116] [] (aB aa (fun K hk=>⟨by decide,by decide,_,rfl,hk⟩)) ?_;refine dC [114,117] [] ?_;refine an (by kernel_rfl)<|aI ?_;refine wG<|aP<|zC<|aj ?_;refine rQ iD ?_;refine rC<|au ?_
  exact aJ 3 [] (by decide) (by decide) (lg zi trivial)
 ·obtain rfl:k=3:=by omega
  have hac:=hacs 3 [0,1] 0 rfl rfl
  have hod:([[1,0],[0],[0,0],[0,1]]:List (List Int))[(((3:Nat):Int)).toNat]?=some [0,1]:=rfl
  refine sR<|rC<|nQ ?_;refine wV<|zQ<|zS ?_;refine rC ?_;refine rQ (aq aa rfl rfl rfl rfl rfl (by omega) hod) ?_;refine rQ iL ?_;refine zD<|nQ ?_;refine az (by kernel_rfl) ?_;refine dC [1] [] ?_;refine dC [16] [] ?_;refine dQ [112,113] [] (aA hac rfl rfl (ak (ak (ak ai))) (.inl rfl) (fun _=>rfl)) ?_;refine dQ [] [] (iv aa rfl rfl rfl rfl rfl) ?_;refine dC [15] [] ?_;refine dQ [115,116] [] (aB aa (fun K hk=>⟨by decide,by decide,_,rfl,hk⟩)) ?_;refine dC [114,117] [] ?_;refine an (by kernel_rfl)<|aI ?_;refine wG<|aP<|zC<|aj ?_;refine rQ iD ?_;refine rC<|au ?_
  exact aJ 4 [] (by decide) (by decide) (lg zi trivial)
theorem oz:FnIs Try.prog 12 [] [] (.bool true) []:=by
 have fnd:∀(h:List HEv) (fuel:Int) r,ei h 1 fuel=r→h.length≤100→fuel≤100→FnIs Try.prog 23 [.d (encH h),.int .i64 1,.int .i64 fuel] [] (fndE r.1.1 r.1.2 r.2) []:=fun h fuel r hr hh hf=>by
  have:=qH (jJ h 1 fuel (by omega) (.inl (by omega)) (fun _=>by have:=Nat.mul_le_mul (show fuel.toNat≤100 by omega) (show h.length+1≤101 by omega); omega))
  rwa [hr]at this
 have sts:∀(h:List HEv) (fuel:Int) r,gg h 1 fuel=r→h.length≤100→fuel≤100→FnIs Try.prog 21 [.d (encH h),.int .i64 1,.int .i64 fuel] [] (stsE r.1 r.2) []:=fun h fuel r hr hh hf=>by
  have:=rh (jJ h 1 fuel (by omega) (.inl (by omega)) (fun _=>by have:=Nat.mul_le_mul (show fuel.toNat≤100 by omega) (show h.length+1≤101 by omega); omega))
  rwa [hr]at this
 have leg:∀(h:List HEv) (fuel:Int) (f:Bool) (e:Int),(ei h 1 fuel).1.2=f∧(ei h 1 fuel).2=e→h.length≤100→fuel≤100→FnIs Try.prog 22 [.d (encH h),.int .i64 1,.int .i64 fuel] [] (legE f e) []:=fun h fuel f e hr hh hf=>by
  have:=tB (jJ h 1 fuel (by omega) (.inl (by omega)) (fun _=>by have:=Nat.mul_le_mul (show fuel.toNat≤100 by omega) (show h.length+1≤101 by omega); omega))
  rwa [hr.1,hr.2]at this
 refine tA (dS cn) (dS zBk) (gD true) (gD false) (qT _) (qT _) jT jU (fnd _ 9 _ ex1 (by decide) (by decide)) (fnd _ 9 _ ex2 (by decide) (by decide)) (sts _ 3 _ ex3 (by decide) (by decide)) (sts _ 2 _ ex4 (by decide) (by decide)) (sts _ 4 _ ex5 (by decide) (by decide)) (fun k o e ho he=>?_) (fnd _ 99 _ ex6 (by decide) (by decide)) (leg _ 99 _ _ ex7 (by decide) (by decide)) (leg _ 99 _ _ ex8 (by decide) (by decide)) (fnd _ 99 _ ex9 (by decide) (by decide)) ?_ (leg _ 9 _ _ ex11 (by decide) (by decide))
 ·have hal:(rdH (dS cn)).all.length≤1048576:=Nat.le_trans (ec _) (by decide)
  have key:∀(o:List Int) (e:Int),_root_.Go.Proofs.Ytkehohfgbblokaa.accS 1 (opsH (dS cn)) o=e→o.length≤100→FnIs Try.prog 18 [.d (encH (dS cn)),.int .i64 1,.d (encL o)] [] (.d (i6 e)) []:=fun o e h1 h2=>by
   have:=mO (dS cn) 1 o (by decide) hal (by omega)
   rwa [acA o e h1]at this
  match k,ho,he with
  | 0,ho,he=>cases ho; cases he; exact key _ _ ex12.1 (by decide)
  | 1,ho,he=>cases ho; cases he; exact key _ _ ex12.2.1 (by decide)
  | 2,ho,he=>cases ho; cases he; exact key _ _ ex12.2.2.1 (by decide)
  | 3,ho,he=>cases ho; cases he; exact key _ _ ex12.2.2.2 (by decide)
  | k+4,ho,he=>simp at ho
 ·have hal:(rdH badL).all.length≤1048576:=Nat.le_trans (ec _) (by decide)
  have:=rc badL (by decide) hal
  rw[ex10.1,ex10.2]at this
  exact this
abbrev r01d (b:Bool):AV :=.d (i6 (if b then 1 else 0))
theorem uA (o:HOp) (b:Int):FnIs Try.prog 14 [.d (bg o),.int .i64 b] [] (r01d (mayB o b)) []:=by
 have hb:=m9 o.op b
 refine aF aa Try.func14 rfl rfl rfl ?_
 unfold mayB
 cases hbd:badO o.op b with
 | true =>
  rw[hbd]at hb
  refine sR<|rN ?_;refine rC<|zW ?_;refine rC ?_;refine rQ iB ?_;refine rC ?_;refine rQ (aA hb rfl rfl (ak (ak ai)) (.inl rfl) (fun _=>rfl)) ?_;refine rC ?_;refine zO<|sR ?_;refine rC<|zT<|bu ?_
  exact⟨trivial,[],lf⟩
 | false =>
  rw[hbd]at hb
  cases h1:decide (o.returned<0) with
  | true =>
   refine sR<|rN ?_;refine rC<|zW ?_;refine rC ?_;refine rQ iB ?_;refine rC ?_;refine rQ (aA hb rfl rfl (ak (ak ai)) (.inl rfl) (fun _=>rfl)) ?_;refine rC ?_;refine zJ<|kS<|qR ?_;refine rC ?_;refine rQ iB ?_;refine zD ?_
   iterate 3 refine rS ?_
   refine rQ iT ?_;refine rC ?_;iterate 3 refine rT ?_
   refine rQ iU ?_;refine zO<|sR ?_;refine rC<|zT<|bu ?_
   exact⟨trivial,[],lf⟩
  | false =>
   cases h2:decide (o.err=0) with
   | true =>
    refine sR<|rN ?_;refine rC<|zW ?_;refine rC ?_;refine rQ iB ?_;refine rC ?_;refine rQ (aA hb rfl rfl (ak (ak ai)) (.inl rfl) (fun _=>rfl)) ?_;refine rC ?_;refine zJ<|kS<|qR ?_;refine rC ?_;refine rQ iB ?_;refine zD ?_;refine rO ?_;refine rC ?_;refine rO ?_;refine rQ iB ?_;refine rO ?_;refine rC ?_;refine rQ iF ?_;refine rC ?_;iterate 3 refine rS ?_
    refine rQ iT ?_;refine zO<|sR ?_;refine rC<|zT<|bu ?_
    exact⟨trivial,[],lf⟩
   | false =>
    cases h3:decide (o.err=9) with
    | true =>
     refine sR<|rN ?_;refine rC<|zW ?_;refine rC ?_;refine rQ iB ?_;refine rC ?_;refine rQ (aA hb rfl rfl (ak (ak ai)) (.inl rfl) (fun _=>rfl)) ?_;refine rC ?_;refine zJ<|kS<|qR ?_;refine rC ?_;refine rQ iB ?_;refine zD ?_;refine rO ?_;refine rC ?_;refine rO ?_;refine rQ iB ?_;refine rO ?_;refine rC ?_;refine rQ iF ?_;refine rC ?_;refine rO ?_;refine rC ?_;refine rO ?_;refine rQ iB ?_;refine rO ?_;refine rC ?_;refine rQ iF ?_;refine zI<|sR ?_;refine rC<|zT<|bu ?_
     exact⟨trivial,[],lf⟩
    | false =>
     refine sR<|rN ?_;refine rC<|zW ?_;refine rC ?_;refine rQ iB ?_;refine rC ?_;refine rQ (aA hb rfl rfl (ak (ak ai)) (.inl rfl) (fun _=>rfl)) ?_;refine rC ?_;refine zJ<|kS<|qR ?_;refine rC ?_;refine rQ iB ?_;refine zD ?_;refine rO ?_;refine rC ?_;refine rO ?_;refine rQ iB ?_;refine rO ?_;refine rC ?_;refine rQ iF ?_;refine rC ?_;refine rO ?_;refine rC ?_;refine rO ?_;refine rQ iB ?_;refine rO ?_;refine rC ?_;refine rQ iF ?_;refine zG<|kS<|sR ?_;refine rC<|zT ?_
     exact⟨trivial,[],lf⟩
theorem nX (o:HOp):FnIs Try.prog 16 [.d (bg o)] [] (r01d (cv o)) []:=by
 refine aF aa Try.func16 rfl rfl rfl ?_
 unfold cv
 cases h1:decide (0≤o.returned) with
 | true =>
  cases h2:decide (o.err=0) with
  | true =>
   refine sR<|rN ?_;refine rC<|zW ?_;refine rC ?_;refine rQ iB ?_;refine zD ?_;refine rO ?_;refine rC ?_;refine rO ?_;refine rQ iB ?_;refine rO ?_;refine rC ?_;refine rQ iT ?_;refine zI<|sR ?_;refine rC<|nS<|dq<|bu ?_
   exact⟨trivial,[],lf⟩
  | false =>
   refine sR<|rN ?_;refine rC<|zW ?_;refine rC ?_;refine rQ iB ?_;refine zD ?_;refine rO ?_;refine rC ?_;refine rO ?_;refine rQ iB ?_;refine rO ?_;refine rC ?_;refine rQ iT ?_;refine zG<|kS<|sR ?_;refine rC<|zT ?_
   exact⟨trivial,[],lf⟩
 | false =>
  refine sR<|rN ?_;refine rC<|zW ?_;refine rC ?_;refine rQ iB ?_;refine zD ?_
  iterate 3 refine rS ?_
  refine rQ iF ?_;refine zJ<|kS<|sR ?_;refine rC<|zT ?_
  exact⟨trivial,[],lf⟩
def stB (o p:HOp):Bool:=decide (o.err=9)&&(decide (o.era=p.era)&&(decide (o.returned<p.invoked)&&(decide (0≤p.returned)&&(decide (p.err=0)||decide (p.err=8)))))
def rstV (l:List HOp):Bool := !l.any fun o=>l.any (stB o)
theorem o6 {α:Type} (f:α→Bool) {l:List α} {i:Nat} {o:α} (h:l[i]?=some o):(l.drop i).any f=(f o||(l.drop (i+1)).any f):=by
 have hlt:=(List.getElem?_eq_some_iff.1 h).1
 rw[List.drop_eq_getElem_cons hlt,(List.getElem?_eq_some_iff.1 h).2,List.any_cons]
theorem ie (h:List HEv):∀(n i:Nat) (out:List HOp) (era:Int),(fj h n i out era).length≤out.length+n
 | 0,_,out,_=>by simp[fj]
 | n+1,i,out,era=>by
  rw[fj]
  split
  ·omega
  ·split
   ·have:=ie h n (i+1) out (era+1); omega
   ·split
    ·rename_i x _ _ _
     have:=ie h n (i+1) (out++[mkOp h i x out era]) era
     rw[List.length_append,List.length_singleton]at this
     omega
    ·have:=ie h n (i+1) out era; omega
theorem th (h:List HEv):(opsR h).length≤h.length:=by
 have:=ie h h.length 0 [] 0
 simpa[opsR]using this
structure RS where
 era:Int
 taken:List Int
 arr:List (List UInt8)
 dur:List (List UInt8)
abbrev gM (l:List (List UInt8)):D :=.arr 32 bf l
def gL (s:RS):D :=.cons (i6 s.era) (.cons (eZ s.taken) (.cons (gM s.arr) (.cons (gM s.dur) .nil)))
abbrev lP (l:List (List UInt8)):Row :=.ds 27 32 true bf l
theorem yy {α:Type} {l:List α} {k:Nat} {x z:α} (h:l[k]?=some x):(l.take k++List.replicate (l.length-k) z).set k x=l.take (k+1)++List.replicate (l.length-(k+1)) z:=by
 have hlt:=(List.getElem?_eq_some_iff.1 h).1
 obtain⟨m,hm⟩:∃m,l.length-k=m+1:=⟨l.length-k-1,by omega⟩
 rw[hm,show l.length-(k+1)=m by omega,List.replicate_succ,List.set_append_right _ _ (by rw[List.length_take]; omega),List.length_take,Nat.min_eq_left (by omega),Nat.sub_self,List.set_cons_zero,List.take_add_one,h]
 simp
theorem lO (l:List (List UInt8)) (hl:l.length≤1048576):FnIs Try.prog 65 [.d (gM l)] [] (.own 64 0 l.length 32 none) [(64,lP l)]:=by
 refine aF aa Try.func65 rfl rfl rfl ?_;refine sR<|rC<|nR ?_;refine rC ?_;refine rQ iE ?_;refine aY (cM (enc:=bf) (s:=32) (N:=l.length) aa zBk rfl rfl rfl rfl rfl rfl rfl hl rfl) rfl ?_;refine rC<|zW ?_;refine rC<|zP ?_
 refine wc_inv (fun k:Nat=>⟨[(4,.int .i64 k),(3,.own 65 0 l.length 32 none),(0,.d (gM l))],[(65,some (lP (l.take k++List.replicate (l.length-k) zBk)))],72,Try.f65.ntmps,64⟩) (fun k=>k≤l.length) (fun k=>l.length-k) 0 [(65,some _)] (Nat.zero_le _)
  (lg zj ⟨zR,trivial⟩) ?_
 intro k hk
 refine bP ?_
 by_cases hlt:k<l.length
 ·have d1:decide ((k:Int)<(l.length:Int))=true:=dT (by omega)
  obtain⟨x,hx⟩:∃x,l[k]?=some x:=⟨_,List.getElem?_eq_getElem hlt⟩
  have hx2:l[((k:Int)).toNat]?=some x:=by rw[Int.toNat_natCast]; exact hx
  obtain⟨z0,hz1⟩:∃z0,(l.take k++List.replicate (l.length-k) zBk)[k]?=some z0:=⟨_,List.getElem?_eq_getElem (by rw[List.length_append,List.length_take,List.length_replicate]; omega)⟩
  have hz0:(l.take k++List.replicate (l.length-k) zBk)[((k:Int)).toNat]?=some z0:=by rw[Int.toNat_natCast]; exact hz1
  have hset:(l.take k++List.replicate (l.length-k) zBk).set ((k:Int)).toNat x=l.take (k+1)++List.replicate (l.length-(k+1)) zBk:=by rw[Int.toNat_natCast]; exact yy hx
  refine qR<|zD ?_;refine rQ iE ?_;refine rC ?_;refine zI<|zQ<|bw<|aj ?_;iterate 4 refine rC ?_
  refine rQ (aq aa rfl rfl rfl rfl rfl (by omega) hx2) ?_;refine rQ iL ?_;refine rQ (aL aa rfl rfl rfl rfl rfl (by omega) (by omega)) ?_;refine bG (aH aa rfl rfl rfl ⟨rfl,z0,x,hz0,⟨rfl,rfl,rfl⟩,rfl⟩ rfl)<|au<|zC<|aj ?_;refine rC ?_;refine rQ iD ?_;refine rC<|au ?_
  exact aJ (k+1) [(65,some 65)] hlt (by omega) (lg zj ⟨⟨rfl,rfl,_,rfl,aN.of_eq (congrArg lP hset)⟩,trivial⟩)
 ·have d1:decide ((k:Int)<(l.length:Int))=false:=dF (by omega)
  obtain rfl:k=l.length:=by omega
  rw[List.take_length,Nat.sub_self,List.replicate_zero,List.append_nil]
  refine qR<|zD ?_;refine rQ iE ?_;refine rC ?_;refine zG<|zX<|sR ?_;refine zD<|zT ?_
  exact⟨trivial,[(64,some 65)],lg zV ⟨zR,trivial⟩⟩
theorem fd (l:List (List UInt8)) (hl:l.length≤1048576):FnIs Try.prog 65 [.d (gM l)] [] (.d (gM l)) []:=(lO l hl).freeze_out 64 _ rfl (Frz.own rfl) trivial
def eK (n:Nat):RS:=⟨0,[],List.replicate n zBk,List.replicate n zBk⟩
theorem wx (n:Nat):DLe (.cons (i6 0) (.cons (.sc nil_) (.cons (gM (List.replicate n zBk)) (.cons (gM (List.replicate n zBk)) .nil)))) (gL (eK n)):=by
 rintro w X cs ⟨c1,r1,rfl,h1,c2,r2,rfl,h2,h3⟩
 exact⟨c1,_,rfl,h1,c2,_,rfl,.inl ⟨rfl,h2.1⟩,h3⟩
theorem rn (n:Nat) (hn:n≤1048576):FnIs Try.prog 48 [.int .i64 n] [] (.d (gL (eK n))) []:=by
 refine aF aa Try.func48 rfl rfl rfl ?_;refine sR<|rN<|nQ ?_;refine az (by kernel_rfl) ?_;refine dC [0] [] ?_;refine dQ [3] [] (am.frozen (cM (enc:=bf) (s:=32) (N:=n) aa zBk rfl rfl rfl rfl rfl rfl rfl hn rfl) (Frz.own (by rw[List.length_replicate]))) ?_;refine dC [0] [] ?_;refine dQ [5] [] (am.frozen (cM (enc:=bf) (s:=32) (N:=n) aa zBk rfl rfl rfl rfl rfl rfl rfl hn rfl) (Frz.own (by rw[List.length_replicate]))) ?_;refine dQ [4,6] [] (am.val_le (bc aa rfl rfl rfl rfl) (wx n) rfl) ?_;refine bj [2,7] [64] (aH aa rfl rfl rfl ⟨_,⟨rfl,rfl,rfl⟩,rfl⟩ rfl) ?_;refine an (by kernel_rfl)<|aI<|dq ?_
 exact⟨trivial,_,rfl,[],lf⟩
def jV (s:RS):RS:=⟨s.era+1,[],s.dur,s.dur⟩
theorem wH (e:Int) (d:List (List UInt8)):DLe (.cons (i6 e) (.cons (.sc nil_) (.cons (gM d) (.cons (gM d) .nil)))) (gL ⟨e,[],d,d⟩):=by
 rintro w X cs ⟨c1,r1,rfl,h1,c2,r2,rfl,h2,h3⟩
 exact⟨c1,_,rfl,h1,c2,_,rfl,.inl ⟨rfl,h2.1⟩,h3⟩
theorem n5 (s:RS) (hd:s.dur.length≤1048576) (he:IntKind.i64.wrap (s.era+1)=s.era+1):FnIs Try.prog 51 [.d (gL s)] [] (.d (gL (jV s))) []:=by
 have hc:=fd s.dur hd
 refine aF aa Try.func51 rfl rfl rfl ?_;refine sR ?_;iterate 2 refine rN ?_
 refine nQ<|az (by kernel_rfl) ?_;refine dC [1] [] ?_;refine dQ [3] [64] iB ?_;refine dQ [4] [] (di (m:=s.era+1) aa rfl rfl he) ?_;refine dC [1] [] ?_;refine dQ [6] [64] iB ?_;refine dQ [7] [] (aA hc rfl rfl (ak ai) (.inl rfl) (fun _=>rfl)) ?_;refine dC [1] [] ?_;refine dQ [9] [64] iB ?_;refine dQ [10] [] (aA hc rfl rfl (ak ai) (.inl rfl) (fun _=>rfl)) ?_;refine dQ [5,8,11] [] (am.val_le (bc aa rfl rfl rfl rfl) (wH (s.era+1) s.dur) rfl) ?_;refine bj [2,12] [72] (aH aa rfl rfl rfl ⟨_,⟨rfl,rfl,rfl⟩,rfl⟩ rfl) ?_;refine an (by kernel_rfl)<|aI<|dq ?_
 exact⟨trivial,_,rfl,[],lf⟩
theorem qn (l:List Int) (n:Int) (hl:l.length≤1048576):FnIs Try.prog 49 [.d (eZ l),.int .i64 n] [] (.d (i6 (if l.any (fun y=>decide (y=n))=true then 1 else 0))) []:=by
 refine aF aa Try.func49 rfl rfl rfl ?_;refine sR<|rC<|zW ?_;refine rC<|zP ?_
 refine wc_inv (fun k:Nat=>⟨[(5,.int .i64 k),(1,.int .i64 n),(0,.d (eZ l))],[],72,Try.f49.ntmps,64⟩) (fun k=>k≤l.length∧(l.drop k).any (fun y=>decide (y=n))=l.any (fun y=>decide (y=n))) (fun k=>l.length-k) 0 [] ⟨Nat.zero_le _,rfl⟩
  (lg zj trivial) ?_
 rintro k ⟨hk,hd⟩
 refine bP ?_
 by_cases hlt:k<l.length
 ·have d1:decide ((k:Int)<(l.length:Int))=true:=dT (by omega)
  obtain⟨x,hx⟩:∃x,l[k]?=some x:=⟨_,List.getElem?_eq_getElem hlt⟩
  have hx2:l[((k:Int)).toNat]?=some x:=by rw[Int.toNat_natCast]; exact hx
  rw[o6 _ hx]at hd
  by_cases h2:x=n
  ·have d2:decide (x=n)=true:=dT h2
   rw[d2,Bool.true_or]at hd
   rw[if_pos hd.symm]
   refine qR<|zD ?_;refine rQ iE ?_;refine rC ?_;refine zI<|zQ<|zS ?_;refine zD ?_;refine rQ (aq aa rfl rfl rfl rfl rfl (by omega) hx2) ?_;refine rQ iL ?_;refine zD ?_;refine zI<|sR ?_;refine rC<|zT<|zB<|ce<|zB ?_
   exact⟨trivial,[],lf⟩
  ·have d2:decide (x=n)=false:=dF h2
   rw[d2,Bool.false_or]at hd
   refine qR<|zD ?_;refine rQ iE ?_;refine rC ?_;refine zI<|zQ<|zS ?_;refine zD ?_;refine rQ (aq aa rfl rfl rfl rfl rfl (by omega) hx2) ?_;refine rQ iL ?_;refine zD ?_;refine zG<|aP<|zC<|aj ?_;refine rC ?_;refine rQ iD ?_;refine rC<|au ?_
   exact aJ (k+1) [] ⟨hlt,hd⟩ (by omega) (lg zj trivial)
 ·have d1:decide ((k:Int)<(l.length:Int))=false:=dF (by omega)
  rw[List.drop_eq_nil_of_le (by omega),List.any_nil]at hd
  rw[if_neg (by rw[←hd]; decide)]
  refine qR<|zD ?_;refine rQ iE ?_;refine rC ?_;refine zG<|zX<|sR ?_;refine rC<|zT ?_
  exact⟨trivial,[],lf⟩
theorem sL {α:Type} {l:List α} {i:Nat} {x:α} (h:l[i]?=some x):l.set i x=l:=by
 apply List.ext_getElem?
 intro j
 rw[List.getElem?_set]
 split
 ·rename_i e
  subst e
  rw[if_pos (List.getElem?_eq_some_iff.1 h).1,h]
 ·rfl
def pgAt (l:List (List UInt8)) (i:Int):List UInt8:=l[i.toNat]?.getD zBk
def hapR (s:RS) (o:HOp):RS×Bool :=
 if o.op.kind=1 then (s,!cv o||decide (pgAt s.arr o.op.index=o.value))
 else if o.op.kind=2 then ({ s with arr:=s.arr.set o.op.index.toNat o.op.data },true)
 else ({ s with dur:=s.arr },true)
structure pi (s:RS) (o:HOp):Prop where
 al:s.arr.length≤1048576
 dl:s.dur.length≤1048576
 pg:∀p∈s.arr,p.length=32
 kd:o.op.kind=1∨o.op.kind=2∨o.op.kind=3
 ix:o.op.kind=1∨o.op.kind=2→0≤o.op.index∧o.op.index<s.arr.length
 dt:o.op.kind=2→o.op.data.length=32
abbrev hapE (r:RS×Bool):AV :=.tup (.acons (.d (gL r.1)) (.acons (r01d r.2) .anil))
theorem sX (s:RS) (o:HOp) (h:pi s o) (h1:o.op.kind=1):FnIs Try.prog 52 [.d (gL s),.d (bg o)] [] (hapE (hapR s o)) []:=by
 have hca:=fd s.arr h.al
 have hcd:=fd s.dur h.dl
 have hmu:=nX o
 have k1:decide (o.op.kind=1)=true:=dT h1
 have k2:decide (o.op.kind=2)=false:=dF (by omega)
 have k3:decide (o.op.kind=3)=false:=dF (by omega)
 obtain⟨hi0,hi1⟩:=h.ix (.inl h1)
 obtain⟨x,hx⟩:∃x,s.arr[o.op.index.toNat]?=some x:=⟨_,List.getElem?_eq_getElem (by omega)⟩
 have hp:pgAt s.arr o.op.index=x:=by rw[pgAt,hx]; rfl
 refine aF aa Try.func52 rfl rfl rfl ?_
 rw[hapR,if_pos h1,hp]
 cases hm:cv o with
 | false =>
  rw[hm]at hmu
  refine sR ?_;iterate 3 refine rN ?_
  refine rC<|nQ ?_;refine az (by kernel_rfl) ?_;refine dC [2] [] ?_;refine dQ [8] [64] iB ?_;refine dC [2] [] ?_;refine dQ [10] [64] iB ?_;refine dC [2] [] ?_;refine dQ [12] [64] iB ?_;refine dQ [13] [] (aA hca rfl rfl (ak ai) (.inl rfl) (fun _=>rfl)) ?_;refine dC [2] [] ?_;refine dQ [15] [64] iB ?_;refine dQ [16] [] (aA hcd rfl rfl (ak ai) (.inl rfl) (fun _=>rfl)) ?_;refine dQ [9,11,14,17] [] iS ?_;refine cw [] [] rfl (aB aa (fun K hk=>hk)) ?_;refine bj [6,18] [184] (aH aa rfl rfl rfl ⟨_,⟨rfl,rfl,rfl⟩,rfl⟩ rfl) ?_;refine an (by kernel_rfl)<|aI<|qR ?_;refine zD ?_;refine rQ iB<|zP<|sR ?_;refine zD ?_;refine zI<|aS ?_;refine az (by kernel_rfl) ?_;refine dQ [3] [72] iM ?_;refine dQ [24] [] (aA hmu rfl rfl (ak ai) (.inl rfl) (fun _=>rfl)) ?_;refine dC [25] [] ?_;refine dC [26] [] ?_;refine ae [27,2] rfl rfl rfl rfl ?_;refine ae [27,28] rfl rfl rfl rfl ?_;refine ae [27,3] rfl rfl rfl rfl ?_;refine ae [27,30] rfl rfl rfl rfl ?_;refine ae [27,31] rfl rfl rfl rfl ?_;refine ae [27,29,32] rfl rfl rfl rfl ?_;refine ae [27,33] rfl rfl rfl rfl ?_;refine ae [27,3] rfl rfl rfl rfl ?_;refine ae [27,35] rfl rfl rfl rfl ?_;refine ae [27,34,36] rfl rfl rfl rfl ?_;refine dQ [27,37] [] iG ?_;refine an (by kernel_rfl)<|aI ?_;refine wG<|aP<|zC<|sR ?_;refine rQ iM ?_;refine rW ?_;refine rC<|zT ?_
  exact⟨trivial,_,rfl,[],lf⟩
 | true =>
  rw[hm]at hmu
  by_cases he:x=o.value
  ·have d2:decide (x=o.value)=true:=dT he
   have d1:(!decide (x=o.value))=false:=by rw[d2]; rfl
   rw[d2]
   refine sR ?_;iterate 3 refine rN ?_
   refine rC<|nQ ?_;refine az (by kernel_rfl) ?_;refine dC [2] [] ?_;refine dQ [8] [64] iB ?_;refine dC [2] [] ?_;refine dQ [10] [64] iB ?_;refine dC [2] [] ?_;refine dQ [12] [64] iB ?_;refine dQ [13] [] (aA hca rfl rfl (ak ai) (.inl rfl) (fun _=>rfl)) ?_;refine dC [2] [] ?_;refine dQ [15] [64] iB ?_;refine dQ [16] [] (aA hcd rfl rfl (ak ai) (.inl rfl) (fun _=>rfl)) ?_;refine dQ [9,11,14,17] [] iS ?_;refine cw [] [] rfl (aB aa (fun K hk=>hk)) ?_;refine bj [6,18] [184] (aH aa rfl rfl rfl ⟨_,⟨rfl,rfl,rfl⟩,rfl⟩ rfl) ?_;refine an (by kernel_rfl)<|aI<|qR ?_;refine zD ?_;refine rQ iB<|zP<|sR ?_;refine zD ?_;refine zI<|aS ?_;refine az (by kernel_rfl) ?_;refine dQ [3] [72] iM ?_;refine dQ [24] [] (aA hmu rfl rfl (ak ai) (.inl rfl) (fun _=>rfl)) ?_;refine dC [25] [] ?_;refine dC [26] [] ?_;refine ab [27,2] [] rfl rfl rfl rfl (aB aa (fun K hk=>hk)) ?_;refine ab [27,28] [64] rfl rfl rfl rfl (aK aa rfl rfl ⟨_,rfl,rfl⟩ rfl) ?_;refine ab [27,3] [] rfl rfl rfl rfl (aB aa (fun K hk=>hk)) ?_;refine ab [27,30] [] rfl rfl rfl rfl (aB aa (fun K hk=>hk)) ?_;refine ab [27,31] [72] rfl rfl rfl rfl (aK aa rfl rfl ⟨_,rfl,rfl⟩ rfl) ?_;refine ab [27,29,32] [] rfl rfl rfl rfl (aq aa rfl rfl rfl rfl rfl hi0 hx) ?_;refine ab [27,33] [] rfl rfl rfl rfl (gn aa rfl rfl) ?_;refine ab [27,3] [] rfl rfl rfl rfl (aB aa (fun K hk=>hk)) ?_;refine ab [27,35] [72] rfl rfl rfl rfl (aK aa rfl rfl ⟨_,rfl,rfl⟩ rfl) ?_;refine ab [27,34,36] [] rfl rfl rfl rfl (oh rfl rfl rfl rfl (by kernel_rfl) (by decide) (cu x o.value)) ?_;refine dQ [27,37] [] iU ?_;refine an (by kernel_rfl)<|aI ?_;refine wF<|aP<|zC<|sR ?_;refine rQ iM ?_;refine rW ?_;refine rC<|zT ?_
   exact⟨trivial,_,rfl,[],lf⟩
  ·have d2:decide (x=o.value)=false:=dF he
   have d1:(!decide (x=o.value))=true:=by rw[d2]; rfl
   rw[d2]
   refine sR ?_;iterate 3 refine rN ?_
   refine rC<|nQ ?_;refine az (by kernel_rfl) ?_;refine dC [2] [] ?_;refine dQ [8] [64] iB ?_;refine dC [2] [] ?_;refine dQ [10] [64] iB ?_;refine dC [2] [] ?_;refine dQ [12] [64] iB ?_;refine dQ [13] [] (aA hca rfl rfl (ak ai) (.inl rfl) (fun _=>rfl)) ?_;refine dC [2] [] ?_;refine dQ [15] [64] iB ?_;refine dQ [16] [] (aA hcd rfl rfl (ak ai) (.inl rfl) (fun _=>rfl)) ?_;refine dQ [9,11,14,17] [] iS ?_;refine cw [] [] rfl (aB aa (fun K hk=>hk)) ?_;refine bj [6,18] [184] (aH aa rfl rfl rfl ⟨_,⟨rfl,rfl,rfl⟩,rfl⟩ rfl) ?_;refine an (by kernel_rfl)<|aI<|qR ?_;refine zD ?_;refine rQ iB<|zP<|sR ?_;refine zD ?_;refine zI<|aS ?_;refine az (by kernel_rfl) ?_;refine dQ [3] [72] iM ?_;refine dQ [24] [] (aA hmu rfl rfl (ak ai) (.inl rfl) (fun _=>rfl)) ?_;refine dC [25] [] ?_;refine dC [26] [] ?_;refine ab [27,2] [] rfl rfl rfl rfl (aB aa (fun K hk=>hk)) ?_;refine ab [27,28] [64] rfl rfl rfl rfl (aK aa rfl rfl ⟨_,rfl,rfl⟩ rfl) ?_;refine ab [27,3] [] rfl rfl rfl rfl (aB aa (fun K hk=>hk)) ?_;refine ab [27,30] [] rfl rfl rfl rfl (aB aa (fun K hk=>hk)) ?_;refine ab [27,31] [72] rfl rfl rfl rfl (aK aa rfl rfl ⟨_,rfl,rfl⟩ rfl) ?_;refine ab [27,29,32] [] rfl rfl rfl rfl (aq aa rfl rfl rfl rfl rfl hi0 hx) ?_;refine ab [27,33] [] rfl rfl rfl rfl (gn aa rfl rfl) ?_;refine ab [27,3] [] rfl rfl rfl rfl (aB aa (fun K hk=>hk)) ?_;refine ab [27,35] [72] rfl rfl rfl rfl (aK aa rfl rfl ⟨_,rfl,rfl⟩ rfl) ?_;refine ab [27,34,36] [] rfl rfl rfl rfl (oh rfl rfl rfl rfl (by kernel_rfl) (by decide) (cu x o.value)) ?_;refine dQ [27,37] [] iU ?_;refine an (by kernel_rfl)<|aI ?_;refine wT<|sR ?_;refine rQ iM ?_;refine rW ?_;refine rC<|zT<|zB ?_
   exact⟨trivial,_,rfl,[],lf⟩
theorem sV (s:RS) (o:HOp) (h:pi s o) (h3:o.op.kind=3):FnIs Try.prog 52 [.d (gL s),.d (bg o)] [] (hapE (hapR s o)) []:=by
 have hca:=fd s.arr h.al
 have hcd:=fd s.dur h.dl
 have k1:decide (o.op.kind=1)=false:=dF (by omega)
 have k2:decide (o.op.kind=2)=false:=dF (by omega)
 have k3:decide (o.op.kind=3)=true:=dT h3
 refine aF aa Try.func52 rfl rfl rfl ?_
 rw[hapR,if_neg (by omega),if_neg (by omega)]
 refine sR ?_;iterate 3 refine rN ?_
 refine rC<|nQ ?_;refine az (by kernel_rfl) ?_;refine dC [2] [] ?_;refine dQ [8] [64] iB ?_;refine dC [2] [] ?_;refine dQ [10] [64] iB ?_;refine dC [2] [] ?_;refine dQ [12] [64] iB ?_;refine dQ [13] [] (aA hca rfl rfl (ak ai) (.inl rfl) (fun _=>rfl)) ?_;refine dC [2] [] ?_;refine dQ [15] [64] iB ?_;refine dQ [16] [] (aA hcd rfl rfl (ak ai) (.inl rfl) (fun _=>rfl)) ?_;refine dQ [9,11,14,17] [] iS ?_;refine cw [] [] rfl (aB aa (fun K hk=>hk)) ?_;refine bj [6,18] [184] (aH aa rfl rfl rfl ⟨_,⟨rfl,rfl,rfl⟩,rfl⟩ rfl) ?_;refine an (by kernel_rfl)<|aI<|qR ?_;refine zD ?_;refine rQ iB<|zP<|sR ?_;refine zD ?_;refine zG<|sR ?_;refine zD ?_;refine zG<|sR ?_;refine zD ?_;refine zI<|aj ?_;refine rC ?_;refine rQ iB ?_;refine rQ (aA hca rfl rfl (ak ai) (.inl rfl) (fun _=>rfl)) ?_;refine rC ?_;refine rX<|au<|zC<|sR ?_;refine rQ iM ?_;refine rW ?_;refine rC<|zT ?_
 exact⟨trivial,_,rfl,[],lf⟩
abbrev wc (s:RS) (n:Nat):Row :=.box 100 (.acons (.d (i6 s.era)) (.acons (.d (eZ s.taken)) (.acons (.own n 0 s.arr.length 32 none) (.acons (.d (gM s.dur)) (.d .nil)))))
theorem sW (s:RS) (o:HOp) (h:pi s o) (h2:o.op.kind=2):FnIs Try.prog 52 [.d (gL s),.d (bg o)] [] (.tup (.acons (.acons (.d (i6 s.era)) (.acons (.d (eZ s.taken)) (.acons (.own 64 0 s.arr.length 32 none) (.acons (.d (gM s.dur)) (.d .nil))))) (.acons (r01d true) .anil))) [(64,lP (s.arr.set o.op.index.toNat o.op.data))]:=by
 have hca:=lO s.arr h.al
 have hcd:=fd s.dur h.dl
 have k1:decide (o.op.kind=1)=false:=dF (by omega)
 have k2:decide (o.op.kind=2)=true:=dT h2
 have k3:decide (o.op.kind=3)=false:=dF (by omega)
 obtain⟨hi0,hi1⟩:=h.ix (.inr h2)
 have hdl:=h.dt h2
 obtain⟨x,hx⟩:∃x,s.arr[o.op.index.toNat]?=some x:=⟨_,List.getElem?_eq_getElem (by omega)⟩
 have hxl:x.length=32:=h.pg x (List.mem_of_getElem? hx)
 have hset0:s.arr=s.arr.set o.op.index.toNat (o.op.data.take 0++x.drop 0):=by
  rw[List.take_zero,List.nil_append,List.drop_zero]
  exact (sL hx).symm
 refine aF aa Try.func52 rfl rfl rfl ?_;refine sR ?_;iterate 3 refine rN ?_
 refine rC<|nQ ?_;refine az (by kernel_rfl) ?_;refine dC [2] [] ?_;refine dQ [8] [64] iB ?_;refine dC [2] [] ?_;refine dQ [10] [64] iB ?_;refine dC [2] [] ?_;refine dQ [12] [64] iB ?_;refine cw [13] [] rfl (aX [] hca rfl rfl rfl (ak ai) trivial rfl rfl (.inl rfl) rfl rfl) ?_;refine dC [2] [] ?_;refine dQ [15] [64] iB ?_;refine dQ [16] [] (aA hcd rfl rfl (ak ai) (.inl rfl) (fun _=>rfl)) ?_;refine dQ [9,11,14,17] [144] iS ?_;refine cw [] [] rfl (aB aa (fun K hk=>hk)) ?_;refine bj [6,18] [184] (aH aa rfl rfl rfl ⟨_,⟨rfl,rfl,rfl⟩,rfl⟩ rfl) ?_;refine an (by kernel_rfl)<|aI<|qR ?_;refine zD ?_;refine rQ iB<|zP<|sR ?_;refine zD ?_;refine zG<|sR ?_;refine zD ?_;refine zI<|sR ?_;refine rC<|zP ?_
 refine wc_inv (fun k:Nat=>⟨[(7,.int .i64 k),(6,.ptr 66 []),(4,.ptr 67 []),(3,.ptr 65 []),(2,.ptr 64 [])],[(64,some (.box 100 (.d (gL s)))),(65,some (qs o)),(66,some (wc s 68)),(67,some (.box 100 (.d r100.zero))),(68,some (lP (s.arr.set o.op.index.toNat (o.op.data.take k++x.drop k))))],72,Try.f52.ntmps,64⟩) (fun k=>k≤32) (fun k=>32-k) 0 [(64,some _),(65,some _),(66,some _),(67,some _),(68,some _)] (Nat.zero_le _)
  (lg zh ⟨zR,zR,zR,zR,⟨rfl,rfl,_,rfl,aN.of_eq (congrArg lP hset0)⟩,trivial⟩) ?_
 intro k hk
 refine bP ?_
 by_cases hlt:k<32
 ·have d5:decide ((k:Int)<32)=true:=dT (by omega)
  obtain⟨y,hy⟩:∃y,o.op.data[k]?=some y:=⟨_,List.getElem?_eq_getElem (by omega)⟩
  obtain⟨z,hz⟩:∃z,x[k]?=some z:=⟨_,List.getElem?_eq_getElem (by omega)⟩
  have hbl:(byI o.op.data).length=o.op.data.length:=eM _
  have hy2:(byI o.op.data)[((k:Int)).toNat]?=some ((y.toNat:Nat):Int):=by rw[Int.toNat_natCast]; exact qS hy
  obtain⟨e0,he0⟩:∃e0:Int,((z.toNat:Nat):Int)=e0:=⟨_,rfl⟩
  have htl:(o.op.data.take k).length=k:=by rw[List.length_take]; omega
  have hgm:(o.op.data.take k++x.drop k)[k]?=some z:=by rw[List.getElem?_append_right (by omega),htl,Nat.sub_self,List.getElem?_drop,Nat.add_zero]; exact hz
  have hgb:(byI (o.op.data.take k++x.drop k))[((k:Int)).toNat]?=some e0:=by rw[Int.toNat_natCast,←he0]; exact qS hgm
  have hset:(byI (o.op.data.take k++x.drop k)).set ((k:Int)).toNat ((y.toNat:Nat):Int)=byI (o.op.data.take (k+1)++x.drop (k+1)):=by
   rw[Int.toNat_natCast,byI,byI,←List.map_set,List.set_append_right _ _ (by omega),htl,Nat.sub_self,List.drop_eq_getElem_cons (by omega:k<x.length),List.set_cons_zero,List.take_add_one,hy]
   simp
  have hga:(s.arr.set o.op.index.toNat (o.op.data.take k++x.drop k))[o.op.index.toNat]?=some (o.op.data.take k++x.drop k):=by rw[List.getElem?_set_self (by omega)]
  have hss:(s.arr.set o.op.index.toNat (o.op.data.take k++x.drop k)).set o.op.index.toNat (o.op.data.take (k+1)++x.drop (k+1))=s.arr.set o.op.index.toNat (o.op.data.take (k+1)++x.drop (k+1)):=List.set_set ..
  refine qR<|zD ?_;refine zI<|zQ<|bw ?_;refine az (by kernel_rfl) ?_;refine dC [6] [] ?_;refine dQ [46] [66] iM ?_;refine dC [3] [] ?_;refine dC [48] [] ?_;refine dQ [49] [65] iB ?_;refine dC [7] [] ?_;refine dC [3] [] ?_;refine dC [52] [] ?_;refine dQ [53] [65] iB ?_;refine dC [7] [] ?_;refine dQ [54,55] [] (aq aa rfl rfl rfl rfl rfl (by omega) hy2) ?_;refine dQ [56] [] iL ?_;refine dQ [47,50] [] (aL aa rfl rfl rfl rfl rfl hi0 hi1) ?_;refine dQ [58,51] [] (aB aa (fun K hk=>⟨by omega,by omega,hk⟩)) ?_;refine bj [59,57] [68] (aH aa rfl rfl rfl ⟨rfl,_,o.op.data.take (k+1)++x.drop (k+1),hga,⟨rfl,e0,((y.toNat:Nat):Int),hgb,⟨rfl,rfl,rfl⟩,congrArg (D.vec 32 1 cp) hset.symm⟩,rfl⟩ rfl) ?_;refine an (by kernel_rfl)<|zC<|aj ?_;refine rC ?_;refine rQ iD ?_;refine rC<|au ?_
  exact aJ (k+1) [(64,some _),(65,some _),(66,some _),(67,some _),(68,some _)] hlt (by omega) (lg zh ⟨zR,zR,zR,zR,⟨rfl,rfl,_,rfl,aN.of_eq (congrArg lP hss)⟩,trivial⟩)
 ·have d5:decide ((k:Int)<32)=false:=dF (by omega)
  have hfin:o.op.data.take k++x.drop k=o.op.data:=by rw[List.take_of_length_le (by omega),List.drop_eq_nil_of_le (by omega),List.append_nil]
  rw[hfin]
  refine qR<|zD ?_;refine zG<|bO<|cJ<|dO<|cP<|zC<|sR ?_;refine rQ iM ?_;refine rW ?_;refine rC<|zT ?_
  exact⟨trivial,_,rfl,[(64,some 68)],lg zV ⟨zR,trivial⟩⟩
theorem pA (s:RS) (o:HOp) (h:pi s o):FnIs Try.prog 52 [.d (gL s),.d (bg o)] [] (hapE (hapR s o)) []:=by
 rcases h.kd with k | k | k
 ·exact sX s o h k
 ·have:hapR s o=({ s with arr:=s.arr.set o.op.index.toNat o.op.data },true):=by rw[hapR,if_neg (by omega),if_pos k]
  rw[this]
  exact (sW s o h k).freeze_out 64 _ rfl (Frz.tup (.cons (Frz.dcons (.refl _) (Frz.dcons (.refl _) (Frz.dcons (Frz.own (by rw[List.length_set])) (Frz.dcons (.refl _) (.refl _))))) (.cons (.refl _) .nil))) trivial
 ·exact sV s o h k
def cl (e:Int) (s:RS):RS:=if s.era<e then⟨e,[],s.dur,s.dur⟩ else s
def befA (l:List HOp) (o:HOp) (j:Int):Bool:=match l[j.toNat]? with
 | some p=>befB o p
 | none=>false
def fA (b:Int) (l:List HOp):List Int→List Int→RS→Int
 | [],_,_=>0
 | i::os,pre,s=>if i<0 then 1 else match l[i.toNat]? with
  | none=>1
  | some o=>if pre.any (fun y=>decide (y=i))=true then 1 else if mayB o b=false then 1 else if pre.any (befA l o)=true then 13
   else if (hapR (cl o.era s) o).2=false then 15 else fA b l os (pre++[i]) (hapR (cl o.era s) o).1
def gK (ord:List Int):List HOp→Nat→Bool
 | [],_=>false
 | o::l,k=>(cv o && !ord.any (fun y=>decide (y=(k:Int))))||gK ord l (k+1)
def j9 (b:Int) (n:Nat) (l:List HOp) (order:List Int):Int :=
 if fA b l order [] (eK n)=0 then (if gK order l 0=true then 15 else 0) else fA b l order [] (eK n)
structure RSOk (n:Nat) (s:RS):Prop where
 al:s.arr.length=n
 dl:s.dur.length=n
 ap:∀p∈s.arr,p.length=32
 dp:∀p∈s.dur,p.length=32
 e0:0≤s.era
 e1:s.era≤1000000
theorem RSOk.first (n:Nat):RSOk n (eK n):=
 ⟨List.length_replicate,List.length_replicate,fun p hp=>by rw[(List.mem_replicate.1 hp).2]; rfl,fun p hp=>by rw[(List.mem_replicate.1 hp).2]; rfl,Int.le_refl _,by show (0:Int)≤1000000; decide⟩
theorem RSOk.crash {n:Nat} {s:RS} (h:RSOk n s) (he:s.era<1000000):RSOk n (jV s):=⟨h.dl,h.dl,h.dp,h.dp,by have:=h.e0; show 0≤s.era+1; omega,by show s.era+1≤1000000; omega⟩
theorem RSOk.to {n:Nat} {s:RS} (h:RSOk n s) {e:Int} (he:e≤1000000):RSOk n (cl e s):=by
 unfold cl
 split
 ·exact⟨h.dl,h.dl,h.dp,h.dp,by have:=h.e0; show 0≤e; omega,he⟩
 ·exact h
theorem qv {o:HOp} {n:Nat} (h:mayB o n=true):(o.op.kind=1∨o.op.kind=2∨o.op.kind=3)∧(o.op.kind=1∨o.op.kind=2→0≤o.op.index∧o.op.index<n)∧(o.op.kind=2→o.op.data.length=32):=by
 unfold mayB badO outO at h
 by_cases k1:o.op.kind=1
 ·simp[k1]at h
  exact⟨.inl k1,fun _=>by omega,fun k=>by omega⟩
 ·by_cases k2:o.op.kind=2
  ·simp[k2]at h
   exact⟨.inr (.inl k2),fun _=>by omega,fun _=>h.1.2⟩
  ·simp[k1,k2]at h
   exact⟨.inr (.inr h.1),fun k=>by omega,fun k=>by omega⟩
theorem RSOk.hap {n:Nat} (hn:n≤1048576) {s:RS} (h:RSOk n s) {o:HOp} (hm:mayB o n=true):pi s o∧RSOk n (hapR s o).1:=by
 obtain⟨m1,m2,m3⟩:=qv hm
 refine⟨⟨by rw[h.al]; exact hn,by rw[h.dl]; exact hn,h.ap,m1,fun k=>by rw[h.al]; exact m2 k,m3⟩,?_⟩
 unfold hapR
 split
 ·exact h
 ·split
  ·rename_i k2
   exact⟨by simp only[List.length_set]; exact h.al,h.dl,fun p hp=>by
    rcases List.mem_or_eq_of_mem_set hp with hp | rfl
    ·exact h.ap p hp
    ·exact m3 k2,h.dp,h.e0,h.e1⟩
  ·exact⟨h.al,h.al,h.ap,h.ap,h.e0,h.e1⟩
theorem pK {b:Int} {l:List HOp} {order:List Int} {k:Nat} {i:Int} (h:order[k]?=some i) (pre:List Int) (s:RS):fA b l (order.drop k) pre s=fA b l (i::order.drop (k+1)) pre s:=by
 have hlt:=(List.getElem?_eq_some_iff.1 h).1
 rw[List.drop_eq_getElem_cons hlt,(List.getElem?_eq_some_iff.1 h).2]
theorem rl {ord:List Int} {l:List HOp} {k:Nat} {o:HOp} (h:l[k]?=some o):gK ord (l.drop k) k=((cv o && !ord.any (fun y=>decide (y=(k:Int))))||gK ord (l.drop (k+1)) (k+1)):=by
 have hlt:=(List.getElem?_eq_some_iff.1 h).1
 rw[List.drop_eq_getElem_cons hlt,(List.getElem?_eq_some_iff.1 h).2,gK]
abbrev sP (s:RS):Row :=.box 100 (.d (gL s))
theorem pJ (h:List HEv) (n:Nat) (order:List Int) (l:List HOp) (hop:FnIs Try.prog 26 [.d (encH h)] [] (.d (dY l)) []) (hL:l.length≤1000000) (hn:n≤1000000) (hO:order.length≤1000000) (hE:∀o∈l,0≤o.era∧o.era≤1000000):FnIs Try.prog 19 [.d (encH h),.int .i64 n,.d (eZ order)] [] (.d (i6 (j9 n n l order))) []:=by
 have hfi:=rn n (by omega)
 refine aF aa Try.func19 rfl rfl rfl ?_
 have fin:∀v,v≠0→fA n l order [] (eK n)=v→j9 n n l order=v:=fun v hv e=>by rw[j9,e,if_neg hv]
 have fin0:∀c,fA n l order [] (eK n)=0→gK order l 0=c→j9 n n l order=if c=true then 15 else 0:=fun c e e2=>by rw[j9,e,if_pos rfl,e2]
 refine sR<|rC<|nR ?_;refine rC ?_;refine rQ (aA hop rfl rfl (ak ai) (.inl rfl) (fun _=>rfl)) ?_;refine rC<|nR ?_;refine rC ?_;refine rQ (aA hfi rfl rfl (ak ai) (.inl rfl) (fun _=>rfl)) ?_;refine rN ?_;refine rW<|zW ?_;refine rC<|zP ?_
 refine wc_inv (fun q:Nat×RS=>⟨[(9,.int .i64 q.1),(8,.ptr 64 []),(7,.d (dY l)),(2,.d (eZ order)),(1,.int .i64 n)],[(64,some (sP q.2))],72,Try.f19.ntmps,64⟩) (fun q=>q.1≤order.length∧RSOk n q.2∧(∀y∈order.take q.1,0≤y∧y<l.length)∧fA n l (order.drop q.1) (order.take q.1) q.2=fA n l order [] (eK n)) (fun q=>order.length-q.1) (0,eK n) [(64,some _)] ⟨Nat.zero_le _,.first n,fun y hy=>(by simp at hy),rfl⟩
  (lg zh ⟨zR,trivial⟩) ?_
 rintro⟨k,s⟩ ⟨hk,hs,hr,hg⟩
 simp only at hk hs hr hg
 refine bP ?_
 by_cases hlt:k<order.length
 ·have d1:decide ((k:Int)<(order.length:Int))=true:=dT (by omega)
  obtain⟨i,hi⟩:∃i,order[k]?=some i:=⟨_,List.getElem?_eq_getElem hlt⟩
  have hi2:order[((k:Int)).toNat]?=some i:=by rw[Int.toNat_natCast]; exact hi
  rw[pK hi,fA]at hg
  have htk:order.take (k+1)=order.take k++[i]:=by rw[List.take_add_one,hi]; rfl
  have htl:(order.take k).length=k:=by rw[List.length_take]; omega
  refine qR<|zD ?_;refine rQ iE ?_;refine rC ?_;refine zI<|zQ<|zS ?_;refine zD ?_;refine rQ (aq aa rfl rfl rfl rfl rfl (by omega) hi2) ?_;refine rQ iL ?_;refine rC<|zW ?_;refine zU ?_
  by_cases h1:i<0
  ·have e1:decide (i<0)=true:=dT h1
   rw[if_pos h1]at hg
   rw[fin 1 (by decide) hg.symm]
   iterate 4 refine rS ?_
   refine rQ iT ?_;refine rC ?_;iterate 6 refine rT ?_
   refine rQ iU ?_;refine rC ?_;iterate 7 refine rT ?_
   refine rQ iU ?_;refine zO<|sR ?_;refine rC<|zT<|bu<|zB<|ce<|zB ?_
   exact⟨trivial,[],lf⟩
  have e1:decide (i<0)=false:=dF h1
  have hi0:0≤i:=by omega
  rw[if_neg h1]at hg
  by_cases h2:(l.length:Int)≤i
  ·have e2:decide ((l.length:Int)≤i)=true:=dT h2
   rw[List.getElem?_eq_none (by omega)]at hg
   simp only at hg
   rw[fin 1 (by decide) hg.symm]
   refine rO ?_;refine rC ?_;refine rO ?_;refine rC ?_;refine rO ?_;refine rQ iE ?_;refine rO ?_;refine rC ?_;refine rQ iF ?_;refine rC ?_;iterate 6 refine rS ?_
   refine rQ iT ?_;refine rC ?_;iterate 7 refine rT ?_
   refine rQ iU ?_;refine zO<|sR ?_;refine rC<|zT<|bu<|zB<|ce<|zB ?_
   exact⟨trivial,[],lf⟩
  have e2:decide ((l.length:Int)≤i)=false:=dF h2
  obtain⟨o,ho⟩:∃o,l[i.toNat]?=some o:=⟨_,List.getElem?_eq_getElem (by omega)⟩
  rw[ho]at hg
  simp only at hg
  obtain⟨he0,he1⟩:=hE o (List.mem_of_getElem? ho)
  have hha:=qn (order.take k) i (by omega)
  have hma:=uA o n
  cases h3:(order.take k).any (fun y=>decide (y=i)) with
  | true =>
   rw[if_pos h3]at hg
   rw[h3]at hha
   rw[fin 1 (by decide) hg.symm]
   refine rO ?_;refine rC ?_;refine rO ?_;refine rC ?_;refine rO ?_;refine rQ iE ?_;refine rO ?_;refine rC ?_;refine rQ iF ?_;refine rC ?_;refine rO ?_;refine rC ?_;refine rO ?_;refine rC ?_;refine rO ?_;refine rQ (je (m:=(k:Int)) aa rfl rfl rfl rfl (by omega) (by omega)) ?_;refine rO ?_;refine rC ?_;refine rO ?_;refine rQ (aA hha rfl rfl (ak (ak ai)) (.inl rfl) (fun _=>rfl)) ?_;refine rO ?_;refine rC ?_;refine rQ iF ?_;refine rC ?_;iterate 7 refine rT ?_
   refine rQ iU ?_;refine zO<|sR ?_;refine rC<|zT<|bu<|zB<|ce<|zB ?_
   exact⟨trivial,[],lf⟩
  | false =>
  rw[if_neg (by rw[h3]; decide)]at hg
  rw[h3]at hha
  cases h4:mayB o n with
  | false =>
   rw[if_pos h4]at hg
   rw[h4]at hma
   rw[fin 1 (by decide) hg.symm]
   refine rO ?_;refine rC ?_;refine rO ?_;refine rC ?_;refine rO ?_;refine rQ iE ?_;refine rO ?_;refine rC ?_;refine rQ iF ?_;refine rC ?_;refine rO ?_;refine rC ?_;refine rO ?_;refine rC ?_;refine rO ?_;refine rQ (je (m:=(k:Int)) aa rfl rfl rfl rfl (by omega) (by omega)) ?_;refine rO ?_;refine rC ?_;refine rO ?_;refine rQ (aA hha rfl rfl (ak (ak ai)) (.inl rfl) (fun _=>rfl)) ?_;refine rO ?_;refine rC ?_;refine rQ iF ?_;refine rC ?_;refine rP ?_;refine rC ?_;refine rP ?_;refine rC ?_;refine rP ?_;refine rQ (aq aa rfl rfl rfl rfl rfl hi0 ho) ?_;refine rP ?_;refine rQ iL ?_;refine rP ?_;refine rC ?_;refine rP ?_;refine rQ (aA hma rfl rfl (ak (ak ai)) (.inl rfl) (fun _=>rfl)) ?_;refine rP ?_;refine rC ?_;refine rQ iG ?_;refine zO<|sR ?_;refine rC<|zT<|bu<|zB<|ce<|zB ?_
   exact⟨trivial,[],lf⟩
  | true =>
  rw[if_neg (by rw[h4]; decide)]at hg
  rw[h4]at hma
  refine rO ?_;refine rC ?_;refine rO ?_;refine rC ?_;refine rO ?_;refine rQ iE ?_;refine rO ?_;refine rC ?_;refine rQ iF ?_;refine rC ?_;refine rO ?_;refine rC ?_;refine rO ?_;refine rC ?_;refine rO ?_;refine rQ (je (m:=(k:Int)) aa rfl rfl rfl rfl (by omega) (by omega)) ?_;refine rO ?_;refine rC ?_;refine rO ?_;refine rQ (aA hha rfl rfl (ak (ak ai)) (.inl rfl) (fun _=>rfl)) ?_;refine rO ?_;refine rC ?_;refine rQ iF ?_;refine rC ?_;refine rP ?_;refine rC ?_;refine rP ?_;refine rC ?_;refine rP ?_;refine rQ (aq aa rfl rfl rfl rfl rfl hi0 ho) ?_;refine rP ?_;refine rQ iL ?_;refine rP ?_;refine rC ?_;refine rP ?_;refine rQ (aA hma rfl rfl (ak (ak ai)) (.inl rfl) (fun _=>rfl)) ?_;refine rP ?_;refine rC ?_;refine rQ iG ?_;refine zJ<|kS<|qR ?_;refine rC<|zP ?_
  refine wc_inv (fun j:Nat=>⟨[(11,.int .i64 j),(10,.int .i64 i),(9,.int .i64 k),(8,.ptr 64 []),(7,.d (dY l)),(2,.d (eZ order)),(1,.int .i64 n)],[(64,some (sP s))],72,Try.f19.ntmps,64⟩) (fun j=>j≤k∧((order.take k).drop j).any (befA l o)=(order.take k).any (befA l o)) (fun j=>k-j) 0 [(64,some _)] ⟨Nat.zero_le _,rfl⟩
   (lg zf ⟨zR,trivial⟩) ?_
  rintro j ⟨hj,hja⟩
  refine bP ?_
  by_cases hjt:j<k
  ·have d2:decide ((j:Int)<(k:Int))=true:=dT (by omega)
   obtain⟨y,hy⟩:∃y,order[j]?=some y:=⟨_,List.getElem?_eq_getElem (by omega)⟩
   have hy2:order[((j:Int)).toNat]?=some y:=by rw[Int.toNat_natCast]; exact hy
   have hyt:(order.take k)[j]?=some y:=by rw[List.getElem?_take_of_lt hjt]; exact hy
   obtain⟨hy0,hyl⟩:=hr y (List.mem_of_getElem? hyt)
   obtain⟨p,hp⟩:∃p,l[y.toNat]?=some p:=⟨_,List.getElem?_eq_getElem (by omega)⟩
   have hba:befA l o y=befB o p:=by rw[befA,hp]
   rw[o6 _ hyt,hba]at hja
   have hbe:=pE o p
   cases hb:befB o p with
   | true =>
    rw[hb]at hbe hja
    rw[Bool.true_or]at hja
    rw[if_pos hja.symm]at hg
    rw[fin 13 (by decide) hg.symm]
    refine qR<|zU ?_;refine zI<|zQ<|bw<|aS ?_;refine az (by kernel_rfl) ?_;refine dC [7] [] ?_;refine dC [10] [] ?_;refine dQ [59,60] [] (aq aa rfl rfl rfl rfl rfl hi0 ho) ?_;refine dQ [61] [] iL ?_;refine dC [7] [] ?_;refine dC [2] [] ?_;refine dC [11] [] ?_;refine dQ [64,65] [] (aq aa rfl rfl rfl rfl rfl (by omega) hy2) ?_;refine dQ [66] [] iL ?_;refine dQ [63,67] [] (aq aa rfl rfl rfl rfl rfl hy0 hp) ?_;refine dQ [68] [] iL ?_;refine dQ [62,69] [] (aA hbe rfl rfl (ak (ak ai)) (.inl rfl) (fun _=>rfl)) ?_;refine dC [70] [] ?_;refine an (by kernel_rfl)<|aI ?_;refine wV<|sR ?_;refine rC<|zT<|zB<|ce<|zB<|zB<|ce<|zB ?_
    exact⟨trivial,[],lf⟩
   | false =>
    rw[hb]at hbe hja
    rw[Bool.false_or]at hja
    refine qR<|zU ?_;refine zI<|zQ<|bw<|aS ?_;refine az (by kernel_rfl) ?_;refine dC [7] [] ?_;refine dC [10] [] ?_;refine dQ [59,60] [] (aq aa rfl rfl rfl rfl rfl hi0 ho) ?_;refine dQ [61] [] iL ?_;refine dC [7] [] ?_;refine dC [2] [] ?_;refine dC [11] [] ?_;refine dQ [64,65] [] (aq aa rfl rfl rfl rfl rfl (by omega) hy2) ?_;refine dQ [66] [] iL ?_;refine dQ [63,67] [] (aq aa rfl rfl rfl rfl rfl hy0 hp) ?_;refine dQ [68] [] iL ?_;refine dQ [62,69] [] (aA hbe rfl rfl (ak (ak ai)) (.inl rfl) (fun _=>rfl)) ?_;refine dC [70] [] ?_;refine an (by kernel_rfl)<|aI ?_;refine wG<|aP<|zC<|aj ?_;refine rC ?_;refine rQ iD ?_;refine rC<|au ?_
    exact aJ (j+1) [(64,some _)] ⟨hjt,hja⟩ (by omega) (lg zf ⟨zR,trivial⟩)
  ·have d2:decide ((j:Int)<(k:Int))=false:=dF (by omega)
   rw[List.drop_eq_nil_of_le (by omega),List.any_nil]at hja
   rw[if_neg (by rw[←hja]; decide)]at hg
   refine qR<|zU ?_;refine zG<|zX<|aS<|bw ?_
   refine wc_inv (fun q:RS=>⟨[(10,.int .i64 i),(9,.int .i64 k),(8,.ptr 64 []),(7,.d (dY l)),(2,.d (eZ order)),(1,.int .i64 n)],[(64,some (sP q))],72,Try.f19.ntmps,64⟩) (fun q=>RSOk n q∧cl o.era q=cl o.era s) (fun q=>(o.era-q.era).toNat) s [(64,some _)] ⟨hs,rfl⟩
    (lg zg ⟨zR,trivial⟩) ?_
   rintro q ⟨hq,hqe⟩
   refine bP ?_
   by_cases hqt:q.era<o.era
   ·have d3:decide (q.era<o.era)=true:=dT hqt
    have hq0:=hq.e0
    have hcr:=n5 q (by rw[hq.dl]; omega) (bh (by omega) (by omega))
    have hnx:cl o.era (jV q)=cl o.era s:=by
     rw[←hqe]
     unfold cl
     rw[if_pos hqt]
     by_cases hc:(jV q).era<o.era
     ·rw[if_pos hc]; rfl
     ·rw[if_neg hc]
      have:q.era+1=o.era:=by have:¬q.era+1<o.era:=hc; omega
      rw[jV,this]
    iterate 2 refine aS ?_
    refine az (by kernel_rfl) ?_;refine dC [8] [] ?_;refine dQ [72] [64] iB ?_;refine dC [7] [] ?_;refine dC [10] [] ?_;refine dQ [74,75] [] (aq aa rfl rfl rfl rfl rfl hi0 ho) ?_;refine dC [76] [] ?_;refine dQ [77] [] iL ?_;refine dC [73,78] [] ?_;refine an (by kernel_rfl)<|aI ?_;refine wT<|kS<|bw<|aj ?_;refine rQ iM ?_;refine rQ (aA hcr rfl rfl (ak ai) (.inl rfl) (fun _=>rfl)) ?_;refine rW<|au<|fL ?_
    exact aJ (jV q) [(64,some _)] ⟨hq.crash (by omega),hnx⟩ (by show (o.era-(q.era+1)).toNat<(o.era-q.era).toNat; omega) (lg zg ⟨zR,trivial⟩)
   ·have d3:decide (q.era<o.era)=false:=dF hqt
    have hqq:cl o.era s=q:=by rw[←hqe,cl,if_neg hqt]
    rw[hqq]at hg
    obtain⟨hho,hso⟩:=hq.hap (by omega) h4
    have hhp:=pA q o hho
    obtain⟨⟨u,f⟩,hu⟩:∃r,hapR q o=r:=⟨_,rfl⟩
    rw[hu]at hhp hg hso
    cases f with
    | false =>
     rw[if_pos rfl]at hg
     rw[fin 15 (by decide) hg.symm]
     iterate 2 refine aS ?_
     refine az (by kernel_rfl) ?_;refine dC [8] [] ?_;refine dQ [72] [64] iB ?_;refine dC [7] [] ?_;refine dC [10] [] ?_;refine dQ [74,75] [] (aq aa rfl rfl rfl rfl rfl hi0 ho) ?_;refine dC [76] [] ?_;refine dQ [77] [] iL ?_;refine dC [73,78] [] ?_;refine an (by kernel_rfl)<|aI ?_;refine wF<|bO<|cJ<|dO<|cP<|aI<|aS ?_;refine az (by kernel_rfl) ?_;refine dQ [8] [64] iM ?_;refine dC [7] [] ?_;refine dC [10] [] ?_;refine dQ [84,85] [] (aq aa rfl rfl rfl rfl rfl hi0 ho) ?_;refine dQ [86] [] iL ?_;refine dQ [83,87] [] (aA hhp rfl rfl (ak (ak ai)) (.inl rfl) (fun _=>rfl)) ?_;refine dC [88] [] ?_;iterate 2 refine dC [82] [] ?_
     refine cw [] [] rfl (aB aa (fun K hk=>hk)) ?_;refine bj [12,89] [208] (aH aa rfl rfl rfl ⟨_,⟨rfl,rfl,rfl⟩,rfl⟩ rfl) ?_;refine dC [90] [] ?_;refine an (by kernel_rfl)<|aI<|qR ?_;refine zD ?_;refine zO<|sR ?_;refine rC<|zT<|bu<|zB<|ce<|oZ<|bu ?_
     exact⟨trivial,[],lf⟩
    | true =>
     rw[if_neg (by show ¬(true=false); decide)]at hg
     iterate 2 refine aS ?_
     refine az (by kernel_rfl) ?_;refine dC [8] [] ?_;refine dQ [72] [64] iB ?_;refine dC [7] [] ?_;refine dC [10] [] ?_;refine dQ [74,75] [] (aq aa rfl rfl rfl rfl rfl hi0 ho) ?_;refine dC [76] [] ?_;refine dQ [77] [] iL ?_;refine dC [73,78] [] ?_;refine an (by kernel_rfl)<|aI ?_;refine wF<|bO<|cJ<|dO<|cP<|aI<|aS ?_;refine az (by kernel_rfl) ?_;refine dQ [8] [64] iM ?_;refine dC [7] [] ?_;refine dC [10] [] ?_;refine dQ [84,85] [] (aq aa rfl rfl rfl rfl rfl hi0 ho) ?_;refine dQ [86] [] iL ?_;refine dQ [83,87] [] (aA hhp rfl rfl (ak (ak ai)) (.inl rfl) (fun _=>rfl)) ?_;refine dC [88] [] ?_;iterate 2 refine dC [82] [] ?_
     refine cw [] [] rfl (aB aa (fun K hk=>hk)) ?_;refine bj [12,89] [208] (aH aa rfl rfl rfl ⟨_,⟨rfl,rfl,rfl⟩,rfl⟩ rfl) ?_;refine dC [90] [] ?_;refine an (by kernel_rfl)<|aI<|qR ?_;refine zD ?_;refine zJ<|kS<|aj ?_;refine rQ iM ?_;refine rW<|au<|zC<|aj ?_;refine rC ?_;refine rQ iD ?_;refine rC<|au ?_
     exact aJ (k+1,u) [(64,some _)] ⟨hlt,hso,fun y hy=>(by
      rw[htk]at hy
      rcases List.mem_append.1 hy with hy | hy
      ·exact hr y hy
      ·obtain rfl:=List.mem_singleton.1 hy
       exact⟨hi0,by omega⟩),by simp only[htk]; exact hg⟩ (by simp only; omega) (lg zh ⟨zR,trivial⟩)
 ·have d1:decide ((k:Int)<(order.length:Int))=false:=dF (by omega)
  rw[List.drop_eq_nil_of_le (by omega),fA]at hg
  refine qR<|zD ?_;refine rQ iE ?_;refine rC ?_;refine zG<|zX<|qR ?_;refine rC<|zP ?_
  refine wc_inv (fun j:Nat=>⟨[(14,.int .i64 j),(7,.d (dY l)),(2,.d (eZ order))],[],72,Try.f19.ntmps,64⟩) (fun j=>j≤l.length∧gK order (l.drop j) j=gK order l 0) (fun j=>l.length-j) 0 [] ⟨Nat.zero_le _,rfl⟩
   (lg zj trivial) ?_
  rintro j ⟨hj,hjm⟩
  refine bP ?_
  by_cases hjt:j<l.length
  ·have d2:decide ((j:Int)<(l.length:Int))=true:=dT (by omega)
   obtain⟨o,ho⟩:∃o,l[j]?=some o:=⟨_,List.getElem?_eq_getElem hjt⟩
   have ho2:l[((j:Int)).toNat]?=some o:=by rw[Int.toNat_natCast]; exact ho
   rw[rl ho]at hjm
   have hmu:=nX o
   have hhs:=qn order (j:Int) (by omega)
   cases hm:cv o with
   | false =>
    rw[hm]at hmu hjm
    rw[Bool.false_and,Bool.false_or]at hjm
    refine qR<|zD ?_;refine rQ iE ?_;refine rC ?_;refine zI<|zQ<|zS ?_;refine zD ?_;refine rQ (aq aa rfl rfl rfl rfl rfl (by omega) ho2) ?_;refine rQ iL ?_;refine rQ (aA hmu rfl rfl (ak ai) (.inl rfl) (fun _=>rfl)) ?_;refine zD ?_
    iterate 4 refine rT ?_
    refine rQ iG ?_;refine zJ<|aP<|zC<|aj ?_;refine rC ?_;refine rQ iD ?_;refine rC<|au ?_
    exact aJ (j+1) [] ⟨hjt,hjm⟩ (by omega) (lg zj trivial)
   | true =>
    rw[hm]at hmu hjm
    cases ha:order.any (fun y=>decide (y=(j:Int))) with
    | true =>
     rw[ha]at hhs hjm
     refine qR<|zD ?_;refine rQ iE ?_;refine rC ?_;refine zI<|zQ<|zS ?_;refine zD ?_;refine rQ (aq aa rfl rfl rfl rfl rfl (by omega) ho2) ?_;refine rQ iL ?_;refine rQ (aA hmu rfl rfl (ak ai) (.inl rfl) (fun _=>rfl)) ?_;refine zD ?_;refine rP ?_;refine rC ?_;refine rP ?_;refine rC ?_;refine rP ?_;refine rQ (aA hhs rfl rfl (ak (ak ai)) (.inl rfl) (fun _=>rfl)) ?_;refine rP ?_;refine rC ?_;refine rQ iU ?_;refine zJ<|aP<|zC<|aj ?_;refine rC ?_;refine rQ iD ?_;refine rC<|au ?_
     exact aJ (j+1) [] ⟨hjt,hjm⟩ (by omega) (lg zj trivial)
    | false =>
     rw[ha]at hhs hjm
     rw[fin0 true hg.symm hjm.symm]
     refine qR<|zD ?_;refine rQ iE ?_;refine rC ?_;refine zI<|zQ<|zS ?_;refine zD ?_;refine rQ (aq aa rfl rfl rfl rfl rfl (by omega) ho2) ?_;refine rQ iL ?_;refine rQ (aA hmu rfl rfl (ak ai) (.inl rfl) (fun _=>rfl)) ?_;refine zD ?_;refine rP ?_;refine rC ?_;refine rP ?_;refine rC ?_;refine rP ?_;refine rQ (aA hhs rfl rfl (ak (ak ai)) (.inl rfl) (fun _=>rfl)) ?_;refine rP ?_;refine rC ?_;refine rQ iU ?_;refine zO<|sR ?_;refine rC<|zT<|zB<|ce<|oZ<|bu ?_
     exact⟨trivial,[],lf⟩
  ·have d2:decide ((j:Int)<(l.length:Int))=false:=dF (by omega)
   rw[List.drop_eq_nil_of_le (by omega),gK]at hjm
   rw[fin0 false hg.symm hjm.symm]
   refine qR<|zD ?_;refine rQ iE ?_;refine rC ?_;refine zG<|zX<|sR ?_;refine rC<|zT ?_
   exact⟨trivial,[],lf⟩
end Go.Proofs.Ytkehohfgbblokaa
namespace Go.Proofs.Ytkehohfgbblokaa
open Go.Eng Go.Plain
set_option maxHeartbeats 32000000
set_option maxRecDepth 20000
theorem ig (h:List HEv):∀(n i:Nat) (out:List HOp) (era:Int),0≤era→(∀o∈out,0≤o.era∧o.era≤era)→∀o∈fj h n i out era,0≤o.era∧o.era≤era+n
 | 0,_,out,era,h0,ho,o,hm=>by
  rw[fj]at hm
  have:=ho o hm
  omega
 | n+1,i,out,era,h0,ho,o,hm=>by
  rw[fj]at hm
  split at hm
  ·have:=ho o hm; omega
  ·rename_i x _
   split at hm
   ·have:=ig h n (i+1) out (era+1) (by omega) (fun y hy=>by have:=ho y hy; omega) o hm
    omega
   ·split at hm
    ·have:=ig h n (i+1) (out++[mkOp h i x out era]) era h0 (fun y hy=>by
      rcases List.mem_append.1 hy with hy | hy
      ·exact ho y hy
      ·rw[List.mem_singleton.1 hy]
       have:(mkOp h i x out era).era=era:=by
        unfold mkOp eu cV
        split <;> rfl
       omega) o hm
     omega
    ·have:=ig h n (i+1) out era h0 ho o hm
     omega
theorem ti (h:List HEv):∀o∈opsR h,0≤o.era∧o.era≤h.length:=by
 intro o ho
 have:=ig h h.length 0 [] 0 (Int.le_refl _) (fun _ hy=>by cases hy) o ho
 omega
structure ARel (n:Nat) (l:List HOp) (tk:List Bool) (ah:List HOp) (a d:VMap) (pre:List Int) (s:RS):Prop where
 tkl:tk.length=l.length
 tki:∀j,j<l.length→tk[j]?=some (pre.any fun y=>decide (y=(j:Int)))
 any:∀o,ah.any (befB o)=pre.any (befA l o)
 late:∀o,eY ah o=decide (s.era<o.era)
 ord:∀o:HOp,0≤o.era→ah.any (befB o)=false→s.era≤o.era
 av:∀j:Int,0≤j→j<n→getV a j=pgAt s.arr j
 dv:∀j:Int,0≤j→j<n→getV d j=pgAt s.dur j
 ok:RSOk n s
theorem ta (n:Nat) (j:Int):pgAt (List.replicate n zBk) j=zBk:=by
 unfold pgAt
 rw[List.getElem?_replicate]
 split <;> rfl
theorem ARel.first (n:Nat) (l:List HOp):ARel n l (List.replicate l.length false) [] [] [] [] (eK n):=
 ⟨List.length_replicate,fun j hj=>by rw[List.getElem?_replicate,if_pos hj]; rfl,fun _=>rfl,fun _=>rfl,fun o h0 _=>h0,fun j _ _=>(ta n j).symm,fun j _ _=>(ta n j).symm,.first n⟩
theorem oS {n:Nat} {l:List HOp} {tk:List Bool} {ah:List HOp} {a d:VMap} {pre:List Int} {s:RS} (R:ARel n l tk ah a d pre s) (o:HOp) :
  (∀j:Int,0≤j→j<n→getV (if eY ah o=true then d else a) j=pgAt (cl o.era s).arr j)∧(∀j:Int,0≤j→j<n→getV d j=pgAt (cl o.era s).dur j):=by
 rw[R.late,cl]
 by_cases h:s.era<o.era
 ·rw[if_pos (dT h),if_pos h]
  exact⟨R.dv,R.dv⟩
 ·rw[if_neg (by rw[dF h]; decide),if_neg h]
  exact⟨R.av,R.dv⟩
theorem u9 {n:Nat} {a d:VMap} {s:RS} {o:HOp} (ha:∀j:Int,0≤j→j<n→getV a j=pgAt s.arr j) (hd:∀j:Int,0≤j→j<n→getV d j=pgAt s.dur j) (hl:s.arr.length=n) (hm:mayB o n=true) :
  (hapV a d o).1=(hapR s o).2∧(∀j:Int,0≤j→j<n→getV (hapV a d o).2.1 j=pgAt (hapR s o).1.arr j)∧(∀j:Int,0≤j→j<n→getV (hapV a d o).2.2 j=pgAt (hapR s o).1.dur j)∧(hapR s o).1.era=s.era:=by
 obtain⟨m1,m2,m3⟩:=qv hm
 unfold hapV hapR
 by_cases k1:o.op.kind=1
 ·rw[if_pos k1,if_pos k1]
  obtain⟨i0,i1⟩:=m2 (.inl k1)
  exact⟨by simp only; rw[ha _ i0 i1],ha,hd,rfl⟩
 ·rw[if_neg k1,if_neg k1]
  by_cases k2:o.op.kind=2
  ·rw[if_pos k2,if_pos k2]
   obtain⟨i0,i1⟩:=m2 (.inr k2)
   refine⟨rfl,fun j j0 j1=>?_,hd,rfl⟩
   simp only
   rw[tR,pgAt]
   by_cases e:j=o.op.index
   ·subst e
    rw[if_pos rfl,List.getElem?_set_self (by omega)]
    rfl
   ·rw[if_neg e,List.getElem?_set_ne (by omega)]
    exact ha j j0 j1
  ·rw[if_neg k2,if_neg k2]
   exact⟨rfl,ha,ha,rfl⟩
theorem ARel.step {n:Nat} {l:List HOp} {tk:List Bool} {ah:List HOp} {a d:VMap} {pre:List Int} {s:RS} (R:ARel n l tk ah a d pre s) {i:Int} {o:HOp} (hE:0≤o.era) (hE1:o.era≤1000000) (hn:n≤1048576) (h0:0≤i) (ho:l[i.toNat]?=some o) (hm:mayB o n=true) (hb:pre.any (befA l o)=false) :
  (hapV (if eY ah o=true then d else a) d o).1=(hapR (cl o.era s) o).2∧ARel n l (tk.set i.toNat true) (ah++[o]) (hapV (if eY ah o=true then d else a) d o).2.1 (hapV (if eY ah o=true then d else a) d o).2.2 (pre++[i]) (hapR (cl o.era s) o).1:=by
 obtain⟨c1,c2⟩:=oS R o
 have K:=R.ok.to hE1
 obtain⟨e1,e2,e3,e4⟩:=u9 c1 c2 K.al hm
 have hlt:=(List.getElem?_eq_some_iff.1 ho).1
 have hso:s.era≤o.era:=R.ord o hE (by rw[R.any]; exact hb)
 have hse:(hapR (cl o.era s) o).1.era=o.era:=by
  rw[e4,cl]
  by_cases h:s.era<o.era
  ·rw[if_pos h]
  ·rw[if_neg h]; omega
 refine⟨e1,⟨by rw[List.length_set]; exact R.tkl,fun j hj=>?_,fun x=>?_,fun x=>?_,fun x x0 hx=>?_,e2,e3,(K.hap hn hm).2⟩⟩
 ·rw[List.any_append,List.any_cons,List.any_nil,Bool.or_false]
  by_cases e:j=i.toNat
  ·subst e
   have:decide (i=((i.toNat:Nat):Int))=true:=dT (by omega)
   rw[List.getElem?_set_self (by rw[R.tkl]; exact hlt),this,Bool.or_true]
  ·have:decide (i=(j:Int))=false:=dF (by omega)
   rw[List.getElem?_set_ne (fun x=>e x.symm),R.tki j hj,this,Bool.or_false]
 ·rw[List.any_append,List.any_append,R.any x]
  congr 1
  simp only[List.any_cons,List.any_nil,befA,ho]
 ·rw[hse,eY,List.getLast?_concat]
 ·rw[hse]
  rw[List.any_append,Bool.or_eq_false_iff]at hx
  have h2:=hx.2
  simp only[List.any_cons,List.any_nil,Bool.or_false]at h2
  unfold befB at h2
  split at h2
  ·omega
  ·have:=of_decide_eq_false h2
   omega
theorem qW {n:Nat} {l:List HOp} (hn:n≤1048576) (hE:∀o∈l,0≤o.era∧o.era≤1000000):∀(order:List Int) (tk:List Bool) (ah:List HOp) (a d:VMap) (pre:List Int) (s:RS),ARel n l tk ah a d pre s →
  (accL n l order tk ah a d).1=fA n l order pre s∧((accL n l order tk ah a d).1=0→(accL n l order tk ah a d).2.length=l.length∧∀j,j<l.length→(accL n l order tk ah a d).2[j]?=some ((pre++order).any fun y=>decide (y=(j:Int))))
 | [],tk,ah,a,d,pre,s,R=>by
  rw[accL,fA]
  exact⟨rfl,fun _=>⟨R.tkl,fun j hj=>by rw[List.append_nil]; exact R.tki j hj⟩⟩
 | i::os,tk,ah,a,d,pre,s,R=>by
  rw[accL,fA]
  by_cases h0:i<0
  ·rw[if_pos h0,if_pos h0]
   exact⟨rfl,fun h=>by cases h⟩
  rw[if_neg h0,if_neg h0]
  cases ho:l[i.toNat]? with
  | none=>exact⟨rfl,fun h=>by cases h⟩
  | some o =>
  simp only
  have hlt:=(List.getElem?_eq_some_iff.1 ho).1
  have hii:((i.toNat:Nat):Int)=i:=by omega
  have ht:tk[i.toNat]?=some (pre.any fun y=>decide (y=i)):=by
   have:=R.tki i.toNat hlt
   rw[hii]at this
   exact this
  rw[ht]
  by_cases h1:(pre.any fun y=>decide (y=i))=true
  ·rw[if_pos (by rw[h1]),if_pos h1]
   exact⟨rfl,fun h=>by cases h⟩
  rw[if_neg (fun h=>h1 (Option.some.inj h)),if_neg h1]
  by_cases h2:mayB o n=false
  ·rw[if_pos h2,if_pos h2]
   exact⟨rfl,fun h=>by cases h⟩
  rw[if_neg h2,if_neg h2,R.any o]
  by_cases h3:pre.any (befA l o)=true
  ·rw[if_pos h3,if_pos h3]
   exact⟨rfl,fun h=>by cases h⟩
  rw[if_neg h3,if_neg h3]
  obtain⟨e0,e1⟩:=hE o (List.mem_of_getElem? ho)
  obtain⟨f1,f2⟩:=R.step e0 e1 hn (by omega) ho (by simpa using h2) (by simpa using h3)
  rw[f1]
  by_cases h4:(hapR (cl o.era s) o).2=false
  ·rw[if_pos h4,if_pos h4]
   exact⟨rfl,fun h=>by cases h⟩
  rw[if_neg h4,if_neg h4]
  have:=qW hn hE os _ _ _ _ _ _ f2
  rw[List.append_assoc]at this
  exact this
theorem qu (ord:List Int):∀(l:List HOp) (tk:List Bool) (k:Nat),tk.length=l.length→(∀j,j<l.length→tk[j]?=some (ord.any fun y=>decide (y=((k+j:Nat):Int))))→misB l tk=gK ord l k
 | [],tk,k,_,_=>by rw[oj,gK]
 | o::l,[],k,h,_=>by cases h
 | o::l,t::tk,k,h,hj=>by
  have h0:=hj 0 (Nat.zero_lt_succ _)
  rw[List.getElem?_cons_zero,Nat.add_zero]at h0
  rw[misB,gK,Option.some.inj h0,qu ord l tk (k+1) (by simpa using h) (fun j hl=>by
   have:=hj (j+1) (Nat.succ_lt_succ hl)
   rw[List.getElem?_cons_succ,show k+(j+1)=k+1+j by omega]at this
   exact this)]
theorem pb {n:Nat} {l:List HOp} (hn:n≤1048576) (hE:∀o∈l,0≤o.era∧o.era≤1000000) (order:List Int):_root_.Go.Proofs.Ytkehohfgbblokaa.accS n l order=j9 n n l order:=by
 obtain⟨h1,h2⟩:=qW hn hE order _ _ _ _ _ _ (ARel.first n l)
 unfold _root_.Go.Proofs.Ytkehohfgbblokaa.accS j9
 rw[←h1]
 by_cases h:(accL n l order (List.replicate l.length false) [] [] []).1=0
 ·rw[if_pos h,if_pos h]
  obtain⟨e1,e2⟩:=h2 h
  rw[qu order l _ 0 e1 (fun j hj=>by rw[Nat.zero_add]; exact e2 j hj)]
 ·rw[if_neg h,if_neg h]
end Go.Proofs.Ytkehohfgbblokaa
namespace Go.Proofs.Ytkehohfgbblokaa
open Go.Eng Go.Plain
set_option maxHeartbeats 32000000
set_option maxRecDepth 20000
attribute [local irreducible] WC RegS RegD SeqQ BlkQ ScoQ RegK CutK Sat SatN FnIs LoopQ am OpIs
theorem u7 (x:List XE):FnIs Try.prog 17 [.d (lN x)] [] (.d (encH (hOf x))) []:=(u6 x).freeze_out 64 _ rfl (Frz.own rfl) trivial
theorem uP (x:List XE) {b:Int} (h0:1≤b) (h1:b≤4096):opE (hOf x) b=0:=by
 rw[opE,nr,if_pos rfl,if_neg (by omega)]
theorem tm (x:List XE):opsH (hOf x)=opsR (hOf x):=by
 rw[opsH,nr,if_pos rfl,tg (by rw[nr])]
theorem nj (x:List XE) (order:List Int) (n:UInt8):FnIs Try.prog 4 [.d (lN x),.d (eZ order),.int .u8 (n.toNat:Nat)] [] (.bool true) []:=by
 refine aF aa Try.func4 rfl rfl rfl ?_
 by_cases h20:20<order.length
 ·have d0:decide ((20:Int)<(order.length:Int))=true:=dT (by omega)
  refine sR<|rN ?_;refine rC<|zW ?_;refine rC ?_;refine rQ iE ?_;refine rC ?_;refine zI<|sR ?_;refine rQ (aA oz rfl rfl ai (.inl rfl) (fun _=>rfl)) ?_;refine rC<|zT<|bu ?_
  exact⟨trivial,[],lf⟩
 have d0:decide ((20:Int)<(order.length:Int))=false:=dF (by omega)
 have hm4:n.toNat % 4<4:=Nat.mod_lt _ (by decide)
 have hwc:IntKind.i64.wrap ((n.toNat % 4:Nat):Int)=((n.toNat % 4:Nat):Int):=bh (by omega) (by omega)
 have hwa:IntKind.i64.wrap (1+((n.toNat % 4:Nat):Int))=((1+n.toNat % 4:Nat):Int):=by rw[bh (by omega) (by omega)]; omega
 have hof:=u7 x
 have hl:=qE x
 have hol:=th (hOf x)
 have hE:∀o∈opsR (hOf x),0≤o.era∧o.era≤1000000:=fun o ho=>by have:=ti _ o ho; omega
 have hac:=mO (hOf x) ((1+n.toNat % 4:Nat):Int) order (by omega) (by have:=ec (hOf x); omega) (by omega)
 rw[if_pos (uP x (by omega) (by omega)),tm,pb (by omega) hE order]at hac
 have hra:=pJ (hOf x) (1+n.toNat % 4) order (opsR (hOf x)) (uz _ (by omega)) (by omega) (by omega) (by omega) hE
 generalize j9 ((1+n.toNat % 4:Nat):Int) (1+n.toNat % 4) (opsR (hOf x)) order=V at hac hra
 have hV:decide (V=V)=true:=dT rfl
 generalize hOf x=h at hof hac hra
 refine sR<|rN ?_;refine rC<|zW ?_;refine rC ?_;refine rQ iE ?_;refine rC ?_;refine zG<|kS<|sR ?_;refine rQ iM ?_;refine rQ (aA hof rfl rfl (ak ai) (.inl rfl) (fun _=>rfl)) ?_;refine rC ?_;refine rQ (b7 (a:=n.toNat) (b:=4) aa rfl rfl rfl (by decide)) ?_;refine rQ (ct (m:=((n.toNat % 4:Nat):Int)) aa rfl rfl rfl hwc) ?_;refine rQ (di (m:=((1+n.toNat % 4:Nat):Int)) aa rfl rfl hwa) ?_;refine zD<|nR ?_;refine zU ?_;refine rQ (aA hac rfl rfl (ak (ak (ak ai))) (.inl rfl) (fun _=>rfl)) ?_;refine zU ?_;refine rQ (aA hra rfl rfl (ak (ak (ak ai))) (.inl rfl) (fun _=>rfl)) ?_;refine zD ?_;refine rO ?_;refine rQ (aA oz rfl rfl ai (.inl rfl) (fun _=>rfl)) ?_;refine rQ iT ?_;refine rC<|zT ?_
 exact⟨trivial,[],lf⟩
end Go.Proofs.Ytkehohfgbblokaa
namespace Go.Proofs.Ytkehohfgbblokaa
open Go.Eng Go.Plain
set_option maxHeartbeats 32000000
set_option maxRecDepth 20000
theorem wb {a:Int} (h:(Lit.int .u8 a).wf=true):0≤a∧a≤255:=by
 simp[Lit.wf,IntKind.min,IntKind.max,IntKind.bits,IntKind.signed]at h
 omega
theorem uK {a:Int} (h:(Lit.int .i64 a).wf=true) : -9223372036854775808≤a∧a≤9223372036854775807:=by
 simp[Lit.wf,IntKind.min,IntKind.max,IntKind.bits,IntKind.signed]at h
 omega
def toB (l:List Int):List UInt8:=l.map fun z=>z.toNat.toUInt8
theorem kC {a:Int} (h:(Lit.int .u8 a).wf=true):((a.toNat.toUInt8.toNat:Nat):Int)=a:=by
 obtain⟨h1,h2⟩:=wb h
 simp only[Nat.toUInt8_eq,UInt8.toNat_ofNat']
 omega
theorem uM:fM Try.prog 74 3 qJ fun _=>True :=
 fM.map (jl (P:=Try.prog) Try.underlying74 (by kernel_rfl) (fun _=>rfl) (fB rfl (by kernel_rfl) (fY (P:=Try.prog) Try.underlying5) (fB rfl (by kernel_rfl) (fY (P:=Try.prog) Try.underlying5) (fB rfl (by kernel_rfl) (fY (P:=Try.prog) Try.underlying5) li))))
  (fun q=>⟨q.1.toNat.toUInt8,q.2.1.toNat.toUInt8,q.2.2.1.toNat.toUInt8⟩) (fun q h=>by simp only[qJ,kC h.1,kC h.2.1,kC h.2.2.1]) (fun _ _=>trivial)
theorem tn:fM Try.prog 38 1 lN fun _=>True :=
 fM.map (jl (P:=Try.prog) Try.underlying38 (by kernel_rfl) (fun _=>rfl) (fB rfl (by kernel_rfl)
  (ka (P:=Try.prog) Try.underlying36 (by kernel_rfl) uM) li))
  (fun q=>q.1) (fun _ _=>rfl) (fun _ _=>trivial)
theorem pM:fM Try.prog 39 1 encL fun l=>∀x∈l,-9223372036854775808≤x∧x≤9223372036854775807 :=
 fM.map (ka (P:=Try.prog) Try.underlying39 (by kernel_rfl) (fY (P:=Try.prog) Try.underlying3)) id (fun _ _=>rfl) (fun _ h x hx=>uK (h.2 x hx))
end Go.Proofs.Ytkehohfgbblokaa
