/- Texts of the proof: Y27, Y28, Y30, Y31, Y32, Y33, Y35, Y36, Y37, YB, YQ, YA, YQ2, YQ3, YQ4, Y38, Y39, Y34, Y40, YO. -/
import Derived.Test.YtkehohfgbblokaaG06
import Derived.Test.YtkehohfgbblokaaG03
import Derived.Test.YtkehohfgbblokaaG04
import Derived.Test.YtkehohfgbblokaaG02

set_option linter.unusedVariables false
set_option linter.unusedSimpArgs false
set_option linter.unusedSectionVars false

namespace Go.Proofs.Ytkehohfgbblokaa
open Go.Eng Go.Plain
set_option maxHeartbeats 32000000
set_option maxRecDepth 20000
attribute [local irreducible] WC RegS RegD SeqQ BlkQ ScoQ RegK CutK Sat SatN FnIs LoopQ ao OpIs
def eqN (a b:List Int):Int:=if a=b then 1 else 0
def eqG:List Int→List Int→Int
 | [],[]=>1
 | x::a,y::b=>if x=y then eqG a b else 0
 | _,_=>0
theorem rn:∀(a b:List Int),eqG a b=eqN a b
 | [],[]=>rfl
 | x::a,y::b=>by
  have ih:=rn a b
  unfold eqN at ih ⊢
  unfold eqG
  by_cases h:x=y
  ·subst h; simp[ih]
  ·simp[h]
 | [],_::_=>by simp[eqG,eqN]
 | _::_,[]=>by simp[eqG,eqN]
theorem vQ (a b:List Int) (ha:a.length≤1048576):FnIs Try.prog 25 [.d (lc a),.d (encL b)] [] (.d (i6 (eqN a b))) []:=by
 refine aE aa Try.func25 rfl rfl rfl ?_
 by_cases hl:a.length=b.length
 ·have d1:decide ((a.length:Int)=(b.length:Int))=true:=dT (by omega)
  have d1n:(!decide ((a.length:Int)=(b.length:Int)))=false:=by rw[d1]; rfl
  have d2n:(!decide ((a.length:Int)=(a.length:Int)))=false:=by rw[dT rfl]; rfl
  refine sR<|rC<|zW ?_;refine rC ?_;refine rQ (db aa rfl rfl) ?_;refine rC ?_;refine rQ iE ?_;refine zD ?_;refine rO ?_;refine rC ?_;refine rO ?_;refine rQ (xz aa rfl rfl) ?_;refine rO ?_;refine rC ?_;refine rO ?_;refine rQ (db aa rfl rfl) ?_;refine rO ?_;refine rC ?_;refine rQ iF ?_;refine zG<|kS<|qR ?_;refine rC<|zP ?_
  refine wc_inv (fun i:Nat=>⟨[(5,.int .i64 i),(0,.d (lc a)),(1,.d (encL b))],[],72,Try.f25.ntmps,64⟩) (fun i=>i≤a.length∧eqG (a.drop i) (b.drop i)=eqG a b) (fun i=>a.length-i) 0 [] ⟨Nat.zero_le _,rfl⟩
   (lg zj trivial) ?_
  rintro i ⟨hi,hinv⟩
  refine bL ?_
  by_cases hlt:i<a.length
  ·have d3:decide ((i:Int)<(a.length:Int))=true:=dT (by omega)
   obtain⟨x,hx⟩:∃x,a[i]?=some x:=⟨_,List.getElem?_eq_getElem hlt⟩
   obtain⟨y,hy⟩:∃y,b[i]?=some y:=⟨_,List.getElem?_eq_getElem (by omega)⟩
   have hx2:a[((i:Int)).toNat]?=some x:=by rw[Int.toNat_natCast]; exact hx
   have hy2:b[((i:Int)).toNat]?=some y:=by rw[Int.toNat_natCast]; exact hy
   have hs:eqG (a.drop i) (b.drop i)=if x=y then eqG (a.drop (i+1)) (b.drop (i+1)) else 0:=by
    rw[List.drop_eq_getElem_cons (List.getElem?_eq_some_iff.1 hx).1,(List.getElem?_eq_some_iff.1 hx).2,List.drop_eq_getElem_cons (List.getElem?_eq_some_iff.1 hy).1,(List.getElem?_eq_some_iff.1 hy).2]
    rfl
   rw[hs]at hinv
   by_cases he:x=y
   ·have d4:(!decide (x=y))=false:=by rw[dT he]; rfl
    rw[if_pos he]at hinv
    refine qR<|zD ?_;refine rQ (db aa rfl rfl) ?_;refine rC ?_;refine zI<|zQ<|br<|aT ?_;refine aC (by kernel_rfl) ?_;refine dC [0] [] ?_;refine dC [5] [] ?_;refine dQ [24,25] [] (bc aa rfl rfl rfl rfl rfl (by omega) hx2) ?_;refine dQ [26] [] iL ?_;refine dC [1] [] ?_;refine dC [5] [] ?_;refine dQ [28,29] [] (aq aa rfl rfl rfl rfl rfl (by omega) hy2) ?_;refine dQ [30] [] iL ?_;refine dC [27,31] [] ?_;refine am (by kernel_rfl)<|aH ?_;refine wF<|aN<|zC<|ai ?_;refine rC ?_;refine rQ iD ?_;refine rC<|au ?_
    exact aJ (i+1) [] ⟨hlt,hinv⟩ (by omega) (lg zj trivial)
   ·have d4:(!decide (x=y))=true:=by rw[dF he]; rfl
    rw[if_neg he]at hinv
    rw[←rn,←hinv]
    refine qR<|zD ?_;refine rQ (db aa rfl rfl) ?_;refine rC ?_;refine zI<|zQ<|br<|aT ?_;refine aC (by kernel_rfl) ?_;refine dC [0] [] ?_;refine dC [5] [] ?_;refine dQ [24,25] [] (bc aa rfl rfl rfl rfl rfl (by omega) hx2) ?_;refine dQ [26] [] iL ?_;refine dC [1] [] ?_;refine dC [5] [] ?_;refine dQ [28,29] [] (aq aa rfl rfl rfl rfl rfl (by omega) hy2) ?_;refine dQ [30] [] iL ?_;refine dC [27,31] [] ?_;refine am (by kernel_rfl)<|aH ?_;refine wT<|sR ?_;refine rC<|zT<|zB<|co<|zB ?_
    exact⟨trivial,[],lf⟩
  ·have d3:decide ((i:Int)<(a.length:Int))=false:=dF (by omega)
   rw[List.drop_eq_nil_of_le (by omega),List.drop_eq_nil_of_le (by omega)]at hinv
   rw[←rn,←hinv]
   refine qR<|zD ?_;refine rQ (db aa rfl rfl) ?_;refine rC ?_;refine zG<|zX<|sR ?_;refine rC<|zT ?_
   exact⟨trivial,[],lf⟩
 ·have d1:decide ((a.length:Int)=(b.length:Int))=false:=dF (by omega)
  have d1n:(!decide ((a.length:Int)=(b.length:Int)))=true:=by rw[d1]; rfl
  have he:eqN a b=0:=by rw[eqN,if_neg fun e=>hl (by rw[e])]
  rw[he]
  refine sR<|rC<|zW ?_;refine rC ?_;refine rQ (db aa rfl rfl) ?_;refine rC ?_;refine rQ iE ?_;refine zD ?_
  iterate 5 refine rS ?_
  refine rQ iT ?_;refine zO<|sR ?_;refine rC<|zT<|bx ?_
  exact⟨trivial,[],lf⟩
theorem lF (a:List Int) (ha:a.length≤1048576):FnIs Try.prog 25 [.d (lc a),.d (encL a)] [] (.d (i6 1)) []:=by
 have:=vQ a a ha
 rwa [eqN,if_pos rfl]at this
abbrev fndE (o:List Int) (f:Bool) (e:Int):AV :=.tup (.acons (.d (lc o)) (.acons (.bool f) (.acons (.int .i64 e) .anil)))
abbrev legE (f:Bool) (e:Int):AV :=.tup (.acons (.bool f) (.acons (.int .i64 e) .anil))
abbrev stsE (m e:Int):AV :=.tup (.acons (.int .i64 m) (.acons (.int .i64 e) .anil))
theorem vo (H G C1 C2:List HEv) (hb1:FnIs Try.prog 35 [.d (bh cu)] [] (.d (encH H)) []) (hb2:FnIs Try.prog 35 [.d (bh zBk)] [] (.d (encH G)) [])
  (kL:FnIs Try.prog 37 [.bool true] [] (.d (encH C1)) []) (kM:FnIs Try.prog 37 [.bool false] [] (.d (encH C2)) [])
  (hf1:FnIs Try.prog 23 [.d (encH H),.int .i64 1,.int .i64 9] [] (fndE [0,1] true 0) []) (hf2:FnIs Try.prog 23 [.d (encH G),.int .i64 1,.int .i64 9] [] (fndE [1,0] true 0) [])
  (hs1:FnIs Try.prog 21 [.d (encH H),.int .i64 1,.int .i64 3] [] (stsE 3 0) []) (hs2:FnIs Try.prog 21 [.d (encH H),.int .i64 1,.int .i64 2] [] (stsE 0 4) []) (hs3:FnIs Try.prog 21 [.d (encH G),.int .i64 1,.int .i64 4] [] (stsE 4 0) [])
  (hacs:∀(k:Nat) o e,[[1,0],[0],[0,0],[0,1]][k]?=some o→([15,15,1,0]:List Int)[k]?=some e→FnIs Try.prog 18 [.d (encH H),.int .i64 1,.d (encL o)] [] (.d (i6 e)) [])
  (hf3:FnIs Try.prog 23 [.d (encH C1),.int .i64 1,.int .i64 99] [] (fndE [0,1,2,3] true 0) []) (hl1:FnIs Try.prog 22 [.d (encH C2),.int .i64 1,.int .i64 99] [] (legE false 0) [])
  (hl2:FnIs Try.prog 22 [.d (encH (pM++didL rdO cu)),.int .i64 1,.int .i64 99] [] (legE false 0) []) (hf4:FnIs Try.prog 23 [.d (encH (sq++didL rdO cu)),.int .i64 1,.int .i64 99] [] (fndE [0,1,2] true 0) [])
  (hsk:FnIs Try.prog 27 [.d (encH (qi++didL (wrO 1) zBk))] [] (legE false 0) []) (hl3:FnIs Try.prog 22 [.d (encH (qi++didL (wrO 1) zBk)),.int .i64 1,.int .i64 9] [] (legE true 0) []) :
  FnIs Try.prog 12 [] [] (.bool true) []:=by
 refine aE aa Try.func12 rfl rfl rfl ?_;refine sR<|rC<|nR ?_;refine rQ (ay jX rfl rfl aj (.inl rfl) (fun _=>rfl)) ?_;refine rQ (ay hb1 rfl rfl (ak aj) (.inl rfl) (fun _=>rfl)) ?_;refine rQ (bE aa rfl rfl rfl) ?_;refine rQ (ay hb2 rfl rfl (ak aj) (.inl rfl) (fun _=>rfl)) ?_;refine zD<|nR ?_;refine rC ?_;refine rQ (ay hf1 rfl rfl (ak (ak (ak aj))) (.inl rfl) (fun _=>rfl)) ?_;iterate 7 refine rC ?_
 refine nR<|rC ?_;refine rQ (ay hf2 rfl rfl (ak (ak (ak aj))) (.inl rfl) (fun _=>rfl)) ?_;iterate 7 refine rC ?_
 refine nR<|rC ?_;refine rQ (ay hs1 rfl rfl (ak (ak (ak aj))) (.inl rfl) (fun _=>rfl)) ?_;iterate 5 refine rC ?_
 refine nR<|rC ?_;refine rQ (ay hs2 rfl rfl (ak (ak (ak aj))) (.inl rfl) (fun _=>rfl)) ?_;iterate 5 refine rC ?_
 refine nR<|rC ?_;refine rQ (ay hs3 rfl rfl (ak (ak (ak aj))) (.inl rfl) (fun _=>rfl)) ?_;iterate 5 refine rC ?_
 refine zW<|zU ?_;refine rP ?_;refine rC ?_;refine rP ?_;refine rC ?_;refine rQ iG ?_;refine rC ?_;refine rP ?_;refine rC ?_;refine rP ?_;refine rC ?_;refine rQ iG ?_;refine rC ?_;refine rP ?_;refine rC ?_;refine rP ?_;refine rC ?_;refine rQ iG ?_;refine rC ?_;refine rP ?_;refine rC ?_;refine rP ?_;refine rC ?_;refine rQ iG ?_;refine rC ?_;refine rP ?_;refine rC ?_;refine rP ?_;refine rC ?_;refine rQ iG ?_;refine rC ?_;refine rP ?_;refine rC ?_;refine rP ?_;refine rC ?_;refine rQ iG ?_;refine rC ?_;refine rP ?_;refine rC ?_;refine rP ?_;refine rC ?_;refine rQ iG ?_;refine rC ?_;refine rP ?_;refine rC ?_;refine rP ?_;refine rC ?_;refine rQ iG ?_;refine rC ?_;refine rP ?_;refine rC ?_;refine rP ?_;refine rQ (ao.frozen (aD (s:=1) aa rfl rfl rfl rfl rfl rfl rfl rfl) (Frz.litsN (enc:=i6) [0,1] rfl (fun _ _=>rfl))) ?_;refine rP ?_;refine rQ (ay (lF [0,1] (by decide)) rfl rfl (ak (ak aj)) (.inl rfl) (fun _=>rfl)) ?_;refine rP ?_;refine rC ?_;refine rP ?_;refine rQ (ao.frozen (aD (s:=1) aa rfl rfl rfl rfl rfl rfl rfl rfl) (Frz.litsN (enc:=i6) [1,0] rfl (fun _ _=>rfl))) ?_;refine rP ?_;refine rQ (ay (lF [1,0] (by decide)) rfl rfl (ak (ak aj)) (.inl rfl) (fun _=>rfl)) ?_;refine rP ?_;refine rQ (gM (m:=1) aa rfl rfl rfl) ?_;refine rP ?_;refine rC ?_;refine rQ iG ?_;refine zJ<|kS<|qR ?_;refine rQ (ao.frozen (aD (s:=1) aa rfl rfl rfl rfl rfl rfl rfl rfl) (Frz.litsN (enc:=i6) [1,0] rfl (fun _ _=>rfl))) ?_;refine rQ (ao.frozen (aD (s:=1) aa rfl rfl rfl rfl rfl rfl rfl rfl) (Frz.litsN (enc:=i6) [0] rfl (fun _ _=>rfl))) ?_;refine rQ (ao.frozen (aD (s:=1) aa rfl rfl rfl rfl rfl rfl rfl rfl) (Frz.litsN (enc:=i6) [0,0] rfl (fun _ _=>rfl))) ?_;refine rQ (ao.frozen (aD (s:=1) aa rfl rfl rfl rfl rfl rfl rfl rfl) (Frz.litsN (enc:=i6) [0,1] rfl (fun _ _=>rfl))) ?_;refine rQ (ao.frozen (aD (s:=1) aa rfl rfl rfl rfl rfl rfl rfl rfl) (Frz.litsN (enc:=encL) [[1,0],[0],[0,0],[0,1]] rfl (fun _ _=>rfl))) ?_;refine rQ iE ?_;refine rC<|zP ?_
 refine wc_inv (fun k:Nat=>⟨[(107,.int .i64 k),(106,.int .i64 4),(105,.d (.arr 1 encL [[1,0],[0],[0,0],[0,1]])),(1,.d (encH H))],[],72,Try.f12.ntmps,64⟩) (fun k=>k≤4) (fun k=>4-k) 0 [] (Nat.zero_le _)
  (lg zi trivial) ?_
 intro k hk
 refine bL ?_
 by_cases h4:k=4
 ·subst h4
  refine sR<|rC<|nQ ?_;refine wG<|zX<|sR ?_;refine rQ (ay kL rfl rfl (ak aj) (.inl rfl) (fun _=>rfl)) ?_;refine rQ (ay hf3 rfl rfl (ak (ak (ak aj))) (.inl rfl) (fun _=>rfl)) ?_;iterate 7 refine rC ?_
  refine nR<|rQ (ay kM rfl rfl (ak aj) (.inl rfl) (fun _=>rfl)) ?_;refine rQ (ay hl1 rfl rfl (ak (ak (ak aj))) (.inl rfl) (fun _=>rfl)) ?_
  iterate 5 refine rC ?_
  refine nR<|rQ (ay (e8 1) rfl rfl (ak aj) (.inl rfl) (fun _=>rfl)) ?_;refine rQ iS ?_;refine rQ (ao.val_le (bf aa rfl rfl rfl rfl) (fl 3 0 0 0 0 zBk) rfl) ?_;refine rQ (ao.frozen (aD (s:=38) aa rfl rfl rfl rfl rfl rfl rfl rfl) (Frz.litsX (enc:=bP) pM rfl (fun _=>rfl))) ?_;refine rC<|nR ?_;refine rQ (ay (e8 1) rfl rfl (ak aj) (.inl rfl) (fun _=>rfl)) ?_;iterate 2 refine rQ iS ?_
  refine rQ (ao.val_le (bf aa rfl rfl rfl rfl) (fl 1 1 3 0 0 zBk) rfl) ?_;refine rQ (ao.val_le (bf aa rfl rfl rfl rfl) (fl 3 0 0 0 0 zBk) rfl) ?_;refine rQ (ao.frozen (aD (s:=38) aa rfl rfl rfl rfl rfl rfl rfl rfl) (Frz.litsX (enc:=bP) sq rfl (fun _=>rfl))) ?_;refine rC<|nR ?_;refine rC ?_;refine rQ (ao.val_le (bf aa rfl rfl rfl rfl) (kA 1 0) rfl) ?_;refine rQ (ay jX rfl rfl aj (.inl rfl) (fun _=>rfl)) ?_;refine rQ (ay (iw rdO cu) rfl rfl (ak (ak aj)) (.inl rfl) (fun _=>rfl)) ?_;refine rQ (ao.frozen (dS (s:=38) (enc:=bP) (xs:=pM) (ys:=didL rdO cu) aa rfl rfl rfl rfl rfl rfl (by decide) (by decide) rfl) (Frz.own (by decide))) ?_;refine rQ (ay hl2 rfl rfl (ak (ak (ak aj))) (.inl rfl) (fun _=>rfl)) ?_;iterate 5 refine rC ?_
  refine nR<|rC ?_;refine rQ (ao.val_le (bf aa rfl rfl rfl rfl) (kA 1 0) rfl) ?_;refine rQ (ay jX rfl rfl aj (.inl rfl) (fun _=>rfl)) ?_;refine rQ (ay (iw rdO cu) rfl rfl (ak (ak aj)) (.inl rfl) (fun _=>rfl)) ?_;refine rQ (ao.frozen (dS (s:=38) (enc:=bP) (xs:=sq) (ys:=didL rdO cu) aa rfl rfl rfl rfl rfl rfl (by decide) (by decide) rfl) (Frz.own (by decide))) ?_;refine rQ (ay hf4 rfl rfl (ak (ak (ak aj))) (.inl rfl) (fun _=>rfl)) ?_;iterate 7 refine rC ?_
  refine zW<|zU ?_;refine rP ?_;refine rC ?_;refine rP ?_;refine rC ?_;refine rQ iG ?_;refine rC ?_;refine rP ?_;refine rC ?_;refine rP ?_;refine rC ?_;refine rQ iG ?_;refine rC ?_;refine rP ?_;refine rC ?_;refine rP ?_;refine rC ?_;refine rQ iG ?_;refine rC ?_;refine rP ?_;refine rC ?_;refine rP ?_;refine rC ?_;refine rQ iG ?_;refine rC ?_;refine rP ?_;refine rC ?_;refine rQ iG ?_;refine rC ?_;refine rP ?_;refine rC ?_;refine rQ iG ?_;refine rC ?_;refine rP ?_;refine rC ?_;refine rP ?_;refine rC ?_;refine rQ iG ?_;refine rC ?_;refine rP ?_;refine rC ?_;refine rP ?_;refine rQ (ao.frozen (aD (s:=1) aa rfl rfl rfl rfl rfl rfl rfl rfl) (Frz.litsN (enc:=i6) [0,1,2,3] rfl (fun _ _=>rfl))) ?_;refine rP ?_;refine rQ (ay (lF [0,1,2,3] (by decide)) rfl rfl (ak (ak aj)) (.inl rfl) (fun _=>rfl)) ?_;refine rP ?_;refine rC ?_;refine rP ?_;refine rQ (ao.frozen (aD (s:=1) aa rfl rfl rfl rfl rfl rfl rfl rfl) (Frz.litsN (enc:=i6) [0,1,2] rfl (fun _ _=>rfl))) ?_;refine rP ?_;refine rQ (ay (lF [0,1,2] (by decide)) rfl rfl (ak (ak aj)) (.inl rfl) (fun _=>rfl)) ?_;refine rP ?_;refine rQ (gM (m:=1) aa rfl rfl rfl) ?_;refine rP ?_;refine rC ?_;refine rQ iG ?_;refine zJ<|kS<|sR ?_;refine rQ iS ?_;refine rQ (ao.val_le (bf aa rfl rfl rfl rfl) (fl 1 0 1 0 0 zBk) rfl) ?_;refine rQ (ao.val_le (bf aa rfl rfl rfl rfl) (fl 2 0 0 0 9 zBk) rfl) ?_;refine rQ (ao.frozen (aD (s:=38) aa rfl rfl rfl rfl rfl rfl rfl rfl) (Frz.litsX (enc:=bP) qi rfl (fun _=>rfl))) ?_;refine rQ (ay (e8 1) rfl rfl (ak aj) (.inl rfl) (fun _=>rfl)) ?_;refine rQ (bE aa rfl rfl rfl) ?_;refine rQ (ay (iw (wrO 1) zBk) rfl rfl (ak (ak aj)) (.inl rfl) (fun _=>rfl)) ?_;refine rQ (ao.frozen (dS (s:=38) (enc:=bP) (xs:=qi) (ys:=didL (wrO 1) zBk) aa rfl rfl rfl rfl rfl rfl (by decide) (by decide) rfl) (Frz.own (by decide))) ?_;refine rC<|nR ?_;refine rC ?_;refine rQ (ay hsk rfl rfl (ak aj) (.inl rfl) (fun _=>rfl)) ?_;iterate 5 refine rC ?_
  refine nR<|rC ?_;refine rQ (ay hl3 rfl rfl (ak (ak (ak aj))) (.inl rfl) (fun _=>rfl)) ?_;iterate 5 refine rC ?_
  refine nR<|zU ?_;refine rP ?_;refine rC ?_;refine rP ?_;refine rC ?_;refine rQ iU ?_;refine rC ?_;refine rP ?_;refine rC ?_;refine rP ?_;refine rC ?_;refine rQ iU ?_;refine rC ?_;refine rP ?_;refine rC ?_;refine rQ iU ?_;refine rC<|zT ?_
  exact⟨trivial,[],lf⟩
 by_cases h0:k=0
 ·subst h0
  have hac:=hacs 0 [1,0] 15 rfl rfl
  have hod:([[1,0],[0],[0,0],[0,1]]:List (List Int))[(((0:Nat):Int)).toNat]?=some [1,0]:=rfl
  refine sR<|rC<|nQ ?_;refine wV<|zQ<|zS ?_;refine rC ?_;refine rQ (aq aa rfl rfl rfl rfl rfl (by omega) hod) ?_;refine rQ iL ?_;refine zD<|nQ ?_;refine aC (by kernel_rfl) ?_;refine dC [1] [] ?_;refine dC [16] [] ?_;refine dQ [112,113] [] (ay hac rfl rfl (ak (ak (ak aj))) (.inl rfl) (fun _=>rfl)) ?_;refine dQ [] [] (jj aa rfl rfl rfl rfl rfl) ?_;refine dC [15] [] ?_;refine dQ [115,116] [] (an aa (fun K hk=>⟨by decide,by decide,_,rfl,hk⟩)) ?_;refine dC [114,117] [] ?_;refine am (by kernel_rfl)<|aH ?_;refine wG<|aN<|zC<|ai ?_;refine rQ iD ?_;refine rC<|au ?_
  exact aJ 1 [] (by decide) (by decide) (lg zi trivial)
 by_cases h1:k=1
 ·subst h1
  have hac:=hacs 1 [0] 15 rfl rfl
  have hod:([[1,0],[0],[0,0],[0,1]]:List (List Int))[(((1:Nat):Int)).toNat]?=some [0]:=rfl
  refine sR<|rC<|nQ ?_;refine wV<|zQ<|zS ?_;refine rC ?_;refine rQ (aq aa rfl rfl rfl rfl rfl (by omega) hod) ?_;refine rQ iL ?_;refine zD<|nQ ?_;refine aC (by kernel_rfl) ?_;refine dC [1] [] ?_;refine dC [16] [] ?_;refine dQ [112,113] [] (ay hac rfl rfl (ak (ak (ak aj))) (.inl rfl) (fun _=>rfl)) ?_;refine dQ [] [] (jj aa rfl rfl rfl rfl rfl) ?_;refine dC [15] [] ?_;refine dQ [115,116] [] (an aa (fun K hk=>⟨by decide,by decide,_,rfl,hk⟩)) ?_;refine dC [114,117] [] ?_;refine am (by kernel_rfl)<|aH ?_;refine wG<|aN<|zC<|ai ?_;refine rQ iD ?_;refine rC<|au ?_
  exact aJ 2 [] (by decide) (by decide) (lg zi trivial)
 by_cases h2:k=2
 ·subst h2
  have hac:=hacs 2 [0,0] 1 rfl rfl
  have hod:([[1,0],[0],[0,0],[0,1]]:List (List Int))[(((2:Nat):Int)).toNat]?=some [0,0]:=rfl
  refine sR<|rC<|nQ ?_;refine wV<|zQ<|zS ?_;refine rC ?_;refine rQ (aq aa rfl rfl rfl rfl rfl (by omega) hod) ?_;refine rQ iL ?_;refine zD<|nQ ?_;refine aC (by kernel_rfl) ?_;refine dC [1] [] ?_;refine dC [16] [] ?_;refine dQ [112,113] [] (ay hac rfl rfl (ak (ak (ak aj))) (.inl rfl) (fun _=>rfl)) ?_;refine dQ [] [] (jj aa rfl rfl rfl rfl rfl) ?_;refine dC [15] [] ?_;refine dQ [115,116] [] (an aa (fun K hk=>⟨by decide,by decide,_,rfl,hk⟩)) ?_;refine dC [114,117] [] ?_;refine am (by kernel_rfl)<|aH ?_;refine wG<|aN<|zC<|ai ?_;refine rQ iD ?_;refine rC<|au ?_
  exact aJ 3 [] (by decide) (by decide) (lg zi trivial)
 ·obtain rfl:k=3:=by omega
  have hac:=hacs 3 [0,1] 0 rfl rfl
  have hod:([[1,0],[0],[0,0],[0,1]]:List (List Int))[(((3:Nat):Int)).toNat]?=some [0,1]:=rfl
  refine sR<|rC<|nQ ?_;refine wV<|zQ<|zS ?_;refine rC ?_;refine rQ (aq aa rfl rfl rfl rfl rfl (by omega) hod) ?_;refine rQ iL ?_;refine zD<|nQ ?_;refine aC (by kernel_rfl) ?_;refine dC [1] [] ?_;refine dC [16] [] ?_;refine dQ [112,113] [] (ay hac rfl rfl (ak (ak (ak aj))) (.inl rfl) (fun _=>rfl)) ?_;refine dQ [] [] (jj aa rfl rfl rfl rfl rfl) ?_;refine dC [15] [] ?_;refine dQ [115,116] [] (an aa (fun K hk=>⟨by decide,by decide,_,rfl,hk⟩)) ?_;refine dC [114,117] [] ?_;refine am (by kernel_rfl)<|aH ?_;refine wG<|aN<|zC<|ai ?_;refine rQ iD ?_;refine rC<|au ?_
  exact aJ 4 [] (by decide) (by decide) (lg zi trivial)
theorem j1:FnIs Try.prog 12 [] [] (.bool true) []:=by
 have fnd:∀(h:List HEv) (fuel:Int) r,ea h 1 fuel=r→h.length≤100→fuel≤100→FnIs Try.prog 23 [.d (encH h),.int .i64 1,.int .i64 fuel] [] (fndE r.1.1 r.1.2 r.2) []:=fun h fuel r hr hh hf=>by
  have:=oS (iP h 1 fuel (by omega) (.inl (by omega)) (fun _=>by have:=Nat.mul_le_mul (show fuel.toNat≤100 by omega) (show h.length+1≤101 by omega); omega))
  rwa [hr]at this
 have sts:∀(h:List HEv) (fuel:Int) r,eV h 1 fuel=r→h.length≤100→fuel≤100→FnIs Try.prog 21 [.d (encH h),.int .i64 1,.int .i64 fuel] [] (stsE r.1 r.2) []:=fun h fuel r hr hh hf=>by
  have:=nc (iP h 1 fuel (by omega) (.inl (by omega)) (fun _=>by have:=Nat.mul_le_mul (show fuel.toNat≤100 by omega) (show h.length+1≤101 by omega); omega))
  rwa [hr]at this
 have leg:∀(h:List HEv) (fuel:Int) (f:Bool) (e:Int),(ea h 1 fuel).1.2=f∧(ea h 1 fuel).2=e→h.length≤100→fuel≤100→FnIs Try.prog 22 [.d (encH h),.int .i64 1,.int .i64 fuel] [] (legE f e) []:=fun h fuel f e hr hh hf=>by
  have:=pP (iP h 1 fuel (by omega) (.inl (by omega)) (fun _=>by have:=Nat.mul_le_mul (show fuel.toNat≤100 by omega) (show h.length+1≤101 by omega); omega))
  rwa [hr.1,hr.2]at this
 refine vo (ed cu) (ed zBk) (gZ true) (gZ false) (sO _) (sO _) kL kM (fnd _ 9 _ ex1 (by decide) (by decide)) (fnd _ 9 _ ex2 (by decide) (by decide)) (sts _ 3 _ ex3 (by decide) (by decide)) (sts _ 2 _ ex4 (by decide) (by decide)) (sts _ 4 _ ex5 (by decide) (by decide)) (fun k o e ho he=>?_) (fnd _ 99 _ ex6 (by decide) (by decide)) (leg _ 99 _ _ ex7 (by decide) (by decide)) (leg _ 99 _ _ ex8 (by decide) (by decide)) (fnd _ 99 _ ex9 (by decide) (by decide)) ?_ (leg _ 9 _ _ ex11 (by decide) (by decide))
 ·have hal:(rdH (ed cu)).all.length≤1048576:=Nat.le_trans (fa _) (by decide)
  have key:∀(o:List Int) (e:Int),_root_.Go.Proofs.Ytkehohfgbblokaa.accS 1 (opsH (ed cu)) o=e→o.length≤100→FnIs Try.prog 18 [.d (encH (ed cu)),.int .i64 1,.d (encL o)] [] (.d (i6 e)) []:=fun o e h1 h2=>by
   have:=uc (ed cu) 1 o (by decide) hal (by omega)
   rwa [acA o e h1]at this
  match k,ho,he with
  | 0,ho,he=>cases ho; cases he; exact key _ _ ex12.1 (by decide)
  | 1,ho,he=>cases ho; cases he; exact key _ _ ex12.2.1 (by decide)
  | 2,ho,he=>cases ho; cases he; exact key _ _ ex12.2.2.1 (by decide)
  | 3,ho,he=>cases ho; cases he; exact key _ _ ex12.2.2.2 (by decide)
  | k+4,ho,he=>simp at ho
 ·have hal:(rdH badL).all.length≤1048576:=Nat.le_trans (fa _) (by decide)
  have:=s3 badL (by decide) hal
  rw[ex10.1,ex10.2]at this
  exact this
abbrev r01d (b:Bool):AV :=.d (i6 (if b then 1 else 0))
theorem wK (o:HOp) (b:Int):FnIs Try.prog 14 [.d (bj o),.int .i64 b] [] (r01d (mayB o b)) []:=by
 have hb:=oA o.op b
 refine aE aa Try.func14 rfl rfl rfl ?_
 unfold mayB
 cases hbd:badO o.op b with
 | true =>
  rw[hbd]at hb
  refine sR<|rN ?_;refine rC<|zW ?_;refine rC ?_;refine rQ iB ?_;refine rC ?_;refine rQ (ay hb rfl rfl (ak (ak aj)) (.inl rfl) (fun _=>rfl)) ?_;refine rC ?_;refine zO<|sR ?_;refine rC<|zT<|bx ?_
  exact⟨trivial,[],lf⟩
 | false =>
  rw[hbd]at hb
  cases h1:decide (o.returned<0) with
  | true =>
   refine sR<|rN ?_;refine rC<|zW ?_;refine rC ?_;refine rQ iB ?_;refine rC ?_;refine rQ (ay hb rfl rfl (ak (ak aj)) (.inl rfl) (fun _=>rfl)) ?_;refine rC ?_;refine zJ<|kS<|qR ?_;refine rC ?_;refine rQ iB ?_;refine zD ?_
   iterate 3 refine rS ?_
   refine rQ iT ?_;refine rC ?_;iterate 3 refine rT ?_
   refine rQ iU ?_;refine zO<|sR ?_;refine rC<|zT<|bx ?_
   exact⟨trivial,[],lf⟩
  | false =>
   cases h2:decide (o.err=0) with
   | true =>
    refine sR<|rN ?_;refine rC<|zW ?_;refine rC ?_;refine rQ iB ?_;refine rC ?_;refine rQ (ay hb rfl rfl (ak (ak aj)) (.inl rfl) (fun _=>rfl)) ?_;refine rC ?_;refine zJ<|kS<|qR ?_;refine rC ?_;refine rQ iB ?_;refine zD ?_;refine rO ?_;refine rC ?_;refine rO ?_;refine rQ iB ?_;refine rO ?_;refine rC ?_;refine rQ iF ?_;refine rC ?_;iterate 3 refine rS ?_
    refine rQ iT ?_;refine zO<|sR ?_;refine rC<|zT<|bx ?_
    exact⟨trivial,[],lf⟩
   | false =>
    cases h3:decide (o.err=9) with
    | true =>
     refine sR<|rN ?_;refine rC<|zW ?_;refine rC ?_;refine rQ iB ?_;refine rC ?_;refine rQ (ay hb rfl rfl (ak (ak aj)) (.inl rfl) (fun _=>rfl)) ?_;refine rC ?_;refine zJ<|kS<|qR ?_;refine rC ?_;refine rQ iB ?_;refine zD ?_;refine rO ?_;refine rC ?_;refine rO ?_;refine rQ iB ?_;refine rO ?_;refine rC ?_;refine rQ iF ?_;refine rC ?_;refine rO ?_;refine rC ?_;refine rO ?_;refine rQ iB ?_;refine rO ?_;refine rC ?_;refine rQ iF ?_;refine zI<|sR ?_;refine rC<|zT<|bx ?_
     exact⟨trivial,[],lf⟩
    | false =>
     refine sR<|rN ?_;refine rC<|zW ?_;refine rC ?_;refine rQ iB ?_;refine rC ?_;refine rQ (ay hb rfl rfl (ak (ak aj)) (.inl rfl) (fun _=>rfl)) ?_;refine rC ?_;refine zJ<|kS<|qR ?_;refine rC ?_;refine rQ iB ?_;refine zD ?_;refine rO ?_;refine rC ?_;refine rO ?_;refine rQ iB ?_;refine rO ?_;refine rC ?_;refine rQ iF ?_;refine rC ?_;refine rO ?_;refine rC ?_;refine rO ?_;refine rQ iB ?_;refine rO ?_;refine rC ?_;refine rQ iF ?_;refine zG<|kS<|sR ?_;refine rC<|zT ?_
     exact⟨trivial,[],lf⟩
theorem l6 (o:HOp):FnIs Try.prog 16 [.d (bj o)] [] (r01d (b4 o)) []:=by
 refine aE aa Try.func16 rfl rfl rfl ?_
 unfold b4
 cases h1:decide (0≤o.returned) with
 | true =>
  cases h2:decide (o.err=0) with
  | true =>
   refine sR<|rN ?_;refine rC<|zW ?_;refine rC ?_;refine rQ iB ?_;refine zD ?_;refine rO ?_;refine rC ?_;refine rO ?_;refine rQ iB ?_;refine rO ?_;refine rC ?_;refine rQ iT ?_;refine zI<|sR ?_;refine rC<|nS<|dM<|bx ?_
   exact⟨trivial,[],lf⟩
  | false =>
   refine sR<|rN ?_;refine rC<|zW ?_;refine rC ?_;refine rQ iB ?_;refine zD ?_;refine rO ?_;refine rC ?_;refine rO ?_;refine rQ iB ?_;refine rO ?_;refine rC ?_;refine rQ iT ?_;refine zG<|kS<|sR ?_;refine rC<|zT ?_
   exact⟨trivial,[],lf⟩
 | false =>
  refine sR<|rN ?_;refine rC<|zW ?_;refine rC ?_;refine rQ iB ?_;refine zD ?_
  iterate 3 refine rS ?_
  refine rQ iF ?_;refine zJ<|kS<|sR ?_;refine rC<|zT ?_
  exact⟨trivial,[],lf⟩
def stB (o p:HOp):Bool:=decide (o.err=9)&&(decide (o.era=p.era)&&(decide (o.returned<p.invoked)&&(decide (0≤p.returned)&&(decide (p.err=0)||decide (p.err=8)))))
def rstV (l:List HOp):Bool := !l.any fun o=>l.any (stB o)
theorem wn {α:Type} (f:α→Bool) {l:List α} {i:Nat} {o:α} (h:l[i]?=some o):(l.drop i).any f=(f o||(l.drop (i+1)).any f):=by
 have hlt:=(List.getElem?_eq_some_iff.1 h).1
 rw[List.drop_eq_getElem_cons hlt,(List.getElem?_eq_some_iff.1 h).2,List.any_cons]
theorem iW (h:List HEv):∀(n i:Nat) (out:List HOp) (era:Int),(ia h n i out era).length≤out.length+n
 | 0,_,out,_=>by simp[ia]
 | n+1,i,out,era=>by
  rw[ia]
  split
  ·omega
  ·split
   ·have:=iW h n (i+1) out (era+1); omega
   ·split
    ·rename_i x _ _ _
     have:=iW h n (i+1) (out++[mkOp h i x out era]) era
     rw[List.length_append,List.length_singleton]at this
     omega
    ·have:=iW h n (i+1) out era; omega
theorem pD (h:List HEv):(opsR h).length≤h.length:=by
 have:=iW h h.length 0 [] 0
 simpa[opsR]using this
structure RS where
 era:Int
 taken:List Int
 arr:List (List UInt8)
 dur:List (List UInt8)
abbrev ic (l:List (List UInt8)):D :=.arr 32 bh l
def cz (s:RS):D :=.cons (i6 s.era) (.cons (ib s.taken) (.cons (ic s.arr) (.cons (ic s.dur) .nil)))
abbrev mQ (l:List (List UInt8)):Row :=.ds 27 32 true bh l
theorem AW {α:Type} {l:List α} {k:Nat} {x z:α} (h:l[k]?=some x):(l.take k++List.replicate (l.length-k) z).set k x=l.take (k+1)++List.replicate (l.length-(k+1)) z:=by
 have hlt:=(List.getElem?_eq_some_iff.1 h).1
 obtain⟨m,hm⟩:∃m,l.length-k=m+1:=⟨l.length-k-1,by omega⟩
 rw[hm,show l.length-(k+1)=m by omega,List.replicate_succ,List.set_append_right _ _ (by rw[List.length_take]; omega),List.length_take,Nat.min_eq_left (by omega),Nat.sub_self,List.set_cons_zero,List.take_add_one,h]
 simp
theorem mP (l:List (List UInt8)) (hl:l.length≤1048576):FnIs Try.prog 65 [.d (ic l)] [] (.own 64 0 l.length 32 none) [(64,mQ l)]:=by
 refine aE aa Try.func65 rfl rfl rfl ?_;refine sR<|rC<|nR ?_;refine rC ?_;refine rQ iE ?_;refine aU (cW (enc:=bh) (s:=32) (N:=l.length) aa zBk rfl rfl rfl rfl rfl rfl rfl hl rfl) rfl ?_;refine rC<|zW ?_;refine rC<|zP ?_
 refine wc_inv (fun k:Nat=>⟨[(4,.int .i64 k),(3,.own 65 0 l.length 32 none),(0,.d (ic l))],[(65,some (mQ (l.take k++List.replicate (l.length-k) zBk)))],72,Try.f65.ntmps,64⟩) (fun k=>k≤l.length) (fun k=>l.length-k) 0 [(65,some _)] (Nat.zero_le _)
  (lg zj ⟨zR,trivial⟩) ?_
 intro k hk
 refine bL ?_
 by_cases hlt:k<l.length
 ·have d1:decide ((k:Int)<(l.length:Int))=true:=dT (by omega)
  obtain⟨x,hx⟩:∃x,l[k]?=some x:=⟨_,List.getElem?_eq_getElem hlt⟩
  have hx2:l[((k:Int)).toNat]?=some x:=by rw[Int.toNat_natCast]; exact hx
  obtain⟨z0,hz1⟩:∃z0,(l.take k++List.replicate (l.length-k) zBk)[k]?=some z0:=⟨_,List.getElem?_eq_getElem (by rw[List.length_append,List.length_take,List.length_replicate]; omega)⟩
  have hz0:(l.take k++List.replicate (l.length-k) zBk)[((k:Int)).toNat]?=some z0:=by rw[Int.toNat_natCast]; exact hz1
  have hset:(l.take k++List.replicate (l.length-k) zBk).set ((k:Int)).toNat x=l.take (k+1)++List.replicate (l.length-(k+1)) zBk:=by rw[Int.toNat_natCast]; exact AW hx
  refine qR<|zD ?_;refine rQ iE ?_;refine rC ?_;refine zI<|zQ<|br<|ai ?_;iterate 4 refine rC ?_
  refine rQ (aq aa rfl rfl rfl rfl rfl (by omega) hx2) ?_;refine rQ iL ?_;refine rQ (aM aa rfl rfl rfl rfl rfl (by omega) (by omega)) ?_;refine bI (aL aa rfl rfl rfl ⟨rfl,z0,x,hz0,⟨rfl,rfl,rfl⟩,rfl⟩ rfl)<|au<|zC<|ai ?_;refine rC ?_;refine rQ iD ?_;refine rC<|au ?_
  exact aJ (k+1) [(65,some 65)] hlt (by omega) (lg zj ⟨⟨rfl,rfl,_,rfl,aQ.of_eq (congrArg mQ hset)⟩,trivial⟩)
 ·have d1:decide ((k:Int)<(l.length:Int))=false:=dF (by omega)
  obtain rfl:k=l.length:=by omega
  rw[List.take_length,Nat.sub_self,List.replicate_zero,List.append_nil]
  refine qR<|zD ?_;refine rQ iE ?_;refine rC ?_;refine zG<|zX<|sR ?_;refine zD<|zT ?_
  exact⟨trivial,[(64,some 65)],lg zV ⟨zR,trivial⟩⟩
theorem fy (l:List (List UInt8)) (hl:l.length≤1048576):FnIs Try.prog 65 [.d (ic l)] [] (.d (ic l)) []:=(mP l hl).freeze_out 64 _ rfl (Frz.own rfl) trivial
def cM (n:Nat):RS:=⟨0,[],List.replicate n zBk,List.replicate n zBk⟩
theorem yz (n:Nat):DLe (.cons (i6 0) (.cons (.sc nil_) (.cons (ic (List.replicate n zBk)) (.cons (ic (List.replicate n zBk)) .nil)))) (cz (cM n)):=by
 rintro w X cs ⟨c1,r1,rfl,h1,c2,r2,rfl,h2,h3⟩
 exact⟨c1,_,rfl,h1,c2,_,rfl,.inl ⟨rfl,h2.1⟩,h3⟩
theorem s9 (n:Nat) (hn:n≤1048576):FnIs Try.prog 48 [.int .i64 n] [] (.d (cz (cM n))) []:=by
 refine aE aa Try.func48 rfl rfl rfl ?_;refine sR<|rN<|nQ ?_;refine aC (by kernel_rfl) ?_;refine dC [0] [] ?_;refine dQ [3] [] (ao.frozen (cW (enc:=bh) (s:=32) (N:=n) aa zBk rfl rfl rfl rfl rfl rfl rfl hn rfl) (Frz.own (by rw[List.length_replicate]))) ?_;refine dC [0] [] ?_;refine dQ [5] [] (ao.frozen (cW (enc:=bh) (s:=32) (N:=n) aa zBk rfl rfl rfl rfl rfl rfl rfl hn rfl) (Frz.own (by rw[List.length_replicate]))) ?_;refine dQ [4,6] [] (ao.val_le (bf aa rfl rfl rfl rfl) (yz n) rfl) ?_;refine bn [2,7] [64] (aL aa rfl rfl rfl ⟨_,⟨rfl,rfl,rfl⟩,rfl⟩ rfl) ?_;refine am (by kernel_rfl)<|aH<|dM ?_
 exact⟨trivial,_,rfl,[],lf⟩
def fG (s:RS):RS:=⟨s.era+1,[],s.dur,s.dur⟩
theorem yH (e:Int) (d:List (List UInt8)):DLe (.cons (i6 e) (.cons (.sc nil_) (.cons (ic d) (.cons (ic d) .nil)))) (cz ⟨e,[],d,d⟩):=by
 rintro w X cs ⟨c1,r1,rfl,h1,c2,r2,rfl,h2,h3⟩
 exact⟨c1,_,rfl,h1,c2,_,rfl,.inl ⟨rfl,h2.1⟩,h3⟩
theorem pv (s:RS) (hd:s.dur.length≤1048576) (he:IntKind.i64.wrap (s.era+1)=s.era+1):FnIs Try.prog 51 [.d (cz s)] [] (.d (cz (fG s))) []:=by
 have hc:=fy s.dur hd
 refine aE aa Try.func51 rfl rfl rfl ?_;refine sR ?_;iterate 2 refine rN ?_
 refine nQ<|aC (by kernel_rfl) ?_;refine dC [1] [] ?_;refine dQ [3] [64] iB ?_;refine dQ [4] [] (cP (m:=s.era+1) aa rfl rfl he) ?_;refine dC [1] [] ?_;refine dQ [6] [64] iB ?_;refine dQ [7] [] (ay hc rfl rfl (ak aj) (.inl rfl) (fun _=>rfl)) ?_;refine dC [1] [] ?_;refine dQ [9] [64] iB ?_;refine dQ [10] [] (ay hc rfl rfl (ak aj) (.inl rfl) (fun _=>rfl)) ?_;refine dQ [5,8,11] [] (ao.val_le (bf aa rfl rfl rfl rfl) (yH (s.era+1) s.dur) rfl) ?_;refine bn [2,12] [72] (aL aa rfl rfl rfl ⟨_,⟨rfl,rfl,rfl⟩,rfl⟩ rfl) ?_;refine am (by kernel_rfl)<|aH<|dM ?_
 exact⟨trivial,_,rfl,[],lf⟩
theorem oo (l:List Int) (n:Int) (hl:l.length≤1048576):FnIs Try.prog 49 [.d (ib l),.int .i64 n] [] (.d (i6 (if l.any (fun y=>decide (y=n))=true then 1 else 0))) []:=by
 refine aE aa Try.func49 rfl rfl rfl ?_;refine sR<|rC<|zW ?_;refine rC<|zP ?_
 refine wc_inv (fun k:Nat=>⟨[(5,.int .i64 k),(1,.int .i64 n),(0,.d (ib l))],[],72,Try.f49.ntmps,64⟩) (fun k=>k≤l.length∧(l.drop k).any (fun y=>decide (y=n))=l.any (fun y=>decide (y=n))) (fun k=>l.length-k) 0 [] ⟨Nat.zero_le _,rfl⟩
  (lg zj trivial) ?_
 rintro k ⟨hk,hd⟩
 refine bL ?_
 by_cases hlt:k<l.length
 ·have d1:decide ((k:Int)<(l.length:Int))=true:=dT (by omega)
  obtain⟨x,hx⟩:∃x,l[k]?=some x:=⟨_,List.getElem?_eq_getElem hlt⟩
  have hx2:l[((k:Int)).toNat]?=some x:=by rw[Int.toNat_natCast]; exact hx
  rw[wn _ hx]at hd
  by_cases h2:x=n
  ·have d2:decide (x=n)=true:=dT h2
   rw[d2,Bool.true_or]at hd
   rw[if_pos hd.symm]
   refine qR<|zD ?_;refine rQ iE ?_;refine rC ?_;refine zI<|zQ<|zS ?_;refine zD ?_;refine rQ (aq aa rfl rfl rfl rfl rfl (by omega) hx2) ?_;refine rQ iL ?_;refine zD ?_;refine zI<|sR ?_;refine rC<|zT<|zB<|co<|zB ?_
   exact⟨trivial,[],lf⟩
  ·have d2:decide (x=n)=false:=dF h2
   rw[d2,Bool.false_or]at hd
   refine qR<|zD ?_;refine rQ iE ?_;refine rC ?_;refine zI<|zQ<|zS ?_;refine zD ?_;refine rQ (aq aa rfl rfl rfl rfl rfl (by omega) hx2) ?_;refine rQ iL ?_;refine zD ?_;refine zG<|aN<|zC<|ai ?_;refine rC ?_;refine rQ iD ?_;refine rC<|au ?_
   exact aJ (k+1) [] ⟨hlt,hd⟩ (by omega) (lg zj trivial)
 ·have d1:decide ((k:Int)<(l.length:Int))=false:=dF (by omega)
  rw[List.drop_eq_nil_of_le (by omega),List.any_nil]at hd
  rw[if_neg (by rw[←hd]; decide)]
  refine qR<|zD ?_;refine rQ iE ?_;refine rC ?_;refine zG<|zX<|sR ?_;refine rC<|zT ?_
  exact⟨trivial,[],lf⟩
theorem ux {α:Type} {l:List α} {i:Nat} {x:α} (h:l[i]?=some x):l.set i x=l:=by
 apply List.ext_getElem?
 intro j
 rw[List.getElem?_set]
 split
 ·rename_i e
  subst e
  rw[if_pos (List.getElem?_eq_some_iff.1 h).1,h]
 ·rfl
def pgAt (l:List (List UInt8)) (i:Int):List UInt8:=l[i.toNat]?.getD zBk
def hapR (s:RS) (o:HOp):RS×Bool :=
 if o.op.kind=1 then (s,!b4 o||decide (pgAt s.arr o.op.index=o.value))
 else if o.op.kind=2 then ({ s with arr:=s.arr.set o.op.index.toNat o.op.data },true)
 else ({ s with dur:=s.arr },true)
structure qs (s:RS) (o:HOp):Prop where
 al:s.arr.length≤1048576
 dl:s.dur.length≤1048576
 pg:∀p∈s.arr,p.length=32
 kd:o.op.kind=1∨o.op.kind=2∨o.op.kind=3
 ix:o.op.kind=1∨o.op.kind=2→0≤o.op.index∧o.op.index<s.arr.length
 dt:o.op.kind=2→o.op.data.length=32
abbrev hapE (r:RS×Bool):AV :=.tup (.acons (.d (cz r.1)) (.acons (r01d r.2) .anil))
theorem uJ (s:RS) (o:HOp) (h:qs s o) (h1:o.op.kind=1):FnIs Try.prog 52 [.d (cz s),.d (bj o)] [] (hapE (hapR s o)) []:=by
 have hca:=fy s.arr h.al
 have hcd:=fy s.dur h.dl
 have hmu:=l6 o
 have k1:decide (o.op.kind=1)=true:=dT h1
 have k2:decide (o.op.kind=2)=false:=dF (by omega)
 have k3:decide (o.op.kind=3)=false:=dF (by omega)
 obtain⟨hi0,hi1⟩:=h.ix (.inl h1)
 obtain⟨x,hx⟩:∃x,s.arr[o.op.index.toNat]?=some x:=⟨_,List.getElem?_eq_getElem (by omega)⟩
 have hp:pgAt s.arr o.op.index=x:=by rw[pgAt,hx]; rfl
 refine aE aa Try.func52 rfl rfl rfl ?_
 rw[hapR,if_pos h1,hp]
 cases hm:b4 o with
 | false =>
  rw[hm]at hmu
  refine sR ?_;iterate 3 refine rN ?_
  refine rC<|nQ ?_;refine aC (by kernel_rfl) ?_;refine dC [2] [] ?_;refine dQ [8] [64] iB ?_;refine dC [2] [] ?_;refine dQ [10] [64] iB ?_;refine dC [2] [] ?_;refine dQ [12] [64] iB ?_;refine dQ [13] [] (ay hca rfl rfl (ak aj) (.inl rfl) (fun _=>rfl)) ?_;refine dC [2] [] ?_;refine dQ [15] [64] iB ?_;refine dQ [16] [] (ay hcd rfl rfl (ak aj) (.inl rfl) (fun _=>rfl)) ?_;refine dQ [9,11,14,17] [] iS ?_;refine cR [] [] rfl (an aa (fun K hk=>hk)) ?_;refine bn [6,18] [184] (aL aa rfl rfl rfl ⟨_,⟨rfl,rfl,rfl⟩,rfl⟩ rfl) ?_;refine am (by kernel_rfl)<|aH<|qR ?_;refine zD ?_;refine rQ iB<|zP<|sR ?_;refine zD ?_;refine zI<|aT ?_;refine aC (by kernel_rfl) ?_;refine dQ [3] [72] iM ?_;refine dQ [24] [] (ay hmu rfl rfl (ak aj) (.inl rfl) (fun _=>rfl)) ?_;refine dC [25] [] ?_;refine dC [26] [] ?_;refine ae [27,2] rfl rfl rfl rfl ?_;refine ae [27,28] rfl rfl rfl rfl ?_;refine ae [27,3] rfl rfl rfl rfl ?_;refine ae [27,30] rfl rfl rfl rfl ?_;refine ae [27,31] rfl rfl rfl rfl ?_;refine ae [27,29,32] rfl rfl rfl rfl ?_;refine ae [27,33] rfl rfl rfl rfl ?_;refine ae [27,3] rfl rfl rfl rfl ?_;refine ae [27,35] rfl rfl rfl rfl ?_;refine ae [27,34,36] rfl rfl rfl rfl ?_;refine dQ [27,37] [] iG ?_;refine am (by kernel_rfl)<|aH ?_;refine wG<|aN<|zC<|sR ?_;refine rQ iM ?_;refine rW ?_;refine rC<|zT ?_
  exact⟨trivial,_,rfl,[],lf⟩
 | true =>
  rw[hm]at hmu
  by_cases he:x=o.value
  ·have d2:decide (x=o.value)=true:=dT he
   have d1:(!decide (x=o.value))=false:=by rw[d2]; rfl
   rw[d2]
   refine sR ?_;iterate 3 refine rN ?_
   refine rC<|nQ ?_;refine aC (by kernel_rfl) ?_;refine dC [2] [] ?_;refine dQ [8] [64] iB ?_;refine dC [2] [] ?_;refine dQ [10] [64] iB ?_;refine dC [2] [] ?_;refine dQ [12] [64] iB ?_;refine dQ [13] [] (ay hca rfl rfl (ak aj) (.inl rfl) (fun _=>rfl)) ?_;refine dC [2] [] ?_;refine dQ [15] [64] iB ?_;refine dQ [16] [] (ay hcd rfl rfl (ak aj) (.inl rfl) (fun _=>rfl)) ?_;refine dQ [9,11,14,17] [] iS ?_;refine cR [] [] rfl (an aa (fun K hk=>hk)) ?_;refine bn [6,18] [184] (aL aa rfl rfl rfl ⟨_,⟨rfl,rfl,rfl⟩,rfl⟩ rfl) ?_;refine am (by kernel_rfl)<|aH<|qR ?_;refine zD ?_;refine rQ iB<|zP<|sR ?_;refine zD ?_;refine zI<|aT ?_;refine aC (by kernel_rfl) ?_;refine dQ [3] [72] iM ?_;refine dQ [24] [] (ay hmu rfl rfl (ak aj) (.inl rfl) (fun _=>rfl)) ?_;refine dC [25] [] ?_;refine dC [26] [] ?_;refine ab [27,2] [] rfl rfl rfl rfl (an aa (fun K hk=>hk)) ?_;refine ab [27,28] [64] rfl rfl rfl rfl (aK aa rfl rfl ⟨_,rfl,rfl⟩ rfl) ?_;refine ab [27,3] [] rfl rfl rfl rfl (an aa (fun K hk=>hk)) ?_;refine ab [27,30] [] rfl rfl rfl rfl (an aa (fun K hk=>hk)) ?_;refine ab [27,31] [72] rfl rfl rfl rfl (aK aa rfl rfl ⟨_,rfl,rfl⟩ rfl) ?_;refine ab [27,29,32] [] rfl rfl rfl rfl (aq aa rfl rfl rfl rfl rfl hi0 hx) ?_;refine ab [27,33] [] rfl rfl rfl rfl (cg aa rfl rfl) ?_;refine ab [27,3] [] rfl rfl rfl rfl (an aa (fun K hk=>hk)) ?_;refine ab [27,35] [72] rfl rfl rfl rfl (aK aa rfl rfl ⟨_,rfl,rfl⟩ rfl) ?_;refine ab [27,34,36] [] rfl rfl rfl rfl (jY rfl rfl rfl rfl (by kernel_rfl) (by decide) (cn x o.value)) ?_;refine dQ [27,37] [] iU ?_;refine am (by kernel_rfl)<|aH ?_;refine wF<|aN<|zC<|sR ?_;refine rQ iM ?_;refine rW ?_;refine rC<|zT ?_
   exact⟨trivial,_,rfl,[],lf⟩
  ·have d2:decide (x=o.value)=false:=dF he
   have d1:(!decide (x=o.value))=true:=by rw[d2]; rfl
   rw[d2]
   refine sR ?_;iterate 3 refine rN ?_
   refine rC<|nQ ?_;refine aC (by kernel_rfl) ?_;refine dC [2] [] ?_;refine dQ [8] [64] iB ?_;refine dC [2] [] ?_;refine dQ [10] [64] iB ?_;refine dC [2] [] ?_;refine dQ [12] [64] iB ?_;refine dQ [13] [] (ay hca rfl rfl (ak aj) (.inl rfl) (fun _=>rfl)) ?_;refine dC [2] [] ?_;refine dQ [15] [64] iB ?_;refine dQ [16] [] (ay hcd rfl rfl (ak aj) (.inl rfl) (fun _=>rfl)) ?_;refine dQ [9,11,14,17] [] iS ?_;refine cR [] [] rfl (an aa (fun K hk=>hk)) ?_;refine bn [6,18] [184] (aL aa rfl rfl rfl ⟨_,⟨rfl,rfl,rfl⟩,rfl⟩ rfl) ?_;refine am (by kernel_rfl)<|aH<|qR ?_;refine zD ?_;refine rQ iB<|zP<|sR ?_;refine zD ?_;refine zI<|aT ?_;refine aC (by kernel_rfl) ?_;refine dQ [3] [72] iM ?_;refine dQ [24] [] (ay hmu rfl rfl (ak aj) (.inl rfl) (fun _=>rfl)) ?_;refine dC [25] [] ?_;refine dC [26] [] ?_;refine ab [27,2] [] rfl rfl rfl rfl (an aa (fun K hk=>hk)) ?_;refine ab [27,28] [64] rfl rfl rfl rfl (aK aa rfl rfl ⟨_,rfl,rfl⟩ rfl) ?_;refine ab [27,3] [] rfl rfl rfl rfl (an aa (fun K hk=>hk)) ?_;refine ab [27,30] [] rfl rfl rfl rfl (an aa (fun K hk=>hk)) ?_;refine ab [27,31] [72] rfl rfl rfl rfl (aK aa rfl rfl ⟨_,rfl,rfl⟩ rfl) ?_;refine ab [27,29,32] [] rfl rfl rfl rfl (aq aa rfl rfl rfl rfl rfl hi0 hx) ?_;refine ab [27,33] [] rfl rfl rfl rfl (cg aa rfl rfl) ?_;refine ab [27,3] [] rfl rfl rfl rfl (an aa (fun K hk=>hk)) ?_;refine ab [27,35] [72] rfl rfl rfl rfl (aK aa rfl rfl ⟨_,rfl,rfl⟩ rfl) ?_;refine ab [27,34,36] [] rfl rfl rfl rfl (jY rfl rfl rfl rfl (by kernel_rfl) (by decide) (cn x o.value)) ?_;refine dQ [27,37] [] iU ?_;refine am (by kernel_rfl)<|aH ?_;refine wT<|sR ?_;refine rQ iM ?_;refine rW ?_;refine rC<|zT<|zB ?_
   exact⟨trivial,_,rfl,[],lf⟩
theorem uH (s:RS) (o:HOp) (h:qs s o) (h3:o.op.kind=3):FnIs Try.prog 52 [.d (cz s),.d (bj o)] [] (hapE (hapR s o)) []:=by
 have hca:=fy s.arr h.al
 have hcd:=fy s.dur h.dl
 have k1:decide (o.op.kind=1)=false:=dF (by omega)
 have k2:decide (o.op.kind=2)=false:=dF (by omega)
 have k3:decide (o.op.kind=3)=true:=dT h3
 refine aE aa Try.func52 rfl rfl rfl ?_
 rw[hapR,if_neg (by omega),if_neg (by omega)]
 refine sR ?_;iterate 3 refine rN ?_
 refine rC<|nQ ?_;refine aC (by kernel_rfl) ?_;refine dC [2] [] ?_;refine dQ [8] [64] iB ?_;refine dC [2] [] ?_;refine dQ [10] [64] iB ?_;refine dC [2] [] ?_;refine dQ [12] [64] iB ?_;refine dQ [13] [] (ay hca rfl rfl (ak aj) (.inl rfl) (fun _=>rfl)) ?_;refine dC [2] [] ?_;refine dQ [15] [64] iB ?_;refine dQ [16] [] (ay hcd rfl rfl (ak aj) (.inl rfl) (fun _=>rfl)) ?_;refine dQ [9,11,14,17] [] iS ?_;refine cR [] [] rfl (an aa (fun K hk=>hk)) ?_;refine bn [6,18] [184] (aL aa rfl rfl rfl ⟨_,⟨rfl,rfl,rfl⟩,rfl⟩ rfl) ?_;refine am (by kernel_rfl)<|aH<|qR ?_;refine zD ?_;refine rQ iB<|zP<|sR ?_;refine zD ?_;refine zG<|sR ?_;refine zD ?_;refine zG<|sR ?_;refine zD ?_;refine zI<|ai ?_;refine rC ?_;refine rQ iB ?_;refine rQ (ay hca rfl rfl (ak aj) (.inl rfl) (fun _=>rfl)) ?_;refine rC ?_;refine rX<|au<|zC<|sR ?_;refine rQ iM ?_;refine rW ?_;refine rC<|zT ?_
 exact⟨trivial,_,rfl,[],lf⟩
abbrev yd (s:RS) (n:Nat):Row :=.box 100 (.acons (.d (i6 s.era)) (.acons (.d (ib s.taken)) (.acons (.own n 0 s.arr.length 32 none) (.acons (.d (ic s.dur)) (.d .nil)))))
theorem uI (s:RS) (o:HOp) (h:qs s o) (h2:o.op.kind=2):FnIs Try.prog 52 [.d (cz s),.d (bj o)] [] (.tup (.acons (.acons (.d (i6 s.era)) (.acons (.d (ib s.taken)) (.acons (.own 64 0 s.arr.length 32 none) (.acons (.d (ic s.dur)) (.d .nil))))) (.acons (r01d true) .anil))) [(64,mQ (s.arr.set o.op.index.toNat o.op.data))]:=by
 have hca:=mP s.arr h.al
 have hcd:=fy s.dur h.dl
 have k1:decide (o.op.kind=1)=false:=dF (by omega)
 have k2:decide (o.op.kind=2)=true:=dT h2
 have k3:decide (o.op.kind=3)=false:=dF (by omega)
 obtain⟨hi0,hi1⟩:=h.ix (.inr h2)
 have hdl:=h.dt h2
 obtain⟨x,hx⟩:∃x,s.arr[o.op.index.toNat]?=some x:=⟨_,List.getElem?_eq_getElem (by omega)⟩
 have hxl:x.length=32:=h.pg x (List.mem_of_getElem? hx)
 have hset0:s.arr=s.arr.set o.op.index.toNat (o.op.data.take 0++x.drop 0):=by
  rw[List.take_zero,List.nil_append,List.drop_zero]
  exact (ux hx).symm
 refine aE aa Try.func52 rfl rfl rfl ?_;refine sR ?_;iterate 3 refine rN ?_
 refine rC<|nQ ?_;refine aC (by kernel_rfl) ?_;refine dC [2] [] ?_;refine dQ [8] [64] iB ?_;refine dC [2] [] ?_;refine dQ [10] [64] iB ?_;refine dC [2] [] ?_;refine dQ [12] [64] iB ?_;refine cR [13] [] rfl (a9 [] hca rfl rfl rfl (ak aj) trivial rfl rfl (.inl rfl) rfl rfl) ?_;refine dC [2] [] ?_;refine dQ [15] [64] iB ?_;refine dQ [16] [] (ay hcd rfl rfl (ak aj) (.inl rfl) (fun _=>rfl)) ?_;refine dQ [9,11,14,17] [144] iS ?_;refine cR [] [] rfl (an aa (fun K hk=>hk)) ?_;refine bn [6,18] [184] (aL aa rfl rfl rfl ⟨_,⟨rfl,rfl,rfl⟩,rfl⟩ rfl) ?_;refine am (by kernel_rfl)<|aH<|qR ?_;refine zD ?_;refine rQ iB<|zP<|sR ?_;refine zD ?_;refine zG<|sR ?_;refine zD ?_;refine zI<|sR ?_;refine rC<|zP ?_
 refine wc_inv (fun k:Nat=>⟨[(7,.int .i64 k),(6,.ptr 66 []),(4,.ptr 67 []),(3,.ptr 65 []),(2,.ptr 64 [])],[(64,some (.box 100 (.d (cz s)))),(65,some (sf o)),(66,some (yd s 68)),(67,some (.box 100 (.d r100.zero))),(68,some (mQ (s.arr.set o.op.index.toNat (o.op.data.take k++x.drop k))))],72,Try.f52.ntmps,64⟩) (fun k=>k≤32) (fun k=>32-k) 0 [(64,some _),(65,some _),(66,some _),(67,some _),(68,some _)] (Nat.zero_le _)
  (lg zh ⟨zR,zR,zR,zR,⟨rfl,rfl,_,rfl,aQ.of_eq (congrArg mQ hset0)⟩,trivial⟩) ?_
 intro k hk
 refine bL ?_
 by_cases hlt:k<32
 ·have d5:decide ((k:Int)<32)=true:=dT (by omega)
  obtain⟨y,hy⟩:∃y,o.op.data[k]?=some y:=⟨_,List.getElem?_eq_getElem (by omega)⟩
  obtain⟨z,hz⟩:∃z,x[k]?=some z:=⟨_,List.getElem?_eq_getElem (by omega)⟩
  have hbl:(byI o.op.data).length=o.op.data.length:=e7 _
  have hy2:(byI o.op.data)[((k:Int)).toNat]?=some ((y.toNat:Nat):Int):=by rw[Int.toNat_natCast]; exact sN hy
  obtain⟨e0,he0⟩:∃e0:Int,((z.toNat:Nat):Int)=e0:=⟨_,rfl⟩
  have htl:(o.op.data.take k).length=k:=by rw[List.length_take]; omega
  have hgm:(o.op.data.take k++x.drop k)[k]?=some z:=by rw[List.getElem?_append_right (by omega),htl,Nat.sub_self,List.getElem?_drop,Nat.add_zero]; exact hz
  have hgb:(byI (o.op.data.take k++x.drop k))[((k:Int)).toNat]?=some e0:=by rw[Int.toNat_natCast,←he0]; exact sN hgm
  have hset:(byI (o.op.data.take k++x.drop k)).set ((k:Int)).toNat ((y.toNat:Nat):Int)=byI (o.op.data.take (k+1)++x.drop (k+1)):=by
   rw[Int.toNat_natCast,byI,byI,←List.map_set,List.set_append_right _ _ (by omega),htl,Nat.sub_self,List.drop_eq_getElem_cons (by omega:k<x.length),List.set_cons_zero,List.take_add_one,hy]
   simp
  have hga:(s.arr.set o.op.index.toNat (o.op.data.take k++x.drop k))[o.op.index.toNat]?=some (o.op.data.take k++x.drop k):=by rw[List.getElem?_set_self (by omega)]
  have hss:(s.arr.set o.op.index.toNat (o.op.data.take k++x.drop k)).set o.op.index.toNat (o.op.data.take (k+1)++x.drop (k+1))=s.arr.set o.op.index.toNat (o.op.data.take (k+1)++x.drop (k+1)):=List.set_set ..
  refine qR<|zD ?_;refine zI<|zQ<|br ?_;refine aC (by kernel_rfl) ?_;refine dC [6] [] ?_;refine dQ [46] [66] iM ?_;refine dC [3] [] ?_;refine dC [48] [] ?_;refine dQ [49] [65] iB ?_;refine dC [7] [] ?_;refine dC [3] [] ?_;refine dC [52] [] ?_;refine dQ [53] [65] iB ?_;refine dC [7] [] ?_;refine dQ [54,55] [] (aq aa rfl rfl rfl rfl rfl (by omega) hy2) ?_;refine dQ [56] [] iL ?_;refine dQ [47,50] [] (aM aa rfl rfl rfl rfl rfl hi0 hi1) ?_;refine dQ [58,51] [] (an aa (fun K hk=>⟨by omega,by omega,hk⟩)) ?_;refine bn [59,57] [68] (aL aa rfl rfl rfl ⟨rfl,_,o.op.data.take (k+1)++x.drop (k+1),hga,⟨rfl,e0,((y.toNat:Nat):Int),hgb,⟨rfl,rfl,rfl⟩,congrArg (D.vec 32 1 cw) hset.symm⟩,rfl⟩ rfl) ?_;refine am (by kernel_rfl)<|zC<|ai ?_;refine rC ?_;refine rQ iD ?_;refine rC<|au ?_
  exact aJ (k+1) [(64,some _),(65,some _),(66,some _),(67,some _),(68,some _)] hlt (by omega) (lg zh ⟨zR,zR,zR,zR,⟨rfl,rfl,_,rfl,aQ.of_eq (congrArg mQ hss)⟩,trivial⟩)
 ·have d5:decide ((k:Int)<32)=false:=dF (by omega)
  have hfin:o.op.data.take k++x.drop k=o.op.data:=by rw[List.take_of_length_le (by omega),List.drop_eq_nil_of_le (by omega),List.append_nil]
  rw[hfin]
  refine qR<|zD ?_;refine zG<|bU<|df<|eG<|di<|zC<|sR ?_;refine rQ iM ?_;refine rW ?_;refine rC<|zT ?_
  exact⟨trivial,_,rfl,[(64,some 68)],lg zV ⟨zR,trivial⟩⟩
theorem qI (s:RS) (o:HOp) (h:qs s o):FnIs Try.prog 52 [.d (cz s),.d (bj o)] [] (hapE (hapR s o)) []:=by
 rcases h.kd with k | k | k
 ·exact uJ s o h k
 ·have:hapR s o=({ s with arr:=s.arr.set o.op.index.toNat o.op.data },true):=by rw[hapR,if_neg (by omega),if_pos k]
  rw[this]
  exact (uI s o h k).freeze_out 64 _ rfl (Frz.tup (.cons (Frz.dcons (.refl _) (Frz.dcons (.refl _) (Frz.dcons (Frz.own (by rw[List.length_set])) (Frz.dcons (.refl _) (.refl _))))) (.cons (.refl _) .nil))) trivial
 ·exact uH s o h k
def sJ (e:Int) (s:RS):RS:=if s.era<e then⟨e,[],s.dur,s.dur⟩ else s
def befA (l:List HOp) (o:HOp) (j:Int):Bool:=match l[j.toNat]? with
 | some p=>befB o p
 | none=>false
def uR (b:Int) (l:List HOp):List Int→List Int→RS→Int
 | [],_,_=>0
 | i::os,pre,s=>if i<0 then 1 else match l[i.toNat]? with
  | none=>1
  | some o=>if pre.any (fun y=>decide (y=i))=true then 1 else if mayB o b=false then 1 else if pre.any (befA l o)=true then 13
   else if (hapR (sJ o.era s) o).2=false then 15 else uR b l os (pre++[i]) (hapR (sJ o.era s) o).1
def xO (ord:List Int):List HOp→Nat→Bool
 | [],_=>false
 | o::l,k=>(b4 o && !ord.any (fun y=>decide (y=(k:Int))))||xO ord l (k+1)
def rAccS (b:Int) (n:Nat) (l:List HOp) (order:List Int):Int :=
 if uR b l order [] (cM n)=0 then (if xO order l 0=true then 15 else 0) else uR b l order [] (cM n)
structure RSOk (n:Nat) (s:RS):Prop where
 al:s.arr.length=n
 dl:s.dur.length=n
 ap:∀p∈s.arr,p.length=32
 dp:∀p∈s.dur,p.length=32
 e0:0≤s.era
 e1:s.era≤1000000
theorem RSOk.first (n:Nat):RSOk n (cM n):=
 ⟨List.length_replicate,List.length_replicate,fun p hp=>by rw[(List.mem_replicate.1 hp).2]; rfl,fun p hp=>by rw[(List.mem_replicate.1 hp).2]; rfl,Int.le_refl _,by show (0:Int)≤1000000; decide⟩
theorem RSOk.crash {n:Nat} {s:RS} (h:RSOk n s) (he:s.era<1000000):RSOk n (fG s):=⟨h.dl,h.dl,h.dp,h.dp,by have:=h.e0; show 0≤s.era+1; omega,by show s.era+1≤1000000; omega⟩
theorem xb {o:HOp} {n:Nat} (h:mayB o n=true):(o.op.kind=1∨o.op.kind=2∨o.op.kind=3)∧(o.op.kind=1∨o.op.kind=2→0≤o.op.index∧o.op.index<n)∧(o.op.kind=2→o.op.data.length=32):=by
 unfold mayB badO outO at h
 by_cases k1:o.op.kind=1
 ·simp[k1]at h
  exact⟨.inl k1,fun _=>by omega,fun k=>by omega⟩
 ·by_cases k2:o.op.kind=2
  ·simp[k2]at h
   exact⟨.inr (.inl k2),fun _=>by omega,fun _=>h.1.2⟩
  ·simp[k1,k2]at h
   exact⟨.inr (.inr h.1),fun k=>by omega,fun k=>by omega⟩
theorem RSOk.hap {n:Nat} (hn:n≤1048576) {s:RS} (h:RSOk n s) {o:HOp} (hm:mayB o n=true):qs s o∧RSOk n (hapR s o).1:=by
 obtain⟨m1,m2,m3⟩:=xb hm
 refine⟨⟨by rw[h.al]; exact hn,by rw[h.dl]; exact hn,h.ap,m1,fun k=>by rw[h.al]; exact m2 k,m3⟩,?_⟩
 unfold hapR
 split
 ·exact h
 ·split
  ·rename_i k2
   exact⟨by simp only[List.length_set]; exact h.al,h.dl,fun p hp=>by
    rcases List.mem_or_eq_of_mem_set hp with hp | rfl
    ·exact h.ap p hp
    ·exact m3 k2,h.dp,h.e0,h.e1⟩
  ·exact⟨h.al,h.al,h.ap,h.ap,h.e0,h.e1⟩
abbrev l4 (s:RS):Row :=.box 100 (.d (cz s))
def dG:List Int→Int→List Int
 | [],n=>[n]
 | a::l,n=>if n<a then n::a::l else a::dG l n
def o9 (d:Bool) (l:List Int) (n:Int):List Int:=if d then l else dG l n
abbrev b01 (d:Bool):AV :=.int .i64 (if d then 1 else 0)
theorem m5 (n:Int):∀l:List Int,(dG l n).length=l.length+1
 | []=>rfl
 | a::l=>by
  rw[dG]
  split
  ·rfl
  ·rw[List.length_cons,m5 n l,List.length_cons]
theorem qj {P:Program} {T:Tab} {env:Env} {h:Upds} {n:Nat} (hT:aw P T) {t e r r2 m:Nat} {re:TyR} {s:Nat} {ex ex2:Bool} {cap2:Option Nat} {α:Type} {enc:α→D} {xs:List α} {x y:Operand} {d:D} (el:α) (ht:bt T t=some (.slice e)) (he:lk T e=some re) (hs:Nat.beq re.size s=true) (hs0:Nat.blt 0 s=true)
  (hx:aA env x=some (.own r 0 m s none)) (hrow:aW h r=some (.ds e s ex enc xs)) (hy:aA env y=some (.own r2 0 1 s cap2)) (hrow2:aW h r2=some (.lits e s 1 ex2 (.acons (.d d) .anil))) (hd:d=enc el)
  (hlen:xs.length+1≤1048576) (hbytes:Nat.ble re.bytes 134217728=true) (hm:m=xs.length) :
  ao P (.call { callee :=.builtin .append,args := #[x,y],argTypes := #[t,t] }) env h n (some (.own n 0 (m+1) s none)) [(n,some (.ds e s false enc (xs++[el]))),(r,none)]:=by
 subst hm
 exact aP hT el ht he hs hs0 hx hrow hy hrow2 hd hlen hbytes
theorem ownl {r m k s:Nat} {c:Option Nat} (h:m=k):AVLe (.own r 0 m s c) (.own r 0 k s c):=AVLe.of_eq (by rw[h])
theorem uh (l:List Int) (n:Int) (hl:l.length≤1000000):FnIs Try.prog 66 [.d (ib l),.int .i64 n] [] (.own 64 0 (dG l n).length 1 none) [(64,zRow (dG l n))]:=by
 refine aE aa Try.func66 rfl rfl rfl ?_;refine sR<|rC<|nR ?_;refine rC<|nR ?_;refine rC<|zW ?_;refine rC<|zP ?_
 refine wc_inv (fun q:Nat×List Int×Bool=>⟨[(7,.int .i64 q.1),(6,b01 q.2.2),(5,.own 65 0 q.2.1.length 1 none),(1,.int .i64 n),(0,.d (ib l))],[(65,some (zRow q.2.1))],72,Try.f66.ntmps,64⟩) (fun q=>q.1≤l.length∧(q.2.2=false→q.2.1.length≤q.1)∧q.2.1.length≤q.1+1∧q.2.1++o9 q.2.2 (l.drop q.1) n=dG l n) (fun q=>l.length-q.1) (0,[],false) [(65,none)] ⟨Nat.zero_le _,fun _=>Nat.zero_le _,Nat.zero_le _,rfl⟩
  (lg zh ⟨⟨rfl,rfl,rfl⟩,trivial⟩) ?_
 rintro⟨k,out,d⟩ ⟨hk,ho0,ho,hg⟩
 simp only at hk ho0 ho hg
 have hol:out.length+1≤1048576:=by omega
 have hol2:(out++[n]).length+1≤1048576:=by rw[List.length_append]; simp only[List.length_cons,List.length_nil]; omega
 have hl1:out.length+1=(out++[n]).length:=by simp
 refine bL ?_
 by_cases hlt:k<l.length
 ·have d1:decide ((k:Int)<(l.length:Int))=true:=dT (by omega)
  obtain⟨a,hx⟩:∃x,l[k]?=some x:=⟨_,List.getElem?_eq_getElem hlt⟩
  have hx2:l[((k:Int)).toNat]?=some a:=by rw[Int.toNat_natCast]; exact hx
  rw[List.drop_eq_getElem_cons hlt,(List.getElem?_eq_some_iff.1 hx).2]at hg
  cases d with
  | true =>
   have d0:decide ((1:Int)=0)=false:=rfl
   refine qR<|zD ?_;refine rQ iE ?_;refine rC ?_;refine zI<|zQ<|br<|qR ?_;refine zU ?_
   iterate 6 refine rT ?_
   refine rQ iG ?_;refine zJ<|kS<|ai ?_;refine zU ?_;refine rQ (aq aa rfl rfl rfl rfl rfl (by omega) hx2) ?_;refine rQ iL ?_;refine aU (aD (s:=1) aa rfl rfl rfl rfl rfl rfl rfl rfl) rfl ?_;refine aO (aP (enc:=i6) (s:=1) (xs:=out) aa a rfl rfl rfl rfl rfl rfl rfl rfl rfl hol rfl) rfl ?_;refine rC<|au<|eK<|aH<|ai ?_;refine rC ?_;refine rQ iD ?_;refine rC<|au ?_
   exact aJ (k+1,out++[a],true) [(65,some _)] ⟨hlt,fun h=>(by cases h),by simp only[List.length_append,List.length_cons,List.length_nil]; omega,by simp only; rw[←hg]; simp[o9]⟩ (by show l.length-(k+1)<l.length-k; omega) (lg ⟨zE,rfl,zE,rfl,⟨_,rfl,ownl (by simp)⟩,rfl,zE,rfl,zE,rfl,trivial⟩ ⟨zR,trivial⟩)
  | false =>
   have d0:decide ((0:Int)=0)=true:=rfl
   by_cases h2:n<a
   ·have d2:decide (n<a)=true:=dT h2
    refine qR<|zD ?_;refine rQ iE ?_;refine rC ?_;refine zI<|zQ<|br<|qR ?_;refine zU ?_;refine rP ?_;refine rC ?_;refine rP ?_;refine rC ?_;refine rP ?_;refine rQ (aq aa rfl rfl rfl rfl rfl (by omega) hx2) ?_;refine rP ?_;refine rQ iL ?_;refine rP ?_;refine rC ?_;refine rP ?_;refine rC ?_;refine rQ iU ?_;refine zI<|sR ?_;refine zD ?_;refine aU (aD (s:=1) aa rfl rfl rfl rfl rfl rfl rfl rfl) rfl ?_;refine aO (aP (enc:=i6) (s:=1) (xs:=out) aa n rfl rfl rfl rfl rfl rfl rfl rfl rfl hol rfl) rfl ?_;refine rC<|nS<|ai ?_;refine rC<|nS<|ai ?_;refine zU ?_;refine rQ (aq aa rfl rfl rfl rfl rfl (by omega) hx2) ?_;refine rQ iL ?_;refine aU (aD (s:=1) aa rfl rfl rfl rfl rfl rfl rfl rfl) rfl ?_;refine aO (qj (enc:=i6) (s:=1) (xs:=out++[n]) aa a rfl rfl rfl rfl rfl rfl rfl rfl rfl hol2 rfl hl1) rfl ?_;refine rC<|au<|zC<|ai ?_;refine rC ?_;refine rQ iD ?_;refine rC<|au ?_
    exact aJ (k+1,out++[n]++[a],true) [(65,some _)] ⟨hlt,fun h=>(by cases h),by have:=ho0 rfl; simp only[List.length_append,List.length_cons,List.length_nil]; omega,by simp only; rw[←hg]; simp[o9,dG,h2]⟩ (by show l.length-(k+1)<l.length-k; omega) (lg ⟨zE,rfl,zE,rfl,⟨_,rfl,ownl (by simp)⟩,rfl,zE,rfl,zE,rfl,trivial⟩ ⟨zR,trivial⟩)
   ·have d2:decide (n<a)=false:=dF h2
    refine qR<|zD ?_;refine rQ iE ?_;refine rC ?_;refine zI<|zQ<|br<|qR ?_;refine zU ?_;refine rP ?_;refine rC ?_;refine rP ?_;refine rC ?_;refine rP ?_;refine rQ (aq aa rfl rfl rfl rfl rfl (by omega) hx2) ?_;refine rP ?_;refine rQ iL ?_;refine rP ?_;refine rC ?_;refine rP ?_;refine rC ?_;refine rQ iU ?_;refine zG<|kS<|ai ?_;refine zU ?_;refine rQ (aq aa rfl rfl rfl rfl rfl (by omega) hx2) ?_;refine rQ iL ?_;refine aU (aD (s:=1) aa rfl rfl rfl rfl rfl rfl rfl rfl) rfl ?_;refine aO (aP (enc:=i6) (s:=1) (xs:=out) aa a rfl rfl rfl rfl rfl rfl rfl rfl rfl hol rfl) rfl ?_;refine rC<|au<|eK<|aH<|ai ?_;refine rC ?_;refine rQ iD ?_;refine rC<|au ?_
    exact aJ (k+1,out++[a],false) [(65,some _)] ⟨hlt,fun _=>(by have:=ho0 rfl; simp only[List.length_append,List.length_cons,List.length_nil]; omega),by simp only[List.length_append,List.length_cons,List.length_nil]; omega,by simp only; rw[←hg]; simp[o9,dG,h2]⟩ (by show l.length-(k+1)<l.length-k; omega) (lg ⟨zE,rfl,zE,rfl,⟨_,rfl,ownl (by simp)⟩,rfl,zE,rfl,zE,rfl,trivial⟩ ⟨zR,trivial⟩)
 ·have d1:decide ((k:Int)<(l.length:Int))=false:=dF (by omega)
  rw[List.drop_eq_nil_of_le (by omega)]at hg
  cases d with
  | true =>
   have d0:decide ((1:Int)=0)=false:=rfl
   rw[o9,if_pos rfl,List.append_nil]at hg
   subst hg
   refine qR<|zD ?_;refine rQ iE ?_;refine rC ?_;refine zG<|zX<|qR ?_;refine zD ?_;refine zJ<|kS<|sR ?_;refine zD<|zT ?_
   exact⟨trivial,[(64,some 65)],lg zV ⟨zR,trivial⟩⟩
  | false =>
   have d0:decide ((0:Int)=0)=true:=rfl
   have hg2:out++[n]=dG l n:=hg
   rw[←hg2]
   refine qR<|zD ?_;refine rQ iE ?_;refine rC ?_;refine zG<|zX<|qR ?_;refine zD ?_;refine zO<|ai ?_;refine zD ?_;refine aU (aD (s:=1) aa rfl rfl rfl rfl rfl rfl rfl rfl) rfl ?_;refine aO (aP (enc:=i6) (s:=1) (xs:=out) aa n rfl rfl rfl rfl rfl rfl rfl rfl rfl hol rfl) rfl ?_;refine rC<|nR ?_;refine zD<|zT ?_
   exact⟨trivial,[(64,some _)],lg ⟨⟨_,rfl,ownl (by simp)⟩,rfl,trivial⟩ ⟨zR,trivial⟩⟩
theorem wv (l:List Int) (n:Int) (hl:l.length≤1000000):FnIs Try.prog 66 [.d (ib l),.int .i64 n] [] (.d (ib (dG l n))) []:=(uh l n hl).freeze_out 64 _ rfl (Frz.own rfl) trivial
theorem uL (h:List HEv) (hh:h.length≤1000000):FnIs Try.prog 30 [.d (encH h)] [] (.int .i64 (bT h)) []:=by
 refine aE aa Try.func30 rfl rfl rfl ?_;refine sR<|rC<|nR ?_;refine rC<|zW ?_;refine rC<|zP ?_
 refine wc_inv (fun k:Nat=>⟨[(4,.int .i64 k),(3,.int .i64 ((1+(h.take k).countP (fun x=>decide (x.kind=3)):Nat):Int)),(0,.d (encH h))],[],72,Try.f30.ntmps,64⟩) (fun k=>k≤h.length) (fun k=>h.length-k) 0 [] (Nat.zero_le _)
  (lg zj trivial) ?_
 intro k hk
 refine bL ?_
 by_cases hlt:k<h.length
 ·have d1:decide ((k:Int)<(h.length:Int))=true:=dT (by omega)
  obtain⟨x,hx⟩:∃x,h[k]?=some x:=⟨_,List.getElem?_eq_getElem hlt⟩
  have hx2:h[((k:Int)).toNat]?=some x:=by rw[Int.toNat_natCast]; exact hx
  have hc:(h.take (k+1)).countP (fun x=>decide (x.kind=3))=(h.take k).countP (fun x=>decide (x.kind=3))+if decide (x.kind=3)=true then 1 else 0:=by
   rw[List.take_add_one,hx,Option.toList_some,List.countP_append,List.countP_cons,List.countP_nil,Nat.zero_add]
  have hcl:(h.take k).countP (fun x=>decide (x.kind=3))≤k:=Nat.le_trans List.countP_le_length (by rw[List.length_take]; omega)
  cases h2:decide (x.kind=3) with
  | true =>
   rw[h2,if_pos rfl]at hc
   refine qR<|zD ?_;refine rQ iE ?_;refine rC ?_;refine zI<|zQ<|zS ?_;refine zD ?_;refine rQ (aq aa rfl rfl rfl rfl rfl (by omega) hx2) ?_;refine rC ?_;refine rQ iL ?_;refine rC ?_;refine zI<|ai ?_;refine rC ?_;refine rQ (cP (m:=((1+(h.take k).countP (fun x=>decide (x.kind=3))+1:Nat):Int)) aa rfl rfl (by rw[ba (by omega) (by omega)]; omega)) ?_;refine rC<|au<|zC<|ai ?_;refine rC ?_;refine rQ iD ?_;refine rC<|au ?_
   exact aJ (k+1) [] hlt (by omega) (lg ⟨zE,rfl,⟨_,rfl,AVLe.of_eq (by rw[hc]; rfl)⟩,rfl,zE,rfl,trivial⟩ trivial)
  | false =>
   rw[h2,if_neg (by decide),Nat.add_zero]at hc
   refine qR<|zD ?_;refine rQ iE ?_;refine rC ?_;refine zI<|zQ<|zS ?_;refine zD ?_;refine rQ (aq aa rfl rfl rfl rfl rfl (by omega) hx2) ?_;refine rC ?_;refine rQ iL ?_;refine rC ?_;refine zG<|aN<|eK<|aH<|ai ?_;refine rC ?_;refine rQ iD ?_;refine rC<|au ?_
   exact aJ (k+1) [] hlt (by omega) (lg ⟨zE,rfl,⟨_,rfl,AVLe.of_eq (by rw[hc]; rfl)⟩,rfl,zE,rfl,trivial⟩ trivial)
 ·have d1:decide ((k:Int)<(h.length:Int))=false:=dF (by omega)
  obtain rfl:k=h.length:=by omega
  rw[List.take_length]
  refine qR<|zD ?_;refine rQ iE ?_;refine rC ?_;refine zG<|zX<|sR ?_;refine zD<|zT ?_
  exact⟨trivial,[],lf⟩
def eh (s:RS):List HOp→Nat→Bool
 | [],_=>true
 | o::l,k => !(decide (o.era=s.era)&&(b4 o && !s.taken.any (fun y=>decide (y=(k:Int)))))&&eh s l (k+1)
theorem qJ {s:RS} {l:List HOp} {k:Nat} {o:HOp} (h:l[k]?=some o):eh s (l.drop k) k=(!(decide (o.era=s.era)&&(b4 o && !s.taken.any (fun y=>decide (y=(k:Int)))))&&eh s (l.drop (k+1)) (k+1)):=by
 have hlt:=(List.getElem?_eq_some_iff.1 h).1
 rw[List.drop_eq_getElem_cons hlt,(List.getElem?_eq_some_iff.1 h).2,eh]
theorem uK (s:RS) (l:List HOp) (hs:s.taken.length≤1048576) (hl:l.length≤1048576):FnIs Try.prog 55 [.d (cz s),.d (dD l)] [] (r01d (eh s l 0)) []:=by
 refine aE aa Try.func55 rfl rfl rfl ?_;refine sR<|rN ?_;refine rC<|zW ?_;refine rC<|zP ?_
 refine wc_inv (fun k:Nat=>⟨[(5,.int .i64 k),(2,.ptr 64 []),(1,.d (dD l))],[(64,some (l4 s))],72,Try.f55.ntmps,64⟩) (fun k=>k≤l.length∧eh s (l.drop k) k=eh s l 0) (fun k=>l.length-k) 0 [(64,some 64)] ⟨Nat.zero_le _,rfl⟩
  (lg zj ⟨zR,trivial⟩) ?_
 rintro k ⟨hk,hd⟩
 refine bL ?_
 by_cases hlt:k<l.length
 ·have d1:decide ((k:Int)<(l.length:Int))=true:=dT (by omega)
  obtain⟨o,ho⟩:∃x,l[k]?=some x:=⟨_,List.getElem?_eq_getElem hlt⟩
  have ho2:l[((k:Int)).toNat]?=some o:=by rw[Int.toNat_natCast]; exact ho
  rw[qJ ho]at hd
  have hmu:=l6 o
  have hhs:=oo s.taken (k:Int) hs
  refine qR<|zD ?_;refine rQ iE ?_;refine rC ?_;refine zI<|zQ<|br<|aT ?_;refine aC (by kernel_rfl) ?_;refine dC [1] [] ?_;refine dC [5] [] ?_;refine dQ [12,13] [] (aq aa rfl rfl rfl rfl rfl (by omega) ho2) ?_;refine dC [14] [] ?_;refine dQ [15] [] iL ?_;refine dC [2] [] ?_;refine dQ [17] [64] iB ?_;refine dC [16,18] [] ?_;refine dC [19] [] ?_
  cases h2:decide (o.era=s.era) with
  | false =>
   rw[h2,Bool.false_and,Bool.not_false,Bool.true_and]at hd
   refine ae [20,1] rfl rfl rfl rfl ?_;refine ae [20,5] rfl rfl rfl rfl ?_;refine ae [20,21,22] rfl rfl rfl rfl ?_;refine ae [20,23] rfl rfl rfl rfl ?_;refine ae [20,24] rfl rfl rfl rfl ?_;refine ae [20,25] rfl rfl rfl rfl ?_;refine dQ [20,26] [] iG ?_;refine dC [27] [] ?_;refine ae [28,2] rfl rfl rfl rfl ?_;refine ae [28,29] rfl rfl rfl rfl ?_;refine ae [28,5] rfl rfl rfl rfl ?_;refine ae [28,30,31] rfl rfl rfl rfl ?_;refine ae [28,32] rfl rfl rfl rfl ?_;refine dQ [28,33] [] iG ?_;refine am (by kernel_rfl)<|aH ?_;refine wG<|aN<|zC<|ai ?_;refine rC ?_;refine rQ iD ?_;refine rC<|au ?_
   exact aJ (k+1) [(64,some 64)] ⟨hlt,hd⟩ (by omega) (lg zj ⟨zR,trivial⟩)
  | true =>
  cases h3:b4 o with
  | false =>
   rw[h2,h3,Bool.false_and,Bool.and_false,Bool.not_false,Bool.true_and]at hd
   rw[h3]at hmu
   refine ab [20,1] [] rfl rfl rfl rfl (an aa (fun K hk=>hk)) ?_;refine ab [20,5] [] rfl rfl rfl rfl (an aa (fun K hk=>hk)) ?_;refine ab [20,21,22] [] rfl rfl rfl rfl (aq aa rfl rfl rfl rfl rfl (by omega) ho2) ?_;refine ab [20,23] [] rfl rfl rfl rfl (cg aa rfl rfl) ?_;refine ab [20,24] [] rfl rfl rfl rfl (ay hmu rfl rfl (ak aj) (.inl rfl) (fun _=>rfl)) ?_;refine ab [20,25] [] rfl rfl rfl rfl (an aa (fun K hk=>hk)) ?_;refine dQ [20,26] [] iU ?_;refine dC [27] [] ?_;refine ae [28,2] rfl rfl rfl rfl ?_;refine ae [28,29] rfl rfl rfl rfl ?_;refine ae [28,5] rfl rfl rfl rfl ?_;refine ae [28,30,31] rfl rfl rfl rfl ?_;refine ae [28,32] rfl rfl rfl rfl ?_;refine dQ [28,33] [] iG ?_;refine am (by kernel_rfl)<|aH ?_;refine wG<|aN<|zC<|ai ?_;refine rC ?_;refine rQ iD ?_;refine rC<|au ?_
   exact aJ (k+1) [(64,some 64)] ⟨hlt,hd⟩ (by omega) (lg zj ⟨zR,trivial⟩)
  | true =>
  rw[h3]at hmu
  cases h4:s.taken.any (fun y=>decide (y=(k:Int))) with
  | true =>
   rw[h2,h3,h4,Bool.not_true,Bool.and_false,Bool.and_false,Bool.not_false,Bool.true_and]at hd
   rw[h4]at hhs
   refine ab [20,1] [] rfl rfl rfl rfl (an aa (fun K hk=>hk)) ?_;refine ab [20,5] [] rfl rfl rfl rfl (an aa (fun K hk=>hk)) ?_;refine ab [20,21,22] [] rfl rfl rfl rfl (aq aa rfl rfl rfl rfl rfl (by omega) ho2) ?_;refine ab [20,23] [] rfl rfl rfl rfl (cg aa rfl rfl) ?_;refine ab [20,24] [] rfl rfl rfl rfl (ay hmu rfl rfl (ak aj) (.inl rfl) (fun _=>rfl)) ?_;refine ab [20,25] [] rfl rfl rfl rfl (an aa (fun K hk=>hk)) ?_;refine dQ [20,26] [] iU ?_;refine dC [27] [] ?_;refine ab [28,2] [] rfl rfl rfl rfl (an aa (fun K hk=>hk)) ?_;refine ab [28,29] [64] rfl rfl rfl rfl (aK aa rfl rfl ⟨_,rfl,rfl⟩ rfl) ?_;refine ab [28,5] [] rfl rfl rfl rfl (an aa (fun K hk=>hk)) ?_;refine ab [28,30,31] [] rfl rfl rfl rfl (ay hhs rfl rfl (ak (ak aj)) (.inl rfl) (fun _=>rfl)) ?_;refine ab [28,32] [] rfl rfl rfl rfl (an aa (fun K hk=>hk)) ?_;refine dQ [28,33] [] iU ?_;refine am (by kernel_rfl)<|aH ?_;refine wG<|aN<|zC<|ai ?_;refine rC ?_;refine rQ iD ?_;refine rC<|au ?_
   exact aJ (k+1) [(64,some 64)] ⟨hlt,hd⟩ (by omega) (lg zj ⟨zR,trivial⟩)
  | false =>
   rw[h2,h3,h4,Bool.not_false,Bool.and_true,Bool.and_true,Bool.not_true,Bool.false_and]at hd
   rw[h4]at hhs
   rw[←hd]
   refine ab [20,1] [] rfl rfl rfl rfl (an aa (fun K hk=>hk)) ?_;refine ab [20,5] [] rfl rfl rfl rfl (an aa (fun K hk=>hk)) ?_;refine ab [20,21,22] [] rfl rfl rfl rfl (aq aa rfl rfl rfl rfl rfl (by omega) ho2) ?_;refine ab [20,23] [] rfl rfl rfl rfl (cg aa rfl rfl) ?_;refine ab [20,24] [] rfl rfl rfl rfl (ay hmu rfl rfl (ak aj) (.inl rfl) (fun _=>rfl)) ?_;refine ab [20,25] [] rfl rfl rfl rfl (an aa (fun K hk=>hk)) ?_;refine dQ [20,26] [] iU ?_;refine dC [27] [] ?_;refine ab [28,2] [] rfl rfl rfl rfl (an aa (fun K hk=>hk)) ?_;refine ab [28,29] [64] rfl rfl rfl rfl (aK aa rfl rfl ⟨_,rfl,rfl⟩ rfl) ?_;refine ab [28,5] [] rfl rfl rfl rfl (an aa (fun K hk=>hk)) ?_;refine ab [28,30,31] [] rfl rfl rfl rfl (ay hhs rfl rfl (ak (ak aj)) (.inl rfl) (fun _=>rfl)) ?_;refine ab [28,32] [] rfl rfl rfl rfl (an aa (fun K hk=>hk)) ?_;refine dQ [28,33] [] iU ?_;refine am (by kernel_rfl)<|aH ?_;refine wV<|sR ?_;refine rC<|zT<|sP<|bx<|co<|zB ?_
   exact⟨trivial,[],lf⟩
 ·have d1:decide ((k:Int)<(l.length:Int))=false:=dF (by omega)
  rw[List.drop_eq_nil_of_le (by omega),eh]at hd
  rw[←hd]
  refine qR<|zD ?_;refine rQ iE ?_;refine rC ?_;refine zG<|zX<|sR ?_;refine rC<|zT ?_
  exact⟨trivial,[],lf⟩
def gq (a b:RS):Bool:=decide (a.era=b.era)&&(decide (a.taken=b.taken)&&(decide (a.arr=b.arr)&&decide (a.dur=b.dur)))
theorem ob {α:Type} {l m:List α} {k:Nat} {x y:α} (h1:l[k]?=some x) (h2:m[k]?=some y) (h:x≠y):l≠m:=fun e=>by
 subst e
 rw[h1]at h2
 exact h (Option.some.inj h2)
theorem oc {α:Type} {l m:List α} {k:Nat} {x y:α} (h1:l[k]?=some x) (h2:m[k]?=some y) (h:x=y) (ht:l.take k=m.take k):l.take (k+1)=m.take (k+1):=by
 rw[List.take_add_one,List.take_add_one,h1,h2,ht,h]
theorem lB {a b:RS} (h:a.taken≠b.taken∨a.arr≠b.arr∨a.dur≠b.dur):gq a b=false:=by
 unfold gq
 rcases h with h | h | h <;> rw[dF h] <;> simp
theorem uD (a b:RS) (n:Nat) (ha:a.arr.length=n) (hb:b.arr.length=n) (ha2:a.dur.length=n) (hb2:b.dur.length=n) (hn:n≤1048576) (ht:a.taken.length≤1048576) (ht2:b.taken.length≤1048576):FnIs Try.prog 67 [.d (cz a),.d (cz b)] [] (r01d (gq a b)) []:=by
 refine aE aa Try.func67 rfl rfl rfl ?_;refine sR ?_;iterate 2 refine rN ?_
 refine rC<|zW ?_;refine rC ?_;refine rQ iB ?_;refine rC ?_;refine rQ iB ?_;refine zD ?_
 cases h1:decide (a.era=b.era) with
 | false =>
  have hs:gq a b=false:=by rw[gq,h1]; rfl
  rw[hs]
  iterate 7 refine rT ?_
  refine rQ iU ?_;refine zO<|sR ?_;refine rC<|zT<|bx ?_
  exact⟨trivial,[],lf⟩
 | true =>
 refine rP ?_;refine rC ?_;refine rP ?_;refine rQ iB ?_;refine rP ?_;refine rQ iE ?_;refine rP ?_;refine rC ?_;refine rP ?_;refine rQ iB ?_;refine rP ?_;refine rQ iE ?_;refine rP ?_;refine rC ?_;refine rQ iG<|nS ?_
 by_cases h2:a.taken.length=b.taken.length
 ·have d2:(!decide ((a.taken.length:Int)=(b.taken.length:Int)))=false:=by rw[dT (by omega)]; rfl
  refine wF<|kS<|qR ?_;refine rC<|zP ?_
  refine wc_inv (fun k:Nat=>⟨[(5,.int .i64 k),(3,.ptr 65 []),(2,.ptr 64 [])],[(64,some (l4 a)),(65,some (l4 b))],72,Try.f67.ntmps,64⟩) (fun k=>k≤a.taken.length∧a.taken.take k=b.taken.take k) (fun k=>a.taken.length-k) 0 [(64,some 64),(65,some _)] ⟨Nat.zero_le _,rfl⟩
   (lg zj ⟨zR,zR,trivial⟩) ?_
  rintro k ⟨hk,he⟩
  refine bL ?_
  by_cases hlt:k<a.taken.length
  ·have d1:decide ((k:Int)<(a.taken.length:Int))=true:=dT (by omega)
   obtain⟨x,hx⟩:∃x,a.taken[k]?=some x:=⟨_,List.getElem?_eq_getElem hlt⟩
   obtain⟨y,hy⟩:∃x,b.taken[k]?=some x:=⟨_,List.getElem?_eq_getElem (by omega)⟩
   have hx2:a.taken[((k:Int)).toNat]?=some x:=by rw[Int.toNat_natCast]; exact hx
   have hy2:b.taken[((k:Int)).toNat]?=some y:=by rw[Int.toNat_natCast]; exact hy
   refine qR<|zD ?_;refine rQ iB ?_;refine rQ iE ?_;refine rC ?_;refine zI<|zQ<|br<|aT ?_;refine aC (by kernel_rfl) ?_;refine dC [2] [] ?_;refine dQ [28] [64] iB ?_;refine dC [5] [] ?_;refine dQ [29,30] [] (aq aa rfl rfl rfl rfl rfl (by omega) hx2) ?_;refine dQ [31] [] iL ?_;refine dC [3] [] ?_;refine dQ [33] [65] iB ?_;refine dC [5] [] ?_;refine dQ [34,35] [] (aq aa rfl rfl rfl rfl rfl (by omega) hy2) ?_;refine dQ [36] [] iL ?_;refine dC [32,37] [] ?_;refine am (by kernel_rfl)<|aH ?_
   by_cases h3:x=y
   ·have d3:(!decide (x=y))=false:=by rw[dT h3]; rfl
    refine wF<|aN<|zC<|ai ?_;refine rC ?_;refine rQ iD ?_;refine rC<|au ?_
    exact aJ (k+1) [(64,some 64),(65,some 65)] ⟨hlt,oc hx hy h3 he⟩ (by omega) (lg zj ⟨zR,zR,trivial⟩)
   ·have d3:(!decide (x=y))=true:=by rw[dF h3]; rfl
    rw[lB (.inl (ob hx hy h3))]
    refine wT<|sR ?_;refine rC<|zT<|zB<|co<|zB ?_
    exact⟨trivial,[],lf⟩
  ·have d1:decide ((k:Int)<(a.taken.length:Int))=false:=dF (by omega)
   obtain rfl:k=a.taken.length:=by omega
   rw[List.take_length,h2,List.take_length]at he
   refine qR<|zD ?_;refine rQ iB ?_;refine rQ iE ?_;refine rC ?_;refine zG<|zX<|qR ?_;refine rC<|zP ?_
   refine wc_inv (fun k:Nat=>⟨[(6,.int .i64 k),(3,.ptr 65 []),(2,.ptr 64 [])],[(64,some (l4 a)),(65,some (l4 b))],72,Try.f67.ntmps,64⟩) (fun k=>k≤n∧a.arr.take k=b.arr.take k∧a.dur.take k=b.dur.take k) (fun k=>n-k) 0 [(64,some 64),(65,some 65)] ⟨Nat.zero_le _,rfl,rfl⟩
    (lg zj ⟨zR,zR,trivial⟩) ?_
   rintro k ⟨hk,e1,e2⟩
   refine bL ?_
   by_cases hlt:k<n
   ·have d1:decide ((k:Int)<(a.arr.length:Int))=true:=dT (by omega)
    obtain⟨x,hx⟩:∃x,a.arr[k]?=some x:=⟨_,List.getElem?_eq_getElem (by omega)⟩
    obtain⟨y,hy⟩:∃x,b.arr[k]?=some x:=⟨_,List.getElem?_eq_getElem (by omega)⟩
    obtain⟨u,hu⟩:∃x,a.dur[k]?=some x:=⟨_,List.getElem?_eq_getElem (by omega)⟩
    obtain⟨v,hv⟩:∃x,b.dur[k]?=some x:=⟨_,List.getElem?_eq_getElem (by omega)⟩
    have hx2:a.arr[((k:Int)).toNat]?=some x:=by rw[Int.toNat_natCast]; exact hx
    have hy2:b.arr[((k:Int)).toNat]?=some y:=by rw[Int.toNat_natCast]; exact hy
    have hu2:a.dur[((k:Int)).toNat]?=some u:=by rw[Int.toNat_natCast]; exact hu
    have hv2:b.dur[((k:Int)).toNat]?=some v:=by rw[Int.toNat_natCast]; exact hv
    refine qR<|zD ?_;refine rQ iB ?_;refine rQ iE ?_;refine rC ?_;refine zI<|zQ<|br<|aT ?_;refine aC (by kernel_rfl) ?_;refine dC [2] [] ?_;refine dQ [46] [64] iB ?_;refine dC [6] [] ?_;refine dQ [47,48] [] (aq aa rfl rfl rfl rfl rfl (by omega) hx2) ?_;refine dQ [49] [] iL ?_;refine dC [3] [] ?_;refine dQ [51] [65] iB ?_;refine dC [6] [] ?_;refine dQ [52,53] [] (aq aa rfl rfl rfl rfl rfl (by omega) hy2) ?_;refine dQ [54] [] iL ?_;refine dQ [50,55] [] (jY rfl rfl rfl rfl (by kernel_rfl) (by decide) (cn x y)) ?_;refine dC [56] [] ?_
    by_cases h3:x=y
    ·have d3:(!decide (x=y))=false:=by rw[dT h3]; rfl
     refine ab [57,2] [] rfl rfl (by assumption) rfl (an aa (fun K hk=>hk)) ?_;refine ab [57,58] [64] rfl rfl (by assumption) rfl (aK aa rfl rfl ⟨_,rfl,rfl⟩ rfl) ?_;refine ab [57,6] [] rfl rfl (by assumption) rfl (an aa (fun K hk=>hk)) ?_;refine ab [57,59,60] [] rfl rfl (by assumption) rfl (aq aa rfl rfl rfl rfl rfl (by omega) hu2) ?_;refine ab [57,61] [] rfl rfl (by assumption) rfl (cg aa rfl rfl) ?_;refine ab [57,3] [] rfl rfl (by assumption) rfl (an aa (fun K hk=>hk)) ?_;refine ab [57,63] [65] rfl rfl (by assumption) rfl (aK aa rfl rfl ⟨_,rfl,rfl⟩ rfl) ?_;refine ab [57,6] [] rfl rfl (by assumption) rfl (an aa (fun K hk=>hk)) ?_;refine ab [57,64,65] [] rfl rfl (by assumption) rfl (aq aa rfl rfl rfl rfl rfl (by omega) hv2) ?_;refine ab [57,66] [] rfl rfl (by assumption) rfl (cg aa rfl rfl) ?_;refine ab [57,62,67] [] rfl rfl (by assumption) rfl (jY rfl rfl rfl rfl (by kernel_rfl) (by decide) (cn u v)) ?_;refine dQ [57,68] [] iF ?_;refine am (by kernel_rfl)<|aH ?_
     by_cases h4:u=v
     ·have d4:(!decide (u=v))=false:=by rw[dT h4]; rfl
      refine wF<|aN<|zC<|ai ?_;refine rC ?_;refine rQ iD ?_;refine rC<|au ?_
      exact aJ (k+1) [(64,some 64),(65,some 65)] ⟨hlt,oc hx hy h3 e1,oc hu hv h4 e2⟩ (by omega) (lg zj ⟨zR,zR,trivial⟩)
     ·have d4:(!decide (u=v))=true:=by rw[dF h4]; rfl
      rw[lB (.inr (.inr (ob hu hv h4)))]
      refine wT<|sR ?_;refine rC<|zT<|zB<|co<|zB ?_
      exact⟨trivial,[],lf⟩
    ·have d3:(!decide (x=y))=true:=by rw[dF h3]; rfl
     rw[lB (.inr (.inl (ob hx hy h3)))]
     refine ae [57,2] rfl rfl (by assumption) rfl ?_;refine ae [57,58] rfl rfl (by assumption) rfl ?_;refine ae [57,6] rfl rfl (by assumption) rfl ?_;refine ae [57,59,60] rfl rfl (by assumption) rfl ?_;refine ae [57,61] rfl rfl (by assumption) rfl ?_;refine ae [57,3] rfl rfl (by assumption) rfl ?_;refine ae [57,63] rfl rfl (by assumption) rfl ?_;refine ae [57,6] rfl rfl (by assumption) rfl ?_;refine ae [57,64,65] rfl rfl (by assumption) rfl ?_;refine ae [57,66] rfl rfl (by assumption) rfl ?_;refine ae [57,62,67] rfl rfl (by assumption) rfl ?_;refine dQ [57,68] [] iT ?_;refine am (by kernel_rfl)<|aH ?_;refine wV<|sR ?_;refine rC<|zT<|zB<|co<|zB ?_
     exact⟨trivial,[],lf⟩
   ·have d1:decide ((k:Int)<(a.arr.length:Int))=false:=dF (by omega)
    have hs:gq a b=true:=by
     rw[List.take_of_length_le (by omega),List.take_of_length_le (by omega)]at e1 e2
     rw[gq,h1,dT he,dT e1,dT e2]; rfl
    rw[hs]
    refine qR<|zD ?_;refine rQ iB ?_;refine rQ iE ?_;refine rC ?_;refine zG<|zX<|sR ?_;refine rC<|zT ?_
    exact⟨trivial,[],lf⟩
 ·have d2:(!decide ((a.taken.length:Int)=(b.taken.length:Int)))=true:=by rw[dF (by omega)]; rfl
  rw[lB (.inl fun e=>h2 (by rw[e]))]
  refine wT<|sR ?_;refine rC<|zT<|bx ?_
  exact⟨trivial,[],lf⟩
def hitB (s:RS) (o:HOp) (k:Nat) (p:HOp):Bool:=if s.taken.any (fun y=>decide (y=(k:Int))) then befB o p else decide (p.era=s.era)&&(b4 p&&befB p o)
def hitL (s:RS) (o:HOp):List HOp→Nat→Bool
 | [],_=>false
 | p::l,k=>hitB s o k p||hitL s o l (k+1)
theorem tI {s:RS} {o p:HOp} {l:List HOp} {k:Nat} (h:l[k]?=some p):hitL s o (l.drop k) k=(hitB s o k p||hitL s o (l.drop (k+1)) (k+1)):=by
 have hlt:=(List.getElem?_eq_some_iff.1 h).1
 rw[List.drop_eq_getElem_cons hlt,(List.getElem?_eq_some_iff.1 h).2,hitL]
def takB (s:RS) (l:List HOp) (i:Nat) (o:HOp):Bool:=decide (o.era=s.era)&&(mayB o s.arr.length&&(!s.taken.any (fun y=>decide (y=(i:Int))) && !hitL s o l 0))
def dY (s:RS) (l:List HOp) (i:Nat) (o:HOp):RS×Bool :=
 if takB s l i o then ({ (hapR s o).1 with taken:=dG s.taken i },(hapR s o).2) else (s,false)
abbrev zRS:D :=.cons (i6 0) (.cons (.sc nil_) (.cons (.sc nil_) (.cons (.sc nil_) .nil)))
theorem uA (s:RS) (l:List HOp) (i:Nat) (o:HOp) (n:Nat) (ho:l[i]?=some o) (hs:RSOk n s) (hn:n≤1000000) (hl:l.length≤1000000) (ht:s.taken.length≤1000000):FnIs Try.prog 53 [.d (cz s),.d (dD l),.int .i64 i] [] (hapE (dY s l i o)) []:=by
 have ho2:l[((i:Int)).toNat]?=some o:=by rw[Int.toNat_natCast]; exact ho
 have hma:=wK o s.arr.length
 have hhi:=oo s.taken (i:Int) (by omega)
 refine aE aa Try.func53 rfl rfl rfl ?_
 have no:takB s l i o=false→dY s l i o=(s,false):=fun h=>by rw[dY,h]; rfl
 refine sR ?_;iterate 2 refine rN ?_
 refine rC<|nQ<|aT ?_;refine aC (by kernel_rfl) ?_;refine dC [1] [] ?_;refine dC [2] [] ?_;refine dQ [12,13] [] (aq aa rfl rfl rfl rfl rfl (by omega) ho2) ?_;refine dC [14] [] ?_;refine dQ [15] [] iL ?_;refine dC [3] [] ?_;refine dQ [17] [64] iB ?_;refine dC [16,18] [] ?_;refine dC [19] [] ?_
 cases h1:decide (o.era=s.era) with
 | false =>
  rw[no (by rw[takB,h1]; rfl)]
  refine ae [20,1] rfl rfl rfl rfl ?_;refine ae [20,2] rfl rfl rfl rfl ?_;refine ae [20,21,22] rfl rfl rfl rfl ?_;refine ae [20,23] rfl rfl rfl rfl ?_;refine ae [20,3] rfl rfl rfl rfl ?_;refine ae [20,25] rfl rfl rfl rfl ?_;refine ae [20,26] rfl rfl rfl rfl ?_;refine ae [20,24,27] rfl rfl rfl rfl ?_;refine ae [20,28] rfl rfl rfl rfl ?_;refine dQ [20,29] [] iU ?_;refine dC [30] [] ?_;refine ae [31,3] rfl rfl rfl rfl ?_;refine ae [31,32] rfl rfl rfl rfl ?_;refine ae [31,2] rfl rfl rfl rfl ?_;refine ae [31,33,34] rfl rfl rfl rfl ?_;refine ae [31,35] rfl rfl rfl rfl ?_;refine dQ [31,36] [] iU ?_;refine am (by kernel_rfl)<|aH ?_;refine wV<|sR ?_;refine rQ iM ?_;refine rW ?_;refine rC<|zT<|bx ?_
  exact⟨trivial,_,rfl,[],lf⟩
 | true =>
 cases h2:mayB o s.arr.length with
 | false =>
  rw[no (by rw[takB,h1,h2]; rfl)]
  rw[h2]at hma
  refine ab [20,1] [] rfl rfl rfl rfl (an aa (fun K hk=>hk)) ?_;refine ab [20,2] [] rfl rfl rfl rfl (an aa (fun K hk=>hk)) ?_;refine ab [20,21,22] [] rfl rfl rfl rfl (aq aa rfl rfl rfl rfl rfl (by omega) ho2) ?_;refine ab [20,23] [] rfl rfl rfl rfl (cg aa rfl rfl) ?_;refine ab [20,3] [] rfl rfl rfl rfl (an aa (fun K hk=>hk)) ?_;refine ab [20,25] [64] rfl rfl rfl rfl (aK aa rfl rfl ⟨_,rfl,rfl⟩ rfl) ?_;refine ab [20,26] [] rfl rfl rfl rfl (jb aa rfl rfl) ?_;refine ab [20,24,27] [] rfl rfl rfl rfl (ay hma rfl rfl (ak (ak aj)) (.inl rfl) (fun _=>rfl)) ?_;refine ab [20,28] [] rfl rfl rfl rfl (an aa (fun K hk=>hk)) ?_;refine dQ [20,29] [] iG ?_;refine dC [30] [] ?_;refine ae [31,3] rfl rfl rfl rfl ?_;refine ae [31,32] rfl rfl rfl rfl ?_;refine ae [31,2] rfl rfl rfl rfl ?_;refine ae [31,33,34] rfl rfl rfl rfl ?_;refine ae [31,35] rfl rfl rfl rfl ?_;refine dQ [31,36] [] iU ?_;refine am (by kernel_rfl)<|aH ?_;refine wV<|sR ?_;refine rQ iM ?_;refine rW ?_;refine rC<|zT<|bx ?_
  exact⟨trivial,_,rfl,[],lf⟩
 | true =>
 rw[h2]at hma
 cases h3:s.taken.any (fun y=>decide (y=(i:Int))) with
 | true =>
  rw[no (by rw[takB,h1,h2,h3]; rfl)]
  rw[h3]at hhi
  refine ab [20,1] [] rfl rfl rfl rfl (an aa (fun K hk=>hk)) ?_;refine ab [20,2] [] rfl rfl rfl rfl (an aa (fun K hk=>hk)) ?_;refine ab [20,21,22] [] rfl rfl rfl rfl (aq aa rfl rfl rfl rfl rfl (by omega) ho2) ?_;refine ab [20,23] [] rfl rfl rfl rfl (cg aa rfl rfl) ?_;refine ab [20,3] [] rfl rfl rfl rfl (an aa (fun K hk=>hk)) ?_;refine ab [20,25] [64] rfl rfl rfl rfl (aK aa rfl rfl ⟨_,rfl,rfl⟩ rfl) ?_;refine ab [20,26] [] rfl rfl rfl rfl (jb aa rfl rfl) ?_;refine ab [20,24,27] [] rfl rfl rfl rfl (ay hma rfl rfl (ak (ak aj)) (.inl rfl) (fun _=>rfl)) ?_;refine ab [20,28] [] rfl rfl rfl rfl (an aa (fun K hk=>hk)) ?_;refine dQ [20,29] [] iG ?_;refine dC [30] [] ?_;refine ab [31,3] [] rfl rfl rfl rfl (an aa (fun K hk=>hk)) ?_;refine ab [31,32] [64] rfl rfl rfl rfl (aK aa rfl rfl ⟨_,rfl,rfl⟩ rfl) ?_;refine ab [31,2] [] rfl rfl rfl rfl (an aa (fun K hk=>hk)) ?_;refine ab [31,33,34] [] rfl rfl rfl rfl (ay hhi rfl rfl (ak (ak aj)) (.inl rfl) (fun _=>rfl)) ?_;refine ab [31,35] [] rfl rfl rfl rfl (an aa (fun K hk=>hk)) ?_;refine dQ [31,36] [] iG ?_;refine am (by kernel_rfl)<|aH ?_;refine wV<|sR ?_;refine rQ iM ?_;refine rW ?_;refine rC<|zT<|bx ?_
  exact⟨trivial,_,rfl,[],lf⟩
 | false =>
 rw[h3]at hhi
 refine ab [20,1] [] rfl rfl rfl rfl (an aa (fun K hk=>hk)) ?_;refine ab [20,2] [] rfl rfl rfl rfl (an aa (fun K hk=>hk)) ?_;refine ab [20,21,22] [] rfl rfl rfl rfl (aq aa rfl rfl rfl rfl rfl (by omega) ho2) ?_;refine ab [20,23] [] rfl rfl rfl rfl (cg aa rfl rfl) ?_;refine ab [20,3] [] rfl rfl rfl rfl (an aa (fun K hk=>hk)) ?_;refine ab [20,25] [64] rfl rfl rfl rfl (aK aa rfl rfl ⟨_,rfl,rfl⟩ rfl) ?_;refine ab [20,26] [] rfl rfl rfl rfl (jb aa rfl rfl) ?_;refine ab [20,24,27] [] rfl rfl rfl rfl (ay hma rfl rfl (ak (ak aj)) (.inl rfl) (fun _=>rfl)) ?_;refine ab [20,28] [] rfl rfl rfl rfl (an aa (fun K hk=>hk)) ?_;refine dQ [20,29] [] iG ?_;refine dC [30] [] ?_;refine ab [31,3] [] rfl rfl rfl rfl (an aa (fun K hk=>hk)) ?_;refine ab [31,32] [64] rfl rfl rfl rfl (aK aa rfl rfl ⟨_,rfl,rfl⟩ rfl) ?_;refine ab [31,2] [] rfl rfl rfl rfl (an aa (fun K hk=>hk)) ?_;refine ab [31,33,34] [] rfl rfl rfl rfl (ay hhi rfl rfl (ak (ak aj)) (.inl rfl) (fun _=>rfl)) ?_;refine ab [31,35] [] rfl rfl rfl rfl (an aa (fun K hk=>hk)) ?_;refine dQ [31,36] [] iG ?_;refine am (by kernel_rfl)<|aH ?_;refine wG<|kS<|qR ?_;refine rC<|zP ?_
 refine wc_inv (fun k:Nat=>⟨[(8,.int .i64 k),(6,.ptr 65 []),(3,.ptr 64 []),(2,.int .i64 i),(1,.d (dD l))],[(64,some (l4 s)),(65,some (.box 100 (.d zRS)))],72,Try.f53.ntmps,64⟩) (fun k=>k≤l.length∧hitL s o (l.drop k) k=hitL s o l 0) (fun k=>l.length-k) 0 [(64,some 64),(65,some _)] ⟨Nat.zero_le _,rfl⟩
  (lg zh ⟨zR,zR,trivial⟩) ?_
 rintro k ⟨hk,hd⟩
 refine bL ?_
 by_cases hlt:k<l.length
 ·have d1:decide ((k:Int)<(l.length:Int))=true:=dT (by omega)
  obtain⟨p,hp⟩:∃x,l[k]?=some x:=⟨_,List.getElem?_eq_getElem hlt⟩
  have hp2:l[((k:Int)).toNat]?=some p:=by rw[Int.toNat_natCast]; exact hp
  rw[tI hp]at hd
  have hit:hitB s o k p=true→takB s l i o=false:=fun e=>by
   rw[e,Bool.true_or]at hd
   rw[takB,←hd]; simp
  have hhk:=oo s.taken (k:Int) (by omega)
  have hb1:=mb o p
  have hb2:=mb p o
  have hmu:=l6 p
  refine qR<|zD ?_;refine rQ iE ?_;refine rC ?_;refine zI<|zQ<|zS ?_;refine rC ?_;refine rQ iB ?_;refine rC ?_;refine rQ (ay hhk rfl rfl (ak (ak aj)) (.inl rfl) (fun _=>rfl)) ?_;refine rC<|nQ<|aT ?_;refine aC (by kernel_rfl) ?_;refine dC [9] [] ?_;refine dC [49] [] ?_;refine dC [50] [] ?_
  cases h4:s.taken.any (fun y=>decide (y=(k:Int))) with
  | true =>
   rw[h4]at hhk
   refine ab [51,1] [] rfl rfl rfl rfl (an aa (fun K hk=>hk)) ?_;refine ab [51,2] [] rfl rfl rfl rfl (an aa (fun K hk=>hk)) ?_;refine ab [51,52,53] [] rfl rfl rfl rfl (aq aa rfl rfl rfl rfl rfl (by omega) ho2) ?_;refine ab [51,54] [] rfl rfl rfl rfl (cg aa rfl rfl) ?_;refine ab [51,1] [] rfl rfl rfl rfl (an aa (fun K hk=>hk)) ?_;refine ab [51,8] [] rfl rfl rfl rfl (an aa (fun K hk=>hk)) ?_;refine ab [51,56,57] [] rfl rfl rfl rfl (aq aa rfl rfl rfl rfl rfl (by omega) hp2) ?_;refine ab [51,58] [] rfl rfl rfl rfl (cg aa rfl rfl) ?_;refine ab [51,55,59] [] rfl rfl rfl rfl (ay hb1 rfl rfl (ak (ak aj)) (.inl rfl) (fun _=>rfl)) ?_;refine ab [51,60] [] rfl rfl rfl rfl (an aa (fun K hk=>hk)) ?_;refine dQ [51,61] [] iU ?_;refine am (by kernel_rfl)<|aH ?_
   cases h5:befB o p with
   | true =>
    rw[h5]at hb1
    rw[no (hit (by rw[hitB,h4,if_pos rfl,h5]))]
    refine wV<|sR ?_;refine rQ iM ?_;refine rW ?_;refine rC<|zT<|bx<|zB<|co<|zB ?_
    exact⟨trivial,_,rfl,[],lf⟩
   | false =>
    rw[h5]at hb1
    rw[hitB,h4,if_pos rfl,h5,Bool.false_or]at hd
    refine wG<|zQ ?_;refine aC (by kernel_rfl) ?_;refine dC [9] [] ?_;refine dC [64] [] ?_;refine dC [65] [] ?_;refine ae [66,1] rfl rfl rfl rfl ?_;refine ae [66,8] rfl rfl rfl rfl ?_;refine ae [66,67,68] rfl rfl rfl rfl ?_;refine ae [66,69] rfl rfl rfl rfl ?_;refine ae [66,70] rfl rfl rfl rfl ?_;refine ae [66,3] rfl rfl rfl rfl ?_;refine ae [66,72] rfl rfl rfl rfl ?_;refine ae [66,71,73] rfl rfl rfl rfl ?_;refine dQ [66,74] [] iG ?_;refine dC [75] [] ?_;refine ae [76,1] rfl rfl rfl rfl ?_;refine ae [76,8] rfl rfl rfl rfl ?_;refine ae [76,77,78] rfl rfl rfl rfl ?_;refine ae [76,79] rfl rfl rfl rfl ?_;refine ae [76,80] rfl rfl rfl rfl ?_;refine ae [76,81] rfl rfl rfl rfl ?_;refine dQ [76,82] [] iG ?_;refine dC [83] [] ?_;refine ae [84,1] rfl rfl rfl rfl ?_;refine ae [84,8] rfl rfl rfl rfl ?_;refine ae [84,85,86] rfl rfl rfl rfl ?_;refine ae [84,87] rfl rfl rfl rfl ?_;refine ae [84,1] rfl rfl rfl rfl ?_;refine ae [84,2] rfl rfl rfl rfl ?_;refine ae [84,89,90] rfl rfl rfl rfl ?_;refine ae [84,91] rfl rfl rfl rfl ?_;refine ae [84,88,92] rfl rfl rfl rfl ?_;refine ae [84,93] rfl rfl rfl rfl ?_;refine dQ [84,94] [] iG ?_;refine am (by kernel_rfl)<|aH ?_;refine wG<|aN<|eK<|aH<|ai ?_;refine rC ?_;refine rQ iD ?_;refine rC<|au ?_
    exact aJ (k+1) [(64,some 64),(65,some 65)] ⟨hlt,hd⟩ (by omega) (lg zh ⟨zR,zR,trivial⟩)
  | false =>
   rw[h4]at hhk
   refine ae [51,1] rfl rfl rfl rfl ?_;refine ae [51,2] rfl rfl rfl rfl ?_;refine ae [51,52,53] rfl rfl rfl rfl ?_;refine ae [51,54] rfl rfl rfl rfl ?_;refine ae [51,1] rfl rfl rfl rfl ?_;refine ae [51,8] rfl rfl rfl rfl ?_;refine ae [51,56,57] rfl rfl rfl rfl ?_;refine ae [51,58] rfl rfl rfl rfl ?_;refine ae [51,55,59] rfl rfl rfl rfl ?_;refine ae [51,60] rfl rfl rfl rfl ?_;refine dQ [51,61] [] iG ?_;refine am (by kernel_rfl)<|aH ?_;refine wG<|zQ ?_;refine aC (by kernel_rfl) ?_;refine dC [9] [] ?_;refine dC [64] [] ?_;refine dC [65] [] ?_;refine ab [66,1] [] rfl rfl rfl rfl (an aa (fun K hk=>hk)) ?_;refine ab [66,8] [] rfl rfl rfl rfl (an aa (fun K hk=>hk)) ?_;refine ab [66,67,68] [] rfl rfl rfl rfl (aq aa rfl rfl rfl rfl rfl (by omega) hp2) ?_;refine ab [66,69] [] rfl rfl rfl rfl (an aa (fun K hk=>hk)) ?_;refine ab [66,70] [] rfl rfl rfl rfl (cg aa rfl rfl) ?_;refine ab [66,3] [] rfl rfl rfl rfl (an aa (fun K hk=>hk)) ?_;refine ab [66,72] [64] rfl rfl rfl rfl (aK aa rfl rfl ⟨_,rfl,rfl⟩ rfl) ?_;refine ab [66,71,73] [] rfl rfl rfl rfl (an aa (fun K hk=>hk)) ?_;refine dQ [66,74] [] iU ?_;refine dC [75] [] ?_
   cases h5:decide (p.era=s.era) with
   | false =>
    rw[hitB,h4,if_neg (by decide),h5,Bool.false_and,Bool.false_or]at hd
    refine ae [76,1] rfl rfl rfl rfl ?_;refine ae [76,8] rfl rfl rfl rfl ?_;refine ae [76,77,78] rfl rfl rfl rfl ?_;refine ae [76,79] rfl rfl rfl rfl ?_;refine ae [76,80] rfl rfl rfl rfl ?_;refine ae [76,81] rfl rfl rfl rfl ?_;refine dQ [76,82] [] iG ?_;refine dC [83] [] ?_;refine ae [84,1] rfl rfl rfl rfl ?_;refine ae [84,8] rfl rfl rfl rfl ?_;refine ae [84,85,86] rfl rfl rfl rfl ?_;refine ae [84,87] rfl rfl rfl rfl ?_;refine ae [84,1] rfl rfl rfl rfl ?_;refine ae [84,2] rfl rfl rfl rfl ?_;refine ae [84,89,90] rfl rfl rfl rfl ?_;refine ae [84,91] rfl rfl rfl rfl ?_;refine ae [84,88,92] rfl rfl rfl rfl ?_;refine ae [84,93] rfl rfl rfl rfl ?_;refine dQ [84,94] [] iG ?_;refine am (by kernel_rfl)<|aH ?_;refine wG<|aN<|eK<|aH<|ai ?_;refine rC ?_;refine rQ iD ?_;refine rC<|au ?_
    exact aJ (k+1) [(64,some 64),(65,some 65)] ⟨hlt,hd⟩ (by omega) (lg zh ⟨zR,zR,trivial⟩)
   | true =>
   cases h6:b4 p with
   | false =>
    rw[h6]at hmu
    rw[hitB,h4,if_neg (by decide),h6,Bool.false_and,Bool.and_false,Bool.false_or]at hd
    refine ab [76,1] [] rfl rfl rfl rfl (an aa (fun K hk=>hk)) ?_;refine ab [76,8] [] rfl rfl rfl rfl (an aa (fun K hk=>hk)) ?_;refine ab [76,77,78] [] rfl rfl rfl rfl (aq aa rfl rfl rfl rfl rfl (by omega) hp2) ?_;refine ab [76,79] [] rfl rfl rfl rfl (cg aa rfl rfl) ?_;refine ab [76,80] [] rfl rfl rfl rfl (ay hmu rfl rfl (ak aj) (.inl rfl) (fun _=>rfl)) ?_;refine ab [76,81] [] rfl rfl rfl rfl (an aa (fun K hk=>hk)) ?_;refine dQ [76,82] [] iU ?_;refine dC [83] [] ?_;refine ae [84,1] rfl rfl rfl rfl ?_;refine ae [84,8] rfl rfl rfl rfl ?_;refine ae [84,85,86] rfl rfl rfl rfl ?_;refine ae [84,87] rfl rfl rfl rfl ?_;refine ae [84,1] rfl rfl rfl rfl ?_;refine ae [84,2] rfl rfl rfl rfl ?_;refine ae [84,89,90] rfl rfl rfl rfl ?_;refine ae [84,91] rfl rfl rfl rfl ?_;refine ae [84,88,92] rfl rfl rfl rfl ?_;refine ae [84,93] rfl rfl rfl rfl ?_;refine dQ [84,94] [] iG ?_;refine am (by kernel_rfl)<|aH ?_;refine wG<|aN<|eK<|aH<|ai ?_;refine rC ?_;refine rQ iD ?_;refine rC<|au ?_
    exact aJ (k+1) [(64,some 64),(65,some 65)] ⟨hlt,hd⟩ (by omega) (lg zh ⟨zR,zR,trivial⟩)
   | true =>
   rw[h6]at hmu
   cases h7:befB p o with
   | false =>
    rw[h7]at hb2
    rw[hitB,h4,if_neg (by decide),h7,Bool.and_false,Bool.and_false,Bool.false_or]at hd
    refine ab [76,1] [] rfl rfl rfl rfl (an aa (fun K hk=>hk)) ?_;refine ab [76,8] [] rfl rfl rfl rfl (an aa (fun K hk=>hk)) ?_;refine ab [76,77,78] [] rfl rfl rfl rfl (aq aa rfl rfl rfl rfl rfl (by omega) hp2) ?_;refine ab [76,79] [] rfl rfl rfl rfl (cg aa rfl rfl) ?_;refine ab [76,80] [] rfl rfl rfl rfl (ay hmu rfl rfl (ak aj) (.inl rfl) (fun _=>rfl)) ?_;refine ab [76,81] [] rfl rfl rfl rfl (an aa (fun K hk=>hk)) ?_;refine dQ [76,82] [] iU ?_;refine dC [83] [] ?_;refine ab [84,1] [] rfl rfl rfl rfl (an aa (fun K hk=>hk)) ?_;refine ab [84,8] [] rfl rfl rfl rfl (an aa (fun K hk=>hk)) ?_;refine ab [84,85,86] [] rfl rfl rfl rfl (aq aa rfl rfl rfl rfl rfl (by omega) hp2) ?_;refine ab [84,87] [] rfl rfl rfl rfl (cg aa rfl rfl) ?_;refine ab [84,1] [] rfl rfl rfl rfl (an aa (fun K hk=>hk)) ?_;refine ab [84,2] [] rfl rfl rfl rfl (an aa (fun K hk=>hk)) ?_;refine ab [84,89,90] [] rfl rfl rfl rfl (aq aa rfl rfl rfl rfl rfl (by omega) ho2) ?_;refine ab [84,91] [] rfl rfl rfl rfl (cg aa rfl rfl) ?_;refine ab [84,88,92] [] rfl rfl rfl rfl (ay hb2 rfl rfl (ak (ak aj)) (.inl rfl) (fun _=>rfl)) ?_;refine ab [84,93] [] rfl rfl rfl rfl (an aa (fun K hk=>hk)) ?_;refine dQ [84,94] [] iU ?_;refine am (by kernel_rfl)<|aH ?_;refine wG<|aN<|zC<|ai ?_;refine rC ?_;refine rQ iD ?_;refine rC<|au ?_
    exact aJ (k+1) [(64,some 64),(65,some 65)] ⟨hlt,hd⟩ (by omega) (lg zh ⟨zR,zR,trivial⟩)
   | true =>
    rw[h7]at hb2
    rw[no (hit (by rw[hitB,h4,if_neg (by decide),h5,h6,h7]; rfl))]
    refine ab [76,1] [] rfl rfl rfl rfl (an aa (fun K hk=>hk)) ?_;refine ab [76,8] [] rfl rfl rfl rfl (an aa (fun K hk=>hk)) ?_;refine ab [76,77,78] [] rfl rfl rfl rfl (aq aa rfl rfl rfl rfl rfl (by omega) hp2) ?_;refine ab [76,79] [] rfl rfl rfl rfl (cg aa rfl rfl) ?_;refine ab [76,80] [] rfl rfl rfl rfl (ay hmu rfl rfl (ak aj) (.inl rfl) (fun _=>rfl)) ?_;refine ab [76,81] [] rfl rfl rfl rfl (an aa (fun K hk=>hk)) ?_;refine dQ [76,82] [] iU ?_;refine dC [83] [] ?_;refine ab [84,1] [] rfl rfl rfl rfl (an aa (fun K hk=>hk)) ?_;refine ab [84,8] [] rfl rfl rfl rfl (an aa (fun K hk=>hk)) ?_;refine ab [84,85,86] [] rfl rfl rfl rfl (aq aa rfl rfl rfl rfl rfl (by omega) hp2) ?_;refine ab [84,87] [] rfl rfl rfl rfl (cg aa rfl rfl) ?_;refine ab [84,1] [] rfl rfl rfl rfl (an aa (fun K hk=>hk)) ?_;refine ab [84,2] [] rfl rfl rfl rfl (an aa (fun K hk=>hk)) ?_;refine ab [84,89,90] [] rfl rfl rfl rfl (aq aa rfl rfl rfl rfl rfl (by omega) ho2) ?_;refine ab [84,91] [] rfl rfl rfl rfl (cg aa rfl rfl) ?_;refine ab [84,88,92] [] rfl rfl rfl rfl (ay hb2 rfl rfl (ak (ak aj)) (.inl rfl) (fun _=>rfl)) ?_;refine ab [84,93] [] rfl rfl rfl rfl (an aa (fun K hk=>hk)) ?_;refine dQ [84,94] [] iU ?_;refine am (by kernel_rfl)<|aH ?_;refine wV<|sR ?_;refine rQ iM ?_;refine rW ?_;refine rC<|zT<|zB<|co<|zB ?_
    exact⟨trivial,_,rfl,[],lf⟩
 ·have d1:decide ((k:Int)<(l.length:Int))=false:=dF (by omega)
  rw[List.drop_eq_nil_of_le (by omega),hitL]at hd
  have hy:dY s l i o=({ (hapR s o).1 with taken:=dG s.taken i },(hapR s o).2):=by rw[dY,takB,h1,h2,h3,←hd]; rfl
  rw[hy]
  have hha:=qI s o (hs.hap (by omega) (by rw[←hs.al]; exact h2)).1
  have hwi:=wv s.taken (i:Int) ht
  generalize hapR s o=r at hha
  obtain⟨u,c⟩:=r
  refine qR<|zD ?_;refine rQ iE ?_;refine rC ?_;refine zG<|zX<|aT ?_;refine aC (by kernel_rfl) ?_;refine dQ [3] [64] iM ?_;refine dC [1] [] ?_;refine dC [2] [] ?_;refine dQ [99,100] [] (aq aa rfl rfl rfl rfl rfl (by omega) ho2) ?_;refine dQ [101] [] iL ?_;refine dQ [98,102] [] (ay hha rfl rfl (ak (ak aj)) (.inl rfl) (fun _=>rfl)) ?_;refine dC [103] [] ?_;iterate 2 refine dC [97] [] ?_
  refine cR [] [] rfl (an aa (fun K hk=>hk)) ?_;refine bn [10,104] [176] (aL aa rfl rfl rfl ⟨_,⟨rfl,rfl,rfl⟩,rfl⟩ rfl) ?_;refine dC [105] [] ?_;refine am (by kernel_rfl)<|aH<|sR ?_;refine rC ?_;refine rQ iB ?_;refine rC ?_;refine rQ (ay hwi rfl rfl (ak (ak aj)) (.inl rfl) (fun _=>rfl)) ?_;refine rC ?_;refine rX<|nR ?_;refine rQ iM ?_;refine rC ?_;refine rW ?_;refine rC<|zT ?_
  exact⟨trivial,_,rfl,[],lf⟩
end Go.Proofs.Ytkehohfgbblokaa
namespace Go.Proofs.Ytkehohfgbblokaa
open Go.Eng Go.Plain
set_option maxHeartbeats 32000000
set_option maxRecDepth 20000
def rAdd (L:List RS) (t:RS):List RS:=if L.any (fun x=>gq x t) then L else L++[t]
def jS (s:RS) (l:List HOp) (i:Nat) (o:HOp) (L:List RS):List RS:=if (dY s l i o).2 then rAdd L (dY s l i o).1 else L
def fb (most:Nat) (l:List HOp) (s:RS):List HOp→Nat→List RS→List RS
 | [],_,L=>L
 | o::r,i,L=>if L.length≤most then fb most l s r (i+1) (jS s l i o L) else L
def rCra (l:List HOp) (e:Int) (s:RS) (L:List RS):List RS:=if decide (s.era<e-1)&&eh s l 0 then rAdd L (fG s) else L
def mc (most:Nat) (l:List HOp) (e:Int) (s:RS) (L:List RS):List RS:=rCra l e s (fb most l s l 0 L)
def rStG (most:Nat) (l:List HOp) (e:Int):Nat→Nat→List RS→List RS
 | 0,_,L=>L
 | n+1,at_,L=>match L[at_]? with
  | none=>L
  | some s=>if L.length≤most then rStG most l e n (at_+1) (mc most l e s L) else L
def eF (most:Nat) (l:List HOp) (n:Nat) (e:Int):List RS:=rStG most l e (most+2) 0 [cM n]
theorem jT (L:List RS) (t:RS):L.length≤(rAdd L t).length∧(rAdd L t).length≤L.length+1:=by
 unfold rAdd
 split <;> simp
theorem uT {L:List RS} {t s:RS} {j:Nat} (h:L[j]?=some s):(rAdd L t)[j]?=some s:=by
 unfold rAdd
 split
 ·exact h
 ·rw[List.getElem?_append_left (List.getElem?_eq_some_iff.1 h).1]; exact h
structure LOk (n:Nat) (L:List RS):Prop where
 ok:∀(j:Nat) (s:RS),L[j]?=some s→RSOk n s
 tk:∀(j:Nat) (s:RS),L[j]?=some s→s.taken.length≤j
theorem LOk.add {n:Nat} {L:List RS} {t:RS} (h:LOk n L) (ht:RSOk n t) (hl:t.taken.length≤L.length):LOk n (rAdd L t):=by
 unfold rAdd
 split
 ·exact h
 ·constructor
  ·intro j s hj
   rw[List.getElem?_append]at hj
   split at hj
   ·exact h.ok j s hj
   ·rcases hk:j-L.length with _ | k
    ·rw[hk]at hj; cases hj; exact ht
    ·rw[hk]at hj; simp at hj
  ·intro j s hj
   rw[List.getElem?_append]at hj
   split at hj
   ·exact h.tk j s hj
   ·rcases hk:j-L.length with _ | k
    ·rw[hk]at hj; cases hj; omega
    ·rw[hk]at hj; simp at hj
theorem wz {n:Nat} (hn:n≤1000000) {s:RS} {l:List HOp} {i:Nat} {o:HOp} (h:RSOk n s) (h2:(dY s l i o).2=true):RSOk n (dY s l i o).1∧(dY s l i o).1.taken.length=s.taken.length+1:=by
 unfold dY at h2 ⊢
 split
 ·rename_i ht
  unfold takB at ht
  simp only[Bool.and_eq_true]at ht
  have hm:=ht.2.1
  rw[h.al]at hm
  have:=(h.hap (by omega) hm).2
  exact⟨⟨this.al,this.dl,this.ap,this.dp,this.e0,this.e1⟩,m5 _ _⟩
 ·rename_i ht
  rw[if_neg ht]at h2
  cases h2
theorem qS {most:Nat} {l:List HOp} {s:RS} {i:Nat} {o:HOp} {L:List RS} (h:l[i]?=some o):fb most l s (l.drop i) i L=if L.length≤most then fb most l s (l.drop (i+1)) (i+1) (jS s l i o L) else L:=by
 have hlt:=(List.getElem?_eq_some_iff.1 h).1
 rw[List.drop_eq_getElem_cons hlt,(List.getElem?_eq_some_iff.1 h).2,fb]
theorem qQ {most:Nat} {l:List HOp} {s:RS} {i:Nat} {L:List RS} (r:List HOp) (h:¬L.length≤most):fb most l s r i L=L:=by
 cases r with
 | nil=>rfl
 | cons o r=>rw[fb,if_neg h]
end Go.Proofs.Ytkehohfgbblokaa
namespace Go.Proofs.Ytkehohfgbblokaa
open Go.Eng Go.Plain
set_option maxHeartbeats 32000000
set_option maxRecDepth 20000
abbrev hasB (T:List Int) (i:Int):Bool:=T.any fun y=>decide (y=i)
def tkE (z T:List Int):List UInt8:=z.map fun i=>if hasB T i then 1 else 0
def arE (vs:BMap) (ks:List Int) (A:List (List UInt8)):List UInt8:=ks.flatMap fun k=>cZ (valN vs (pgAt A k))
def encS (p:Prep) (ks:List Int) (s:RS):LSt:=⟨s.era,tkE (zOf p s.era) s.taken,arE p.vs ks s.arr,arE p.vs ks s.dur⟩
theorem vD {T:List Int} {i:Int}:hasB T i=true↔i∈T:=by
 simp only[hasB,List.any_eq_true,decide_eq_true_eq]
 exact⟨fun⟨x,h1,h2⟩=>h2 ▸ h1,fun h=>⟨i,h,rfl⟩⟩
theorem kD (T:List Int) (i j:Int):hasB (dG T i) j=(hasB T j||decide (i=j)):=by
 induction T with
 | nil=>simp[dG,hasB]
 | cons a T ih =>
  rw[dG]
  split
  ·simp only[hasB,List.any_cons]
   cases decide (i=j) <;> simp
  ·simp only[hasB,List.any_cons]at ih ⊢
   rw[ih,Bool.or_assoc]
section
variable {f g : Int → List UInt8}
theorem vL (hf:∀k,(f k).length=2):∀ks:List Int,(ks.flatMap f).length=2*ks.length
 | []=>rfl
 | k::ks=>by rw[List.flatMap_cons,List.length_append,hf,vL hf ks,List.length_cons]; omega
theorem sA (hf:∀k,(f k).length=2):∀(ks:List Int) (j:Nat),(ks.flatMap f).take (2*j)=(ks.take j).flatMap f
 | ks,0=>by simp
 | [],j+1=>by simp
 | k::ks,j+1=>by
  rw[List.flatMap_cons,List.take_succ_cons,List.flatMap_cons,←sA hf ks j,List.take_append,hf,show 2*(j+1)-2=2*j by omega,List.take_of_length_le (by rw[hf]; omega)]
theorem oR (hf:∀k,(f k).length=2):∀(ks:List Int) (j:Nat),(ks.flatMap f).drop (2*j)=(ks.drop j).flatMap f
 | ks,0=>by simp
 | [],j+1=>by simp
 | k::ks,j+1=>by
  rw[List.flatMap_cons,List.drop_succ_cons,←oR hf ks j,List.drop_append,hf,show 2*(j+1)-2=2*j by omega,List.drop_of_length_le (by rw[hf]; omega),List.nil_append]
theorem vM (hf:∀k,(f k).length=2) (hg:∀k,(g k).length=2):∀ks:List Int,ks.flatMap f=ks.flatMap g→∀k∈ks,f k=g k
 | [],_,_,h=>by cases h
 | a::ks,h,k,hk=>by
  rw[List.flatMap_cons,List.flatMap_cons]at h
  obtain⟨h1,h2⟩:=List.append_inj h (by rw[hf,hg])
  rcases List.mem_cons.1 hk with rfl | hk
  ·exact h1
  ·exact vM hf hg ks h2 k hk
theorem mK:∀ks:List Int,(∀k∈ks,f k=g k)→ks.flatMap f=ks.flatMap g
 | [],_=>rfl
 | a::ks,h=>by rw[List.flatMap_cons,List.flatMap_cons,h a List.mem_cons_self,mK ks fun k hk=>h k (List.mem_cons_of_mem _ hk)]
end
theorem rA {a b:Nat} (ha:a<65536) (hb:b<65536) (h:cZ a=cZ b):a=b:=by
 unfold cZ at h
 simp only[List.cons.injEq,and_true]at h
 have h1:=congrArg UInt8.toNat h.1
 have h2:=congrArg UInt8.toNat h.2
 simp only[UInt8.toNat_ofNat']at h1 h2
 omega
theorem kV (p:HOp→Bool):∀(l:List HOp) (i:Nat),(selI p l i).Pairwise (· < ·)∧∀x∈selI p l i,i≤x
 | [],_=>⟨.nil,fun _ h=>by cases h⟩
 | o::l,i=>by
  obtain⟨h1,h2⟩:=kV p l (i+1)
  unfold selI
  split
  ·exact⟨List.pairwise_cons.2 ⟨fun x hx=>by have:=h2 x hx; omega,h1⟩,fun x hx=>by
    rcases List.mem_cons.1 hx with rfl | hx
    ·exact Nat.le_refl _
    ·have:=h2 x hx; omega⟩
  ·exact⟨h1,fun x hx=>by have:=h2 x hx; omega⟩
theorem sZ {l:List Nat} (h:l.Pairwise (· < ·)):(zs l).Pairwise (· < ·):=by
 unfold zs
 rw[List.pairwise_map]
 exact h.imp fun h=>by omega
theorem kR (P:Int→Bool) (i:Int):∀z:List Int,z.Pairwise (· < ·)→i∈z→P i=false→dG (z.filter P) i=z.filter fun j=>P j||decide (i=j)
 | [],_,h,_=>by cases h
 | a::z,hs,hi,hP=>by
  obtain⟨h1,h2⟩:=List.pairwise_cons.1 hs
  by_cases e:a=i
  ·subst e
   rw[List.filter_cons_of_neg (by rw[hP]; decide),List.filter_cons_of_pos (by simp)]
   have h3:(z.filter fun j=>P j||decide (a=j))=z.filter P:=List.filter_congr fun x hx=>by
    have:=h1 x hx
    rw[dF (by omega),Bool.or_false]
   rw[h3]
   cases h4:z.filter P with
   | nil=>rfl
   | cons b t =>
    have h5:b∈z:=(List.mem_filter.1 (h4 ▸ List.mem_cons_self:b∈z.filter P)).1
    rw[dG,if_pos (h1 b h5)]
  ·have hi2:i∈z:=by
    rcases List.mem_cons.1 hi with h | h
    ·exact absurd h.symm e
    ·exact h
   have ih:=kR P i z h2 hi2 hP
   have hai:=h1 i hi2
   by_cases hp:P a=true
   ·rw[List.filter_cons_of_pos hp,List.filter_cons_of_pos (by rw[hp]; rfl),dG,if_neg (by omega),ih]
   ·have hp:=Bool.eq_false_iff.2 hp
    rw[List.filter_cons_of_neg (by rw[hp]; decide),List.filter_cons_of_neg (by rw[hp,dF (fun h=>e h.symm)]; decide),ih]
theorem ns {κ ν:Type} [DecidableEq κ] {k:κ} {v:ν}:∀ {m:List (κ×ν)} {q:κ×ν},q∈putA m k v→q∈m∨q.1=k
 | [],q,h=>by simp[putA]at h; exact .inr (by rw[h])
 | (k',v')::m,q,h=>by
  unfold putA at h
  split at h
  ·rename_i e
   rcases List.mem_cons.1 h with rfl | h
   ·exact .inr e.symm
   ·exact .inl (List.mem_cons_of_mem _ h)
  ·rcases List.mem_cons.1 h with rfl | h
   ·exact .inl List.mem_cons_self
   ·rcases ns h with h | h
    ·exact .inl (List.mem_cons_of_mem _ h)
    ·exact .inr h
theorem k5 {l:List HOp} {b:Int}:∀(idx:List Nat) (q:IMap×BMap),(∀i∈idx,(opN l i).op.kind≠3→0≤(opN l i).op.index∧(opN l i).op.index<b)→(∀x∈q.1,0≤x.1∧x.1<b)→∀x∈(cf l idx q).1,0≤x.1∧x.1<b
 | [],_,_,h=>h
 | i::idx,q,hi,h=>by
  refine k5 idx (numP q.1 (opN l i),numV q.2 (opN l i)) (fun j hj=>hi j (List.mem_cons_of_mem _ hj)) fun x hx=>?_
  simp only at hx
  unfold numP at hx
  split at hx
  ·exact h x hx
  ·rename_i h3
   split at hx
   ·exact h x hx
   ·rcases ns hx with hx | hx
    ·exact h x hx
    ·rw[hx]; exact hi i List.mem_cons_self h3
theorem nt (l:List HOp) (b:Int):∀(e:Nat),∀x∈(cV l b e).pl,0≤x.1∧x.1<b
 | 0,x,h=>by cases h
 | e+1,x,h=>by
  refine k5 (l:=l) (mayI l b e) ((cV l b e).pl,(cV l b e).vs) (fun i hi h3=>?_) (nt l b e) x h
  obtain⟨o,ho,_,hm⟩:=cI.1 hi
  have:opN l i=o:=by rw[opN,ho]; rfl
  rw[this]at h3 ⊢
  exact (iZ hm).2.2 h3
theorem nN {κ:Type} {k:κ}:∀(ks:List κ) (i:Nat),k∈ks→∃v,(k,v)∈cX ks i
 | [],_,h=>by cases h
 | a::ks,i,h=>by
  rcases List.mem_cons.1 h with rfl | h
  ·exact⟨_,List.mem_cons_self⟩
  ·obtain⟨v,hv⟩:=nN ks (i+1) h
   exact⟨v,List.mem_cons_of_mem _ hv⟩
end Go.Proofs.Ytkehohfgbblokaa
namespace Go.Proofs.Ytkehohfgbblokaa
open Go.Eng Go.Plain
set_option maxHeartbeats 32000000
set_option maxRecDepth 20000
structure ARel (n:Nat) (l:List HOp) (tk:List Bool) (ah:List HOp) (a d:VMap) (pre:List Int) (s:RS):Prop where
 tkl:tk.length=l.length
 tki:∀j,j<l.length→tk[j]?=some (pre.any fun y=>decide (y=(j:Int)))
 any:∀o,ah.any (befB o)=pre.any (befA l o)
 late:∀o,iu ah o=decide (s.era<o.era)
 ord:∀o:HOp,0≤o.era→ah.any (befB o)=false→s.era≤o.era
 av:∀j:Int,0≤j→j<n→getV a j=pgAt s.arr j
 dv:∀j:Int,0≤j→j<n→getV d j=pgAt s.dur j
 ok:RSOk n s
theorem qU (n:Nat) (j:Int):pgAt (List.replicate n zBk) j=zBk:=by
 unfold pgAt
 rw[List.getElem?_replicate]
 split <;> rfl
end Go.Proofs.Ytkehohfgbblokaa
namespace Go.Proofs.Ytkehohfgbblokaa
open Go.Eng Go.Plain
set_option maxHeartbeats 32000000
set_option maxRecDepth 20000
structure Sc (l:List HOp) (n e:Nat) (p:Prep) (ks:List Int) (kv:List (List UInt8)):Prop where
 F:fJ l n e p ks kv
 ll:l.length≤8192
 nl:n≤1000000
 el:e≤8200
 kr:∀k∈ks,0≤k∧k<n
section
variable {l : List HOp} {n e : Nat} {p : Prep} {ks : List Int} {kv : List (List UInt8)}
theorem Sc.of (F:fJ l n e (cV l n e) ks kv) (hl:l.length≤8192) (hn:n≤1000000) (he:e≤8200):Sc l n e (cV l n e) ks kv :=
 ⟨F,hl,hn,he,fun k hk=>by
  obtain⟨v,hv⟩:=nN ks 0 hk
  rw[←F.pl]at hv
  exact nt l n e _ hv⟩
theorem Sc.kvl (S:Sc l n e p ks kv):kv.length≤8193:=by have:=S.F.vl; have:=lT l (n:Int) e; have:=S.ll; omega
theorem Sc.val (S:Sc l n e p ks kv) {v:List UInt8} (h:v∈kv):∃j,kv[j]?=some v∧valN p.vs v=j∧j<8193:=by
 obtain⟨j,h1,_,h2⟩:=eo kv 0 h
 have hj:=(List.getElem?_eq_some_iff.1 h1).1
 have:=S.kvl
 refine⟨j,h1,?_,by omega⟩
 rw[valN,S.F.vs,h2,Option.getD_some]
 omega
theorem Sc.val_inj (S:Sc l n e p ks kv) {v w:List UInt8} (h1:v∈kv) (h2:w∈kv) (h:cZ (valN p.vs v)=cZ (valN p.vs w)):v=w:=by
 obtain⟨i,a1,a2,a3⟩:=S.val h1
 obtain⟨j,b1,b2,b3⟩:=S.val h2
 rw[a2,b2]at h
 have:=rA (by omega) (by omega) h
 subst this
 exact Option.some.inj (a1.symm.trans b1)
theorem Sc.z (S:Sc l n e p ks kv) {k:Int} (h0:0≤k) (h1:k<e):zOf p k=zs (mayI l n k.toNat):=by
 rw[zOf,S.F.opk _ (by omega)]; rfl
theorem Sc.zin (S:Sc l n e p ks kv) {k:Int} (h0:0≤k) (h1:k<e) {i:Int}:i∈zOf p k ↔ ∃(j:Nat) (o:HOp),i=j∧l[j]?=some o∧o.era=k∧mayB o n=true:=by
 rw[S.z h0 h1,zs,List.mem_map]
 constructor
 ·rintro⟨j,hj,rfl⟩
  obtain⟨o,a,b,c⟩:=cI.1 hj
  exact⟨j,o,rfl,a,by omega,c⟩
 ·rintro⟨j,o,rfl,a,b,c⟩
  exact⟨j,cI.2 ⟨o,a,by omega,c⟩,rfl⟩
theorem Sc.zsorted (S:Sc l n e p ks kv) {k:Int} (h0:0≤k) (h1:k<e):(zOf p k).Pairwise (· < ·):=by
 rw[S.z h0 h1]; exact sZ (kV _ l 0).1
structure AG (n:Nat) (ks:List Int) (kv:List (List UInt8)) (A:List (List UInt8)):Prop where
 al:A.length=n
 av:∀k∈ks,pgAt A k∈kv
 az:∀k:Int,0≤k→k ∉ ks→pgAt A k=zBk
theorem Sc.zk (S:Sc l n e p ks kv):zBk∈kv:=List.mem_of_getElem? S.F.vz
theorem Sc.agz (S:Sc l n e p ks kv):AG n ks kv (List.replicate n zBk):=
 ⟨List.length_replicate,fun k _=>by rw[qU]; exact S.zk,fun k _ _=>qU n k⟩
theorem qT {A:List (List UInt8)} {i k:Int} {v:List UInt8} (hi:0≤i) (hl:i<A.length) (hk:0≤k):pgAt (A.set i.toNat v) k=if k=i then v else pgAt A k:=by
 unfold pgAt
 by_cases h:k=i
 ·subst h
  rw[if_pos rfl,List.getElem?_set_self (by omega)]; rfl
 ·rw[if_neg h,List.getElem?_set_ne (by omega)]
theorem Sc.agset (S:Sc l n e p ks kv) {A:List (List UInt8)} (h:AG n ks kv A) {i:Int} {v:List UInt8} (hi:i∈ks) (hv:v∈kv):AG n ks kv (A.set i.toNat v):=by
 obtain⟨i0,i1⟩:=S.kr i hi
 have hl:i<A.length:=by rw[h.al]; exact i1
 refine⟨by rw[List.length_set]; exact h.al,fun k hk=>?_,fun k h0 hk=>?_⟩
 ·rw[qT i0 hl (S.kr k hk).1]
  split
  ·exact hv
  ·exact h.av k hk
 ·rw[qT i0 hl h0,if_neg (fun h2:k=i=>hk (h2 ▸ hi))]
  exact h.az k h0 hk
theorem n4 (vs:BMap) (A:List (List UInt8)) (k:Int):(cZ (valN vs (pgAt A k))).length=2:=rfl
theorem sT (vs:BMap) (ks:List Int) (A:List (List UInt8)):(arE vs ks A).length=2*ks.length:=vL (n4 vs A) ks
theorem Sc.arE_inj (S:Sc l n e p ks kv) {A B:List (List UInt8)} (hA:AG n ks kv A) (hB:AG n ks kv B) (h:arE p.vs ks A=arE p.vs ks B):A=B:=by
 have key:∀k:Int,0≤k→pgAt A k=pgAt B k:=fun k h0=>by
  by_cases hk:k∈ks
  ·exact S.val_inj (hA.av k hk) (hB.av k hk) (vM (n4 p.vs A) (n4 p.vs B) ks h k hk)
  ·rw[hA.az k h0 hk,hB.az k h0 hk]
 apply List.ext_getElem?
 intro j
 by_cases hj:j<n
 ·have:=key j (by omega)
  unfold pgAt at this
  rw[Int.toNat_natCast,List.getElem?_eq_getElem (by rw[hA.al]; exact hj),List.getElem?_eq_getElem (by rw[hB.al]; exact hj)]at this
  rw[List.getElem?_eq_getElem (by rw[hA.al]; exact hj),List.getElem?_eq_getElem (by rw[hB.al]; exact hj)]
  exact congrArg some this
 ·rw[List.getElem?_eq_none (by rw[hA.al]; omega),List.getElem?_eq_none (by rw[hB.al]; omega)]
structure RG (l:List HOp) (n e:Nat) (p:Prep) (ks:List Int) (kv:List (List UInt8)) (s:RS):Prop where
 ok:RSOk n s
 era:s.era<e
 tk:s.taken=(zOf p s.era).filter (hasB s.taken)
 ar:AG n ks kv s.arr
 du:AG n ks kv s.dur
theorem RG.tz {s:RS} (h:RG l n e p ks kv s) {i:Int} (hi:hasB s.taken i=true):i∈zOf p s.era:=by
 have:=vD.1 hi
 rw[h.tk]at this
 exact (List.mem_filter.1 this).1
theorem Sc.first (S:Sc l n e p ks kv) (he:0<e):RG l n e p ks kv (cM n):=
 ⟨.first n,by show (0:Int)<e; omega,by show[]=List.filter _ _; rw[List.filter_eq_nil_iff.2 (fun _ _=>by simp[cM])],S.agz,S.agz⟩
theorem RG.crash {s:RS} (h:RG l n e p ks kv s) (he:s.era+1<e) (h8:e≤8200):RG l n e p ks kv (fG s):=
 ⟨h.ok.crash (by omega),he,by show[]=List.filter _ _; rw[List.filter_eq_nil_iff.2 (fun _ _=>by simp[fG])],h.du,h.du⟩
theorem wx {z T U:List Int} (h:tkE z T=tkE z U):∀i∈z,hasB T i=hasB U i:=by
 intro i hi
 have:=List.map_inj_left.1 h i hi
 cases h1:hasB T i <;> cases h2:hasB U i <;> simp[h1,h2]at this <;> rfl
theorem Sc.enc_inj (S:Sc l n e p ks kv) {s t:RS} (hs:RG l n e p ks kv s) (ht:RG l n e p ks kv t) (h:encS p ks s=encS p ks t):s=t:=by
 have h1:=congrArg LSt.era h
 have h2:=congrArg LSt.taken h
 have h3:=S.arE_inj hs.ar ht.ar (congrArg LSt.array h)
 have h4:=S.arE_inj hs.du ht.du (congrArg LSt.durable h)
 simp only[encS]at h1 h2
 have h5:s.taken=t.taken:=by
  rw[hs.tk,ht.tk,←h1]
  rw[←h1]at h2
  exact List.filter_congr (wx h2)
 cases s; cases t
 simp only at h1 h3 h4 h5
 rw[h1,h3,h4,h5]
theorem rG (z:List Int):tkE z []=cE z.length:=by
 unfold tkE cE
 induction z with
 | nil=>rfl
 | cons a z ih=>rw[List.map_cons,ih,List.length_cons,List.replicate_succ]; rfl
theorem tT (s:RS):encS p ks (fG s)=⟨s.era+1,cE (zOf p (s.era+1)).length,(encS p ks s).durable,(encS p ks s).durable⟩:=by
 unfold encS fG
 simp only[rG]
theorem Sc.enc_first (S:Sc l n e p ks kv):encS p ks (cM n)=de p:=by
 obtain⟨j,h1,h2,_⟩:=S.val S.zk
 have hj:j=0:=by
  have h3:=S.F.vz
  exact (List.getElem?_inj (List.getElem?_eq_some_iff.1 h1).1 S.F.vnd).1 (h1.trans h3.symm)
 subst hj
 have ha:arE p.vs ks (List.replicate n zBk)=cE (2*p.pl.length):=by
  rw[S.F.pl,ey]
  have:∀ks:List Int,arE p.vs ks (List.replicate n zBk)=cE (2*ks.length):=by
   intro ks
   induction ks with
   | nil=>rfl
   | cons a ks ih =>
    unfold arE at ih ⊢
    rw[List.flatMap_cons,ih,qU,h2,List.length_cons,show 2*(ks.length+1)=2+2*ks.length by omega]
    unfold cE
    rw[←List.replicate_append_replicate]; rfl
  exact this ks
 unfold encS de
 simp only[cM,ha,rG]
theorem Sc.place (S:Sc l n e p ks kv) {i:Int} (h:i∈ks):∃j,ks[j]?=some i∧plN p.pl i=j:=by
 obtain⟨j,h1,_,h2⟩:=eo ks 0 h
 refine⟨j,h1,?_⟩
 rw[plN,S.F.pl,h2,Option.getD_some]
 omega
theorem Sc.ar_get (S:Sc l n e p ks kv) {i:Int} (h:i∈ks) (A:List (List UInt8)):((arE p.vs ks A).drop (2*plN p.pl i)).take 2=cZ (valN p.vs (pgAt A i)):=by
 obtain⟨j,h1,h2⟩:=S.place h
 have hlt:=(List.getElem?_eq_some_iff.1 h1).1
 rw[h2,arE,oR (n4 p.vs A),List.drop_eq_getElem_cons hlt,(List.getElem?_eq_some_iff.1 h1).2,List.flatMap_cons]
 exact List.take_left' rfl
theorem Sc.ar_set (S:Sc l n e p ks kv) {i:Int} (h:i∈ks) {A:List (List UInt8)} (hl:A.length=n) (v:List UInt8) :
  (arE p.vs ks A).take (2*plN p.pl i)++cZ (valN p.vs v)++(arE p.vs ks A).drop (2*plN p.pl i+2)=arE p.vs ks (A.set i.toNat v):=by
 obtain⟨j,h1,h2⟩:=S.place h
 obtain⟨i0,i1⟩:=S.kr i h
 have hlt:=(List.getElem?_eq_some_iff.1 h1).1
 have hn:=S.F.knd
 have hks:ks=ks.take j++i::ks.drop (j+1):=by
  have:=List.take_append_drop j ks
  rw[List.drop_eq_getElem_cons hlt,(List.getElem?_eq_some_iff.1 h1).2]at this
  exact this.symm
 have hni:i ∉ ks.take j∧i ∉ ks.drop (j+1):=by
  rw[hks,List.nodup_append,List.nodup_cons]at hn
  exact⟨fun h=>hn.2.2 i h i List.mem_cons_self rfl,hn.2.1.1⟩
 have hst:∀k:Int,0≤k→pgAt (A.set i.toNat v) k=if k=i then v else pgAt A k:=fun k hk=>qT i0 (by rw[hl]; exact i1) hk
 have hmem:∀k,(k∈ks.take j∨k∈ks.drop (j+1))→0≤k∧k≠i:=fun k hk=>by
  rcases hk with hk | hk
  ·exact⟨(S.kr k (List.mem_of_mem_take hk)).1,fun e=>hni.1 (e ▸ hk)⟩
  ·exact⟨(S.kr k (List.mem_of_mem_drop hk)).1,fun e=>hni.2 (e ▸ hk)⟩
 unfold arE
 rw[h2,show 2*j+2=2*(j+1) by omega,sA (n4 p.vs A),oR (n4 p.vs A)]
 conv=>rhs; rw[hks]
 rw[List.flatMap_append,List.flatMap_cons,hst i i0,if_pos rfl,List.append_assoc]
 congr 1
 ·exact mK _ fun k hk=>by
   obtain⟨a,b⟩:=hmem k (.inl hk)
   rw[hst k a,if_neg b]
 ·congr 1
  exact mK _ fun k hk=>by
   obtain⟨a,b⟩:=hmem k (.inr hk)
   rw[hst k a,if_neg b]
theorem Sc.hap (S:Sc l n e p ks kv) {s:RS} (h:RG l n e p ks kv s) {o:HOp} (hm:mayB o n=true) (hk:o.op.kind≠3→o.op.index∈ks∧numB o∈kv) :
  (hapS p (encS p ks s) o).2=(hapR s o).2∧(hapS p (encS p ks s) o).1=⟨s.era,tkE (zOf p s.era) s.taken,arE p.vs ks (hapR s o).1.arr,arE p.vs ks (hapR s o).1.dur⟩∧AG n ks kv (hapR s o).1.arr∧AG n ks kv (hapR s o).1.dur∧(hapR s o).1.era=s.era:=by
 have hkd:=(iZ hm).1
 unfold hapS hapR
 by_cases h3:o.op.kind=3
 ·rw[if_pos h3,if_neg (by omega),if_neg (by omega)]
  exact⟨rfl,rfl,h.ar,h.ar,rfl⟩
 obtain⟨k1,k2⟩:=hk h3
 rw[if_neg h3]
 by_cases h2:o.op.kind=2
 ·rw[if_pos h2,if_neg (by omega),if_pos h2]
  rw[numB,if_pos h2]at k2
  refine⟨rfl,?_,S.agset h.ar k1 k2,h.du,rfl⟩
  simp only[encS]
  rw[S.ar_set k1 h.ar.al]
 ·have h1:o.op.kind=1:=by omega
  rw[if_neg h2,if_pos h1]
  rw[numB,if_neg h2]at k2
  cases hmu:b4 o with
  | false =>
   rw[if_neg (by decide)]
   exact⟨rfl,rfl,h.ar,h.du,rfl⟩
  | true =>
   rw[if_pos rfl]
   refine⟨?_,rfl,h.ar,h.du,rfl⟩
   have hg:=S.ar_get k1 s.arr
   rw[Bool.not_true,Bool.false_or]
   by_cases he:pgAt s.arr o.op.index=o.value
   ·rw[dT he]
    exact dT (show ((arE p.vs ks s.arr).drop (2*plN p.pl o.op.index)).take 2=_ by rw[hg,he])
   ·rw[dF he]
    exact dF fun h':((arE p.vs ks s.arr).drop (2*plN p.pl o.op.index)).take 2=_=>he (S.val_inj (h.ar.av _ k1) k2 (hg ▸ h'))
end
end Go.Proofs.Ytkehohfgbblokaa
namespace Go.Proofs.Ytkehohfgbblokaa
open Go.Eng Go.Plain
set_option maxHeartbeats 32000000
set_option maxRecDepth 20000
section
variable {l : List HOp} {n e : Nat} {p : Prep} {ks : List Int} {kv : List (List UInt8)}
theorem qx {z T:List Int} {k:Nat} {i:Int} (h:z[k]?=some i):tkB (tkE z T) (k:Int)=hasB T i∧msB (tkE z T) (k:Int) = !hasB T i:=by
 have h1:(tkE z T)[k]?=some (if hasB T i then 1 else 0):=by rw[tkE,List.getElem?_map,h]; rfl
 unfold tkB msB
 rw[Int.toNat_natCast,h1,Option.getD_some]
 cases hasB T i <;> exact⟨rfl,rfl⟩
theorem pZ {s:RS} {o:HOp}:∀(l:List HOp) (k:Nat),hitL s o l k=true ↔ ∃(j:Nat) (q:HOp),l[j]?=some q∧hitB s o (k+j) q=true
 | [],k=>by simp[hitL]
 | a::l,k=>by
  rw[hitL,Bool.or_eq_true,pZ l (k+1)]
  constructor
  ·rintro (h | ⟨j,q,h1,h2⟩)
   ·exact⟨0,a,rfl,h⟩
   ·exact⟨j+1,q,by simpa using h1,by rw[show k+(j+1)=k+1+j by omega]; exact h2⟩
  ·rintro⟨j,q,h1,h2⟩
   cases j with
   | zero=>simp at h1; subst h1; exact .inl h2
   | succ j=>exact .inr ⟨j,q,by simpa using h1,by rw[show k+1+j=k+(j+1) by omega]; exact h2⟩
theorem ek {l:List HOp} {i:Nat} {o:HOp} (h:l[i]?=some o):opN l i=o:=by rw[opN,h]; rfl
theorem rZ {f:Nat→Bool} {M:List Nat} {z T:List Int} (hz:z=zs M) (g:List UInt8→Int→Bool) (b:Int→Bool) (hg:∀(k:Nat) (i:Int),z[k]?=some i→g (tkE z T) (k:Int)=b i) :
  (posN f M M.length).any (g (tkE z T))=true ↔ ∃m∈M,f m=true∧b (m:Int)=true:=by
 rw[List.any_eq_true]
 constructor
 ·rintro⟨j,h1,h2⟩
  obtain⟨k,rfl,h3,h4⟩:=(ik _).1 h1
  have hk:M[k]?=some M[k]:=List.getElem?_eq_getElem h3
  rw[hk,Option.getD_some]at h4
  rw[hg k (M[k]:Nat) (by rw[hz,zs,List.getElem?_map,hk]; rfl)]at h2
  exact⟨_,List.getElem_mem h3,h4,h2⟩
 ·rintro⟨m,hm,h1,h2⟩
  obtain⟨k,hk⟩:=List.mem_iff_getElem?.1 hm
  refine⟨(k:Int),(ik _).2 ⟨k,rfl,(List.getElem?_eq_some_iff.1 hk).1,by rw[hk]; exact h1⟩,?_⟩
  rw[hg k (m:Int) (by rw[hz,zs,List.getElem?_map,hk]; rfl)]
  exact h2
theorem Sc.skip (S:Sc l n e p ks kv) {s:RS} (h:RG l n e p ks kv s) {k i:Nat} {o:HOp} (hk:(zOf p s.era)[k]?=some (i:Int)) (ho:l[i]?=some o) (he:o.era=s.era) (hm:mayB o n=true) :
  takB s l i o = !jm p (encS p ks s) k i:=by
 have e0:=h.ok.e0
 have e1:=h.era
 obtain⟨E,hE⟩:∃E:Nat,s.era=E:=⟨s.era.toNat,by omega⟩
 have hz:zOf p s.era=zs (mayI l n E):=by rw[S.z e0 e1]; congr 2; omega
 have hEe:E<e:=by omega
 have hi:i∈mayI l n E:=cI.2 ⟨o,ho,by omega,hm⟩
 have hst:=S.F.st E hEe i hi
 have haf:=S.F.af E hEe i hi
 have hah:=S.F.ah E hEe i hi
 have ht:=qx (T:=s.taken) hk
 rw[ek ho]at hst
 have q1:((getA p.af (i:Int)).getD []).any (tkB (tkE (zOf p s.era) s.taken))=true ↔ ∃m∈mayI l n E,afB l i m=true∧hasB s.taken (m:Int)=true:=by
  rw[haf]
  exact rZ hz tkB (hasB s.taken) fun k i hk=>(qx hk).1
 have q2:((getA p.ah (i:Int)).getD []).any (msB (tkE (zOf p s.era) s.taken))=true ↔ ∃m∈mayI l n E,ahB l i m=true∧(!hasB s.taken (m:Int))=true:=by
  rw[hah]
  exact rZ hz msB (fun i => !hasB s.taken i) fun k i hk=>(qx hk).2
 have hL:hitL s o l 0=((getA p.st (i:Int)).getD false||(((getA p.af (i:Int)).getD []).any (tkB (tkE (zOf p s.era) s.taken))||((getA p.ah (i:Int)).getD []).any (msB (tkE (zOf p s.era) s.taken)))):=by
  rw[Bool.eq_iff_iff,Bool.or_eq_true,Bool.or_eq_true,q1,q2,hst,List.any_eq_true,pZ]
  simp only[Nat.zero_add]
  constructor
  ·rintro⟨j,q,h1,h2⟩
   unfold hitB at h2
   cases hj:hasB s.taken (j:Int) with
   | true =>
    rw[if_pos hj]at h2
    have hjz:=h.tz hj
    rw[hz,zs,List.mem_map]at hjz
    obtain⟨j',hj',ej⟩:=hjz
    have:j'=j:=by omega
    subst this
    exact .inr (.inl ⟨j',hj',by rw[afB,ek ho,ek h1]; exact h2,hj⟩)
   | false =>
    rw[if_neg (by have h':(s.taken.any fun y=>decide (y=(j:Int)))=false:=hj; rw[h']; decide),Bool.and_eq_true,Bool.and_eq_true,decide_eq_true_eq]at h2
    obtain⟨h3,h4,h5⟩:=h2
    cases hq:mayB q n with
    | true=>exact .inr (.inr ⟨j,cI.2 ⟨q,h1,by omega,hq⟩,by rw[ahB,ek ho,ek h1,h4,h5]; rfl,by rw[hj]; rfl⟩)
    | false=>exact .inl ⟨j,kk.2 ⟨q,h1,by omega,h4,hq⟩,by rw[ek h1]; exact h5⟩
  ·rintro (⟨j,hj,h1⟩ | ⟨j,hj,h1,h2⟩ | ⟨j,hj,h1,h2⟩)
   ·obtain⟨q,a,b,c,d⟩:=kk.1 hj
    refine⟨j,q,a,?_⟩
    rw[ek a]at h1
    have hnt:hasB s.taken (j:Int)=false:=by
     rw[Bool.eq_false_iff]
     intro hj2
     obtain⟨j',q',e1,e2,e3,e4⟩:=(S.zin e0 h.era).1 (h.tz hj2)
     have:j'=j:=by omega
     subst this
     rw[a]at e2; cases e2
     rw[d]at e4; cases e4
    rw[hitB,if_neg (by have h':(s.taken.any fun y=>decide (y=(j:Int)))=false:=hnt; rw[h']; decide),dT (by omega),c,h1]; rfl
   ·obtain⟨q,a,b,c⟩:=cI.1 hj
    rw[afB,ek ho,ek a]at h1
    exact⟨j,q,a,by rw[hitB,if_pos h2]; exact h1⟩
   ·obtain⟨q,a,b,c⟩:=cI.1 hj
    rw[ahB,ek ho,ek a,Bool.and_eq_true]at h1
    rw[Bool.not_eq_true']at h2
    exact⟨j,q,a,by rw[hitB,if_neg (by have h':(s.taken.any fun y=>decide (y=(j:Int)))=false:=h2; rw[h']; decide),dT (by omega),h1.1,h1.2]; rfl⟩
 rw[takB,dT he,h.ok.al,hm,hL,jm]
 show (true&&(true&&(!hasB s.taken (i:Int)&&_)))=_
 rw[←ht.1]
 simp only[encS]
 cases (getA p.st (i:Int)).getD false <;> cases tkB (tkE (zOf p s.era) s.taken) (k:Int) <;> rfl
theorem wy {z T:List Int} {k:Nat} {i:Int} (hn:z.Nodup) (h:z[k]?=some i):gn (tkE z T) k=tkE z (dG T i):=by
 have hlt:=(List.getElem?_eq_some_iff.1 h).1
 have hz:z=z.take k++i::z.drop (k+1):=by
  have:=List.take_append_drop k z
  rw[List.drop_eq_getElem_cons hlt,(List.getElem?_eq_some_iff.1 h).2]at this
  exact this.symm
 have hni:i ∉ z.take k∧i ∉ z.drop (k+1):=by
  rw[hz,List.nodup_append,List.nodup_cons]at hn
  exact⟨fun h=>hn.2.2 i h i List.mem_cons_self rfl,hn.2.1.1⟩
 unfold gn tkE
 rw[←List.map_take,←List.map_drop]
 conv=>rhs; rw[hz]
 rw[List.map_append,List.map_cons,kD,dT rfl,Bool.or_true,if_pos rfl,List.append_assoc]
 have hc:∀m,m≠i→hasB (dG T i) m=hasB T m:=fun m hm=>by rw[kD,dF fun e=>hm e.symm,Bool.or_false]
 congr 1
 ·exact List.map_congr_left fun m hm=>by rw[hc m fun e=>hni.1 (e ▸ hm)]
 ·show 1::_=1::_
  congr 1
  exact List.map_congr_left fun m hm=>by rw[hc m fun e=>hni.2 (e ▸ hm)]
theorem Sc.kin (S:Sc l n e p ks kv) {i:Nat} {o:HOp} (h0:0≤o.era) (h1:o.era<e) (ho:l[i]?=some o) (hm:mayB o n=true):o.op.kind≠3→o.op.index∈ks∧numB o∈kv:=by
 have:=S.F.kin o.era.toNat (by omega) i (cI.2 ⟨o,ho,by omega,hm⟩)
 rwa [ek ho]at this
theorem Sc.take (S:Sc l n e p ks kv) {s:RS} (h:RG l n e p ks kv s) {k i:Nat} {o:HOp} (hk:(zOf p s.era)[k]?=some (i:Int)) (ho:l[i]?=some o) (he:o.era=s.era) (hm:mayB o n=true) (ht:takB s l i o=true) :
  (dY s l i o).2=(hapS p (encS p ks s) o).2∧encS p ks (dY s l i o).1 = { (hapS p (encS p ks s) o).1 with taken:=gn (encS p ks s).taken k }∧RG l n e p ks kv (dY s l i o).1:=by
 have e0:=h.ok.e0
 have e1:=h.era
 obtain⟨q1,q2,q3,q4,q5⟩:=S.hap h hm (S.kin (by omega) (by omega) ho hm)
 have hs:=S.zsorted e0 e1
 have hnt:hasB s.taken (i:Int)=false:=by
  unfold takB at ht
  simp only[Bool.and_eq_true,Bool.not_eq_true']at ht
  exact ht.2.2.1
 have hap:=(h.ok.hap (by have:=S.nl; omega) hm).2
 rw[dY,if_pos ht]
 refine⟨q1.symm,?_,⟨⟨hap.al,hap.dl,hap.ap,hap.dp,hap.e0,hap.e1⟩,by show (hapR s o).1.era<_; rw[q5]; exact e1,?_,q3,q4⟩⟩
 ·rw[q2]
  simp only[encS,q5]
  rw[wy (hs.imp fun h=>by omega) hk]
 ·show dG s.taken i=(zOf p (hapR s o).1.era).filter (hasB (dG s.taken i))
  rw[q5]
  have h2:((zOf p s.era).filter (hasB (dG s.taken i)))=(zOf p s.era).filter fun j=>hasB s.taken j||decide ((i:Int)=j):=List.filter_congr fun x _=>kD _ _ _
  rw[h2,←kR (hasB s.taken) i _ hs (List.mem_of_getElem? hk) hnt,←h.tk]
theorem Sc.full (S:Sc l n e p ks kv) {s:RS} (h:RG l n e p ks kv s):jq l p.lo (zOf p s.era) (encS p ks s)=eh s l 0:=by
 have e0:=h.ok.e0
 have e1:=h.era
 obtain⟨E,hE⟩:∃E:Nat,s.era=E:=⟨s.era.toNat,by omega⟩
 have hR:∀(l:List HOp) (k:Nat),eh s l k=true ↔ ∀(j:Nat) (q:HOp),l[j]?=some q→q.era=s.era→b4 q=true→hasB s.taken ((k+j:Nat):Int)=true:=by
  intro l
  induction l with
  | nil=>intro k; simp[eh]
  | cons a l ih =>
   intro k
   rw[eh,Bool.and_eq_true,ih]
   constructor
   ·rintro⟨h1,h2⟩ j q hj hq hm
    cases j with
    | zero =>
     simp at hj; subst hj
     rw[hm,dT hq]at h1
     simpa using h1
    | succ j=>rw[show k+(j+1)=k+1+j by omega]; exact h2 j q (by simpa using hj) hq hm
   ·intro h1
    refine⟨?_,fun j q hj hq hm=>by rw[show k+1+j=k+(j+1) by omega]; exact h1 (j+1) q (by simpa using hj) hq hm⟩
    cases ha:decide (a.era=s.era) with
    | false=>rfl
    | true =>
     cases hb:b4 a with
     | false=>rfl
     | true =>
      have:=h1 0 a rfl (of_decide_eq_true ha) hb
      rw[Nat.add_zero]at this
      have h2:s.taken.any (fun y=>decide (y=(k:Int)))=true:=this
      rw[h2]; rfl
 have hG:∀(z:List Int),jr l z (tkE z s.taken)=true ↔ ∀i∈z,b4 (opN l i.toNat)=true→hasB s.taken i=true:=by
  intro z
  induction z with
  | nil=>simp[jr,tkE]
  | cons a z ih =>
   show jr l (a::z) ((if hasB s.taken a then 1 else 0)::tkE z s.taken)=true↔_
   rw[jr]
   cases hb:b4 (opN l a.toNat) with
   | false =>
    rw[Bool.false_and,if_neg (by decide),ih]
    simp only[List.mem_cons,forall_eq_or_imp,hb]
    simp
   | true =>
    cases ht:hasB s.taken a with
    | true =>
     have h1:(true&&decide ((((if (true:Bool)=true then 1 else 0:UInt8)).toNat:Int)=0))=false:=rfl
     rw[h1,if_neg (by decide),ih]
     simp only[List.mem_cons,forall_eq_or_imp,ht]
     simp
    | false =>
     have h1:(true&&decide ((((if (false:Bool)=true then 1 else 0:UInt8)).toNat:Int)=0))=true:=rfl
     rw[h1,if_pos rfl]
     simp only[List.mem_cons,forall_eq_or_imp,hb,ht]
     simp
 rw[Bool.eq_iff_iff,hR]
 have hlo:=S.F.lo E
 simp only[Nat.zero_add]
 unfold jq
 have hx:(encS p ks s).era=(E:Int):=hE
 rw[hx,hlo,dT (by omega),Bool.true_and]
 have hb0:(badI l n E).isEmpty=true ↔ ∀(j:Nat) (q:HOp),l[j]?=some q→q.era=s.era→b4 q=true→mayB q n=true:=by
  rw[List.isEmpty_iff]
  constructor
  ·intro h0 j q hj hq hm
   cases hq2:mayB q n with
   | true=>rfl
   | false =>
    have:j∈badI l n E:=kk.2 ⟨q,hj,by omega,hm,hq2⟩
    rw[h0]at this; cases this
  ·intro h0
   rw[List.eq_nil_iff_forall_not_mem]
   intro j hj
   obtain⟨q,a,b,c,d⟩:=kk.1 hj
   rw[h0 j q a (by omega) c]at d
   cases d
 constructor
 ·intro h1 j q hj hq hm
  split at h1
  ·cases h1
  ·rename_i h2
   simp only[Bool.not_eq_true',Bool.not_eq_false']at h2
   have h2:(badI l n E).isEmpty=true:=by simpa using h2
   have hmay:=hb0.1 h2 j q hj hq hm
   refine (hG (zOf p s.era)).1 h1 j ((S.zin e0 e1).2 ⟨j,q,rfl,hj,hq,hmay⟩) ?_
   rw[Int.toNat_natCast,ek hj]; exact hm
 ·intro h1
  have h2:(badI l n E).isEmpty=true:=hb0.2 fun j q hj hq hm=>by
   obtain⟨j',q',a,b,c,d⟩:=(S.zin e0 e1).1 (h.tz (h1 j q hj hq hm))
   have:j'=j:=by omega
   subst this
   rw[hj]at b; cases b
   exact d
  rw[h2,if_neg (by decide)]
  refine (hG (zOf p s.era)).2 fun i hi hm=>?_
  obtain⟨j,q,rfl,b,c,d⟩:=(S.zin e0 e1).1 hi
  rw[Int.toNat_natCast,ek b]at hm
  exact h1 j q b c hm
end
end Go.Proofs.Ytkehohfgbblokaa
namespace Go.Proofs.Ytkehohfgbblokaa
open Go.Eng Go.Plain
set_option maxHeartbeats 32000000
set_option maxRecDepth 20000
section
variable {l : List HOp} {n e : Nat} {p : Prep} {ks : List Int} {kv : List (List UInt8)}
theorem Sc.sok (S:Sc l n e p ks kv) {s:RS} (h:RG l n e p ks kv s):SOk p e (encS p ks s):=
 ⟨⟨h.ok.e0,h.era⟩,by simp[encS,tkE],by show (arE _ _ _).length=_; rw[sT,S.F.pl,ey],by show (arE _ _ _).length=_; rw[sT,S.F.pl,ey]⟩
structure Sim (l:List HOp) (n e:Nat) (p:Prep) (ks:List Int) (kv:List (List UInt8)) (L:List RS) (q:QS):Prop where
 map:q.2=L.map (encS p ks)
 ok:QOk p e q
 all:∀s∈L,RG l n e p ks kv s
theorem Sim.len {L:List RS} {q:QS} (M:Sim l n e p ks kv L q):q.2.length=L.length:=by rw[M.map,List.length_map]
theorem Sim.get {L:List RS} {q:QS} (M:Sim l n e p ks kv L q) {k:Nat} {s:RS} (h:L[k]?=some s):q.2[k]?=some (encS p ks s):=by rw[M.map,List.getElem?_map,h]; rfl
theorem ng {a b:RS}:gq a b=true↔a=b:=by
 cases a; cases b
 simp[gq]
theorem Sim.add (S:Sc l n e p ks kv) {L:List RS} {q:QS} (M:Sim l n e p ks kv L q) {t:RS} (ht:RG l n e p ks kv t):Sim l n e p ks kv (rAdd L t) (addS q (encS p ks t)).1:=by
 obtain⟨a1,a2,a3,a4⟩:=lK M.ok (S.sok ht)
 by_cases hm:t∈L
 ·have h1:rAdd L t=L:=by
   rw[rAdd,if_pos]
   exact List.any_eq_true.2 ⟨t,hm,ng.2 rfl⟩
  obtain⟨k,hk⟩:=List.mem_iff_getElem?.1 hm
  have h2:(addS q (encS p ks t)).1=q:=by
   unfold addS
   rw[M.ok.uq k _ (M.get hk)]
  rw[h1,h2]
  exact M
 ·have h1:rAdd L t=L++[t]:=by
   rw[rAdd,if_neg]
   intro h
   obtain⟨x,hx,hs⟩:=List.any_eq_true.1 h
   exact hm (ng.1 hs ▸ hx)
  have h2:(addS q (encS p ks t)).1.2=q.2++[encS p ks t]:=by
   unfold addS
   cases hg:getA q.1 (encS p ks t) with
   | none=>rfl
   | some v =>
    have h3:=(M.ok.kn _ _ hg).2
    rw[M.map,List.getElem?_map]at h3
    cases hx:L[v.toNat]? with
    | none=>rw[hx]at h3; cases h3
    | some x =>
     rw[hx]at h3
     have h4:=S.enc_inj (M.all x (List.mem_of_getElem? hx)) ht (Option.some.inj h3)
     exact absurd (h4 ▸ List.mem_of_getElem? hx) hm
  refine⟨by rw[h1,h2,M.map,List.map_append]; rfl,a1,?_⟩
  rw[h1]
  intro s hs
  rcases List.mem_append.1 hs with hs | hs
  ·exact M.all s hs
  ·rw[List.mem_singleton.1 hs]; exact ht
theorem tg (s:RS) (l:List HOp) (i:Nat) (o:HOp) (L:List RS):L.length≤(jS s l i o L).length:=by
 unfold jS
 split
 ·exact (jT _ _).1
 ·exact Nat.le_refl _
theorem np {most:Nat} (l:List HOp) (s:RS):∀(r:List HOp) (i:Nat) (L:List RS),L.length≤(fb most l s r i L).length
 | [],_,_=>Nat.le_refl _
 | o::r,i,L=>by
  rw[fb]
  split
  ·exact Nat.le_trans (tg s l i o L) (np l s r (i+1) _)
  ·exact Nat.le_refl _
theorem py (l:List HOp) (e:Int) (s:RS) (L:List RS):L.length≤(rCra l e s L).length:=by
 unfold rCra
 split
 ·exact (jT _ _).1
 ·exact Nat.le_refl _
theorem nq {most:Nat} (l:List HOp) (e:Int) (s:RS) (L:List RS):L.length≤(mc most l e s L).length:=Nat.le_trans (np l s l 0 L) (py l e s _)
theorem px {most:Nat} (l:List HOp) (e:Int):∀(m k:Nat) (L:List RS),L.length≤(rStG most l e m k L).length
 | 0,_,_=>Nat.le_refl _
 | m+1,k,L=>by
  rw[rStG]
  split
  ·exact Nat.le_refl _
  ·split
   ·exact Nat.le_trans (nq l e _ L) (px l e m (k+1) _)
   ·exact Nat.le_refl _
theorem rI {s:RS} {l:List HOp} {i:Nat} {o:HOp} (h:takB s l i o=false):dY s l i o=(s,false):=by rw[dY,h]; rfl
theorem Sc.ops (S:Sc l n e p ks kv) {most:Nat} {s:RS} (h:RG l n e p ks kv s):∀(r:List HOp) (i k:Nat) (L:List RS) (a:QS×List aR),l.drop i=r→(zOf p s.era).drop k=zs (selI (eraB s.era.toNat (fun o=>mayB o n)) r i)→Sim l n e p ks kv L a.1 →
  (fb most l s r i L).length≤most→Sim l n e p ks kv (fb most l s r i L) (ff p l (encS p ks s) (zs (selI (eraB s.era.toNat (fun o=>mayB o n)) r i)) k a).1
 | [],i,k,L,a,_,_,M,_=>M
 | o::r,i,k,L,a,hr,hz,M,hle=>by
  have e0:=h.ok.e0
  have hLm:L.length≤most:=by
   by_cases hc:L.length≤most
   ·exact hc
   ·rw[fb,if_neg hc]at hle; exact hle
  have ho:l[i]?=some o:=by
   have:=congrArg (fun x=>x[0]?) hr
   simpa using this
  have hr2:l.drop (i+1)=r:=by
   have:=congrArg List.tail hr
   simpa using this
  rw[fb,if_pos hLm]at hle ⊢
  cases hP:eraB s.era.toNat (fun o=>mayB o n) o with
  | false =>
   have h1:jS s l i o L=L:=by
    have:takB s l i o=false:=by
     rw[eraB,Bool.and_eq_false_iff]at hP
     unfold takB
     rw[h.ok.al]
     rcases hP with hP | hP
     ·rw[dF (by have:=of_decide_eq_false hP; omega)]; rfl
     ·rw[hP]; simp
    rw[jS,rI this]; exact if_neg Bool.false_ne_true
   have hs:selI (eraB s.era.toNat (fun o=>mayB o n)) (o::r) i=selI (eraB s.era.toNat (fun o=>mayB o n)) r (i+1):=by rw[selI,if_neg (by rw[hP]; decide)]
   rw[hs]at hz ⊢
   rw[h1]at hle ⊢
   exact S.ops h r (i+1) k L a hr2 hz M hle
  | true =>
   have hs:selI (eraB s.era.toNat (fun o=>mayB o n)) (o::r) i=i::selI (eraB s.era.toNat (fun o=>mayB o n)) r (i+1):=by rw[selI,if_pos hP]
   rw[hs]at hz ⊢
   rw[eraB,Bool.and_eq_true,decide_eq_true_eq]at hP
   have he:o.era=s.era:=by omega
   have hk:(zOf p s.era)[k]?=some (i:Int):=by
    have:=congrArg (fun x=>x[0]?) hz
    simpa[zs]using this
   have hz2:(zOf p s.era).drop (k+1)=zs (selI (eraB s.era.toNat (fun o=>mayB o n)) r (i+1)):=by
    have:=congrArg List.tail hz
    simpa[zs]using this
   have hsk:=S.skip h hk ho he hP.2
   show Sim l n e p ks kv _ (ff p l (encS p ks s) ((i:Int)::zs (selI (eraB s.era.toNat (fun o=>mayB o n)) r (i+1))) k a).1
   rw[ff]
   refine S.ops h r (i+1) (k+1) _ _ hr2 hz2 ?_ hle
   unfold opS jS
   rw[Int.toNat_natCast,ek ho]
   cases ht:takB s l i o with
   | false =>
    rw[ht]at hsk
    have hsk:jm p (encS p ks s) k i=true:=by simpa using hsk.symm
    rw[if_pos hsk,rI ht]
    exact M
   | true =>
    rw[ht]at hsk
    have hsk:jm p (encS p ks s) k i=false:=by simpa using hsk.symm
    obtain⟨t1,t2,t3⟩:=S.take h hk ho he hP.2 ht
    rw[if_neg (c:=jm p (encS p ks s) k (i:Int)=true) (by rw[hsk]; decide),←t2,←t1]
    cases (dY s l i o).2 with
    | true=>exact M.add S t3
    | false=>exact M
theorem Sc.next (S:Sc l n e p ks kv) {most:Nat} {s:RS} (h:RG l n e p ks kv s) {L:List RS} {q:QS} (M:Sim l n e p ks kv L q) (hle:(mc most l e s L).length≤most) :
  Sim l n e p ks kv (mc most l e s L) (cG p l e (encS p ks s) q).1:=by
 have e0:=h.ok.e0
 have hz:zOf p s.era=zs (mayI l n s.era.toNat):=S.z e0 h.era
 have h1:(fb most l s l 0 L).length≤most:=Nat.le_trans (py l e s _) hle
 have h2:=S.ops h l 0 0 L (q,[]) (by simp) (by rw[List.drop_zero,hz]; rfl) M h1
 have hx:zOf p (encS p ks s).era=zs (selI (eraB s.era.toNat (fun o=>mayB o n)) l 0):=hz
 unfold mc cG mp rCra
 rw[hx,←show zOf p s.era=zs (selI (eraB s.era.toNat (fun o=>mayB o n)) l 0) from hz,S.full h,show zOf p s.era=zs (selI (eraB s.era.toNat (fun o=>mayB o n)) l 0) from hz]
 have hd:decide ((encS p ks s).era+1<(e:Int))=decide (s.era<(e:Int)-1):=by
  show decide (s.era+1<(e:Int))=_
  by_cases hc:s.era+1<(e:Int)
  ·rw[dT hc,dT (by omega)]
  ·rw[dF hc,dF (by omega)]
 rw[hd]
 cases hc:decide (s.era<(e:Int)-1) with
 | false =>
  exact h2
 | true =>
  rw[Bool.true_and]
  cases eh s l 0 with
  | true =>
   have hc:=of_decide_eq_true hc
   have h3:=h2.add S (h.crash (by omega) S.el)
   rw[tT]at h3
   exact h3
  | false=>exact h2
theorem Sc.srch (S:Sc l n e p ks kv) {most:Nat} {fuel:Int} (h0:0≤fuel) (R:List RS) (hR:R.length≤most):∀(N k:Nat) (L:List RS) (q:QS) (sp:List (List aR)) (M:Nat),rStG most l e N k L=R→most+2≤N+k→Sim l n e p ks kv L q→k≤L.length→fuel.toNat+2≤M+k →
  (fuel<(R.length:Int)→fp p l e fuel M k q sp=none)∧((R.length:Int)≤fuel→∃q' sp',fp p l e fuel M k q sp=some (q',sp')∧Sim l n e p ks kv R q')
 | 0,k,L,q,sp,M,hN,h1,_,hk,_=>by
  rw[rStG]at hN
  subst hN
  omega
 | N+1,k,L,q,sp,M,hN,h1,hS,hk,hM=>by
  rw[rStG]at hN
  cases hL:L[k]? with
  | none =>
   rw[hL]at hN
   simp only at hN
   subst hN
   have hq:q.2[k]?=none:=by rw[hS.map,List.getElem?_map,hL]; rfl
   have hkl:=List.getElem?_eq_none_iff.1 hL
   cases M with
   | zero=>exact⟨fun _=>rfl,fun h=>by omega⟩
   | succ M =>
    rw[fp,hq]
    simp only
    rw[hS.len]
    refine⟨fun h=>by rw[if_pos h],fun h=>⟨q,sp,by rw[if_neg (by omega)],hS⟩⟩
  | some s =>
   rw[hL]at hN
   simp only at hN
   have hlt:=(List.getElem?_eq_some_iff.1 hL).1
   by_cases hLm:L.length≤most
   ·rw[if_pos hLm]at hN
    have h2:(mc most l e s L).length≤R.length:=hN ▸ px l e N (k+1) _
    have h3:=nq (most:=most) l e s L
    have hs:=hS.all s (List.mem_of_getElem? hL)
    have hq:=hS.get hL
    cases M with
    | zero=>exact⟨fun _=>rfl,fun h=>by omega⟩
    | succ M =>
     rw[fp,hq]
     simp only
     rw[hS.len]
     by_cases hf:fuel<(L.length:Int)
     ·rw[if_pos hf]
      exact⟨fun _=>rfl,fun h=>by omega⟩
     ·rw[if_neg hf]
      exact S.srch h0 R hR N (k+1) _ _ _ M hN (by omega) (S.next hs hS (by omega)) (by omega) (by omega)
   ·rw[if_neg hLm]at hN
    subst hN
    exact absurd hR hLm
theorem Sc.states (S:Sc l n e p ks kv) {most:Nat} (he:0<e) (hR:(eF most l n e).length≤most) {fuel:Int} (h0:0≤fuel) :
  (fuel<((eF most l n e).length:Int)→lW p l e fuel=none)∧(((eF most l n e).length:Int)≤fuel→∃q sp,lW p l e fuel=some (q,sp)∧Sim l n e p ks kv (eF most l n e) q):=by
 have h1:Sim l n e p ks kv [] ([],[]):=⟨rfl,⟨fun _ h=>(by cases h),fun _ _ h=>(by cases h),fun _ _ h=>(by simp at h)⟩,fun _ h=>(by cases h)⟩
 have h2:=h1.add S (S.first he)
 rw[S.enc_first]at h2
 have h3:rAdd [] (cM n)=[cM n]:=rfl
 rw[h3]at h2
 exact S.srch h0 _ hR (most+2) 0 [cM n] _ [] _ rfl (by omega) h2 (by simp) (by omega)
end
end Go.Proofs.Ytkehohfgbblokaa
namespace Go.Proofs.Ytkehohfgbblokaa
open Go.Eng Go.Plain
set_option maxHeartbeats 32000000
set_option maxRecDepth 20000
attribute [local irreducible] WC RegS RegD SeqQ BlkQ ScoQ RegK CutK Sat SatN FnIs LoopQ ao OpIs
abbrev stR (L:List RS):Row :=.ds 100 4 false cz L
theorem anyD {α:Type} (p:α→Bool) {l:List α} {k:Nat} {x:α} (h:l[k]?=some x):(l.drop k).any p=(p x||(l.drop (k+1)).any p):=by
 have hlt:=(List.getElem?_eq_some_iff.1 h).1
 rw[List.drop_eq_getElem_cons hlt,(List.getElem?_eq_some_iff.1 h).2,List.any_cons]
theorem rY (L:List RS) (t:RS) (n:Nat) (hL:LOk n L) (ht:RSOk n t) (htk:t.taken.length≤1000000) (hn:n≤1000000) (hl:L.length+1≤1048576):FnIs Try.prog 54 [.own 9 0 L.length 4 none,.d (cz t)] [(9,stR L)] (.own 64 0 (rAdd L t).length 4 none) [(64,stR (rAdd L t))]:=by
 refine aE aa Try.func54 rfl rfl rfl ?_;refine sR<|rN ?_;refine rC<|zW ?_;refine rC<|zP ?_
 refine wc_inv (fun k:Nat=>⟨[(5,.int .i64 k),(3,.ptr 64 []),(0,.own 9 0 L.length 4 none)],[(9,some (stR L)),(64,some (l4 t))],72,Try.f54.ntmps,64⟩) (fun k=>k≤L.length∧(L.drop k).any (fun x=>gq x t)=L.any (fun x=>gq x t)) (fun k=>L.length-k) 0 [(64,some 64)] ⟨Nat.zero_le _,rfl⟩
  (lg zj ⟨zR,zR,trivial⟩) ?_
 rintro k ⟨hk,hd⟩
 refine bL ?_
 by_cases hlt:k<L.length
 ·have d1:decide ((k:Int)<(L.length:Int))=true:=dT (by omega)
  obtain⟨x,hx⟩:∃x,L[k]?=some x:=⟨_,List.getElem?_eq_getElem hlt⟩
  have hx2:L[((k:Int)).toNat]?=some x:=by rw[Int.toNat_natCast]; exact hx
  have ho:=hL.ok k x hx
  have hsa:=uD x t n ho.al ht.al ho.dl ht.dl (by omega) (by have:=hL.tk k x hx; omega) (by omega)
  rw[anyD _ hx]at hd
  refine qR<|zD ?_;refine rQ (bw aa rfl rfl) ?_;refine rC ?_;refine zI<|zQ<|br<|aT ?_;refine aC (by kernel_rfl) ?_;refine dC [0] [] ?_;refine dC [5] [] ?_;refine dQ [12,13] [] (aM aa rfl rfl rfl rfl rfl (by omega) (by omega)) ?_;refine dQ [14] [9] (aV (v :=.d (cz x)) aa rfl rfl ⟨rfl,x,hx2,cz x,rfl,rfl⟩ rfl) ?_;refine dQ [3] [64] iM ?_;refine dQ [15,16] [] (ay hsa rfl rfl (ak (ak aj)) (.inl rfl) (fun _=>rfl)) ?_;refine dC [17] [] ?_;refine am (by kernel_rfl)<|aH ?_
  cases h2:gq x t with
  | true =>
   rw[h2,Bool.true_or]at hd
   rw[h2]at hsa
   rw[rAdd,if_pos hd.symm]
   refine wV<|sR ?_;refine zD<|zT<|zB<|co<|zB ?_
   exact⟨trivial,[(64,some 9)],lg zV ⟨zR,trivial⟩⟩
  | false =>
   rw[h2,Bool.false_or]at hd
   rw[h2]at hsa
   refine wG<|aN<|zC<|ai ?_;refine rC ?_;refine rQ iD ?_;refine rC<|au ?_
   exact aJ (k+1) [(64,some 64)] ⟨hlt,hd⟩ (by omega) (lg zj ⟨zR,zR,trivial⟩)
 ·have d1:decide ((k:Int)<(L.length:Int))=false:=dF (by omega)
  rw[List.drop_eq_nil_of_le (by omega),List.any_nil]at hd
  rw[rAdd,if_neg (by rw[←hd]; decide)]
  refine qR<|zD ?_;refine rQ (bw aa rfl rfl) ?_;refine rC ?_;refine zG<|zX<|sR ?_;refine rC ?_;refine rQ iM ?_;refine aU (aD (s:=4) aa rfl rfl rfl rfl rfl rfl rfl rfl) rfl ?_;refine aO (aP (s:=4) (enc:=cz) (xs:=L) aa t rfl rfl rfl rfl rfl rfl rfl rfl rfl hl rfl) rfl ?_;refine rC<|zT ?_
  exact⟨trivial,[(64,some _)],lg ⟨⟨_,rfl,ownl (by simp)⟩,rfl,trivial⟩ ⟨zR,trivial⟩⟩
theorem wI {t:TypeId} {s:Nat} {ex:Bool} {α:Type} {enc:α→D} {xs:List α}:aQ (.ds t s ex enc xs) (.ds t s false enc xs):=by
 intro σ w X r h
 rcases h with h | ⟨b,c,cur,h1,_,h3⟩
 ·exact .inl h
 ·exact .inr ⟨b,c,cur,h1,(fun h=>by cases h),h3⟩
theorem tN {n:Nat}:aQ (.lits 100 4 1 true (.acons (.d (cz (cM n))) .anil)) (stR [cM n]):=fun σ w X r h=>wI σ w X r (aQ.lits_ds (xs:=[cM n]) (enc:=cz) (fun _=>rfl) rfl σ w X r h)
theorem uS {most:Nat} {l:List HOp} {s:RS} {i:Nat} {L:List RS} (h:¬(i<l.length∧L.length≤most)):fb most l s (l.drop i) i L=L:=by
 by_cases h1:i<l.length
 ·exact qQ _ (fun h2=>h ⟨h1,h2⟩)
 ·rw[List.drop_eq_nil_of_le (by omega)]; rfl
theorem pn (h:List HEv) (n most:Nat) (l:List HOp) (hop:FnIs Try.prog 26 [.d (encH h)] [] (.d (dD l)) []) (hL:l.length≤1000000) (hn:n≤1000000) (hm:most≤900000) (hh:h.length≤100000):FnIs Try.prog 20 [.d (encH h),.int .i64 n,.int .i64 most] [] (.own 64 0 (eF most l n (bT h)).length 4 none) [(64,stR (eF most l n (bT h)))]:=by
 have hfi:=s9 n (by omega)
 have her:=uL h (by omega)
 have hel:bT h≤100001:=by have:=List.countP_le_length (p:=fun x:HEv=>decide (x.kind=3)) (l:=h); unfold bT; omega
 refine aE aa Try.func20 rfl rfl rfl ?_;refine sR<|rC<|nR ?_;refine rC ?_;refine rQ (ay hop rfl rfl (ak aj) (.inl rfl) (fun _=>rfl)) ?_;refine rC<|nR ?_;refine rC ?_;refine rQ (ay hfi rfl rfl (ak aj) (.inl rfl) (fun _=>rfl)) ?_;refine aU (aD (s:=4) aa rfl rfl rfl rfl rfl rfl rfl rfl) rfl ?_;refine rC<|zW ?_;refine rC<|zP ?_
 refine wc_inv (fun q:Nat×List RS=>⟨[(9,.int .i64 q.1),(8,.own 65 0 q.2.length 4 none),(7,.d (dD l)),(2,.int .i64 most),(1,.int .i64 n),(0,.d (encH h))],[(65,some (stR q.2))],72,Try.f20.ntmps,64⟩) (fun q=>q.1≤q.2.length∧q.1≤most+1∧LOk n q.2∧q.2.length≤most+2∧rStG most l (bT h) (most+2-q.1) q.1 q.2=eF most l n (bT h)) (fun q=>most+2-q.1) (0,[cM n]) [(65,some _)] ⟨Nat.zero_le _,Nat.zero_le _,⟨fun j s hj=>by
   rcases j with _ | j
   ·cases hj; exact .first n
   ·simp at hj,fun j s hj=>by
   rcases j with _ | j
   ·cases hj; exact Nat.zero_le _
   ·simp at hj⟩,by simp only[List.length_cons,List.length_nil]; omega,rfl⟩
  (lg zg ⟨⟨rfl,rfl,_,rfl,tN⟩,trivial⟩) ?_
 rintro⟨k,L⟩ ⟨hk,hkm,hok,hlm,hg⟩
 simp only at hk hkm hok hlm hg
 obtain⟨m,hm2⟩:∃m,most+2-k=m+1:=⟨most+1-k,by omega⟩
 rw[hm2,rStG]at hg
 refine bL ?_
 by_cases hlt:k<L.length∧L.length≤most
 ·obtain⟨h1,h2⟩:=hlt
  have c1:(decide ((k:Int)<(L.length:Int))&&decide ((L.length:Int)≤(most:Int)))=true:=by rw[dT (by omega),dT (by omega)]; rfl
  obtain⟨s,hs⟩:∃x,L[k]?=some x:=⟨_,List.getElem?_eq_getElem h1⟩
  rw[hs]at hg
  simp only at hg
  rw[if_pos h2,mc]at hg
  have hso:=hok.ok k s hs
  have hst:=hok.tk k s hs
  refine aT ?_;refine gG 27 (.bool (decide ((k:Int)<(L.length:Int))&&decide ((L.length:Int)≤(most:Int)))) _ rfl ?_ ?_
  ·refine zD ?_;refine rQ (bw aa rfl rfl) ?_;refine zD ?_
   refine iQ rfl rfl rfl (fun hb=>?_) (fun hb=>?_)
   refine rO ?_;refine rC ?_;refine rO ?_;refine rQ (bw aa rfl rfl) ?_;refine rO ?_;refine rC ?_;refine rO ?_;refine rC ?_;refine rQ iT ?_
   rotate_left
   iterate 4 refine rS ?_
   refine rQ iF ?_
   rotate_left
   all_goals refine lD 10 rfl rfl rfl rfl rfl rfl rfl rfl rfl (AVLe.of_eq ?_)
   all_goals (first | rfl | (clear q5; simp_all; done) | (simp_all; done) | (simp_all; omega))
  refine wT<|zQ<|br<|qR ?_;refine rC<|zP ?_
  refine wc_inv (fun q:Nat×List RS=>⟨[(10,.int .i64 q.1),(9,.int .i64 k),(8,.own 65 0 q.2.length 4 none),(7,.d (dD l)),(2,.int .i64 most),(1,.int .i64 n),(0,.d (encH h))],[(65,some (stR q.2))],72,Try.f20.ntmps,64⟩) (fun q=>q.1≤l.length∧LOk n q.2∧q.2.length≤most+1∧q.2[k]?=some s∧fb most l s (l.drop q.1) q.1 q.2=fb most l s l 0 L) (fun q=>l.length-q.1) (0,L) [(65,some 65)] ⟨Nat.zero_le _,hok,by simp only; omega,hs,rfl⟩
   (lg zf ⟨zR,trivial⟩) ?_
  rintro⟨i,L2⟩ ⟨hi,hok2,hlm2,hs1,hg2⟩
  simp only at hi hok2 hlm2 hs1 hg2
  have hkl2:=(List.getElem?_eq_some_iff.1 hs1).1
  have hkl3:k<((i,L2):Nat×List RS).2.length:=hkl2
  have hs2:L2[((k:Int)).toNat]?=some s:=by rw[Int.toNat_natCast]; exact hs1
  have hs3:L2[((k:Int)).toNat]?=some s:=hs2
  refine bL ?_
  by_cases hlt2:i<l.length∧L2.length≤most
  ·obtain⟨h3,h4⟩:=hlt2
   have c2:(decide ((i:Int)<(l.length:Int))&&decide ((L2.length:Int)≤(most:Int)))=true:=by rw[dT (by omega),dT (by omega)]; rfl
   obtain⟨o,ho⟩:∃x,l[i]?=some x:=⟨_,List.getElem?_eq_getElem h3⟩
   rw[qS ho,if_pos h4]at hg2
   have htk:=uA s l i o n ho hso hn hL (by omega)
   refine aT ?_;refine gG 39 (.bool (decide ((i:Int)<(l.length:Int))&&decide ((L2.length:Int)≤(most:Int)))) _ rfl ?_ ?_
   ·refine zD ?_;refine rQ iE ?_;refine zD ?_
    refine iQ rfl rfl rfl (fun hb=>?_) (fun hb=>?_)
    refine rO ?_;refine rC ?_;refine rO ?_;refine rQ (bw aa rfl rfl) ?_;refine rO ?_;refine rC ?_;refine rO ?_;refine rC ?_;refine rQ iT ?_
    rotate_left
    iterate 4 refine rS ?_
    refine rQ iF ?_
    rotate_left
    all_goals refine lD 10 rfl rfl rfl rfl rfl rfl rfl rfl rfl (AVLe.of_eq ?_)
    all_goals (first | rfl | (clear q5; simp_all; done) | (simp_all; done) | (simp_all; omega))
   refine wT<|zQ<|zS ?_;refine zD ?_;refine rQ (aM aa rfl rfl rfl rfl rfl (by omega) (by omega)) ?_;refine rQ (aV (v :=.d (cz s)) aa rfl rfl ⟨rfl,s,hs2,cz s,rfl,rfl⟩ rfl) ?_;refine zD ?_;refine rQ (ay htk rfl rfl (ak (ak (ak aj))) (.inl rfl) (fun _=>rfl)) ?_;refine zU ?_;refine rN ?_;refine rW ?_;refine rC<|nR ?_;refine zD<|nS ?_
   cases h5:(dY s l i o).2 with
   | true =>
    obtain⟨h6,h7⟩:=wz hn hso h5
    have had:=rY L2 (dY s l i o).1 n hok2 h6 (by omega) hn (by omega)
    have hal:=jT L2 (dY s l i o).1
    rw[jS,h5,if_pos rfl]at hg2
    refine wV<|ai ?_;refine rC ?_;refine rQ iM ?_;refine aO (a9 [(9,some 65)] had rfl rfl rfl (ko rfl rfl (ak aj)) ⟨zH,trivial⟩ rfl rfl (.inl rfl) rfl rfl) rfl ?_;refine rC<|au<|zC<|ai ?_;refine rC ?_;refine rQ iD ?_;refine rC<|au ?_
    exact aJ (i+1,rAdd L2 (dY s l i o).1) [(65,some _)] ⟨h3,hok2.add h6 (by omega),by simp only; omega,uT hs1,hg2⟩ (by show l.length-(i+1)<l.length-i; omega) (lg zf ⟨zR,trivial⟩)
   | false =>
    rw[jS,h5,if_neg (by decide)]at hg2
    refine wG<|aN<|zC<|ai ?_;refine rC ?_;refine rQ iD ?_;refine rC<|au ?_
    exact aJ (i+1,L2) [(65,some 65)] ⟨h3,hok2,hlm2,hs1,hg2⟩ (by show l.length-(i+1)<l.length-i; omega) (lg zf ⟨zR,trivial⟩)
  ·rw[uS hlt2]at hg2
   rw[←hg2]at hg
   have hfu:=uK s l (by omega) (by omega)
   have hsw:IntKind.i64.wrap (((bT h:Nat):Int)-1)=(bT h:Int)-1:=ba (by omega) (by omega)
   have hL1:L2.length≤most+1:=hlm2
   have c2:(decide ((i:Int)<(l.length:Int))&&decide ((L2.length:Int)≤(most:Int)))=false:=by
    cases h3:decide ((i:Int)<(l.length:Int)) with
    | false=>rfl
    | true=>exact dF fun h4=>hlt2 ⟨by have:=of_decide_eq_true h3; omega,by omega⟩
   refine aT ?_;refine gG 39 (.bool (decide ((i:Int)<(l.length:Int))&&decide ((L2.length:Int)≤(most:Int)))) _ rfl ?_ ?_
   ·refine zD ?_;refine rQ iE ?_;refine zD ?_
    refine iQ rfl rfl rfl (fun hb=>?_) (fun hb=>?_)
    refine rO ?_;refine rC ?_;refine rO ?_;refine rQ (bw aa rfl rfl) ?_;refine rO ?_;refine rC ?_;refine rO ?_;refine rC ?_;refine rQ iT ?_
    rotate_left
    iterate 4 refine rS ?_
    refine rQ iF ?_
    rotate_left
    all_goals refine lD 10 rfl rfl rfl rfl rfl rfl rfl rfl rfl (AVLe.of_eq ?_)
    all_goals (first | rfl | (clear q5; simp_all; done) | (simp_all; done) | (simp_all; omega))
   refine wF<|zX<|aT ?_;refine aC (by kernel_rfl) ?_;refine dC [8] [] ?_;refine dC [9] [] ?_;refine dQ [57,58] [] (aM aa rfl rfl rfl rfl rfl (by omega) (by omega)) ?_;refine dC [59] [] ?_;refine dQ [60] [65] (aV (v :=.d (i6 s.era)) aa rfl rfl ⟨rfl,s,hs3,i6 s.era,rfl,rfl⟩ rfl) ?_;refine dC [0] [] ?_;refine dQ [62] [] (ay her rfl rfl (ak aj) (.inl rfl) (fun _=>rfl)) ?_;refine dQ [63] [] (cS aa rfl rfl (ba (by omega) (by omega))) ?_;refine dC [61,64] [] ?_;refine dC [65] [] ?_
   cases h6:decide (s.era<(bT h:Int)-1) with
   | false =>
    rw[rCra,h6,Bool.false_and,if_neg (by decide)]at hg
    refine ae [66,8] rfl rfl rfl rfl ?_;refine ae [66,9] rfl rfl rfl rfl ?_;refine ae [66,67,68] rfl rfl rfl rfl ?_;refine ae [66,69] rfl rfl rfl rfl ?_;refine ae [66,7] rfl rfl rfl rfl ?_;refine ae [66,70,71] rfl rfl rfl rfl ?_;refine ae [66,72] rfl rfl rfl rfl ?_;refine dQ [66,73] [] iG ?_;refine am (by kernel_rfl)<|aH ?_;refine wG<|aN<|zC<|ai ?_;refine rC ?_;refine rQ iD ?_;refine rC<|au ?_
    exact aJ (k+1,L2) [(65,some 65)] ⟨by simp only; omega,by simp only; omega,hok2,by simp only; omega,by simp only; rw[show most+2-(k+1)=m by omega]; exact hg⟩ (by show most+2-(k+1)<most+2-k; omega) (lg zg ⟨zR,trivial⟩)
   | true =>
   cases h7:eh s l 0 with
   | false =>
    rw[h7]at hfu
    rw[rCra,h6,h7,Bool.and_false,if_neg (by decide)]at hg
    refine ab [66,8] [] rfl rfl rfl rfl (an aa (fun K hk=>hk)) ?_;refine ab [66,9] [] rfl rfl rfl rfl (an aa (fun K hk=>hk)) ?_;refine ab [66,67,68] [] rfl rfl rfl rfl (aM aa rfl rfl rfl rfl rfl (by omega) (by omega)) ?_;refine ab [66,69] [65] rfl rfl rfl rfl (aV (v :=.d (cz s)) aa rfl rfl ⟨rfl,s,hs3,cz s,rfl,rfl⟩ rfl) ?_;refine ab [66,7] [] rfl rfl rfl rfl (an aa (fun K hk=>hk)) ?_;refine ab [66,70,71] [] rfl rfl rfl rfl (ay hfu rfl rfl (ak (ak aj)) (.inl rfl) (fun _=>rfl)) ?_;refine ab [66,72] [] rfl rfl rfl rfl (an aa (fun K hk=>hk)) ?_;refine dQ [66,73] [] iU ?_;refine am (by kernel_rfl)<|aH ?_;refine wG<|aN<|zC<|ai ?_;refine rC ?_;refine rQ iD ?_;refine rC<|au ?_
    exact aJ (k+1,L2) [(65,some 65)] ⟨by simp only; omega,by simp only; omega,hok2,by simp only; omega,by simp only; rw[show most+2-(k+1)=m by omega]; exact hg⟩ (by show most+2-(k+1)<most+2-k; omega) (lg zg ⟨zR,trivial⟩)
   | true =>
    rw[h7]at hfu
    rw[rCra,h6,h7,Bool.and_true,if_pos rfl]at hg
    have h8:=of_decide_eq_true h6
    have h9:RSOk n (fG s):=hso.crash (by omega)
    have hcr:=pv s (by rw[hso.dl]; omega) (ba (by have:=hso.e0; omega) (by omega))
    have had:=rY L2 (fG s) n hok2 h9 (Nat.zero_le _) hn (by omega)
    have hal:=jT L2 (fG s)
    refine ab [66,8] [] rfl rfl rfl rfl (an aa (fun K hk=>hk)) ?_;refine ab [66,9] [] rfl rfl rfl rfl (an aa (fun K hk=>hk)) ?_;refine ab [66,67,68] [] rfl rfl rfl rfl (aM aa rfl rfl rfl rfl rfl (by omega) (by omega)) ?_;refine ab [66,69] [65] rfl rfl rfl rfl (aV (v :=.d (cz s)) aa rfl rfl ⟨rfl,s,hs3,cz s,rfl,rfl⟩ rfl) ?_;refine ab [66,7] [] rfl rfl rfl rfl (an aa (fun K hk=>hk)) ?_;refine ab [66,70,71] [] rfl rfl rfl rfl (ay hfu rfl rfl (ak (ak aj)) (.inl rfl) (fun _=>rfl)) ?_;refine ab [66,72] [] rfl rfl rfl rfl (an aa (fun K hk=>hk)) ?_;refine dQ [66,73] [] iU ?_;refine am (by kernel_rfl)<|aH ?_;refine wV<|ai ?_;refine zU ?_;refine rQ (aM aa rfl rfl rfl rfl rfl (by omega) (by omega)) ?_;refine rQ (aV (v :=.d (cz s)) aa rfl rfl ⟨rfl,s,hs3,cz s,rfl,rfl⟩ rfl) ?_;refine rQ (ay hcr rfl rfl (ak aj) (.inl rfl) (fun _=>rfl)) ?_;refine aO (a9 [(9,some 65)] had rfl rfl rfl (ko rfl rfl (ak aj)) ⟨zH,trivial⟩ rfl rfl (.inl rfl) rfl rfl) rfl ?_;refine rC<|au<|zC<|ai ?_;refine rC ?_;refine rQ iD ?_;refine rC<|au ?_
    exact aJ (k+1,rAdd L2 (fG s)) [(65,some _)] ⟨by simp only; omega,by simp only; omega,hok2.add h9 (Nat.zero_le _),by simp only; omega,by simp only; rw[show most+2-(k+1)=m by omega]; exact hg⟩ (by show most+2-(k+1)<most+2-k; omega) (lg zg ⟨zR,trivial⟩)
 ·have hR:eF most l n (bT h)=L:=by
   rw[←hg]
   cases hs:L[k]? with
   | none=>rfl
   | some s=>simp only; rw[if_neg fun h2=>hlt ⟨(List.getElem?_eq_some_iff.1 hs).1,h2⟩]
  rw[hR]
  have c1:(decide ((k:Int)<(L.length:Int))&&decide ((L.length:Int)≤(most:Int)))=false:=by
   cases h3:decide ((k:Int)<(L.length:Int)) with
   | false=>rfl
   | true=>exact dF fun h4=>hlt ⟨by have:=of_decide_eq_true h3; omega,by omega⟩
  refine aT ?_;refine gG 27 (.bool (decide ((k:Int)<(L.length:Int))&&decide ((L.length:Int)≤(most:Int)))) _ rfl ?_ ?_
  ·refine zD ?_;refine rQ (bw aa rfl rfl) ?_;refine zD ?_
   refine iQ rfl rfl rfl (fun hb=>?_) (fun hb=>?_)
   refine rO ?_;refine rC ?_;refine rO ?_;refine rQ (bw aa rfl rfl) ?_;refine rO ?_;refine rC ?_;refine rO ?_;refine rC ?_;refine rQ iT ?_
   rotate_left
   iterate 4 refine rS ?_
   refine rQ iF ?_
   rotate_left
   all_goals refine lD 10 rfl rfl rfl rfl rfl rfl rfl rfl rfl (AVLe.of_eq ?_)
   all_goals (first | rfl | (clear q5; simp_all; done) | (simp_all; done) | (simp_all; omega))
  refine wF<|zX<|sR ?_;refine zD<|zT ?_
  exact⟨trivial,[(64,some 65)],lg zV ⟨zR,trivial⟩⟩
theorem xj (x:List XE):FnIs Try.prog 17 [.d (mO x)] [] (.d (encH (hOf x))) []:=(xi x).freeze_out 64 _ rfl (Frz.own rfl) trivial
theorem se (x:List XE) {b:Int} (h0:1≤b) (h1:b≤4096):opE (hOf x) b=0:=by
 rw[opE,oQ,if_pos rfl,if_neg (by omega)]
theorem ve (x:List XE):opsH (hOf x)=opsR (hOf x):=by
 rw[opsH,oQ,if_pos rfl,vc (by rw[oQ])]
theorem su {m:Int} (h:(Lit.int .i8 m).wf=true) : -128≤m∧m≤127:=by
 simp[Lit.wf,IntKind.min,IntKind.max,IntKind.bits,IntKind.signed]at h
 omega
theorem qG (h:List HEv) (n most:Nat) (l:List HOp) (hop:FnIs Try.prog 26 [.d (encH h)] [] (.d (dD l)) []) (hL:l.length≤1000000) (hn:n≤1000000) (hm:most≤900000) (hh:h.length≤100000):FnIs Try.prog 20 [.d (encH h),.int .i64 n,.int .i64 most] [] (.d (.arr 4 cz (eF most l n (bT h)))) []:=
 (pn h n most l hop hL hn hm hh).freeze_out 64 _ rfl (Frz.own rfl) trivial
theorem yk (x:List XE) {b:Int} (h0:1≤b) (h1:b≤4096):lH (hOf x) b=opsR (hOf x):=by
 rw[lH,opL,if_pos (se x h0 h1),ve]
theorem rc (x:List XE) {n:Nat} (h0:1≤n) (h1:n≤4096) {R:List RS} (hR:eF 5000 (opsR (hOf x)) n (bT (hOf x))=R) (hm:R.length≤5000) {fuel:Int} (hf0:0≤fuel) (hf1:fuel≤6000) :
  (fuel<(R.length:Int)→eV (hOf x) n fuel=(0,4)∧ea (hOf x) n fuel=(([],false),4))∧((R.length:Int)≤fuel→eV (hOf x) n fuel=((R.length:Int),0)∧(ea (hOf x) n fuel).2=0):=by
 have hE:=se x (b:=n) (by omega) (by omega)
 have hL:=yk x (b:=n) (by omega) (by omega)
 have hh:=oP x
 have hll:(opsR (hOf x)).length≤24:=Nat.le_trans (pD _) hh
 have hel:bT (hOf x)≤25:=by have:=List.countP_le_length (p:=fun x:HEv=>decide (x.kind=3)) (l:=hOf x); unfold bT; omega
 obtain⟨ks,kv,F⟩:=fD (opsR (hOf x)) n (bT (hOf x))
 have S:=Sc.of F (by omega) (by omega) (by omega)
 obtain⟨a1,a2⟩:=S.states (most:=5000) (gB (hOf x)) (by rw[hR]; exact hm) hf0
 rw[hR]at a1 a2
 have hsr:jN (hOf x) n fuel=lW (cV (opsR (hOf x)) n (bT (hOf x))) (opsR (hOf x)) (bT (hOf x)) fuel:=by rw[jN,pH,hL]
 unfold eV ea
 rw[if_pos hE,if_pos hE,if_neg (by omega),if_neg (by omega),hsr]
 refine⟨fun h=>?_,fun h=>?_⟩
 ·rw[a1 h]
  exact⟨rfl,rfl⟩
 ·obtain⟨q,sp,b1,b2⟩:=a2 h
  rw[b1]
  exact⟨by simp only[b2.len],rfl⟩
theorem oH (x:List XE) (n:UInt8) (less:Int) (hl0 : -128≤less) (hl1:less≤127):FnIs Try.prog 5 [.d (mO x),.int .u8 (n.toNat:Nat),.int .i8 less] [] (.bool true) []:=by
 refine aE aa Try.func5 rfl rfl rfl ?_
 by_cases h16:16<x.length
 ·have d0:decide ((16:Int)<(x.length:Int))=true:=dT (by omega)
  refine sR<|rN ?_;refine rC<|zW ?_;refine rC ?_;refine rQ iB ?_;refine rQ iE ?_;refine rC ?_;refine zI<|sR ?_;refine rQ (ay j1 rfl rfl aj (.inl rfl) (fun _=>rfl)) ?_;refine rC<|zT<|bx ?_
  exact⟨trivial,[],lf⟩
 have d0:decide ((16:Int)<(x.length:Int))=false:=dF (by omega)
 have hm4:n.toNat % 4<4:=Nat.mod_lt _ (by decide)
 have hwc:IntKind.i64.wrap ((n.toNat % 4:Nat):Int)=((n.toNat % 4:Nat):Int):=ba (by omega) (by omega)
 have hwa:IntKind.i64.wrap (1+((n.toNat % 4:Nat):Int))=((1+n.toNat % 4:Nat):Int):=by rw[ba (by omega) (by omega)]; omega
 have hwl:IntKind.i64.wrap less=less:=ba (by omega) (by omega)
 have hof:=xj x
 have hh:=oP x
 have hol:=pD (hOf x)
 obtain⟨N,hN⟩:∃N,N=1+n.toNat % 4:=⟨_,rfl⟩
 have hkey:=fun R hR hm fuel=>rc x (n:=N) (by omega) (by omega) (R:=R) hR hm (fuel:=fuel)
 have hrun:=fun fuel:Int=>fun h0:fuel≤6000=>iP (hOf x) N fuel (by omega) (.inl (by omega)) (fun _=>by
  have:fuel.toNat*((hOf x).length+1)≤6000*25:=Nat.mul_le_mul (by omega) (by omega)
  omega)
 have hrs:=qG (hOf x) N 5000 (opsR (hOf x)) (wJ _ (by omega)) (by omega) (by omega) (by omega) (by omega)
 rw[←hN]at hwa
 generalize eF 5000 (opsR (hOf x)) N (bT (hOf x))=R at hkey hrs
 have hkey:=hkey R rfl
 generalize hOf x=h at hof hkey hrs hrun
 refine sR<|rN ?_;refine rC<|zW ?_;refine rC ?_;refine rQ iB ?_;refine rQ iE ?_;refine rC ?_;refine zG<|kS<|sR ?_;refine rQ iM ?_;refine rQ (ay hof rfl rfl (ak aj) (.inl rfl) (fun _=>rfl)) ?_;refine rC ?_;refine rQ (cb (a:=n.toNat) (b:=4) aa rfl rfl rfl (by decide)) ?_;refine rQ (cm (m:=((n.toNat % 4:Nat):Int)) aa rfl rfl rfl hwc) ?_;refine rQ (cP (m:=(N:Int)) aa rfl rfl hwa) ?_;refine zD<|nR ?_;refine zD ?_;refine rQ (ay hrs rfl rfl (ak (ak (ak aj))) (.inl rfl) (fun _=>rfl)) ?_;refine rQ iE ?_;refine rC<|zW ?_;refine zD<|nS ?_
 by_cases hw:5000<R.length
 ·have d1:decide ((5000:Int)<(R.length:Int))=true:=dT (by omega)
  refine wT<|sR ?_;refine rQ (ay j1 rfl rfl aj (.inl rfl) (fun _=>rfl)) ?_;refine rC<|zT<|bx ?_
  exact⟨trivial,[],lf⟩
 have d1:decide ((5000:Int)<(R.length:Int))=false:=dF (by omega)
 have hwf:IntKind.i64.wrap ((R.length:Int)+less)=(R.length:Int)+less:=ba (by omega) (by omega)
 obtain⟨fuel,hmax⟩:∃f,max ((R.length:Int)+less) 0=f:=⟨_,rfl⟩
 have hf0:0≤fuel:=by omega
 have hf1:fuel≤6000:=by omega
 obtain⟨k1,k2⟩:=hkey (by omega) fuel hf0 hf1
 have R3:=hrun fuel hf1
 have hst:=nc R3
 have hfi:=oS R3
 have hle:=pP R3
 clear hkey hrun R3
 by_cases hc:fuel<(R.length:Int)
 ·have d2:decide (fuel<(R.length:Int))=true:=dT hc
  have n1:(decide ((4:Int)=4) !=decide (fuel<(R.length:Int)))=false:=by rw[d2]; rfl
  obtain⟨a1,a2⟩:=k1 hc
  rw[a1]at hst
  rw[a2]at hfi hle
  refine wF<|kS<|sR ?_;refine zD ?_;refine rQ (cm (m:=less) aa rfl rfl rfl hwl) ?_;refine rQ (cP (m:=(R.length:Int)+less) aa rfl rfl hwf) ?_;refine rQ (sj (m:=fuel) rfl rfl hmax) ?_;refine rC<|nR ?_;refine zU ?_;refine rQ (ay hst rfl rfl (ak (ak (ak aj))) (.inl rfl) (fun _=>rfl)) ?_;iterate 5 refine rC ?_
  refine nR<|zU ?_;refine rQ (ay hle rfl rfl (ak (ak (ak aj))) (.inl rfl) (fun _=>rfl)) ?_;iterate 5 refine rC ?_
  refine nR<|zU ?_;refine rQ (ay hfi rfl rfl (ak (ak (ak aj))) (.inl rfl) (fun _=>rfl)) ?_;iterate 7 refine rC ?_
  refine zW ?_;iterate 4 refine rC ?_
  refine rP ?_;refine rC ?_;refine rP ?_;refine rC ?_;refine rP ?_;refine rC ?_;refine rQ iG ?_;refine rC ?_;refine rP ?_;refine rC ?_;refine rP ?_;refine rC ?_;refine rP ?_;refine rC ?_;refine rP ?_;refine rC ?_;refine rP ?_;refine rC ?_;refine rP ?_;refine rC ?_;refine rQ iG ?_;refine rC ?_;refine rO ?_;refine rC ?_;refine rO ?_;refine rC ?_;refine rO ?_;refine rC ?_;refine rP ?_;refine rC ?_;refine rP ?_;refine rC ?_;refine rP ?_;refine rC ?_;refine rP ?_;refine rC ?_;refine rP ?_;refine rC ?_;refine rP ?_;refine rQ iG ?_;refine rP ?_;refine rC ?_;refine rP ?_;refine rC ?_;refine rP ?_;refine rQ iG ?_;refine rP ?_;refine rC ?_;refine rP ?_;refine rC ?_;refine rP ?_;refine rQ (db aa rfl rfl) ?_;refine rP ?_;refine rC ?_;refine rP ?_;refine rQ iG ?_;refine rO ?_;refine rQ iU ?_;refine rQ iF ?_;refine zJ<|kS<|sR ?_;refine zU ?_
  iterate 3 refine rT ?_
  refine rQ iU ?_;refine rC ?_;refine rP ?_;refine rQ (ay j1 rfl rfl aj (.inl rfl) (fun _=>rfl)) ?_;refine rQ iU ?_;refine rC<|zT ?_
  exact⟨trivial,[],lf⟩
 ·have d2:decide (fuel<(R.length:Int))=false:=dF hc
  have n1:(decide ((0:Int)=4) !=decide (fuel<(R.length:Int)))=false:=by rw[d2]; rfl
  obtain⟨a1,a2⟩:=k2 (by omega)
  rw[a1]at hst
  rw[a2]at hfi hle
  have d3:decide ((R.length:Int)=(R.length:Int))=true:=dT rfl
  refine wF<|kS<|sR ?_;refine zD ?_;refine rQ (cm (m:=less) aa rfl rfl rfl hwl) ?_;refine rQ (cP (m:=(R.length:Int)+less) aa rfl rfl hwf) ?_;refine rQ (sj (m:=fuel) rfl rfl hmax) ?_;refine rC<|nR ?_;refine zU ?_;refine rQ (ay hst rfl rfl (ak (ak (ak aj))) (.inl rfl) (fun _=>rfl)) ?_;iterate 5 refine rC ?_
  refine nR<|zU ?_;refine rQ (ay hle rfl rfl (ak (ak (ak aj))) (.inl rfl) (fun _=>rfl)) ?_;iterate 5 refine rC ?_
  refine nR<|zU ?_;refine rQ (ay hfi rfl rfl (ak (ak (ak aj))) (.inl rfl) (fun _=>rfl)) ?_;iterate 7 refine rC ?_
  refine zW ?_;iterate 4 refine rC ?_
  refine rP ?_;refine rC ?_;refine rP ?_;refine rC ?_;refine rP ?_;refine rC ?_;refine rQ iG ?_;refine rC ?_;refine rP ?_;refine rC ?_;refine rP ?_;refine rC ?_;refine rP ?_;refine rC ?_;refine rP ?_;refine rC ?_;refine rP ?_;refine rC ?_;refine rP ?_;refine rC ?_;refine rQ iG ?_;refine rC ?_;refine rO ?_;refine rC ?_;refine rO ?_;refine rC ?_;refine rO ?_;refine rC ?_;iterate 3 refine rT ?_
  iterate 2 refine rU ?_
  iterate 2 refine rT ?_
  refine rU ?_;iterate 2 refine rT ?_
  iterate 3 refine rU ?_
  refine rT ?_;refine rO ?_;refine rQ iG ?_;refine rQ iF ?_;refine zJ<|kS<|sR ?_;refine zU ?_;refine rP ?_;refine rC ?_;refine rP ?_;refine rC ?_;refine rP ?_;refine rC ?_;refine rQ iG ?_;refine rC ?_;refine rO ?_;refine rQ (ay j1 rfl rfl aj (.inl rfl) (fun _=>rfl)) ?_;refine rQ iT ?_;refine rC<|zT ?_
  exact⟨trivial,[],lf⟩
end Go.Proofs.Ytkehohfgbblokaa
namespace Go.Proofs.Ytkehohfgbblokaa
open Go.Eng Go.Plain
set_option maxHeartbeats 32000000
set_option maxRecDepth 20000
theorem yb {a:Int} (h:(Lit.int .u8 a).wf=true):0≤a∧a≤255:=by
 simp[Lit.wf,IntKind.min,IntKind.max,IntKind.bits,IntKind.signed]at h
 omega
def toB (l:List Int):List UInt8:=l.map fun z=>z.toNat.toUInt8
theorem lz {a:Int} (h:(Lit.int .u8 a).wf=true):((a.toNat.toUInt8.toNat:Nat):Int)=a:=by
 obtain⟨h1,h2⟩:=yb h
 simp only[Nat.toUInt8_eq,UInt8.toNat_ofNat']
 omega
theorem wU:ie Try.prog 74 3 sE fun _=>True :=
 ie.map (jW (P:=Try.prog) Try.underlying74 (by kernel_rfl) (fun _=>rfl) (fS rfl (by kernel_rfl) (gv (P:=Try.prog) Try.underlying5) (fS rfl (by kernel_rfl) (gv (P:=Try.prog) Try.underlying5) (fS rfl (by kernel_rfl) (gv (P:=Try.prog) Try.underlying5) ml))))
  (fun q=>⟨q.1.toNat.toUInt8,q.2.1.toNat.toUInt8,q.2.2.1.toNat.toUInt8⟩) (fun q h=>by simp only[sE,lz h.1,lz h.2.1,lz h.2.2.1]) (fun _ _=>trivial)
theorem vf:ie Try.prog 38 1 mO fun _=>True :=
 ie.map (jW (P:=Try.prog) Try.underlying38 (by kernel_rfl) (fun _=>rfl) (fS rfl (by kernel_rfl)
  (pE (P:=Try.prog) Try.underlying36 (by kernel_rfl) wU) ml))
  (fun q=>q.1) (fun _ _=>rfl) (fun _ _=>trivial)
end Go.Proofs.Ytkehohfgbblokaa
