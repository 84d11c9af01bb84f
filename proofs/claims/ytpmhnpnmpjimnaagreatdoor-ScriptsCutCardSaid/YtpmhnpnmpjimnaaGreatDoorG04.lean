/- Texts of the proof: P7, P8, P9, P10, P11, Eng75, P12, Eng76, P13, Eng77, P14, PX, P15, P16, P17, P18, P21, P22, ZP, ZQ, Eng78, Eng80, Eng81, Eng82, Eng86, Eng91, Eng83, Eng84, ZDat, Z1, Z2, Z3, Z4, Eng92, Z5. -/
import Derived.Test.YtpmhnpnmpjimnaaGreatDoorG03
import Derived.Test.YtpmhnpnmpjimnaaGreatDoorG02
import Derived.Sort.Row
import Derived.Sort.Grow

set_option linter.unusedVariables false
set_option linter.unusedSimpArgs false
set_option linter.unusedSectionVars false
set_option maxRecDepth 10000

namespace Go.Proofs.YtpmhnpnmpjimnaaGreatDoor
open Go.Eng Go.Plain
set_option maxHeartbeats 32000000
set_option maxRecDepth 20000
attribute [local irreducible] WC RegS RegD SeqQ BlkQ ScoQ RegK CutK Sat SatN FnIs LoopQ aq OpIs
theorem jC (l:List UInt8) (b:Bool) (h:decide (l=[])=b):decide (((byI l).length:Int)=0)=b:=by
 rw[←h]
 cases l with
 | nil=>rfl
 | cons a l=>simp[byI]; omega
theorem tl (o:POp) (hok:o.Ok) (hL:o.data.length≤524288) (hk:o.kind=1) (hd0:o.data=[]):FnIs Tryz.prog 47 [.d (br o)] [] (.d (strD (bO o))) []:=by
 obtain⟨⟨kk0,kk1⟩,h0,h1⟩:=hok
 have k0 : -9223372036854775808≤o.kind:=by omega
 have k1:o.kind≤9223372036854775807:=by omega
 have hwk:IntKind.i64.wrap o.kind=o.kind:=aI (by omega) (by omega)
 have l1:=bf h0 h1
 have l2:=bf k0 k1
 have l3:=cT o.data
 have hk1:decide (o.kind=1)=true:=dT (by omega)
 have hd:=jC o.data true (dT hd0)
 rw[show bO o=fJ++[32]++Lib.itoa o.index by rw[bO,if_pos ⟨hk,hd0⟩]; simp]
 refine aw aa Tryz.func47 rfl rfl rfl ?_;refine sR<|rN ?_;refine rC<|nR ?_;refine rC ?_;refine rQ iB ?_;refine rQ (ak (cu h0 h1) rfl rfl (aj ae) (.inl rfl) (fun _=>rfl)) ?_;refine rC<|nQ<|zS ?_;refine rC ?_;refine rQ iB ?_;refine zD ?_;refine rO ?_;refine rC ?_;refine rO ?_;refine rQ iB ?_;refine rO ?_;refine rQ iE ?_;refine rO ?_;refine rC ?_;refine rQ iT ?_;refine rC ?_;refine zI<|sR ?_;refine rC ?_;refine rQ (aR (a:=fJ++[32]) (b:=Lib.itoa o.index) rfl rfl (by simp[fJ]; omega) rfl) ?_;refine rC<|zT<|zB ?_
 exact⟨trivial,[],lf⟩
theorem qK (o:POp) (hok:o.Ok) (hL:o.data.length≤524288) (hk:o.kind=2):FnIs Tryz.prog 47 [.d (br o)] [] (.d (strD (bO o))) []:=by
 obtain⟨⟨kk0,kk1⟩,h0,h1⟩:=hok
 have k0 : -9223372036854775808≤o.kind:=by omega
 have k1:o.kind≤9223372036854775807:=by omega
 have hwk:IntKind.i64.wrap o.kind=o.kind:=aI (by omega) (by omega)
 have l1:=bf h0 h1
 have l2:=bf k0 k1
 have l3:=cT o.data
 have hk1:decide (o.kind=1)=false:=dF (by omega)
 have hk2:decide (o.kind=2)=true:=dT (by omega)
 rw[show bO o=dr++[32]++Lib.itoa o.index++[32]++hexP o.data by rw[bO,if_neg (fun h=>by have:=h.1; omega),if_pos hk]; simp]
 refine aw aa Tryz.func47 rfl rfl rfl ?_;refine sR<|rN ?_;refine rC<|nR ?_;refine rC ?_;refine rQ iB ?_;refine rQ (ak (cu h0 h1) rfl rfl (aj ae) (.inl rfl) (fun _=>rfl)) ?_;refine rC<|nQ<|zS ?_;refine rC ?_;refine rQ iB ?_;refine zD ?_
 iterate 4 refine rS ?_
 refine rQ iF ?_;refine rC ?_;refine zJ<|sR ?_;refine rC ?_;refine rQ iB ?_;refine zD ?_;refine zI<|sR ?_;refine rC ?_;refine rQ (aR (a:=dr++[32]) (b:=Lib.itoa o.index) rfl rfl (by simp[dr]; omega) rfl) ?_;refine rQ (aR (a:=dr++[32]++Lib.itoa o.index) (b:=[32]) rfl rfl (by simp[dr]; omega) rfl) ?_;refine rC ?_;refine rQ iB ?_;refine rQ (ak (l7 o.data hL) rfl rfl (aj ae) (.inl rfl) (fun _=>rfl)) ?_;refine rQ (aR (a:=dr++[32]++Lib.itoa o.index++[32]) (b:=hexP o.data) rfl rfl (by simp[dr]; omega) rfl) ?_;refine rC<|zT<|zB ?_
 exact⟨trivial,[],lf⟩
theorem qL (o:POp) (hok:o.Ok) (hL:o.data.length≤524288) (hk:o.kind=3) (hi0:o.index=0) (hd0:o.data=[]):FnIs Tryz.prog 47 [.d (br o)] [] (.d (strD (bO o))) []:=by
 obtain⟨⟨kk0,kk1⟩,h0,h1⟩:=hok
 have k0 : -9223372036854775808≤o.kind:=by omega
 have k1:o.kind≤9223372036854775807:=by omega
 have hwk:IntKind.i64.wrap o.kind=o.kind:=aI (by omega) (by omega)
 have l1:=bf h0 h1
 have l2:=bf k0 k1
 have l3:=cT o.data
 have hk1:decide (o.kind=1)=false:=dF (by omega)
 have hk2:decide (o.kind=2)=false:=dF (by omega)
 have hk3:decide (o.kind=3)=true:=dT (by omega)
 have hd:=jC o.data true (dT hd0)
 have hi:decide (o.index=0)=true:=dT hi0
 rw[show bO o=fe by rw[bO,if_neg (fun h=>by have:=h.1; omega),if_neg (by omega),if_pos ⟨hk,hi0,hd0⟩]]
 refine aw aa Tryz.func47 rfl rfl rfl ?_;refine sR<|rN ?_;refine rC<|nR ?_;refine rC ?_;refine rQ iB ?_;refine rQ (ak (cu h0 h1) rfl rfl (aj ae) (.inl rfl) (fun _=>rfl)) ?_;refine rC<|nQ<|zS ?_;refine rC ?_;refine rQ iB ?_;refine zD ?_
 iterate 4 refine rS ?_
 refine rQ iF ?_;refine rC ?_;refine zJ<|sR ?_;refine rC ?_;refine rQ iB ?_;refine zD ?_;refine zG<|sR ?_;refine rC ?_;refine rQ iB ?_;refine zD ?_;refine rO ?_;refine rC ?_;refine rO ?_;refine rQ iB ?_;refine rO ?_;refine rC ?_;refine rQ iT ?_;refine rC ?_;refine rO ?_;refine rC ?_;refine rO ?_;refine rQ iB ?_;refine rO ?_;refine rQ iE ?_;refine rO ?_;refine rC ?_;refine rQ iT ?_;refine rC ?_;refine zI<|sR ?_;refine rC<|zT<|zB ?_
 exact⟨trivial,[],lf⟩
theorem vy (o:POp) (hok:o.Ok) (hL:o.data.length≤524288) (hk:o.kind=1) (hd0:¬o.data=[]):FnIs Tryz.prog 47 [.d (br o)] [] (.d (strD (bO o))) []:=by
 obtain⟨⟨kk0,kk1⟩,h0,h1⟩:=hok
 have k0 : -9223372036854775808≤o.kind:=by omega
 have k1:o.kind≤9223372036854775807:=by omega
 have hwk:IntKind.i64.wrap o.kind=o.kind:=aI (by omega) (by omega)
 have l1:=bf h0 h1
 have l2:=bf k0 k1
 have l3:=cT o.data
 have hk1:decide (o.kind=1)=true:=dT (by omega)
 have hk2:decide (o.kind=2)=false:=dF (by omega)
 have hk3:decide (o.kind=3)=false:=dF (by omega)
 have hd:=jC o.data false (dF hd0)
 rw[show bO o=sOp++[32]++Lib.itoa o.kind++[32]++Lib.itoa o.index++[32]++hexP o.data by rw[bO,if_neg (fun h=>hd0 h.2),if_neg (by omega),if_neg (fun h=>by have:=h.1; omega)]; simp]
 refine aw aa Tryz.func47 rfl rfl rfl ?_;refine sR<|rN ?_;refine rC<|nR ?_;refine rC ?_;refine rQ iB ?_;refine rQ (ak (cu h0 h1) rfl rfl (aj ae) (.inl rfl) (fun _=>rfl)) ?_;refine rC<|nQ<|zS ?_;refine rC ?_;refine rQ iB ?_;refine zD ?_;refine rO ?_;refine rC ?_;refine rO ?_;refine rQ iB ?_;refine rO ?_;refine rQ iE ?_;refine rO ?_;refine rC ?_;refine rQ iT ?_;refine rC ?_;refine zG<|sR ?_;refine rC ?_;refine rQ iB ?_;refine zD ?_;refine zG<|sR ?_;refine rC ?_;refine rQ iB ?_;refine zD ?_
 iterate 3 refine rS ?_
 refine rQ iF ?_;refine rC ?_;iterate 4 refine rT ?_
 refine rQ iG ?_;refine rC ?_;refine zJ<|bG<|zC<|b9 ?_;refine aH (by kernel_rfl) ?_;refine dC [1] [] ?_;refine dQ [45] [64] iB ?_;refine dQ [46] [] (bg (m:=o.kind) aa rfl rfl rfl hwk) ?_;refine dQ [47] [] (ak (cu k0 k1) rfl rfl (aj ae) (.inl rfl) (fun _=>rfl)) ?_;refine dQ [48] [] (aR (a:=sOp++[32]) (b:=Lib.itoa o.kind) rfl rfl (by simp[sOp]; omega) rfl) ?_;refine dQ [49] [] (aR (a:=sOp++[32]++Lib.itoa o.kind) (b:=[32]) rfl rfl (by simp[sOp]; omega) rfl) ?_;refine dC [3] [] ?_;refine dQ [50,51] [] (aR (a:=sOp++[32]++Lib.itoa o.kind++[32]) (b:=Lib.itoa o.index) rfl rfl (by simp[sOp]; omega) rfl) ?_;refine dQ [52] [] (aR (a:=sOp++[32]++Lib.itoa o.kind++[32]++Lib.itoa o.index) (b:=[32]) rfl rfl (by simp[sOp]; omega) rfl) ?_;refine dC [1] [] ?_;refine dQ [54] [64] iB ?_;refine dQ [55] [] (ak (l7 o.data hL) rfl rfl (aj ae) (.inl rfl) (fun _=>rfl)) ?_;refine dQ [53,56] [] (aR (a:=sOp++[32]++Lib.itoa o.kind++[32]++Lib.itoa o.index++[32]) (b:=hexP o.data) rfl rfl (by simp[sOp]; omega) rfl) ?_;refine dC [57] [] ?_;refine aC (by kernel_rfl)<|aU<|cg ?_
 exact⟨trivial,[],lf⟩
theorem vx (o:POp) (hok:o.Ok) (hL:o.data.length≤524288) (hk1:¬o.kind=1) (hk2:¬o.kind=2) (hk3:¬o.kind=3):FnIs Tryz.prog 47 [.d (br o)] [] (.d (strD (bO o))) []:=by
 obtain⟨⟨kk0,kk1⟩,h0,h1⟩:=hok
 have k0 : -9223372036854775808≤o.kind:=by omega
 have k1:o.kind≤9223372036854775807:=by omega
 have hwk:IntKind.i64.wrap o.kind=o.kind:=aI (by omega) (by omega)
 have l1:=bf h0 h1
 have l2:=bf k0 k1
 have l3:=cT o.data
 have hk1:decide (o.kind=1)=false:=dF (by omega)
 have hk2:decide (o.kind=2)=false:=dF (by omega)
 have hk3:decide (o.kind=3)=false:=dF (by omega)
 rw[show bO o=sOp++[32]++Lib.itoa o.kind++[32]++Lib.itoa o.index++[32]++hexP o.data by rw[bO,if_neg (fun h=>by have:=h.1; omega),if_neg (by omega),if_neg (fun h=>by have:=h.1; omega)]; simp]
 refine aw aa Tryz.func47 rfl rfl rfl ?_;refine sR<|rN ?_;refine rC<|nR ?_;refine rC ?_;refine rQ iB ?_;refine rQ (ak (cu h0 h1) rfl rfl (aj ae) (.inl rfl) (fun _=>rfl)) ?_;refine rC<|nQ<|zS ?_;refine rC ?_;refine rQ iB ?_;refine zD ?_
 iterate 4 refine rS ?_
 refine rQ iF ?_;refine rC ?_;refine zJ<|sR ?_;refine rC ?_;refine rQ iB ?_;refine zD ?_;refine zG<|sR ?_;refine rC ?_;refine rQ iB ?_;refine zD ?_
 iterate 3 refine rS ?_
 refine rQ iF ?_;refine rC ?_;iterate 4 refine rT ?_
 refine rQ iG ?_;refine rC ?_;refine zJ<|bG<|zC<|b9 ?_;refine aH (by kernel_rfl) ?_;refine dC [1] [] ?_;refine dQ [45] [64] iB ?_;refine dQ [46] [] (bg (m:=o.kind) aa rfl rfl rfl hwk) ?_;refine dQ [47] [] (ak (cu k0 k1) rfl rfl (aj ae) (.inl rfl) (fun _=>rfl)) ?_;refine dQ [48] [] (aR (a:=sOp++[32]) (b:=Lib.itoa o.kind) rfl rfl (by simp[sOp]; omega) rfl) ?_;refine dQ [49] [] (aR (a:=sOp++[32]++Lib.itoa o.kind) (b:=[32]) rfl rfl (by simp[sOp]; omega) rfl) ?_;refine dC [3] [] ?_;refine dQ [50,51] [] (aR (a:=sOp++[32]++Lib.itoa o.kind++[32]) (b:=Lib.itoa o.index) rfl rfl (by simp[sOp]; omega) rfl) ?_;refine dQ [52] [] (aR (a:=sOp++[32]++Lib.itoa o.kind++[32]++Lib.itoa o.index) (b:=[32]) rfl rfl (by simp[sOp]; omega) rfl) ?_;refine dC [1] [] ?_;refine dQ [54] [64] iB ?_;refine dQ [55] [] (ak (l7 o.data hL) rfl rfl (aj ae) (.inl rfl) (fun _=>rfl)) ?_;refine dQ [53,56] [] (aR (a:=sOp++[32]++Lib.itoa o.kind++[32]++Lib.itoa o.index++[32]) (b:=hexP o.data) rfl rfl (by simp[sOp]; omega) rfl) ?_;refine dC [57] [] ?_;refine aC (by kernel_rfl)<|aU<|cg ?_
 exact⟨trivial,[],lf⟩
theorem vw (o:POp) (hok:o.Ok) (hL:o.data.length≤524288) (hk:o.kind=3) (hi0:¬o.index=0):FnIs Tryz.prog 47 [.d (br o)] [] (.d (strD (bO o))) []:=by
 obtain⟨⟨kk0,kk1⟩,h0,h1⟩:=hok
 have k0 : -9223372036854775808≤o.kind:=by omega
 have k1:o.kind≤9223372036854775807:=by omega
 have hwk:IntKind.i64.wrap o.kind=o.kind:=aI (by omega) (by omega)
 have l1:=bf h0 h1
 have l2:=bf k0 k1
 have l3:=cT o.data
 have hk1:decide (o.kind=1)=false:=dF (by omega)
 have hk2:decide (o.kind=2)=false:=dF (by omega)
 have hk3:decide (o.kind=3)=true:=dT (by omega)
 have hi:decide (o.index=0)=false:=dF hi0
 rw[show bO o=sOp++[32]++Lib.itoa o.kind++[32]++Lib.itoa o.index++[32]++hexP o.data by rw[bO,if_neg (fun h=>by have:=h.1; omega),if_neg (by omega),if_neg (fun h=>hi0 h.2.1)]; simp]
 refine aw aa Tryz.func47 rfl rfl rfl ?_;refine sR<|rN ?_;refine rC<|nR ?_;refine rC ?_;refine rQ iB ?_;refine rQ (ak (cu h0 h1) rfl rfl (aj ae) (.inl rfl) (fun _=>rfl)) ?_;refine rC<|nQ<|zS ?_;refine rC ?_;refine rQ iB ?_;refine zD ?_
 iterate 4 refine rS ?_
 refine rQ iF ?_;refine rC ?_;refine zJ<|sR ?_;refine rC ?_;refine rQ iB ?_;refine zD ?_;refine zG<|sR ?_;refine rC ?_;refine rQ iB ?_;refine zD ?_;refine rO ?_;refine rC ?_;refine rO ?_;refine rQ iB ?_;refine rO ?_;refine rC ?_;refine rQ iT ?_;refine rC ?_;iterate 4 refine rS ?_
 refine rQ iF ?_;refine rC ?_;refine zJ<|bG<|zC<|b9 ?_;refine aH (by kernel_rfl) ?_;refine dC [1] [] ?_;refine dQ [45] [64] iB ?_;refine dQ [46] [] (bg (m:=o.kind) aa rfl rfl rfl hwk) ?_;refine dQ [47] [] (ak (cu k0 k1) rfl rfl (aj ae) (.inl rfl) (fun _=>rfl)) ?_;refine dQ [48] [] (aR (a:=sOp++[32]) (b:=Lib.itoa o.kind) rfl rfl (by simp[sOp]; omega) rfl) ?_;refine dQ [49] [] (aR (a:=sOp++[32]++Lib.itoa o.kind) (b:=[32]) rfl rfl (by simp[sOp]; omega) rfl) ?_;refine dC [3] [] ?_;refine dQ [50,51] [] (aR (a:=sOp++[32]++Lib.itoa o.kind++[32]) (b:=Lib.itoa o.index) rfl rfl (by simp[sOp]; omega) rfl) ?_;refine dQ [52] [] (aR (a:=sOp++[32]++Lib.itoa o.kind++[32]++Lib.itoa o.index) (b:=[32]) rfl rfl (by simp[sOp]; omega) rfl) ?_;refine dC [1] [] ?_;refine dQ [54] [64] iB ?_;refine dQ [55] [] (ak (l7 o.data hL) rfl rfl (aj ae) (.inl rfl) (fun _=>rfl)) ?_;refine dQ [53,56] [] (aR (a:=sOp++[32]++Lib.itoa o.kind++[32]++Lib.itoa o.index++[32]) (b:=hexP o.data) rfl rfl (by simp[sOp]; omega) rfl) ?_;refine dC [57] [] ?_;refine aC (by kernel_rfl)<|aU<|cg ?_
 exact⟨trivial,[],lf⟩
theorem vv (o:POp) (hok:o.Ok) (hL:o.data.length≤524288) (hk:o.kind=3) (hi0:o.index=0) (hd0:¬o.data=[]):FnIs Tryz.prog 47 [.d (br o)] [] (.d (strD (bO o))) []:=by
 obtain⟨⟨kk0,kk1⟩,h0,h1⟩:=hok
 have k0 : -9223372036854775808≤o.kind:=by omega
 have k1:o.kind≤9223372036854775807:=by omega
 have hwk:IntKind.i64.wrap o.kind=o.kind:=aI (by omega) (by omega)
 have l1:=bf h0 h1
 have l2:=bf k0 k1
 have l3:=cT o.data
 have hk1:decide (o.kind=1)=false:=dF (by omega)
 have hk2:decide (o.kind=2)=false:=dF (by omega)
 have hk3:decide (o.kind=3)=true:=dT (by omega)
 have hi:decide (o.index=0)=true:=dT hi0
 have hd:=jC o.data false (dF hd0)
 rw[show bO o=sOp++[32]++Lib.itoa o.kind++[32]++Lib.itoa o.index++[32]++hexP o.data by rw[bO,if_neg (fun h=>by have:=h.1; omega),if_neg (by omega),if_neg (fun h=>hd0 h.2.2)]; simp]
 refine aw aa Tryz.func47 rfl rfl rfl ?_;refine sR<|rN ?_;refine rC<|nR ?_;refine rC ?_;refine rQ iB ?_;refine rQ (ak (cu h0 h1) rfl rfl (aj ae) (.inl rfl) (fun _=>rfl)) ?_;refine rC<|nQ<|zS ?_;refine rC ?_;refine rQ iB ?_;refine zD ?_
 iterate 4 refine rS ?_
 refine rQ iF ?_;refine rC ?_;refine zJ<|sR ?_;refine rC ?_;refine rQ iB ?_;refine zD ?_;refine zG<|sR ?_;refine rC ?_;refine rQ iB ?_;refine zD ?_;refine rO ?_;refine rC ?_;refine rO ?_;refine rQ iB ?_;refine rO ?_;refine rC ?_;refine rQ iT ?_;refine rC ?_;refine rO ?_;refine rC ?_;refine rO ?_;refine rQ iB ?_;refine rO ?_;refine rQ iE ?_;refine rO ?_;refine rC ?_;refine rQ iT ?_;refine rC ?_;refine zG<|bG<|zC<|b9 ?_;refine aH (by kernel_rfl) ?_;refine dC [1] [] ?_;refine dQ [45] [64] iB ?_;refine dQ [46] [] (bg (m:=o.kind) aa rfl rfl rfl hwk) ?_;refine dQ [47] [] (ak (cu k0 k1) rfl rfl (aj ae) (.inl rfl) (fun _=>rfl)) ?_;refine dQ [48] [] (aR (a:=sOp++[32]) (b:=Lib.itoa o.kind) rfl rfl (by simp[sOp]; omega) rfl) ?_;refine dQ [49] [] (aR (a:=sOp++[32]++Lib.itoa o.kind) (b:=[32]) rfl rfl (by simp[sOp]; omega) rfl) ?_;refine dC [3] [] ?_;refine dQ [50,51] [] (aR (a:=sOp++[32]++Lib.itoa o.kind++[32]) (b:=Lib.itoa o.index) rfl rfl (by simp[sOp]; omega) rfl) ?_;refine dQ [52] [] (aR (a:=sOp++[32]++Lib.itoa o.kind++[32]++Lib.itoa o.index) (b:=[32]) rfl rfl (by simp[sOp]; omega) rfl) ?_;refine dC [1] [] ?_;refine dQ [54] [64] iB ?_;refine dQ [55] [] (ak (l7 o.data hL) rfl rfl (aj ae) (.inl rfl) (fun _=>rfl)) ?_;refine dQ [53,56] [] (aR (a:=sOp++[32]++Lib.itoa o.kind++[32]++Lib.itoa o.index++[32]) (b:=hexP o.data) rfl rfl (by simp[sOp]; omega) rfl) ?_;refine dC [57] [] ?_;refine aC (by kernel_rfl)<|aU<|cg ?_
 exact⟨trivial,[],lf⟩
theorem ob (o:POp) (hok:o.Ok) (hL:o.data.length≤524288):FnIs Tryz.prog 47 [.d (br o)] [] (.d (strD (bO o))) []:=by
 by_cases k1:o.kind=1
 ·by_cases hd:o.data=[]
  ·exact tl o hok hL k1 hd
  ·exact vy o hok hL k1 hd
 by_cases k2:o.kind=2
 ·exact qK o hok hL k2
 by_cases k3:o.kind=3
 ·by_cases hi:o.index=0
  ·by_cases hd:o.data=[]
   ·exact qL o hok hL k3 hi hd
   ·exact vv o hok hL k3 hi hd
  ·exact vw o hok hL k3 hi
 ·exact vx o hok hL k1 k2 k3
def Bd (l:List (List POp)):Prop:=l.length≤1000000000∧∀p∈l,p.length≤1000000000
theorem wx {l:List (List POp)} (h:chkP l=0):Bd l:=by
 obtain⟨h1,h2⟩:=ep.1 h
 refine⟨by omega,fun p hp=>?_⟩
 have:=h2 p hp
 simp only[badP,Bool.or_eq_false_iff,decide_eq_false_iff_not]at this
 omega
def ey (l:List (List POp)) (i:Nat) (p:List POp) (j:Nat):List UInt8:=bJ (l.take i)++(bh++10::opsT (p.take j))
theorem qF (l:List (List POp)) (i:Nat) (p:List POp):ey l i p 0=bJ (l.take i)++(bh++[10]):=by simp[ey,opsT]
theorem uU {l:List (List POp)} {i j:Nat} {p:List POp} {o:POp} (ho:p[j]?=some o):ey l i p j++(bO o++[10])=ey l i p (j+1):=by
 rw[ey,ey,List.take_add_one,ho,Option.toList_some,m8]
 simp
theorem j1 {l:List (List POp)} {i:Nat} {p:List POp} (hp:l[i]?=some p):ey l i p p.length=bJ (l.take (i+1)):=by
 rw[ey,List.take_length,List.take_add_one,hp,Option.toList_some,gu]
theorem sT (a b:List (List POp)):bJ (a++b)=bJ a++bJ b:=by simp[bJ]
theorem uo (l:List (List POp)) (i:Nat):(bJ (l.take i)).length≤(bJ l).length:=by
 have:=congrArg List.length (sT (l.take i) (l.drop i))
 rw[List.take_append_drop,List.length_append]at this
 omega
theorem va (a b:List POp):opsT (a++b)=opsT a++opsT b:=by simp[opsT]
theorem xj (l:List POp) (i:Nat):(opsT (l.take i)).length≤(opsT l).length:=by
 have:=congrArg List.length (va (l.take i) (l.drop i))
 rw[List.take_append_drop,List.length_append]at this
 omega
theorem o9 {l:List (List POp)} {i j:Nat} {p:List POp} (hp:l[i]?=some p):(ey l i p j).length≤(bJ l).length:=by
 have h1:=uo l (i+1)
 rw[←j1 hp]at h1
 have h2:=xj p j
 simp only[ey,List.length_append,List.length_cons,List.take_length]at h1 ⊢
 omega
theorem oJ {l:List (List POp)} (hok:OkL l) (hc:chkP l=0):(bJ l).length≤1048576∧∀p∈l,∀o∈p,o.data.length≤64:=by
 obtain⟨h1,h2⟩:=ep.1 hc
 have hb:∀p∈l,p.length≤64∧∀o∈p,o.Ok∧o.data.length≤64:=fun p hp=>by
  have:=h2 p hp
  simp only[badP,Bool.or_eq_false_iff,decide_eq_false_iff_not,List.any_eq_false,decide_eq_true_eq]at this
  exact⟨by omega,fun o ho=>⟨hok p hp o ho,by have:=this.2 o ho; omega⟩⟩
 have:=lq (D:=64) (N:=64) l hb
 have h3:(7+(51+2*64)*64)*l.length≤(7+(51+2*64)*64)*8:=Nat.mul_le_mul_left _ h1
 exact⟨by omega,fun p hp o ho=>((hb p hp).2 o ho).2⟩
theorem un (l:List (List POp)) (hB:Bd l) (h0:chkP l≠0):FnIs Tryz.prog 22 [.d (cE l)] [] (.tup (.acons (.d (strD [])) (.acons (.d (i6 (chkP l))) .anil))) []:=by
 have hC:=jN l hB.1 hB.2
 have hn:(!decide (chkP l=0))=true:=by rw[dF h0]; rfl
 refine aw aa Tryz.func22 rfl rfl rfl ?_;refine sR<|zD<|zW ?_;refine rC ?_;refine rQ (ak hC rfl rfl (aj ae) (.inl rfl) (fun _=>rfl)) ?_;refine rC<|nR ?_;refine zD ?_;refine zI<|sR ?_;refine zU<|zT<|ba ?_
 exact⟨trivial,[],lf⟩
theorem sP:FnIs Tryz.prog 22 [.d (cE [])] [] (.tup (.acons (.d (strD [])) (.acons (.d (i6 0)) .anil))) []:=by
 have hC:=jN [] (by decide) (by simp)
 have h0:chkP []=0:=rfl
 rw[h0]at hC
 refine aw aa Tryz.func22 rfl rfl rfl ?_;refine sR<|zD<|zW ?_;refine rC ?_;refine rQ (ak hC rfl rfl (aj ae) (.inl rfl) (fun _=>rfl)) ?_;refine rC<|nR ?_;refine zD ?_;refine zJ<|kS<|sR ?_;refine rN<|zW ?_;refine rC ?_;refine rQ iE ?_;refine rC<|zP ?_;refine kP<|sR ?_;refine rC<|nQ ?_;refine wG<|zX<|sR ?_;refine aN (aO [(0,some 120)] ov rfl rfl rfl (aK rfl rfl ae) ⟨zH,trivial⟩ rfl rfl (.inl rfl) rfl rfl) rfl ?_;refine zD<|zT ?_
 exact⟨trivial,[],lf⟩
theorem sQ (l:List (List POp)) (hB:Bd l) (hne:l≠[]) (h0:chkP l=0) (hok:OkL l):FnIs Tryz.prog 22 [.d (cE l)] [] (.tup (.acons (.d (strD (bJ l))) (.acons (.d (i6 0)) .anil))) []:=by
 have hC:=jN l hB.1 hB.2
 obtain⟨htm,hdm⟩:=oJ hok h0
 rw[h0]at hC
 have hl8:l.length≤8:=(ep.1 h0).1
 refine aw aa Tryz.func22 rfl rfl rfl ?_;refine sR<|zD<|zW ?_;refine rC ?_;refine rQ (ak hC rfl rfl (aj ae) (.inl rfl) (fun _=>rfl)) ?_;refine rC<|nR ?_;refine zD ?_;refine zJ<|kS<|sR ?_;refine rN<|zW ?_;refine rC ?_;refine rQ iE ?_;refine rC<|zP ?_
 refine wc_inv (fun i:Nat=>⟨[(17,.int .i64 i),(16,.int .i64 l.length),(15,.d (cE l)),(5,.ptr 65 [])],[(65,some (cw (Nat.beq i 0) 65 66 (bJ (l.take i)).length)),(66,some (rowT (bJ (l.take i))))],72,Tryz.f22.ntmps,64⟩) (fun i=>i≤l.length) (fun i=>l.length-i) 0 [(65,some 120),(66,none)] (Nat.zero_le _)
  (lg zi ⟨⟨rfl,rfl,_,rfl,aE.split2⟩,⟨rfl,rfl,rfl⟩,trivial⟩) ?_
 intro i hi
 refine bv<|sR ?_;refine rC<|nQ ?_
 refine eR rfl (fun h3=>?_) (fun h3=>?_)
 ·have hlt:i<l.length:=by have:=of_decide_eq_true h3; omega
  obtain⟨p,hp⟩:∃p,l[i]?=some p:=⟨_,List.getElem?_eq_getElem hlt⟩
  have hp':l[((i:Int)).toNat]?=some p:=by rw[Int.toNat_natCast]; exact hp
  have hpm:=List.mem_of_getElem? hp
  have hpB:p.length≤1000000000:=hB.2 p hpm
  have hz:=o9 (j:=0) hp
  have hpz:=qF l i p
  have hpn:(ey l i p 0).length=(bJ (l.take i)).length+(bh++[10]).length:=by rw[hpz,List.length_append]
  have hq1:(bJ (l.take i)).length+(bh++[10]).length≤1048576:=by rw[hpz,List.length_append]at hz; omega
  refine zQ<|zS<|rQ iA ?_;refine rQ iL ?_;refine rC<|nR ?_;refine bz rfl (aO [(0,some 65),(1,some 66)] (ko (Nat.beq i 0) (bJ (l.take i)) (bh++[10]) (bJ (l.take i)).length rfl (by decide) hq1) rfl rfl rfl (aK rfl rfl (aj ae)) ⟨⟨rfl,(by cases Nat.beq i 0 <;> rfl),_,_,rfl,rfl,(by cases Nat.beq i 0 <;> exact .refl _)⟩,zH,trivial⟩ rfl rfl (.inl rfl) rfl rfl) rfl rfl<|nR ?_;refine rC ?_;refine rQ iE ?_;refine rC<|zP ?_
  refine wc_inv (fun j:Nat=>⟨[(24,.int .i64 j),(23,.int .i64 p.length),(22,.d (encP p)),(17,.int .i64 i),(16,.int .i64 l.length),(15,.d (cE l)),(5,.ptr 65 [])],[(65,some (cw false 65 66 (ey l i p j).length)),(66,some (rowT (ey l i p j)))],72,Tryz.f22.ntmps,64⟩) (fun j=>j≤p.length) (fun j=>p.length-j) 0 [(66,some 104)] (Nat.zero_le _)
   (lg zf ⟨⟨rfl,rfl,_,rfl,aE.of_eq (by rw[hpn]; rfl)⟩,⟨rfl,rfl,_,rfl,aE.of_eq (by rw[hpz]; rfl)⟩,trivial⟩) ?_
  intro j hj
  refine bv<|sR ?_;refine rC<|nQ ?_
  refine eR rfl (fun h4=>?_) (fun h4=>?_)
  ·have hjl:j<p.length:=by have:=of_decide_eq_true h4; omega
   obtain⟨o,ho⟩:∃o,p[j]?=some o:=⟨_,List.getElem?_eq_getElem hjl⟩
   have ho':p[((j:Int)).toNat]?=some o:=by rw[Int.toNat_natCast]; exact ho
   have hom:=List.mem_of_getElem? ho
   have ho1:=hok p hpm o hom
   have ho2:o.data.length≤524288:=by have:=hdm p hpm o hom; omega
   have hgo:=uU (l:=l) (i:=i) ho
   have hpl:=o9 (j:=j+1) hp
   have hgn:(ey l i p (j+1)).length=(ey l i p j).length+(bO o++[10]).length:=by rw[←hgo,List.length_append]
   have hq2:(ey l i p j).length+(bO o++[10]).length≤1048576:=by rw[←hgo,List.length_append]at hpl; omega
   have hq3:(bO o).length+[(10:UInt8)].length≤9223372036854775807:=by simp only[List.length_append]at hq2; omega
   have hq4:0<(bO o++[10]).length:=by simp
   refine zQ<|zS<|rQ iA ?_;refine rQ iL ?_;refine rN ?_;refine rW<|nS<|ao ?_;refine rQ iM ?_;refine rQ (ak (ob o ho1 ho2) rfl rfl (aj ae) (.inl rfl) (fun _=>rfl)) ?_;refine rQ (aR (a:=bO o) (b:=[10]) rfl rfl hq3 rfl) ?_;refine bz rfl (aO [(0,some 65),(1,some 66)] (ko false (ey l i p j) (bO o++[10]) (ey l i p j).length rfl hq4 hq2) rfl rfl rfl (aK rfl rfl (aj ae)) ⟨zH,zH,trivial⟩ rfl rfl (.inl rfl) rfl rfl) rfl rfl<|aB<|zC<|ao ?_;refine rQ iD ?_;refine rC<|aB ?_
   exact aY (j+1) [(66,some 136)] hjl (by omega) (lg zf ⟨⟨rfl,rfl,_,rfl,aE.of_eq (by rw[hgn]; rfl)⟩,⟨rfl,rfl,_,rfl,aE.of_eq (congrArg rowT hgo)⟩,trivial⟩)
  ·have he:j=p.length:=by have:=of_decide_eq_false h4; omega
   subst he
   refine dA<|gg<|eJ<|gq<|zC<|ao<|rQ iD ?_;refine rC<|aB ?_
   exact aY (i+1) [] hlt (by omega) (lg zi ⟨⟨rfl,rfl,_,rfl,aE.of_eq (by rw[j1 hp]; rfl)⟩,⟨rfl,rfl,_,rfl,aE.of_eq (congrArg rowT (j1 hp))⟩,trivial⟩)
 ·have he:i=l.length:=by have:=of_decide_eq_false h3; omega
  subst he
  have hpos:0<l.length:=List.length_pos_iff.2 hne
  have hne2:bJ l≠[]:=fun e=>by
   cases l with
   | nil=>exact hne rfl
   | cons p l=>simp[bJ,bh]at e
  have hbz:Nat.beq l.length 0=false:=by
   cases hz:Nat.beq l.length 0 with
   | false=>rfl
   | true=>have:=Nat.eq_of_beq_eq_true hz; omega
  rw[hbz,List.take_length]
  refine zX<|sR<|aJ (aO [(0,some 65),(1,some 66)] (jo (bJ l) (bJ l).length rfl hne2 htm) rfl rfl rfl (aK rfl rfl ae) ⟨zH,zH,trivial⟩ rfl rfl (.inl rfl) rfl rfl) rfl ?_;refine zD<|zT ?_
  exact⟨trivial,[],lf⟩
theorem rE (l:List (List POp)) (hB:Bd l) (hok:OkL l):FnIs Tryz.prog 22 [.d (cE l)] [] (.tup (.acons (.d (strD (if chkP l=0 then bJ l else[]))) (.acons (.d (i6 (chkP l))) .anil))) []:=by
 by_cases h0:chkP l=0
 ·rw[if_pos h0,h0]
  by_cases hn:l=[]
  ·subst hn; exact sP
  ·exact sQ l hB hn h0 hok
 ·rw[if_neg h0]
  exact un l hB h0
abbrev rowS (l:List (List UInt8)):Row :=.ds 9 1 false strD l
theorem xF (m:Nat) (hm:0<m) (hlen:m≤1048576):FnIs Tryz.prog 120 [.d (.sc nil_),.int .i64 m] [] (.own 64 0 0 1 none) [(64,rowS [])]:=by
 have d0:decide ((m:Int)<0)=false:=dF (by omega)
 have d1:decide (0<(m:Int))=true:=dT (by omega)
 have hw:IntKind.i64.wrap ((m:Int)-0)=m:=by rw[Int.sub_zero]; exact aI (by omega) (by omega)
 refine aw aa Tryz.func120 rfl rfl rfl ?_;refine sR<|rC<|zW ?_;refine zD ?_;refine zJ<|kS<|qR ?_;refine zD ?_;refine rQ (sD aa rfl rfl) ?_;refine rC ?_;refine rQ (oc aa rfl rfl) ?_;refine rQ (cq (m:=0) aa rfl rfl rfl) ?_;refine rQ (cq (m:=(m:Int)) aa rfl rfl hw) ?_;refine rC<|nR ?_;refine zD ?_;refine zI<|ao ?_;refine zD ?_;refine rQ (sD aa rfl rfl) ?_;refine rQ (ux aa rfl rfl rfl rfl) ?_;refine rC ?_;refine aN (ox (m:=m) (s:=1) (e:=9) (re:=r9) aa strD rfl Tryz.underlying3 rfl rfl rfl rfl rfl hm hlen rfl) rfl ?_;refine rC ?_;refine rQ (oc aa rfl rfl) ?_;refine rQ (nP aa rfl rfl rfl rfl (Nat.zero_le _)) ?_;refine rC<|nR ?_;refine zD<|zT ?_
 exact⟨trivial,[(64,some 208)],lg zV ⟨zR,trivial⟩⟩
abbrev kC (x:List (List UInt8)):D :=.arr 1 strD x
abbrev FL (ls:List (List (List UInt8))) (i:Nat):Nat:=(ls.take i).flatten.length
theorem yd {ls:List (List (List UInt8))} {i:Nat} {x:List (List UInt8)} (h:ls[i]?=some x):(ls.take (i+1)).flatten=(ls.take i).flatten++x:=by
 rw[List.take_add_one,h]
 simp
theorem yc (ls:List (List (List UInt8))) (i:Nat):FL ls i≤ls.flatten.length:=by
 have:=congrArg List.flatten (List.take_append_drop i ls)
 rw[List.flatten_append]at this
 have:=congrArg List.length this
 rw[List.length_append]at this
 simp only[FL]
 omega
theorem tV (ls:List (List (List UInt8))) (hp:0<ls.flatten.length) (hL:ls.flatten.length≤1048576) (hn:ls.length≤1000000):FnIs Tryz.prog 97 [.d (.arr 1 kC ls)] [] (.own 64 0 ls.flatten.length 1 none) [(64,rowS ls.flatten)]:=by
 refine aw aa Tryz.func97 rfl rfl rfl ?_;refine sR<|rC<|nR ?_;refine rC<|zW ?_;refine rC ?_;refine rQ iE ?_;refine rC<|zP ?_
 refine wc_inv (fun i:Nat=>⟨[(11,.int .i64 i),(10,.int .i64 ls.length),(9,.d (.arr 1 kC ls)),(3,.int .i64 (FL ls i)),(0,.d (.arr 1 kC ls))],[],72,Tryz.f97.ntmps,64⟩) (fun i=>i≤ls.length) (fun i=>ls.length-i) 0 [] (Nat.zero_le _)
  (lg zh trivial) ?_
 intro i hi
 refine bv<|sR ?_;refine rC<|nQ ?_
 refine eR rfl (fun h2=>?_) (fun h2=>?_)
 ·have hlt:i<ls.length:=by have:=of_decide_eq_true h2; omega
  obtain⟨x,hx⟩:∃u,ls[i]?=some u:=⟨_,List.getElem?_eq_getElem hlt⟩
  have hx':ls[((i:Int)).toNat]?=some x:=by rw[Int.toNat_natCast]; exact hx
  have hg:FL ls (i+1)=FL ls i+x.length:=by simp only[FL,yd hx,List.length_append]
  have hle:=yc ls (i+1)
  have hw:IntKind.i64.wrap ((FL ls i:Int)+(x.length:Int))=(FL ls (i+1):Nat):=by rw[hg]; push_cast; exact aI (by omega) (by omega)
  have d0:decide (((FL ls (i+1):Nat):Int)<0)=false:=dF (by omega)
  refine zQ<|zS<|rQ iA ?_;refine rQ iL ?_;refine rC<|nR ?_;refine zD ?_;refine rQ iE ?_;refine rQ (bk (m:=((FL ls (i+1):Nat):Int)) aa rfl rfl hw) ?_;refine rC<|nR ?_;refine zD ?_;refine zJ<|bG<|zC<|ao ?_;refine rQ iD ?_;refine rC<|aB ?_;refine aY (i+1) [] hlt (by omega) ?_
  exact lg zh trivial
 ·have he:i=ls.length:=by have:=of_decide_eq_false h2; omega
  subst he
  have hF:FL ls ls.length=ls.flatten.length:=by simp only[FL,List.take_length]
  rw[hF]
  refine zX<|sR<|rC ?_;refine aN (fC (xF ls.flatten.length hp hL) rfl rfl (aj (aj ae)) (.inl rfl) rfl rfl) rfl ?_;refine rC<|zW ?_;refine rC ?_;refine rQ iE ?_;refine rC<|zP ?_
  refine wc_inv (fun i:Nat=>⟨[(27,.int .i64 i),(26,.int .i64 ls.length),(25,.d (.arr 1 kC ls)),(6,.own 64 0 (FL ls i) 1 none)],[(64,some (rowS (ls.take i).flatten))],72,Tryz.f97.ntmps,64⟩) (fun i=>i≤ls.length) (fun i=>ls.length-i) 0 [(64,some 88)] (Nat.zero_le _)
   (lg zi ⟨zR,trivial⟩) ?_
  intro i hi
  refine bv<|sR ?_;refine rC<|nQ ?_
  refine eR rfl (fun h2=>?_) (fun h2=>?_)
  ·have hlt:i<ls.length:=by have:=of_decide_eq_true h2; omega
   obtain⟨x,hx⟩:∃u,ls[i]?=some u:=⟨_,List.getElem?_eq_getElem hlt⟩
   have hx':ls[((i:Int)).toNat]?=some x:=by rw[Int.toNat_natCast]; exact hx
   have hg:=yd hx
   have hle:=yc ls (i+1)
   cases x with
   | nil =>
    rw[List.append_nil]at hg
    refine zQ<|zS<|rQ iA ?_;refine rQ iL ?_;refine rC<|nS<|ao ?_;refine zD ?_;refine rQ (oy (α:=(List UInt8)) (s':=1) (enc:=strD) aa rfl rfl rfl rfl) ?_;refine rC<|aB<|zC<|ao ?_;refine rQ iD ?_;refine rC<|aB ?_;refine aY (i+1) [] hlt (by omega) ?_
    simp only[FL,hg]
    exact lg zi ⟨zR,trivial⟩
   | cons y ys =>
    have hgl:FL ls (i+1)=FL ls i+(y::ys).length:=by simp only[FL,hg,List.length_append]
    have hlen:((ls.take i).flatten).length+(y::ys).length≤1048576:=by rw[←hgl]; omega
    refine zQ<|zS<|rQ iA ?_;refine rQ iL ?_;refine rC<|nS<|ao ?_;refine zD ?_;refine aJ (mD (xs:=(ls.take i).flatten) (ys:=y::ys) (enc:=strD) (s:=1) (ex:=false) aa rfl rfl rfl rfl rfl rfl rfl (Nat.succ_pos _) hlen rfl) rfl ?_;refine rC<|aB<|zC<|ao ?_;refine rQ iD ?_;refine rC<|aB ?_;refine aY (i+1) [(64,some 120)] hlt (by omega) ?_
    rw[hgl,hg]
    exact lg zi ⟨zR,trivial⟩
  ·have he:i=ls.length:=by have:=of_decide_eq_false h2; omega
   subst he
   refine zX<|sR<|zD<|zT ?_
   simp only[FL,List.take_length]
   exact⟨trivial,[(64,some 64)],lg zV ⟨zR,trivial⟩⟩
def opV (k i d:List UInt8):POp:=⟨puV k,nG i,(bQ d).getD []⟩
def opOk (k i d:List UInt8):Bool:=(bQ d).isSome&&puOk k&&hZ i
abbrev opR (o:POp) (b:Bool):AV :=.tup (.acons (.d (br o)) (.acons (.bool b) .anil))
def pc:POp:=⟨0,0,[]⟩
theorem yv (k:List UInt8):0≤puV k∧puV k≤255:=by
 unfold puV
 split
 ·rename_i u h
  rw[Lib.parseUintB]at h
  split at h
  ·cases h
  ·have:=Lib.parseUintM_le (2 ^ 8-1) _ 0 _ (by decide) h
   omega
 ·omega
 ·omega
theorem vh (k i d:List UInt8):opF k i d=if opOk k i d then some (opV k i d) else none:=by
 unfold opF opOk opV puOk puV hZ nG
 cases Lib.parseUintB 8 k <;> cases Lib.atoiAll i <;> cases bQ d <;> rfl
theorem yC:AVLe (.d (.cons (.sc (.int .u8 0)) (.cons (.sc (.int .i64 0)) (.cons (.sc nil_) .nil)))) (.d (br pc)):=by
 intro σ w X v h
 unfold RelV at h ⊢
 rw[if_pos (by rfl)]at h ⊢
 obtain⟨c,rfl,c1,r1,rfl,h1,c2,r2,rfl,h2,c3,r3,rfl,h3,h4⟩:=h
 exact⟨_,rfl,c1,_,rfl,h1,c2,_,rfl,h2,c3,r3,rfl,.inl ⟨rfl,h3.1⟩,h4⟩
theorem kM (w:List (List UInt8)) (h3:w.length≠3):FnIs Tryz.prog 96 [.d (.arr 1 strD w)] [] (opR pc false) []:=by
 have hn:(!decide ((w.length:Int)=3))=true:=by rw[dF (by omega)]; rfl
 refine aw aa Tryz.func96 rfl rfl rfl ?_;refine sR<|rN ?_;refine rC<|zW ?_;refine rC ?_;refine rQ iE ?_;refine rC<|nS ?_;refine wT<|sR ?_;refine rQ iM ?_;refine rW ?_;refine rC<|zT<|ba ?_
 exact⟨trivial,_,rfl,[],lg ⟨⟨_,rfl,AVLe.tup1 yC rfl⟩,rfl,trivial⟩ trivial⟩
theorem lI (k i d:List UInt8) (hk:k.length≤281474976710656) (hi:i.length≤281474976710656) (hd:d.length≤1048576) (b1 b2 b3:Bool) (h1:(bQ d).isSome=b1) (h2:puOk k=b2) (h3:hZ i=b3):FnIs Tryz.prog 96 [.d (.arr 1 strD [k,i,d])] [] (opR (opV k i d) (opOk k i d)) []:=by
 have hw:IntKind.u8.wrap (puV k)=puV k:=by
  obtain⟨p1,p2⟩:=yv k
  rw[show puV k=((puV k).toNat:Int) by omega]
  exact cG (by omega)
 rw[show opOk k i d=(b1&&b2&&b3) by rw[opOk,h1,h2,h3]]
 have hp:=Bm hk
 have ha:=xU hi
 have hu:=uk d hd
 rw[h2]at hp
 rw[h3]at ha
 unfold unR at hu
 rw[h1]at hu
 refine aw aa Tryz.func96 rfl rfl rfl ?_
 have g0:[k,i,d][((0:Int)).toNat]?=some k:=rfl
 have g1:[k,i,d][((1:Int)).toNat]?=some i:=rfl
 have g2:[k,i,d][((2:Int)).toNat]?=some d:=rfl
 cases b1 <;> cases b2 <;> cases b3
 ·refine sR<|rN ?_;refine rC<|zW ?_;refine rC ?_;refine rQ iE ?_;refine rC ?_;refine zJ<|kS<|sR ?_;refine rC ?_;refine rQ iA ?_;refine rQ iL ?_;refine rQ (ak hp rfl rfl (aj (aj (aj ae))) (.inl rfl) (fun _=>rfl)) ?_;iterate 5 refine rC ?_
  refine nR<|rC ?_;refine rQ iA ?_;refine rQ iL ?_;refine rQ (ak ha rfl rfl (aj ae) (.inl rfl) (fun _=>rfl)) ?_;iterate 5 refine rC ?_
  refine nR<|rC ?_;refine rQ iA ?_;refine rQ iL ?_;refine rQ (ak hu rfl rfl (aj ae) (.inl rfl) (fun _=>rfl)) ?_;iterate 5 refine rC ?_
  refine nQ<|aH (by kernel_rfl) ?_;refine dC [4] [] ?_;refine dQ [34] [] (bg (m:=puV k) aa rfl rfl rfl hw) ?_;refine dC [6] [] ?_;refine dC [8] [] ?_;refine dQ [35,36,37] [] iS ?_;refine dC [3] [] ?_;refine dC [39] [] ?_;refine ai [40,5] rfl rfl rfl rfl ?_;refine ai [40,41] rfl rfl rfl rfl ?_;refine dQ [40,42] [] iG ?_;refine dC [43] [] ?_;refine ai [44,7] rfl rfl rfl rfl ?_;refine ai [44,45] rfl rfl rfl rfl ?_;refine dQ [44,46] [] iG ?_;refine ca [2,38] [64] (aF aa rfl rfl rfl ⟨_,⟨rfl,rfl,rfl⟩,rfl⟩ rfl) ?_;refine dC [47] [] ?_;refine aC (by kernel_rfl)<|aU<|cg ?_
  exact⟨trivial,_,rfl,[],lf⟩
 ·refine sR<|rN ?_;refine rC<|zW ?_;refine rC ?_;refine rQ iE ?_;refine rC ?_;refine zJ<|kS<|sR ?_;refine rC ?_;refine rQ iA ?_;refine rQ iL ?_;refine rQ (ak hp rfl rfl (aj (aj (aj ae))) (.inl rfl) (fun _=>rfl)) ?_;iterate 5 refine rC ?_
  refine nR<|rC ?_;refine rQ iA ?_;refine rQ iL ?_;refine rQ (ak ha rfl rfl (aj ae) (.inl rfl) (fun _=>rfl)) ?_;iterate 5 refine rC ?_
  refine nR<|rC ?_;refine rQ iA ?_;refine rQ iL ?_;refine rQ (ak hu rfl rfl (aj ae) (.inl rfl) (fun _=>rfl)) ?_;iterate 5 refine rC ?_
  refine nQ<|aH (by kernel_rfl) ?_;refine dC [4] [] ?_;refine dQ [34] [] (bg (m:=puV k) aa rfl rfl rfl hw) ?_;refine dC [6] [] ?_;refine dC [8] [] ?_;refine dQ [35,36,37] [] iS ?_;refine dC [3] [] ?_;refine dC [39] [] ?_;refine ai [40,5] rfl rfl rfl rfl ?_;refine ai [40,41] rfl rfl rfl rfl ?_;refine dQ [40,42] [] iG ?_;refine dC [43] [] ?_;refine ai [44,7] rfl rfl rfl rfl ?_;refine ai [44,45] rfl rfl rfl rfl ?_;refine dQ [44,46] [] iG ?_;refine ca [2,38] [64] (aF aa rfl rfl rfl ⟨_,⟨rfl,rfl,rfl⟩,rfl⟩ rfl) ?_;refine dC [47] [] ?_;refine aC (by kernel_rfl)<|aU<|cg ?_
  exact⟨trivial,_,rfl,[],lf⟩
 ·refine sR<|rN ?_;refine rC<|zW ?_;refine rC ?_;refine rQ iE ?_;refine rC ?_;refine zJ<|kS<|sR ?_;refine rC ?_;refine rQ iA ?_;refine rQ iL ?_;refine rQ (ak hp rfl rfl (aj (aj (aj ae))) (.inl rfl) (fun _=>rfl)) ?_;iterate 5 refine rC ?_
  refine nR<|rC ?_;refine rQ iA ?_;refine rQ iL ?_;refine rQ (ak ha rfl rfl (aj ae) (.inl rfl) (fun _=>rfl)) ?_;iterate 5 refine rC ?_
  refine nR<|rC ?_;refine rQ iA ?_;refine rQ iL ?_;refine rQ (ak hu rfl rfl (aj ae) (.inl rfl) (fun _=>rfl)) ?_;iterate 5 refine rC ?_
  refine nQ<|aH (by kernel_rfl) ?_;refine dC [4] [] ?_;refine dQ [34] [] (bg (m:=puV k) aa rfl rfl rfl hw) ?_;refine dC [6] [] ?_;refine dC [8] [] ?_;refine dQ [35,36,37] [] iS ?_;refine dC [3] [] ?_;refine dC [39] [] ?_;refine ai [40,5] rfl rfl rfl rfl ?_;refine ai [40,41] rfl rfl rfl rfl ?_;refine dQ [40,42] [] iG ?_;refine dC [43] [] ?_;refine ai [44,7] rfl rfl rfl rfl ?_;refine ai [44,45] rfl rfl rfl rfl ?_;refine dQ [44,46] [] iG ?_;refine ca [2,38] [64] (aF aa rfl rfl rfl ⟨_,⟨rfl,rfl,rfl⟩,rfl⟩ rfl) ?_;refine dC [47] [] ?_;refine aC (by kernel_rfl)<|aU<|cg ?_
  exact⟨trivial,_,rfl,[],lf⟩
 ·refine sR<|rN ?_;refine rC<|zW ?_;refine rC ?_;refine rQ iE ?_;refine rC ?_;refine zJ<|kS<|sR ?_;refine rC ?_;refine rQ iA ?_;refine rQ iL ?_;refine rQ (ak hp rfl rfl (aj (aj (aj ae))) (.inl rfl) (fun _=>rfl)) ?_;iterate 5 refine rC ?_
  refine nR<|rC ?_;refine rQ iA ?_;refine rQ iL ?_;refine rQ (ak ha rfl rfl (aj ae) (.inl rfl) (fun _=>rfl)) ?_;iterate 5 refine rC ?_
  refine nR<|rC ?_;refine rQ iA ?_;refine rQ iL ?_;refine rQ (ak hu rfl rfl (aj ae) (.inl rfl) (fun _=>rfl)) ?_;iterate 5 refine rC ?_
  refine nQ<|aH (by kernel_rfl) ?_;refine dC [4] [] ?_;refine dQ [34] [] (bg (m:=puV k) aa rfl rfl rfl hw) ?_;refine dC [6] [] ?_;refine dC [8] [] ?_;refine dQ [35,36,37] [] iS ?_;refine dC [3] [] ?_;refine dC [39] [] ?_;refine ai [40,5] rfl rfl rfl rfl ?_;refine ai [40,41] rfl rfl rfl rfl ?_;refine dQ [40,42] [] iG ?_;refine dC [43] [] ?_;refine ai [44,7] rfl rfl rfl rfl ?_;refine ai [44,45] rfl rfl rfl rfl ?_;refine dQ [44,46] [] iG ?_;refine ca [2,38] [64] (aF aa rfl rfl rfl ⟨_,⟨rfl,rfl,rfl⟩,rfl⟩ rfl) ?_;refine dC [47] [] ?_;refine aC (by kernel_rfl)<|aU<|cg ?_
  exact⟨trivial,_,rfl,[],lf⟩
 ·refine sR<|rN ?_;refine rC<|zW ?_;refine rC ?_;refine rQ iE ?_;refine rC ?_;refine zJ<|kS<|sR ?_;refine rC ?_;refine rQ iA ?_;refine rQ iL ?_;refine rQ (ak hp rfl rfl (aj (aj (aj ae))) (.inl rfl) (fun _=>rfl)) ?_;iterate 5 refine rC ?_
  refine nR<|rC ?_;refine rQ iA ?_;refine rQ iL ?_;refine rQ (ak ha rfl rfl (aj ae) (.inl rfl) (fun _=>rfl)) ?_;iterate 5 refine rC ?_
  refine nR<|rC ?_;refine rQ iA ?_;refine rQ iL ?_;refine rQ (ak hu rfl rfl (aj ae) (.inl rfl) (fun _=>rfl)) ?_;iterate 5 refine rC ?_
  refine nQ<|aH (by kernel_rfl) ?_;refine dC [4] [] ?_;refine dQ [34] [] (bg (m:=puV k) aa rfl rfl rfl hw) ?_;refine dC [6] [] ?_;refine dC [8] [] ?_;refine dQ [35,36,37] [] iS ?_;refine dC [3] [] ?_;refine dC [39] [] ?_;refine ab [40,5] [] rfl rfl rfl rfl (ay aa (fun K hk=>hk)) ?_;refine ab [40,41] [] rfl rfl rfl rfl (q6 Tryz.underlying100 rfl) ?_;refine dQ [40,42] [] iU ?_;refine dC [43] [] ?_;refine ai [44,7] rfl rfl rfl rfl ?_;refine ai [44,45] rfl rfl rfl rfl ?_;refine dQ [44,46] [] iG ?_;refine ca [2,38] [64] (aF aa rfl rfl rfl ⟨_,⟨rfl,rfl,rfl⟩,rfl⟩ rfl) ?_;refine dC [47] [] ?_;refine aC (by kernel_rfl)<|aU<|cg ?_
  exact⟨trivial,_,rfl,[],lf⟩
 ·refine sR<|rN ?_;refine rC<|zW ?_;refine rC ?_;refine rQ iE ?_;refine rC ?_;refine zJ<|kS<|sR ?_;refine rC ?_;refine rQ iA ?_;refine rQ iL ?_;refine rQ (ak hp rfl rfl (aj (aj (aj ae))) (.inl rfl) (fun _=>rfl)) ?_;iterate 5 refine rC ?_
  refine nR<|rC ?_;refine rQ iA ?_;refine rQ iL ?_;refine rQ (ak ha rfl rfl (aj ae) (.inl rfl) (fun _=>rfl)) ?_;iterate 5 refine rC ?_
  refine nR<|rC ?_;refine rQ iA ?_;refine rQ iL ?_;refine rQ (ak hu rfl rfl (aj ae) (.inl rfl) (fun _=>rfl)) ?_;iterate 5 refine rC ?_
  refine nQ<|aH (by kernel_rfl) ?_;refine dC [4] [] ?_;refine dQ [34] [] (bg (m:=puV k) aa rfl rfl rfl hw) ?_;refine dC [6] [] ?_;refine dC [8] [] ?_;refine dQ [35,36,37] [] iS ?_;refine dC [3] [] ?_;refine dC [39] [] ?_;refine ab [40,5] [] rfl rfl rfl rfl (ay aa (fun K hk=>hk)) ?_;refine ab [40,41] [] rfl rfl rfl rfl (q6 Tryz.underlying100 rfl) ?_;refine dQ [40,42] [] iU ?_;refine dC [43] [] ?_;refine ai [44,7] rfl rfl rfl rfl ?_;refine ai [44,45] rfl rfl rfl rfl ?_;refine dQ [44,46] [] iG ?_;refine ca [2,38] [64] (aF aa rfl rfl rfl ⟨_,⟨rfl,rfl,rfl⟩,rfl⟩ rfl) ?_;refine dC [47] [] ?_;refine aC (by kernel_rfl)<|aU<|cg ?_
  exact⟨trivial,_,rfl,[],lf⟩
 ·refine sR<|rN ?_;refine rC<|zW ?_;refine rC ?_;refine rQ iE ?_;refine rC ?_;refine zJ<|kS<|sR ?_;refine rC ?_;refine rQ iA ?_;refine rQ iL ?_;refine rQ (ak hp rfl rfl (aj (aj (aj ae))) (.inl rfl) (fun _=>rfl)) ?_;iterate 5 refine rC ?_
  refine nR<|rC ?_;refine rQ iA ?_;refine rQ iL ?_;refine rQ (ak ha rfl rfl (aj ae) (.inl rfl) (fun _=>rfl)) ?_;iterate 5 refine rC ?_
  refine nR<|rC ?_;refine rQ iA ?_;refine rQ iL ?_;refine rQ (ak hu rfl rfl (aj ae) (.inl rfl) (fun _=>rfl)) ?_;iterate 5 refine rC ?_
  refine nQ<|aH (by kernel_rfl) ?_;refine dC [4] [] ?_;refine dQ [34] [] (bg (m:=puV k) aa rfl rfl rfl hw) ?_;refine dC [6] [] ?_;refine dC [8] [] ?_;refine dQ [35,36,37] [] iS ?_;refine dC [3] [] ?_;refine dC [39] [] ?_;refine ab [40,5] [] rfl rfl rfl rfl (ay aa (fun K hk=>hk)) ?_;refine ab [40,41] [] rfl rfl rfl rfl (mb Tryz.underlying100 rfl) ?_;refine dQ [40,42] [] iU ?_;refine dC [43] [] ?_;refine ab [44,7] [] rfl rfl rfl rfl (ay aa (fun K hk=>hk)) ?_;refine ab [44,45] [] rfl rfl rfl rfl (q6 Tryz.underlying100 rfl) ?_;refine dQ [44,46] [] iU ?_;refine ca [2,38] [64] (aF aa rfl rfl rfl ⟨_,⟨rfl,rfl,rfl⟩,rfl⟩ rfl) ?_;refine dC [47] [] ?_;refine aC (by kernel_rfl)<|aU<|cg ?_
  exact⟨trivial,_,rfl,[],lf⟩
 ·refine sR<|rN ?_;refine rC<|zW ?_;refine rC ?_;refine rQ iE ?_;refine rC ?_;refine zJ<|kS<|sR ?_;refine rC ?_;refine rQ iA ?_;refine rQ iL ?_;refine rQ (ak hp rfl rfl (aj (aj (aj ae))) (.inl rfl) (fun _=>rfl)) ?_;iterate 5 refine rC ?_
  refine nR<|rC ?_;refine rQ iA ?_;refine rQ iL ?_;refine rQ (ak ha rfl rfl (aj ae) (.inl rfl) (fun _=>rfl)) ?_;iterate 5 refine rC ?_
  refine nR<|rC ?_;refine rQ iA ?_;refine rQ iL ?_;refine rQ (ak hu rfl rfl (aj ae) (.inl rfl) (fun _=>rfl)) ?_;iterate 5 refine rC ?_
  refine nQ<|aH (by kernel_rfl) ?_;refine dC [4] [] ?_;refine dQ [34] [] (bg (m:=puV k) aa rfl rfl rfl hw) ?_;refine dC [6] [] ?_;refine dC [8] [] ?_;refine dQ [35,36,37] [] iS ?_;refine dC [3] [] ?_;refine dC [39] [] ?_;refine ab [40,5] [] rfl rfl rfl rfl (ay aa (fun K hk=>hk)) ?_;refine ab [40,41] [] rfl rfl rfl rfl (mb Tryz.underlying100 rfl) ?_;refine dQ [40,42] [] iU ?_;refine dC [43] [] ?_;refine ab [44,7] [] rfl rfl rfl rfl (ay aa (fun K hk=>hk)) ?_;refine ab [44,45] [] rfl rfl rfl rfl (mb Tryz.underlying100 rfl) ?_;refine dQ [44,46] [] iU ?_;refine ca [2,38] [64] (aF aa rfl rfl rfl ⟨_,⟨rfl,rfl,rfl⟩,rfl⟩ rfl) ?_;refine dC [47] [] ?_;refine aC (by kernel_rfl)<|aU<|cg ?_
  exact⟨trivial,_,rfl,[],lf⟩
def opW (w:List (List UInt8)):POp×Bool:=match w with
 | [k,i,d]=>(opV k i d,opOk k i d)
 | _=>(pc,false)
theorem fj (w:List (List UInt8)) (hw:∀x∈w,x.length≤1048576):FnIs Tryz.prog 96 [.d (.arr 1 strD w)] [] (opR (opW w).1 (opW w).2) []:=by
 by_cases h3:w.length=3
 ·obtain⟨k,i,d,rfl⟩:∃k i d,w=[k,i,d]:=by
   match w,h3 with
   | [k,i,d],_=>exact⟨k,i,d,rfl⟩
  have hk:=hw k (by simp)
  have hi:=hw i (by simp)
  exact lI k i d (by omega) (by omega) (hw d (by simp)) _ _ _ rfl rfl rfl
 ·have:=kM w h3
  rwa [show opW w=(pc,false) by
   unfold opW
   split
   ·exact absurd rfl h3
   ·rfl]
theorem kh (ls:List (List (List UInt8))) (m:List (List UInt8)) (he:ls.flatten=m) (hp:0<m.length) (hL:m.length≤1048576) (hn:ls.length≤1000000):FnIs Tryz.prog 97 [.d (.arr 1 kC ls)] [] (.d (.arr 1 strD m)) []:=by
 have:=tV ls (by rw[he]; exact hp) (by rw[he]; exact hL) hn
 rw[he]at this
 exact this.freeze_out 64 _ rfl (Frz.own rfl) trivial
theorem qA (w:List (List UInt8)) (hw:∀x∈w,x.length≤1048576) (hl:w.length≤1048573):FnIs Tryz.prog 95 [.d (.arr 1 strD w)] [] (opR (opW ([49]::(w++[[45]]))).1 (opW ([49]::(w++[[45]]))).2) []:=by
 have hc:=kh [[[49]],w,[[45]]] ([49]::(w++[[45]])) (by simp) (by simp) (by simp; omega) (by simp)
 have ho:=fj ([49]::(w++[[45]])) (by
  intro x hx
  rcases List.mem_cons.1 hx with rfl | hx
  ·decide
  ·rcases List.mem_append.1 hx with hx | hx
   ·exact hw x hx
   ·rw[List.mem_singleton.1 hx]; decide)
 refine aw aa Tryz.func95 rfl rfl rfl ?_;refine sR<|rN ?_;refine rC<|nR ?_;refine aN (aV (s:=1) aa rfl rfl rfl rfl rfl rfl rfl rfl) rfl ?_;refine rC ?_;refine aN (aV (s:=1) aa rfl rfl rfl rfl rfl rfl rfl rfl) rfl ?_;refine cH (env':=[(4,_),(2,_),(5,_),(6,_)]) (h':=[(64,some _),(96,some _)]) 80 _ rfl ⟨⟨_,rfl,Frz.lits1 (enc:=strD) [49] rfl rfl⟩,zE,zE,zE,trivial⟩ ⟨⟨rfl,_,rfl,.refl _⟩,⟨rfl,_,rfl,.refl _⟩,trivial⟩ ?_;refine cH (env':=[(6,_),(2,_),(4,_),(5,_)]) (h':=[(64,some _)]) 96 _ rfl ⟨⟨_,rfl,Frz.lits1 (enc:=strD) [45] rfl rfl⟩,zE,zE,zE,trivial⟩ ⟨⟨rfl,_,rfl,.refl _⟩,trivial⟩ ?_;refine aN (aV (s:=1) aa rfl rfl rfl rfl rfl rfl rfl rfl) rfl ?_;refine cH (env':=[(7,_),(2,_)]) (h':=[(64,some _)]) 104 _ rfl ⟨⟨_,rfl,Frz.litsN (t:=74) (s:=1) (m:=3) (ex:=true) (enc:=kC) [[[49]],w,[[45]]] rfl (fun _ _=>rfl)⟩,zE,trivial⟩ ⟨⟨rfl,_,rfl,.refl _⟩,trivial⟩ ?_;refine rQ (ak hc rfl rfl (aj ae) (.inl rfl) (fun _=>rfl)) ?_;refine rQ (ak ho rfl rfl (aj ae) (.inl rfl) (fun _=>rfl)) ?_;refine zD ?_;refine rW ?_;refine rC<|zT ?_
 exact⟨trivial,_,rfl,[],lf⟩
theorem qz (w:List (List UInt8)) (hw:∀x∈w,x.length≤1048576) (hl:w.length≤1048573):FnIs Tryz.prog 98 [.d (.arr 1 strD w)] [] (opR (opW ([50]::w)).1 (opW ([50]::w)).2) []:=by
 have hc:=kh [[[50]],w] ([50]::w) (by simp) (by simp) (by simp; omega) (by simp)
 have ho:=fj ([50]::w) (by
  intro x hx
  simp only[List.mem_cons]at hx
  rcases hx with rfl | hx
  ·decide
  ·exact hw x hx)
 refine aw aa Tryz.func98 rfl rfl rfl ?_;refine sR<|rN ?_;refine rC<|nR ?_;refine aN (aV (s:=1) aa rfl rfl rfl rfl rfl rfl rfl rfl) rfl ?_;refine rC ?_;refine cH (env':=[(4,_),(2,_),(5,_)]) (h':=[(64,some _)]) 80 _ rfl ⟨⟨_,rfl,Frz.lits1 (enc:=strD) [50] rfl rfl⟩,zE,zE,trivial⟩ ⟨⟨rfl,_,rfl,.refl _⟩,trivial⟩ ?_;refine aN (aV (s:=1) aa rfl rfl rfl rfl rfl rfl rfl rfl) rfl ?_;refine cH (env':=[(6,_),(2,_)]) (h':=[(64,some _)]) 96 _ rfl ⟨⟨_,rfl,Frz.lits2 (enc:=kC) [[50]] w rfl rfl rfl rfl⟩,zE,trivial⟩ ⟨⟨rfl,_,rfl,.refl _⟩,trivial⟩ ?_;refine rQ (ak hc rfl rfl (aj ae) (.inl rfl) (fun _=>rfl)) ?_;refine rQ (ak ho rfl rfl (aj ae) (.inl rfl) (fun _=>rfl)) ?_;refine zD ?_;refine rW ?_;refine rC<|zT ?_
 exact⟨trivial,_,rfl,[],lf⟩
theorem qy (w:List (List UInt8)) (hw:∀x∈w,x.length≤1048576) (hl:w.length≤1048573):FnIs Tryz.prog 99 [.d (.arr 1 strD w)] [] (opR (opW ([51]::[48]::[45]::w)).1 (opW ([51]::[48]::[45]::w)).2) []:=by
 have hc:=kh [[[51],[48],[45]],w] ([51]::[48]::[45]::w) (by simp) (by simp) (by simp; omega) (by simp)
 have ho:=fj ([51]::[48]::[45]::w) (by
  intro x hx
  simp only[List.mem_cons]at hx
  rcases hx with rfl | rfl | rfl | hx
  ·decide
  ·decide
  ·decide
  ·exact hw x hx)
 refine aw aa Tryz.func99 rfl rfl rfl ?_;refine sR<|rN ?_;refine rC<|nR ?_;refine aN (aV (s:=1) aa rfl rfl rfl rfl rfl rfl rfl rfl) rfl ?_;refine rC ?_;refine cH (env':=[(4,_),(2,_),(5,_)]) (h':=[(64,some _)]) 80 _ rfl ⟨⟨_,rfl,Frz.litsN (t:=9) (s:=1) (m:=3) (ex:=true) (enc:=strD) [[51],[48],[45]] rfl (fun _ _=>rfl)⟩,zE,zE,trivial⟩ ⟨⟨rfl,_,rfl,.refl _⟩,trivial⟩ ?_;refine aN (aV (s:=1) aa rfl rfl rfl rfl rfl rfl rfl rfl) rfl ?_;refine cH (env':=[(6,_),(2,_)]) (h':=[(64,some _)]) 96 _ rfl ⟨⟨_,rfl,Frz.lits2 (enc:=kC) [[51],[48],[45]] w rfl rfl rfl rfl⟩,zE,trivial⟩ ⟨⟨rfl,_,rfl,.refl _⟩,trivial⟩ ?_;refine rQ (ak hc rfl rfl (aj ae) (.inl rfl) (fun _=>rfl)) ?_;refine rQ (ak ho rfl rfl (aj ae) (.inl rfl) (fun _=>rfl)) ?_;refine zD ?_;refine rW ?_;refine rC<|zT ?_
 exact⟨trivial,_,rfl,[],lf⟩
end Go.Proofs.YtpmhnpnmpjimnaaGreatDoor
namespace Go.Eng
open Go.RowKit
section
variable {P : Program} {T : Tab} {env : Env} {h : Upds} {n : Nat}
theorem cb {t kt et:TypeId} {κ:Type} [DecidableEq κ] {enc:κ→D} {m r:Nat} {x y z:Operand} {k:κ} {l:List (κ×AV)} {v:AV} (K:jc P kt enc m) (ht:P.underlying t=some (.map kt et))
  (hx:au env x=some (.mapr r)) (hy:au env y=some (.d (enc k))) (hz:au env z=some v) (hr:bc h r=some (.mo (mapC enc l))) (hf:di k l 0=none) :
  aq P (.insert t x y z) env h n none [(r,some (.mo (mapC enc (l++[(k,v)]))))]:=.of_comes fun C G st σ w a o ho hA hd hst hn=>by
 have h1:=(am hst (hA.ev hx)).1
 have h2:=(am hst (hA.ev hy)).1
 obtain⟨h3,h4⟩:=am hst (hA.ev hz)
 have hrow:=hA.row _ _ hr
 obtain⟨b,c,hs,hux⟩:=RelV.mapr.1 h1
 obtain⟨b',es,hb1,hb2,hb3,hb4⟩:=hst.rows r _ hrow
 rw[hs]at hb2
 cases hb2
 have hl:=(eX l _).1 hb4
 have hin:(mapC enc l).within G:=(hst.rowsG r _ hrow).2
 have hfd:=K.found h2 hl
 rw[hf]at hfd
 have hst':=hst.writeObj (o' :=.map (es.push { key:=a.eval y,val:=a.eval z,born:=es.size }) (es.size+1)) (row :=.mo (mapC enc (l++[(k,v)]))) hrow hs hb3 rfl
  ((fP _).2 fun p hp=>by
   rcases List.mem_append.1 hp with hp | hp
   ·exact (fP l).1 hin p hp
   ·rw[List.mem_singleton.1 hp]; exact h4)
  (fun w' ht' hh'=>⟨b,es.push { key:=a.eval y,val:=a.eval z,born:=es.size },fun i e he=>by
   rw[Array.getElem?_push]at he
   split at he
   ·rename_i hi; subst hi; cases he; rfl
   ·exact hb1 i e he,hs,by rw[Array.size_push]; exact hh',(eX _ _).2 (by
    rw[Array.toList_push]
    exact cW.snoc (RelV.carry (G:=G) ht' trivial h2) (RelV.carry (G:=G) ht' h4 h3) l _ (cW.mono ht' hin hl))⟩)
 refine⟨none,_,.skip,undef, { w with heap:=w.heap.setIfInBounds b (.map (es.push { key:=a.eval y,val:=a.eval z,born:=es.size }) (es.size+1)) },σ,G,⟨rfl,rfl⟩,?_,.inr ⟨rfl,rfl⟩,?_,fun _ h=>h,fun _ h=>.inl h⟩
 ·have hget:(getObj b).run P w=.ok (.map es es.size) w:=by simp[getObj,Sem.run,hb3]
  have hset:=qk P w b (.map (es.push { key:=a.eval y,val:=a.eval z,born:=es.size }) (es.size+1)) hb3
  simp only[execOp,ho,Instr.mapUpdate,hux,Sem.run_bind,run_underlying ht,hget,Result.andThen_ok,K.check h2,hfd,hset,Sem.run_pure]
 ·rw[St.put_upd]
  exact hst'.set hd (v:=none) (ii _ _ _) trivial
end
end Go.Eng
namespace Go.Proofs.YtpmhnpnmpjimnaaGreatDoor
open Go.Eng Go.Plain
set_option maxHeartbeats 32000000
set_option maxRecDepth 20000
attribute [local irreducible] WC RegS RegD SeqQ BlkQ ScoQ RegK CutK Sat SatN FnIs LoopQ aq OpIs
abbrev fnA (f:Nat):AV :=.fn (.func f) .anil .anil
def cn:List (List UInt8×AV):=[(fJ,fnA 95),(dr,fnA 98),(fe,fnA 99),(sOp,fnA 96)]
theorem bU:jc Tryz.prog 9 (fun l:List UInt8=>strD l) 1:=od Tryz.underlying9
theorem qx:FnIs Tryz.prog 72 [] [] (.mapr 64) [(64,.mo (mapC strD cn))]:=by
 refine aw aa Tryz.func72 rfl rfl rfl ?_;refine sR<|rC<|nR ?_;refine aN (lO) rfl ?_;refine bz rfl (cb (κ:=List UInt8) (enc:=strD) (l:=cn.take 0) (k:=fJ) bU Tryz.underlying134 rfl rfl rfl rfl rfl) rfl rfl ?_;refine bz rfl (cb (κ:=List UInt8) (enc:=strD) (l:=cn.take 1) (k:=dr) bU Tryz.underlying134 rfl rfl rfl rfl rfl) rfl rfl ?_;refine bz rfl (cb (κ:=List UInt8) (enc:=strD) (l:=cn.take 2) (k:=fe) bU Tryz.underlying134 rfl rfl rfl rfl rfl) rfl rfl ?_;refine bz rfl (cb (κ:=List UInt8) (enc:=strD) (l:=cn.take 3) (k:=sOp) bU Tryz.underlying134 rfl rfl rfl rfl rfl) rfl rfl ?_;refine zD<|zT ?_
 exact⟨trivial,[(64,some 72)],lg zV ⟨zR,trivial⟩⟩
end Go.Proofs.YtpmhnpnmpjimnaaGreatDoor
namespace Go.Eng
open Go.RowKit
section
variable {P : Program} {T : Tab} {env : Env} {h : Upds} {n : Nat}
theorem fq (hT:an P T) {t e:Nat} {re:TyR} {x i j:Operand} {α:Type} {s:Nat} {enc:α→D} {xs:List α} {k k':IntKind} (ht:aT T t=some (.slice e)) (he:lk T e=some re)
  (hx:au env x=some (.d (.arr s enc xs))) (hi:au env i=some (.int k xs.length)) (hj:au env j=some (.int k' xs.length)):aq P (.slice t x none (some i) (some j)) env h n (some (.d (.arx s enc xs))) []:=.of_comes fun C G st σ w a o ho hA hdst hst hn=>by
 obtain⟨ud,hud,hdd⟩:=aM hT ht
 cases hdd
 obtain⟨hx1,_⟩:=am hst (hA.ev hx)
 obtain⟨hi1,_⟩:=RelV.sc.1 (am hst (hA.ev hi)).1
 obtain⟨hj1,_⟩:=RelV.sc.1 (am hst (hA.ev hj)).1
 have hsz:=(hT e re he).run_size (P:=P)
 rcases RelV.arr.1 hx1 with ⟨rfl,hv⟩ | ⟨ad,c,hv,hc1,hc2,f,hf⟩
 ·refine .quiet (u :=.slice none 0 0) hst hdst ⟨rfl,rfl⟩ ?_ (RelV.arx.2 (.inl ⟨rfl,_,rfl⟩)) trivial
  simp[execOp,ho,Instr.sliceAt,Instr.slice,hv,hi1,hj1,run_underlying hud,Instr.sliceBounds,Instr.sliceBound,asIntOf,hsz,Sem.run_bind,Sem.run_pure,Result.andThen_ok]
 ·refine .quiet (u :=.slice (some ad) xs.length xs.length) hst hdst ⟨rfl,rfl⟩ ?_ (RelV.arx.2 (.inr ⟨ad,rfl,by omega,f,hf⟩)) trivial
  have hle:(xs.length:Int)≤(c:Int):=by omega
  simp[execOp,ho,Instr.sliceAt,Instr.slice,hv,hi1,hj1,run_underlying hud,Instr.sliceBounds,Instr.sliceBound,asIntOf,hsz,Sem.run_bind,Sem.run_pure,Result.andThen_ok,hc1,Addr.add_zero']
end
end Go.Eng
namespace Go.Proofs.YtpmhnpnmpjimnaaGreatDoor
open Go.Eng Go.Plain
set_option maxHeartbeats 32000000
set_option maxRecDepth 20000
attribute [local irreducible] WC RegS RegD SeqQ BlkQ ScoQ RegK CutK Sat SatN FnIs LoopQ aq OpIs
theorem wk (l:List POp) (hp:0<l.length) (hlen:l.length≤1048576):FnIs Tryz.prog 76 [.d (encP l)] [] (.own 64 0 l.length 3 none) [(64,.ds 52 3 false br l)]:=by
 refine aw aa Tryz.func76 rfl rfl rfl ?_;refine sR<|rC<|zW ?_;refine rC ?_;refine rQ (so aa rfl rfl rfl hp)<|nS ?_;refine wG<|kS<|sR ?_;refine rQ (fR aa rfl rfl) ?_;refine rC ?_;refine aN (cF aa rfl rfl rfl rfl rfl (.inl rfl) rfl hp hlen rfl) rfl ?_;refine rC<|zT ?_
 exact⟨trivial,[(64,some 104)],lg zV ⟨zR,trivial⟩⟩
theorem xO:FnIs Tryz.prog 76 [.d (encP [])] [] (.d (encP [])) []:=by
 refine FnIs.split_arr ?_ ?_
 ·refine aw aa Tryz.func76 rfl rfl rfl ?_;refine sR<|rC<|zW ?_;refine rC ?_;refine rQ (vX aa rfl rfl rfl)<|nS ?_;refine wV<|sR ?_;refine rC<|zT<|ba ?_
  exact⟨trivial,[],lg ⟨⟨_,rfl,nil_arr _ _⟩,rfl,trivial⟩ trivial⟩
 ·rintro⟨a,c⟩
  refine aw aa Tryz.func76 rfl rfl rfl ?_;refine sR<|rC<|zW ?_;refine rC ?_;refine rQ (pD aa rfl rfl rfl)<|nS ?_;refine wG<|kS<|sR ?_;refine rQ (fR aa rfl rfl) ?_;refine rC ?_;refine rQ (mB aa rfl rfl rfl rfl) ?_;refine rC<|nS<|cg ?_
  exact⟨trivial,[],lg ⟨⟨_,rfl,AVLe.empty_arr _ _⟩,rfl,trivial⟩ trivial⟩
theorem wl (l:List POp) (hlen:l.length≤1048576):FnIs Tryz.prog 76 [.d (encP l)] [] (.d (encP l)) []:=by
 cases l with
 | nil=>exact xO
 | cons a l=>exact (wk (a::l) (by simp) hlen).freeze_out 64 _ rfl (Frz.own rfl) trivial
abbrev fQ (p:List POp):D :=.arx 3 br p
abbrev nn (l:List (List POp)):D :=.arr 1 fQ l
theorem tW (l:List (List POp)) (hp:0<l.length) (hlen:l.length≤1048576):FnIs Tryz.prog 78 [.d (nn l)] [] (.own 64 0 l.length 1 none) [(64,.ds 49 1 false fQ l)]:=by
 refine aw aa Tryz.func78 rfl rfl rfl ?_;refine sR<|rC<|zW ?_;refine rC ?_;refine rQ (so aa rfl rfl rfl hp)<|nS ?_;refine wG<|kS<|sR ?_;refine rQ (fR aa rfl rfl) ?_;refine rC ?_;refine aN (cF aa rfl rfl rfl rfl rfl (.inl rfl) rfl hp hlen rfl) rfl ?_;refine rC<|zT ?_
 exact⟨trivial,[(64,some 104)],lg zV ⟨zR,trivial⟩⟩
theorem wj:FnIs Tryz.prog 78 [.d (nn [])] [] (.d (nn [])) []:=by
 refine FnIs.split_arr ?_ ?_
 ·refine aw aa Tryz.func78 rfl rfl rfl ?_;refine sR<|rC<|zW ?_;refine rC ?_;refine rQ (vX aa rfl rfl rfl)<|nS ?_;refine wV<|sR ?_;refine rC<|zT<|ba ?_
  exact⟨trivial,[],lg ⟨⟨_,rfl,nil_arr _ _⟩,rfl,trivial⟩ trivial⟩
 ·rintro⟨a,c⟩
  refine aw aa Tryz.func78 rfl rfl rfl ?_;refine sR<|rC<|zW ?_;refine rC ?_;refine rQ (pD aa rfl rfl rfl)<|nS ?_;refine wG<|kS<|sR ?_;refine rQ (fR aa rfl rfl) ?_;refine rC ?_;refine rQ (mB aa rfl rfl rfl rfl) ?_;refine rC<|nS<|cg ?_
  exact⟨trivial,[],lg ⟨⟨_,rfl,AVLe.empty_arr _ _⟩,rfl,trivial⟩ trivial⟩
theorem nD (l:List (List POp)) (hlen:l.length≤1048576):FnIs Tryz.prog 78 [.d (nn l)] [] (.d (nn l)) []:=by
 cases l with
 | nil=>exact wj
 | cons a l=>exact (tW (a::l) (by simp) hlen).freeze_out 64 _ rfl (Frz.own rfl) trivial
theorem xP (l:List POp):FnIs Tryz.prog 75 [.d (encP l)] [] (.d (fQ l)) []:=by
 refine aw aa Tryz.func75 rfl rfl rfl ?_;refine sR<|rC<|nR ?_;refine zD ?_;refine rQ iE ?_;refine rC ?_;refine rQ iE ?_;refine rQ (fq aa rfl rfl rfl rfl rfl) ?_;refine rC<|zT ?_
 exact⟨trivial,[],lf⟩
theorem pK (l:List (List POp)):FnIs Tryz.prog 77 [.d (nn l)] [] (.d (.arx 1 fQ l)) []:=by
 refine aw aa Tryz.func77 rfl rfl rfl ?_;refine sR<|rC<|nR ?_;refine zD ?_;refine rQ iE ?_;refine rC ?_;refine rQ iE ?_;refine rQ (fq aa rfl rfl rfl rfl rfl) ?_;refine rC<|zT ?_
 exact⟨trivial,[],lf⟩
end Go.Proofs.YtpmhnpnmpjimnaaGreatDoor
namespace Go.Eng
open Go.RowKit
def chM (A:AV):List D→AV
 | []=>.acons A .anil
 | d::l=>.acons (.d d) (chM A l)
theorem rl {A:AV} {s:Nat}:∀(l:List D),(∀d∈l,d.size=s)→(chM A l).chainAt l.length (l.length*s)=some A
 | [],_=>by simp[chM,AV.chainAt]
 | d::l,h=>by
  have hd:=h d (by simp)
  simp only[chM,List.length_cons,AV.chainAt,AV.size,hd]
  have e:Nat.ble s ((l.length+1)*s)=true:=Nat.ble_eq_true_of_le (by rw[Nat.add_mul]; omega)
  rw[e,show (l.length+1)*s-s=l.length*s by rw[Nat.add_mul]; omega]
  exact rl l fun x hx=>h x (by simp[hx])
theorem sB {A x:AV}:∀(l:List D),AV.chainSet x l.length (chM A l)=chM x l
 | []=>rfl
 | d::l=>by
  simp only[chM,List.length_cons,AV.chainSet,sB l]
theorem pL {A:AV} (hA:A.flat=true):∀(l:List D),(chM A l).flat=true
 | []=>by simp[chM,AV.flat,hA]
 | d::l=>by simp[chM,AV.flat,pL hA l]
theorem dy {A:AV} {n:Nat} (hA:A.lt n=true):∀(l:List D),(chM A l).lt n=true
 | []=>by simp[chM,AV.lt,hA]
 | _::l=>by simp[chM,AV.lt,dy hA l]
theorem jO {A:AV} {ρ:Nat→Option Nat}:∀(l:List D),(chM A l).ren ρ=chM (A.ren ρ) l
 | []=>rfl
 | d::l=>by simp only[chM,AV.ren,jO l]
theorem iq {t:TypeId} {s:Nat} {ex:Bool} {A:AV} {l:List D} {m i:Nat} (hl:∀d∈l,d.size=s) (hm:m=l.length+1) (hi:i=l.length):RSub (.lits t s m ex (chM A l)) [.idx i s] A:=by
 subst hm hi
 refine⟨rfl,Nat.lt_succ_self _,?_⟩
 rw[rl l hl]
 rfl
theorem io {t:TypeId} {s:Nat} {ex:Bool} {A y:AV} {l:List D} {m i:Nat} (hl:∀d∈l,d.size=s) (hm:m=l.length+1) (hi:i=l.length) (h1:A.size=y.size) (h2:A.isAgg=y.isAgg):RUpd (.lits t s m ex (chM A l)) [.idx i s] y (.lits t s m ex (chM y l)):=by
 subst hm hi
 refine⟨rfl,Nat.lt_succ_self _,?_⟩
 rw[rl l hl]
 exact⟨y,⟨h1,h2,rfl⟩,by rw[sB]⟩
theorem iJ {σ:Place} {w:World} {X:Nat→Prop} {A:AV}:∀(l:List D) (cs:List Value),Rel σ w X (chM A l) false cs ↔ ∃c1 c2,cs=c1++c2∧Rel σ w X (dsAV l) false c1∧Rel σ w X A false c2
 | [],cs=>by
  constructor
  ·rintro⟨c1,c2,rfl,h1,h2⟩
   rw[show c2=[] from h2,List.append_nil]
   exact⟨[],c1,rfl,rfl,h1⟩
  ·rintro⟨c1,c2,rfl,h1,h2⟩
   rw[show c1=[] from h1]
   exact⟨c2,[],by simp,h2,rfl⟩
 | d::l,cs=>by
  constructor
  ·rintro⟨c1,c2,rfl,h1,h2⟩
   obtain⟨c3,c4,rfl,h3,h4⟩:=(iJ l c2).1 h2
   exact⟨c1++c3,c4,by simp,⟨c1,c3,rfl,h1,h3⟩,h4⟩
  ·rintro⟨c1,c2,rfl,⟨c3,c4,rfl,h3,h4⟩,h2⟩
   exact⟨c3,c4++c2,by simp,h3,(iJ l _).2 ⟨c4,c2,rfl,h4,h2⟩⟩
theorem mg {σ:Place} {w:World} {X:Nat→Prop}:∀(l m:List D) (cs:List Value),Rel σ w X (dsAV (l++m)) false cs ↔ ∃c1 c2,cs=c1++c2∧Rel σ w X (dsAV l) false c1∧Rel σ w X (dsAV m) false c2
 | [],m,cs=>by
  constructor
  ·intro h; exact⟨[],cs,rfl,rfl,h⟩
  ·rintro⟨c1,c2,rfl,h1,h2⟩
   rw[show c1=[] from h1]; exact h2
 | d::l,m,cs=>by
  constructor
  ·rintro⟨c1,c2,rfl,h1,h2⟩
   obtain⟨c3,c4,rfl,h3,h4⟩:=(mg l m c2).1 h2
   exact⟨c1++c3,c4,by simp,⟨c1,c3,rfl,h1,h3⟩,h4⟩
  ·rintro⟨c1,c2,rfl,⟨c3,c4,rfl,h3,h4⟩,h2⟩
   exact⟨c3,c4++c2,by simp,h3,(mg l m _).2 ⟨c4,c2,rfl,h4,h2⟩⟩
theorem oi {σ:Place} {w:World} {X:Nat→Prop} {α:Type} {enc:α→D}:∀(xs:List α) (f:Nat→List Value),(∀i (h:i<xs.length),Enc w X (enc xs[i]) (f i))→Rel σ w X (dsAV (xs.map enc)) false (cat f xs.length)
 | [],f,_=>rfl
 | x::xs,f,h=>by
  rw[List.length_cons,Nat.add_comm xs.length 1,eu 1]
  refine⟨f 0,cat (fun i=>f (1+i)) xs.length,by simp only[cat,List.nil_append],h 0 (by simp),?_⟩
  exact oi xs (fun i=>f (1+i)) fun i hi=>by
   show Enc w X (enc xs[i]) (f (1+i))
   rw[Nat.add_comm 1 i]
   exact h (i+1) (by simpa using hi)
theorem aE.ds_chM {t:TypeId} {s m:Nat} {ex:Bool} {α:Type} {enc:α→D} {xs:List α} {y:α} {z:D} (hm:m=xs.length+1) (hz:z=enc y):aE (.ds t s ex enc (xs++[y])) (.lits t s m ex (chM (.d z) (xs.map enc))):=by
 subst hm hz
 intro σ w X r h
 refine⟨pL rfl _,?_⟩
 rcases h with ⟨h0,h1⟩ | ⟨b,c,cur,hb,hex,hh,hsz,hlen,hmax,f,hf,htake⟩
 ·simp at h1
 ·have hn:(xs++[y]).length=xs.length+1:=by simp
  rw[hn]at hlen htake hex
  have hfl:∀i,i<xs.length+1→(f i).length=s:=fun i hi=>(hf i (by rw[hn]; exact hi)).2
  refine .inr ⟨b,c,cur,cat f (xs.length+1),hb,hex,hh,hsz,hlen,hmax,bS _ hfl,?_,htake⟩
  have:=oi (σ:=σ) (w:=w) (X:=X) (xs++[y]) f fun i hi=>(hf i hi).1
  rw[hn,List.map_append]at this
  obtain⟨c1,c2,e,h1,h2⟩:=(mg _ _ _).1 this
  rw[e]
  refine (iJ _ _).2 ⟨c1,c2,rfl,h1,?_⟩
  obtain⟨c3,c4,rfl,h3,h4⟩:=h2
  rw[show c4=[] from h4,List.append_nil]
  exact h3
theorem FrzR.last {r t te s s2 m:Nat} {ex ex2:Bool} {α β:Type} {enc:α→D} {enc2:β→D} {xs:List α} {y:α} {ys:List β} {len:Nat} {l:List D} (hl:len=ys.length) (hy:enc y=.arr s2 enc2 ys) (hm:m=xs.length+1) (hs:∀x,(enc x).size=s) (hmap:l=xs.map enc) :
  FrzR r (.ds te s2 ex2 enc2 ys) (.lits t s m ex (chM (.own r 0 len s2 none) l)) (.ds t s ex enc (xs++[y])):=by
 subst hm hmap
 refine⟨fun G h=>trivial,fun σ w X X' q hx hn hr hq=>?_⟩
 have hn1:(xs++[y]).length=xs.length+1:=by simp
 rcases hq with ⟨_,⟨_,h1⟩ | ⟨b',c',cur,cs',hb',hex,hh,hsz,hlen,hmax,hcl,hrel,htake⟩⟩
 ·omega
 ·obtain⟨c1,c2,rfl,h1,h2⟩:=(iJ _ _).1 hrel
  have h3:=(Frz.own (te:=te) (ex:=ex2) (cap:=none) hl).2.2.2 σ w X X' hx hn hr c2 h2
  rw[←hy]at h3
  obtain⟨f,hf,rfl⟩:=hO xs _ h1
  have hfl:∀i,i<xs.length→(f i).length=s:=fun i hi=>by rw[←hs xs[i]]; exact Enc.len _ _ (hf i hi)
  have hc2:c2.length=s:=by rw[←hs y]; exact Enc.len _ _ h3
  refine .inr ⟨b',c',cur,hb',by rw[hn1]; exact hex,hh,hsz,by rw[hn1]; exact hlen,hmax,fun i=>if i<xs.length then f i else c2,fun i hi=>?_,?_⟩
  ·by_cases hi2:i<xs.length
   ·simp only[if_pos hi2,List.getElem_append_left hi2]
    exact⟨Enc.sub hx _ _ (hf i hi2),hfl i hi2⟩
   ·have:i=xs.length:=by rw[hn1]at hi; omega
    subst this
    simp only[if_neg hi2,List.getElem_concat_length]
    exact⟨h3,hc2⟩
  ·rw[hn1,htake]
   have e:cat (fun i=>if i<xs.length then f i else c2) xs.length=cat f xs.length:=cN _ fun i hi=>by simp only[if_pos hi]
   simp only[cat,Nat.lt_irrefl,if_false,e]
end Go.Eng
namespace Go.Proofs.YtpmhnpnmpjimnaaGreatDoor
open Go.Eng Go.Plain
set_option maxHeartbeats 32000000
set_option maxRecDepth 20000
attribute [local irreducible] WC RegS RegD SeqQ BlkQ ScoQ RegK CutK Sat SatN FnIs LoopQ aq OpIs
def encO:Option (List POp)→D
 | none=>.sc nil_
 | some p=>encP p
theorem kf (o:Option (List POp)):(encO o).size=1:=by cases o <;> rfl
theorem mapO (l:List (List POp)):l.map encP=(l.map some).map encO:=by simp[encO]
abbrev rowL (p:List POp) (l:List (List POp)) (m r:Nat):Row :=.lits 49 1 m false (chM (.own r 0 p.length 3 none) (l.map encP))
abbrev rowP (p:List POp):Row :=.ds 52 3 false br p
abbrev S0:List (Nat×Row):=[(0,.box 35 (.own 3 0 0 1 none)),(1,.box 134 (.mapr 2)),(2,.mo (mapC strD cn)),(3,.ds 49 1 false encO [])]
abbrev S1 (a b:Nat) (l:List (List POp)) (p:List POp):List (Nat×Row):=[(0,.box 35 (.own a 0 (l.length+1) 1 none)),(1,.box 134 (.mapr 2)),(2,.mo (mapC strD cn)),(a,rowL p l (l.length+1) b),(b,rowP p)]
theorem lU {b:Nat} {l:List (List POp)} {m:Nat} {ρ:Nat→Option Nat} {xs:List (Option (List POp))} (hm:m=l.length+1) (hx:xs=l.map some) (hρ:ρ b=none):aE (.ds 49 1 false encO (xs++[none])) (Row.ren ρ (rowL [] l m b)):=by
 subst hx
 show aE _ (.lits _ _ _ _ (AV.ren ρ (chM _ _)))
 rw[jO,mapO]
 have e:AV.ren ρ (.own b 0 ([]:List POp).length 3 none)=.d (.sc nil_):=by simp[AV.ren,hρ]
 rw[e]
 exact aE.ds_chM (by simpa using hm) rfl
theorem pW (t:List UInt8) (ht:t=bh):FnIs Tryz.prog 73 [.d (strD t),.ptr 0 [],.ptr 1 []] S0 (.d (i6 0)) (S1 64 65 [] []):=by
 have h0:decide (t=bh)=true:=dT ht
 refine aw aa Tryz.func73 rfl rfl rfl ?_;refine sR<|rC<|zW ?_;refine rC ?_;refine rQ (dS (a:=t) (b:=bh) aa rfl rfl rfl) ?_;refine zI<|sR ?_;refine rQ iM ?_;refine aN (aV (s:=1) aa rfl rfl rfl rfl rfl rfl rfl rfl) rfl ?_;refine aJ (bR (xs:=([]:List (Option (List POp)))) (s:=1) (enc:=encO) aa none rfl rfl rfl rfl rfl rfl rfl rfl rfl (by decide) rfl) rfl ?_;refine rW<|zW ?_;refine rQ iM ?_;refine rQ (bq aa rfl rfl) ?_;refine rC ?_;refine zJ<|kS<|sR ?_;refine rC<|zT<|ba ?_
 exact⟨trivial,[(64,some 104),(65,none)],lg zV ⟨zR,zR,zR,⟨rfl,rfl,_,rfl,lU (l:=[]) (xs:=[]) rfl rfl rfl⟩,⟨rfl,rfl,rfl⟩,trivial⟩⟩
theorem pV (t:List UInt8) (ht:t=bh) (l:List (List POp)) (p:List POp) (hl:l.length≤1000):FnIs Tryz.prog 73 [.d (strD t),.ptr 0 [],.ptr 1 []] (S1 3 4 l p) (.d (i6 (if 8<l.length+2 then 3 else 0))) (S1 64 65 (l++[p]) []):=by
 have h0:decide (t=bh)=true:=dT ht
 have hL:l.length+1=(l.map some++[some p]).length:=by simp
 have hlen:(l.map some++[some p]).length+[(none:Option (List POp))].length≤1048576:=by simp; omega
 have e1:(l.map some++[some p]).length+[(none:Option (List POp))].length=(l++[p]).length+1:=by simp
 have e2:l.map some++[some p]=(l++[p]).map some:=by simp
 refine aw aa Tryz.func73 rfl rfl rfl ?_;refine sR<|rC<|zW ?_;refine rC ?_;refine rQ (dS (a:=t) (b:=bh) aa rfl rfl rfl) ?_;refine zI<|sR ?_;refine rQ iM ?_;refine aN (aV (s:=1) aa rfl rfl rfl rfl rfl rfl rfl rfl) rfl ?_;refine cH (env':=[(12,_),(13,_),(0,_),(1,_),(2,_)]) (h':=[(0,some _),(1,some _),(2,some _),(96,some _),(3,some _)]) 4 _ rfl ⟨zE,zE,zE,zE,zE,trivial⟩ ⟨⟨rfl,_,rfl,.refl _⟩,⟨rfl,_,rfl,.refl _⟩,⟨rfl,_,rfl,.refl _⟩,⟨rfl,_,rfl,.refl _⟩,⟨rfl,_,rfl,FrzR.last (enc:=encO) (xs:=l.map some) (y:=some p) rfl rfl (by simp) kf (mapO l)⟩,trivial⟩ ?_
 by_cases hg:8<l.length+2
 ·have hgt:decide (8<(((l.map some++[some p]).length+[(none:Option (List POp))].length:Nat):Int))=true:=dT (by simp; omega)
  rw[if_pos hg]
  refine aJ (gM (α:=Option (List POp)) (s:=1) (enc:=encO) (xs:=l.map some++[some p]) aa [none] rfl rfl rfl rfl rfl hL rfl rfl rfl rfl (fun _ _=>kf _) (by decide) hlen rfl) rfl ?_;refine rW<|zW ?_;refine rQ iM ?_;refine rQ (bq aa rfl rfl) ?_;refine rC ?_;refine zI<|sR ?_;refine rC<|nS<|cg ?_;iterate 2 refine ba ?_
  rw[e1,e2]
  exact⟨trivial,[(64,some 104),(65,none)],lg zV ⟨zR,zR,zR,⟨rfl,dy rfl _,_,rfl,lU rfl rfl rfl⟩,⟨rfl,rfl,rfl⟩,trivial⟩⟩
 ·have hgt:decide (8<(((l.map some++[some p]).length+[(none:Option (List POp))].length:Nat):Int))=false:=dF (by simp; omega)
  rw[if_neg hg]
  refine aJ (gM (α:=Option (List POp)) (s:=1) (enc:=encO) (xs:=l.map some++[some p]) aa [none] rfl rfl rfl rfl rfl hL rfl rfl rfl rfl (fun _ _=>kf _) (by decide) hlen rfl) rfl ?_;refine rW<|zW ?_;refine rQ iM ?_;refine rQ (bq aa rfl rfl) ?_;refine rC ?_;refine zG<|kS<|sR ?_;refine rC<|zT<|ba ?_
  rw[e1,e2]
  exact⟨trivial,[(64,some 104),(65,none)],lg zV ⟨zR,zR,zR,⟨rfl,dy rfl _,_,rfl,lU rfl rfl rfl⟩,⟨rfl,rfl,rfl⟩,trivial⟩⟩
end Go.Proofs.YtpmhnpnmpjimnaaGreatDoor
namespace Go.Plain
open Go.Eng Go.Lib
theorem de:∀(l:List UInt8) (c:UInt8) (w:List UInt8),w∈aL l c→w.length≤l.length
 | [],_,w,h=>by simp[aL]at h; subst h; simp
 | b::l,c,w,h=>by
  simp only[aL]at h
  split at h
  ·rcases List.mem_cons.1 h with rfl | h
   ·simp
   ·have:=de l c w h
    simp only[List.length_cons]; omega
  ·split at h
   ·rw[List.mem_singleton.1 h]; simp
   ·rename_i w' ws hs
    rcases List.mem_cons.1 h with rfl | h
    ·have:=de l c w' (by rw[hs]; simp)
     simp only[List.length_cons]; omega
    ·have:=de l c w (by rw[hs]; simp[h])
     simp only[List.length_cons]; omega
theorem j2:∀(s t:List UInt8),eG s=some t→s.length=2*t.length
 | [],t,h=>by cases h; rfl
 | [_],_,h=>by cases h
 | a::b::l,t,h=>by
  simp only[eG]at h
  split at h
  ·rename_i x y r _ _ hr
   cases h
   have:=j2 l r hr
   simp only[List.length_cons]; omega
  ·cases h
theorem sM {s t:List UInt8} (h:bQ s=some t):2*t.length≤s.length:=by
 rw[bQ]at h
 split at h
 ·cases h; simp
 ·split at h
  ·cases h
  ·rw[j2 _ _ h]; exact Nat.le_refl _
theorem lr {t a:List UInt8} {c:UInt8} {r:List (List UInt8)} (h:aL t c=a::r):a.length+r.length≤t.length:=by
 rw[mW]at h
 cases hc:cutL t c with
 | none=>rw[hc]at h; simp only at h; cases h; simp
 | some pq =>
  obtain⟨p,q⟩:=pq
  rw[hc]at h
  simp only[List.cons.injEq]at h
  obtain⟨rfl,rfl⟩:=h
  have:=gv q c
  rw[(dP hc).1]
  simp
  omega
end Go.Plain
namespace Go.Proofs.YtpmhnpnmpjimnaaGreatDoor
open Go.Eng Go.Plain
set_option maxHeartbeats 32000000
set_option maxRecDepth 20000
attribute [local irreducible] WC RegS RegD SeqQ BlkQ ScoQ RegK CutK Sat SatN FnIs LoopQ aq OpIs
theorem sh:kk Tryz.prog 136 (.sc .nilFunc):=ry (by kernel_rfl) rfl
theorem dN {b b':Nat} {p:List POp} {l:List (List POp)} {m m':Nat} {ρ:Nat→Option Nat} (hm:m=m') (hρ:ρ b'=some b):aE (rowL p l m b) (Row.ren ρ (rowL p l m' b')):=by
 subst hm
 show aE _ (.lits _ _ _ _ (AV.ren ρ (chM _ _)))
 rw[jO]
 have e:AV.ren ρ (.own b' 0 p.length 3 none)=.own b 0 p.length 3 none:=by simp[AV.ren,hρ]
 rw[e]
 exact .refl _
theorem wC (t a:List UInt8) (r:List (List UInt8)) (ht:t≠bh) (hl:t.length≤1048576) (hsp:aL t 32=a::r) (hf:di a cn 0=none):FnIs Tryz.prog 73 [.d (strD t),.ptr 0 [],.ptr 1 []] S0 (.d (i6 5)) S0:=by
 have h0:decide (t=bh)=false:=dF ht
 have hs:=cP (l:=t) (c:=32) (by omega)
 rw[hsp]at hs
 have g0:(a::r)[((0:Int)).toNat]?=some a:=rfl
 refine aw aa Tryz.func73 rfl rfl rfl ?_;refine sR<|rC<|zW ?_;refine rC ?_;refine rQ (dS (a:=t) (b:=bh) aa rfl rfl rfl) ?_;refine zG<|kS<|sR ?_;refine rC ?_;refine rQ (ak hs rfl rfl (aj (aj ae)) (.inl rfl) (fun _=>rfl)) ?_;refine rC<|nQ ?_;refine aH (by kernel_rfl) ?_;refine dQ [2] [1] iM ?_;refine dC [5] [] ?_;refine dQ [22] [] iA ?_;refine dQ [23] [] iL ?_;refine dQ [21,24] [2] (gD (κ:=List UInt8) (enc:=strD) (l:=cn) (k:=a) bU Tryz.underlying134 sh rfl rfl rfl hf) ?_;refine dC [25] [] ?_;iterate 2 refine dC [20] [] ?_
 refine dC [26] [] ?_;refine dC [27] [] ?_;refine aC (by kernel_rfl)<|aU<|qR ?_;refine zU ?_
 iterate 3 refine rT ?_
 refine rQ iU ?_;refine zO<|sR ?_;refine rC<|zT<|ba ?_
 exact⟨trivial,[],lg zV ⟨zR,zR,zR,zR,trivial⟩⟩
theorem wB (t a:List UInt8) (r:List (List UInt8)) (ht:t≠bh) (hl:t.length≤1048576) (hsp:aL t 32=a::r) (hf:di a cn 0=none) (l:List (List POp)) (p:List POp):FnIs Tryz.prog 73 [.d (strD t),.ptr 0 [],.ptr 1 []] (S1 3 4 l p) (.d (i6 5)) (S1 3 4 l p):=by
 have h0:decide (t=bh)=false:=dF ht
 have hs:=cP (l:=t) (c:=32) (by omega)
 rw[hsp]at hs
 have g0:(a::r)[((0:Int)).toNat]?=some a:=rfl
 refine aw aa Tryz.func73 rfl rfl rfl ?_;refine sR<|rC<|zW ?_;refine rC ?_;refine rQ (dS (a:=t) (b:=bh) aa rfl rfl rfl) ?_;refine zG<|kS<|sR ?_;refine rC ?_;refine rQ (ak hs rfl rfl (aj (aj ae)) (.inl rfl) (fun _=>rfl)) ?_;refine rC<|nQ ?_;refine aH (by kernel_rfl) ?_;refine dQ [2] [1] iM ?_;refine dC [5] [] ?_;refine dQ [22] [] iA ?_;refine dQ [23] [] iL ?_;refine dQ [21,24] [2] (gD (κ:=List UInt8) (enc:=strD) (l:=cn) (k:=a) bU Tryz.underlying134 sh rfl rfl rfl hf) ?_;refine dC [25] [] ?_;iterate 2 refine dC [20] [] ?_
 refine dC [26] [] ?_;refine dC [27] [] ?_;refine aC (by kernel_rfl)<|aU<|qR ?_;refine zU ?_
 iterate 3 refine rT ?_
 refine rQ iU ?_;refine zO<|sR ?_;refine rC<|zT<|ba ?_
 exact⟨trivial,[],lg zV ⟨zR,zR,zR,⟨rfl,dy rfl _,_,rfl,dN rfl rfl⟩,zR,trivial⟩⟩
theorem ru (t a:List UInt8) (r:List (List UInt8)) (ht:t≠bh) (hl:t.length≤1048576) (hsp:aL t 32=a::r) (f j:Nat) (hf:di a cn 0=some (j,fnA f)):FnIs Tryz.prog 73 [.d (strD t),.ptr 0 [],.ptr 1 []] S0 (.d (i6 5)) S0:=by
 have h0:decide (t=bh)=false:=dF ht
 have hs:=cP (l:=t) (c:=32) (by omega)
 rw[hsp]at hs
 have g0:(a::r)[((0:Int)).toNat]?=some a:=rfl
 refine aw aa Tryz.func73 rfl rfl rfl ?_;refine sR<|rC<|zW ?_;refine rC ?_;refine rQ (dS (a:=t) (b:=bh) aa rfl rfl rfl) ?_;refine zG<|kS<|sR ?_;refine rC ?_;refine rQ (ak hs rfl rfl (aj (aj ae)) (.inl rfl) (fun _=>rfl)) ?_;refine rC<|nQ ?_;refine aH (by kernel_rfl) ?_;refine dQ [2] [1] iM ?_;refine dC [5] [] ?_;refine dQ [22] [] iA ?_;refine dQ [23] [] iL ?_;refine dQ [21,24] [2] (cS (κ:=List UInt8) (enc:=strD) (l:=cn) (k:=a) bU Tryz.underlying134 rfl rfl rfl hf) ?_;refine dC [25] [] ?_;iterate 2 refine dC [20] [] ?_
 refine dC [26] [] ?_;refine dC [27] [] ?_;refine aC (by kernel_rfl)<|aU<|qR ?_;refine zU ?_;refine rP ?_;refine rQ iM ?_;refine rP ?_;refine rQ (bq aa rfl rfl) ?_;refine rP ?_;refine rC ?_;refine rQ iG ?_;refine zO<|sR ?_;refine rC<|zT<|ba ?_
 exact⟨trivial,[],lg zV ⟨zR,zR,zR,zR,trivial⟩⟩
theorem wI (t a:List UInt8) (r:List (List UInt8)) (ht:t≠bh) (hl:t.length≤1048576) (hsp:aL t 32=a::r) (f j:Nat) (hf:di a cn 0=some (j,fnA f)) (o:POp) (hread:FnIs Tryz.prog f [.d (.arr 1 strD r)] [] (opR o false) []) (l:List (List POp)) (p:List POp) (hll:l.length≤1000):FnIs Tryz.prog 73 [.d (strD t),.ptr 0 [],.ptr 1 []] (S1 3 4 l p) (.d (i6 5)) (S1 3 4 l p):=by
 have h0:decide (t=bh)=false:=dF ht
 have hs:=cP (l:=t) (c:=32) (by omega)
 rw[hsp]at hs
 have g0:(a::r)[((0:Int)).toNat]?=some a:=rfl
 have hz:decide (((l.length+1:Nat):Int)=0)=false:=dF (by omega)
 refine aw aa Tryz.func73 rfl rfl rfl ?_;refine sR<|rC<|zW ?_;refine rC ?_;refine rQ (dS (a:=t) (b:=bh) aa rfl rfl rfl) ?_;refine zG<|kS<|sR ?_;refine rC ?_;refine rQ (ak hs rfl rfl (aj (aj ae)) (.inl rfl) (fun _=>rfl)) ?_;refine rC<|nQ ?_;refine aH (by kernel_rfl) ?_;refine dQ [2] [1] iM ?_;refine dC [5] [] ?_;refine dQ [22] [] iA ?_;refine dQ [23] [] iL ?_;refine dQ [21,24] [2] (cS (κ:=List UInt8) (enc:=strD) (l:=cn) (k:=a) bU Tryz.underlying134 rfl rfl rfl hf) ?_;refine dC [25] [] ?_;iterate 2 refine dC [20] [] ?_
 refine dC [26] [] ?_;refine dC [27] [] ?_;refine aC (by kernel_rfl)<|aU<|qR ?_;refine zU ?_;refine rP ?_;refine rQ iM ?_;refine rP ?_;refine rQ (bq aa rfl rfl) ?_;refine rP ?_;refine rC ?_;refine rQ iG ?_;refine zJ<|kS<|sR ?_;refine zD ?_;refine rQ (bV (m:=1) aa rfl rfl rfl rfl rfl (Nat.succ_le_succ (Nat.zero_le _))) ?_;refine rQ (ak hread rfl rfl (aj ae) (.inl rfl) (fun _=>rfl)) ?_;refine zU ?_;refine rN ?_;refine rW ?_;refine rC<|zW ?_;refine zU ?_
 iterate 4 refine rT ?_
 refine rQ iU ?_;refine zO<|sR ?_;refine rC<|zT<|ba ?_
 exact⟨trivial,[],lg zV ⟨zR,zR,zR,⟨rfl,dy rfl _,_,rfl,dN rfl rfl⟩,zR,trivial⟩⟩
theorem xY (t a:List UInt8) (r:List (List UInt8)) (ht:t≠bh) (hl:t.length≤1048576) (hsp:aL t 32=a::r) (f j:Nat) (hf:di a cn 0=some (j,fnA f)) (o:POp) (hok:o.Ok) (hdl:o.data.length≤524288) (hread:FnIs Tryz.prog f [.d (.arr 1 strD r)] [] (opR o true) []) (l:List (List POp)) (p:List POp) (hll:l.length≤1000) (hne:bO o≠t):FnIs Tryz.prog 73 [.d (strD t),.ptr 0 [],.ptr 1 []] (S1 3 4 l p) (.d (i6 5)) (S1 3 4 l p):=by
 have h0:decide (t=bh)=false:=dF ht
 have hs:=cP (l:=t) (c:=32) (by omega)
 rw[hsp]at hs
 have g0:(a::r)[((0:Int)).toNat]?=some a:=rfl
 have hz:decide (((l.length+1:Nat):Int)=0)=false:=dF (by omega)
 have hline:=ob o hok hdl
 have hn:(!decide (bO o=t))=true:=by rw[dF hne]; rfl
 refine aw aa Tryz.func73 rfl rfl rfl ?_;refine sR<|rC<|zW ?_;refine rC ?_;refine rQ (dS (a:=t) (b:=bh) aa rfl rfl rfl) ?_;refine zG<|kS<|sR ?_;refine rC ?_;refine rQ (ak hs rfl rfl (aj (aj ae)) (.inl rfl) (fun _=>rfl)) ?_;refine rC<|nQ ?_;refine aH (by kernel_rfl) ?_;refine dQ [2] [1] iM ?_;refine dC [5] [] ?_;refine dQ [22] [] iA ?_;refine dQ [23] [] iL ?_;refine dQ [21,24] [2] (cS (κ:=List UInt8) (enc:=strD) (l:=cn) (k:=a) bU Tryz.underlying134 rfl rfl rfl hf) ?_;refine dC [25] [] ?_;iterate 2 refine dC [20] [] ?_
 refine dC [26] [] ?_;refine dC [27] [] ?_;refine aC (by kernel_rfl)<|aU<|qR ?_;refine zU ?_;refine rP ?_;refine rQ iM ?_;refine rP ?_;refine rQ (bq aa rfl rfl) ?_;refine rP ?_;refine rC ?_;refine rQ iG ?_;refine zJ<|kS<|sR ?_;refine zD ?_;refine rQ (bV (m:=1) aa rfl rfl rfl rfl rfl (Nat.succ_le_succ (Nat.zero_le _))) ?_;refine rQ (ak hread rfl rfl (aj ae) (.inl rfl) (fun _=>rfl)) ?_;refine zU ?_;refine rN ?_;refine rW ?_;refine rC<|zW ?_;refine zU ?_;refine rP ?_;refine rQ iM ?_;refine rP ?_;refine rQ (ak hline rfl rfl (aj ae) (.inl rfl) (fun _=>rfl)) ?_;refine rP ?_;refine rC ?_;refine rP ?_;refine rQ (ed (a:=bO o) (b:=t) aa rfl rfl rfl) ?_;refine rQ iG ?_;refine zI<|sR ?_;refine rC<|zT<|ba ?_
 exact⟨trivial,[],lg zV ⟨zR,zR,zR,⟨rfl,dy rfl _,_,rfl,dN rfl rfl⟩,zR,trivial⟩⟩
theorem jE {b b' n:Nat} {p:List POp} {l:List (List POp)} {m m':Nat} {ρ:Nat→Option Nat} (hm:m=m') (hn:n=p.length) (hρ:ρ b'=some b):aE (.lits 49 1 m false (chM (.own b 0 n 3 none) (l.map encP))) (Row.ren ρ (rowL p l m' b')):=by
 subst hn
 exact dN hm hρ
theorem xX (t a:List UInt8) (r:List (List UInt8)) (ht:t≠bh) (hl:t.length≤1048576) (hsp:aL t 32=a::r) (f j:Nat) (hf:di a cn 0=some (j,fnA f)) (o:POp) (hok:o.Ok) (hdl:o.data.length≤524288) (hread:FnIs Tryz.prog f [.d (.arr 1 strD r)] [] (opR o true) []) (l:List (List POp)) (p:List POp) (hll:l.length≤1000) (hpp:p.length≤1000) (heq:bO o=t) (b1 b2:Bool) (hb1:decide (64<((p.length+1:Nat):Int))=b1) (hb2:decide (64<((byI o.data).length:Int))=b2):FnIs Tryz.prog 73 [.d (strD t),.ptr 0 [],.ptr 1 []] (S1 3 4 l p) (.d (i6 (if b1||b2 then 3 else 0))) (S1 3 65 l (p++[o])):=by
 have h0:decide (t=bh)=false:=dF ht
 have hs:=cP (l:=t) (c:=32) (by omega)
 rw[hsp]at hs
 have g0:(a::r)[((0:Int)).toNat]?=some a:=rfl
 have hz:decide (((l.length+1:Nat):Int)=0)=false:=dF (by omega)
 have hline:=ob o hok hdl
 have hn:(!decide (bO o=t))=false:=by rw[dT heq]; rfl
 have hw:IntKind.i64.wrap (((l.length+1:Nat):Int)-1)=(l.length:Int):=by rw[aI (by omega) (by omega)]; omega
 have hsz:∀d∈l.map encP,d.size=1:=fun d hd=>by
  obtain⟨x,_,rfl⟩:=List.mem_map.1 hd
  rfl
 have hmm:l.length+1=(l.map encP).length+1:=by simp
 have hml:(l.map encP).length=l.length:=by simp
 have hpn:p.length+1=(p++[o]).length:=by simp
 have hpl:p.length+1≤1048576:=by omega
 refine aw aa Tryz.func73 rfl rfl rfl ?_
 cases b1 <;> cases b2
 ·refine sR<|rC<|zW ?_;refine rC ?_;refine rQ (dS (a:=t) (b:=bh) aa rfl rfl rfl) ?_;refine zG<|kS<|sR ?_;refine rC ?_;refine rQ (ak hs rfl rfl (aj (aj ae)) (.inl rfl) (fun _=>rfl)) ?_;refine rC<|nQ ?_;refine aH (by kernel_rfl) ?_;refine dQ [2] [1] iM ?_;refine dC [5] [] ?_;refine dQ [22] [] iA ?_;refine dQ [23] [] iL ?_;refine dQ [21,24] [2] (cS (κ:=List UInt8) (enc:=strD) (l:=cn) (k:=a) bU Tryz.underlying134 rfl rfl rfl hf) ?_;refine dC [25] [] ?_;iterate 2 refine dC [20] [] ?_
  refine dC [26] [] ?_;refine dC [27] [] ?_;refine aC (by kernel_rfl)<|aU<|qR ?_;refine zU ?_;refine rP ?_;refine rQ iM ?_;refine rP ?_;refine rQ (bq aa rfl rfl) ?_;refine rP ?_;refine rC ?_;refine rQ iG ?_;refine zJ<|kS<|sR ?_;refine zD ?_;refine rQ (bV (m:=1) aa rfl rfl rfl rfl rfl (Nat.succ_le_succ (Nat.zero_le _))) ?_;refine rQ (ak hread rfl rfl (aj ae) (.inl rfl) (fun _=>rfl)) ?_;refine zU ?_;refine rN ?_;refine rW ?_;refine rC<|zW ?_;refine zU ?_;refine rP ?_;refine rQ iM ?_;refine rP ?_;refine rQ (ak hline rfl rfl (aj ae) (.inl rfl) (fun _=>rfl)) ?_;refine rP ?_;refine rC ?_;refine rP ?_;refine rQ (ed (a:=bO o) (b:=t) aa rfl rfl rfl) ?_;refine rQ iG ?_;refine zG<|zQ ?_;refine aH (by kernel_rfl) ?_;iterate 2 refine dQ [1] [0] iM ?_
  refine dQ [51] [3] (bq aa rfl rfl) ?_;refine dQ [52] [] (cq (m:=(l.length:Int)) aa rfl rfl hw) ?_;refine dQ [50,53] [] (aP aa rfl rfl rfl rfl rfl (by omega) (by omega)) ?_;refine dQ [54] [3] (bM aa rfl rfl (iq (s:=1) (A :=.own 4 0 p.length 3 none) hsz hmm ((Int.toNat_natCast _).trans hml.symm)) rfl) ?_;refine dQ [8] [304] iM ?_;refine eL [56] [] rfl (aV (s:=3) aa rfl rfl rfl rfl rfl rfl rfl rfl) ?_;refine gG [55,57] [4,448] rfl (bR (xs:=p) (s:=3) (enc:=br) aa o rfl rfl rfl rfl rfl rfl rfl rfl rfl hpl rfl) ?_;refine dC [58] [] ?_;refine aC (by kernel_rfl)<|aU<|sR ?_;iterate 2 refine rQ iM ?_
  refine rQ (bq aa rfl rfl) ?_;refine rQ (cq (m:=(l.length:Int)) aa rfl rfl hw) ?_;refine rC ?_;refine rQ (aP aa rfl rfl rfl rfl rfl (by omega) (by omega)) ?_;refine aW (aF aa rfl rfl rfl (io (s:=1) hsz hmm ((Int.toNat_natCast _).trans hml.symm) rfl rfl) rfl)<|zW ?_;refine rC ?_;refine rQ (bq aa rfl rfl) ?_;refine zD ?_;refine rO ?_;refine rC ?_;refine rO ?_;refine rQ iB ?_;refine rO ?_;refine rQ iE ?_;refine rO ?_;refine rC ?_;refine rQ iF ?_;refine zG<|kS<|sR ?_;refine rC<|zT ?_
  exact⟨trivial,[(65,some 456)],lg zV ⟨zR,zR,zR,⟨rfl,dy rfl _,_,rfl,jE rfl hpn rfl⟩,zR,trivial⟩⟩
 ·refine sR<|rC<|zW ?_;refine rC ?_;refine rQ (dS (a:=t) (b:=bh) aa rfl rfl rfl) ?_;refine zG<|kS<|sR ?_;refine rC ?_;refine rQ (ak hs rfl rfl (aj (aj ae)) (.inl rfl) (fun _=>rfl)) ?_;refine rC<|nQ ?_;refine aH (by kernel_rfl) ?_;refine dQ [2] [1] iM ?_;refine dC [5] [] ?_;refine dQ [22] [] iA ?_;refine dQ [23] [] iL ?_;refine dQ [21,24] [2] (cS (κ:=List UInt8) (enc:=strD) (l:=cn) (k:=a) bU Tryz.underlying134 rfl rfl rfl hf) ?_;refine dC [25] [] ?_;iterate 2 refine dC [20] [] ?_
  refine dC [26] [] ?_;refine dC [27] [] ?_;refine aC (by kernel_rfl)<|aU<|qR ?_;refine zU ?_;refine rP ?_;refine rQ iM ?_;refine rP ?_;refine rQ (bq aa rfl rfl) ?_;refine rP ?_;refine rC ?_;refine rQ iG ?_;refine zJ<|kS<|sR ?_;refine zD ?_;refine rQ (bV (m:=1) aa rfl rfl rfl rfl rfl (Nat.succ_le_succ (Nat.zero_le _))) ?_;refine rQ (ak hread rfl rfl (aj ae) (.inl rfl) (fun _=>rfl)) ?_;refine zU ?_;refine rN ?_;refine rW ?_;refine rC<|zW ?_;refine zU ?_;refine rP ?_;refine rQ iM ?_;refine rP ?_;refine rQ (ak hline rfl rfl (aj ae) (.inl rfl) (fun _=>rfl)) ?_;refine rP ?_;refine rC ?_;refine rP ?_;refine rQ (ed (a:=bO o) (b:=t) aa rfl rfl rfl) ?_;refine rQ iG ?_;refine zG<|zQ ?_;refine aH (by kernel_rfl) ?_;iterate 2 refine dQ [1] [0] iM ?_
  refine dQ [51] [3] (bq aa rfl rfl) ?_;refine dQ [52] [] (cq (m:=(l.length:Int)) aa rfl rfl hw) ?_;refine dQ [50,53] [] (aP aa rfl rfl rfl rfl rfl (by omega) (by omega)) ?_;refine dQ [54] [3] (bM aa rfl rfl (iq (s:=1) (A :=.own 4 0 p.length 3 none) hsz hmm ((Int.toNat_natCast _).trans hml.symm)) rfl) ?_;refine dQ [8] [304] iM ?_;refine eL [56] [] rfl (aV (s:=3) aa rfl rfl rfl rfl rfl rfl rfl rfl) ?_;refine gG [55,57] [4,448] rfl (bR (xs:=p) (s:=3) (enc:=br) aa o rfl rfl rfl rfl rfl rfl rfl rfl rfl hpl rfl) ?_;refine dC [58] [] ?_;refine aC (by kernel_rfl)<|aU<|sR ?_;iterate 2 refine rQ iM ?_
  refine rQ (bq aa rfl rfl) ?_;refine rQ (cq (m:=(l.length:Int)) aa rfl rfl hw) ?_;refine rC ?_;refine rQ (aP aa rfl rfl rfl rfl rfl (by omega) (by omega)) ?_;refine aW (aF aa rfl rfl rfl (io (s:=1) hsz hmm ((Int.toNat_natCast _).trans hml.symm) rfl rfl) rfl)<|zW ?_;refine rC ?_;refine rQ (bq aa rfl rfl) ?_;refine zD ?_;refine rO ?_;refine rC ?_;refine rO ?_;refine rQ iB ?_;refine rO ?_;refine rQ iE ?_;refine rO ?_;refine rC ?_;refine rQ iF ?_;refine zI<|sR ?_;refine rC<|zT<|ba ?_
  exact⟨trivial,[(65,some 456)],lg zV ⟨zR,zR,zR,⟨rfl,dy rfl _,_,rfl,jE rfl hpn rfl⟩,zR,trivial⟩⟩
 ·refine sR<|rC<|zW ?_;refine rC ?_;refine rQ (dS (a:=t) (b:=bh) aa rfl rfl rfl) ?_;refine zG<|kS<|sR ?_;refine rC ?_;refine rQ (ak hs rfl rfl (aj (aj ae)) (.inl rfl) (fun _=>rfl)) ?_;refine rC<|nQ ?_;refine aH (by kernel_rfl) ?_;refine dQ [2] [1] iM ?_;refine dC [5] [] ?_;refine dQ [22] [] iA ?_;refine dQ [23] [] iL ?_;refine dQ [21,24] [2] (cS (κ:=List UInt8) (enc:=strD) (l:=cn) (k:=a) bU Tryz.underlying134 rfl rfl rfl hf) ?_;refine dC [25] [] ?_;iterate 2 refine dC [20] [] ?_
  refine dC [26] [] ?_;refine dC [27] [] ?_;refine aC (by kernel_rfl)<|aU<|qR ?_;refine zU ?_;refine rP ?_;refine rQ iM ?_;refine rP ?_;refine rQ (bq aa rfl rfl) ?_;refine rP ?_;refine rC ?_;refine rQ iG ?_;refine zJ<|kS<|sR ?_;refine zD ?_;refine rQ (bV (m:=1) aa rfl rfl rfl rfl rfl (Nat.succ_le_succ (Nat.zero_le _))) ?_;refine rQ (ak hread rfl rfl (aj ae) (.inl rfl) (fun _=>rfl)) ?_;refine zU ?_;refine rN ?_;refine rW ?_;refine rC<|zW ?_;refine zU ?_;refine rP ?_;refine rQ iM ?_;refine rP ?_;refine rQ (ak hline rfl rfl (aj ae) (.inl rfl) (fun _=>rfl)) ?_;refine rP ?_;refine rC ?_;refine rP ?_;refine rQ (ed (a:=bO o) (b:=t) aa rfl rfl rfl) ?_;refine rQ iG ?_;refine zG<|zQ ?_;refine aH (by kernel_rfl) ?_;iterate 2 refine dQ [1] [0] iM ?_
  refine dQ [51] [3] (bq aa rfl rfl) ?_;refine dQ [52] [] (cq (m:=(l.length:Int)) aa rfl rfl hw) ?_;refine dQ [50,53] [] (aP aa rfl rfl rfl rfl rfl (by omega) (by omega)) ?_;refine dQ [54] [3] (bM aa rfl rfl (iq (s:=1) (A :=.own 4 0 p.length 3 none) hsz hmm ((Int.toNat_natCast _).trans hml.symm)) rfl) ?_;refine dQ [8] [304] iM ?_;refine eL [56] [] rfl (aV (s:=3) aa rfl rfl rfl rfl rfl rfl rfl rfl) ?_;refine gG [55,57] [4,448] rfl (bR (xs:=p) (s:=3) (enc:=br) aa o rfl rfl rfl rfl rfl rfl rfl rfl rfl hpl rfl) ?_;refine dC [58] [] ?_;refine aC (by kernel_rfl)<|aU<|sR ?_;iterate 2 refine rQ iM ?_
  refine rQ (bq aa rfl rfl) ?_;refine rQ (cq (m:=(l.length:Int)) aa rfl rfl hw) ?_;refine rC ?_;refine rQ (aP aa rfl rfl rfl rfl rfl (by omega) (by omega)) ?_;refine aW (aF aa rfl rfl rfl (io (s:=1) hsz hmm ((Int.toNat_natCast _).trans hml.symm) rfl rfl) rfl)<|zW ?_;refine rC ?_;refine rQ (bq aa rfl rfl) ?_;refine zD ?_
  iterate 4 refine rS ?_
  refine rQ iT ?_;refine zO<|sR ?_;refine rC<|zT<|ba ?_
  exact⟨trivial,[(65,some 456)],lg zV ⟨zR,zR,zR,⟨rfl,dy rfl _,_,rfl,jE rfl hpn rfl⟩,zR,trivial⟩⟩
 ·refine sR<|rC<|zW ?_;refine rC ?_;refine rQ (dS (a:=t) (b:=bh) aa rfl rfl rfl) ?_;refine zG<|kS<|sR ?_;refine rC ?_;refine rQ (ak hs rfl rfl (aj (aj ae)) (.inl rfl) (fun _=>rfl)) ?_;refine rC<|nQ ?_;refine aH (by kernel_rfl) ?_;refine dQ [2] [1] iM ?_;refine dC [5] [] ?_;refine dQ [22] [] iA ?_;refine dQ [23] [] iL ?_;refine dQ [21,24] [2] (cS (κ:=List UInt8) (enc:=strD) (l:=cn) (k:=a) bU Tryz.underlying134 rfl rfl rfl hf) ?_;refine dC [25] [] ?_;iterate 2 refine dC [20] [] ?_
  refine dC [26] [] ?_;refine dC [27] [] ?_;refine aC (by kernel_rfl)<|aU<|qR ?_;refine zU ?_;refine rP ?_;refine rQ iM ?_;refine rP ?_;refine rQ (bq aa rfl rfl) ?_;refine rP ?_;refine rC ?_;refine rQ iG ?_;refine zJ<|kS<|sR ?_;refine zD ?_;refine rQ (bV (m:=1) aa rfl rfl rfl rfl rfl (Nat.succ_le_succ (Nat.zero_le _))) ?_;refine rQ (ak hread rfl rfl (aj ae) (.inl rfl) (fun _=>rfl)) ?_;refine zU ?_;refine rN ?_;refine rW ?_;refine rC<|zW ?_;refine zU ?_;refine rP ?_;refine rQ iM ?_;refine rP ?_;refine rQ (ak hline rfl rfl (aj ae) (.inl rfl) (fun _=>rfl)) ?_;refine rP ?_;refine rC ?_;refine rP ?_;refine rQ (ed (a:=bO o) (b:=t) aa rfl rfl rfl) ?_;refine rQ iG ?_;refine zG<|zQ ?_;refine aH (by kernel_rfl) ?_;iterate 2 refine dQ [1] [0] iM ?_
  refine dQ [51] [3] (bq aa rfl rfl) ?_;refine dQ [52] [] (cq (m:=(l.length:Int)) aa rfl rfl hw) ?_;refine dQ [50,53] [] (aP aa rfl rfl rfl rfl rfl (by omega) (by omega)) ?_;refine dQ [54] [3] (bM aa rfl rfl (iq (s:=1) (A :=.own 4 0 p.length 3 none) hsz hmm ((Int.toNat_natCast _).trans hml.symm)) rfl) ?_;refine dQ [8] [304] iM ?_;refine eL [56] [] rfl (aV (s:=3) aa rfl rfl rfl rfl rfl rfl rfl rfl) ?_;refine gG [55,57] [4,448] rfl (bR (xs:=p) (s:=3) (enc:=br) aa o rfl rfl rfl rfl rfl rfl rfl rfl rfl hpl rfl) ?_;refine dC [58] [] ?_;refine aC (by kernel_rfl)<|aU<|sR ?_;iterate 2 refine rQ iM ?_
  refine rQ (bq aa rfl rfl) ?_;refine rQ (cq (m:=(l.length:Int)) aa rfl rfl hw) ?_;refine rC ?_;refine rQ (aP aa rfl rfl rfl rfl rfl (by omega) (by omega)) ?_;refine aW (aF aa rfl rfl rfl (io (s:=1) hsz hmm ((Int.toNat_natCast _).trans hml.symm) rfl rfl) rfl)<|zW ?_;refine rC ?_;refine rQ (bq aa rfl rfl) ?_;refine zD ?_
  iterate 4 refine rS ?_
  refine rQ iT ?_;refine zO<|sR ?_;refine rC<|zT<|ba ?_
  exact⟨trivial,[(65,some 456)],lg zV ⟨zR,zR,zR,⟨rfl,dy rfl _,_,rfl,jE rfl hpn rfl⟩,zR,trivial⟩⟩
end Go.Proofs.YtpmhnpnmpjimnaaGreatDoor
namespace Go.Proofs.YtpmhnpnmpjimnaaGreatDoor
open Go.Eng Go.Plain
set_option maxHeartbeats 32000000
set_option maxRecDepth 20000
theorem vf {w:List (List UInt8)} (h:(opW w).2=true):∃k i d,w=[k,i,d]∧opF k i d=some (opW w).1:=by
 unfold opW at h ⊢
 split
 ·rename_i k i d
  exact⟨k,i,d,rfl,by rw[vh,if_pos h]⟩
 ·rename_i hn
  split at h
  ·rename_i k i d
   exact absurd rfl (hn k i d)
  ·cases h
theorem vg {k i d:List UInt8} (h:(opW [k,i,d]).2=false):opF k i d=none:=by
 rw[vh,if_neg]
 intro hc
 rw[show (opW [k,i,d]).2=opOk k i d from rfl,hc]at h
 cases h
theorem xl {k i d:List UInt8} {o:POp} (h:opF k i d=some o) (hd:d.length≤1048576):o.data.length≤524288:=by
 simp only[opF]at h
 split at h
 ·rename_i d' _ _ h3
  cases h
  have:=sM h3
  simp only
  omega
 ·cases h
theorem mY (a:List UInt8) (r:List (List UInt8)) (hw:∀x∈r,x.length≤1048576) (hl:a.length+r.length≤1048576) :
  (di a cn 0=none∧cQ (a::r)=none)∨∃j f o b,di a cn 0=some (j,fnA f)∧FnIs Tryz.prog f [.d (.arr 1 strD r)] [] (opR o b) []∧(b=true→cQ (a::r)=some o∧o.Ok∧o.data.length≤524288)∧(b=false→cQ (a::r)=none):=by
 have fin:∀(ws:List (List UInt8)),(∀x∈ws,x.length≤1048576)→(∀o,cQ (a::r)=some o→o.Ok)→(∀k i d,ws=[k,i,d]→cQ (a::r)=opF k i d)→((∀k i d,ws≠[k,i,d])→cQ (a::r)=none) →
   ((opW ws).2=true→cQ (a::r)=some (opW ws).1∧(opW ws).1.Ok∧(opW ws).1.data.length≤524288)∧((opW ws).2=false→cQ (a::r)=none):=by
  intro ws hx hk h1 h2
  constructor
  ·intro h
   obtain⟨k,i,d,e,h3⟩:=vf h
   have h4:cQ (a::r)=some (opW ws).1:=(h1 k i d e).trans h3
   exact⟨h4,hk _ h4,xl h3 (hx d (by rw[e]; simp))⟩
  ·intro h
   by_cases hs:∃k i d,ws=[k,i,d]
   ·obtain⟨k,i,d,rfl⟩:=hs
    exact (h1 k i d rfl).trans (vg h)
   ·exact h2 fun k i d e=>hs ⟨k,i,d,e⟩
 have hok:∀o,cQ (a::r)=some o→o.Ok:=fun o h=>o4 h
 by_cases h1:a=fJ
 ·subst h1
  refine .inr ⟨0,95,_,_,rfl,qA r hw (by simp[fJ,dr,fe]at hl; omega),?_⟩
  refine fin _ ?_ hok ?_ ?_
  ·intro x hx
   rcases List.mem_cons.1 hx with rfl | hx
   ·decide
   ·rcases List.mem_append.1 hx with hx | hx
    ·exact hw x hx
    ·rw[List.mem_singleton.1 hx]; decide
  ·intro k i d e
   match r,e with
   | [x],e=>cases e; simp[cQ]
   | [],e=>cases e
   | _::_::_,e=>simp at e
  ·intro hn
   match r,hn with
   | [x],hn=>exact absurd rfl (hn [49] x [45])
   | [],_=>simp[cQ]
   | _::_::_,_=>simp[cQ]
 by_cases h2:a=dr
 ·subst h2
  refine .inr ⟨1,98,_,_,rfl,qz r hw (by simp[fJ,dr,fe]at hl; omega),?_⟩
  refine fin _ ?_ hok ?_ ?_
  ·intro x hx
   rcases List.mem_cons.1 hx with rfl | hx
   ·decide
   ·exact hw x hx
  ·intro k i d e
   match r,e with
   | [x,y],e=>cases e; simp[cQ,h1]
   | [],e=>cases e
   | [_],e=>cases e
   | _::_::_::_,e=>simp at e
  ·intro hn
   match r,hn with
   | [x,y],hn=>exact absurd rfl (hn [50] x y)
   | [],_=>simp[cQ,h1]
   | [_],_=>simp[cQ,h1]
   | _::_::_::_,_=>simp[cQ,h1]
 by_cases h3:a=fe
 ·subst h3
  refine .inr ⟨2,99,_,_,rfl,qy r hw (by simp[fJ,dr,fe]at hl; omega),?_⟩
  refine fin _ ?_ hok ?_ ?_
  ·intro x hx
   simp only[List.mem_cons]at hx
   rcases hx with rfl | rfl | rfl | hx
   ·decide
   ·decide
   ·decide
   ·exact hw x hx
  ·intro k i d e
   match r,e with
   | [],e=>cases e; simp[cQ,h1,h2]
   | _::_,e=>simp at e
  ·intro hn
   match r,hn with
   | [],hn=>exact absurd rfl (hn [51] [48] [45])
   | _::_,_=>simp[cQ,h1,h2]
 by_cases h4:a=sOp
 ·subst h4
  refine .inr ⟨3,96,_,_,rfl,fj r hw,?_⟩
  refine fin _ hw hok ?_ ?_
  ·intro k i d e
   subst e
   simp[cQ,h1,h2,h3]
  ·intro hn
   match r,hn with
   | [k,i,d],hn=>exact absurd rfl (hn k i d)
   | [],_=>simp[cQ,h1,h2,h3]
   | [_],_=>simp[cQ,h1,h2,h3]
   | [_,_],_=>simp[cQ,h1,h2,h3]
   | _::_::_::_::_,_=>simp[cQ,h1,h2,h3]
 ·refine .inl ⟨?_,by simp[cQ,h1,h2,h3,h4]⟩
  simp[cn,di,Ne.symm h1,Ne.symm h2,Ne.symm h3,Ne.symm h4,h1,h2,h3,h4]
abbrev addC:FuncId:=73
abbrev addA (t:List UInt8):List AV:=[.d (strD t),.ptr 0 [],.ptr 1 []]
theorem wH {t:List UInt8} (ht:t≠bh) (hl:t.length≤1048575):(addP [] t).2=5∧FnIs Tryz.prog addC (addA t) S0 (.d (i6 5)) S0:=by
 have h5:(addP [] t).2=5:=by
  simp only[addP,if_neg ht]
  cases gU t <;> rfl
 refine⟨h5,?_⟩
 cases hs:aL t 32 with
 | nil=>exact absurd hs (ij t 32)
 | cons a r =>
  have hh:=lr hs
  have hw:∀x∈r,x.length≤1048576:=fun x hx=>by
   have:=de t 32 x (by rw[hs]; simp[hx])
   omega
  rcases mY a r hw (by omega)with ⟨hf,_⟩ | ⟨j,f,o,b,hf,_⟩
  ·exact wC t a r ht (by omega) hs hf
  ·exact ru t a r ht (by omega) hs f j hf
theorem wE {t:List UInt8} (ht:t≠bh) (hl:t.length≤1048575) (l:List (List POp)) (p:List POp) (hll:l.length≤1000) (hpp:p.length≤1000) :
  (∃e:Int,e≠0∧(addP (l++[p]) t).2=e∧(FnIs Tryz.prog addC (addA t) (S1 3 4 l p) (.d (i6 e)) (S1 3 4 l p)∨∃o,FnIs Tryz.prog addC (addA t) (S1 3 4 l p) (.d (i6 e)) (S1 3 65 l (p++[o])))) ∨
  ∃o,addP (l++[p]) t=(l++[p++[o]],0)∧FnIs Tryz.prog addC (addA t) (S1 3 4 l p) (.d (i6 0)) (S1 3 65 l (p++[o])):=by
 cases hs:aL t 32 with
 | nil=>exact absurd hs (ij t 32)
 | cons a r =>
  have hh:=lr hs
  have hw:∀x∈r,x.length≤1048576:=fun x hx=>by
   have:=de t 32 x (by rw[hs]; simp[hx])
   omega
  have hno:gU t=none→(addP (l++[p]) t).2=5:=fun h=>by simp only[addP,if_neg ht,h]
  rcases mY a r hw (by omega)with ⟨hf,hr⟩ | ⟨j,f,o,b,hf,hread,hb1,hb2⟩
  ·exact .inl ⟨5,by decide,hno (by simp only[gU,hs,hr]),.inl (wB t a r ht (by omega) hs hf l p)⟩
  ·cases b with
   | false=>exact .inl ⟨5,by decide,hno (by simp only[gU,hs,hb2 rfl]),.inl (wI t a r ht (by omega) hs f j hf o hread l p hll)⟩
   | true =>
    obtain⟨h1,h2,h3⟩:=hb1 rfl
    by_cases he:bO o=t
    ·have hr:gU t=some o:=by simp only[gU,hs,h1,if_pos he]
     have hok:=xX t a r ht (by omega) hs f j hf o h2 h3 hread l p hll hpp he _ _ rfl rfl
     have hne:¬(l++[p]=[]):=by simp
     have hg:(l++[p]).getLast?.getD []=p:=by simp
     have hbl:(byI o.data).length=o.data.length:=ch _
     by_cases hbig:64<p.length+1∨64<o.data.length
     ·have hb:(decide (64<((p.length+1:Nat):Int))||decide (64<((byI o.data).length:Int)))=true:=by
       rw[Bool.or_eq_true,decide_eq_true_eq,decide_eq_true_eq,hbl]
       rcases hbig with h | h
       ·exact .inl (by omega)
       ·exact .inr (by omega)
      rw[hb]at hok
      refine .inl ⟨3,by decide,?_,.inr ⟨o,hok⟩⟩
      simp only[addP,if_neg ht,hr,if_neg hne,hg,if_pos hbig]
     ·have hb:(decide (64<((p.length+1:Nat):Int))||decide (64<((byI o.data).length:Int)))=false:=by
       rw[Bool.or_eq_false_iff,decide_eq_false_iff_not,decide_eq_false_iff_not,hbl]
       exact⟨by omega,by omega⟩
      rw[hb]at hok
      refine .inr ⟨o,?_,hok⟩
      simp only[addP,if_neg ht,hr,if_neg hne,hg,if_neg hbig,fk]
    ·exact .inl ⟨5,by decide,hno (by simp only[gU,hs,h1,if_neg he]),.inl (xY t a r ht (by omega) hs f j hf o h2 h3 hread l p hll he)⟩
end Go.Proofs.YtpmhnpnmpjimnaaGreatDoor
namespace Go.Proofs.YtpmhnpnmpjimnaaGreatDoor
open Go.Eng Go.Plain
set_option maxHeartbeats 32000000
set_option maxRecDepth 20000
attribute [local irreducible] WC RegS RegD SeqQ BlkQ ScoQ RegK CutK Sat SatN FnIs LoopQ aq OpIs
abbrev parR (l:List (List POp)) (n:Nat) (e:Int):AV :=.tup (.acons (.d (.arx 1 fQ l)) (.acons (.int .i64 n) (.acons (.d (i6 e)) .anil)))
theorem nil_arx {α:Type} (s:Nat) (enc:α→D):AVLe (.d (.sc nil_)) (.d (.arx s enc [])):=fun σ w X v h=>AVLe.empty_arx s enc σ w X v (AVLe.nil_empty σ w X v h)
def toL:Option (List (List POp)×List POp)→List (List POp)
 | none=>[]
 | some (l,p)=>l++[p]
abbrev addF:AV :=.fn (.func 73) .anil (.acons (.ptr 65 []) (.acons (.ptr 66 []) .anil))
@[reducible] noncomputable def pSt:Option (List (List POp)×List POp)×List UInt8×Nat→St
 | (none,s,n)=>⟨[(6,addF),(3,.int .i64 n),(2,.ptr 65 []),(0,.d (strD s))],[(65,some (.box 35 (.own 68 0 0 1 none))),(66,some (.box 134 (.mapr 67))),(67,some (.mo (mapC strD cn))),(68,some (.ds 49 1 false encO []))],72,Tryz.f52.ntmps,64⟩
 | (some (l,p),s,n)=>⟨[(6,addF),(3,.int .i64 n),(2,.ptr 65 []),(0,.d (strD s))],[(65,some (.box 35 (.own 68 0 (l.length+1) 1 none))),(66,some (.box 134 (.mapr 67))),(67,some (.mo (mapC strD cn))),(68,some (rowL p l (l.length+1) 69)),(69,some (rowP p))],72,Tryz.f52.ntmps,64⟩
theorem lT {b b' c:Nat} {p:List POp} {l:List (List POp)} {m m':Nat} {ρ ρ':Nat→Option Nat} (hm:m=m') (h1:ρ b=some c) (h2:ρ' b'=some c):aE (Row.ren ρ (rowL p l m b)) (Row.ren ρ' (rowL p l m' b')):=by
 subst hm
 show aE (.lits _ _ _ _ (AV.ren ρ (chM _ _))) (.lits _ _ _ _ (AV.ren ρ' (chM _ _)))
 rw[jO,jO]
 have e1:AV.ren ρ (.own b 0 p.length 3 none)=.own c 0 p.length 3 none:=by simp[AV.ren,h1]
 have e2:AV.ren ρ' (.own b' 0 p.length 3 none)=.own c 0 p.length 3 none:=by simp[AV.ren,h2]
 rw[e1,e2]
 exact .refl _
theorem xV {α β:Type} {s:Nat} {enc:α→D} {enc':β→D} {g:β→α} {xs:List β} {ys:List α} (hy:ys=xs.map g) (h:∀x,enc (g x)=enc' x):∀(σ:Eng.Place) (w:World) (X:Nat→Prop) (cs:List Value),Rel σ w X (.d (.arr s enc ys)) false cs→Rel σ w X (.d (.arr s enc' xs)) false cs:=by
 subst hy
 intro σ w X v hv
 rcases hv with ⟨h1,rfl⟩ | ⟨a,c,rfl,h2,h3,f,hf⟩
 ·exact .inl ⟨by simpa using h1,rfl⟩
 ·refine .inr ⟨a,c,by rw[List.length_map],by rw[List.length_map]at h2; exact h2,h3,f,fun i hi=>?_⟩
  have:=hf i (by rw[List.length_map]; exact hi)
  rw[List.getElem_map,h]at this
  exact this
theorem wy {α β:Type} {s:Nat} (enc:α→D) (enc':β→D):∀(σ:Eng.Place) (w:World) (X:Nat→Prop) (cs:List Value),Rel σ w X (.d (.arr s enc [])) false cs→Rel σ w X (.d (.arr s enc' [])) false cs:=by
 intro σ w X v hv
 rcases hv with ⟨_,rfl⟩ | ⟨a,c,rfl,h2,h3,f,_⟩
 ·exact .inl ⟨rfl,rfl⟩
 ·exact .inr ⟨a,c,rfl,h2,h3,f,fun i hi=>absurd hi (Nat.not_lt_zero _)⟩
def enc2:Bool×List POp→D
 | (true,p)=>fQ p
 | (false,p)=>encP p
theorem tR (x:Bool×List POp):(enc2 x).size=1:=by obtain⟨b,p⟩:=x; cases b <;> rfl
def mkL (L:List (List POp)) (i:Nat):List (Bool×List POp):=(L.take i).map (fun p=>(true,p))++(L.drop i).map (fun p=>(false,p))
theorem xv (L:List (List POp)) (i:Nat):(mkL L i).length=L.length:=by simp[mkL]; omega
theorem xw {L:List (List POp)} {i:Nat} {x:List POp} (h:L[i]?=some x):(mkL L i)[i]?=some (false,x):=by
 have hi:i<L.length:=(List.getElem?_eq_some_iff.1 h).1
 rw[mkL,List.getElem?_append_right (by simp; omega)]
 simp only[List.length_map,List.length_take,Nat.min_eq_left (Nat.le_of_lt hi),Nat.sub_self,List.getElem?_map,List.getElem?_drop,Nat.add_zero,h,Option.map_some]
theorem xu {L:List (List POp)} {i:Nat} {x:List POp} (h:L[i]?=some x):(mkL L i).set i (true,x)=mkL L (i+1):=by
 have hi:i<L.length:=(List.getElem?_eq_some_iff.1 h).1
 have hx:L[i]=x:=(List.getElem?_eq_some_iff.1 h).2
 rw[mkL,mkL,List.set_append_right _ _ (by simp; omega),List.drop_eq_getElem_cons hi,hx,List.take_add_one,h]
 simp[Nat.min_eq_left (Nat.le_of_lt hi)]
def PInv (s0:List UInt8):Option (List (List POp)×List POp)×List UInt8×Nat→Prop
 | (q,s,n)=>bL s (toL q) n=bL s0 [] 1∧chkP (toL q)=0∧OkL (toL q)∧s.length+n≤s0.length+1∧1≤n
theorem xN {s t r:List UInt8} {c:UInt8} (h:cutL s c=some (t,r)):t.length+r.length+1=s.length:=by
 rw[(dP h).1]; simp; omega
theorem qG (s0:List UInt8) (hl:s0.length≤1048576):FnIs Tryz.prog 52 [.d (strD s0)] [] (parR (bL s0 [] 1).1 (bL s0 [] 1).2.1 (bL s0 [] 1).2.2) []:=by
 have hd:decide (1048576<(s0.length:Int))=false:=dF (by omega)
 refine aw aa Tryz.func52 rfl rfl rfl ?_;refine sR<|rN ?_;refine zD<|zW ?_;refine rC ?_;refine rQ (dB aa rfl rfl) ?_;refine rC ?_;refine zG<|kS<|sR ?_;refine aN (fC qx rfl rfl ae (.inl rfl) rfl rfl) rfl ?_;refine rN ?_;refine rW<|nR ?_;refine zD<|zW ?_;refine rC<|zP ?_
 refine wc_inv pSt (PInv s0) (fun a=>a.2.1.length) (none,s0,1) [(65,some 64),(66,some 120),(67,some 112),(68,none)] ⟨rfl,rfl,by intro p hp; simp[toL]at hp,Nat.le_refl _,Nat.le_refl _⟩
  (lg zi ⟨zR,zR,zR,⟨rfl,rfl,rfl⟩,trivial⟩) ?_
 rintro⟨q,s,n⟩ ⟨hp,hc0,hok,hn,hn1⟩
 by_cases hs:s=[]
 ·have hR:bL s0 [] 1=(toL q,0,0):=by rw[←hp,hs,fw]
  rw[hR]
  have hs1:(!decide (s=[]))=false:=by rw[hs]; rfl
  cases q with
  | none =>
   have hcl:=nD [] (by decide)
   have hcp:=pK []
   refine bv<|qR ?_;refine rC ?_;refine rQ (ed (a:=s) (b:=[]) aa rfl rfl rfl) ?_;refine zG<|dA<|gg<|eJ<|gq<|aU<|qR ?_;refine rQ iM ?_;refine rQ (bq aa rfl rfl) ?_;refine rC<|zP ?_;refine kP<|sR ?_;refine rC<|nQ ?_;refine wG<|zX<|sR ?_;refine rQ iM ?_;refine cH (env':=[(53,_),(2,_)]) (h':=[(65,some _)]) 68 _ rfl ⟨⟨_,rfl,Frz.le (y :=.d (.arr 1 fQ [])) (Frz.own rfl) rfl (fun _=>rfl) (fun _ _=>trivial) (wy encO fQ)⟩,zE,trivial⟩ ⟨⟨rfl,_,rfl,.refl _⟩,trivial⟩ ?_;refine rQ (ak hcl rfl rfl (aj ae) (.inl rfl) (fun _=>rfl)) ?_;refine rQ (ak hcp rfl rfl (aj ae) (.inl rfl) (fun _=>rfl)) ?_;refine rW ?_;refine zD<|zT ?_
   exact⟨trivial,_,rfl,[],lf⟩
  | some lp =>
   obtain⟨l,p⟩:=lp
   obtain⟨c1,c2⟩:=ep.1 hc0
   have hl8:l.length+1≤8:=by simpa[toL]using c1
   have hLl:(l++[p]).length=l.length+1:=by simp
   have hcl:=nD (l++[p]) (by rw[hLl]; omega)
   have hcp:=pK (l++[p])
   refine bv<|qR ?_;refine rC ?_;refine rQ (ed (a:=s) (b:=[]) aa rfl rfl rfl) ?_;refine zG<|dA<|gg<|eJ<|gq<|aU<|qR ?_;refine cH (env':=[(2,_)]) (h':=[(65,some _),(68,some _)]) 69 _ rfl ⟨zE,trivial⟩ ⟨⟨rfl,_,rfl,.refl _⟩,⟨rfl,_,rfl,FrzR.last (enc:=enc2) (xs:=l.map (fun p=>(false,p))) (y:=(false,p)) rfl rfl (by simp) tR (by simp[enc2])⟩,trivial⟩ ?_;refine rQ iM ?_;refine rQ (bq aa rfl rfl) ?_;refine rC<|zP ?_
   refine wc_inv (fun i:Nat=>⟨[(40,.int .i64 i),(39,.int .i64 ((l.length+1:Nat):Int)),(2,.ptr 65 [])],[(65,some (.box 35 (.own 68 0 (l.length+1) 1 none))),(68,some (.ds 49 1 false enc2 (mkL (l++[p]) i)))],72,Tryz.f52.ntmps,64⟩) (fun i=>i≤l.length+1) (fun i=>l.length+1-i) 0 [] (Nat.zero_le _)
    (lg zj ⟨zR,⟨rfl,rfl,_,rfl,aE.of_eq (by simp[mkL]; rfl)⟩,trivial⟩) ?_
   intro i hi
   refine bv<|sR ?_;refine rC<|nQ ?_
   refine eR rfl (fun h3=>?_) (fun h3=>?_)
   ·have hlt:i<l.length+1:=by have:=of_decide_eq_true h3; omega
    obtain⟨x,hx⟩:∃x,(l++[p])[i]?=some x:=⟨_,List.getElem?_eq_getElem (by rw[hLl]; exact hlt)⟩
    have hxl:x.length≤1048576:=by
     have:=c2 x (List.mem_of_getElem? hx)
     simp only[badP,Bool.or_eq_false_iff,decide_eq_false_iff_not]at this
     omega
    have hgx:(mkL (l++[p]) i)[((i:Int)).toNat]?=some (false,x):=by rw[Int.toNat_natCast]; exact xw hx
    have hset:=xu hx
    have hc1:=wl x hxl
    have hc2:=xP x
    refine zQ<|zS<|zD<|nS ?_;refine aH (by kernel_rfl) ?_;refine dQ [2] [65] iM ?_;refine dC [11] [] ?_;refine dQ [2] [65] iM ?_;refine dC [11] [] ?_;refine dQ [45,46] [] (aP aa rfl rfl rfl rfl rfl (by omega) (by omega)) ?_;refine dQ [47] [68] (bM aa rfl rfl ⟨rfl,(false,x),hgx,_,rfl,rfl⟩ rfl) ?_;refine dQ [48] [] (ak hc1 rfl rfl (aj ae) (.inl rfl) (fun _=>rfl)) ?_;refine dQ [49] [] (ak hc2 rfl rfl (aj ae) (.inl rfl) (fun _=>rfl)) ?_;refine dQ [43,44] [] (aP aa rfl rfl rfl rfl rfl (by omega) (by omega)) ?_;refine ca [51,50] [68] (aF aa rfl rfl rfl ⟨rfl,(false,x),(true,x),hgx,⟨rfl,rfl,rfl⟩,rfl⟩ rfl) ?_;refine aC (by kernel_rfl)<|ew<|aU<|ao ?_;refine rQ iD ?_;refine rC<|aB ?_
    exact aY (i+1) [] hlt (by omega) (lg zj ⟨zR,⟨rfl,rfl,_,rfl,aE.of_eq (congrArg (Row.ds 49 1 false enc2) hset)⟩,trivial⟩)
   ·have he:i=l.length+1:=by have:=of_decide_eq_false h3; omega
    subst he
    have hml:l.length+1=(mkL (l++[p]) (l.length+1)).length:=by rw[xv,hLl]
    have hmk:mkL (l++[p]) (l.length+1)=(l++[p]).map (fun p=>(true,p)):=by rw[mkL,←hLl,List.take_length,List.drop_length]; simp
    refine zX<|sR<|rQ iM ?_;refine cH (env':=[(53,_),(2,_)]) (h':=[(65,some _)]) 68 _ rfl ⟨⟨_,rfl,Frz.le (y :=.d (.arr 1 fQ (l++[p]))) (Frz.own hml) rfl (fun _=>rfl) (fun _ _=>trivial) (xV (enc':=fQ) (xs:=l++[p]) (g:=fun p=>(true,p)) hmk (fun _=>rfl))⟩,zE,trivial⟩ ⟨⟨rfl,_,rfl,.refl _⟩,trivial⟩ ?_
    refine rQ (ak hcl rfl rfl (aj ae) (.inl rfl) (fun _=>rfl)) ?_;refine rQ (ak hcp rfl rfl (aj ae) (.inl rfl) (fun _=>rfl)) ?_;refine rW ?_;refine zD<|zT ?_
    exact⟨trivial,_,rfl,[],lf⟩
 have hs1:(!decide (s=[]))=true:=by rw[dF hs]; rfl
 cases hcut:cutL s 10 with
 | none =>
  have hR:bL s0 [] 1=([],n,5):=by rw[←hp,gZ _ _ hs hcut]
  have hc:=wa (l:=s) (c:=10) (by omega)
  rw[show cutA s 10=(s,[],false) by simp only[cutA,hcut]]at hc
  rw[hR]
  cases q with
  | none =>
   refine bv<|qR ?_;refine rC ?_;refine rQ (ed (a:=s) (b:=[]) aa rfl rfl rfl) ?_;refine zI<|zQ<|aZ<|sR ?_;refine rC ?_;refine rQ (ak hc rfl rfl (aj (aj ae)) (.inl rfl) (fun _=>rfl)) ?_;iterate 7 refine rC ?_
   refine zW<|zD ?_;refine zO<|sR ?_;refine rC ?_;refine rW ?_;refine zD<|zT<|ba<|zB<|bT<|zB ?_
   exact⟨trivial,_,rfl,[],lg ⟨⟨_,rfl,AVLe.tup1 (nil_arx _ _) rfl⟩,rfl,trivial⟩ trivial⟩
  | some lp =>
   obtain⟨l,p⟩:=lp
   refine bv<|qR ?_;refine rC ?_;refine rQ (ed (a:=s) (b:=[]) aa rfl rfl rfl) ?_;refine zI<|zQ<|aZ<|sR ?_;refine rC ?_;refine rQ (ak hc rfl rfl (aj (aj ae)) (.inl rfl) (fun _=>rfl)) ?_;iterate 7 refine rC ?_
   refine zW<|zD ?_;refine zO<|sR ?_;refine rC ?_;refine rW ?_;refine zD<|zT<|ba<|zB<|bT<|zB ?_
   exact⟨trivial,_,rfl,[],lg ⟨⟨_,rfl,AVLe.tup1 (nil_arx _ _) rfl⟩,rfl,trivial⟩ trivial⟩
 | some tr =>
  obtain⟨tx,rest⟩:=tr
  have hlen:=xN hcut
  have hc:=wa (l:=s) (c:=10) (by omega)
  rw[show cutA s 10=(tx,rest,true) by simp only[cutA,hcut]]at hc
  have hP:=gY (toL q) n hs hcut
  rw[hp]at hP
  cases q with
  | none =>
   by_cases ht:tx=bh
   ·have hadd0:=pW tx ht
    have hA:addP (toL none) tx=([[]],0):=by simp[addP,ht,toL]
    have hR:bL s0 [] 1=bL rest (toL (some ([],[]))) (n+1):=by rw[hP,hA]; rfl
    refine bv<|qR ?_;refine rC ?_;refine rQ (ed (a:=s) (b:=[]) aa rfl rfl rfl) ?_;refine zI<|zQ<|aZ<|sR ?_;refine rC ?_;refine rQ (ak hc rfl rfl (aj (aj ae)) (.inl rfl) (fun _=>rfl)) ?_;iterate 7 refine rC ?_
    refine zW<|zD ?_;refine zJ<|kS<|qR ?_;refine zD ?_;refine bz rfl (aO [(0,some 65),(1,some 66),(2,some 67),(3,some 68)] hadd0 rfl rfl rfl (aj (aK rfl rfl (aK rfl rfl ae))) ⟨zH,zH,zH,zH,trivial⟩ rfl rfl (.inl rfl) rfl rfl) rfl rfl ?_;refine rC<|nR ?_;refine zD ?_;refine zJ<|kS<|ao ?_;refine zD<|aB<|zC<|ao ?_;refine rC ?_;refine rQ iD ?_;refine rC<|aB ?_
    exact aY (some ([],[]),rest,n+1) [(68,some 192),(69,some 193)] ⟨by rw[←hR],lb hc0 hA,oC hok hA,by omega,by omega⟩ (by show rest.length<s.length; omega) (lg zi ⟨zR,zR,zR,⟨rfl,dy rfl _,_,rfl,lT rfl rfl rfl⟩,zR,trivial⟩)
   ·obtain⟨h5,hadd0⟩:=wH ht (by omega)
    have hR:bL s0 [] 1=([],n,5):=by
     rw[hP,show toL none=[] from rfl,h5]
     rfl
    rw[hR]
    refine bv<|qR ?_;refine rC ?_;refine rQ (ed (a:=s) (b:=[]) aa rfl rfl rfl) ?_;refine zI<|zQ<|aZ<|sR ?_;refine rC ?_;refine rQ (ak hc rfl rfl (aj (aj ae)) (.inl rfl) (fun _=>rfl)) ?_;iterate 7 refine rC ?_
    refine zW<|zD ?_;refine zJ<|kS<|qR ?_;refine zD ?_;refine bz rfl (aO [(0,some 65),(1,some 66),(2,some 67),(3,some 68)] hadd0 rfl rfl rfl (aj (aK rfl rfl (aK rfl rfl ae))) ⟨zH,zH,zH,zH,trivial⟩ rfl rfl (.inl rfl) rfl rfl) rfl rfl ?_;refine rC<|nR ?_;refine zD ?_;refine zO<|sR ?_;refine zD ?_;refine rW ?_;refine zD<|zT<|ba<|zB<|bT<|zB ?_
    exact⟨trivial,_,rfl,[],lg ⟨⟨_,rfl,AVLe.tup1 (nil_arx _ _) rfl⟩,rfl,trivial⟩ trivial⟩
  | some lp =>
   obtain⟨l,p⟩:=lp
   obtain⟨c1,c2⟩:=ep.1 hc0
   have hl8:l.length+1≤8:=by simpa[toL]using c1
   have hp64:p.length≤64:=by
    have:=c2 p (by simp[toL])
    simp only[badP,Bool.or_eq_false_iff,decide_eq_false_iff_not]at this
    omega
   by_cases ht:tx=bh
   ·have hadd1:=pV tx ht l p (by omega)
    by_cases hg:8<l.length+2
    ·rw[if_pos hg]at hadd1
     have hR:bL s0 [] 1=([],n,3):=by
      have h3:(addP (toL (some (l,p))) tx).2=3:=by
       rw[show toL (some (l,p))=l++[p] from rfl,addP,if_pos ht,if_pos (by simp; omega)]
      rw[hP,h3]
      rfl
     rw[hR]
     refine bv<|qR ?_;refine rC ?_;refine rQ (ed (a:=s) (b:=[]) aa rfl rfl rfl) ?_;refine zI<|zQ<|aZ<|sR ?_;refine rC ?_;refine rQ (ak hc rfl rfl (aj (aj ae)) (.inl rfl) (fun _=>rfl)) ?_;iterate 7 refine rC ?_
     refine zW<|zD ?_;refine zJ<|kS<|qR ?_;refine zD ?_;refine bz rfl (aO [(0,some 65),(1,some 66),(2,some 67),(3,some 68),(4,some 69)] hadd1 rfl rfl rfl (aj (aK rfl rfl (aK rfl rfl ae))) ⟨zH,zH,zH,⟨rfl,dy rfl _,_,_,rfl,rfl,dN rfl rfl⟩,zH,trivial⟩ rfl rfl (.inl rfl) rfl rfl) rfl rfl ?_;refine rC<|nR ?_;refine zD ?_;refine zO<|sR ?_;refine zD ?_;refine rW ?_;refine zD<|zT<|ba<|zB<|bT<|zB ?_
     exact⟨trivial,_,rfl,[],lg ⟨⟨_,rfl,AVLe.tup1 (nil_arx _ _) rfl⟩,rfl,trivial⟩ trivial⟩
    ·rw[if_neg hg]at hadd1
     have hA:addP (toL (some (l,p))) tx=(toL (some (l++[p],[])),0):=by
      rw[show toL (some (l,p))=l++[p] from rfl,addP,if_pos ht,if_neg (by simp; omega)]
      rfl
     have hR:bL s0 [] 1=bL rest (toL (some (l++[p],[]))) (n+1):=by rw[hP,hA]; rfl
     refine bv<|qR ?_;refine rC ?_;refine rQ (ed (a:=s) (b:=[]) aa rfl rfl rfl) ?_;refine zI<|zQ<|aZ<|sR ?_;refine rC ?_;refine rQ (ak hc rfl rfl (aj (aj ae)) (.inl rfl) (fun _=>rfl)) ?_;iterate 7 refine rC ?_
     refine zW<|zD ?_;refine zJ<|kS<|qR ?_;refine zD ?_;refine bz rfl (aO [(0,some 65),(1,some 66),(2,some 67),(3,some 68),(4,some 69)] hadd1 rfl rfl rfl (aj (aK rfl rfl (aK rfl rfl ae))) ⟨zH,zH,zH,⟨rfl,dy rfl _,_,_,rfl,rfl,dN rfl rfl⟩,zH,trivial⟩ rfl rfl (.inl rfl) rfl rfl) rfl rfl ?_;refine rC<|nR ?_;refine zD ?_;refine zJ<|kS<|ao ?_;refine zD<|aB<|zC<|ao ?_;refine rC ?_;refine rQ iD ?_;refine rC<|aB ?_
     exact aY (some (l++[p],[]),rest,n+1) [(68,some 192),(69,some 193)] ⟨by rw[←hR],lb hc0 hA,oC hok hA,by omega,by omega⟩ (by show rest.length<s.length; omega) (lg zi ⟨zR,zR,zR,⟨rfl,dy rfl _,_,rfl,lT rfl rfl rfl⟩,zR,trivial⟩)
   ·rcases wE ht (by omega) l p (by omega) (by omega)with ⟨e,he,h5,hadd1 | ⟨o,hadd1⟩⟩ | ⟨o,hA,hadd1⟩
    ·have hne:(!decide (e=0))=true:=by rw[dF he]; rfl
     have hR:bL s0 [] 1=([],n,e):=by
      rw[hP,show toL (some (l,p))=l++[p] from rfl,h5,if_neg he]
     rw[hR]
     refine bv<|qR ?_;refine rC ?_;refine rQ (ed (a:=s) (b:=[]) aa rfl rfl rfl) ?_;refine zI<|zQ<|aZ<|sR ?_;refine rC ?_;refine rQ (ak hc rfl rfl (aj (aj ae)) (.inl rfl) (fun _=>rfl)) ?_;iterate 7 refine rC ?_
     refine zW<|zD ?_;refine zJ<|kS<|qR ?_;refine zD ?_;refine bz rfl (aO [(0,some 65),(1,some 66),(2,some 67),(3,some 68),(4,some 69)] hadd1 rfl rfl rfl (aj (aK rfl rfl (aK rfl rfl ae))) ⟨zH,zH,zH,⟨rfl,dy rfl _,_,_,rfl,rfl,dN rfl rfl⟩,zH,trivial⟩ rfl rfl (.inl rfl) rfl rfl) rfl rfl ?_;refine rC<|nR ?_;refine zD ?_;refine zI<|sR ?_;refine zD ?_;refine rW ?_;refine zD<|zT<|ba<|zB<|bT<|zB ?_
     exact⟨trivial,_,rfl,[],lg ⟨⟨_,rfl,AVLe.tup1 (nil_arx _ _) rfl⟩,rfl,trivial⟩ trivial⟩
    ·have hne:(!decide (e=0))=true:=by rw[dF he]; rfl
     have hR:bL s0 [] 1=([],n,e):=by
      rw[hP,show toL (some (l,p))=l++[p] from rfl,h5,if_neg he]
     rw[hR]
     refine bv<|qR ?_;refine rC ?_;refine rQ (ed (a:=s) (b:=[]) aa rfl rfl rfl) ?_;refine zI<|zQ<|aZ<|sR ?_;refine rC ?_;refine rQ (ak hc rfl rfl (aj (aj ae)) (.inl rfl) (fun _=>rfl)) ?_;iterate 7 refine rC ?_
     refine zW<|zD ?_;refine zJ<|kS<|qR ?_;refine zD ?_;refine bz rfl (aO [(0,some 65),(1,some 66),(2,some 67),(3,some 68),(4,some 69)] hadd1 rfl rfl rfl (aj (aK rfl rfl (aK rfl rfl ae))) ⟨zH,zH,zH,⟨rfl,dy rfl _,_,_,rfl,rfl,dN rfl rfl⟩,zH,trivial⟩ rfl rfl (.inl rfl) rfl rfl) rfl rfl ?_;refine rC<|nR ?_;refine zD ?_;refine zI<|sR ?_;refine zD ?_;refine rW ?_;refine zD<|zT<|ba<|zB<|bT<|zB ?_
     exact⟨trivial,_,rfl,[],lg ⟨⟨_,rfl,AVLe.tup1 (nil_arx _ _) rfl⟩,rfl,trivial⟩ trivial⟩
    ·replace hA:addP (toL (some (l,p))) tx=(toL (some (l,p++[o])),0):=hA
     have hR:bL s0 [] 1=bL rest (toL (some (l,p++[o]))) (n+1):=by rw[hP,hA]; rfl
     refine bv<|qR ?_;refine rC ?_;refine rQ (ed (a:=s) (b:=[]) aa rfl rfl rfl) ?_;refine zI<|zQ<|aZ<|sR ?_;refine rC ?_;refine rQ (ak hc rfl rfl (aj (aj ae)) (.inl rfl) (fun _=>rfl)) ?_;iterate 7 refine rC ?_
     refine zW<|zD ?_;refine zJ<|kS<|qR ?_;refine zD ?_;refine bz rfl (aO [(0,some 65),(1,some 66),(2,some 67),(3,some 68),(4,some 69)] hadd1 rfl rfl rfl (aj (aK rfl rfl (aK rfl rfl ae))) ⟨zH,zH,zH,⟨rfl,dy rfl _,_,_,rfl,rfl,dN rfl rfl⟩,zH,trivial⟩ rfl rfl (.inl rfl) rfl rfl) rfl rfl ?_;refine rC<|nR ?_;refine zD ?_;refine zJ<|kS<|ao ?_;refine zD<|aB<|zC<|ao ?_;refine rC ?_;refine rQ iD ?_;refine rC<|aB ?_
     exact aY (some (l,p++[o]),rest,n+1) [(69,some 193)] ⟨by rw[←hR],lb hc0 hA,oC hok hA,by omega,by omega⟩ (by show rest.length<s.length; omega) (lg zi ⟨zR,zR,zR,⟨rfl,dy rfl _,_,rfl,lT rfl rfl rfl⟩,zR,trivial⟩)
theorem uY (s:List UInt8) (hl:s.length≤1048576):FnIs Tryz.prog 52 [.d (strD s)] [] (parR (bL s [] 1).1 (bL s [] 1).2.1 (bL s [] 1).2.2) []:=qG s hl
end Go.Proofs.YtpmhnpnmpjimnaaGreatDoor
namespace Go.Plain
open Go.Eng Go.Lib
structure SCfg where
 blocks:Int
 shards:Int
 frames:Int
 clients:Int
 limit:Int
 reserve:Int
 master:List UInt8
 flaw:Int
 deriving DecidableEq
def InI (n:Int):Prop := -9223372036854775808≤n∧n≤9223372036854775807
def InU (n:Int):Prop:=0≤n∧n≤18446744073709551615
structure SCfg.Ok (c:SCfg):Prop where
 blocks:InI c.blocks
 shards:InI c.shards
 frames:InI c.frames
 clients:InI c.clients
 limit:InU c.limit
 reserve:InU c.reserve
 master:c.master.length=32
 flaw:0≤c.flaw∧c.flaw≤255
structure SAct where
 kind:Int
 thread:Int
 sector:Int
 bytes:List UInt8
 back:Int
 deriving DecidableEq
structure SAct.Ok (a:SAct):Prop where
 kind:0≤a.kind∧a.kind≤255
 thread:InI a.thread
 sector:InI a.sector
 back:InI a.back
def lvl:Nat→Nat→List Nat
 | 0,c=>[c]
 | f+1,c=>if c=1 then[c] else c::lvl f ((c+3)/4)
def dD (n:Nat):List Nat:=lvl 6 ((n+3)/4)
def hgtN (n:Nat):Nat:=(dD n).length-1
def cp (n:Nat):Nat:=2*n+2*(dD n).sum
theorem qI (f c:Nat):lvl f c≠[]:=by
 cases f with
 | zero=>simp[lvl]
 | succ f=>rw[lvl]; split <;> simp
theorem n9:∀f c,(lvl f c).length≤f+1
 | 0,c=>by simp[lvl]
 | f+1,c=>by
  rw[lvl]
  split
  ·simp
  ·have:=n9 f ((c+3)/4)
   simp only[List.length_cons]; omega
def wchk (c:SCfg):Int :=
 if ¬(1≤c.blocks∧c.blocks≤4096)∨¬(1≤c.shards∧c.shards≤min 8 c.blocks)∨¬(1≤c.clients∧c.clients≤8) then 7
 else if ¬(c.clients+1≤c.frames∧c.frames≤64)∨c.shards*c.frames<2*c.clients+hgtN c.blocks.toNat+1 then 7
 else if c.reserve<1∨4294967296<c.reserve∨c.limit<c.reserve∨5<c.flaw then 7 else 0
theorem rA {c:SCfg} (h:wchk c=0):1≤c.blocks∧c.blocks≤4096∧1≤c.shards∧c.shards≤8∧1≤c.clients∧c.clients≤8∧1≤c.frames∧c.frames≤64∧c.flaw≤5:=by
 unfold wchk at h
 split at h
 ·cases h
 split at h
 ·cases h
 split at h
 ·cases h
 rename_i h1 h2 h3
 simp only[not_or,Decidable.not_not,Int.not_lt]at h1 h2 h3
 obtain⟨⟨a1,a2⟩,⟨a3,a4⟩,a5,a6⟩:=h1
 obtain⟨⟨b1,b2⟩,_⟩:=h2
 obtain⟨_,_,_,d⟩:=h3
 refine⟨a1,a2,a3,?_,a5,a6,by omega,b2,d⟩
 exact Int.le_trans a4 (Int.min_le_left _ _)
def actB (thr sec:Int) (a:SAct):Bool :=
 if a.kind=1 then decide (0≤a.thread)&&decide (a.thread<thr)&&(decide (a.sector=0)&&decide (a.back=0)&&decide (a.bytes=[]))
 else if a.kind=2 then decide (a.bytes.length≤256)&&decide (0≤a.sector)&&decide (a.sector<sec)&&(decide (a.thread=0)&&decide (a.back=0))
 else if a.kind=3 then decide (0≤a.sector)&&decide (a.sector<sec)&&(decide (a.thread=0)&&decide (a.back=0)&&decide (a.bytes=[]))
 else if a.kind=4 then decide (0≤a.back)&&decide (0≤a.sector)&&decide (a.sector<sec)&&(decide (a.thread=0)&&decide (a.bytes=[]))
 else if a.kind=5 then decide (a.thread=0)&&decide (a.sector=0)&&decide (a.back=0)&&decide (a.bytes=[])
 else false
def schk (c:SCfg) (l:List (List POp)) (as':List SAct):Int :=
 if wchk c≠0 then wchk c else if chkP l≠0 then chkP l else if (l.length:Int)≠c.clients then 1 else if 4096<as'.length then 3
 else if as'.all (actB (c.clients+c.shards) (cp c.blocks.toNat))=true then 0 else 1
theorem jv {c:SCfg} {l:List (List POp)} {bs:List SAct} (h:schk c l bs=0):wchk c=0∧chkP l=0∧(l.length:Int)=c.clients∧bs.length≤4096∧∀a∈bs,actB (c.clients+c.shards) (cp c.blocks.toNat) a=true:=by
 unfold schk at h
 by_cases h1:wchk c=0
 ·rw[if_neg (fun e=>e h1)]at h
  by_cases h2:chkP l=0
  ·rw[if_neg (fun e=>e h2)]at h
   by_cases h3:(l.length:Int)=c.clients
   ·rw[if_neg (fun e=>e h3)]at h
    by_cases h4:4096<bs.length
    ·rw[if_pos h4]at h; cases h
    rw[if_neg h4]at h
    by_cases h5:bs.all (actB (c.clients+c.shards) (cp c.blocks.toNat))=true
    ·exact⟨h1,h2,h3,by omega,List.all_eq_true.1 h5⟩
    ·rw[if_neg h5]at h; cases h
   ·rw[if_pos h3]at h; cases h
  ·rw[if_pos h2]at h; exact absurd h h2
 ·rw[if_pos h1]at h; exact absurd h h1
def eU:List UInt8:=[112,105,99,107]
def dW:List UInt8:=[101,100,105,116]
def dG:List UInt8:=[101,114,97,115,101]
def cr:List UInt8:=[114,101,112,108,97,121]
def fh:List UInt8:=[102,97,108,108]
def bw:List UInt8:=[118,111,108,117,109,101]
def bI:List UInt8:=[110,111,110,99,101,115]
def cB:List UInt8:=[102,108,97,119]
def bD:List UInt8:=[109,97,115,116,101,114]
def bj:List UInt8:=[112,114,111,103,114,97,109,115]
def bF:List UInt8:=[97,99,116,105,111,110,115]
def cJ (a:SAct):List UInt8 :=
 if a.kind=1 then eU++32::itoa a.thread
 else if a.kind=2 then dW++32::(itoa a.sector++32::hexP a.bytes)
 else if a.kind=3 then dG++32::itoa a.sector
 else if a.kind=4 then cr++32::(itoa a.sector++32::itoa a.back)
 else fh
def sf (c:SCfg):List UInt8:=bw++32::(itoa c.blocks++32::(itoa c.shards++32::(itoa c.frames++32::itoa c.clients)))
def se (c:SCfg):List UInt8:=bI++32::(itoa c.limit++32::itoa c.reserve)
def sd (c:SCfg):List UInt8:=cB++32::itoa c.flaw
def vQ (c:SCfg):List UInt8:=bD++32::hexP c.master
def l8 (c:SCfg):List (List UInt8):=[sf c,se c,sd c,vQ c,bj]
def cm (l:List (List UInt8)):List UInt8:=l.flatMap fun w=>w++[10]
def mE (bs:List SAct):List UInt8:=bs.flatMap fun a=>cJ a++[10]
def iR (c:SCfg) (mid:List UInt8) (bs:List SAct):List UInt8:=cm (l8 c)++mid++(bF++[10])++mE bs
def numS (B:Nat) (w:List UInt8):Option Nat:=match parseUintB B w with
 | .ok u=>if decDigits u=w then some u else none
 | _=>none
theorem eH {B u:Nat} {w:List UInt8} (h:numS B w=some u):w=decDigits u:=by
 unfold numS at h
 split at h
 ·split at h
  ·rename_i h2
   cases h
   exact h2.symm
  ·cases h
 ·cases h
theorem rZ {c:UInt8} {n:Nat} (h:nibO c=some n):n<16∧hexC n=c:=by
 unfold nibO at h
 split at h
 ·rename_i h0
  cases h
  have hm:=qQ h0
  obtain⟨h1,h2⟩:=List.getElem?_eq_some_iff.1 hm
  exact⟨h1,by rw[hexC,List.getD_eq_getElem?_getD,hm]; rfl⟩
 ·cases h
theorem m6:∀(s t:List UInt8),eG s=some t→t.flatMap hexB=s
 | [],t,h=>by cases h; rfl
 | [_],_,h=>by cases h
 | a::b::l,t,h=>by
  simp only[eG]at h
  split at h
  ·rename_i x y r hx hy hr
   cases h
   obtain⟨x1,x2⟩:=rZ hx
   obtain⟨y1,y2⟩:=rZ hy
   have e:((x*16+y).toUInt8).toNat=x*16+y:=by
    rw[Nat.toUInt8_eq,UInt8.toNat_ofNat']; omega
   rw[List.flatMap_cons,m6 l r hr,hexB,e,show (x*16+y)/16=x by omega,show (x*16+y) % 16=y by omega,x2,y2]
   rfl
  ·cases h
theorem sN {s t:List UInt8} (h:bQ s=some t):hexP t=s:=by
 unfold bQ at h
 split at h
 ·rename_i hs
  cases h
  rw[hs]; rfl
 split at h
 ·cases h
 rename_i h1 h2
 have hp:=m6 s t h
 rw[hexP,if_neg,hp]
 rintro rfl
 exact h2 hp.symm
def hd0 (ws:List (List UInt8)) (c:SCfg):Option SCfg:=match ws with
 | [v,a,b,d,e]=>if v=bw then (match numS 31 a,numS 31 b,numS 31 d,numS 31 e with
  | some a,some b,some d,some e=>some { c with blocks:=a,shards:=b,frames:=d,clients:=e }
  | _,_,_,_=>none) else none
 | _=>none
def hd1 (ws:List (List UInt8)) (c:SCfg):Option SCfg:=match ws with
 | [v,a,b]=>if v=bI then (match numS 64 a,numS 64 b with
  | some a,some b=>some { c with limit:=a,reserve:=b }
  | _,_=>none) else none
 | _=>none
def hd2 (ws:List (List UInt8)) (c:SCfg):Option SCfg:=match ws with
 | [v,a]=>if v=cB then (match numS 8 a with
  | some a=>some { c with flaw:=a }
  | none=>none) else none
 | _=>none
def hd3 (ws:List (List UInt8)) (c:SCfg):Option SCfg:=match ws with
 | [v,a]=>if v=bD then (match bQ a with
  | some b=>if b.length=32 then some { c with master:=b } else none
  | none=>none) else none
 | _=>none
def hd4 (ws:List (List UInt8)) (c:SCfg):Option SCfg:=match ws with
 | [v]=>if v=bj then some c else none
 | _=>none
def fi (i:Nat) (t:List UInt8) (c:SCfg):Option SCfg :=
 if i=0 then hd0 (aL t 32) c else if i=1 then hd1 (aL t 32) c else if i=2 then hd2 (aL t 32) c else if i=3 then hd3 (aL t 32) c else hd4 (aL t 32) c
theorem qW (t:List UInt8) (c:SCfg):fi 0 t c=hd0 (aL t 32) c:=if_pos rfl
theorem qV (t:List UInt8) (c:SCfg):fi 1 t c=hd1 (aL t 32) c:=rfl
theorem qU (t:List UInt8) (c:SCfg):fi 2 t c=hd2 (aL t 32) c:=rfl
theorem og (t:List UInt8) (c:SCfg):fi 3 t c=hd3 (aL t 32) c:=rfl
theorem qT (t:List UInt8) (c:SCfg):fi 4 t c=hd4 (aL t 32) c:=rfl
def eV (t:List UInt8):Option SAct:=match aL t 32 with
 | [v]=>if v=fh then some ⟨5,0,0,[],0⟩ else none
 | [v,a]=>if v=eU then (numS 31 a).map fun (n:Nat)=>⟨1,n,0,[],0⟩
  else if v=dG then (numS 31 a).map fun (n:Nat)=>⟨3,0,n,[],0⟩ else none
 | [v,a,b]=>if v=dW then (match numS 31 a,bQ b with
  | some n,some d=>some ⟨2,0,n,d,0⟩
  | _,_=>none)
  else if v=cr then (match numS 31 a,numS 31 b with
  | some n,some k=>some ⟨4,0,n,[],k⟩
  | _,_=>none) else none
 | _=>none
def zCfg:SCfg:=⟨0,0,0,0,0,0,List.replicate 32 0,0⟩
def dV:Nat→Nat→List (List UInt8)→SCfg→SCfg ⊕ Nat
 | 0,_,_,c=>.inl c
 | _+1,i,[],_=>.inr i
 | f+1,i,t::ts,c=>match fi i t c with
  | none=>.inr i
  | some c=>dV f (i+1) ts c
def jT:List (List UInt8)→Nat→List SAct ⊕ Nat
 | [],_=>.inl []
 | t::ts,i=>match eV t with
  | none=>.inr i
  | some a=>match jT ts (i+1) with
   | .inl l=>.inl (a::l)
   | .inr j=>.inr j
abbrev SScr:Type:=SCfg×List (List POp)×List SAct
def zScr:SScr:=(zCfg,[],[])
def dX (ls:List (List UInt8)):SScr×Nat×Int:=match dV 5 0 ls zCfg with
 | .inr i=>(zScr,i+1,5)
 | .inl c=>match (ls.drop 5).findIdx? (· == bF) with
  | none=>(zScr,ls.length+1,5)
  | some k=>if (bL (cm ((ls.drop 5).take k)) [] 1).2.2≠0 then (zScr,(bL (cm ((ls.drop 5).take k)) [] 1).2.1+5,(bL (cm ((ls.drop 5).take k)) [] 1).2.2)
   else match jT (ls.drop (6+k)) (6+k) with
    | .inr i=>(zScr,i+1,5)
    | .inl bs=>if schk c (bL (cm ((ls.drop 5).take k)) [] 1).1 bs≠0 then (zScr,0,schk c (bL (cm ((ls.drop 5).take k)) [] 1).1 bs)
     else ((c,(bL (cm ((ls.drop 5).take k)) [] 1).1,bs),0,0)
def n7 (t:List UInt8):SScr×Nat×Int:=if t.getLast?=some 10 then dX (aL t.dropLast 10) else (zScr,0,5)
def fp (c:SCfg) (l:List (List POp)) (bs:List SAct):List UInt8×Int :=
 if schk c l bs≠0 then ([],schk c l bs) else if 1048576<(iR c (bJ l) bs).length then ([],3) else (iR c (bJ l) bs,0)
theorem fm (c:UInt8):∀l:List UInt8,(aL l c).flatMap (fun w=>w++[c])=l++[c]
 | []=>rfl
 | b::l=>by
  have ih:=fm c l
  rw[aL]
  split
  ·rename_i h
   rw[List.flatMap_cons,ih,h]; rfl
  ·split
   ·rename_i h; exact absurd h (ij l c)
   ·rename_i w ws h
    rw[h]at ih
    rw[List.flatMap_cons]at ih ⊢
    rw[List.cons_append,List.cons_append,ih]; rfl
theorem mV {t a b:List UInt8} (h:aL t 32=[a,b]):t=a++32::b:=by
 have:=fm 32 t
 rw[h]at this
 simp only[List.flatMap_cons,List.flatMap_nil,List.append_nil]at this
 exact (List.append_cancel_right (bs:=[32]) (by simpa using this)).symm
theorem oN {t a b d:List UInt8} (h:aL t 32=[a,b,d]):t=a++32::(b++32::d):=by
 have:=fm 32 t
 rw[h]at this
 simp only[List.flatMap_cons,List.flatMap_nil,List.append_nil]at this
 exact (List.append_cancel_right (bs:=[32]) (by simpa using this)).symm
theorem split_one' {t a:List UInt8} (h:aL t 32=[a]):t=a:=by
 have:=fm 32 t
 rw[h]at this
 simp only[List.flatMap_cons,List.flatMap_nil,List.append_nil]at this
 exact (List.append_cancel_right (bs:=[32]) (by simpa using this)).symm
theorem qg {t a b d e f:List UInt8} (h:aL t 32=[a,b,d,e,f]):t=a++32::(b++32::(d++32::(e++32::f))):=by
 have:=fm 32 t
 rw[h]at this
 simp only[List.flatMap_cons,List.flatMap_nil,List.append_nil]at this
 exact (List.append_cancel_right (bs:=[32]) (by simpa using this)).symm
theorem po {n:Int} (h:0≤n):itoa n=decDigits n.toNat:=by rw[itoa,if_neg (by omega)]
theorem fN {B u:Nat} {w:List UInt8} (h:numS B w=some u):u<2 ^ B:=by
 unfold numS at h
 split at h
 ·rename_i v hv
  split at h
  ·cases h
   have:=parseUintB_le hv
   have h2:0<2 ^ B:=Nat.two_pow_pos B
   omega
  ·cases h
 ·cases h
structure SCfg.Wr (c:SCfg):Prop where
 blocks:0≤c.blocks∧c.blocks<2147483648
 shards:0≤c.shards∧c.shards<2147483648
 frames:0≤c.frames∧c.frames<2147483648
 clients:0≤c.clients∧c.clients<2147483648
 limit:InU c.limit
 reserve:InU c.reserve
 master:c.master.length=32
 flaw:0≤c.flaw∧c.flaw≤255
theorem SCfg.Wr.ok {c:SCfg} (h:c.Wr):c.Ok:=by
 obtain⟨⟨a1,a2⟩,⟨a3,a4⟩,⟨a5,a6⟩,⟨a7,a8⟩,h5,h6,h7,h8⟩:=h
 exact⟨⟨by omega,by omega⟩,⟨by omega,by omega⟩,⟨by omega,by omega⟩,⟨by omega,by omega⟩,h5,h6,h7,h8⟩
theorem ul {n:Int} (h:0≤n):((n.toNat:Nat):Int)=n:=by omega
structure SAct.Wr (a:SAct):Prop where
 kind:1≤a.kind∧a.kind≤5
 thread:0≤a.thread∧a.thread<2147483648∧(a.kind≠1→a.thread=0)
 sector:0≤a.sector∧a.sector<2147483648∧(a.kind=1∨a.kind=5→a.sector=0)
 bytes:a.kind≠2→a.bytes=[]
 back:0≤a.back∧a.back<2147483648∧(a.kind≠4→a.back=0)
def yF (l:List (List POp)):List (List UInt8):=l.flatMap fun p=>bh::p.map bO
def BI (c:SCfg) (l:List (List POp)) (bs:List SAct):List (List UInt8):=l8 c++(yF l++(bF::bs.map cJ))
theorem tv {t:List UInt8} (h:t.getLast?=some 10):t=t.dropLast++[10]:=by
 have hne:t≠[]:=by rintro rfl; cases h
 have:=List.dropLast_concat_getLast hne
 rw[List.getLast?_eq_some_getLast hne]at h
 rw[Option.some.inj h]at this
 exact this.symm
theorem tI {t:List UInt8} {c d:SCfg} (h:fi 0 t c=some d):∃a b e f:Nat,a<2147483648∧b<2147483648∧e<2147483648∧f<2147483648∧d = { c with blocks:=a,shards:=b,frames:=e,clients:=f }∧t=sf d:=by
 rw[qW]at h
 unfold hd0 at h
 split at h
 ·rename_i v a b e f hs
  split at h
  ·rename_i hv
   split at h
   ·rename_i a' b' e' f' ha hb he hf
    cases h
    refine⟨a',b',e',f',fN ha,fN hb,fN he,fN hf,rfl,?_⟩
    rw[qg hs,hv,eH ha,eH hb,eH he,eH hf]
    simp[sf,itoa_nonneg]
   ·cases h
  ·cases h
 ·cases h
theorem tH {t:List UInt8} {c d:SCfg} (h:fi 1 t c=some d):∃a b:Nat,a<18446744073709551616∧b<18446744073709551616∧d = { c with limit:=a,reserve:=b }∧t=se d:=by
 rw[qV]at h
 unfold hd1 at h
 split at h
 ·rename_i v a b hs
  split at h
  ·rename_i hv
   split at h
   ·rename_i a' b' ha hb
    cases h
    refine⟨a',b',fN ha,fN hb,rfl,?_⟩
    rw[oN hs,hv,eH ha,eH hb]
    simp[se,itoa_nonneg]
   ·cases h
  ·cases h
 ·cases h
theorem tG {t:List UInt8} {c d:SCfg} (h:fi 2 t c=some d):∃a:Nat,a<256∧d = { c with flaw:=a }∧t=sd d:=by
 rw[qU]at h
 unfold hd2 at h
 split at h
 ·rename_i v a hs
  split at h
  ·rename_i hv
   split at h
   ·rename_i a' ha
    cases h
    refine⟨a',fN ha,rfl,?_⟩
    rw[mV hs,hv,eH ha]
    simp[sd,itoa_nonneg]
   ·cases h
  ·cases h
 ·cases h
theorem tF {t:List UInt8} {c d:SCfg} (h:fi 3 t c=some d):∃b:List UInt8,b.length=32∧d = { c with master:=b }∧t=vQ d:=by
 rw[og]at h
 unfold hd3 at h
 split at h
 ·rename_i v a hs
  split at h
  ·rename_i hv
   split at h
   ·rename_i b hb
    split at h
    ·rename_i hl
     cases h
     refine⟨b,hl,rfl,?_⟩
     rw[mV hs,hv,←sN hb]
     rfl
    ·cases h
   ·cases h
  ·cases h
 ·cases h
theorem tE {t:List UInt8} {c d:SCfg} (h:fi 4 t c=some d):d=c∧t=bj:=by
 rw[qT]at h
 unfold hd4 at h
 split at h
 ·rename_i v hs
  split at h
  ·rename_i hv
   cases h
   exact⟨rfl,by rw[split_one' hs,hv]⟩
  ·cases h
 ·cases h
theorem tD {ls:List (List UInt8)} {c:SCfg} (h:dV 5 0 ls zCfg=.inl c):∃r,ls=l8 c++r∧c.Wr:=by
 match ls,h with
 | [],h=>cases h
 | t0::ls,h =>
  rw[dV]at h
  split at h
  ·cases h
  rename_i c0 h0
  match ls,h with
  | [],h=>cases h
  | t1::ls,h =>
   rw[dV]at h
   split at h
   ·cases h
   rename_i c1 h1
   match ls,h with
   | [],h=>cases h
   | t2::ls,h =>
    rw[dV]at h
    split at h
    ·cases h
    rename_i c2 h2
    match ls,h with
    | [],h=>cases h
    | t3::ls,h =>
     rw[dV]at h
     split at h
     ·cases h
     rename_i c3 h3
     match ls,h with
     | [],h=>cases h
     | t4::ls,h =>
      rw[dV]at h
      split at h
      ·cases h
      rename_i c4 h4
      rw[dV]at h
      cases h
      obtain⟨a,b,e,f,ha,hb,he,hf,rfl,rfl⟩:=tI h0
      obtain⟨g,i,hg,hi,rfl,rfl⟩:=tH h1
      obtain⟨j,hj,rfl,rfl⟩:=tG h2
      obtain⟨m,hm,rfl,rfl⟩:=tF h3
      obtain⟨rfl,rfl⟩:=tE h4
      refine⟨ls,rfl,⟨⟨?_,?_⟩,⟨?_,?_⟩,⟨?_,?_⟩,⟨?_,?_⟩,⟨?_,?_⟩,⟨?_,?_⟩,hm,⟨?_,?_⟩⟩⟩ <;> simp only <;> omega
end Go.Plain
namespace Go.Eng
open Go.RowKit
theorem Enc.arx_arr {w:World} {X:Nat→Prop} {α:Type} {s:Nat} {enc enc':α→D} {xs:List α} (h:∀x c,Enc w X (enc x) c→Enc w X (enc' x) c):∀cs,Enc w X (.arx s enc xs) cs→Enc w X (.arr s enc' xs) cs:=by
 intro cs hc
 rcases hc with ⟨rfl,a,rfl⟩ | ⟨a,rfl,h1,f,hf⟩
 ·cases a with
  | none=>exact .inl ⟨rfl,rfl⟩
  | some a=>exact .inr ⟨a,0,rfl,Nat.le_refl _,Nat.zero_le _,fun _=>[],fun i hi=>absurd hi (Nat.not_lt_zero _)⟩
 ·exact .inr ⟨a,xs.length,rfl,Nat.le_refl _,h1,f,fun i hi=>⟨h _ _ (hf i hi).1,(hf i hi).2⟩⟩
end Go.Eng
namespace Go.Eng
open Go.RowKit Go.Sort
abbrev BK (n:Int):D :=.sc (.int .i64 n)
variable {P : Program}
end Go.Eng
namespace Go.Eng
open Go.RowKit
variable {P : Program} {f : FuncId} {avs avs' : List AV} {h0 : List (Nat × Row)} {res : AV}
def jb (avs:List AV) (h0:List (Nat×Row)) (avs':List AV) (h0':List (Nat×Row)):Prop :=
 ∀(C:Ctx) (G:Nat→Prop) (σ:Place) (w:World) (a:Act),aG C G (inSt avs h0) σ w a→aG C G (inSt avs' h0') σ w a
theorem jb.refl (avs:List AV) (h0:List (Nat×Row)):jb avs h0 avs h0:=fun _ _ _ _ _ h=>h
theorem jb.freeze {h0' h1:List (Nat×Row)} {avs1:List AV} (r:Nat) (row:Row) (hrow:bc (aS h0) r=some row) (hE:ga r row (cM 0 avs) (cM 0 avs')) (hH:dE r row (aS h0) (aS h0')) (hl:avs'.length=avs.length)
  (h:jb avs' h0' avs1 h1):jb avs h0 avs1 h1:=by
 intro C G σ w a hst
 refine h C G σ w a (hst.freeze (st':=inSt avs' h0') r row (by rw[←bK]; exact hrow) (ga.out _ hE) (fun q x' hq=>?_) hl rfl)
 rw[←bK]at hq
 obtain⟨h1,x,h2,h3⟩:=dE.out _ hH q x' hq
 exact⟨h1,x,by rw[←bK]; exact h2,h3⟩
def jV (res:AV):Prop:=(∀(σ σ':Place) (w w':World) (X X':Nat→Prop) (v:Value),RelV σ w X res v→RelV σ' w' X' res v)∧∀G:Nat→Prop,res.within G
theorem jV.sc (v:Value):jV (.d (.sc v)):=⟨fun _ _ _ _ _ _ _ h=>RelV.sc.2 (RelV.sc.1 h),fun _=>trivial⟩
theorem FnIs.lend (ht:jb avs h0 avs' []) (hf:jV res) (h:FnIs P f avs' [] res []):FnIs P f avs h0 res h0:=by
  refine⟨h.1,fun C σ w vs hbs hB hw hσ hro hst=>?_⟩
  have h1:=ht _ _ _ _ _ hst
  have hc:aG { C with M:=fun _=>False } (fun r=>r<64) (inSt avs' []) σ w ⟨vs.toArray,[]⟩:=
    { env:=h1.env
      envG:=h1.envG
      rows:=h1.rows
      rowsG:=h1.rowsG
      inj:=h1.inj
      high:=fun r row b c hr=>by simp[inSt,aS,St.row,lk]at hr
      size:=h1.size
      below:=by show cX C.B _ C.w0 w; rw[hw]; exact cX.refl _ _ _
      defers:=trivial
      sz:=h1.sz
      x0:=fun b hb=>⟨(h1.x0 b hb).1,id⟩
      agree:=h1.agree
      baseG:=h1.baseG
      bs:=h1.bs
      rok:=h1.rok
      glob:=fun x hx=>⟨(h1.glob x hx).1,(h1.glob x hx).2.1,id⟩ }
  refine (h.2 { C with M:=fun _=>False } σ w vs hbs hB hw hσ hro hc).mono ?_
  rintro e w' ⟨v,σ',rfl,hr⟩
  refine⟨v,σ,rfl,?_⟩
  have hbm:cX C.B (fun _=>False) w w':=by have:=hr.below; rw[←hw]; exact this
  have hheap:∀k,k<w.heap.size→w'.heap[k]?=w.heap[k]?:=fun k hk=>hbm.block k (by omega) id
  have hX:(bx res h0).X C.X0 σ=(inSt avs h0).X C.X0 σ:=rfl
  have hk:∀(a:Addr) (u:Value),w.cell? a=some u→¬(inSt avs h0).X C.X0 σ a.block→Kp w w' a u∧¬(bx res h0).X C.X0 σ a.block:=fun a u hc hx =>
    ⟨.of_block (hheap _ (World.block_lt_of_cell? w a hc)) hc,hx⟩
  obtain⟨u,hu,hv⟩:=hr.env 0 _ rfl
  exact
    { env:=fun i x hi=>by
        by_cases e:i=0
        · subst e
          simp only[bx,aD,if_pos,Option.some.injEq]at hi
          subst hi
          refine⟨v,rfl,?_⟩
          have hu':v=u:=by simpa using hu
          subst hu'
          exact hf.1 _ _ _ _ _ _ _ hv
        · simp only[bx,aD,if_neg (Ne.symm e),lk]at hi
          cases hi
      envG:=fun i x hi=>by
        by_cases e:i=0
        · subst e
          simp only[bx,aD,if_pos,Option.some.injEq]at hi
          subst hi
          exact hf.2 _
        · simp only[bx,aD,if_neg (Ne.symm e),lk]at hi
          cases hi
      rows:=fun r row hr'=>bd.mono (fun _ _=>rfl) hk hbm.size (hst.rowsG r row hr').1 (hst.rowsG r row hr').2 (fun b c hs=>hheap b (hst.lt hr' hs)) (hst.rows r row hr')
      rowsG:=fun r row hr'=>by
        obtain⟨g1,g2⟩:=hst.rowsG r row hr'
        refine⟨Nat.lt_of_lt_of_le g1 (by decide),?_⟩
        cases row with
        | box t x=>exact AV.within.mono (fun r hr=>Nat.lt_of_lt_of_le hr (by decide)) x g2
        | ds=>trivial
        | lits t s n ex x=>exact AV.within.mono (fun r hr=>Nat.lt_of_lt_of_le hr (by decide)) x g2
        | mo x=>exact AV.within.mono (fun r hr=>Nat.lt_of_lt_of_le hr (by decide)) x g2
        | si=>trivial
        | mq=>trivial
        | lo=>trivial
        | mi x=>exact AV.within.mono (fun r hr=>Nat.lt_of_lt_of_le hr (by decide)) x g2
      inj:=hst.inj
      high:=hst.high
      size:=hr.size
      below:=by rw[hw]; exact⟨hbm.os,hbm.tape,hbm.output,hbm.size,fun k hk _=>hbm.block k hk id,hbm.book⟩
      defers:=trivial
      sz:=rfl
      x0:=hst.x0
      agree:=hst.agree
      baseG:=fun r hr=>by have:=hst.baseG r hr; exact Nat.lt_of_lt_of_le this (by decide)
      bs:=hst.bs
      rok:=fun l hl=>by rw[hro]at hl; cases hl
      glob:=hst.glob }
end Go.Eng
namespace Go.Eng
open Go.RowKit
theorem Frz.row_le {r:Nat} {row row':Row} {a a':AV} (h:aE row row') (hf:Frz r row' a a'):Frz r row a a' :=
 ⟨hf.1,hf.2.1,hf.2.2.1,fun σ w X X' hx hn hr cs hc=>hf.2.2.2 σ w X X' hx hn (h σ w X r hr) cs hc⟩
end Go.Eng
namespace Go.Eng
open Go.RowKit
section
variable {P : Program} {T : Tab} {env : Env} {h : Upds} {n : Nat}
end
theorem aE.ds_map {t:TypeId} {s:Nat} {ex:Bool} {α β:Type} {enc:α→D} {enc':β→D} (g:α→β) {xs:List α} {ys:List β} (hy:ys=xs.map g) (hg:∀x∈xs,DLe (enc x) (enc' (g x))):aE (.ds t s ex enc xs) (.ds t s ex enc' ys):=by
 subst hy
 intro σ w X r h
 rcases h with ⟨h1,rfl⟩ | ⟨b,c,cur,h1,h0,h2,h3,h4,h5,f,hf,h6⟩
 ·exact .inl ⟨h1,rfl⟩
 ·refine .inr ⟨b,c,cur,h1,by rw[List.length_map]; exact h0,h2,h3,by rw[List.length_map]; exact h4,h5,f,fun i hi=>?_,by rw[List.length_map]; exact h6⟩
  rw[List.length_map]at hi
  refine⟨?_,(hf i hi).2⟩
  rw[List.getElem_map]
  exact hg _ (List.getElem_mem _) _ _ _ (hf i hi).1
end Go.Eng
namespace Go.Eng
open Go.RowKit
theorem aE.box_d {t:TypeId} {x y:D} (h:DLe x y):aE (.box t (.d x)) (.box t (.d y)):=by
 rintro σ w X r ⟨_,b,cs,h1,h2,h3⟩
 exact⟨rfl,b,cs,h1,h2,h _ _ _ h3⟩
section
variable {P : Program} {T : Tab} {env : Env} {h : Upds} {n : Nat} {w : World}
theorem oQ (hT:an P T) {t e L r m c:Nat} {re:TyR} {x lo i j:Operand} {p:List Step} {k0 k k':IntKind} (ht:aT T t=some (.array L e)) (he:lk T e=some re) (hx:au env x=some (.ptr r p)) (hlo:au env lo=some (.int k0 0)) (hi:au env i=some (.int k m)) (hj:au env j=some (.int k' c)) (hm:m≤c) (hc:c≤L) :
  aq P (.slice t x (some lo) (some i) (some j)) env h n (some (.asl r p m c)) []:=.of_comes fun C G st σ w a o ho hA hdst hst hn=>by
 obtain⟨ud,hud,hdd⟩:=aM hT ht
 cases hdd
 obtain⟨hx1,hx2⟩:=am hst (hA.ev hx)
 obtain⟨hi1,_⟩:=RelV.sc.1 (am hst (hA.ev hi)).1
 obtain⟨hj1,_⟩:=RelV.sc.1 (am hst (hA.ev hj)).1
 obtain⟨hlo1,_⟩:=RelV.sc.1 (am hst (hA.ev hlo)).1
 obtain⟨b,c0,hb,hv⟩:=RelV.ptr.1 hx1
 have hsz:=(hT e re he).run_size (P:=P)
 refine .quiet (u :=.slice (some ⟨b,aQ p,none⟩) m c) hst hdst ⟨rfl,rfl⟩ ?_ (RelV.asl.2 ⟨b,c0,hb,rfl⟩) hx2
 have h1:(m:Int)≤(c:Int):=by omega
 have h2:(c:Int)≤(L:Int):=by omega
 have h3:¬(c:Int)<0:=by omega
 have h4:¬(m:Int)<0:=by omega
 simp[execOp,ho,Instr.sliceAt,Instr.sureAddr,hv,hi1,hj1,hlo1,run_underlying hud,Instr.sliceBounds,Instr.sliceBound,asIntOf,hm,hc,hsz,Sem.run_bind,Sem.run_pure,Result.andThen_ok,Addr.add_zero']
theorem mN (t ty e:TypeId) (i:TypeInfo) (ht:P.underlying t=some (.slice e)) (hi:P.info? e=some i) (g sLen sCap:Nat) (cur:Array Value) (t2:TypeId) (hg:w.heap[g]?=some (.cells cur t2 (0,0)))
  (a:Addr) (m c:Nat) (news:List Value) (hl:news.length=m*i.size) (hnews:∀j u,news[j]?=some u→w.cell? (a.add j)=some u) (h1:∀u∈news,u.oneCell'=true) (hroom:sLen+m≤sCap) (hfit:sLen*i.size+news.length≤cur.size) :
  (Builtin.append_ #[t,t] ty #[.slice (some ⟨g,0,none⟩) sLen sCap,.slice (some a) m c]).run P w=.ok (.slice (some ⟨g,0,none⟩) (sLen+m) sCap) (w.setRow g (cur.toList.take (sLen*i.size)++news++cur.toList.drop (sLen*i.size+news.length)).toArray):=by
 have hf:=run_firstCells_some (P:=P) w i.size m a m c news hl hnews
 have hst:=run_storeCells_at P g (sLen*i.size) t2 news 0 cur w hg (by simpa using hfit) h1
 simp only[Nat.add_zero]at hst
 simp[Builtin.append_,run_underlying ht,sizeOf,typeInfo,hi,Builtin.lenOf,hroom,hf,Addr.add_lit,hst]
theorem ja (hT:an P T) {t e r r2 len cap:Nat} {re:TyR} {s:Nat} {ex2:Bool} {cap2:Option Nat} {x y:Operand} {d:D} {row row':Row} (ht:aT T t=some (.slice e)) (he:lk T e=some re) (hs:Nat.beq re.size s=true) (hs0:Nat.blt 0 s=true)
  (hx:au env x=some (.asl r [] len cap)) (hrow:bc h r=some row) (hy:au env y=some (.own r2 0 1 s cap2)) (hrow2:bc h r2=some (.lits e s 1 ex2 (.acons (.d d) .anil))) (hlen:len<cap) (hu:RUpd row [.idx len s] (.d d) row') :
  aq P (.call { callee :=.builtin .append,args := #[x,y],argTypes := #[t,t] }) env h n (some (.asl r [] (len+1) cap)) [(r,some row')]:=.of_comes fun C G st σ w a o ho hA hd hst hn=>by
 have hs0:=Nat.le_of_ble_eq_true hs0
 have hs:=Nat.eq_of_beq_eq_true hs
 obtain⟨ud,hud,hdd⟩:=aM hT ht
 cases hdd
 obtain⟨hx1,hx2⟩:=am hst (hA.ev hx)
 obtain⟨hy1,_⟩:=am hst (hA.ev hy)
 have hrow:=hA.row _ _ hrow
 obtain⟨i,z,hi,hi1,hi2,hi3,hi4⟩:=(hT e re he).info
 obtain⟨b,c,hb,hux⟩:=RelV.asl.1 hx1
 have hr2:=hst.rows r2 _ (hA.row _ _ hrow2)
 obtain⟨ad,c1,news,hvy,hnl,hnc,hne⟩:∃(ad:Addr) (c1:Nat) (news:List Value),a.eval y=.slice (some ad) 1 c1∧news.length=s∧(∀j u,news[j]?=some u→w.cell? (ad.add j)=some u)∧Enc w (st.X C.X0 σ) d news:=by
  rcases RelV.own.1 hy1 with ⟨_,_,h0,_⟩ | ⟨b,c,ad,hb,hv,hle,_,_,had⟩
  ·omega
  ·have:ad=⟨b,0,none⟩:=by have:=had (by omega); simpa using this
   subst this
   rcases hr2 with ⟨_,⟨hn,_⟩ | ⟨b',c',cur,cs,hb',_,hh,hcs,_,_,hcl,hrel,htk⟩⟩
   ·rw[hb]at hn; cases hn
   ·rw[hb]at hb'
    cases hb'
    obtain⟨c1,c2,rfl,h1,h2⟩:=hrel
    obtain rfl:c2=[]:=h2
    rw[List.append_nil]at hcl htk
    refine⟨⟨b,0,none⟩,_,c1,hv,by simpa using hcl,fun j u hj=>?_,h1⟩
    have hjl:=(List.getElem?_eq_some_iff.1 hj).1
    rw[db,cell_of_row w b _ cur e (0,0) hh,Nat.zero_add,←Array.getElem?_toList]
    rw[←htk,List.getElem?_take,if_pos (by omega)]at hj
    exact hj
 obtain⟨b',c',cur,t2,A,m,C',hb',hh,⟨hcur,hA2⟩,hml,hnew⟩:=RUpd.cells (m':=news) hu (hst.rows r row hrow) rfl hne (hst.rowsG r row hrow).2 trivial
 rw[hb]at hb'
 cases hb'
 have hAl:A.length=len*s:=by rw[hA2]; simp[aQ,Step.off]
 have hw:=hst.write (new:=(A++news++C').toArray) hrow hb hh (RUpd.within (hst.rowsG r row hrow).2 (show (AV.d d).within G from trivial) hu) (fun w' ht hd' hh'=>hnew w' ht hd' hh')
 have hcl:cur.size=A.length+m.length+C'.length:=by
  have:=congrArg List.length hcur
  simp at this; omega
 have hrun:=mN (P:=P) (w:=w) t o.type e i hud hi b len cap cur t2 hh ad 1 c1 news (by rw[hnl,hi1,hs,Nat.one_mul]) hnc (Enc.one _ _ hne) (by omega) (by rw[hi1,hs,hcl,hml]; omega)
 have e1:cur.toList.take (len*i.size)=A:=by rw[hi1,hs,hcur,←hAl,List.append_assoc,List.take_left]
 have e2:cur.toList.drop (len*i.size+news.length)=C':=by rw[hi1,hs,hcur,←hAl,←hml,←List.length_append,List.drop_left]
 rw[e1,e2]at hrun
 have hpo:aQ ([]:List Step)=0:=rfl
 rw[hpo]at hux
 refine⟨_,_,.value (.slice (some ⟨b,0,none⟩) (len+1) cap),_,_,σ,G,⟨rfl,rfl⟩,?_,.inl rfl,by rw[St.put_upd]; exact hw.set hd (u :=.slice (some ⟨b,0,none⟩) (len+1) cap) (RelV.asl.2 ⟨b,c,hb,rfl⟩) hx2,fun _ h=>h,fun _ h=>.inl h⟩
 simp[execOp,ho,resolve,invoke,builtin,hux,hvy,hrun]
end
end Go.Eng
namespace Go.Eng
open Go.RowKit
variable {P : Program} {op : Op} {env : Env} {h : Upds} {n : Nat} {av av' : AV} {row : Row}
theorem aq.frozen (hs:aq P op env h n (some av) [(n,some row)]) (hf:Frz n row av av'):aq P op env h n (some av') []:=by
 intro C G st σ w a o ho hA hd hst hn hb next Q hnext
 refine hs C G st σ w a o ho hA hd hst hn hb next Q fun x w' σ' G' hst' h1 h2=>?_
 have hnr:∀q row',st.row q=some row'→q≠n:=fun q row' hq e=>by
  subst e
  exact hn q (Nat.le_refl _) (by omega) (hst.rowsG _ _ hq).1
 have hrow:(st.put o.dst (some av) [(n,some row)]).row n=some row:=by
  simp[St.put,St.row,aD]
 have hrow2:∀q row',q≠n→st.row q=some row'→(st.put o.dst (some av) [(n,some row)]).row q=some row':=fun q row' hq hr=>by
  simp only[St.put,St.row,List.cons_append,List.nil_append,aD,if_neg (Ne.symm hq)]
  exact hr
 refine hnext x w' σ' G' (hst'.freeze (st':=st.put o.dst (some av') []) n row hrow (fun i v' hi=>?_) (fun q x' hq=>?_) rfl rfl) h1 h2
 ·cases hdst:o.dst with
  | none =>
   simp only[St.put,hdst]at hi ⊢
   exact⟨v',hi,.refl _⟩
  | some d =>
   simp only[St.put,hdst,aD]at hi ⊢
   split at hi
   ·rename_i e
    rw[if_pos e]
    simp only[Option.some.injEq]at hi
    exact⟨av,rfl,by rw[←hi]; exact hf⟩
   ·rename_i e
    rw[if_neg e]
    exact⟨v',hi,.refl _⟩
 ·have hq':st.row q=some x':=hq
  exact⟨hnr q x' hq',x',hrow2 q x' (hnr q x' hq') hq',.refl _⟩
end Go.Eng
namespace Go.Eng
open Go.RowKit
variable {P : Program} {T : Tab} {env : Env} {h : Upds} {n : Nat}
def Bs (e s:Nat):Nat→List (Nat×Nat)
 | 0=>[]
 | k+1=>Bs e s k++[(k*s,e)]
end Go.Eng
namespace Go.Proofs.YtpmhnpnmpjimnaaGreatDoor
open Go.Eng Go.Plain
set_option maxHeartbeats 32000000
set_option maxRecDepth 20000
abbrev u6 (n:Int):D :=.sc (.int .u64 n)
abbrev encK (l:List UInt8):D :=.vec 32 1 bp (byI l)
def bt (c:SCfg):D :=.cons (i6 c.blocks) (.cons (i6 c.shards) (.cons (i6 c.frames) (.cons (i6 c.clients) (.cons (u6 c.limit) (.cons (u6 c.reserve) (.cons (encK c.master) (.cons (u8s c.flaw) .nil)))))))
def aX (a:SAct):D :=.cons (u8s a.kind) (.cons (i6 a.thread) (.cons (i6 a.sector) (.cons (encB a.bytes) (.cons (i6 a.back) .nil))))
abbrev e6 (l:List SAct):D :=.arr 5 aX l
abbrev jn (l:List SAct):D :=.arx 5 aX l
def bB (c:SCfg) (l:List (List POp)) (bs:List SAct):D :=.cons (bt c) (.cons (cE l) (.cons (e6 bs) .nil))
abbrev sq (n:Int) (l:List Int):D :=.cons (i6 n) (.cons (.arr 1 i6 l) .nil)
def nI (l:List Nat):List Int:=l.map fun (k:Nat)=>(k:Int)
theorem fV (l:List Nat):(nI l).length=l.length:=by simp[nI]
theorem yE (a b:List Nat):nI (a++b)=nI a++nI b:=by simp[nI]
def padL (l:List Nat):List Int:=nI l++List.replicate (6-l.length) 0
theorem u9 {l:List Nat} (h:l.length<6):(padL l)[l.length]?=some 0:=by
 rw[padL,List.getElem?_append_right (by rw[fV]; omega),fV,Nat.sub_self,show 6-l.length=(5-l.length)+1 by omega]
 rfl
theorem u7 {l:List Nat} (c:Nat) (h:l.length<6):(padL l).set l.length (c:Int)=padL (l++[c]):=by
 rw[padL,padL,List.set_append_right _ _ (by rw[fV]; omega),fV,Nat.sub_self,show 6-l.length=(6-(l++[c]).length)+1 by simp; omega,List.replicate_succ,List.set_cons_zero,yE,List.append_assoc]
 rfl
theorem td {l:List Nat}:(padL l).take l.length=nI l:=by
 rw[padL,←fV,List.take_left]
theorem jz {g c:Nat} (h1:1≤c) (hc:c≠1) (h2:c≤4 ^ g):∃k,g=k+1∧(c+3)/4≤4 ^ k∧1≤(c+3)/4:=by
 cases g with
 | zero=>simp at h2; omega
 | succ k=>refine⟨k,rfl,?_,by omega⟩; rw[Nat.pow_succ]at h2; omega
theorem r6:∀f c,c≤1024→(lvl f c).sum≤(f+1)*1024
 | 0,c,h=>by simp[lvl]; omega
 | f+1,c,h=>by
  rw[lvl]
  split
  ·simp; omega
  ·have:=r6 f ((c+3)/4) (by omega)
   simp only[List.sum_cons]; omega
theorem mj {n:Nat} (h:n≤4096):(dD n).sum≤7168:=r6 6 _ (by omega)
theorem pi:∀g c,1≤c→c≤4 ^ g→(lvl (g+1) c).length≤g+1
 | g,c,h1,h2=>by
  by_cases hc:c=1
  ·rw[lvl,if_pos hc]; simp
  ·obtain⟨k,rfl,h3,h4⟩:=jz h1 hc h2
   have:=pi k _ h4 h3
   rw[lvl,if_neg hc]
   simp only[List.length_cons]; omega
theorem gp {n:Nat} (h1:1≤n) (h2:n≤4096):(dD n).length≤6:=pi 5 _ (by omega) (by show (n+3)/4≤4 ^ 5; omega)
end Go.Proofs.YtpmhnpnmpjimnaaGreatDoor
namespace Go.Proofs.YtpmhnpnmpjimnaaGreatDoor
open Go.Eng Go.Plain
set_option maxHeartbeats 32000000
set_option maxRecDepth 20000
attribute [local irreducible] WC RegS RegD SeqQ BlkQ ScoQ RegK CutK Sat SatN FnIs LoopQ aq OpIs
abbrev shC (n:Int):Int:=if 1≤n∧n≤4096 then 0 else 1
theorem oR (n:Int):FnIs Tryz.prog 59 [.int .i64 n] [] (.int .i64 (shC n)) []:=by
 refine aw aa Tryz.func59 rfl rfl rfl ?_
 by_cases h1:n<1
 ·have d1:decide (n<1)=true:=dT h1
  rw[show shC n=1 from if_neg (by omega)]
  refine sR<|rC<|zW ?_;refine zU ?_
  iterate 2 refine rS ?_
  refine rQ iT ?_;refine zO<|sR ?_;refine rC<|zT<|ba ?_
  exact⟨trivial,[],lf⟩
 ·have d1:decide (n<1)=false:=dF h1
  by_cases h2:4096<n
  ·have d2:decide (4096<n)=true:=dT h2
   rw[show shC n=1 from if_neg (by omega)]
   refine sR<|rC<|zW ?_;refine zU ?_;refine rO ?_;refine rC ?_;refine rO ?_;refine rC ?_;refine rQ iF ?_;refine zI<|sR ?_;refine rC<|zT<|ba ?_
   exact⟨trivial,[],lf⟩
  ·have d2:decide (4096<n)=false:=dF h2
   rw[show shC n=0 from if_pos (by omega)]
   refine sR<|rC<|zW ?_;refine zU ?_;refine rO ?_;refine rC ?_;refine rO ?_;refine rC ?_;refine rQ iF ?_;refine zG<|kS<|sR ?_;refine rC<|zT ?_
   exact⟨trivial,[],lf⟩
theorem p7 (c:Nat) (hc:c≤1000000):FnIs Tryz.prog 82 [.int .i64 c] [] (.int .i64 ((c+3)/4:Nat)) []:=by
 have hw:IntKind.i64.wrap (((c:Int)+4-1).tdiv 4)=(((c+3)/4:Nat):Int):=by
  rw[show ((c:Int)+4-1)=((c+3:Nat):Int) by omega]
  exact aI (m:=(((c+3)/4:Nat):Int)) (by omega) (by omega)
 refine aw aa Tryz.func82 rfl rfl rfl ?_;refine sR<|rC<|nR ?_;refine rC ?_;refine rQ iD ?_;refine rQ (cq aa rfl rfl (aI (by omega) (by omega))) ?_;refine rQ (rJ (m:=(((c+3)/4:Nat):Int)) aa rfl rfl (by decide) hw) ?_;refine rC<|zT ?_
 exact⟨trivial,[],lf⟩
theorem rh (n:Nat) (h1:1≤n) (h2:n≤4096):FnIs Tryz.prog 60 [.int .i64 n] [] (.asl 64 [] (dD n).length 6) [(64,.box 146 (.d (.vec 6 1 i6 (padL (dD n)))))]:=by
 have ha0:=p7 n (by omega)
 refine aw aa Tryz.func60 rfl rfl rfl ?_;refine sR<|rC<|nR ?_;refine rN<|nR ?_;refine rQ (oQ (m:=0) (c:=6) aa rfl rfl rfl rfl rfl rfl (by decide) (by decide)) ?_;refine rC<|nR ?_;refine rC ?_;refine rQ (ak ha0 rfl rfl (aj ae) (.inl rfl) (fun _=>rfl)) ?_;refine rC<|zP ?_
 refine wc_inv (fun s:List Nat×Nat×Nat=>⟨[(5,.int .i64 s.2.1),(4,.asl 64 [] s.1.length 6)],[(64,some (.box 146 (.d (.vec 6 1 i6 (padL s.1)))))],72,Tryz.f60.ntmps,64⟩) (fun s=>s.1++lvl (s.2.2+1) s.2.1=dD n∧s.1.length+s.2.2=5∧1≤s.2.1∧s.2.1≤4 ^ s.2.2) (fun s=>s.2.2) ([],(n+3)/4,5) [(64,some _)] ⟨rfl,rfl,by show 1≤(n+3)/4; omega,by show (n+3)/4≤4 ^ 5; omega⟩
  (lg zk ⟨⟨rfl,rfl,_,rfl,aE.box_d (DLe.chain_vec (fun _ _ _ _ h=>by rw[h.1]; rfl) [(0:Int),0,0,0,0,0] _ rfl)⟩,trivial⟩) ?_
 rintro⟨l,c,g⟩ ⟨hl,hg,hc1,hc2⟩
 simp only at hl hg hc1 hc2
 have h6:l.length<6:=by omega
 have hget:=u9 h6
 have hset:=u7 c h6
 have hlen:l.length+1=(l++[c]).length:=by simp
 by_cases hc:c=1
 ·have d1:decide ((c:Int)=1)=true:=dT (by omega)
  have he:dD n=l++[c]:=by rw[←hl,hc,lvl,if_pos rfl]
  refine bv<|b9<|zS ?_;refine zD ?_;refine aN (aV (s:=1) aa rfl rfl rfl rfl rfl rfl rfl rfl) rfl ?_;refine aN (ja (s:=1) aa rfl rfl rfl rfl rfl rfl rfl rfl h6 ⟨_,⟨_,⟨rfl,(0:Int),(c:Int),hget,⟨rfl,rfl,rfl⟩,rfl⟩,rfl⟩,rfl⟩) rfl ?_;refine rC<|nR ?_;refine zD ?_;refine zI<|sR ?_;refine zD<|zT<|zB<|bT<|fD ?_
  rw[he]
  exact⟨trivial,[(64,some _)],lg ⟨⟨_,rfl,AVLe.of_eq (by rw[hlen]; rfl)⟩,rfl,trivial⟩ ⟨⟨rfl,rfl,_,rfl,aE.of_eq (by rw[←hset]; rfl)⟩,trivial⟩⟩
 ·have d1:decide ((c:Int)=1)=false:=dF (by omega)
  obtain⟨k,rfl,hk1,hk2⟩:=jz hc1 hc hc2
  have ha1:=p7 c (by
   have:4 ^ (k+1)≤4 ^ 5:=Nat.pow_le_pow_right (by decide) (by omega)
   omega)
  refine bv<|b9<|zS ?_;refine zD ?_;refine aN (aV (s:=1) aa rfl rfl rfl rfl rfl rfl rfl rfl) rfl ?_;refine aN (ja (s:=1) aa rfl rfl rfl rfl rfl rfl rfl rfl h6 ⟨_,⟨_,⟨rfl,(0:Int),(c:Int),hget,⟨rfl,rfl,rfl⟩,rfl⟩,rfl⟩,rfl⟩) rfl ?_;refine rC<|nR ?_;refine zD ?_;refine zG<|bG<|zC<|ao ?_;refine rC ?_;refine rQ (ak ha1 rfl rfl (aj ae) (.inl rfl) (fun _=>rfl)) ?_;refine rC<|aB ?_
  exact aY (l++[c],(c+3)/4,k) [] ⟨by rw[←hl]; show l++[c]++lvl (k+1) ((c+3)/4)=l++lvl (k+1+1) c; rw[show lvl (k+1+1) c=c::lvl (k+1) ((c+3)/4) from by rw[lvl,if_neg hc],List.append_assoc]; rfl,by simp; omega,hk2,hk1⟩ (Nat.lt_succ_self k) (lg ⟨zE,rfl,⟨_,rfl,AVLe.of_eq (by rw[hlen]; rfl)⟩,rfl,trivial⟩ ⟨⟨rfl,rfl,_,rfl,aE.of_eq (by rw[←hset]; rfl)⟩,trivial⟩)
theorem tT (n:Nat) (h1:1≤n) (h2:n≤4096):FnIs Tryz.prog 60 [.int .i64 n] [] (.d (.arr 1 i6 (nI (dD n)))) []:=by
 have h6:(dD n).length≤6:=gp h1 h2
 have:=(rh n h1 h2).freeze_out (rows':=[]) 64 _ rfl (Frz.asl h6 (Nat.le_refl 6) (by decide)) trivial
 rwa [td]at this
theorem wU:AVLe (.d (.cons (.sc (.int .i64 0)) (.cons (.sc nil_) .nil))) (.d (sq 0 [])):=AVLe.d (by
 rintro w X cs ⟨c1,r1,rfl,h1,c2,r2,rfl,h2,h3⟩
 exact⟨c1,_,rfl,h1,c2,r2,rfl,.inl ⟨rfl,h2.1⟩,h3⟩) rfl
abbrev ofL (n:Int):List Int:=if shC n=0 then nI (dD n.toNat) else[]
theorem ya (n:Int) (h1:1≤n) (h2:n≤4096):FnIs Tryz.prog 37 [.int .i64 n] [] (.tup (.acons (.d (sq n (nI (dD n.toNat)))) (.acons (.int .i64 0) .anil))) []:=by
 have hct:=tT n.toNat (by omega) (by omega)
 rw[show ((n.toNat:Nat):Int)=n by omega]at hct
 have hsh:shC n=0:=if_pos ⟨h1,h2⟩
 have hchk:=oR n
 rw[hsh]at hchk
 refine aw aa Tryz.func37 rfl rfl rfl ?_;refine sR<|rN ?_;refine rC<|zW ?_;refine rC ?_;refine rQ (ak hchk rfl rfl (aj ae) (.inl rfl) (fun _=>rfl)) ?_;refine rC<|nR ?_;refine zD ?_;refine zJ<|kS<|sR ?_;refine zD ?_;refine rQ (ak hct rfl rfl (aj ae) (.inl rfl) (fun _=>rfl)) ?_;refine rQ iS ?_;refine rW ?_;refine rC<|zT ?_
 exact⟨trivial,_,rfl,[],lf⟩
theorem yB (n:Int) (h:¬(1≤n∧n≤4096)):FnIs Tryz.prog 37 [.int .i64 n] [] (.tup (.acons (.d (sq 0 [])) (.acons (.int .i64 1) .anil))) []:=by
 have hsh:shC n=1:=if_neg h
 have hchk:=oR n
 rw[hsh]at hchk
 refine aw aa Tryz.func37 rfl rfl rfl ?_;refine sR<|rN ?_;refine rC<|zW ?_;refine rC ?_;refine rQ (ak hchk rfl rfl (aj ae) (.inl rfl) (fun _=>rfl)) ?_;refine rC<|nR ?_;refine zD ?_;refine zO<|sR ?_;refine rQ iS ?_;refine rC ?_;refine rW ?_;refine rC<|zT<|ba ?_
 exact⟨trivial,_,rfl,[],lg ⟨⟨_,rfl,AVLe.tup1 wU rfl⟩,rfl,trivial⟩ trivial⟩
theorem xT (m:Nat) (l:List Nat) (hm:m≤1000000) (hs:l.sum≤1000000) (hl:l.length≤1000000):FnIs Tryz.prog 38 [.d (sq m (nI l)),.int .i64 l.length] [] (.int .i64 (2*m+2*l.sum:Nat)) []:=by
 have hle:(l.length:Int)≤(nI l).length:=by rw[fV]; exact Int.le_refl _
 have htk:(nI l).take ((l.length:Int)).toNat=nI l:=by rw[Int.toNat_natCast,←fV,List.take_length]
 refine aw aa Tryz.func38 rfl rfl rfl ?_;refine sR<|rN ?_;refine rC<|nR ?_;refine rC ?_;refine rQ iB ?_;refine rQ (dL aa rfl rfl (aI (by omega) (by omega))) ?_;refine rC<|zW ?_;refine rC ?_;refine rQ iB ?_;refine rC ?_;refine rQ (dh (m:=(l.length:Int)) aa rfl rfl rfl rfl (by omega) hle) ?_;refine rQ iE ?_;refine rC<|zP ?_
 rw[htk,fV]
 refine wc_inv (fun i:Nat=>⟨[(16,.int .i64 i),(15,.int .i64 l.length),(14,.d (.arr 1 i6 (nI l))),(5,.int .i64 (2*m+2*(l.take i).sum:Nat))],[],72,Tryz.f38.ntmps,64⟩) (fun i=>i≤l.length) (fun i=>l.length-i) 0 [] (Nat.zero_le _)
  (lg ⟨zE,rfl,zE,rfl,zE,rfl,⟨_,rfl,AVLe.of_eq (by simp; rfl)⟩,rfl,trivial⟩ trivial) ?_
 intro i hi
 refine bv<|sR ?_;refine rC<|nQ ?_
 by_cases hlt:i<l.length
 ·have d1:decide ((i:Int)<(l.length:Int))=true:=dT (by omega)
  obtain⟨c,hc⟩:∃c,l[i]?=some c:=⟨_,List.getElem?_eq_getElem hlt⟩
  have hq:(nI l)[((i:Int)).toNat]?=some (c:Int):=by rw[Int.toNat_natCast]; simp[nI,hc]
  have hts:(l.take (i+1)).sum=(l.take i).sum+c:=by rw[List.take_add_one,hc]; simp
  have hle2:(l.take (i+1)).sum≤l.sum:=by
   conv=>rhs; rw[←List.take_append_drop (i+1) l,List.sum_append]
   exact Nat.le_add_right _ _
  refine wT<|zQ<|zS ?_;refine rQ (aA aa rfl rfl rfl rfl rfl (by omega) hq) ?_;refine rQ iL ?_;refine rC<|nS<|ao ?_;refine zD ?_;refine rQ (dL aa rfl rfl (aI (by omega) (by omega))) ?_;refine rQ iD ?_;refine rC<|aB<|zC<|ao ?_;refine rQ iD ?_;refine rC<|aB ?_
  exact aY (i+1) [] hlt (by omega) (lg ⟨zE,rfl,zE,rfl,zE,rfl,⟨_,rfl,AVLe.of_eq (by rw[hts]; congr 3; omega)⟩,rfl,trivial⟩ trivial)
 ·have he:i=l.length:=by omega
  subst he
  have d1:decide ((l.length:Int)<(l.length:Int))=false:=dF (by omega)
  rw[List.take_length]
  refine wF<|zX<|sR ?_;refine zD<|zT ?_
  exact⟨trivial,[],lf⟩
theorem qi (n:Int) (h1:1≤n) (h2:n≤4096):FnIs Tryz.prog 18 [.int .i64 n] [] (.tup (.acons (.int .i64 (cp n.toNat)) (.acons (.int .i64 0) .anil))) []:=by
 have hof:=ya n h1 h2
 have hs:=mj (n:=n.toNat) (by omega)
 have hl:=gp (n:=n.toNat) (by omega) (by omega)
 have hb:=xT n.toNat (dD n.toNat) (by omega) (by omega) (by omega)
 rw[show ((n.toNat:Nat):Int)=n by omega,←fV]at hb
 refine aw aa Tryz.func18 rfl rfl rfl ?_;refine sR<|zD<|nR ?_;refine rC ?_;refine rQ (ak hof rfl rfl (aj ae) (.inl rfl) (fun _=>rfl)) ?_;refine zU ?_;refine rN ?_;refine rW ?_;refine rC<|zW ?_;refine zD ?_;refine zJ<|kS<|sR ?_;refine rQ iM ?_;refine rC ?_;refine rQ iB ?_;refine rQ iE ?_;refine rQ (ak hb rfl rfl (aj (aj ae)) (.inl rfl) (fun _=>rfl)) ?_;refine zD<|zT ?_
 exact⟨trivial,[],lf⟩
theorem tC (n:Int) (h1:1≤n) (h2:n≤4096):FnIs Tryz.prog 31 [.int .i64 n] [] (.tup (.acons (.int .i64 (hgtN n.toNat)) (.acons (.int .i64 0) .anil))) []:=by
 have hof:=ya n h1 h2
 have hl:=gp (n:=n.toNat) (by omega) (by omega)
 have hne:0<(dD n.toNat).length:=List.length_pos_iff.2 (qI _ _)
 have hw:IntKind.i64.wrap (((nI (dD n.toNat)).length:Int)-1)=(hgtN n.toNat:Int):=by
  rw[fV,hgtN,aI (by omega) (by omega)]; omega
 refine aw aa Tryz.func31 rfl rfl rfl ?_;refine sR<|zD<|nR ?_;refine rC ?_;refine rQ (ak hof rfl rfl (aj ae) (.inl rfl) (fun _=>rfl)) ?_;refine zU ?_;refine rN ?_;refine rW ?_;refine rC<|zW ?_;refine zD ?_;refine zJ<|kS<|sR ?_;refine rC ?_;refine rQ iB ?_;refine rQ iE ?_;refine rQ (cq (m:=(hgtN n.toNat:Int)) aa rfl rfl hw) ?_;refine zD<|zT ?_
 exact⟨trivial,[],lf⟩
theorem qS (n:Int) (h:¬(1≤n∧n≤4096)):FnIs Tryz.prog 31 [.int .i64 n] [] (.tup (.acons (.int .i64 0) (.acons (.int .i64 1) .anil))) []:=by
 have hof:=yB n h
 refine aw aa Tryz.func31 rfl rfl rfl ?_;refine sR<|zD<|nR ?_;refine rC ?_;refine rQ (ak hof rfl rfl (aj ae) (.inl rfl) (fun _=>rfl)) ?_;refine zU ?_;refine rN ?_;refine rW ?_;refine rC<|zW ?_;refine zD ?_;refine zO<|sR ?_;refine zU<|zT<|ba ?_
 exact⟨trivial,[],lf⟩
theorem jX (n a b:Int):FnIs Tryz.prog 32 [.int .i64 n,.int .i64 a,.int .i64 b] [] (.bool (decide (a≤n)&&decide (n≤b))) []:=by
 refine aw aa Tryz.func32 rfl rfl rfl ?_
 cases h1:decide (a≤n) with
 | false =>
  refine sR<|rC<|nR ?_;iterate 4 refine rC ?_
  iterate 3 refine rS ?_
  refine rQ iF ?_;refine rC<|zT ?_
  exact⟨trivial,[],lf⟩
 | true =>
  refine sR<|rC<|nR ?_;iterate 4 refine rC ?_
  refine rO ?_;refine rC ?_;refine rO ?_;refine rC ?_;refine rO ?_;refine rC ?_;refine rQ iT ?_;refine rC<|zT ?_
  exact⟨trivial,[],lf⟩
theorem qb {c:SCfg} (h:¬(1≤c.blocks∧c.blocks≤4096)∨¬(1≤c.shards∧c.shards≤min 8 c.blocks)∨¬(1≤c.clients∧c.clients≤8)):wchk c=7:=by rw[wchk,if_pos h]
theorem ui {c:SCfg} (h:¬(¬(1≤c.blocks∧c.blocks≤4096)∨¬(1≤c.shards∧c.shards≤min 8 c.blocks)∨¬(1≤c.clients∧c.clients≤8)))
  (h2:¬(c.clients+1≤c.frames∧c.frames≤64)∨c.shards*c.frames<2*c.clients+hgtN c.blocks.toNat+1):wchk c=7:=by rw[wchk,if_neg h,if_pos h2]
theorem nL {c:SCfg} (h:¬(¬(1≤c.blocks∧c.blocks≤4096)∨¬(1≤c.shards∧c.shards≤min 8 c.blocks)∨¬(1≤c.clients∧c.clients≤8)))
  (h2:¬(¬(c.clients+1≤c.frames∧c.frames≤64)∨c.shards*c.frames<2*c.clients+hgtN c.blocks.toNat+1)) (h3:c.reserve<1∨4294967296<c.reserve∨c.limit<c.reserve∨5<c.flaw):wchk c=7:=by rw[wchk,if_neg h,if_neg h2,if_pos h3]
theorem yk {c:SCfg} (h:¬(¬(1≤c.blocks∧c.blocks≤4096)∨¬(1≤c.shards∧c.shards≤min 8 c.blocks)∨¬(1≤c.clients∧c.clients≤8)))
  (h2:¬(¬(c.clients+1≤c.frames∧c.frames≤64)∨c.shards*c.frames<2*c.clients+hgtN c.blocks.toNat+1)) (h3:¬(c.reserve<1∨4294967296<c.reserve∨c.limit<c.reserve∨5<c.flaw)):wchk c=0:=by rw[wchk,if_neg h,if_neg h2,if_neg h3]
theorem sJ (c:SCfg) (hok:c.Ok):FnIs Tryz.prog 16 [.d (bt c)] [] (.int .i64 (wchk c)) []:=by
 obtain⟨⟨a1,a2⟩,⟨a3,a4⟩,⟨a5,a6⟩,⟨a7,a8⟩,⟨b1,b2⟩,⟨b3,b4⟩,hm32,hf0,hf1⟩:=hok
 refine aw aa Tryz.func16 rfl rfl rfl ?_
 by_cases hb:1≤c.blocks∧c.blocks≤4096
 ·have hh:=tC c.blocks hb.1 hb.2
  have hi1:=jX c.shards 1 (min 8 c.blocks)
  have hi2:=jX c.clients 1 8
  obtain⟨w1,hw1⟩:∃b,(decide (1≤c.shards)&&decide (c.shards≤min 8 c.blocks))=b:=⟨_,rfl⟩
  obtain⟨w2,hw2⟩:∃b,(decide (1≤c.clients)&&decide (c.clients≤8))=b:=⟨_,rfl⟩
  rw[hw1]at hi1
  rw[hw2]at hi2
  refine sR<|rN ?_;refine rC<|nR ?_;refine rC ?_;refine rQ iB ?_;refine rQ (ak hh rfl rfl (aj ae) (.inl rfl) (fun _=>rfl)) ?_;iterate 5 refine rC ?_
  refine nR<|rC<|nQ<|zS ?_;refine zU ?_;refine rP ?_;refine rC ?_;refine rP ?_;refine rC ?_;refine rP ?_;refine rQ iB ?_;refine rP ?_;refine rC ?_;refine rP ?_;refine rQ iB ?_;refine rP ?_;refine rQ (kX (m:=min 8 c.blocks) rfl rfl rfl) ?_;refine rP ?_;refine rQ (ak hi1 rfl rfl (aj (aj (aj ae))) (.inl rfl) (fun _=>rfl)) ?_;refine rP ?_;refine rC ?_;refine rQ iG ?_;refine rC ?_
  cases w1 with
  | false =>
   rw[qb (.inr (.inl (by simpa using hw1)))]
   iterate 5 refine rT ?_
   refine rQ iU ?_;refine rC ?_;refine zO<|sR ?_;refine rC<|zT<|zB ?_
   exact⟨trivial,[],lf⟩
  | true =>
   refine rP ?_;refine rC ?_;refine rP ?_;refine rC ?_;refine rP ?_;refine rQ iB ?_;refine rP ?_;refine rQ (ak hi2 rfl rfl (aj (aj (aj ae))) (.inl rfl) (fun _=>rfl)) ?_;refine rP ?_;refine rC ?_;refine rQ iG ?_;refine rC<|nS ?_
   cases w2 with
   | false =>
    rw[qb (.inr (.inr (by simpa using hw2)))]
    refine wV<|sR ?_;refine rC<|zT<|zB ?_
    exact⟨trivial,[],lf⟩
   | true =>
    simp only[Bool.and_eq_true,decide_eq_true_eq]at hw1 hw2
    have hs8:c.shards≤8:=Int.le_trans hw1.2 (Int.min_le_left _ _)
    have hi3:=jX c.frames (c.clients+1) 64
    obtain⟨w3,hw3⟩:∃b,(decide (c.clients+1≤c.frames)&&decide (c.frames≤64))=b:=⟨_,rfl⟩
    rw[hw3]at hi3
    have hn1:¬(¬(1≤c.blocks∧c.blocks≤4096)∨¬(1≤c.shards∧c.shards≤min 8 c.blocks)∨¬(1≤c.clients∧c.clients≤8)):=by
     rintro (h | h | h)
     ·exact h hb
     ·exact h hw1
     ·exact h hw2
    refine wG<|sR ?_;refine zD ?_;refine rQ iB ?_;refine rC ?_;refine rQ iB ?_;refine rQ iD ?_;refine rQ (ak hi3 rfl rfl (aj (aj (aj ae))) (.inl rfl) (fun _=>rfl)) ?_;refine zD ?_
    cases w3 with
    | false =>
     rw[ui hn1 (.inl (by simpa using hw3))]
     iterate 12 refine rT ?_
     refine rQ iU ?_;refine rC ?_;refine zO<|sR ?_;refine rC<|zT<|zB ?_
     exact⟨trivial,[],lf⟩
    | true =>
     simp only[Bool.and_eq_true,decide_eq_true_eq]at hw3
     have hml:0≤c.shards*c.frames∧c.shards*c.frames≤512:=by
      refine⟨Int.mul_nonneg (by omega) (by omega),?_⟩
      have:=Int.mul_le_mul hs8 hw3.2 (by omega) (by omega)
      simpa using this
     have hm:IntKind.i64.wrap (c.shards*c.frames)=c.shards*c.frames:=aI (by omega) (by omega)
     have hgl:hgtN c.blocks.toNat≤7:=by
      have:=gp (n:=c.blocks.toNat) (by omega) (by omega)
      unfold hgtN; omega
     by_cases hlt:c.shards*c.frames<2*c.clients+hgtN c.blocks.toNat+1
     ·have d1:decide (c.shards*c.frames<2*c.clients+(hgtN c.blocks.toNat:Int)+1)=true:=dT hlt
      rw[ui hn1 (.inr hlt)]
      refine rP ?_;refine rC ?_;refine rP ?_;refine rQ iB ?_;refine rP ?_;refine rC ?_;refine rP ?_;refine rQ iB ?_;refine rP ?_;refine rQ (dL (m:=c.shards*c.frames) aa rfl rfl hm) ?_;refine rP ?_;refine rC ?_;refine rP ?_;refine rQ iB ?_;refine rP ?_;refine rQ (dL aa rfl rfl (aI (by omega) (by omega))) ?_;refine rP ?_;refine rC ?_;refine rP ?_;refine rQ iD ?_;refine rP ?_;refine rQ iD ?_;refine rP ?_;refine rC ?_;refine rQ iG ?_;refine rC ?_;refine zI<|sR ?_;refine rC<|zT<|zB ?_
      exact⟨trivial,[],lf⟩
     ·have d1:decide (c.shards*c.frames<2*c.clients+(hgtN c.blocks.toNat:Int)+1)=false:=dF hlt
      have hn2:¬(¬(c.clients+1≤c.frames∧c.frames≤64)∨c.shards*c.frames<2*c.clients+hgtN c.blocks.toNat+1):=by
       rintro (h | h)
       ·exact h hw3
       ·exact hlt h
      refine rP ?_;refine rC ?_;refine rP ?_;refine rQ iB ?_;refine rP ?_;refine rC ?_;refine rP ?_;refine rQ iB ?_;refine rP ?_;refine rQ (dL (m:=c.shards*c.frames) aa rfl rfl hm) ?_;refine rP ?_;refine rC ?_;refine rP ?_;refine rQ iB ?_;refine rP ?_;refine rQ (dL aa rfl rfl (aI (by omega) (by omega))) ?_;refine rP ?_;refine rC ?_;refine rP ?_;refine rQ iD ?_;refine rP ?_;refine rQ iD ?_;refine rP ?_;refine rC ?_;refine rQ iG ?_;refine rC ?_;refine zG<|sR ?_;refine rC ?_;refine rQ iB ?_;refine zD ?_
      by_cases hr1:c.reserve<1
      ·have e1:decide (c.reserve<1)=true:=dT hr1
       rw[nL hn1 hn2 (.inl hr1)]
       iterate 3 refine rS ?_
       refine rQ iT ?_;refine rC ?_;iterate 5 refine rT ?_
       refine rQ iU ?_;refine rC ?_;iterate 3 refine rT ?_
       refine rQ iU ?_;refine rC ?_;refine zO<|sR ?_;refine rC<|zT<|zB ?_
       exact⟨trivial,[],lf⟩
      have e1:decide (c.reserve<1)=false:=dF hr1
      refine rO ?_;refine rC ?_;refine rO ?_;refine rQ iB ?_;refine rO ?_;refine rC ?_;refine rQ iF ?_;refine rC ?_
      by_cases hr2:4294967296<c.reserve
      ·have e2:decide (4294967296<c.reserve)=true:=dT hr2
       rw[nL hn1 hn2 (.inr (.inl hr2))]
       iterate 5 refine rS ?_
       refine rQ iT ?_;refine rC ?_;iterate 3 refine rT ?_
       refine rQ iU ?_;refine rC ?_;refine zO<|sR ?_;refine rC<|zT<|zB ?_
       exact⟨trivial,[],lf⟩
      have e2:decide (4294967296<c.reserve)=false:=dF hr2
      refine rO ?_;refine rC ?_;refine rO ?_;refine rQ iB ?_;refine rO ?_;refine rC ?_;refine rO ?_;refine rQ iB ?_;refine rO ?_;refine rC ?_;refine rQ iF ?_;refine rC ?_
      by_cases hr3:c.limit<c.reserve
      ·have e3:decide (c.limit<c.reserve)=true:=dT hr3
       rw[nL hn1 hn2 (.inr (.inr (.inl hr3)))]
       iterate 3 refine rS ?_
       refine rQ iT ?_;refine rC ?_;refine zO<|sR ?_;refine rC<|zT<|zB ?_
       exact⟨trivial,[],lf⟩
      have e3:decide (c.limit<c.reserve)=false:=dF hr3
      refine rO ?_;refine rC ?_;refine rO ?_;refine rQ iB ?_;refine rO ?_;refine rC ?_;refine rQ iF ?_;refine rC<|nS ?_
      by_cases hr4:5<c.flaw
      ·have e4:decide (5<c.flaw)=true:=dT hr4
       rw[nL hn1 hn2 (.inr (.inr (.inr hr4)))]
       refine wT<|sR ?_;refine rC<|zT<|zB ?_
       exact⟨trivial,[],lf⟩
      have e4:decide (5<c.flaw)=false:=dF hr4
      rw[yk hn1 hn2 (by rintro (h | h | h | h) <;> omega)]
      refine wF<|bG<|zC<|sR ?_;refine rC<|zT ?_
      exact⟨trivial,[],lf⟩
 ·have hh:=qS c.blocks hb
  rw[qb (.inl hb)]
  refine sR<|rN ?_;refine rC<|nR ?_;refine rC ?_;refine rQ iB ?_;refine rQ (ak hh rfl rfl (aj ae) (.inl rfl) (fun _=>rfl)) ?_;iterate 5 refine rC ?_
  refine nR<|rC<|nQ<|zS ?_;refine zU ?_
  iterate 8 refine rT ?_
  refine rQ iU ?_;refine rC ?_;iterate 5 refine rT ?_
  refine rQ iU ?_;refine rC ?_;refine zO<|sR ?_;refine rC<|zT<|zB ?_
  exact⟨trivial,[],lf⟩
theorem x5 (a b:SAct):decide (a=b)=(decide (a.kind=b.kind)&&(decide (a.thread=b.thread)&&(decide (a.sector=b.sector)&&(decide (a.back=b.back)&&decide (a.bytes=b.bytes))))):=by
 obtain⟨a1,a2,a3,a4,a5⟩:=a
 obtain⟨b1,b2,b3,b4,b5⟩:=b
 by_cases h1:a1=b1 <;> by_cases h2:a2=b2 <;> by_cases h3:a3=b3 <;> by_cases h4:a4=b4 <;> by_cases h5:a5=b5 <;> simp[h1,h2,h3,h4,h5]
theorem ft (a b:SAct):FnIs Tryz.prog 39 [.d (aX a),.d (aX b)] [] (.bool (decide (a=b))) []:=by
 rw[x5]
 refine aw aa Tryz.func39 rfl rfl rfl ?_;refine sR ?_;iterate 2 refine rN ?_
 refine rC<|nR ?_;refine rC ?_;refine rQ iB ?_;refine rC ?_;refine rQ iB ?_;refine zD ?_
 cases h1:decide (a.kind=b.kind) with
 | false =>
  iterate 5 refine rT ?_
  refine rQ iG ?_;refine rC ?_;iterate 5 refine rT ?_
  refine rQ iG ?_;refine rC ?_;iterate 5 refine rT ?_
  refine rQ iG ?_;refine rC ?_;iterate 7 refine rT ?_
  refine rQ iG ?_;refine rC<|zT ?_
  exact⟨trivial,[],lf⟩
 | true =>
 refine rP ?_;refine rC ?_;refine rP ?_;refine rQ iB ?_;refine rP ?_;refine rC ?_;refine rP ?_;refine rQ iB ?_;refine rP ?_;refine rC ?_;refine rQ iU ?_;refine rC ?_
 cases h2:decide (a.thread=b.thread) with
 | false =>
  iterate 5 refine rT ?_
  refine rQ iG ?_;refine rC ?_;iterate 5 refine rT ?_
  refine rQ iG ?_;refine rC ?_;iterate 7 refine rT ?_
  refine rQ iG ?_;refine rC<|zT ?_
  exact⟨trivial,[],lf⟩
 | true =>
 refine rP ?_;refine rC ?_;refine rP ?_;refine rQ iB ?_;refine rP ?_;refine rC ?_;refine rP ?_;refine rQ iB ?_;refine rP ?_;refine rC ?_;refine rQ iU ?_;refine rC ?_
 cases h3:decide (a.sector=b.sector) with
 | false =>
  iterate 5 refine rT ?_
  refine rQ iG ?_;refine rC ?_;iterate 7 refine rT ?_
  refine rQ iG ?_;refine rC<|zT ?_
  exact⟨trivial,[],lf⟩
 | true =>
 refine rP ?_;refine rC ?_;refine rP ?_;refine rQ iB ?_;refine rP ?_;refine rC ?_;refine rP ?_;refine rQ iB ?_;refine rP ?_;refine rC ?_;refine rQ iU ?_;refine rC ?_
 cases h4:decide (a.back=b.back) with
 | false =>
  iterate 7 refine rT ?_
  refine rQ iG ?_;refine rC<|zT ?_
  exact⟨trivial,[],lf⟩
 | true =>
 refine rP ?_;refine rC ?_;refine rP ?_;refine rQ iB ?_;refine rP ?_;refine rQ (cV aa rfl rfl rfl rfl) ?_;refine rP ?_;refine rC ?_;refine rP ?_;refine rQ iB ?_;refine rP ?_;refine rQ (cV aa rfl rfl rfl rfl) ?_;refine rP ?_;refine rQ (sn aa rfl rfl rfl) ?_;refine rQ iU ?_;refine rC<|zT ?_
 rw[←gB,←eF,←eF]
 exact⟨trivial,[],lf⟩
theorem iO (k t s b:Int):DLe (.cons (u8s k) (.cons (i6 t) (.cons (i6 s) (.cons (.sc nil_) (.cons (i6 b) .nil))))) (aX ⟨k,t,s,[],b⟩):=by
 rintro w X cs ⟨c1,r1,rfl,h1,c2,r2,rfl,h2,c3,r3,rfl,h3,c4,r4,rfl,h4,h5⟩
 exact⟨c1,_,rfl,h1,c2,_,rfl,h2,c3,_,rfl,h3,c4,r4,rfl,.inl ⟨rfl,h4.1⟩,h5⟩
theorem y3 {thr sec:Int} {a:SAct} (h:a.kind=1):actB thr sec a=(decide (0≤a.thread)&&(decide (a.thread<thr)&&decide (a=⟨a.kind,a.thread,0,[],0⟩))):=by
 obtain⟨k,t,s,b,r⟩:=a
 simp only at h
 subst h
 rw[actB,if_pos rfl]
 simp only[SAct.mk.injEq,true_and]
 by_cases h1:s=0 <;> by_cases h2:r=0 <;> by_cases h3:b=[] <;> simp[h1,h2,h3,Bool.and_assoc]
theorem yZ {thr sec:Int} {a:SAct} (h:a.kind=2):actB thr sec a=(decide (a.bytes.length≤256)&&(decide (0≤a.sector)&&(decide (a.sector<sec)&&decide (a=⟨a.kind,0,a.sector,a.bytes,0⟩)))):=by
 obtain⟨k,t,s,b,r⟩:=a
 simp only at h
 subst h
 rw[actB,if_neg (show ¬(2:Int)=1 by decide),if_pos rfl]
 simp only[SAct.mk.injEq,true_and]
 by_cases h1:t=0 <;> by_cases h2:r=0 <;> simp[h1,h2,Bool.and_assoc]
theorem yY {thr sec:Int} {a:SAct} (h:a.kind=3):actB thr sec a=(decide (0≤a.sector)&&(decide (a.sector<sec)&&decide (a=⟨a.kind,0,a.sector,[],0⟩))):=by
 obtain⟨k,t,s,b,r⟩:=a
 simp only at h
 subst h
 rw[actB,if_neg (show ¬(3:Int)=1 by decide),if_neg (show ¬(3:Int)=2 by decide),if_pos rfl]
 simp only[SAct.mk.injEq,true_and]
 by_cases h1:t=0 <;> by_cases h2:r=0 <;> by_cases h3:b=[] <;> simp[h1,h2,h3,Bool.and_assoc]
theorem yX {thr sec:Int} {a:SAct} (h:a.kind=4):actB thr sec a=(decide (0≤a.back)&&(decide (0≤a.sector)&&(decide (a.sector<sec)&&decide (a=⟨a.kind,0,a.sector,[],a.back⟩)))):=by
 obtain⟨k,t,s,b,r⟩:=a
 simp only at h
 subst h
 rw[actB,if_neg (show ¬(4:Int)=1 by decide),if_neg (show ¬(4:Int)=2 by decide),if_neg (show ¬(4:Int)=3 by decide),if_pos rfl]
 simp only[SAct.mk.injEq,true_and]
 by_cases h1:t=0 <;> by_cases h3:b=[] <;> simp[h1,h3,Bool.and_assoc]
theorem yW {thr sec:Int} {a:SAct} (h:a.kind=5):actB thr sec a=decide (a=⟨a.kind,0,0,[],0⟩):=by
 obtain⟨k,t,s,b,r⟩:=a
 simp only at h
 subst h
 rw[actB,if_neg (show ¬(5:Int)=1 by decide),if_neg (show ¬(5:Int)=2 by decide),if_neg (show ¬(5:Int)=3 by decide),if_neg (show ¬(5:Int)=4 by decide),if_pos rfl]
 simp only[SAct.mk.injEq,true_and]
 by_cases h1:t=0 <;> by_cases h2:s=0 <;> by_cases h4:r=0 <;> by_cases h3:b=[] <;> simp[h1,h2,h3,h4]
theorem y4 {thr sec:Int} {a:SAct} (h1:a.kind≠1) (h2:a.kind≠2) (h3:a.kind≠3) (h4:a.kind≠4) (h5:a.kind≠5):actB thr sec a=false:=by
 rw[actB,if_neg h1,if_neg h2,if_neg h3,if_neg h4,if_neg h5]
theorem pX (a:SAct) (thr sec:Int) (hsec:0<sec):FnIs Tryz.prog 19 [.d (aX a),.int .i64 thr,.int .i64 sec] [] (.bool (actB thr sec a)) []:=by
 have z1:decide ((0:Int)≤0)=true:=rfl
 have z2:decide (0<sec)=true:=dT hsec
 refine aw aa Tryz.func19 rfl rfl rfl ?_;refine sR<|rN ?_;refine rC<|nR ?_;refine rC ?_;refine rQ iB ?_;refine rQ iS ?_;refine rN ?_;refine rW<|nR ?_;refine rC<|zW ?_;refine rC ?_;refine rQ iB<|zP<|sR ?_;refine zD<|nS ?_
 by_cases k1:a.kind=1
 ·have d1:decide (a.kind=1)=true:=dT k1
  have hs:=ft a ⟨a.kind,a.thread,0,[],0⟩
  have hle:=iO a.kind a.thread 0 0
  rw[y3 k1]
  refine wT<|sR ?_;refine rC ?_;refine rQ iB ?_;refine zD ?_
  cases h1:decide (0≤a.thread) with
  | false =>
   iterate 4 refine rT ?_
   refine rQ iG ?_;refine rC<|nS<|ao ?_;refine rC ?_;refine rQ iB ?_;refine rC ?_;refine rX<|aB<|zC<|sR ?_;refine zD ?_
   iterate 3 refine rT ?_
   refine rQ iG ?_;refine rC ?_;iterate 4 refine rT ?_
   refine rQ iG ?_;refine rC ?_;iterate 3 refine rT ?_
   refine rQ iG ?_;refine rC<|zT ?_
   exact⟨trivial,[],lf⟩
  | true =>
   refine rP ?_;refine rC ?_;refine rP ?_;refine rQ iB ?_;refine rP ?_;refine rC ?_;refine rP ?_;refine rC ?_;refine rQ iU ?_;refine rC<|nS<|ao ?_;refine rC ?_;refine rQ iB ?_;refine rC ?_;refine rX<|aB<|zC<|sR ?_;refine zD ?_
   cases h2:decide (a.thread<thr) with
   | false =>
    iterate 3 refine rT ?_
    refine rQ iG ?_;refine rC ?_;iterate 4 refine rT ?_
    refine rQ iG ?_;refine rC ?_;iterate 3 refine rT ?_
    refine rQ iG ?_;refine rC<|zT ?_
    exact⟨trivial,[],lf⟩
   | true =>
    refine rP ?_;refine rC ?_;refine rP ?_;refine rQ iB ?_;refine rP ?_;refine rC ?_;refine rQ iU ?_;refine rC ?_;refine rP ?_;refine rC ?_;refine rP ?_;refine rQ iB ?_;refine rP ?_;refine rC ?_;refine rP ?_;refine rC ?_;refine rQ iU ?_;refine rC ?_;refine rO ?_;refine rQ iM ?_;refine rO ?_;refine rQ iM ?_;refine rO ?_;refine rQ (ak hs rfl rfl (aj (bu rfl trivial hle ae)) (.inl rfl) (fun _=>rfl)) ?_;refine rQ iT ?_;refine rC<|zT ?_
    exact⟨trivial,[],lf⟩
 have d1:decide (a.kind=1)=false:=dF k1
 refine wF<|sR ?_;refine zD<|nS ?_
 by_cases k2:a.kind=2
 ·have d2:decide (a.kind=2)=true:=dT k2
  have hs:=ft a ⟨a.kind,0,a.sector,a.bytes,0⟩
  have hbl:((byI a.bytes).length:Int)=a.bytes.length:=by rw[ch]
  rw[yZ k2]
  refine wT<|sR ?_;refine rC ?_;refine rQ iB ?_;refine rQ iE ?_;refine zD<|nS ?_;refine aH (by kernel_rfl) ?_;refine dC [3] [] ?_;refine dQ [34] [64] iB ?_;refine dC [3] [] ?_;refine dQ [36] [64] iB ?_;refine dC [7] [] ?_;refine ca [38,35] [104] (aF aa rfl rfl rfl ⟨_,⟨_,⟨_,⟨rfl,rfl,rfl⟩,rfl⟩,rfl⟩,rfl⟩ rfl) ?_;refine dC [7] [] ?_;refine ca [39,37] [104] (aF aa rfl rfl rfl ⟨_,⟨_,⟨_,⟨rfl,rfl,rfl⟩,rfl⟩,rfl⟩,rfl⟩ rfl) ?_;refine aC (by kernel_rfl)<|zC<|sR ?_;refine zD ?_
  cases h1:decide (a.bytes.length≤256) with
  | false =>
   have e1:decide (((byI a.bytes).length:Int)≤256)=false:=dF (by have:=of_decide_eq_false h1; omega)
   iterate 3 refine rS ?_
   refine rQ iF ?_;refine rC ?_;iterate 4 refine rT ?_
   refine rQ iG ?_;refine rC ?_;iterate 3 refine rT ?_
   refine rQ iG ?_;refine rC<|zT ?_
   exact⟨trivial,[],lf⟩
  | true =>
   have e1:decide (((byI a.bytes).length:Int)≤256)=true:=dT (by have:=of_decide_eq_true h1; omega)
   refine rO ?_;refine rC ?_;refine rO ?_;refine rQ iB ?_;refine rO ?_;refine rC ?_;refine rQ iT ?_;refine rC ?_
   cases h2:decide (0≤a.sector) with
   | false =>
    iterate 4 refine rT ?_
    refine rQ iG ?_;refine rC ?_;iterate 3 refine rT ?_
    refine rQ iG ?_;refine rC<|zT ?_
    exact⟨trivial,[],lf⟩
   | true =>
    refine rP ?_;refine rC ?_;refine rP ?_;refine rQ iB ?_;refine rP ?_;refine rC ?_;refine rP ?_;refine rC ?_;refine rQ iU ?_;refine rC ?_
    cases h3:decide (a.sector<sec) with
    | false =>
     iterate 3 refine rT ?_
     refine rQ iG ?_;refine rC<|zT ?_
     exact⟨trivial,[],lf⟩
    | true =>
     refine rP ?_;refine rQ iM ?_;refine rP ?_;refine rQ iM ?_;refine rP ?_;refine rQ (ak hs rfl rfl (aj (aj ae)) (.inl rfl) (fun _=>rfl)) ?_;refine rQ iU ?_;refine rC<|zT ?_
     exact⟨trivial,[],lf⟩
 have d2:decide (a.kind=2)=false:=dF k2
 refine wF<|sR ?_;refine zD<|nS ?_
 by_cases k3:a.kind=3
 ·have d3:decide (a.kind=3)=true:=dT k3
  have hs:=ft a ⟨a.kind,0,a.sector,[],0⟩
  have hle:=iO a.kind 0 a.sector 0
  rw[yY k3]
  refine wT<|ao ?_;refine rC ?_;refine rQ iB ?_;refine rC ?_;refine rX<|aB<|zC<|sR ?_;refine zD ?_;refine rP ?_;refine rC ?_;refine rP ?_;refine rQ iB ?_;refine rP ?_;refine rC ?_;refine rQ iU ?_;refine rC ?_
  cases h2:decide (0≤a.sector) with
  | false =>
   iterate 4 refine rT ?_
   refine rQ iG ?_;refine rC ?_;iterate 3 refine rT ?_
   refine rQ iG ?_;refine rC<|zT ?_
   exact⟨trivial,[],lf⟩
  | true =>
   refine rP ?_;refine rC ?_;refine rP ?_;refine rQ iB ?_;refine rP ?_;refine rC ?_;refine rP ?_;refine rC ?_;refine rQ iU ?_;refine rC ?_
   cases h3:decide (a.sector<sec) with
   | false =>
    iterate 3 refine rT ?_
    refine rQ iG ?_;refine rC<|zT ?_
    exact⟨trivial,[],lf⟩
   | true =>
    refine rP ?_;refine rQ iM ?_;refine rP ?_;refine rQ iM ?_;refine rP ?_;refine rQ (ak hs rfl rfl (aj (bu rfl trivial hle ae)) (.inl rfl) (fun _=>rfl)) ?_;refine rQ iU ?_;refine rC<|zT ?_
    exact⟨trivial,[],lf⟩
 have d3:decide (a.kind=3)=false:=dF k3
 refine wF<|sR ?_;refine zD<|nS ?_
 by_cases k4:a.kind=4
 ·have d4:decide (a.kind=4)=true:=dT k4
  have hs:=ft a ⟨a.kind,0,a.sector,[],a.back⟩
  have hle:=iO a.kind 0 a.sector a.back
  rw[yX k4]
  refine wT<|sR ?_;refine rC ?_;refine rQ iB ?_;refine zD<|nS ?_;refine aH (by kernel_rfl) ?_;refine dC [3] [] ?_;refine dQ [50] [64] iB ?_;refine dC [3] [] ?_;refine dQ [52] [64] iB ?_;refine dC [7] [] ?_;refine ca [54,51] [104] (aF aa rfl rfl rfl ⟨_,⟨_,⟨_,⟨rfl,rfl,rfl⟩,rfl⟩,rfl⟩,rfl⟩ rfl) ?_;refine dC [7] [] ?_;refine ca [55,53] [104] (aF aa rfl rfl rfl ⟨_,⟨_,⟨_,⟨rfl,rfl,rfl⟩,rfl⟩,rfl⟩,rfl⟩ rfl) ?_;refine aC (by kernel_rfl)<|zC<|sR ?_;refine zD ?_
  cases h1:decide (0≤a.back) with
  | false =>
   iterate 3 refine rT ?_
   refine rQ iG ?_;refine rC ?_;iterate 4 refine rT ?_
   refine rQ iG ?_;refine rC ?_;iterate 3 refine rT ?_
   refine rQ iG ?_;refine rC<|zT ?_
   exact⟨trivial,[],lf⟩
  | true =>
   refine rP ?_;refine rC ?_;refine rP ?_;refine rQ iB ?_;refine rP ?_;refine rC ?_;refine rQ iU ?_;refine rC ?_
   cases h2:decide (0≤a.sector) with
   | false =>
    iterate 4 refine rT ?_
    refine rQ iG ?_;refine rC ?_;iterate 3 refine rT ?_
    refine rQ iG ?_;refine rC<|zT ?_
    exact⟨trivial,[],lf⟩
   | true =>
    refine rP ?_;refine rC ?_;refine rP ?_;refine rQ iB ?_;refine rP ?_;refine rC ?_;refine rP ?_;refine rC ?_;refine rQ iU ?_;refine rC ?_
    cases h3:decide (a.sector<sec) with
    | false =>
     iterate 3 refine rT ?_
     refine rQ iG ?_;refine rC<|zT ?_
     exact⟨trivial,[],lf⟩
    | true =>
     refine rP ?_;refine rQ iM ?_;refine rP ?_;refine rQ iM ?_;refine rP ?_;refine rQ (ak hs rfl rfl (aj (bu rfl trivial hle ae)) (.inl rfl) (fun _=>rfl)) ?_;refine rQ iU ?_;refine rC<|zT ?_
     exact⟨trivial,[],lf⟩
 have d4:decide (a.kind=4)=false:=dF k4
 refine wF<|sR ?_;refine zD<|nS ?_
 by_cases k5:a.kind=5
 ·have d5:decide (a.kind=5)=true:=dT k5
  have hs:=ft a ⟨a.kind,0,0,[],0⟩
  have hle:=iO a.kind 0 0 0
  rw[yW k5]
  refine wT<|bG<|zC<|sR ?_;refine zD ?_;refine rP ?_;refine rC ?_;refine rP ?_;refine rQ iB ?_;refine rP ?_;refine rC ?_;refine rQ iU ?_;refine rC ?_;refine rP ?_;refine rC ?_;refine rP ?_;refine rQ iB ?_;refine rP ?_;refine rC ?_;refine rP ?_;refine rC ?_;refine rQ iU ?_;refine rC ?_;refine rO ?_;refine rQ iM ?_;refine rO ?_;refine rQ iM ?_;refine rO ?_;refine rQ (ak hs rfl rfl (aj (bu rfl trivial hle ae)) (.inl rfl) (fun _=>rfl)) ?_;refine rQ iT ?_;refine rC<|zT ?_
  exact⟨trivial,[],lf⟩
 have d5:decide (a.kind=5)=false:=dF k5
 rw[y4 k1 k2 k3 k4 k5]
 refine wF<|sR ?_;refine rC<|zT<|zB ?_
 exact⟨trivial,[],lf⟩
theorem lx {n:Int} (h1:1≤n) (h2:n≤4096):0<(cp n.toNat:Int)∧(cp n.toNat:Int)≤30000:=by
 have:=mj (n:=n.toNat) (by omega)
 unfold cp; omega
theorem dK (c:SCfg) (l:List (List POp)) (bs:List SAct) (hc:c.Ok) (hl:Bd l) (hb:bs.length≤1000000000):FnIs Tryz.prog 8 [.d (bB c l bs)] [] (.int .i64 (schk c l bs)) []:=by
 have hw:=sJ c hc
 have hp:=jN l hl.1 hl.2
 refine aw aa Tryz.func8 rfl rfl rfl ?_;refine sR<|rN ?_;refine rC<|zW ?_;refine rC ?_;refine rQ iB ?_;refine rQ (ak hw rfl rfl (aj ae) (.inl rfl) (fun _=>rfl)) ?_;refine rC<|nR ?_;refine zD<|nS ?_
 by_cases h1:wchk c=0
 ·have d1:(!decide (wchk c=0))=false:=by rw[dT h1]; rfl
  refine wF<|kS<|qR ?_;refine rC ?_;refine rQ iB ?_;refine rQ (ak hp rfl rfl (aj ae) (.inl rfl) (fun _=>rfl)) ?_;refine rC<|nR ?_;refine zD<|nS ?_
  by_cases h2:chkP l=0
  ·have d2:(!decide (chkP l=0))=false:=by rw[dT h2]; rfl
   refine wF<|kS<|qR ?_;refine rC ?_;refine rQ iB ?_;refine rQ iE ?_;refine zD ?_;refine rQ iB ?_;refine rC<|nS ?_
   by_cases h3:(l.length:Int)=c.clients
   ·have d3:(!decide ((l.length:Int)=c.clients))=false:=by rw[dT h3]; rfl
    refine wF<|kS<|qR ?_;refine rC ?_;refine rQ iB ?_;refine rQ iE ?_;refine rC<|nS ?_
    by_cases h4:4096<bs.length
    ·have d4:decide (4096<(bs.length:Int))=true:=dT (by omega)
     rw[show schk c l bs=3 by rw[schk,if_neg (fun e=>e h1),if_neg (fun e=>e h2),if_neg (fun e=>e h3),if_pos h4]]
     refine wT<|sR ?_;refine rC<|zT<|ba ?_
     exact⟨trivial,[],lf⟩
    ·have d4:decide (4096<(bs.length:Int))=false:=dF (by omega)
     obtain⟨b1,b2,b3,b4,b5,b6,_⟩:=rA h1
     obtain⟨hs1,hs2⟩:=lx b1 b2
     have hse:=qi c.blocks b1 b2
     rw[show schk c l bs=if bs.all (actB (c.clients+c.shards) (cp c.blocks.toNat))=true then 0 else 1 by rw[schk,if_neg (fun e=>e h1),if_neg (fun e=>e h2),if_neg (fun e=>e h3),if_neg h4]]
     refine wF<|kS<|sR ?_;refine zD ?_;refine rQ iB ?_;refine rQ (ak hse rfl rfl (aj ae) (.inl rfl) (fun _=>rfl)) ?_;iterate 5 refine rC ?_
     refine zW<|zD ?_;refine zJ<|kS<|qR ?_;refine rC ?_;refine rQ iB ?_;refine rQ iE ?_;refine rC<|zP ?_
     refine wc_inv (fun i:Nat=>⟨[(45,.int .i64 i),(44,.int .i64 bs.length),(43,.d (e6 bs)),(5,.int .i64 (cp c.blocks.toNat)),(1,.ptr 64 [])],[(64,some (.box 38 (.d (bB c l bs))))],72,Tryz.f8.ntmps,64⟩) (fun i=>i≤bs.length∧∀j,j<i→∀a,bs[j]?=some a→actB (c.clients+c.shards) (cp c.blocks.toNat) a=true) (fun i=>bs.length-i) 0 [(64,some _)] ⟨Nat.zero_le _,fun j hj=>absurd hj (Nat.not_lt_zero _)⟩
      (lg zh ⟨zR,trivial⟩) ?_
     rintro i ⟨hi,hall⟩
     refine bv<|sR ?_;refine rC<|nQ ?_
     by_cases hlt:i<bs.length
     ·have d5:decide ((i:Int)<(bs.length:Int))=true:=dT (by omega)
      obtain⟨a,ha⟩:∃a,bs[i]?=some a:=⟨_,List.getElem?_eq_getElem hlt⟩
      have ha':bs[((i:Int)).toNat]?=some a:=by rw[Int.toNat_natCast]; exact ha
      have hai:=pX a (c.clients+c.shards) (cp c.blocks.toNat) hs1
      cases hq:actB (c.clients+c.shards) (cp c.blocks.toNat) a with
      | true =>
       rw[hq]at hai
       refine wT<|zQ<|zS ?_;refine rQ (aA aa rfl rfl rfl rfl rfl (by omega) ha') ?_;refine rQ iL ?_;refine rN ?_;refine rW<|nR ?_;refine rQ iM ?_;refine zD ?_;refine rQ iB ?_;refine zD ?_;refine rQ iB ?_;refine rQ iD ?_;refine rC ?_;refine rQ (ak hai rfl rfl (aj (aj (aj ae))) (.inl rfl) (fun _=>rfl)) ?_;refine rC<|nS ?_;refine wG<|bG<|zC<|ao ?_;refine rQ iD ?_;refine rC<|aB ?_
       exact aY (i+1) [] ⟨hlt,fun j hj x hx=>by
        by_cases e:j=i
        ·subst e; rw[ha]at hx; cases hx; exact hq
        ·exact hall j (by omega) x hx⟩ (by omega) (lg zh ⟨zR,trivial⟩)
      | false =>
       rw[hq]at hai
       rw[if_neg (show ¬bs.all (actB (c.clients+c.shards) (cp c.blocks.toNat))=true from fun e=>by
        have:=List.all_eq_true.1 e a (List.mem_of_getElem? ha)
        rw[hq]at this; cases this)]
       refine wT<|zQ<|zS ?_;refine rQ (aA aa rfl rfl rfl rfl rfl (by omega) ha') ?_;refine rQ iL ?_;refine rN ?_;refine rW<|nR ?_;refine rQ iM ?_;refine zD ?_;refine rQ iB ?_;refine zD ?_;refine rQ iB ?_;refine rQ iD ?_;refine rC ?_;refine rQ (ak hai rfl rfl (aj (aj (aj ae))) (.inl rfl) (fun _=>rfl)) ?_;refine rC<|nS ?_;refine wV<|sR ?_;refine rC<|zT<|zB<|bT<|zB ?_
       exact⟨trivial,[],lf⟩
     ·have he:i=bs.length:=by omega
      subst he
      have d5:decide ((bs.length:Int)<(bs.length:Int))=false:=dF (by omega)
      rw[if_pos (show bs.all (actB (c.clients+c.shards) (cp c.blocks.toNat))=true from List.all_eq_true.2 fun a ha=>by
       obtain⟨j,hj⟩:=List.mem_iff_getElem?.1 ha
       exact hall j ((List.getElem?_eq_some_iff.1 hj).1) a hj)]
      refine wF<|zX<|sR ?_;refine rC<|zT ?_
      exact⟨trivial,[],lf⟩
   ·have d3:(!decide ((l.length:Int)=c.clients))=true:=by rw[dF h3]; rfl
    rw[show schk c l bs=1 by rw[schk,if_neg (fun e=>e h1),if_neg (fun e=>e h2),if_pos h3]]
    refine wT<|sR ?_;refine rC<|zT<|ba ?_
    exact⟨trivial,[],lf⟩
  ·have d2:(!decide (chkP l=0))=true:=by rw[dF h2]; rfl
   rw[show schk c l bs=chkP l by rw[schk,if_neg (fun e=>e h1),if_pos h2]]
   refine wT<|sR ?_;refine zD<|zT<|ba ?_
   exact⟨trivial,[],lf⟩
 ·have d1:(!decide (wchk c=0))=true:=by rw[dF h1]; rfl
  rw[show schk c l bs=wchk c by rw[schk,if_pos h1]]
  refine wT<|sR ?_;refine zD<|zT<|ba ?_
  exact⟨trivial,[],lf⟩
end Go.Proofs.YtpmhnpnmpjimnaaGreatDoor
namespace Go.Eng
open Go.RowKit
section
variable {P : Program} {T : Tab} {env : Env} {h : Upds} {n : Nat}
theorem tj (hT:an P T) {t e:Nat} {re:TyR} {s:Nat} {α:Type} {enc:α→D} {x y:Operand} {k k':IntKind} {N:Nat} {z:α} (ht:aT T t=some (.slice e)) (he:lk T e=some re) (hs:Nat.beq re.size s=true) (hs0:Nat.blt 0 s=true) (_:re.zero=enc z)
  (hx:au env x=some (.int k 0)) (hy:au env y=some (.int k' N)) (hlen:N≤2097152) (hbytes:Nat.ble re.bytes 67108864=true) :
  aq P (.makeSlice t x y) env h n (some (.own n 0 0 s none)) [(n,some (.ds e s false enc ([]:List α)))]:=.of_comes fun C G st σ w a o ho hA hdst hst hn=>by
 have hs0:=Nat.le_of_ble_eq_true hs0
 have hs:=Nat.eq_of_beq_eq_true hs
 have hb:=Nat.le_of_ble_eq_true hbytes
 obtain⟨ud,hud,hdd⟩:=aM hT ht
 cases hdd
 obtain⟨i,zv,hi,hi1,hi2,hi3,hi4⟩:=(hT e re he).info
 obtain⟨hx1,_⟩:=RelV.sc.1 (am hst (hA.ev hx)).1
 obtain⟨hy1,_⟩:=RelV.sc.1 (am hst (hA.ev hy)).1
 have hzl:zv.cells.toList.length=s:=by
  have h1:=Enc.len _ _ (Enc.closed w (fun _=>False) _ (hT e re he).zero)
  rw[hi4,(hT e re he).zsize,hs]at h1
  exact h1
 have hnn:¬G n:=hn n (Nat.le_refl _) (by omega)
 have hmade:(madeCells zv.cells (N*s)).toList=cat (fun _=>zv.cells.toList) N:=by
  have:=jj zv.cells.toList (by omega) N
  rw[hzl]at this
  rw[ki,←this]
  simp[madeCells]
 have hcl:(cat (fun _=>zv.cells.toList) N).length=N*s:=bS _ fun _ _=>hzl
 have hsz:(madeCells zv.cells (N*s)).size=N*s:=by rw[←Array.length_toList,hmade,hcl]
 obtain⟨hst',hσn⟩:=hst.new hnn (madeCells zv.cells (N*s)) e N (.ds e s false enc ([]:List α)) trivial (fun σ' w' X' hk1 hk2 hσn hh=>by
  refine .inr ⟨w.heap.size,N,madeCells zv.cells (N*s),hσn,(fun e=>nomatch e),hh,hsz,Nat.zero_le _,by simp only[maxLen]; omega,fun _=>zv.cells.toList,fun i hi=>by simp at hi,?_⟩
  simp[cat])
 have hbb:i.bytes*N≤67108864*2097152:=Nat.mul_le_mul (by omega) hlen
 have hrun:=run_make (P:=P) w t e i zv hud hi hi3 k k' 0 N (by omega) (by omega) (by
  have:((i.bytes*N:Nat):Int)≤281474976710656:=by omega
  rwa [Int.natCast_mul]at this) (by omega)
 simp only[Int.toNat_natCast,hi1,hs,Int.toNat_zero]at hrun
 refine⟨_,_,.value (.slice (some ⟨w.heap.size,0,none⟩) 0 N),_,_,_,fun r=>G r∨r=n,⟨rfl,rfl⟩,?_,.inl rfl,by rw[St.put_upd]; exact hst'.set hdst (u :=.slice (some ⟨w.heap.size,0,none⟩) 0 N) (RelV.own.2 (.inr ⟨w.heap.size,N,⟨w.heap.size,0,none⟩,hσn,by simp,by simp,by simp,by simp,fun _=>by simp⟩)) (.inr rfl),
  fun r hr=>Or.inl hr,fun r hr=>Or.imp id (fun h=>⟨by omega,by omega⟩) hr⟩
 simp only[execOp,ho,hx1,hy1,Sem.run_bind,hrun,Result.andThen_ok,Sem.run_pure]
theorem yU (hT:an P T) {x y:Operand} {t t':TypeId} {c:Nat} (hx:au env x=some (.int .u8 c)) (hy:au env y=some (.int .u8 15)) (hc:c<256):aq P (.binOp .and t x y t') env h n (some (.int .u8 (c % 16:Nat))) []:=.of_opD hT fun K hK=>by
 simp only[opD,hx,hy,Nat.beq_refl]
 refine⟨_,fun P w=>?_,hK⟩
 have h1:(BitVec.ofInt 8 (c:Int) &&& BitVec.ofInt 8 15).toNat=c % 16:=by
  rw[BitVec.toNat_and,show (BitVec.ofInt 8 15).toNat=2 ^ 4-1 from rfl,Nat.and_two_pow_sub_one_eq_mod]
  rw[BitVec.toNat_ofInt,show ((c:Int) % (2 ^ 8:Nat)).toNat=c from by omega]
 show (Op.intBits .and .u8 c 15).run P w=_
 simp only[Op.intBits]
 show (pure (Value.int .u8 (IntKind.u8.wrap ((BitVec.ofInt 8 (c:Int) &&& BitVec.ofInt 8 15).toNat:Int))):Sem Value).run P w=_
 rw[h1,show IntKind.u8.wrap ((c % 16:Nat):Int)=((c % 16:Nat):Int) from by simp[IntKind.wrap,IntKind.signed,IntKind.bits]; omega]
 rfl
theorem x9 (hT:an P T) {x y:Operand} {t t':TypeId} {a b:Nat} (hx:au env x=some (.int .u8 (a*16:Nat))) (hy:au env y=some (.int .u8 b)) (ha:a<16) (hb:b<16):aq P (.binOp .or t x y t') env h n (some (.int .u8 (a*16+b:Nat))) []:=.of_opD hT fun K hK=>by
 simp only[opD,hx,hy,Nat.beq_refl]
 refine⟨_,fun P w=>?_,hK⟩
 have h1:(BitVec.ofInt 8 ((a*16:Nat):Int) ||| BitVec.ofInt 8 (b:Int)).toNat=a*16+b:=by
  have h2:a*16 ||| b=a*16+b:=by
   have:=Nat.shiftLeft_add_eq_or_of_lt (b:=b) (i:=4) (by omega) a
   rw[Nat.shiftLeft_eq]at this
   exact this.symm
  rw[BitVec.toNat_or,BitVec.toNat_ofInt,BitVec.toNat_ofInt,show (((a*16:Nat):Int) % (2 ^ 8:Nat)).toNat=a*16 from by omega,show ((b:Int) % (2 ^ 8:Nat)).toNat=b from by omega,h2]
 show (Op.intBits .or .u8 (a*16:Nat) b).run P w=_
 simp only[Op.intBits]
 show (pure (Value.int .u8 (IntKind.u8.wrap ((BitVec.ofInt 8 ((a*16:Nat):Int) ||| BitVec.ofInt 8 (b:Int)).toNat:Int))):Sem Value).run P w=_
 rw[h1,show IntKind.u8.wrap ((a*16+b:Nat):Int)=((a*16+b:Nat):Int) from by simp[IntKind.wrap,IntKind.signed,IntKind.bits]; omega]
 rfl
theorem x7 {t t':Nat} {x y:Operand} {k':IntKind} {a:Nat} (hx:au env x=some (.int .u8 a)) (hy:au env y=some (.int k' 4)) (ha:a<16) :
  aq P (.binOp .shl t x y t') env h n (some (.int .u8 (a*16:Nat))) []:=.of_comes fun C G st σ w ac o ho hA hdst hst hn=>by
 obtain⟨hv,_⟩:=RelV.sc.1 (am hst (hA.ev hx)).1
 obtain⟨hy1,_⟩:=RelV.sc.1 (am hst (hA.ev hy)).1
 refine .quiet (u :=.int .u8 (a*16:Nat)) hst hdst ⟨rfl,rfl⟩ ?_ (RelV.sc.2 ⟨rfl,rfl⟩) trivial
 have hg:(eqGuard .shl t x y (.int .u8 a) (.int k' 4)).run P w=.ok () w:=rfl
 have h2:(binOp .shl t (.int .u8 a) (.int k' 4)).run P w=.ok (.int .u8 (a*16:Nat)) w:=by
  show (Op.shift .shl .u8 a k' 4).run P w=_
  have h1:IntKind.u8.wrap ((a:Int)*2 ^ (min (4:Int).toNat IntKind.u8.bits))=((a*16:Nat):Int):=by
   show IntKind.u8.wrap ((a:Int)*2 ^ 4)=_
   simp[IntKind.wrap,IntKind.signed,IntKind.bits]
   omega
  simp only[Op.shift,h1,if_neg (show ¬(4:Int)<0 by decide)]
  rfl
 simp only[execOp,ho,hv,hy1,Sem.run_bind,hg,Result.andThen_ok,h2,Sem.run_pure]
theorem kI (hT:an P T) {t t2 e r L:Nat} {re:TyR} {ex:Bool} {xs:List Int} {l:List UInt8} {x y:Operand} (ht:aT T t=some (.slice e)) (ht2:P.underlying t2=some .string) (he:lk T e=some re) (hs:Nat.beq re.size 1=true)
  (hx:au env x=some (.own r 0 L 1 none)) (hL:L=xs.length) (hrow:bc h r=some (.ds e 1 ex bp xs)) (hy:au env y=some (.d (strD l))) (hys0:0<l.length) (hlen0:xs.length+l.length≤4194304) (hbyt:Nat.ble re.bytes 33554432=true) :
  aq P (.call { callee :=.builtin .append,args := #[x,y],argTypes := #[t,t2] }) env h n (some (.own n 0 (xs.length+l.length) 1 none)) [(n,some (.ds e 1 false bp (xs++byI l))),(r,none)]:=by
 subst hL
 have hs:=Nat.eq_of_beq_eq_true hs
 have hbl:(byI l).length=l.length:=by simp[byI]
 rw[←hbl]
 have hys:0<(byI l).length:=by rw[hbl]; exact hys0
 have hlen:xs.length+(byI l).length≤maxLen:=by rw[hbl]; simp only[maxLen]; omega
 have hbytes:(xs.length+(byI l).length)*re.bytes≤140737488355328:=by
  have:(xs.length+(byI l).length)*re.bytes≤4194304*33554432:=Nat.mul_le_mul (by omega) (Nat.le_of_ble_eq_true hbyt)
  omega
 refine gQ hT ht ht2 he hs hx hrow hy hys hlen hbytes
end
end Go.Eng
namespace Go.Proofs.YtpmhnpnmpjimnaaGreatDoor
open Go.Eng Go.Plain
set_option maxHeartbeats 32000000
set_option maxRecDepth 20000
attribute [local irreducible] WC RegS RegD SeqQ BlkQ ScoQ RegK CutK Sat SatN FnIs LoopQ aq OpIs
theorem rb:FnIs Tryz.prog 43 [.d (encB [])] [] (.d (strD (hexP []))) []:=by
 refine aw aa Tryz.func43 rfl rfl rfl ?_;refine sR<|rC<|zW ?_;refine rC ?_;refine rQ iE ?_;refine rC ?_;refine zO<|sR ?_;refine rC<|zT<|ba ?_
 exact⟨trivial,[],lf⟩
theorem pI (l:List UInt8) (hne:l≠[]) (hL:l.length≤524280):FnIs Tryz.prog 43 [.d (encB l)] [] (.d (strD (hexP l))) []:=by
 have hpos:0<l.length:=List.length_pos_iff.2 hne
 have hbl:(byI l).length=l.length:=ch l
 have hz:decide (((byI l).length:Int)=0)=false:=dF (by omega)
 have hm2:IntKind.i64.wrap (2*((byI l).length:Int))=((2*l.length:Nat):Int):=by rw[hbl,aI (by omega) (by omega)]; omega
 have hN:2*l.length≤2097152:=by omega
 refine aw aa Tryz.func43 rfl rfl rfl ?_;refine sR<|rC<|zW ?_;refine rC ?_;refine rQ iE ?_;refine rC ?_;refine zG<|kS<|sR ?_;refine rC ?_;refine rQ iE ?_;refine rQ (dL (m:=((2*l.length:Nat):Int)) aa rfl rfl hm2) ?_;refine aN (tj (N:=2*l.length) (z:=(0:Int)) (enc:=bp) (s:=1) aa rfl rfl rfl rfl rfl rfl rfl hN rfl) rfl ?_;refine rC<|zW ?_;refine rC ?_;refine rQ iE ?_;refine rC<|zP ?_
 refine wc_inv (fun i:Nat=>⟨[(15,.int .i64 i),(14,.int .i64 (byI l).length),(13,.d (encB l)),(3,.own 65 0 (2*i) 1 none)],[(65,some (rowT ((l.take i).flatMap hexB)))],72,Tryz.f43.ntmps,64⟩) (fun i=>i≤l.length) (fun i=>l.length-i) 0 [(65,some _)] (Nat.zero_le _)
  (lg zi ⟨zR,trivial⟩) ?_
 intro i hi
 refine bv<|sR ?_;refine rC<|nQ ?_
 by_cases hlt:i<l.length
 ·have d1:decide ((i:Int)<((byI l).length:Int))=true:=dT (by omega)
  obtain⟨b,hb⟩:∃b,l[i]?=some b:=⟨_,List.getElem?_eq_getElem hlt⟩
  have hb':(byI l)[((i:Int)).toNat]?=some (b.toNat:Int):=by rw[Int.toNat_natCast]; exact jQ hb
  have hb8:b.toNat<256:=b.toNat_lt
  have hd1:=jG (n:=b.toNat/16) (by omega)
  have hd2:=jG (n:=b.toNat % 16) (by omega)
  have hpl:2*i=(byI ((l.take i).flatMap hexB)).length:=by rw[ch,fy,List.length_take,Nat.min_eq_left hi]
  have hlen:(byI ((l.take i).flatMap hexB)).length+[((hexC (b.toNat/16)).toNat:Int),((hexC (b.toNat % 16)).toNat:Int)].length≤1048576:=by rw[←hpl]; simp; omega
  have hgo:=l6 hb
  have hnx:(byI ((l.take i).flatMap hexB)).length+[((hexC (b.toNat/16)).toNat:Int),((hexC (b.toNat % 16)).toNat:Int)].length=2*(i+1):=by rw[←hpl]; simp; omega
  have hby:byI ((l.take i).flatMap hexB)++[((hexC (b.toNat/16)).toNat:Int),((hexC (b.toNat % 16)).toNat:Int)]=byI ((l.take (i+1)).flatMap hexB):=by rw[←hgo]; simp[byI]
  refine wT<|zQ<|zS ?_;refine rQ iA ?_;refine rQ iL ?_;refine rC<|nS ?_;refine aH (by kernel_rfl) ?_;refine dC [3] [] ?_;refine dC [5] [] ?_;refine dQ [20] [] (wS (a:=b.toNat) (s:=4) (m:=b.toNat/16) rfl rfl (by decide) rfl) ?_;refine dQ [21] [] (ea (l:=hexD) (m:=b.toNat/16) aa rfl rfl rfl hd1) ?_;refine dC [5] [] ?_;refine dQ [23] [] (yU (c:=b.toNat) aa rfl rfl hb8) ?_;refine dQ [24] [] (ea (l:=hexD) (m:=b.toNat % 16) aa rfl rfl rfl hd2) ?_;refine eL [22,25] [] rfl (aV (s:=1) aa rfl rfl rfl rfl rfl rfl rfl rfl) ?_;refine gG [19,26] [65,160] rfl (gM (α:=Int) (s:=1) (enc:=bp) (xs:=byI ((l.take i).flatMap hexB)) aa [((hexC (b.toNat/16)).toNat:Int),((hexC (b.toNat % 16)).toNat:Int)] rfl rfl rfl rfl rfl hpl rfl rfl rfl rfl (fun _ _=>rfl) (by decide) hlen rfl) ?_;refine dC [27] [] ?_;refine aC (by kernel_rfl)<|zC<|ao ?_;refine rQ iD ?_;refine rC<|aB ?_
  exact aY (i+1) [(65,some _)] hlt (by omega) (lg ⟨zE,rfl,zE,rfl,zE,rfl,⟨_,rfl,AVLe.of_eq (by rw[hnx]; rfl)⟩,rfl,trivial⟩ ⟨⟨rfl,rfl,_,rfl,aE.of_eq (by rw[hby]; rfl)⟩,trivial⟩)
 ·have he:i=l.length:=by omega
  subst he
  have d1:decide ((l.length:Int)<((byI l).length:Int))=false:=dF (by omega)
  have hpl2:2*l.length=(byI (l.flatMap hexB)).length:=by rw[ch,fy]
  have hpp:0<(byI (l.flatMap hexB)).length:=by omega
  rw[List.take_length]
  refine wF<|zX<|sR ?_;refine rC ?_;refine rQ (we aa rfl rfl rfl rfl rfl hpl2 hpp) ?_;refine rC<|zT ?_
  exact⟨trivial,[],lg ⟨⟨_,rfl,AVLe.of_eq (by rw[show hexP l=l.flatMap hexB from if_neg hne,eF]; rfl)⟩,rfl,trivial⟩ trivial⟩
theorem nv (l:List UInt8) (hL:l.length≤524280):FnIs Tryz.prog 43 [.d (encB l)] [] (.d (strD (hexP l))) []:=by
 by_cases h:l=[]
 ·subst h; exact rb
 ·exact pI l h hL
theorem ue (a:SAct) (hok:a.Ok) (hL:a.bytes.length≤524280) (hk:a.kind=1):FnIs Tryz.prog 44 [.d (aX a)] [] (.d (strD (cJ a))) []:=by
 have d1:decide (a.kind=1)=true:=dT (by omega)
 obtain⟨_,⟨t0,t1⟩,⟨s0,s1⟩,⟨b0,b1⟩⟩:=hok
 have l1:=bf t0 t1
 have l2:=bf s0 s1
 have l3:=bf b0 b1
 have l4:=cT a.bytes
 rw[show cJ a=eU++[32]++Lib.itoa a.thread by rw[cJ,if_pos hk]; simp]
 refine aw aa Tryz.func44 rfl rfl rfl ?_;refine sR<|rN ?_;refine rC<|nR ?_;refine rC<|zW ?_;refine rC ?_;refine rQ iB<|zP<|sR ?_;refine zD ?_;refine zI<|sR ?_;refine zD ?_;refine rQ iB ?_;refine rQ (ak (cu t0 t1) rfl rfl (aj ae) (.inl rfl) (fun _=>rfl)) ?_;refine rQ (aR (a:=eU++[32]) (b:=Lib.itoa a.thread) rfl rfl (by simp[eU]; omega) rfl) ?_;refine rC<|zT<|zB ?_
 exact⟨trivial,[],lf⟩
theorem uc (a:SAct) (hok:a.Ok) (hL:a.bytes.length≤524280) (hk:a.kind=2):FnIs Tryz.prog 44 [.d (aX a)] [] (.d (strD (cJ a))) []:=by
 have d1:decide (a.kind=1)=false:=dF (by omega)
 have d2:decide (a.kind=2)=true:=dT (by omega)
 obtain⟨_,⟨t0,t1⟩,⟨s0,s1⟩,⟨b0,b1⟩⟩:=hok
 have l1:=bf t0 t1
 have l2:=bf s0 s1
 have l3:=bf b0 b1
 have l4:=cT a.bytes
 rw[show cJ a=dW++[32]++Lib.itoa a.sector++[32]++hexP a.bytes by rw[cJ,if_neg (show ¬a.kind=1 by omega),if_pos hk]; simp]
 refine aw aa Tryz.func44 rfl rfl rfl ?_;refine sR<|rN ?_;refine rC<|nR ?_;refine rC<|zW ?_;refine rC ?_;refine rQ iB<|zP<|sR ?_;refine zD ?_;refine zG<|sR ?_;refine zD ?_;refine zI<|b9 ?_;refine aH (by kernel_rfl) ?_;refine dC [3] [] ?_;refine dC [1] [] ?_;refine dQ [16] [64] iB ?_;refine dQ [15,17] [] (ak (cu s0 s1) rfl rfl (aj ae) (.inl rfl) (fun _=>rfl)) ?_;refine dQ [18] [] (aR (a:=dW++[32]) (b:=Lib.itoa a.sector) rfl rfl (by simp[dW]; omega) rfl) ?_;refine dQ [19] [] (aR (a:=dW++[32]++Lib.itoa a.sector) (b:=[32]) rfl rfl (by simp[dW]; omega) rfl) ?_;refine dC [1] [] ?_;refine dQ [21] [64] iB ?_;refine dQ [22] [] (ak (nv a.bytes hL) rfl rfl (aj ae) (.inl rfl) (fun _=>rfl)) ?_;refine dQ [20,23] [] (aR (a:=dW++[32]++Lib.itoa a.sector++[32]) (b:=hexP a.bytes) rfl rfl (by simp[dW]; omega) rfl) ?_;refine dC [24] [] ?_;refine aC (by kernel_rfl)<|aU<|cg<|zB ?_
 exact⟨trivial,[],lf⟩
theorem ub (a:SAct) (hok:a.Ok) (hL:a.bytes.length≤524280) (hk:a.kind=3):FnIs Tryz.prog 44 [.d (aX a)] [] (.d (strD (cJ a))) []:=by
 have d1:decide (a.kind=1)=false:=dF (by omega)
 have d2:decide (a.kind=2)=false:=dF (by omega)
 have d3:decide (a.kind=3)=true:=dT (by omega)
 obtain⟨_,⟨t0,t1⟩,⟨s0,s1⟩,⟨b0,b1⟩⟩:=hok
 have l1:=bf t0 t1
 have l2:=bf s0 s1
 have l3:=bf b0 b1
 have l4:=cT a.bytes
 rw[show cJ a=dG++[32]++Lib.itoa a.sector by rw[cJ,if_neg (show ¬a.kind=1 by omega),if_neg (show ¬a.kind=2 by omega),if_pos hk]; simp]
 refine aw aa Tryz.func44 rfl rfl rfl ?_;refine sR<|rN ?_;refine rC<|nR ?_;refine rC<|zW ?_;refine rC ?_;refine rQ iB<|zP<|sR ?_;refine zD ?_;refine zG<|sR ?_;refine zD ?_;refine zG<|sR ?_;refine zD ?_;refine zI<|sR ?_;refine zD ?_;refine rQ iB ?_;refine rQ (ak (cu s0 s1) rfl rfl (aj ae) (.inl rfl) (fun _=>rfl)) ?_;refine rQ (aR (a:=dG++[32]) (b:=Lib.itoa a.sector) rfl rfl (by simp[dG]; omega) rfl) ?_;refine rC<|zT<|zB ?_
 exact⟨trivial,[],lf⟩
theorem ua (a:SAct) (hok:a.Ok) (hL:a.bytes.length≤524280) (hk:a.kind=4):FnIs Tryz.prog 44 [.d (aX a)] [] (.d (strD (cJ a))) []:=by
 have d1:decide (a.kind=1)=false:=dF (by omega)
 have d2:decide (a.kind=2)=false:=dF (by omega)
 have d3:decide (a.kind=3)=false:=dF (by omega)
 have d4:decide (a.kind=4)=true:=dT (by omega)
 obtain⟨_,⟨t0,t1⟩,⟨s0,s1⟩,⟨b0,b1⟩⟩:=hok
 have l1:=bf t0 t1
 have l2:=bf s0 s1
 have l3:=bf b0 b1
 have l4:=cT a.bytes
 rw[show cJ a=cr++[32]++Lib.itoa a.sector++[32]++Lib.itoa a.back by rw[cJ,if_neg (show ¬a.kind=1 by omega),if_neg (show ¬a.kind=2 by omega),if_neg (show ¬a.kind=3 by omega),if_pos hk]; simp]
 refine aw aa Tryz.func44 rfl rfl rfl ?_;refine sR<|rN ?_;refine rC<|nR ?_;refine rC<|zW ?_;refine rC ?_;refine rQ iB<|zP<|sR ?_;refine zD ?_;refine zG<|sR ?_;refine zD ?_;refine zG<|sR ?_;refine zD ?_;refine zG<|sR ?_;refine zD ?_;refine zI<|b9 ?_;refine aH (by kernel_rfl) ?_;refine dC [3] [] ?_;refine dC [1] [] ?_;refine dQ [35] [64] iB ?_;refine dQ [34,36] [] (ak (cu s0 s1) rfl rfl (aj ae) (.inl rfl) (fun _=>rfl)) ?_;refine dQ [37] [] (aR (a:=cr++[32]) (b:=Lib.itoa a.sector) rfl rfl (by simp[cr]; omega) rfl) ?_;refine dQ [38] [] (aR (a:=cr++[32]++Lib.itoa a.sector) (b:=[32]) rfl rfl (by simp[cr]; omega) rfl) ?_;refine dC [3] [] ?_;refine dC [1] [] ?_;refine dQ [41] [64] iB ?_;refine dQ [40,42] [] (ak (cu b0 b1) rfl rfl (aj ae) (.inl rfl) (fun _=>rfl)) ?_;refine dQ [39,43] [] (aR (a:=cr++[32]++Lib.itoa a.sector++[32]) (b:=Lib.itoa a.back) rfl rfl (by simp[cr]; omega) rfl) ?_;refine dC [44] [] ?_;refine aC (by kernel_rfl)<|aU<|cg<|zB ?_
 exact⟨trivial,[],lf⟩
theorem tZ (a:SAct) (h1:¬a.kind=1) (h2:¬a.kind=2) (h3:¬a.kind=3) (h4:¬a.kind=4):FnIs Tryz.prog 44 [.d (aX a)] [] (.d (strD (cJ a))) []:=by
 have d1:decide (a.kind=1)=false:=dF h1
 have d2:decide (a.kind=2)=false:=dF h2
 have d3:decide (a.kind=3)=false:=dF h3
 have d4:decide (a.kind=4)=false:=dF h4
 rw[show cJ a=fh by rw[cJ,if_neg h1,if_neg h2,if_neg h3,if_neg h4]]
 refine aw aa Tryz.func44 rfl rfl rfl ?_;refine sR<|rN ?_;refine rC<|nR ?_;refine rC<|zW ?_;refine rC ?_;refine rQ iB<|zP<|sR ?_;refine zD ?_;refine zG<|sR ?_;refine zD ?_;refine zG<|sR ?_;refine zD ?_;refine zG<|sR ?_;refine zD ?_;refine zG<|bG<|zC<|sR ?_;refine rC<|zT ?_
 exact⟨trivial,[],lf⟩
theorem mF (a:SAct) (hok:a.Ok) (hL:a.bytes.length≤524280):FnIs Tryz.prog 44 [.d (aX a)] [] (.d (strD (cJ a))) []:=by
 by_cases h1:a.kind=1
 ·exact ue a hok hL h1
 by_cases h2:a.kind=2
 ·exact uc a hok hL h2
 by_cases h3:a.kind=3
 ·exact ub a hok hL h3
 by_cases h4:a.kind=4
 ·exact ua a hok hL h4
 exact tZ a h1 h2 h3 h4
end Go.Proofs.YtpmhnpnmpjimnaaGreatDoor
