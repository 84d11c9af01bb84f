/- Texts of the proof: H7, H8, H9, H10, H11, H14, H15, H16, HT, H12, HV, Eng88, Eng87, Eng89, H21, H17, P45, H18, H19. -/
import Derived.Test.YtpjiiolnfbfcbaaGreatDoorG04
import Derived.Test.YtpjiiolnfbfcbaaGreatDoorG03
import Derived.Test.YtpjiiolnfbfcbaaGreatDoorG02
import Derived.Maps.RangeRun

set_option linter.unusedVariables false
set_option linter.unusedSimpArgs false
set_option linter.unusedSectionVars false
set_option maxRecDepth 10000

namespace Go.Proofs.YtpjiiolnfbfcbaaGreatDoor
open Go.Eng Go.Plain
set_option maxHeartbeats 32000000
set_option maxRecDepth 20000
attribute [local irreducible] WC RegS RegD SeqQ BlkQ ScoQ RegK CutK Sat SatN FnIs LoopQ an OpIs
theorem vw (s:RdS) (x:HEv) (n:Nat) (hs:s.Ok n) (hn:n≤1000000) (k1:x.kind=1) (m:Int) (hc0:0≤x.client) (hc8:x.client<8) (hbg:s.busy[x.client.toNat]?=some 0) (hng:s.number[x.client.toNat]?=some m) (hd64:x.op.data.length≤64) (hval:x.value=zBk) (herr:x.err=0) :
  g7 s x ⟨s.busy.set x.client.toNat ((s.all.length+1:Nat):Int),s.number.set x.client.toNat (m+1),s.era,s.read+1,s.all++[⟨x.client,m,s.era,x.op,s.read,-1,zBk,0⟩]⟩ true:=by
 have hr:=hs.read
 have ha:=hs.all
 have hm:=hs.number m (List.mem_of_getElem? hng)
 have d1:decide (x.kind=1)=true:=dT k1
 have c0:decide (0≤x.client)=true:=dT hc0
 have c8:decide (x.client<8)=true:=dT hc8
 have n8:(!decide (x.client<8))=false:=by rw[c8]; rfl
 have b0:decide ((0:Int)<0)=false:=rfl
 have l64:decide ((64:Int)<((byI x.op.data).length:Int))=false:=dF (by rw[b6]; omega)
 have v0:(!decide (x.value=zBk))=false:=by rw[dT hval]; rfl
 have e0:(!decide (x.err=0))=false:=by rw[dT herr]; rfl
 have hw:IntKind.i64.wrap (s.read+1)=s.read+1:=aO (by omega) (by omega)
 have hwm:IntKind.i64.wrap (m+1)=m+1:=aO (by omega) (by omega)
 have hlen:x.op.data.length≤1048576:=by omega
 have hal:s.all.length+1≤1048576:=by omega
 simp only[g7,cP,List.length_append,List.length_cons,List.length_nil,Nat.zero_add]
 refine au aa Tryz.func17 rfl rfl rfl ?_;refine sR<|rN ?_;refine rC<|nR ?_;refine zU ?_;refine rQ iM ?_;refine rC<|nR ?_;refine zU ?_;refine rQ iM ?_;refine rQ iD ?_;refine zD ?_;refine bg (aD aa rfl rfl rfl ⟨_,⟨_,⟨rfl,rfl,rfl⟩,rfl⟩,rfl⟩ rfl)<|nR ?_;refine rC ?_;refine rQ iB ?_;refine zD ?_;refine rO ?_;refine rC ?_;refine rO ?_;refine rQ iB ?_;refine rO ?_;refine rC ?_;refine rQ iT ?_;refine rC<|nR ?_;refine rC ?_;refine rQ iB ?_;refine rQ (aV aa rfl rfl rfl) ?_;refine rQ (bD rfl rfl rfl rfl (by kernel_rfl) (by decide) (bq x.value zBk)) ?_;refine rC<|nQ<|zS ?_;refine rC ?_;refine rQ iB ?_;refine zD ?_;refine zI ?_;iterate 2 refine bk ?_
 refine aE (by kernel_rfl) ?_;refine dC [6] [] ?_;refine dC [37] [] ?_;refine dC [38] [] ?_;refine ae [39,0] [] rfl rfl (by assumption) rfl (aw aa (fun K hk=>hk)) ?_;refine ae [39,3] [] rfl rfl (by assumption) rfl (aw aa (fun K hk=>hk)) ?_;refine ae [39,41] [64] rfl rfl (by assumption) rfl (bc aa rfl rfl ⟨_,rfl,rfl⟩ rfl) ?_;refine ae [39,40] [] rfl rfl (by assumption) rfl (aw aa (fun K hk=>hk)) ?_;refine ae [39,43] [] rfl rfl (by assumption) rfl (aw aa (fun K hk=>hk)) ?_;refine ae [39,44,42] [] rfl rfl (by assumption) rfl (aw aa (fun K hk=>⟨by omega,by omega,hk⟩)) ?_;refine ae [39,45] [0] rfl rfl (by assumption) rfl (bc aa rfl rfl ⟨_,⟨rfl,_,hbg,rfl⟩,rfl⟩ rfl) ?_;refine ae [39,46] [] rfl rfl (by assumption) rfl (aw aa (fun K hk=>hk)) ?_;refine dQ [39,47] [] iF ?_;refine dC [48] [] ?_;refine ae [49,3] [] rfl rfl rfl rfl (aw aa (fun K hk=>hk)) ?_;refine ae [49,50] [] rfl rfl rfl rfl (aw aa (fun K hk=>hk)) ?_;refine ae [49,51] [64] rfl rfl rfl rfl (bc aa rfl rfl ⟨_,rfl,rfl⟩ rfl) ?_;refine ae [49,52] [] rfl rfl rfl rfl (jY aa rfl rfl) ?_;refine ae [49,53] [] rfl rfl rfl rfl (aw aa (fun K hk=>hk)) ?_;refine dQ [49,54] [] iG ?_;refine dC [55] [] ?_;refine ae [56,7] [] rfl rfl (by assumption) rfl (aw aa (fun K hk=>hk)) ?_;refine ae [56,57] [] rfl rfl (by assumption) rfl (aw aa (fun K hk=>hk)) ?_;refine dQ [56,58] [] iF ?_;refine dC [59] [] ?_;refine ae [60,3] [] rfl rfl (by assumption) rfl (aw aa (fun K hk=>hk)) ?_;refine ae [60,61] [64] rfl rfl (by assumption) rfl (bc aa rfl rfl ⟨_,rfl,rfl⟩ rfl) ?_;refine ae [60,62] [] rfl rfl (by assumption) rfl (aw aa (fun K hk=>hk)) ?_;refine dQ [60,63] [] iF ?_;refine aB (by kernel_rfl)<|aM ?_;refine wF<|kS<|sR ?_;refine zD ?_;refine rQ iB ?_;refine rQ (ak (wU x.op.data hlen) rfl rfl (aj ab) (.inl rfl) (fun _=>rfl)) ?_;refine zD ?_;refine bg (aD aa rfl rfl rfl ⟨_,⟨_,⟨_,⟨_,⟨rfl,rfl,rfl⟩,rfl⟩,rfl⟩,rfl⟩,rfl⟩ rfl)<|nQ ?_;refine aE (by kernel_rfl) ?_;iterate 2 refine dC [0] [] ?_
 refine dC [72] [] ?_;refine dC [73] [] ?_;refine dQ [74] [0] iM ?_;refine dC [3] [] ?_;refine dQ [76] [64] iB ?_;refine dC [0] [] ?_;refine dC [3] [] ?_;refine dQ [79] [64] iB ?_;refine dC [78] [] ?_;refine dC [81] [] ?_;refine dQ [82,80] [] (aw aa (fun K hk=>⟨by omega,by omega,hk⟩)) ?_;refine dQ [83] [0] (bc aa rfl rfl ⟨_,⟨rfl,_,hng,rfl⟩,rfl⟩ rfl) ?_;refine dC [0] [] ?_;refine dC [85] [] ?_;refine dC [86] [] ?_;refine dQ [87] [0] iM ?_;refine dC [3] [] ?_;refine dQ [89] [64] iB ?_;refine dC [5] [] ?_;refine dQ [77,84,88,90,91] [] iS ?_;refine fD [92] [] rfl (aC (s:=41) aa rfl rfl rfl rfl rfl rfl rfl rfl) ?_;refine jm [75,93] [1,784] rfl (aR (enc:=b8) (s:=41) (xs:=s.all) aa ⟨x.client,m,s.era,x.op,s.read,-1,zBk,0⟩ rfl rfl rfl rfl rfl rfl rfl rfl rfl hal rfl) ?_;refine dC [71] [] ?_;refine dC [95] [] ?_;refine bI [96,94] [0] (aD aa rfl rfl rfl ⟨_,⟨_,⟨rfl,rfl,rfl⟩,rfl⟩,rfl⟩ rfl) ?_;refine aB (by kernel_rfl)<|aM<|bk ?_;refine aE (by kernel_rfl) ?_;refine dC [0] [] ?_;refine dC [3] [] ?_;refine dQ [98] [64] iB ?_;refine dC [97] [] ?_;refine dC [100] [] ?_;refine dQ [101,99] [] (aw aa (fun K hk=>⟨by omega,by omega,hk⟩)) ?_;refine dQ [102] [0] (bc aa rfl rfl ⟨_,⟨rfl,_,hng,rfl⟩,rfl⟩ rfl) ?_;refine dQ [103] [] iD ?_;refine dC [97] [] ?_;refine dC [105] [] ?_;refine dQ [106,99] [] (aw aa (fun K hk=>⟨by omega,by omega,hk⟩)) ?_;refine bI [107,104] [0] (aD aa rfl rfl rfl ⟨_,⟨_,⟨_,⟨rfl,_,m+1,hng,⟨rfl,rfl,rfl⟩,rfl⟩,rfl⟩,rfl⟩,rfl⟩ rfl) ?_;refine aB (by kernel_rfl)<|aM ?_;refine aE (by kernel_rfl) ?_;refine dC [0] [] ?_;refine dC [3] [] ?_;refine dQ [109] [64] iB ?_;refine dC [0] [] ?_;refine dC [111] [] ?_;refine dC [112] [] ?_;refine dQ [113] [0] iM ?_;refine dQ [114] [792] (bP aa rfl rfl) ?_;refine dC [108] [] ?_;refine dC [116] [] ?_;refine dQ [117,110] [] (aw aa (fun K hk=>⟨by omega,by omega,hk⟩)) ?_;refine bI [118,115] [0] (aD aa rfl rfl rfl ⟨_,⟨_,⟨_,⟨rfl,_,((s.all.length+1:Nat):Int),hbg,⟨rfl,rfl,rfl⟩,rfl⟩,rfl⟩,rfl⟩,rfl⟩ rfl) ?_;refine aB (by kernel_rfl)<|zC<|sR ?_;refine rC<|zT ?_
 exact⟨trivial,[(64,some _)],lg zV ⟨zR,zR,trivial⟩⟩
theorem pB (s:RdS) (x:HEv) (n:Nat) (hs:s.Ok n) (hn:n≤1000000) (k1:x.kind=1) (hno:inv1 s x=false):g7 s x { s with read:=s.read+1 } false:=by
 have hr:=hs.read
 have d1:decide (x.kind=1)=true:=dT k1
 have hw:IntKind.i64.wrap (s.read+1)=s.read+1:=aO (by omega) (by omega)
 refine au aa Tryz.func17 rfl rfl rfl ?_;refine sR<|rN ?_;refine rC<|nR ?_;refine zU ?_;refine rQ iM ?_;refine rC<|nR ?_;refine zU ?_;refine rQ iM ?_;refine rQ iD ?_;refine zD ?_;refine bg (aD aa rfl rfl rfl ⟨_,⟨_,⟨rfl,rfl,rfl⟩,rfl⟩,rfl⟩ rfl)<|nR ?_;refine rC ?_;refine rQ iB ?_;refine zD ?_
 by_cases hc0:0≤x.client
 ·have c0:decide (0≤x.client)=true:=dT hc0
  refine rO ?_;refine rC ?_;refine rO ?_;refine rQ iB ?_;refine rO ?_;refine rC ?_;refine rQ iT ?_;refine rC<|nR ?_;refine rC ?_;refine rQ iB ?_;refine rQ (aV aa rfl rfl rfl) ?_;refine rQ (bD rfl rfl rfl rfl (by kernel_rfl) (by decide) (bq x.value zBk)) ?_;refine rC<|nQ<|zS ?_;refine rC ?_;refine rQ iB ?_;refine zD ?_;refine zI ?_;iterate 2 refine bk ?_
  refine aE (by kernel_rfl) ?_;refine dC [6] [] ?_;refine dC [37] [] ?_;refine dC [38] [] ?_
  by_cases hc8:x.client<8
  ·have c8:decide (x.client<8)=true:=dT hc8
   have n8:(!decide (x.client<8))=false:=by rw[c8]; rfl
   obtain⟨b,hbg⟩:∃b,s.busy[x.client.toNat]?=some b:=⟨_,List.getElem?_eq_getElem (by rw[hs.blen]; omega)⟩
   have hb:=hs.busy b (List.mem_of_getElem? hbg)
   refine ae [39,0] [] rfl rfl (by assumption) rfl (aw aa (fun K hk=>hk)) ?_;refine ae [39,3] [] rfl rfl (by assumption) rfl (aw aa (fun K hk=>hk)) ?_;refine ae [39,41] [64] rfl rfl (by assumption) rfl (bc aa rfl rfl ⟨_,rfl,rfl⟩ rfl) ?_;refine ae [39,40] [] rfl rfl (by assumption) rfl (aw aa (fun K hk=>hk)) ?_;refine ae [39,43] [] rfl rfl (by assumption) rfl (aw aa (fun K hk=>hk)) ?_;refine ae [39,44,42] [] rfl rfl (by assumption) rfl (aw aa (fun K hk=>⟨by omega,by omega,hk⟩)) ?_;refine ae [39,45] [0] rfl rfl (by assumption) rfl (bc aa rfl rfl ⟨_,⟨rfl,_,hbg,rfl⟩,rfl⟩ rfl) ?_;refine ae [39,46] [] rfl rfl (by assumption) rfl (aw aa (fun K hk=>hk)) ?_;refine dQ [39,47] [] iF ?_;refine dC [48] [] ?_
   by_cases hb0:b=0
   ·have b0:decide (0<b)=false:=dF (by omega)
    refine ae [49,3] [] rfl rfl (by assumption) rfl (aw aa (fun K hk=>hk)) ?_;refine ae [49,50] [] rfl rfl (by assumption) rfl (aw aa (fun K hk=>hk)) ?_;refine ae [49,51] [64] rfl rfl (by assumption) rfl (bc aa rfl rfl ⟨_,rfl,rfl⟩ rfl) ?_;refine ae [49,52] [] rfl rfl (by assumption) rfl (jY aa rfl rfl) ?_;refine ae [49,53] [] rfl rfl (by assumption) rfl (aw aa (fun K hk=>hk)) ?_;refine dQ [49,54] [] iF ?_;refine dC [55] [] ?_
    by_cases hd:x.op.data.length≤64
    ·have l64:decide ((64:Int)<((byI x.op.data).length:Int))=false:=dF (by rw[b6]; omega)
     refine ae [56,7] [] rfl rfl (by assumption) rfl (aw aa (fun K hk=>hk)) ?_;refine ae [56,57] [] rfl rfl (by assumption) rfl (aw aa (fun K hk=>hk)) ?_;refine dQ [56,58] [] iF ?_;refine dC [59] [] ?_
     by_cases hv:x.value=zBk
     ·have v0:(!decide (x.value=zBk))=false:=by rw[dT hv]; rfl
      have e0:(!decide (x.err=0))=true:=by
       skip
       cases h:decide (x.err=0) with
       | false=>rfl
       | true =>
        rw[inv1,c0,c8,hbg,hb0,dT hd,dT hv,h]at hno
        cases hno
      refine ae [60,3] [] rfl rfl (by assumption) rfl (aw aa (fun K hk=>hk)) ?_;refine ae [60,61] [64] rfl rfl (by assumption) rfl (bc aa rfl rfl ⟨_,rfl,rfl⟩ rfl) ?_;refine ae [60,62] [] rfl rfl (by assumption) rfl (aw aa (fun K hk=>hk)) ?_;refine dQ [60,63] [] iF ?_;refine aB (by kernel_rfl)<|aM ?_;refine wT<|sR ?_;refine rC<|zT<|aP<|zB ?_
      exact⟨trivial,[(64,some 1)],lg zV ⟨zR,zR,trivial⟩⟩
     ·have v0:(!decide (x.value=zBk))=true:=by rw[dF hv]; rfl
      refine ai [60,3] rfl rfl (by assumption) rfl ?_;refine ai [60,61] rfl rfl (by assumption) rfl ?_;refine ai [60,62] rfl rfl (by assumption) rfl ?_;refine dQ [60,63] [] iT ?_;refine aB (by kernel_rfl)<|aM ?_;refine wV<|sR ?_;refine rC<|zT<|aP<|zB ?_
      exact⟨trivial,[(64,some 1)],lg zV ⟨zR,zR,trivial⟩⟩
    ·have l64:decide ((64:Int)<((byI x.op.data).length:Int))=true:=dT (by rw[b6]; omega)
     refine ai [56,7] rfl rfl (by assumption) rfl ?_;refine ai [56,57] rfl rfl (by assumption) rfl ?_;refine dQ [56,58] [] iT ?_;refine dC [59] [] ?_;refine ai [60,3] rfl rfl rfl rfl ?_;refine ai [60,61] rfl rfl rfl rfl ?_;refine ai [60,62] rfl rfl rfl rfl ?_;refine dQ [60,63] [] iU ?_;refine aB (by kernel_rfl)<|aM ?_;refine wV<|sR ?_;refine rC<|zT<|aP<|zB ?_
     exact⟨trivial,[(64,some 1)],lg zV ⟨zR,zR,trivial⟩⟩
   ·have b0:decide (0<b)=true:=dT (by omega)
    refine ai [49,3] rfl rfl (by assumption) rfl ?_;refine ai [49,50] rfl rfl (by assumption) rfl ?_;refine ai [49,51] rfl rfl (by assumption) rfl ?_;refine ai [49,52] rfl rfl (by assumption) rfl ?_;refine ai [49,53] rfl rfl (by assumption) rfl ?_;refine dQ [49,54] [] iT ?_;refine dC [55] [] ?_;refine ai [56,7] rfl rfl rfl rfl ?_;refine ai [56,57] rfl rfl rfl rfl ?_;refine dQ [56,58] [] iU ?_;refine dC [59] [] ?_;refine ai [60,3] rfl rfl rfl rfl ?_;refine ai [60,61] rfl rfl rfl rfl ?_;refine ai [60,62] rfl rfl rfl rfl ?_;refine dQ [60,63] [] iU ?_;refine aB (by kernel_rfl)<|aM ?_;refine wV<|sR ?_;refine rC<|zT<|aP<|zB ?_
    exact⟨trivial,[(64,some 1)],lg zV ⟨zR,zR,trivial⟩⟩
  ·have c8:decide (x.client<8)=false:=dF hc8
   have n8:(!decide (x.client<8))=true:=by rw[c8]; rfl
   refine ai [39,0] rfl rfl (by assumption) rfl ?_;refine ai [39,3] rfl rfl (by assumption) rfl ?_;refine ai [39,41] rfl rfl (by assumption) rfl ?_;refine ai [39,40] rfl rfl (by assumption) rfl ?_;refine ai [39,43] rfl rfl (by assumption) rfl ?_;refine ai [39,44,42] rfl rfl (by assumption) rfl ?_;refine ai [39,45] rfl rfl (by assumption) rfl ?_;refine ai [39,46] rfl rfl (by assumption) rfl ?_;refine dQ [39,47] [] iT ?_;refine dC [48] [] ?_;refine ai [49,3] rfl rfl rfl rfl ?_;refine ai [49,50] rfl rfl rfl rfl ?_;refine ai [49,51] rfl rfl rfl rfl ?_;refine ai [49,52] rfl rfl rfl rfl ?_;refine ai [49,53] rfl rfl rfl rfl ?_;refine dQ [49,54] [] iU ?_;refine dC [55] [] ?_;refine ai [56,7] rfl rfl rfl rfl ?_;refine ai [56,57] rfl rfl rfl rfl ?_;refine dQ [56,58] [] iU ?_;refine dC [59] [] ?_;refine ai [60,3] rfl rfl rfl rfl ?_;refine ai [60,61] rfl rfl rfl rfl ?_;refine ai [60,62] rfl rfl rfl rfl ?_;refine dQ [60,63] [] iU ?_;refine aB (by kernel_rfl)<|aM ?_;refine wV<|sR ?_;refine rC<|zT<|aP<|zB ?_
   exact⟨trivial,[(64,some 1)],lg zV ⟨zR,zR,trivial⟩⟩
 ·have c0:decide (0≤x.client)=false:=dF hc0
  iterate 3 refine rS ?_
  refine rQ iF ?_;refine rC<|nR ?_;refine rC ?_;refine rQ iB ?_;refine rQ (aV aa rfl rfl rfl) ?_;refine rQ (bD rfl rfl rfl rfl (by kernel_rfl) (by decide) (bq x.value zBk)) ?_;refine rC<|nQ<|zS ?_;refine rC ?_;refine rQ iB ?_;refine zD ?_;refine zI ?_;iterate 2 refine bk ?_
  refine aE (by kernel_rfl) ?_;refine dC [6] [] ?_;refine dC [37] [] ?_;refine dC [38] [] ?_;refine ai [39,0] rfl rfl rfl rfl ?_;refine ai [39,3] rfl rfl rfl rfl ?_;refine ai [39,41] rfl rfl rfl rfl ?_;refine ai [39,40] rfl rfl rfl rfl ?_;refine ai [39,43] rfl rfl rfl rfl ?_;refine ai [39,44,42] rfl rfl rfl rfl ?_;refine ai [39,45] rfl rfl rfl rfl ?_;refine ai [39,46] rfl rfl rfl rfl ?_;refine dQ [39,47] [] iU ?_;refine dC [48] [] ?_;refine ai [49,3] rfl rfl rfl rfl ?_;refine ai [49,50] rfl rfl rfl rfl ?_;refine ai [49,51] rfl rfl rfl rfl ?_;refine ai [49,52] rfl rfl rfl rfl ?_;refine ai [49,53] rfl rfl rfl rfl ?_;refine dQ [49,54] [] iU ?_;refine dC [55] [] ?_;refine ai [56,7] rfl rfl rfl rfl ?_;refine ai [56,57] rfl rfl rfl rfl ?_;refine dQ [56,58] [] iU ?_;refine dC [59] [] ?_;refine ai [60,3] rfl rfl rfl rfl ?_;refine ai [60,61] rfl rfl rfl rfl ?_;refine ai [60,62] rfl rfl rfl rfl ?_;refine dQ [60,63] [] iU ?_;refine aB (by kernel_rfl)<|aM ?_;refine wV<|sR ?_;refine rC<|zT<|aP<|zB ?_
  exact⟨trivial,[(64,some 1)],lg zV ⟨zR,zR,trivial⟩⟩
theorem l7 (e:Int):([0,1,8,9]:List Int).any (fun y=>decide (e=y))=kn4 e:=by simp[kn4,Bool.or_assoc]
theorem q5 (s:RdS) (x:HEv) (n:Nat) (hs:s.Ok n) (hn:n≤1000000) (k2:x.kind=2) (b:Int) (o:HOp) (hc0:0≤x.client) (hc8:x.client<8) (hbg:s.busy[x.client.toNat]?=some b) (hb0:b≠0) (hog:s.all[(b-1).toNat]?=some o) (hz:x.op=zOp) (c1 c2 c3:Bool) (h1:(!([0,1,8,9]:List Int).any (fun y=>decide (x.err=y)))=c1) (h2:(!decide (x.value=zBk))=c2) (h3:(!decide (o.op.kind=1))=c3) (h4:(c1||c2&&(c3 || !decide (x.err=0)))=false) :
  g7 s x ⟨s.busy.set x.client.toNat 0,s.number,s.era,s.read+1,s.all.set (b-1).toNat { o with returned:=s.read,value:=x.value,err:=x.err }⟩ true:=by
 have hr:=hs.read
 have ha:=hs.all
 have hb:=hs.busy b (List.mem_of_getElem? hbg)
 have d1:decide (x.kind=1)=false:=dF (by omega)
 have d2:decide (x.kind=2)=true:=dT k2
 have c0:decide (0≤x.client)=true:=dT hc0
 have c8:decide (x.client<8)=true:=dT hc8
 have n8:(!decide (x.client<8))=false:=by rw[c8]; rfl
 have b0:decide (b=0)=false:=dF hb0
 have z0:(!decide (x.op=zOp))=false:=by rw[dT hz]; rfl
 have hw:IntKind.i64.wrap (s.read+1)=s.read+1:=aO (by omega) (by omega)
 have hwb:IntKind.i64.wrap (b-1)=b-1:=aO (by omega) (by omega)
 have hlt:b-1<(s.all.length:Int):=by omega
 have hge:0≤b-1:=by omega
 have hjl:=(List.getElem?_eq_some_iff.1 hog).1
 have hog1:(s.all.set (b-1).toNat { o with returned:=s.read })[(b-1).toNat]?=some { o with returned:=s.read }:=List.getElem?_set_self hjl
 have hog2:(s.all.set (b-1).toNat { o with returned:=s.read,value:=x.value })[(b-1).toNat]?=some { o with returned:=s.read,value:=x.value }:=List.getElem?_set_self hjl
 simp only[g7,cP,List.length_set]
 refine au aa Tryz.func17 rfl rfl rfl ?_;refine sR<|rN ?_;refine rC<|nR ?_;refine zU ?_;refine rQ iM ?_;refine rC<|nR ?_;refine zU ?_;refine rQ iM ?_;refine rQ iD ?_;refine zD ?_;refine bg (aD aa rfl rfl rfl ⟨_,⟨_,⟨rfl,rfl,rfl⟩,rfl⟩,rfl⟩ rfl)<|nR ?_;refine rC ?_;refine rQ iB ?_;refine zD ?_;refine rO ?_;refine rC ?_;refine rO ?_;refine rQ iB ?_;refine rO ?_;refine rC ?_;refine rQ iT ?_;refine rC<|nR ?_;refine rC ?_;refine rQ iB ?_;refine rQ (aV aa rfl rfl rfl) ?_;refine rQ (bD rfl rfl rfl rfl (by kernel_rfl) (by decide) (bq x.value zBk)) ?_;refine rC<|nQ<|zS ?_;refine rC ?_;refine rQ iB ?_;refine zD ?_;refine zG<|sR ?_;refine rC ?_;refine rQ iB ?_;refine zD ?_;refine zI ?_;iterate 2 refine bk ?_
 refine aE (by kernel_rfl) ?_;refine dC [6] [] ?_;refine dC [123] [] ?_;refine dC [124] [] ?_;refine ae [125,0] [] rfl rfl (by assumption) rfl (aw aa (fun K hk=>hk)) ?_;refine ae [125,3] [] rfl rfl (by assumption) rfl (aw aa (fun K hk=>hk)) ?_;refine ae [125,127] [64] rfl rfl (by assumption) rfl (bc aa rfl rfl ⟨_,rfl,rfl⟩ rfl) ?_;refine ae [125,126] [] rfl rfl (by assumption) rfl (aw aa (fun K hk=>hk)) ?_;refine ae [125,129] [] rfl rfl (by assumption) rfl (aw aa (fun K hk=>hk)) ?_;refine ae [125,130,128] [] rfl rfl (by assumption) rfl (aw aa (fun K hk=>⟨by omega,by omega,hk⟩)) ?_;refine ae [125,131] [0] rfl rfl (by assumption) rfl (bc aa rfl rfl ⟨_,⟨rfl,_,hbg,rfl⟩,rfl⟩ rfl) ?_;refine ae [125,132] [] rfl rfl (by assumption) rfl (aw aa (fun K hk=>hk)) ?_;refine dQ [125,133] [] iF ?_;refine dC [134] [] ?_;refine ae [135,3] [] rfl rfl (by assumption) rfl (aw aa (fun K hk=>hk)) ?_;refine ae [135,136] [64] rfl rfl (by assumption) rfl (bc aa rfl rfl ⟨_,rfl,rfl⟩ rfl) ?_;refine ae [135,137] [] rfl rfl (by assumption) rfl (ak (gx x.op) rfl rfl (aj ab) (.inl rfl) (fun _=>rfl)) ?_;refine ae [135,138] [] rfl rfl (by assumption) rfl (aw aa (fun K hk=>hk)) ?_;refine dQ [135,139] [] iF ?_;refine aB (by kernel_rfl)<|aM ?_;refine wF<|zQ ?_;refine aE (by kernel_rfl) ?_;refine dC [0] [] ?_;refine dC [141] [] ?_;refine dC [142] [] ?_;refine dQ [143] [0] iM ?_;refine dC [0] [] ?_;refine dC [3] [] ?_;refine dQ [146] [64] iB ?_;refine dC [145] [] ?_;refine dC [148] [] ?_;refine dQ [149,147] [] (aw aa (fun K hk=>⟨by omega,by omega,hk⟩)) ?_;refine dQ [150] [0] (bc aa rfl rfl ⟨_,⟨rfl,_,hbg,rfl⟩,rfl⟩ rfl) ?_;refine dQ [151] [] (cH aa rfl rfl hwb) ?_;refine dQ [144,152] [] (br aa rfl rfl rfl rfl rfl (by omega) (by omega)) ?_;refine dC [153] [] ?_;refine aB (by kernel_rfl)<|aM<|sR ?_;refine rQ (an.frozen (aC (s:=1) aa rfl rfl rfl rfl rfl rfl rfl rfl) (Frz.litsN (enc:=i6) [0,1,8,9] rfl (fun _ _=>rfl))) ?_;refine rC ?_;refine rQ iB ?_;refine rQ (ak (o5 x.err [0,1,8,9] (by decide)) rfl rfl (aj (aj ab)) (.inl rfl) (fun _=>rfl)) ?_;refine rC<|zW ?_;refine zU ?_
 cases c1 with
 | true=>cases h4
 | false =>
  refine rO ?_;refine rC ?_;refine rO ?_;refine rC ?_;refine rO ?_;refine rC ?_
  cases c2 with
  | false =>
   iterate 7 refine rS ?_
   iterate 3 refine rU ?_
   refine rS ?_;refine rO ?_;iterate 2 refine rQ iF ?_
   refine zJ<|zQ ?_;refine aE (by kernel_rfl) ?_;iterate 3 refine dC [8] [] ?_
   refine dC [5] [] ?_;refine dC [3] [] ?_;refine dQ [181] [64] iB ?_;refine dC [3] [] ?_;refine dQ [183] [64] iB ?_;refine dC [177] [] ?_;refine dC [185] [] ?_;refine bI [186,180] [1] (aD (row':=dA (s.all.set (b-1).toNat { o with returned:=s.read })) aa rfl rfl rfl ⟨rfl,o, { o with returned:=s.read },hog,⟨_,⟨rfl,rfl,rfl⟩,rfl⟩,rfl⟩ rfl) ?_;refine dC [178] [] ?_;refine dC [187] [] ?_;refine bI [188,182] [1] (aD (row':=dA (s.all.set (b-1).toNat { o with returned:=s.read,value:=x.value })) aa rfl rfl rfl ⟨rfl,_, { o with returned:=s.read,value:=x.value },hog1,⟨_,⟨rfl,rfl,rfl⟩,rfl⟩,(by rw[List.set_set])⟩ rfl) ?_;refine dC [179] [] ?_;refine dC [189] [] ?_;refine bI [190,184] [1] (aD (row':=dA (s.all.set (b-1).toNat { o with returned:=s.read,value:=x.value,err:=x.err })) aa rfl rfl rfl ⟨rfl,_, { o with returned:=s.read,value:=x.value,err:=x.err },hog2,⟨_,⟨rfl,rfl,rfl⟩,rfl⟩,(by rw[List.set_set])⟩ rfl) ?_;refine aB (by kernel_rfl)<|aM ?_;refine aE (by kernel_rfl) ?_;refine dC [0] [] ?_;refine dC [3] [] ?_;refine dQ [192] [64] iB ?_;refine dC [191] [] ?_;refine dC [194] [] ?_;refine dQ [195,193] [] (aw aa (fun K hk=>⟨by omega,by omega,hk⟩)) ?_;refine bI [196] [0] (aD aa rfl rfl rfl ⟨_,⟨_,⟨_,⟨rfl,_,0,hbg,⟨rfl,rfl,rfl⟩,rfl⟩,rfl⟩,rfl⟩,rfl⟩ rfl) ?_;refine aB (by kernel_rfl)<|zC<|sR ?_;refine rC<|zT ?_
   exact⟨trivial,[(64,some 1)],lg zV ⟨zR,zR,trivial⟩⟩
  | true =>
   refine rO ?_;refine rC ?_;refine rO ?_;refine rC ?_;refine rO ?_;refine rC ?_;refine rO ?_;refine rC ?_;refine rO ?_;refine rQ (bU aa rfl rfl ⟨rfl,o,hog,_,rfl,rfl⟩ rfl) ?_;refine rO ?_;refine rC ?_;refine rO ?_;refine rC ?_
   cases c3 with
   | true=>cases h4
   | false =>
    have e0:(!decide (x.err=0))=false:=h4
    refine rO ?_;refine rC ?_;refine rO ?_;refine rQ iB ?_;refine rO ?_;refine rC ?_;refine rO ?_;refine rQ iF ?_;refine rO ?_;refine rQ iT ?_;refine rQ iF<|nS ?_;refine wF<|zQ ?_;refine aE (by kernel_rfl) ?_;iterate 3 refine dC [8] [] ?_
    refine dC [5] [] ?_;refine dC [3] [] ?_;refine dQ [181] [64] iB ?_;refine dC [3] [] ?_;refine dQ [183] [64] iB ?_;refine dC [177] [] ?_;refine dC [185] [] ?_;refine bI [186,180] [1] (aD (row':=dA (s.all.set (b-1).toNat { o with returned:=s.read })) aa rfl rfl rfl ⟨rfl,o, { o with returned:=s.read },hog,⟨_,⟨rfl,rfl,rfl⟩,rfl⟩,rfl⟩ rfl) ?_;refine dC [178] [] ?_;refine dC [187] [] ?_;refine bI [188,182] [1] (aD (row':=dA (s.all.set (b-1).toNat { o with returned:=s.read,value:=x.value })) aa rfl rfl rfl ⟨rfl,_, { o with returned:=s.read,value:=x.value },hog1,⟨_,⟨rfl,rfl,rfl⟩,rfl⟩,(by rw[List.set_set])⟩ rfl) ?_;refine dC [179] [] ?_;refine dC [189] [] ?_;refine bI [190,184] [1] (aD (row':=dA (s.all.set (b-1).toNat { o with returned:=s.read,value:=x.value,err:=x.err })) aa rfl rfl rfl ⟨rfl,_, { o with returned:=s.read,value:=x.value,err:=x.err },hog2,⟨_,⟨rfl,rfl,rfl⟩,rfl⟩,(by rw[List.set_set])⟩ rfl) ?_;refine aB (by kernel_rfl)<|aM ?_;refine aE (by kernel_rfl) ?_;refine dC [0] [] ?_;refine dC [3] [] ?_;refine dQ [192] [64] iB ?_;refine dC [191] [] ?_;refine dC [194] [] ?_;refine dQ [195,193] [] (aw aa (fun K hk=>⟨by omega,by omega,hk⟩)) ?_;refine bI [196] [0] (aD aa rfl rfl rfl ⟨_,⟨_,⟨_,⟨rfl,_,0,hbg,⟨rfl,rfl,rfl⟩,rfl⟩,rfl⟩,rfl⟩,rfl⟩ rfl) ?_;refine aB (by kernel_rfl)<|zC<|sR ?_;refine rC<|zT ?_
    exact⟨trivial,[(64,some 1)],lg zV ⟨zR,zR,trivial⟩⟩
theorem pz (s:RdS) (x:HEv) (n:Nat) (hs:s.Ok n) (hn:n≤1000000) (k2:x.kind=2) (hno:ret1 s x=false):g7 s x { s with read:=s.read+1 } false:=by
 have hr:=hs.read
 have ha:=hs.all
 have d1:decide (x.kind=1)=false:=dF (by omega)
 have d2:decide (x.kind=2)=true:=dT k2
 have hw:IntKind.i64.wrap (s.read+1)=s.read+1:=aO (by omega) (by omega)
 refine au aa Tryz.func17 rfl rfl rfl ?_;refine sR<|rN ?_;refine rC<|nR ?_;refine zU ?_;refine rQ iM ?_;refine rC<|nR ?_;refine zU ?_;refine rQ iM ?_;refine rQ iD ?_;refine zD ?_;refine bg (aD aa rfl rfl rfl ⟨_,⟨_,⟨rfl,rfl,rfl⟩,rfl⟩,rfl⟩ rfl)<|nR ?_;refine rC ?_;refine rQ iB ?_;refine zD ?_
 by_cases hc0:0≤x.client
 ·have c0:decide (0≤x.client)=true:=dT hc0
  refine rO ?_;refine rC ?_;refine rO ?_;refine rQ iB ?_;refine rO ?_;refine rC ?_;refine rQ iT ?_;refine rC<|nR ?_;refine rC ?_;refine rQ iB ?_;refine rQ (aV aa rfl rfl rfl) ?_;refine rQ (bD rfl rfl rfl rfl (by kernel_rfl) (by decide) (bq x.value zBk)) ?_;refine rC<|nQ<|zS ?_;refine rC ?_;refine rQ iB ?_;refine zD ?_;refine zG<|sR ?_;refine rC ?_;refine rQ iB ?_;refine zD ?_;refine zI ?_;iterate 2 refine bk ?_
  refine aE (by kernel_rfl) ?_;refine dC [6] [] ?_;refine dC [123] [] ?_;refine dC [124] [] ?_
  by_cases hc8:x.client<8
  ·have c8:decide (x.client<8)=true:=dT hc8
   have n8:(!decide (x.client<8))=false:=by rw[c8]; rfl
   obtain⟨b,hbg⟩:∃b,s.busy[x.client.toNat]?=some b:=⟨_,List.getElem?_eq_getElem (by rw[hs.blen]; omega)⟩
   have hb:=hs.busy b (List.mem_of_getElem? hbg)
   refine ae [125,0] [] rfl rfl (by assumption) rfl (aw aa (fun K hk=>hk)) ?_;refine ae [125,3] [] rfl rfl (by assumption) rfl (aw aa (fun K hk=>hk)) ?_;refine ae [125,127] [64] rfl rfl (by assumption) rfl (bc aa rfl rfl ⟨_,rfl,rfl⟩ rfl) ?_;refine ae [125,126] [] rfl rfl (by assumption) rfl (aw aa (fun K hk=>hk)) ?_;refine ae [125,129] [] rfl rfl (by assumption) rfl (aw aa (fun K hk=>hk)) ?_;refine ae [125,130,128] [] rfl rfl (by assumption) rfl (aw aa (fun K hk=>⟨by omega,by omega,hk⟩)) ?_;refine ae [125,131] [0] rfl rfl (by assumption) rfl (bc aa rfl rfl ⟨_,⟨rfl,_,hbg,rfl⟩,rfl⟩ rfl) ?_;refine ae [125,132] [] rfl rfl (by assumption) rfl (aw aa (fun K hk=>hk)) ?_;refine dQ [125,133] [] iF ?_;refine dC [134] [] ?_
   by_cases hb0:b=0
   ·have b0:decide (b=0)=true:=dT hb0
    refine ai [135,3] rfl rfl (by assumption) rfl ?_;refine ai [135,136] rfl rfl (by assumption) rfl ?_;refine ai [135,137] rfl rfl (by assumption) rfl ?_;refine ai [135,138] rfl rfl (by assumption) rfl ?_;refine dQ [135,139] [] iT ?_;refine aB (by kernel_rfl)<|aM ?_;refine wV<|sR ?_;refine rC<|zT<|aP<|zB ?_
    exact⟨trivial,[(64,some 1)],lg zV ⟨zR,zR,trivial⟩⟩
   ·have b0:decide (b=0)=false:=dF hb0
    refine ae [135,3] [] rfl rfl (by assumption) rfl (aw aa (fun K hk=>hk)) ?_;refine ae [135,136] [64] rfl rfl (by assumption) rfl (bc aa rfl rfl ⟨_,rfl,rfl⟩ rfl) ?_;refine ae [135,137] [] rfl rfl (by assumption) rfl (ak (gx x.op) rfl rfl (aj ab) (.inl rfl) (fun _=>rfl)) ?_;refine ae [135,138] [] rfl rfl (by assumption) rfl (aw aa (fun K hk=>hk)) ?_;refine dQ [135,139] [] iF ?_;refine aB (by kernel_rfl)<|aM ?_
    by_cases hz:x.op=zOp
    ·have z0:(!decide (x.op=zOp))=false:=by rw[dT hz]; rfl
     have hwb:IntKind.i64.wrap (b-1)=b-1:=aO (by omega) (by omega)
     have hlt:b-1<(s.all.length:Int):=by omega
     have hge:0≤b-1:=by omega
     obtain⟨o,hog⟩:∃o,s.all[(b-1).toNat]?=some o:=⟨_,List.getElem?_eq_getElem (by omega)⟩
     obtain⟨c1,h1⟩:∃c,(!([0,1,8,9]:List Int).any (fun y=>decide (x.err=y)))=c:=⟨_,rfl⟩
     obtain⟨c2,h2⟩:∃c,(!decide (x.value=zBk))=c:=⟨_,rfl⟩
     obtain⟨c3,h3⟩:∃c,(!decide (o.op.kind=1))=c:=⟨_,rfl⟩
     obtain⟨c4,h4⟩:∃c,(!decide (x.err=0))=c:=⟨_,rfl⟩
     have hc:(c1||c2&&(c3||c4))=true:=by
      have hkn:kn4 x.err = !c1:=by rw[←h1,←l7,Bool.not_not]
      have hv2:decide (x.value=zBk) = !c2:=by rw[←h2,Bool.not_not]
      have hk3:decide (o.op.kind=1) = !c3:=by rw[←h3,Bool.not_not]
      have he4:decide (x.err=0) = !c4:=by rw[←h4,Bool.not_not]
      have hb':decide (some b=some (0:Int))=false:=dF (by simpa using hb0)
      have ho:opOf s x=some o:=by rw[opOf,hbg]; exact hog
      rw[ret1,c0,c8,hbg,hb',dT hz,hkn,hv2,ho]at hno
      simp only[hk3,he4]at hno
      revert hno
      cases c1 <;> cases c2 <;> cases c3 <;> cases c4 <;> decide
     refine wF<|zQ ?_;refine aE (by kernel_rfl) ?_;refine dC [0] [] ?_;refine dC [141] [] ?_;refine dC [142] [] ?_;refine dQ [143] [0] iM ?_;refine dC [0] [] ?_;refine dC [3] [] ?_;refine dQ [146] [64] iB ?_;refine dC [145] [] ?_;refine dC [148] [] ?_;refine dQ [149,147] [] (aw aa (fun K hk=>⟨by omega,by omega,hk⟩)) ?_;refine dQ [150] [0] (bc aa rfl rfl ⟨_,⟨rfl,_,hbg,rfl⟩,rfl⟩ rfl) ?_;refine dQ [151] [] (cH aa rfl rfl hwb) ?_;refine dQ [144,152] [] (br aa rfl rfl rfl rfl rfl (by omega) (by omega)) ?_;refine dC [153] [] ?_;refine aB (by kernel_rfl)<|aM<|sR ?_;refine rQ (an.frozen (aC (s:=1) aa rfl rfl rfl rfl rfl rfl rfl rfl) (Frz.litsN (enc:=i6) [0,1,8,9] rfl (fun _ _=>rfl))) ?_;refine rC ?_;refine rQ iB ?_;refine rQ (ak (o5 x.err [0,1,8,9] (by decide)) rfl rfl (aj (aj ab)) (.inl rfl) (fun _=>rfl)) ?_;refine rC<|zW ?_;refine zU ?_
     cases c1 with
     | true =>
      iterate 3 refine rS ?_
      iterate 11 refine rU ?_
      refine rS ?_;refine rQ iT ?_;refine zO<|sR ?_;refine rC<|zT<|aP<|zB ?_
      exact⟨trivial,[(64,some 1)],lg zV ⟨zR,zR,trivial⟩⟩
     | false =>
      refine rO ?_;refine rC ?_;refine rO ?_;refine rC ?_;refine rO ?_;refine rC ?_
      cases c2 with
      | false=>cases hc
      | true =>
       refine rO ?_;refine rC ?_;refine rO ?_;refine rC ?_;refine rO ?_;refine rC ?_;refine rO ?_;refine rC ?_;refine rO ?_;refine rQ (bU aa rfl rfl ⟨rfl,o,hog,_,rfl,rfl⟩ rfl) ?_;refine rO ?_;refine rC ?_;refine rO ?_;refine rC ?_
       cases c3 with
       | true =>
        iterate 3 refine rS ?_
        refine rO ?_;refine rQ iT ?_;refine rO ?_;refine rQ iT ?_;refine rQ iF ?_;refine zO<|sR ?_;refine rC<|zT<|aP<|zB ?_
        exact⟨trivial,[(64,some 1)],lg zV ⟨zR,zR,trivial⟩⟩
       | false =>
        refine rO ?_;refine rC ?_;refine rO ?_;refine rQ iB ?_;refine rO ?_;refine rC ?_;refine rO ?_;refine rQ iF ?_;refine rO ?_;refine rQ iT ?_;refine rQ iF<|nS ?_
        cases c4 with
        | false=>cases hc
        | true =>
         refine wT<|sR ?_;refine rC<|zT<|aP<|zB ?_
         exact⟨trivial,[(64,some 1)],lg zV ⟨zR,zR,trivial⟩⟩
    ·have z0:(!decide (x.op=zOp))=true:=by rw[dF hz]; rfl
     refine wT<|sR ?_;refine rC<|zT<|aP<|zB ?_
     exact⟨trivial,[(64,some 1)],lg zV ⟨zR,zR,trivial⟩⟩
  ·have c8:decide (x.client<8)=false:=dF hc8
   have n8:(!decide (x.client<8))=true:=by rw[c8]; rfl
   refine ai [125,0] rfl rfl (by assumption) rfl ?_;refine ai [125,3] rfl rfl (by assumption) rfl ?_;refine ai [125,127] rfl rfl (by assumption) rfl ?_;refine ai [125,126] rfl rfl (by assumption) rfl ?_;refine ai [125,129] rfl rfl (by assumption) rfl ?_;refine ai [125,130,128] rfl rfl (by assumption) rfl ?_;refine ai [125,131] rfl rfl (by assumption) rfl ?_;refine ai [125,132] rfl rfl (by assumption) rfl ?_;refine dQ [125,133] [] iT ?_;refine dC [134] [] ?_;refine ai [135,3] rfl rfl rfl rfl ?_;refine ai [135,136] rfl rfl rfl rfl ?_;refine ai [135,137] rfl rfl rfl rfl ?_;refine ai [135,138] rfl rfl rfl rfl ?_;refine dQ [135,139] [] iU ?_;refine aB (by kernel_rfl)<|aM ?_;refine wV<|sR ?_;refine rC<|zT<|aP<|zB ?_
   exact⟨trivial,[(64,some 1)],lg zV ⟨zR,zR,trivial⟩⟩
 ·have c0:decide (0≤x.client)=false:=dF hc0
  iterate 3 refine rS ?_
  refine rQ iF ?_;refine rC<|nR ?_;refine rC ?_;refine rQ iB ?_;refine rQ (aV aa rfl rfl rfl) ?_;refine rQ (bD rfl rfl rfl rfl (by kernel_rfl) (by decide) (bq x.value zBk)) ?_;refine rC<|nQ<|zS ?_;refine rC ?_;refine rQ iB ?_;refine zD ?_;refine zG<|sR ?_;refine rC ?_;refine rQ iB ?_;refine zD ?_;refine zI ?_;iterate 2 refine bk ?_
  refine aE (by kernel_rfl) ?_;refine dC [6] [] ?_;refine dC [123] [] ?_;refine dC [124] [] ?_;refine ai [125,0] rfl rfl rfl rfl ?_;refine ai [125,3] rfl rfl rfl rfl ?_;refine ai [125,127] rfl rfl rfl rfl ?_;refine ai [125,126] rfl rfl rfl rfl ?_;refine ai [125,129] rfl rfl rfl rfl ?_;refine ai [125,130,128] rfl rfl rfl rfl ?_;refine ai [125,131] rfl rfl rfl rfl ?_;refine ai [125,132] rfl rfl rfl rfl ?_;refine dQ [125,133] [] iU ?_;refine dC [134] [] ?_;refine ai [135,3] rfl rfl rfl rfl ?_;refine ai [135,136] rfl rfl rfl rfl ?_;refine ai [135,137] rfl rfl rfl rfl ?_;refine ai [135,138] rfl rfl rfl rfl ?_;refine dQ [135,139] [] iU ?_;refine aB (by kernel_rfl)<|aM ?_;refine wV<|sR ?_;refine rC<|zT<|aP<|zB ?_
  exact⟨trivial,[(64,some 1)],lg zV ⟨zR,zR,trivial⟩⟩
theorem oy (s:RdS) (x:HEv) (n:Nat) (hs:s.Ok n) (hn:n≤1000000):g7 s x (ba s x).1 (ba s x).2:=by
 by_cases k1:x.kind=1
 ·cases hi:inv1 s x with
  | false =>
   have h:=pB s x n hs hn k1 hi
   have e:ba s x=({ s with read:=s.read+1 },false):=by simp[ba,k1,hi]
   rw[e]; exact h
  | true =>
   have hi':=hi
   simp only[inv1,Bool.and_eq_true,decide_eq_true_eq]at hi'
   obtain⟨⟨⟨⟨⟨h1,h2⟩,h3⟩,h4⟩,h5⟩,h6⟩:=hi'
   obtain⟨m,hm⟩:∃m,s.number[x.client.toNat]?=some m:=⟨_,List.getElem?_eq_getElem (by rw[hs.nlen]; omega)⟩
   have h:=vw s x n hs hn k1 m h1 h2 h3 hm h4 h5 h6
   have e:ba s x=(⟨s.busy.set x.client.toNat ((s.all.length+1:Nat):Int),s.number.set x.client.toNat (m+1),s.era,s.read+1,s.all++[⟨x.client,m,s.era,x.op,s.read,-1,zBk,0⟩]⟩,true):=by
    simp[ba,k1,hi,hm]
   rw[e]; exact h
 ·by_cases k2:x.kind=2
  ·cases hi:ret1 s x with
   | false =>
    have h:=pz s x n hs hn k2 hi
    have e:ba s x=({ s with read:=s.read+1 },false):=by simp[ba,k2,hi]
    rw[e]; exact h
   | true =>
    have hi':=hi
    simp only[ret1,Bool.and_eq_true,decide_eq_true_eq]at hi'
    obtain⟨⟨⟨⟨⟨h1,h2⟩,h3⟩,h4⟩,h5⟩,h6⟩:=hi'
    obtain⟨b,hbg⟩:∃b,s.busy[x.client.toNat]?=some b:=⟨_,List.getElem?_eq_getElem (by rw[hs.blen]; omega)⟩
    have hb:=hs.busy b (List.mem_of_getElem? hbg)
    have hb0:b≠0:=by rw[hbg]at h3; simpa using h3
    obtain⟨o,hog⟩:∃o,s.all[(b-1).toNat]?=some o:=⟨_,List.getElem?_eq_getElem (by omega)⟩
    have ho:opOf s x=some o:=by rw[opOf,hbg]; exact hog
    rw[ho]at h6
    have h:=q5 s x n hs hn k2 b o h1 h2 hbg hb0 hog h4 _ _ _ rfl rfl rfl (by
     rw[l7,h5]
     simp only at h6
     revert h6
     cases decide (x.value=zBk) <;> cases decide (o.op.kind=1) <;> cases decide (x.err=0) <;> decide)
    have e:ba s x=(⟨s.busy.set x.client.toNat 0,s.number,s.era,s.read+1,s.all.set (b-1).toNat { o with returned:=s.read,value:=x.value,err:=x.err }⟩,true):=by
     simp[ba,k2,hi,ho,hbg]
    rw[e]; exact h
  ·by_cases k3:x.kind=3
   ·have h:=ra s x n hs hn k3 _ _ _ _ rfl rfl rfl rfl
    have e:ba s x=(⟨cu,s.number,s.era+1,s.read+1,s.all⟩,gX x):=by simp[ba,k3]
    rw[e]; exact h
   ·have h:=q6 s x n hs hn k1 k2 k3 _ rfl
    have e:ba s x=({ s with read:=s.read+1 },false):=by simp[ba,k1,k2,k3]
    rw[e]; exact h
abbrev fnT (r:Nat):AV :=.fn (.func 17) (.acons (.ptr r []) .anil) .anil
abbrev fnF (r:Nat):AV :=.fn (.func 82) .anil (.acons (.ptr r []) .anil)
def goS:RdS→List HEv→Nat→RdS×Int
 | s,[],_=>(s,-1)
 | s,x::l,i=>if (ba s x).2 then goS (ba s x).1 l (i+1) else ((ba s x).1,(i:Int))
theorem uP (s:RdS) (x:HEv) (n:Nat) (hs:s.Ok n) (hn:n≤1000000):FnIs Tryz.prog 82 [.d (aY x),.ptr 0 []] [(0,.box 69 (fnT 1)),(1,cP s 2),(2,dA s.all)] (.bool (!(ba s x).2)) [(0,.box 69 (fnT 1)),(1,cP (ba s x).1 64),(64,dA (ba s x).1.all)]:=by
 refine au aa Tryz.func82 rfl rfl rfl ?_;refine sR<|rN ?_;refine rC<|nR ?_;iterate 2 refine rQ iM ?_
 refine bB rfl (o7 [(0,some 1),(1,some 2)] (oy s x n hs hn) rfl rfl rfl rfl (bC rfl rfl (aj ab)) ⟨zH,zH,trivial⟩ rfl rfl (.inl rfl) rfl rfl) rfl rfl ?_;refine zD<|zT ?_
 exact⟨trivial,[(64,some _)],lg zV ⟨zR,zR,zR,trivial⟩⟩
theorem it {s:RdS} {h:List HEv} {i:Nat} {x:HEv} (hx:h[i]?=some x):goS s (h.drop i) i=if (ba s x).2 then goS (ba s x).1 (h.drop (i+1)) (i+1) else ((ba s x).1,(i:Int)):=by
 have hlt:=(List.getElem?_eq_some_iff.1 hx).1
 rw[List.drop_eq_getElem_cons hlt,(List.getElem?_eq_some_iff.1 hx).2]
 rfl
theorem zL (h:List HEv) (hL:h.length≤1000000) (s0:RdS) (hs0:s0.Ok 0):FnIs Tryz.prog 81 [.d (encH h),fnF 0] [(0,.box 69 (fnT 1)),(1,cP s0 2),(2,dA s0.all)] (.int .i64 (goS s0 h 0).2) [(0,.box 69 (fnT 1)),(1,cP (goS s0 h 0).1 64),(64,dA (goS s0 h 0).1.all)]:=by
 refine au aa Tryz.func81 rfl rfl rfl ?_;refine sR<|rC<|zW ?_;refine rC ?_;refine rQ iE ?_;refine rC<|zP ?_
 refine wc_inv (fun q:RdS×Nat=>⟨[(8,.int .i64 q.2),(7,.int .i64 h.length),(1,fnF 0),(0,.d (encH h))],[(0,some (.box 69 (fnT 1))),(1,some (cP q.1 65)),(65,some (dA q.1.all))],72,Tryz.f81.ntmps,64⟩) (fun q=>q.2≤h.length∧q.1.Ok q.2∧goS q.1 (h.drop q.2) q.2=goS s0 h 0) (fun q=>h.length-q.2) (s0,0) [(65,some 2)] ⟨Nat.zero_le _,hs0,rfl⟩
  (lg zi ⟨zR,zR,zR,trivial⟩) ?_
 rintro⟨s,i⟩ ⟨hi,hs,hgo⟩
 refine bG<|sR ?_;refine rC<|nQ ?_
 refine bO rfl (fun h2=>?_) (fun h2=>?_)
 ·have hlt:i<h.length:=by have:=of_decide_eq_true h2; omega
  obtain⟨x,hx⟩:∃u,h[i]?=some u:=⟨_,List.getElem?_eq_getElem hlt⟩
  have hx':h[((i:Int)).toNat]?=some x:=by rw[Int.toNat_natCast]; exact hx
  have hfst:=uP s x i hs (by omega)
  have hst:=it (s:=s) hx
  rw[hgo]at hst
  cases hb:(ba s x).2 with
  | false =>
   rw[hb]at hst hfst
   rw[hst]
   refine zQ<|zS<|zD<|nR ?_;refine zU ?_;refine rQ (aF aa rfl rfl rfl rfl rfl (by omega) hx') ?_;refine rQ iL ?_;refine bB rfl (bJ [(0,some 0),(1,some 1),(2,some 65)] hfst rfl rfl rfl (aj (bC rfl rfl ab)) ⟨zH,zH,zH,trivial⟩ rfl rfl (.inl rfl) rfl rfl) rfl rfl ?_;refine zO<|sR ?_;refine zD<|zT<|zB<|ce<|zB ?_
   exact⟨trivial,[(64,some _)],lg zV ⟨zR,zR,zR,trivial⟩⟩
  | true =>
   rw[hb]at hst hfst
   refine zQ<|zS<|zD<|nR ?_;refine zU ?_;refine rQ (aF aa rfl rfl rfl rfl rfl (by omega) hx') ?_;refine rQ iL ?_;refine bB rfl (bJ [(0,some 0),(1,some 1),(2,some 65)] hfst rfl rfl rfl (aj (bC rfl rfl ab)) ⟨zH,zH,zH,trivial⟩ rfl rfl (.inl rfl) rfl rfl) rfl rfl ?_;refine zJ<|aL<|zC<|am ?_;refine rQ iD ?_;refine rC<|aA ?_
   exact aN ((ba s x).1,i+1) [(65,some _)] ⟨hlt,hs.next x,hst.symm⟩ (by show h.length-(i+1)<h.length-i; omega) (lg zi ⟨zR,zR,zR,trivial⟩)
 ·have he:i=h.length:=by have:=of_decide_eq_false h2; omega
  subst he
  rw[List.drop_length]at hgo
  rw[←hgo]
  refine zX<|sR<|rC<|zT ?_
  exact⟨trivial,[(64,some _)],lg zV ⟨zR,zR,zR,trivial⟩⟩
theorem qs (h:List HEv) (hL:h.length≤1000000) (s0:RdS) (hs0:s0.Ok 0):FnIs Tryz.prog 49 [.d (encH h),fnT 0] [(0,cP s0 1),(1,dA s0.all)] (.int .i64 (goS s0 h 0).2) [(0,cP (goS s0 h 0).1 64),(64,dA (goS s0 h 0).1.all)]:=by
 refine au aa Tryz.func49 rfl rfl rfl ?_;refine sR<|rN ?_;refine rC<|nR ?_;refine zD ?_;refine bB rfl (bJ [(0,some 64),(1,some 0),(2,some 1)] (zL h hL s0 hs0) rfl rfl rfl (aj (tI rfl rfl ab)) ⟨zH,zH,zH,trivial⟩ rfl rfl (.inl rfl) rfl rfl) rfl rfl ?_;refine rC<|zT ?_
 exact⟨trivial,[(64,some _)],lg zV ⟨zR,zR,trivial⟩⟩
abbrev ch8:D :=.cons (.sc (.int .i64 0)) (.cons (.sc (.int .i64 0)) (.cons (.sc (.int .i64 0)) (.cons (.sc (.int .i64 0)) (.cons (.sc (.int .i64 0)) (.cons (.sc (.int .i64 0)) (.cons (.sc (.int .i64 0)) (.cons (.sc (.int .i64 0)) .nil)))))))
theorem xo:DLe ch8 (.vec 8 1 i6 cu):=by
 rintro w X cs ⟨a1,r1,rfl,⟨rfl,o1⟩,a2,r2,rfl,⟨rfl,_⟩,a3,r3,rfl,⟨rfl,_⟩,a4,r4,rfl,⟨rfl,_⟩,a5,r5,rfl,⟨rfl,_⟩,a6,r6,rfl,⟨rfl,_⟩,a7,r7,rfl,⟨rfl,_⟩,a8,r8,rfl,⟨rfl,_⟩,rfl⟩
 refine⟨rfl,fun _=>[.int .i64 0],fun i hi=>⟨?_,rfl⟩,rfl⟩
 have hz:∀b∈cu,b=0:=by decide
 rw[hz _ (List.getElem_mem hi)]
 exact⟨rfl,o1⟩
theorem oI:bj (.box 68 (.d (.cons ch8 (.cons ch8 (.cons (.sc (.int .i64 0)) (.cons (.sc (.int .i64 0)) (.cons (.sc (.slice none 0 0)) .nil)))))))
  (.box 68 (.acons (.d (.vec 8 1 i6 cu)) (.acons (.d (.vec 8 1 i6 cu)) (.acons (.d (i6 0)) (.acons (.d (i6 0)) (.acons (.d (.sc nil_)) .anil)))))):=by
 rintro σ w X r ⟨hf,b,cs,h1,h2,a1,r1,h3,h4,a2,r2,rfl,h5,a3,r3,rfl,h6,a4,r4,rfl,h7,a5,r5,rfl,h8,rfl⟩
 exact⟨rfl,b,cs,h1,h2,a1,_,h3,xo _ _ _ h4,a2,_,rfl,xo _ _ _ h5,a3,_,rfl,h6,a4,_,rfl,h7,a5,_,rfl,h8,rfl⟩
def rdH (h:List HEv):RdS:=if 8192<h.length then rd0 else (goS rd0 h 0).1
def chkH (h:List HEv):Int×Int:=if 8192<h.length then (0,3) else if 0≤(goS rd0 h 0).2 then ((goS rd0 h 0).2,18) else (0,0)
theorem sY (h:List HEv) (hh:h.length≤9223372036854775807):FnIs Tryz.prog 22 [.d (encH h)] [] (.tup (.acons (.ptr 64 []) (.acons (.int .i64 (chkH h).1) (.acons (.int .i64 (chkH h).2) .anil)))) [(64,cP (rdH h) 65),(65,dA (rdH h).all)]:=by
 unfold rdH chkH
 obtain⟨Z,hZ⟩:∃Z,decide ((8192:Int)<(h.length:Int))=Z:=⟨_,rfl⟩
 refine au aa Tryz.func22 rfl rfl rfl ?_;refine sR<|zU<|nR ?_;refine rQ iS ?_;refine rN ?_;refine rC<|nS ?_;refine lc (env':=[(2,.ptr 64 []),(0,.d (encH h))]) (h':=[(64,some (cP rd0 65)),(65,some (dA []))]) 72 [(64,some 96),(65,none)] (lg zk ⟨⟨rfl,rfl,_,rfl,oI⟩,⟨rfl,rfl,rfl⟩,trivial⟩) ?_
 cases Z with
 | true =>
  have h8:8192<h.length:=by have:=of_decide_eq_true hZ; omega
  rw[if_pos h8,if_pos h8]
  refine qR<|rC ?_;refine rQ iE ?_;refine rC ?_;refine zI<|sR ?_;iterate 4 refine rC ?_
  refine zT<|aP ?_
  exact⟨trivial,[(64,some _),(65,some _)],lg zV ⟨zR,zR,trivial⟩⟩
 | false =>
  have h8:¬8192<h.length:=by have:=of_decide_eq_false hZ; omega
  have hL:h.length≤1000000:=by omega
  rw[if_neg h8,if_neg h8]
  by_cases h0:0≤(goS rd0 h 0).2
  ·have d0:decide (0≤(goS rd0 h 0).2)=true:=dT h0
   rw[if_pos h0]
   refine qR<|rC ?_;refine rQ iE ?_;refine rC ?_;refine zG<|kS<|qR ?_;refine zU ?_;refine bB rfl (bJ [(0,some 64),(1,some 65)] (qs h hL rd0 gL) rfl rfl rfl (aj (ma rfl rfl ab)) ⟨zH,zH,trivial⟩ rfl rfl (.inl rfl) rfl rfl) rfl rfl ?_;refine rC<|nR ?_;refine zD ?_;refine zI<|sR ?_;iterate 5 refine rC ?_
   refine zT<|aP ?_
   exact⟨trivial,[(64,some _),(65,some _)],lg zV ⟨zR,zR,trivial⟩⟩
  ·have d0:decide (0≤(goS rd0 h 0).2)=false:=dF h0
   rw[if_neg h0]
   refine qR<|rC ?_;refine rQ iE ?_;refine rC ?_;refine zG<|kS<|qR ?_;refine zU ?_;refine bB rfl (bJ [(0,some 64),(1,some 65)] (qs h hL rd0 gL) rfl rfl rfl (aj (ma rfl rfl ab)) ⟨zH,zH,trivial⟩ rfl rfl (.inl rfl) rfl rfl) rfl rfl ?_;refine rC<|nR ?_;refine zD ?_;refine zG<|kS<|sR ?_;iterate 4 refine rC ?_
   refine zT ?_
   exact⟨trivial,[(64,some _),(65,some _)],lg zV ⟨zR,zR,trivial⟩⟩
theorem df (h:List HEv) (hh:h.length≤9223372036854775807):FnIs Tryz.prog 6 [.d (encH h)] [] (.tup (.acons (.int .i64 (chkH h).1) (.acons (.int .i64 (chkH h).2) .anil))) []:=by
 refine au aa Tryz.func6 rfl rfl rfl ?_;refine sR<|zD<|nR ?_;refine rC ?_;refine aT (bJ [] (sY h hh) rfl rfl rfl (aj ab) trivial rfl rfl (.inl rfl) rfl rfl) rfl ?_;iterate 6 refine rC ?_
 refine nR ?_;iterate 4 refine rC ?_
 refine zT ?_
 exact⟨trivial,[],lf⟩
def opsH (h:List HEv):List HOp:=if (chkH h).2=0 then (rdH h).all else[]
theorem l8 (h:List HEv) (hh:h.length≤9223372036854775807) (hal:(rdH h).all.length≤1048576):FnIs Tryz.prog 7 [.d (encH h)] [] (.tup (.acons (.d (lG (opsH h))) (.acons (.int .i64 (chkH h).2) .anil))) []:=by
 unfold opsH
 refine au aa Tryz.func7 rfl rfl rfl ?_;refine sR<|zD<|nR ?_;refine rC ?_;refine aT (bJ [] (sY h hh) rfl rfl rfl (aj ab) trivial rfl rfl (.inl rfl) rfl rfl) rfl ?_;iterate 7 refine rC ?_
 refine zW<|zD<|nS ?_
 by_cases h0:(chkH h).2=0
 ·have d0:(!decide ((chkH h).2=0))=false:=by rw[dT h0]; rfl
  rw[if_pos h0,h0]
  refine wG<|kS<|sR ?_;refine zU ?_;refine rQ iM ?_;refine bT (env':=[(19,_)]) (h':=[]) 89 _ rfl ⟨⟨_,rfl,Frz.own rfl⟩,trivial⟩ trivial ?_;refine rQ (ak (Ac (rdH h).all hal) rfl rfl (aj ab) (.inl rfl) (fun _=>rfl)) ?_;refine zD<|zT ?_
  exact⟨trivial,[],lf⟩
 ·have d0:(!decide ((chkH h).2=0))=true:=by rw[dF h0]; rfl
  rw[if_neg h0]
  refine wT<|sR ?_;refine zU<|zT<|aP ?_
  exact⟨trivial,[],lg ⟨⟨_,rfl,AVLe.tup1 (cB _ _) rfl⟩,rfl,trivial⟩ trivial⟩
def eB:List HEv→List (List HEv)→List HEv→List (List HEv)
 | [],out,era=>out++[era]
 | x::l,out,era=>if x.kind=3 then eB l (out++[era]) [] else eB l out (era++[x])
theorem sA {h:List HEv} {i:Nat} {x:HEv} (hx:h[i]?=some x) (out:List (List HEv)) (era:List HEv):eB (h.drop i) out era=if x.kind=3 then eB (h.drop (i+1)) (out++[era]) [] else eB (h.drop (i+1)) out (era++[x]):=by
 have hlt:=(List.getElem?_eq_some_iff.1 hx).1
 rw[List.drop_eq_getElem_cons hlt,(List.getElem?_eq_some_iff.1 hx).2]
 rfl
theorem m6 (h:List HEv) (hh:h.length≤1000000) (hd:∀x∈h,x.op.data.length≤1048576):FnIs Tryz.prog 26 [.d (encH h)] [] (.tup (.acons (.d (.arx 1 fO (if (chkH h).2=0 then eB h [] [] else[]))) (.acons (.int .i64 (chkH h).2) .anil))) []:=by
 have hh:h.length≤9223372036854775807:=by omega
 refine au aa Tryz.func26 rfl rfl rfl ?_;refine sR<|zD<|zW ?_;refine rC ?_;refine rQ (ak (df h hh) rfl rfl (aj ab) (.inl rfl) (fun _=>rfl)) ?_;iterate 5 refine rC ?_
 refine nR<|zD<|nS ?_
 by_cases h0:(chkH h).2=0
 ·have d0:(!decide ((chkH h).2=0))=false:=by rw[dT h0]; rfl
  rw[if_pos h0,h0]
  refine wG<|kS<|sR ?_;refine rC<|nR ?_;refine rC<|zW ?_;refine rC ?_;refine rQ iE ?_;refine rC<|zP ?_
  refine wc_inv (fun q:Nat×List (List HEv)×List HEv=>⟨[(20,.int .i64 q.1),(19,.int .i64 h.length),(18,.d (encH h)),(7,.own 66 0 q.2.2.length 38 none),(6,.own 65 0 q.2.1.length 1 none)],[(65,some (.ds 22 1 false fO q.2.1)),(66,some (.ds 32 38 false aY q.2.2))],72,Tryz.f26.ntmps,64⟩) (fun q=>q.1≤h.length∧q.2.1.length≤q.1∧q.2.2.length≤q.1∧eB (h.drop q.1) q.2.1 q.2.2=eB h [] []) (fun q=>h.length-q.1) (0,[],[]) [(65,none),(66,none)] ⟨Nat.zero_le _,Nat.le_refl _,Nat.le_refl _,rfl⟩
   (lg zh ⟨⟨rfl,rfl,rfl⟩,⟨rfl,rfl,rfl⟩,trivial⟩) ?_
  rintro⟨i,out,era⟩ ⟨hi,ho,he,hgo⟩
  simp only at hi ho he hgo
  have hera:era.length≤1048576:=by omega
  have hera1:era.length+1≤1048576:=by omega
  have hout:out.length+1≤1048576:=by omega
  have hout2:(out++[era]).length≤1048576:=by simp; omega
  refine bG<|sR ?_;refine rC<|nQ ?_
  refine bO rfl (fun h2=>?_) (fun h2=>?_)
  ·have hlt:i<h.length:=by have:=of_decide_eq_true h2; omega
   obtain⟨x,hx⟩:∃u,h[i]?=some u:=⟨_,List.getElem?_eq_getElem hlt⟩
   have hx':h[((i:Int)).toNat]?=some x:=by rw[Int.toNat_natCast]; exact hx
   have hdx:=hd x (List.mem_of_getElem? hx)
   have hst:=sA hx out era
   rw[hgo]at hst
   refine zQ<|zS<|rQ (aF aa rfl rfl rfl rfl rfl (by omega) hx') ?_;refine rQ iL ?_;refine rN ?_;refine rW<|zW ?_;refine rC ?_;refine rQ iB ?_;refine rC<|nS ?_
   by_cases k3:x.kind=3
   ·have d3:decide (x.kind=3)=true:=dT k3
    rw[if_pos k3]at hst
    refine wT<|sR ?_;refine zD ?_;refine bT (env':=[(28,_),(27,_),(20,_),(19,_),(18,_),(6,_)]) (h':=[(65,some _)]) 66 _ rfl ⟨⟨_,rfl,Frz.own rfl⟩,zE,zE,zE,zE,zE,trivial⟩ ⟨⟨rfl,_,rfl,.refl _⟩,trivial⟩ ?_;refine rQ (ak (oX era hera) rfl rfl (aj ab) (.inl rfl) (fun _=>rfl)) ?_;refine aJ (aC (s:=1) aa rfl rfl rfl rfl rfl rfl rfl rfl) rfl ?_;refine aT (aR (enc:=fO) (s:=1) (xs:=out) aa era rfl rfl rfl rfl rfl rfl rfl rfl rfl hout rfl) rfl ?_;refine rC<|nR ?_;refine rC<|nS<|cv<|ew<|eD<|aM<|am ?_;refine rQ iD ?_;refine rC<|aA ?_
    have hl1:out.length+1=(out++[era]).length:=by simp
    exact aN (i+1,out++[era],[]) [(65,some _),(66,none)] ⟨hlt,by simp; omega,Nat.zero_le _,hst.symm⟩ (by show h.length-(i+1)<h.length-i; omega) (lg ⟨zE,rfl,zE,rfl,zE,rfl,zE,rfl,⟨_,rfl,AVLe.of_eq (congrArg (fun n=>AV.own _ 0 n 1 none) hl1)⟩,rfl,trivial⟩ ⟨zR,⟨rfl,rfl,rfl⟩,trivial⟩)
   ·have d3:decide (x.kind=3)=false:=dF k3
    rw[if_neg k3]at hst
    refine wF<|kS<|am ?_;refine rC ?_;refine rQ iM ?_;refine rQ (ak (oL x hdx) rfl rfl (aj ab) (.inl rfl) (fun _=>rfl)) ?_;refine aJ (aC (s:=38) aa rfl rfl rfl rfl rfl rfl rfl rfl) rfl ?_;refine aT (aR (enc:=aY) (s:=38) (xs:=era) aa x rfl rfl rfl rfl rfl rfl rfl rfl rfl hera1 rfl) rfl ?_;refine rC<|aA<|zC<|am ?_;refine rQ iD ?_;refine rC<|aA ?_
    have hl2:era.length+1=(era++[x]).length:=by simp
    exact aN (i+1,out,era++[x]) [(65,some 65),(66,some _)] ⟨hlt,by simp only; omega,by simp; omega,hst.symm⟩ (by show h.length-(i+1)<h.length-i; omega) (lg ⟨zE,rfl,zE,rfl,zE,rfl,⟨_,rfl,AVLe.of_eq (congrArg (fun n=>AV.own _ 0 n 38 none) hl2)⟩,rfl,zE,rfl,trivial⟩ ⟨zR,zR,trivial⟩)
  ·have hi2:i=h.length:=by have:=of_decide_eq_false h2; omega
   subst hi2
   rw[List.drop_length]at hgo
   rw[←hgo]
   refine zX<|sR<|zD ?_;refine bT (env':=[(39,_),(38,_)]) (h':=[(65,some _)]) 66 _ rfl ⟨⟨_,rfl,Frz.own rfl⟩,zE,trivial⟩ ⟨⟨rfl,_,rfl,.refl _⟩,trivial⟩ ?_;refine rQ (ak (oX era hera) rfl rfl (aj ab) (.inl rfl) (fun _=>rfl)) ?_;refine aJ (aC (s:=1) aa rfl rfl rfl rfl rfl rfl rfl rfl) rfl ?_;refine aT (aR (enc:=fO) (s:=1) (xs:=out) aa era rfl rfl rfl rfl rfl rfl rfl rfl rfl hout rfl) rfl ?_;refine bT (env':=[(42,_)]) (h':=[]) 112 _ rfl ⟨⟨_,rfl,Frz.own (by simp)⟩,trivial⟩ trivial ?_;refine rQ (ak (Ad (out++[era]) hout2) rfl rfl (aj ab) (.inl rfl) (fun _=>rfl)) ?_;refine zD<|zT ?_
   exact⟨trivial,[],lf⟩
 ·have d0:(!decide ((chkH h).2=0))=true:=by rw[dF h0]; rfl
  rw[if_neg h0]
  refine wT<|sR ?_;refine zU<|zT<|aP ?_
  exact⟨trivial,[],lg ⟨⟨_,rfl,AVLe.tup1 (cB _ _) rfl⟩,rfl,trivial⟩ trivial⟩
def bY (c:Int) (x:HEv):Bool:=decide (x.kind=3)||decide (x.client=c)
def fA (c:Int) (h:List HEv):Int:=if (chkH h).2=0 then (if c<0∨8≤c then 1 else 0) else (chkH h).2
theorem mW (h:List HEv) (c:Int) (hh:h.length≤1000000) (hd:∀x∈h,x.op.data.length≤1048576):FnIs Tryz.prog 27 [.d (encH h),.int .i64 c] [] (.tup (.acons (.d (fO (if fA c h=0 then h.filter (bY c) else[]))) (.acons (.int .i64 (fA c h)) .anil))) []:=by
 have hh:h.length≤9223372036854775807:=by omega
 refine au aa Tryz.func27 rfl rfl rfl ?_;refine sR<|zD<|zW ?_;refine rC ?_;refine rQ (ak (df h hh) rfl rfl (aj ab) (.inl rfl) (fun _=>rfl)) ?_;iterate 5 refine rC ?_
 refine nR<|zD<|nS ?_
 by_cases h0:(chkH h).2=0
 ·have d0:(!decide ((chkH h).2=0))=false:=by rw[dT h0]; rfl
  refine wF<|kS<|qR ?_;refine zU ?_
  by_cases hc0:c<0
  ·have c0:decide (c<0)=true:=dT hc0
   rw[show fA c h=1 by rw[fA,if_pos h0,if_pos (.inl hc0)],if_neg (by decide)]
   iterate 2 refine rS ?_
   refine rQ iT ?_;refine zO<|sR ?_;refine zD<|zT<|aP ?_
   exact⟨trivial,[],lg ⟨⟨_,rfl,AVLe.tup1 (cB _ _) rfl⟩,rfl,trivial⟩ trivial⟩
  ·have c0:decide (c<0)=false:=dF hc0
   refine rO ?_;refine rC ?_;refine rO ?_;refine rC ?_;refine rQ iF<|nS ?_
   by_cases hc8:8≤c
   ·have c8:decide (8≤c)=true:=dT hc8
    rw[show fA c h=1 by rw[fA,if_pos h0,if_pos (.inr hc8)],if_neg (by decide)]
    refine wT<|sR ?_;refine zD<|zT<|aP ?_
    exact⟨trivial,[],lg ⟨⟨_,rfl,AVLe.tup1 (cB _ _) rfl⟩,rfl,trivial⟩ trivial⟩
   ·have c8:decide (8≤c)=false:=dF hc8
    rw[show fA c h=0 by rw[fA,if_pos h0,if_neg (by omega)],if_pos rfl]
    refine wF<|kS<|sR ?_;refine rC<|zW ?_;refine rC ?_;refine rQ iE ?_;refine rC<|zP ?_
    refine wc_inv (fun i:Nat=>⟨[(27,.int .i64 i),(26,.int .i64 h.length),(25,.d (encH h)),(8,.own 65 0 ((h.take i).filter (bY c)).length 38 none),(1,.int .i64 c)],[(65,some (.ds 32 38 false aY ((h.take i).filter (bY c))))],72,Tryz.f27.ntmps,64⟩) (fun i=>i≤h.length) (fun i=>h.length-i) 0 [(65,none)] (Nat.zero_le _)
     (lg zh ⟨⟨rfl,rfl,rfl⟩,trivial⟩) ?_
    intro i hi
    have hlen:((h.take i).filter (bY c)).length≤i:=Nat.le_trans (List.length_filter_le _ _) (by rw[List.length_take]; omega)
    have hera1:((h.take i).filter (bY c)).length+1≤1048576:=by omega
    refine bG<|sR ?_;refine rC<|nQ ?_
    refine bO rfl (fun h2=>?_) (fun h2=>?_)
    ·have hlt:i<h.length:=by have:=of_decide_eq_true h2; omega
     obtain⟨x,hx⟩:∃u,h[i]?=some u:=⟨_,List.getElem?_eq_getElem hlt⟩
     have hx':h[((i:Int)).toNat]?=some x:=by rw[Int.toNat_natCast]; exact hx
     have hdx:=hd x (List.mem_of_getElem? hx)
     have htk:h.take (i+1)=h.take i++[x]:=by rw[List.take_add_one,hx]; rfl
     obtain⟨c1,h1⟩:∃b,decide (x.kind=3)=b:=⟨_,rfl⟩
     obtain⟨c2,h2⟩:∃b,decide (x.client=c)=b:=⟨_,rfl⟩
     refine zQ<|zS<|rQ (aF aa rfl rfl rfl rfl rfl (by omega) hx') ?_;refine rQ iL ?_;refine rN ?_;refine rW<|nR ?_;refine rC ?_;refine rQ iB ?_;refine zD ?_
     cases c1 with
     | true =>
      have hf:(h.take (i+1)).filter (bY c)=(h.take i).filter (bY c)++[x]:=by rw[htk,List.filter_append]; simp[bY,h1]
      have hl1:((h.take i).filter (bY c)).length+1=((h.take (i+1)).filter (bY c)).length:=by rw[hf]; simp
      iterate 4 refine rS ?_
      refine rQ iT ?_;refine zO<|am ?_;refine rC ?_;refine rQ iM ?_;refine rQ (ak (oL x hdx) rfl rfl (aj ab) (.inl rfl) (fun _=>rfl)) ?_;refine aJ (aC (s:=38) aa rfl rfl rfl rfl rfl rfl rfl rfl) rfl ?_;refine aT (aR (enc:=aY) (s:=38) (xs:=(h.take i).filter (bY c)) aa x rfl rfl rfl rfl rfl rfl rfl rfl rfl hera1 rfl) rfl ?_;refine rC<|aA<|zC<|am ?_;refine rQ iD ?_;refine rC<|aA ?_
      exact aN (i+1) [(65,some _)] hlt (by omega) (lg ⟨zE,rfl,zE,rfl,zE,rfl,⟨_,rfl,AVLe.of_eq (congrArg (fun n=>AV.own _ 0 n 38 none) hl1)⟩,rfl,zE,rfl,trivial⟩ ⟨⟨rfl,rfl,_,rfl,bj.of_eq (congrArg (fun l=>Row.ds 32 38 false aY l) hf.symm)⟩,trivial⟩)
     | false =>
      refine rO ?_;refine rC ?_;refine rO ?_;refine rQ iB ?_;refine rO ?_;refine rC ?_;refine rO ?_;refine rC ?_;refine rQ iF<|nS ?_
      cases c2 with
      | true =>
       have hf:(h.take (i+1)).filter (bY c)=(h.take i).filter (bY c)++[x]:=by rw[htk,List.filter_append]; simp[bY,h1,h2]
       have hl1:((h.take i).filter (bY c)).length+1=((h.take (i+1)).filter (bY c)).length:=by rw[hf]; simp
       refine wT<|am ?_;refine rC ?_;refine rQ iM ?_;refine rQ (ak (oL x hdx) rfl rfl (aj ab) (.inl rfl) (fun _=>rfl)) ?_;refine aJ (aC (s:=38) aa rfl rfl rfl rfl rfl rfl rfl rfl) rfl ?_;refine aT (aR (enc:=aY) (s:=38) (xs:=(h.take i).filter (bY c)) aa x rfl rfl rfl rfl rfl rfl rfl rfl rfl hera1 rfl) rfl ?_;refine rC<|aA<|zC<|am ?_;refine rQ iD ?_;refine rC<|aA ?_
       exact aN (i+1) [(65,some _)] hlt (by omega) (lg ⟨zE,rfl,zE,rfl,zE,rfl,⟨_,rfl,AVLe.of_eq (congrArg (fun n=>AV.own _ 0 n 38 none) hl1)⟩,rfl,zE,rfl,trivial⟩ ⟨⟨rfl,rfl,_,rfl,bj.of_eq (congrArg (fun l=>Row.ds 32 38 false aY l) hf.symm)⟩,trivial⟩)
      | false =>
       have hf:(h.take i).filter (bY c)=(h.take (i+1)).filter (bY c):=by rw[htk,List.filter_append]; simp[bY,h1,h2]
       refine wF<|aL<|zC<|am ?_;refine rQ iD ?_;refine rC<|aA ?_
       exact aN (i+1) [(65,some 65)] hlt (by omega) (lg ⟨zE,rfl,zE,rfl,zE,rfl,⟨_,rfl,AVLe.of_eq (congrArg (fun l:List HEv=>AV.own 65 0 l.length 38 none) hf)⟩,rfl,zE,rfl,trivial⟩ ⟨⟨rfl,rfl,_,rfl,bj.of_eq (congrArg (fun l=>Row.ds 32 38 false aY l) hf)⟩,trivial⟩)
    ·have hi2:i=h.length:=by have:=of_decide_eq_false h2; omega
     subst hi2
     rw[List.take_length]
     have hera:(h.filter (bY c)).length≤1048576:=Nat.le_trans (List.length_filter_le _ _) (by omega)
     refine zX<|sR<|rC ?_;refine bT (env':=[(46,_)]) (h':=[]) 65 _ rfl ⟨⟨_,rfl,Frz.own rfl⟩,trivial⟩ trivial ?_;refine rQ (ak (oX (h.filter (bY c)) hera) rfl rfl (aj ab) (.inl rfl) (fun _=>rfl)) ?_;refine zD<|zT ?_
     exact⟨trivial,[],lf⟩
 ·have d0:(!decide ((chkH h).2=0))=true:=by rw[dF h0]; rfl
  have hE:fA c h=(chkH h).2:=by rw[fA,if_neg h0]
  rw[hE,if_neg h0]
  refine wT<|sR ?_;refine zU<|zT<|aP ?_
  exact⟨trivial,[],lg ⟨⟨_,rfl,AVLe.tup1 (cB _ _) rfl⟩,rfl,trivial⟩ trivial⟩
def gi (c:Int) (i:Nat) (a:Int) (x:HEv):Int:=if x.kind=3 then-1 else if x.kind=1 then (if x.client=c then (i:Int) else a) else if x.kind=2 then (if x.client=c then-1 else a) else a
def jw (c:Int):List HEv→Nat→Int→Int
 | [],_,a=>a
 | x::l,i,a=>jw c l (i+1) (gi c i a x)
def pend (h:List HEv) (c:Int):Int:=jw c h 0 (-1)
theorem mC (c:Int) (x:HEv):∀(l:List HEv) (i:Nat) (a:Int),jw c (l++[x]) i a=gi c (i+l.length) (jw c l i a) x
 | [],i,a=>rfl
 | y::l,i,a=>by
  rw[List.cons_append,jw,jw,mC c x l]
  rw[List.length_cons,show i+1+l.length=i+(l.length+1) by omega]
theorem jb (l:List HEv) (c:Int) (x:HEv):pend (l++[x]) c=gi c l.length (pend l c) x:=by
 rw[pend,mC,Nat.zero_add]; rfl
theorem ut {h:List HEv} {c:Int} {i:Nat} {x:HEv} (hx:h[i]?=some x):pend (h.take (i+1)) c=gi c i (pend (h.take i) c) x:=by
 have hlt:=(List.getElem?_eq_some_iff.1 hx).1
 rw[List.take_add_one,hx,Option.toList_some,jb,List.length_take,Nat.min_eq_left (by omega)]
theorem v7 (c:Int) (i:Nat) (a:Int) (x:HEv):gi c i a x = -1∨gi c i a x=i∨gi c i a x=a:=by
 unfold gi
 by_cases h1:x.kind=3
 ·simp[h1]
 ·by_cases h2:x.kind=1
  ·by_cases h3:x.client=c <;> simp[h2,h3]
  ·by_cases h4:x.kind=2
   ·by_cases h3:x.client=c <;> simp[h4,h3]
   ·simp[h1,h2,h4]
theorem s3 (c:Int):∀(l:List HEv) (i:Nat) (a:Int),-1≤a∧a<i → -1≤jw c l i a∧jw c l i a<(i+l.length:Nat)
 | [],i,a,h=>by simpa[jw]using h
 | x::l,i,a,h=>by
  have hs:=v7 c i a x
  have:=s3 c l (i+1) (gi c i a x) (by omega)
  rw[jw,List.length_cons]
  omega
theorem oJ (h:List HEv) (c:Int) : -1≤pend h c∧pend h c<h.length:=by
 have:=s3 c h 0 (-1) (by decide)
 rw[Nat.zero_add]at this
 exact this
theorem l4 (h:List HEv) (c:Int) (hL:h.length≤9223372036854775807):FnIs Tryz.prog 52 [.d (encH h),.int .i64 c] [] (.int .i64 (pend h c)) []:=by
 refine au aa Tryz.func52 rfl rfl rfl ?_;refine sR<|rC<|nR ?_;refine rC<|zW ?_;refine rC<|zP ?_
 refine wc_inv (fun i:Nat=>⟨[(6,.int .i64 i),(5,.int .i64 (pend (h.take i) c)),(1,.int .i64 c),(0,.d (encH h))],[],72,Tryz.f52.ntmps,64⟩) (fun i=>i≤h.length) (fun i=>h.length-i) 0 [] (Nat.zero_le _)
  (lg zi trivial) ?_
 intro i hi
 refine bG<|qR ?_;refine zD ?_;refine rQ iE ?_;refine rC<|nS ?_
 refine bO rfl (fun h3=>?_) (fun h3=>?_)
 ·have hlt:i<h.length:=by have:=of_decide_eq_true h3; omega
  obtain⟨x,hx⟩:∃x,h[i]?=some x:=⟨_,List.getElem?_eq_getElem hlt⟩
  have hx':h[((i:Int)).toNat]?=some x:=by rw[Int.toNat_natCast]; exact hx
  have hp:=ut (c:=c) hx
  unfold gi at hp
  by_cases k3:x.kind=3
  ·have d3:decide (x.kind=3)=true:=dT k3
   have d1:decide (x.kind=1)=false:=dF (by omega)
   have d2:decide (x.kind=2)=false:=dF (by omega)
   rw[if_pos k3]at hp
   refine zQ<|aZ<|qR<|zD ?_;refine rQ (aF aa rfl rfl rfl rfl rfl (by omega) hx') ?_;refine rC ?_;refine rQ iL ?_;refine rC ?_;refine zI<|am ?_;refine rC<|zW ?_;refine zD ?_;refine rQ (aF aa rfl rfl rfl rfl rfl (by omega) hx') ?_;refine rC ?_;refine rQ iL ?_;refine zD ?_
   iterate 7 refine rS ?_
   refine rQ iF ?_;refine zJ<|kS<|sR ?_;refine zD ?_;refine rQ (aF aa rfl rfl rfl rfl rfl (by omega) hx') ?_;refine rC ?_;refine rQ iL ?_;refine zD ?_
   iterate 7 refine rS ?_
   refine rQ iF ?_;refine zJ<|aL<|zC<|am ?_;refine rC ?_;refine rQ iD ?_;refine rC<|aA ?_
   exact aN (i+1) [] hlt (by omega) (lg ⟨zE,rfl,⟨_,rfl,AVLe.of_eq (congrArg (fun n=>AV.int .i64 n) hp.symm)⟩,rfl,zE,rfl,zE,rfl,trivial⟩ trivial)
  ·have d3:decide (x.kind=3)=false:=dF k3
   rw[if_neg k3]at hp
   by_cases k1:x.kind=1
   ·have d1:decide (x.kind=1)=true:=dT k1
    have d2:decide (x.kind=2)=false:=dF (by omega)
    rw[if_pos k1]at hp
    by_cases kc:x.client=c
    ·have dc:decide (x.client=c)=true:=dT kc
     rw[if_pos kc]at hp
     refine zQ<|aZ<|qR<|zD ?_;refine rQ (aF aa rfl rfl rfl rfl rfl (by omega) hx') ?_;refine rC ?_;refine rQ iL ?_;refine rC ?_;refine zG<|kS<|qR ?_;refine zD ?_;refine rQ (aF aa rfl rfl rfl rfl rfl (by omega) hx') ?_;refine rC ?_;refine rQ iL ?_;refine zD ?_;refine rO ?_;refine rC ?_;refine rO ?_;refine rC ?_;refine rO ?_;refine rQ (aF aa rfl rfl rfl rfl rfl (by omega) hx') ?_;refine rO ?_;refine rC ?_;refine rO ?_;refine rQ iL ?_;refine rO ?_;refine rC ?_;refine rO ?_;refine rC ?_;refine rQ iT ?_;refine zI<|am ?_;refine zD<|nR ?_;refine zD ?_;refine rQ (aF aa rfl rfl rfl rfl rfl (by omega) hx') ?_;refine rC ?_;refine rQ iL ?_;refine zD ?_
     iterate 7 refine rS ?_
     refine rQ iF ?_;refine zJ<|aL<|zC<|am ?_;refine rC ?_;refine rQ iD ?_;refine rC<|aA ?_
     exact aN (i+1) [] hlt (by omega) (lg ⟨zE,rfl,⟨_,rfl,AVLe.of_eq (congrArg (fun n=>AV.int .i64 n) hp.symm)⟩,rfl,zE,rfl,zE,rfl,trivial⟩ trivial)
    ·have dc:decide (x.client=c)=false:=dF kc
     rw[if_neg kc]at hp
     refine zQ<|aZ<|qR<|zD ?_;refine rQ (aF aa rfl rfl rfl rfl rfl (by omega) hx') ?_;refine rC ?_;refine rQ iL ?_;refine rC ?_;refine zG<|kS<|qR ?_;refine zD ?_;refine rQ (aF aa rfl rfl rfl rfl rfl (by omega) hx') ?_;refine rC ?_;refine rQ iL ?_;refine zD ?_;refine rO ?_;refine rC ?_;refine rO ?_;refine rC ?_;refine rO ?_;refine rQ (aF aa rfl rfl rfl rfl rfl (by omega) hx') ?_;refine rO ?_;refine rC ?_;refine rO ?_;refine rQ iL ?_;refine rO ?_;refine rC ?_;refine rO ?_;refine rC ?_;refine rQ iT ?_;refine zG<|kS<|sR ?_;refine zD ?_;refine rQ (aF aa rfl rfl rfl rfl rfl (by omega) hx') ?_;refine rC ?_;refine rQ iL ?_;refine zD ?_
     iterate 7 refine rS ?_
     refine rQ iF ?_;refine zJ<|aL<|zC<|am ?_;refine rC ?_;refine rQ iD ?_;refine rC<|aA ?_
     exact aN (i+1) [] hlt (by omega) (lg ⟨zE,rfl,⟨_,rfl,AVLe.of_eq (congrArg (fun n=>AV.int .i64 n) hp.symm)⟩,rfl,zE,rfl,zE,rfl,trivial⟩ trivial)
   ·have d1:decide (x.kind=1)=false:=dF k1
    rw[if_neg k1]at hp
    by_cases k2:x.kind=2
    ·have d2:decide (x.kind=2)=true:=dT k2
     rw[if_pos k2]at hp
     by_cases kc:x.client=c
     ·have dc:decide (x.client=c)=true:=dT kc
      rw[if_pos kc]at hp
      refine zQ<|aZ<|qR<|zD ?_;refine rQ (aF aa rfl rfl rfl rfl rfl (by omega) hx') ?_;refine rC ?_;refine rQ iL ?_;refine rC ?_;refine zG<|kS<|qR ?_;refine zD ?_;refine rQ (aF aa rfl rfl rfl rfl rfl (by omega) hx') ?_;refine rC ?_;refine rQ iL ?_;refine zD ?_
      iterate 7 refine rS ?_
      refine rQ iF ?_;refine zJ<|kS<|sR ?_;refine zD ?_;refine rQ (aF aa rfl rfl rfl rfl rfl (by omega) hx') ?_;refine rC ?_;refine rQ iL ?_;refine zD ?_;refine rO ?_;refine rC ?_;refine rO ?_;refine rC ?_;refine rO ?_;refine rQ (aF aa rfl rfl rfl rfl rfl (by omega) hx') ?_;refine rO ?_;refine rC ?_;refine rO ?_;refine rQ iL ?_;refine rO ?_;refine rC ?_;refine rO ?_;refine rC ?_;refine rQ iT ?_;refine zI<|am ?_;refine rC<|aA<|zC<|am ?_;refine rC ?_;refine rQ iD ?_;refine rC<|aA ?_
      exact aN (i+1) [] hlt (by omega) (lg ⟨zE,rfl,⟨_,rfl,AVLe.of_eq (congrArg (fun n=>AV.int .i64 n) hp.symm)⟩,rfl,zE,rfl,zE,rfl,trivial⟩ trivial)
     ·have dc:decide (x.client=c)=false:=dF kc
      rw[if_neg kc]at hp
      refine zQ<|aZ<|qR<|zD ?_;refine rQ (aF aa rfl rfl rfl rfl rfl (by omega) hx') ?_;refine rC ?_;refine rQ iL ?_;refine rC ?_;refine zG<|kS<|qR ?_;refine zD ?_;refine rQ (aF aa rfl rfl rfl rfl rfl (by omega) hx') ?_;refine rC ?_;refine rQ iL ?_;refine zD ?_
      iterate 7 refine rS ?_
      refine rQ iF ?_;refine zJ<|kS<|sR ?_;refine zD ?_;refine rQ (aF aa rfl rfl rfl rfl rfl (by omega) hx') ?_;refine rC ?_;refine rQ iL ?_;refine zD ?_;refine rO ?_;refine rC ?_;refine rO ?_;refine rC ?_;refine rO ?_;refine rQ (aF aa rfl rfl rfl rfl rfl (by omega) hx') ?_;refine rO ?_;refine rC ?_;refine rO ?_;refine rQ iL ?_;refine rO ?_;refine rC ?_;refine rO ?_;refine rC ?_;refine rQ iT ?_;refine zG<|aL<|zC<|am ?_;refine rC ?_;refine rQ iD ?_;refine rC<|aA ?_
      exact aN (i+1) [] hlt (by omega) (lg ⟨zE,rfl,⟨_,rfl,AVLe.of_eq (congrArg (fun n=>AV.int .i64 n) hp.symm)⟩,rfl,zE,rfl,zE,rfl,trivial⟩ trivial)
    ·have d2:decide (x.kind=2)=false:=dF k2
     rw[if_neg k2]at hp
     refine zQ<|aZ<|qR<|zD ?_;refine rQ (aF aa rfl rfl rfl rfl rfl (by omega) hx') ?_;refine rC ?_;refine rQ iL ?_;refine rC ?_;refine zG<|kS<|qR ?_;refine zD ?_;refine rQ (aF aa rfl rfl rfl rfl rfl (by omega) hx') ?_;refine rC ?_;refine rQ iL ?_;refine zD ?_
     iterate 7 refine rS ?_
     refine rQ iF ?_;refine zJ<|kS<|sR ?_;refine zD ?_;refine rQ (aF aa rfl rfl rfl rfl rfl (by omega) hx') ?_;refine rC ?_;refine rQ iL ?_;refine zD ?_
     iterate 7 refine rS ?_
     refine rQ iF ?_;refine zJ<|aL<|zC<|am ?_;refine rC ?_;refine rQ iD ?_;refine rC<|aA ?_
     exact aN (i+1) [] hlt (by omega) (lg ⟨zE,rfl,⟨_,rfl,AVLe.of_eq (congrArg (fun n=>AV.int .i64 n) hp.symm)⟩,rfl,zE,rfl,zE,rfl,trivial⟩ trivial)
 ·have he:i=h.length:=by have:=of_decide_eq_false h3; omega
  subst he
  rw[List.take_length]
  refine zX<|sR<|zD<|zT ?_
  exact⟨trivial,[],lf⟩
def fit1 (h:List HEv) (x:HEv):Bool:=decide (0≤x.client)&&decide (x.client≤7)&&decide (pend h x.client<0)&&decide (x.op.data.length≤64)&&decide (x.value=zBk)&&decide (x.err=0)
def fit2 (h:List HEv) (x:HEv):Bool:=decide (0≤x.client)&&decide (x.client≤7) && !decide (pend h x.client<0)&&decide (x.op=zOp)&&kn4 x.err&&((match h[(pend h x.client).toNat]? with | some y=>decide (y.op.kind=1)&&decide (x.err=0) | none=>false)||decide (x.value=zBk))
def fitB (h:List HEv) (x:HEv):Bool:=if x.kind=1 then fit1 h x else if x.kind=2 then fit2 h x else if x.kind=3 then gX x else false
abbrev tM (h:List HEv) (x:HEv) (b:Bool):Prop:=FnIs Tryz.prog 50 [.d (encH h),.d (aY x)] [] (.d (i6 (if b then 1 else 0))) []
theorem z8 (h:List HEv) (x:HEv) (hL:h.length≤9223372036854775807) (k1:x.kind=1) (c1 c2 c3 c4 c5 c6:Bool) (h1:decide (0≤x.client)=c1) (h2:decide (x.client≤7)=c2) (h3:decide (pend h x.client<0)=c3) (h4:decide (((byI x.op.data).length:Int)≤64)=c4) (h5:decide (x.value=zBk)=c5) (h6:decide (x.err=0)=c6):tM h x (c1&&c2&&c3&&c4&&c5&&c6):=by
 have d1:decide (x.kind=1)=true:=dT k1
 have d2:decide (x.kind=2)=false:=dF (by omega)
 have d3:decide (x.kind=3)=false:=dF (by omega)
 have hpd:=l4 h x.client hL
 refine au aa Tryz.func50 rfl rfl rfl ?_;refine sR<|rN ?_;refine rC<|nR ?_;refine rQ (aV aa rfl rfl rfl) ?_;refine rN ?_;refine rW<|nR ?_;refine rC ?_;refine rQ iB ?_;refine zD ?_
 cases c1 with
 | false =>
  iterate 3 refine rS ?_
  refine rQ iF ?_;refine rC<|zW ?_;refine rC ?_;refine rQ iB<|zP<|sR ?_;refine zD ?_;refine zI<|sR ?_;refine zD ?_
  iterate 5 refine rT ?_
  refine rQ iG ?_;refine rC ?_;iterate 5 refine rT ?_
  refine rQ iG ?_;refine rC ?_;iterate 4 refine rT ?_
  refine rQ iG ?_;refine rC ?_;iterate 3 refine rT ?_
  refine rQ iG ?_;refine zJ<|aL<|zC<|sR ?_;refine rC<|zT ?_
  exact⟨trivial,[],lf⟩
 | true =>
  refine rO ?_;refine rC ?_;refine rO ?_;refine rQ iB ?_;refine rO ?_;refine rC ?_;refine rQ iT ?_;refine rC<|zW ?_;refine rC ?_;refine rQ iB<|zP<|sR ?_;refine zD ?_;refine zI<|sR ?_;refine zD ?_
  cases c2 with
  | false =>
   iterate 5 refine rS ?_
   refine rQ iF ?_;refine rC ?_;iterate 5 refine rT ?_
   refine rQ iG ?_;refine rC ?_;iterate 4 refine rT ?_
   refine rQ iG ?_;refine rC ?_;iterate 3 refine rT ?_
   refine rQ iG ?_;refine zJ<|aL<|zC<|sR ?_;refine rC<|zT ?_
   exact⟨trivial,[],lf⟩
  | true =>
   refine rO ?_;refine rC ?_;refine rO ?_;refine rC ?_;refine rO ?_;refine rQ iB ?_;refine rO ?_;refine rQ (ak hpd rfl rfl (aj (aj ab)) (.inl rfl) (fun _=>rfl)) ?_;refine rO ?_;refine rC ?_;refine rQ iT ?_;refine rC ?_
   cases c3 with
   | false =>
    iterate 5 refine rS ?_
    refine rQ iF ?_;refine rC ?_;iterate 4 refine rT ?_
    refine rQ iG ?_;refine rC ?_;iterate 3 refine rT ?_
    refine rQ iG ?_;refine zJ<|aL<|zC<|sR ?_;refine rC<|zT ?_
    exact⟨trivial,[],lf⟩
   | true =>
    refine rO ?_;refine rC ?_;refine rO ?_;refine rC ?_;refine rO ?_;refine rQ iB ?_;refine rO ?_;refine rQ iE ?_;refine rO ?_;refine rC ?_;refine rQ iT ?_;refine rC ?_
    cases c4 with
    | false =>
     iterate 4 refine rS ?_
     refine rQ iF ?_;refine rC ?_;iterate 3 refine rT ?_
     refine rQ iG ?_;refine zJ<|aL<|zC<|sR ?_;refine rC<|zT ?_
     exact⟨trivial,[],lf⟩
    | true =>
     refine rO ?_;refine rC ?_;refine rO ?_;refine rQ iB ?_;refine rO ?_;refine rQ iM ?_;refine rO ?_;refine rQ (bD rfl rfl rfl rfl (by kernel_rfl) (by decide) (bq x.value zBk)) ?_;refine rQ iT ?_;refine rC ?_
     cases c5 with
     | false =>
      iterate 3 refine rS ?_
      refine rQ iF ?_;refine zJ<|aL<|zC<|sR ?_;refine rC<|zT ?_
      exact⟨trivial,[],lf⟩
     | true =>
      refine rO ?_;refine rC ?_;refine rO ?_;refine rQ iB ?_;refine rO ?_;refine rC ?_;refine rQ iT<|nS ?_
      cases c6 with
      | false =>
       refine wF<|aL<|zC<|sR ?_;refine rC<|zT ?_
       exact⟨trivial,[],lf⟩
      | true =>
       refine wT<|sR ?_;refine rC<|zT<|zB ?_
       exact⟨trivial,[],lf⟩
theorem yv (h:List HEv) (x:HEv) (hL:h.length≤9223372036854775807) (k2:x.kind=2):tM h x (fit2 h x):=by
 have d1:decide (x.kind=1)=false:=dF (by omega)
 have d2:decide (x.kind=2)=true:=dT k2
 have d3:decide (x.kind=3)=false:=dF (by omega)
 have hpd:=l4 h x.client hL
 have hpi:=oJ h x.client
 have hz:=sU x.op
 obtain⟨q4,hq4⟩:∃q:Int,(if x.op=zOp then (1:Int) else 0)=q:=⟨_,rfl⟩
 rw[hq4]at hz
 unfold fit2
 obtain⟨c1,h1⟩:∃c,decide (0≤x.client)=c:=⟨_,rfl⟩
 rw[h1]
 refine au aa Tryz.func50 rfl rfl rfl ?_;refine sR<|rN ?_;refine rC<|nR ?_;refine rQ (aV aa rfl rfl rfl) ?_;refine rN ?_;refine rW<|nR ?_;refine rC ?_;refine rQ iB ?_;refine zD ?_
 cases c1 with
 | false =>
  iterate 3 refine rS ?_
  refine rQ iF ?_;refine rC<|zW ?_;refine rC ?_;refine rQ iB<|zP<|sR ?_;refine zD ?_;refine zG<|sR ?_;refine zD ?_;refine zI<|qR ?_;refine zU ?_
  iterate 5 refine rT ?_
  refine rQ iU ?_;refine rC ?_;iterate 4 refine rT ?_
  refine rQ iU ?_;refine zO<|sR ?_;refine rC<|zT<|aP<|zB ?_
  exact⟨trivial,[],lf⟩
 | true =>
  obtain⟨c2,h2⟩:∃c,decide (x.client≤7)=c:=⟨_,rfl⟩
  rw[h2]
  refine rO ?_;refine rC ?_;refine rO ?_;refine rQ iB ?_;refine rO ?_;refine rC ?_;refine rQ iT ?_;refine rC<|zW ?_;refine rC ?_;refine rQ iB<|zP<|sR ?_;refine zD ?_;refine zG<|sR ?_;refine zD ?_;refine zI<|qR ?_;refine zU ?_
  cases c2 with
  | false =>
   have n2:(!decide (x.client≤7))=true:=by rw[h2]; rfl
   iterate 5 refine rS ?_
   refine rQ iT ?_;refine rC ?_;iterate 4 refine rT ?_
   refine rQ iU ?_;refine zO<|sR ?_;refine rC<|zT<|aP<|zB ?_
   exact⟨trivial,[],lf⟩
  | true =>
   have n2:(!decide (x.client≤7))=false:=by rw[h2]; rfl
   obtain⟨c3,h3⟩:∃c,decide (pend h x.client<0)=c:=⟨_,rfl⟩
   rw[h3]
   refine rO ?_;refine rC ?_;refine rO ?_;refine rC ?_;refine rO ?_;refine rQ iB ?_;refine rO ?_;refine rQ (ak hpd rfl rfl (aj (aj ab)) (.inl rfl) (fun _=>rfl)) ?_;refine rO ?_;refine rC ?_;refine rQ iF ?_;refine rC ?_
   cases c3 with
   | true =>
    iterate 4 refine rS ?_
    refine rQ iT ?_;refine zO<|sR ?_;refine rC<|zT<|aP<|zB ?_
    exact⟨trivial,[],lf⟩
   | false =>
    have hge:0≤pend h x.client:=by have:=of_decide_eq_false h3; omega
    obtain⟨y,hy⟩:∃y,h[(pend h x.client).toNat]?=some y:=⟨_,List.getElem?_eq_getElem (by omega)⟩
    rw[hy]
    refine rO ?_;refine rC ?_;refine rO ?_;refine rQ iB ?_;refine rO ?_;refine rQ (ak hz rfl rfl (aj ab) (.inl rfl) (fun _=>rfl)) ?_;refine rO ?_;refine rC ?_;refine rQ iF<|nS ?_
    by_cases h4:x.op=zOp
    ·rw[dT h4]
     rw[if_pos h4]at hq4
     subst hq4
     obtain⟨e0,q0⟩:∃c,(!decide (x.err=0))=c:=⟨_,rfl⟩
     have q0':decide (x.err=0) = !e0:=by rw[←q0,Bool.not_not]
     obtain⟨kd,qk⟩:∃c,decide (y.op.kind=1)=c:=⟨_,rfl⟩
     obtain⟨vz,qv⟩:∃c,decide (x.value=zBk)=c:=⟨_,rfl⟩
     simp only[kn4,q0',qk,qv]
     refine wG<|kS<|qR ?_;refine rC ?_;refine rQ iB ?_;refine zD ?_
     cases e0 with
     | false =>
      iterate 3 refine rS ?_
      refine rQ iF ?_;refine rC ?_;iterate 3 refine rT ?_
      refine rQ iG ?_;refine rC ?_;iterate 3 refine rT ?_
      refine rQ iG ?_;refine zJ<|kS<|sR ?_;refine zU ?_;refine rQ iB ?_;refine rQ (ak hpd rfl rfl (aj (aj ab)) (.inl rfl) (fun _=>rfl)) ?_;refine rQ (aF aa rfl rfl rfl rfl rfl (by omega) hy) ?_;refine zD ?_;refine rQ iL ?_;refine zD ?_
      cases kd with
      | true =>
       refine rO ?_;refine rC ?_;refine rO ?_;refine rQ iB ?_;refine rO ?_;refine rC ?_;refine rQ iT ?_;refine rC<|nR ?_;refine zD ?_
       iterate 4 refine rS ?_
       refine rQ iT ?_;refine zO<|sR ?_;refine rC<|zT<|zB ?_
       exact⟨trivial,[],lf⟩
      | false =>
       iterate 3 refine rS ?_
       refine rQ iF ?_;refine rC<|nR ?_;refine zD ?_;refine rP ?_;refine rC ?_;refine rP ?_;refine rQ iB ?_;refine rP ?_;refine rQ iM ?_;refine rP ?_;refine rQ (bD rfl rfl rfl rfl (by kernel_rfl) (by decide) (bq x.value zBk)) ?_;refine rQ iG<|nS ?_
       cases vz with
       | true =>
        refine wT<|sR ?_;refine rC<|zT<|zB ?_
        exact⟨trivial,[],lf⟩
       | false =>
        refine wF<|aL<|zC<|sR ?_;refine rC<|zT ?_
        exact⟨trivial,[],lf⟩
     | true =>
      obtain⟨e1,q1⟩:∃c,(!decide (x.err=1))=c:=⟨_,rfl⟩
      have q1':decide (x.err=1) = !e1:=by rw[←q1,Bool.not_not]
      obtain⟨e8,q8⟩:∃c,(!decide (x.err=8))=c:=⟨_,rfl⟩
      have q8':decide (x.err=8) = !e8:=by rw[←q8,Bool.not_not]
      obtain⟨e9,q9⟩:∃c,(!decide (x.err=9))=c:=⟨_,rfl⟩
      have q9':decide (x.err=9) = !e9:=by rw[←q9,Bool.not_not]
      simp only[q1',q8',q9']
      refine rO ?_;refine rC ?_;refine rO ?_;refine rQ iB ?_;refine rO ?_;refine rC ?_;refine rQ iT ?_;refine rC ?_
      cases e1 with
      | false =>
       iterate 3 refine rS ?_
       refine rQ iF ?_;refine rC ?_;iterate 3 refine rT ?_
       refine rQ iG ?_;refine zJ<|kS<|sR ?_;refine zU ?_;refine rQ iB ?_;refine rQ (ak hpd rfl rfl (aj (aj ab)) (.inl rfl) (fun _=>rfl)) ?_;refine rQ (aF aa rfl rfl rfl rfl rfl (by omega) hy) ?_;refine zD ?_;refine rQ iL ?_;refine zD ?_
       cases kd with
       | true =>
        refine rO ?_;refine rC ?_;refine rO ?_;refine rQ iB ?_;refine rO ?_;refine rC ?_;refine rQ iT ?_;refine rC<|nR ?_;refine zD ?_;refine rO ?_;refine rC ?_;refine rO ?_;refine rQ iB ?_;refine rO ?_;refine rQ iM ?_;refine rO ?_;refine rQ (bD rfl rfl rfl rfl (by kernel_rfl) (by decide) (bq x.value zBk)) ?_;refine rQ iF<|nS ?_
        cases vz with
        | true =>
         refine wT<|sR ?_;refine rC<|zT<|zB ?_
         exact⟨trivial,[],lf⟩
        | false =>
         refine wF<|aL<|zC<|sR ?_;refine rC<|zT ?_
         exact⟨trivial,[],lf⟩
       | false =>
        iterate 3 refine rS ?_
        refine rQ iF ?_;refine rC<|nR ?_;refine zD ?_;refine rP ?_;refine rC ?_;refine rP ?_;refine rQ iB ?_;refine rP ?_;refine rQ iM ?_;refine rP ?_;refine rQ (bD rfl rfl rfl rfl (by kernel_rfl) (by decide) (bq x.value zBk)) ?_;refine rQ iG<|nS ?_
        cases vz with
        | true =>
         refine wT<|sR ?_;refine rC<|zT<|zB ?_
         exact⟨trivial,[],lf⟩
        | false =>
         refine wF<|aL<|zC<|sR ?_;refine rC<|zT ?_
         exact⟨trivial,[],lf⟩
      | true =>
       refine rO ?_;refine rC ?_;refine rO ?_;refine rQ iB ?_;refine rO ?_;refine rC ?_;refine rQ iT ?_;refine rC ?_
       cases e8 with
       | false =>
        iterate 3 refine rS ?_
        refine rQ iF ?_;refine zJ<|kS<|sR ?_;refine zU ?_;refine rQ iB ?_;refine rQ (ak hpd rfl rfl (aj (aj ab)) (.inl rfl) (fun _=>rfl)) ?_;refine rQ (aF aa rfl rfl rfl rfl rfl (by omega) hy) ?_;refine zD ?_;refine rQ iL ?_;refine zD ?_
        cases kd with
        | true =>
         refine rO ?_;refine rC ?_;refine rO ?_;refine rQ iB ?_;refine rO ?_;refine rC ?_;refine rQ iT ?_;refine rC<|nR ?_;refine zD ?_;refine rO ?_;refine rC ?_;refine rO ?_;refine rQ iB ?_;refine rO ?_;refine rQ iM ?_;refine rO ?_;refine rQ (bD rfl rfl rfl rfl (by kernel_rfl) (by decide) (bq x.value zBk)) ?_;refine rQ iF<|nS ?_
         cases vz with
         | true =>
          refine wT<|sR ?_;refine rC<|zT<|zB ?_
          exact⟨trivial,[],lf⟩
         | false =>
          refine wF<|aL<|zC<|sR ?_;refine rC<|zT ?_
          exact⟨trivial,[],lf⟩
        | false =>
         iterate 3 refine rS ?_
         refine rQ iF ?_;refine rC<|nR ?_;refine zD ?_;refine rP ?_;refine rC ?_;refine rP ?_;refine rQ iB ?_;refine rP ?_;refine rQ iM ?_;refine rP ?_;refine rQ (bD rfl rfl rfl rfl (by kernel_rfl) (by decide) (bq x.value zBk)) ?_;refine rQ iG<|nS ?_
         cases vz with
         | true =>
          refine wT<|sR ?_;refine rC<|zT<|zB ?_
          exact⟨trivial,[],lf⟩
         | false =>
          refine wF<|aL<|zC<|sR ?_;refine rC<|zT ?_
          exact⟨trivial,[],lf⟩
       | true =>
        refine rO ?_;refine rC ?_;refine rO ?_;refine rQ iB ?_;refine rO ?_;refine rC ?_;refine rQ iT<|nS ?_
        cases e9 with
        | false =>
         refine wF<|kS<|sR ?_;refine zU ?_;refine rQ iB ?_;refine rQ (ak hpd rfl rfl (aj (aj ab)) (.inl rfl) (fun _=>rfl)) ?_;refine rQ (aF aa rfl rfl rfl rfl rfl (by omega) hy) ?_;refine zD ?_;refine rQ iL ?_;refine zD ?_
         cases kd with
         | true =>
          refine rO ?_;refine rC ?_;refine rO ?_;refine rQ iB ?_;refine rO ?_;refine rC ?_;refine rQ iT ?_;refine rC<|nR ?_;refine zD ?_;refine rO ?_;refine rC ?_;refine rO ?_;refine rQ iB ?_;refine rO ?_;refine rQ iM ?_;refine rO ?_;refine rQ (bD rfl rfl rfl rfl (by kernel_rfl) (by decide) (bq x.value zBk)) ?_;refine rQ iF<|nS ?_
          cases vz with
          | true =>
           refine wT<|sR ?_;refine rC<|zT<|zB ?_
           exact⟨trivial,[],lf⟩
          | false =>
           refine wF<|aL<|zC<|sR ?_;refine rC<|zT ?_
           exact⟨trivial,[],lf⟩
         | false =>
          iterate 3 refine rS ?_
          refine rQ iF ?_;refine rC<|nR ?_;refine zD ?_;refine rP ?_;refine rC ?_;refine rP ?_;refine rQ iB ?_;refine rP ?_;refine rQ iM ?_;refine rP ?_;refine rQ (bD rfl rfl rfl rfl (by kernel_rfl) (by decide) (bq x.value zBk)) ?_;refine rQ iG<|nS ?_
          cases vz with
          | true =>
           refine wT<|sR ?_;refine rC<|zT<|zB ?_
           exact⟨trivial,[],lf⟩
          | false =>
           refine wF<|aL<|zC<|sR ?_;refine rC<|zT ?_
           exact⟨trivial,[],lf⟩
        | true =>
         refine wT<|sR ?_;refine rC<|zT<|aP<|zB ?_
         exact⟨trivial,[],lf⟩
    ·rw[dF h4]
     rw[if_neg h4]at hq4
     subst hq4
     refine wV<|sR ?_;refine rC<|zT<|aP<|zB ?_
     exact⟨trivial,[],lf⟩
theorem yu (h:List HEv) (x:HEv) (k1:x.kind≠1) (k2:x.kind≠2) (c0 c3:Bool) (h0:decide (0≤x.client)=c0) (h3:decide (x.kind=3)=c3):tM h x (c3&&gX x):=by
 have d1:decide (x.kind=1)=false:=dF k1
 have d2:decide (x.kind=2)=false:=dF k2
 have hz:=sU x.op
 unfold gX
 cases c3 with
 | false =>
  cases c0 with
  | false =>
   refine au aa Tryz.func50 rfl rfl rfl ?_;refine sR<|rN ?_;refine rC<|nR ?_;refine rQ (aV aa rfl rfl rfl) ?_;refine rN ?_;refine rW<|nR ?_;refine rC ?_;refine rQ iB ?_;refine zD ?_
   iterate 3 refine rS ?_
   refine rQ iF ?_;refine rC<|zW ?_;refine rC ?_;refine rQ iB<|zP<|sR ?_;refine zD ?_;refine zG<|sR ?_;refine zD ?_;refine zG<|sR ?_;refine zD ?_;refine zG<|aL<|zC<|sR ?_;refine rC<|zT ?_
   exact⟨trivial,[],lf⟩
  | true =>
   refine au aa Tryz.func50 rfl rfl rfl ?_;refine sR<|rN ?_;refine rC<|nR ?_;refine rQ (aV aa rfl rfl rfl) ?_;refine rN ?_;refine rW<|nR ?_;refine rC ?_;refine rQ iB ?_;refine zD ?_;refine rO ?_;refine rC ?_;refine rO ?_;refine rQ iB ?_;refine rO ?_;refine rC ?_;refine rQ iT ?_;refine rC<|zW ?_;refine rC ?_;refine rQ iB<|zP<|sR ?_;refine zD ?_;refine zG<|sR ?_;refine zD ?_;refine zG<|sR ?_;refine zD ?_;refine zG<|aL<|zC<|sR ?_;refine rC<|zT ?_
   exact⟨trivial,[],lf⟩
 | true =>
  obtain⟨c1,h1⟩:∃c,decide (x.client=0)=c:=⟨_,rfl⟩
  rw[h1]
  cases c0 with
  | false =>
   have e1:c1=false:=by rw[←h1]; exact dF (by have:=of_decide_eq_false h0; omega)
   subst e1
   refine au aa Tryz.func50 rfl rfl rfl ?_;refine sR<|rN ?_;refine rC<|nR ?_;refine rQ (aV aa rfl rfl rfl) ?_;refine rN ?_;refine rW<|nR ?_;refine rC ?_;refine rQ iB ?_;refine zD ?_
   iterate 3 refine rS ?_
   refine rQ iF ?_;refine rC<|zW ?_;refine rC ?_;refine rQ iB<|zP<|sR ?_;refine zD ?_;refine zG<|sR ?_;refine zD ?_;refine zG<|sR ?_;refine zD ?_;refine zI<|sR ?_;refine rC ?_;refine rQ iB ?_;refine zD ?_
   iterate 4 refine rS ?_
   refine rQ iF ?_;refine rC ?_;iterate 4 refine rT ?_
   refine rQ iG ?_;refine rC ?_;iterate 3 refine rT ?_
   refine rQ iG ?_;refine zJ<|aL<|zC<|sR ?_;refine rC<|zT ?_
   exact⟨trivial,[],lf⟩
  | true =>
   cases c1 with
   | false =>
    refine au aa Tryz.func50 rfl rfl rfl ?_;refine sR<|rN ?_;refine rC<|nR ?_;refine rQ (aV aa rfl rfl rfl) ?_;refine rN ?_;refine rW<|nR ?_;refine rC ?_;refine rQ iB ?_;refine zD ?_;refine rO ?_;refine rC ?_;refine rO ?_;refine rQ iB ?_;refine rO ?_;refine rC ?_;refine rQ iT ?_;refine rC<|zW ?_;refine rC ?_;refine rQ iB<|zP<|sR ?_;refine zD ?_;refine zG<|sR ?_;refine zD ?_;refine zG<|sR ?_;refine zD ?_;refine zI<|sR ?_;refine rC ?_;refine rQ iB ?_;refine zD ?_
    iterate 4 refine rS ?_
    refine rQ iF ?_;refine rC ?_;iterate 4 refine rT ?_
    refine rQ iG ?_;refine rC ?_;iterate 3 refine rT ?_
    refine rQ iG ?_;refine zJ<|aL<|zC<|sR ?_;refine rC<|zT ?_
    exact⟨trivial,[],lf⟩
   | true =>
    by_cases h4:x.op=zOp
    ·rw[dT h4]
     rw[if_pos h4]at hz
     obtain⟨c5,h5⟩:∃c,decide (x.value=zBk)=c:=⟨_,rfl⟩
     rw[h5]
     cases c5 with
     | false =>
      refine au aa Tryz.func50 rfl rfl rfl ?_;refine sR<|rN ?_;refine rC<|nR ?_;refine rQ (aV aa rfl rfl rfl) ?_;refine rN ?_;refine rW<|nR ?_;refine rC ?_;refine rQ iB ?_;refine zD ?_;refine rO ?_;refine rC ?_;refine rO ?_;refine rQ iB ?_;refine rO ?_;refine rC ?_;refine rQ iT ?_;refine rC<|zW ?_;refine rC ?_;refine rQ iB<|zP<|sR ?_;refine zD ?_;refine zG<|sR ?_;refine zD ?_;refine zG<|sR ?_;refine zD ?_;refine zI<|sR ?_;refine rC ?_;refine rQ iB ?_;refine zD ?_;refine rO ?_;refine rC ?_;refine rO ?_;refine rQ iB ?_;refine rO ?_;refine rQ (ak hz rfl rfl (aj ab) (.inl rfl) (fun _=>rfl)) ?_;refine rO ?_;refine rC ?_;refine rQ iT ?_;refine rC ?_;refine rP ?_;refine rC ?_;refine rP ?_;refine rQ iB ?_;refine rP ?_;refine rQ iM ?_;refine rP ?_;refine rQ (bD rfl rfl rfl rfl (by kernel_rfl) (by decide) (bq x.value zBk)) ?_;refine rQ iU ?_;refine rC ?_;iterate 3 refine rS ?_
      refine rQ iF ?_;refine zJ<|aL<|zC<|sR ?_;refine rC<|zT ?_
      exact⟨trivial,[],lf⟩
     | true =>
      obtain⟨c6,h6⟩:∃c,decide (x.err=0)=c:=⟨_,rfl⟩
      rw[h6]
      cases c6 with
      | false =>
       refine au aa Tryz.func50 rfl rfl rfl ?_;refine sR<|rN ?_;refine rC<|nR ?_;refine rQ (aV aa rfl rfl rfl) ?_;refine rN ?_;refine rW<|nR ?_;refine rC ?_;refine rQ iB ?_;refine zD ?_;refine rO ?_;refine rC ?_;refine rO ?_;refine rQ iB ?_;refine rO ?_;refine rC ?_;refine rQ iT ?_;refine rC<|zW ?_;refine rC ?_;refine rQ iB<|zP<|sR ?_;refine zD ?_;refine zG<|sR ?_;refine zD ?_;refine zG<|sR ?_;refine zD ?_;refine zI<|sR ?_;refine rC ?_;refine rQ iB ?_;refine zD ?_;refine rO ?_;refine rC ?_;refine rO ?_;refine rQ iB ?_;refine rO ?_;refine rQ (ak hz rfl rfl (aj ab) (.inl rfl) (fun _=>rfl)) ?_;refine rO ?_;refine rC ?_;refine rQ iT ?_;refine rC ?_;refine rP ?_;refine rC ?_;refine rP ?_;refine rQ iB ?_;refine rP ?_;refine rQ iM ?_;refine rP ?_;refine rQ (bD rfl rfl rfl rfl (by kernel_rfl) (by decide) (bq x.value zBk)) ?_;refine rQ iU ?_;refine rC ?_;refine rO ?_;refine rC ?_;refine rO ?_;refine rQ iB ?_;refine rO ?_;refine rC ?_;refine rQ iT ?_;refine zG<|aL<|zC<|sR ?_;refine rC<|zT ?_
       exact⟨trivial,[],lf⟩
      | true =>
       refine au aa Tryz.func50 rfl rfl rfl ?_;refine sR<|rN ?_;refine rC<|nR ?_;refine rQ (aV aa rfl rfl rfl) ?_;refine rN ?_;refine rW<|nR ?_;refine rC ?_;refine rQ iB ?_;refine zD ?_;refine rO ?_;refine rC ?_;refine rO ?_;refine rQ iB ?_;refine rO ?_;refine rC ?_;refine rQ iT ?_;refine rC<|zW ?_;refine rC ?_;refine rQ iB<|zP<|sR ?_;refine zD ?_;refine zG<|sR ?_;refine zD ?_;refine zG<|sR ?_;refine zD ?_;refine zI<|sR ?_;refine rC ?_;refine rQ iB ?_;refine zD ?_;refine rO ?_;refine rC ?_;refine rO ?_;refine rQ iB ?_;refine rO ?_;refine rQ (ak hz rfl rfl (aj ab) (.inl rfl) (fun _=>rfl)) ?_;refine rO ?_;refine rC ?_;refine rQ iT ?_;refine rC ?_;refine rP ?_;refine rC ?_;refine rP ?_;refine rQ iB ?_;refine rP ?_;refine rQ iM ?_;refine rP ?_;refine rQ (bD rfl rfl rfl rfl (by kernel_rfl) (by decide) (bq x.value zBk)) ?_;refine rQ iU ?_;refine rC ?_;refine rO ?_;refine rC ?_;refine rO ?_;refine rQ iB ?_;refine rO ?_;refine rC ?_;refine rQ iT ?_;refine zI<|sR ?_;refine rC<|zT<|zB ?_
       exact⟨trivial,[],lf⟩
    ·rw[dF h4]
     rw[if_neg h4]at hz
     refine au aa Tryz.func50 rfl rfl rfl ?_;refine sR<|rN ?_;refine rC<|nR ?_;refine rQ (aV aa rfl rfl rfl) ?_;refine rN ?_;refine rW<|nR ?_;refine rC ?_;refine rQ iB ?_;refine zD ?_;refine rO ?_;refine rC ?_;refine rO ?_;refine rQ iB ?_;refine rO ?_;refine rC ?_;refine rQ iT ?_;refine rC<|zW ?_;refine rC ?_;refine rQ iB<|zP<|sR ?_;refine zD ?_;refine zG<|sR ?_;refine zD ?_;refine zG<|sR ?_;refine zD ?_;refine zI<|sR ?_;refine rC ?_;refine rQ iB ?_;refine zD ?_;refine rO ?_;refine rC ?_;refine rO ?_;refine rQ iB ?_;refine rO ?_;refine rQ (ak hz rfl rfl (aj ab) (.inl rfl) (fun _=>rfl)) ?_;refine rO ?_;refine rC ?_;refine rQ iT ?_;refine rC ?_;iterate 4 refine rT ?_
     refine rQ iG ?_;refine rC ?_;iterate 3 refine rT ?_
     refine rQ iG ?_;refine zJ<|aL<|zC<|sR ?_;refine rC<|zT ?_
     exact⟨trivial,[],lf⟩
theorem yr (h:List HEv) (x:HEv) (hL:h.length≤9223372036854775807):tM h x (fitB h x):=by
 unfold fitB
 by_cases k1:x.kind=1
 ·rw[if_pos k1]
  have:=z8 h x hL k1 _ _ _ _ _ _ rfl rfl rfl rfl rfl rfl
  have e:decide (((byI x.op.data).length:Int)≤64)=decide (x.op.data.length≤64):=decide_eq_decide.2 (by rw[b6]; omega)
  rw[e]at this
  exact this
 ·rw[if_neg k1]
  by_cases k2:x.kind=2
  ·rw[if_pos k2]; exact yv h x hL k2
  ·rw[if_neg k2]
   have:=yu h x k1 k2 _ _ rfl rfl
   by_cases k3:x.kind=3
   ·rw[if_pos k3]; rw[dT k3]at this; exact this
   ·rw[if_neg k3]; rw[dF k3]at this; exact this
def jS (h:List HEv):Nat→Nat→Int×Int
 | 0,_=>(0,0)
 | n+1,i=>match h[i]? with
  | none=>(0,0)
  | some x=>if fitB (h.take i) x then jS h n (i+1) else ((i:Int),18)
def rchk (h:List HEv):Int×Int:=if 8192<h.length then (0,3) else jS h h.length 0
theorem pY (h:List HEv) (hL:h.length≤9223372036854775807):FnIs Tryz.prog 25 [.d (encH h)] [] (.tup (.acons (.int .i64 (rchk h).1) (.acons (.int .i64 (rchk h).2) .anil))) []:=by
 unfold rchk
 obtain⟨Z,hZ⟩:∃Z,decide ((8192:Int)<(h.length:Int))=Z:=⟨_,rfl⟩
 refine au aa Tryz.func25 rfl rfl rfl ?_
 cases Z with
 | true =>
  rw[if_pos (by have:=of_decide_eq_true hZ; omega)]
  refine sR<|zD<|zW ?_;refine rC ?_;refine rQ iE ?_;refine rC ?_;refine zI<|sR ?_;refine zD<|zT<|aP ?_
  exact⟨trivial,[],lf⟩
 | false =>
  rw[if_neg (by have:=of_decide_eq_false hZ; omega)]
  refine sR<|zD<|zW ?_;refine rC ?_;refine rQ iE ?_;refine rC ?_;refine zG<|kS<|qR ?_;refine rC<|zP ?_
  refine wc_inv (fun i:Nat=>⟨[(4,.int .i64 i),(0,.d (encH h))],[],72,Tryz.f25.ntmps,64⟩) (fun i=>i≤h.length∧jS h (h.length-i) i=jS h h.length 0) (fun i=>h.length-i) 0 [] ⟨Nat.zero_le _,rfl⟩
   (lg zk trivial) ?_
  rintro i ⟨hi,hgo⟩
  refine bG<|qR ?_;refine zD ?_;refine rQ iE ?_;refine rC<|nS ?_
  refine bO rfl (fun h3=>?_) (fun h3=>?_)
  ·have hlt:i<h.length:=by have:=of_decide_eq_true h3; omega
   obtain⟨x,hx⟩:∃x,h[i]?=some x:=⟨_,List.getElem?_eq_getElem hlt⟩
   have hx':h[((i:Int)).toNat]?=some x:=by rw[Int.toNat_natCast]; exact hx
   have hf:=yr (h.take i) x (by rw[List.length_take]; omega)
   obtain⟨k,hk⟩:∃k,h.length-i=k+1:=⟨h.length-i-1,by omega⟩
   have hk':h.length-(i+1)=k:=by omega
   rw[hk,jS,hx]at hgo
   simp only at hgo
   cases hb:fitB (h.take i) x with
   | true =>
    rw[hb]at hgo hf
    refine zQ<|aZ<|bk<|aE (by kernel_rfl) ?_;refine dC [0] [] ?_;refine dC [4] [] ?_;refine dQ [14,15] [] (gg (m:=(i:Int)) aa rfl rfl rfl rfl (by omega) (by omega)) ?_;refine dC [0] [] ?_;refine dC [4] [] ?_;refine dQ [17,18] [] (aF aa rfl rfl rfl rfl rfl (by omega) hx') ?_;refine dQ [19] [] iL ?_;refine dQ [16,20] [] (ak hf rfl rfl (aj (aj ab)) (.inl rfl) (fun _=>rfl)) ?_;refine dC [21] [] ?_;refine aB (by kernel_rfl)<|aM ?_;refine wG<|aL<|zC<|am ?_;refine rC ?_;refine rQ iD ?_;refine rC<|aA ?_
    exact aN (i+1) [] ⟨hlt,by rw[hk']; exact hgo⟩ (by omega) (lg zk trivial)
   | false =>
    rw[hb]at hgo hf
    rw[←hgo]
    refine zQ<|aZ<|bk<|aE (by kernel_rfl) ?_;refine dC [0] [] ?_;refine dC [4] [] ?_;refine dQ [14,15] [] (gg (m:=(i:Int)) aa rfl rfl rfl rfl (by omega) (by omega)) ?_;refine dC [0] [] ?_;refine dC [4] [] ?_;refine dQ [17,18] [] (aF aa rfl rfl rfl rfl rfl (by omega) hx') ?_;refine dQ [19] [] iL ?_;refine dQ [16,20] [] (ak hf rfl rfl (aj (aj ab)) (.inl rfl) (fun _=>rfl)) ?_;refine dC [21] [] ?_;refine aB (by kernel_rfl)<|aM ?_;refine wV<|sR ?_;refine zU<|zT<|zB<|ce<|zB ?_
    exact⟨trivial,[],lf⟩
  ·have he:i=h.length:=by have:=of_decide_eq_false h3; omega
   subst he
   rw[Nat.sub_self]at hgo
   rw[←hgo]
   refine zX<|sR<|zD<|zT ?_
   exact⟨trivial,[],lf⟩
def fewB (h:List HEv):Bool:=decide (h.length≤60)&&h.all fun x=>decide (x.op.data.length≤70)
theorem Aa {h:List HEv} {x:HEv} (hx:x∈h) (hd:¬x.op.data.length≤70):fewB h=false:=by
 have:h.all (fun x=>decide (x.op.data.length≤70))=false:=List.all_eq_false.2 ⟨x,hx,by simpa using hd⟩
 rw[fewB,this,Bool.and_false]
theorem Ab (h:List HEv):FnIs Tryz.prog 24 [.d (encH h)] [] (.d (i6 (if fewB h then 1 else 0))) []:=by
 obtain⟨Z,hZ⟩:∃Z,decide ((60:Int)<(h.length:Int))=Z:=⟨_,rfl⟩
 refine au aa Tryz.func24 rfl rfl rfl ?_
 cases Z with
 | true =>
  rw[show fewB h=false by rw[fewB,dF (by have:=of_decide_eq_true hZ; omega),Bool.false_and]]
  refine sR<|rC<|zW ?_;refine rC ?_;refine rQ iE ?_;refine rC ?_;refine zI<|sR ?_;refine rC<|zT<|aP ?_
  exact⟨trivial,[],lf⟩
 | false =>
  have h60:h.length≤60:=by have:=of_decide_eq_false hZ; omega
  refine sR<|rC<|zW ?_;refine rC ?_;refine rQ iE ?_;refine rC ?_;refine zG<|kS<|qR ?_;refine rC<|nS<|aZ ?_
  refine wc_inv (fun i:Nat=>⟨[(3,.int .i64 i),(0,.d (encH h))],[],72,Tryz.f24.ntmps,64⟩) (fun i=>i≤h.length∧∀j,j<i→∀y,h[j]?=some y→y.op.data.length≤70) (fun i=>h.length-i) 0 [] ⟨Nat.zero_le _,fun j hj=>absurd hj (Nat.not_lt_zero _)⟩
   (lg zk trivial) ?_
  rintro i ⟨hi,hall⟩
  refine bG<|qR ?_;refine zD ?_;refine rQ iE ?_;refine rC<|nS ?_
  refine bO rfl (fun h3=>?_) (fun h3=>?_)
  ·have hlt:i<h.length:=by have:=of_decide_eq_true h3; omega
   obtain⟨x,hx⟩:∃x,h[i]?=some x:=⟨_,List.getElem?_eq_getElem hlt⟩
   have hx':h[((i:Int)).toNat]?=some x:=by rw[Int.toNat_natCast]; exact hx
   by_cases hd:x.op.data.length≤70
   ·have dd:decide ((70:Int)<((byI x.op.data).length:Int))=false:=dF (by rw[b6]; omega)
    refine zQ<|zS<|zD ?_;refine rQ (aF aa rfl rfl rfl rfl rfl (by omega) hx') ?_;refine zD ?_;refine rQ iL ?_;refine rQ iE ?_;refine rC ?_;refine zG<|aL<|zC<|am ?_;refine rC ?_;refine rQ iD ?_;refine rC<|aA ?_
    refine aN (i+1) [] ⟨hlt,fun j hj y hy=>?_⟩ (by omega) (lg zk trivial)
    by_cases e:j=i
    ·subst e; rw[hx]at hy; cases hy; exact hd
    ·exact hall j (by omega) y hy
   ·have dd:decide ((70:Int)<((byI x.op.data).length:Int))=true:=dT (by rw[b6]; omega)
    rw[Aa (List.mem_of_getElem? hx) hd]
    refine zQ<|zS<|zD ?_;refine rQ (aF aa rfl rfl rfl rfl rfl (by omega) hx') ?_;refine zD ?_;refine rQ iL ?_;refine rQ iE ?_;refine rC ?_;refine zI<|sR ?_;refine rC<|zT<|zB<|ce<|zB ?_
    exact⟨trivial,[],lf⟩
  ·have he:i=h.length:=by have:=of_decide_eq_false h3; omega
   rw[show fewB h=true by
    rw[fewB,dT h60,Bool.true_and,List.all_eq_true]
    intro y hy
    obtain⟨j,hj⟩:=List.mem_iff_getElem?.1 hy
    exact dT (hall j (by have:=(List.getElem?_eq_some_iff.1 hj).1; omega) y hj)]
   refine zX<|sR<|rC<|zT ?_
   exact⟨trivial,[],lf⟩
end Go.Proofs.YtpjiiolnfbfcbaaGreatDoor
namespace Go.Proofs.YtpjiiolnfbfcbaaGreatDoor
open Go.Eng Go.Plain
set_option maxHeartbeats 32000000
set_option maxRecDepth 20000
structure lM (p:List HEv) (s:RdS):Prop where
 ok:s.Ok p.length
 idle:∀c:Nat,c<8→pend p c<0→s.busy[c]?=some 0
 busy:∀c:Nat,c<8→0≤pend p c→∃b o y,s.busy[c]?=some b∧0<b∧s.all[(b-1).toNat]?=some o∧p[(pend p c).toNat]?=some y∧o.op=y.op
 free:∀c d:Nat,c<8→d<8→c≠d→∀b,s.busy[c]?=some b→s.busy[d]?=some b→b=0
theorem y6:lM [] rd0:=⟨gL,fun c hc _=>by
 match c,hc with
 | 0,_=>rfl
 | 1,_=>rfl
 | 2,_=>rfl
 | 3,_=>rfl
 | 4,_=>rfl
 | 5,_=>rfl
 | 6,_=>rfl
 | 7,_=>rfl,fun c _ h=>absurd h (by rw[show pend [] ((c:Nat):Int) = -1 from rfl]; decide),fun c d hc hd _ b hb _=>by
 have:=List.mem_of_getElem? hb
 have hz:∀b∈rd0.busy,b=0:=by decide
 exact hz b this⟩
theorem lM.fits {p:List HEv} {s:RdS} (T:lM p s) (x:HEv):(ba s x).2=fitB p x:=by
 unfold ba fitB
 simp only
 by_cases k1:x.kind=1
 ·rw[if_pos k1,if_pos k1]
  have e:inv1 s x=fit1 p x:=by
   unfold inv1 fit1
   by_cases c0:0≤x.client
   ·by_cases c8:x.client<8
    ·have c7:x.client≤7:=by omega
     have hc:((x.client.toNat:Nat):Int)=x.client:=Int.toNat_of_nonneg c0
     have hb:decide (s.busy[x.client.toNat]?=some 0)=decide (pend p x.client<0):=by
      by_cases hp:pend p x.client<0
      ·rw[T.idle x.client.toNat (by omega) (by rw[hc]; exact hp),dT hp]; rfl
      ·obtain⟨b,o,y,h1,h2,_⟩:=T.busy x.client.toNat (by omega) (by rw[hc]; omega)
       rw[h1,dF hp]
       exact dF fun e=>by cases e; omega
     rw[hb,dT c8,dT c7]
    ·rw[dF c8,dF (by omega:¬x.client≤7)]; simp
   ·rw[dF c0]; simp
  rw[←e]
  cases inv1 s x <;> rfl
 ·rw[if_neg k1,if_neg k1]
  by_cases k2:x.kind=2
  ·rw[if_pos k2,if_pos k2]
   have e:ret1 s x=fit2 p x:=by
    unfold ret1 fit2
    by_cases c0:0≤x.client
    ·by_cases c8:x.client<8
     ·have c7:x.client≤7:=by omega
      have hc:((x.client.toNat:Nat):Int)=x.client:=Int.toNat_of_nonneg c0
      by_cases hp:pend p x.client<0
      ·rw[T.idle x.client.toNat (by omega) (by rw[hc]; exact hp),dT hp]
       simp
      ·obtain⟨b,o,y,h1,h2,h3,h4,h5⟩:=T.busy x.client.toNat (by omega) (by rw[hc]; omega)
       rw[hc]at h4
       rw[opOf,h1]
       simp only
       rw[h3,h4,dF hp,dT c8,dT c7,dT c0,dF (fun e=>by cases e; omega:¬some b=some 0)]
       simp only[h5]
       cases decide (x.op=zOp) <;> cases kn4 x.err <;> cases decide (x.value=zBk) <;> cases decide (y.op.kind=1) <;> cases decide (x.err=0) <;> rfl
     ·rw[dF c8,dF (by omega:¬x.client≤7)]; simp
    ·rw[dF c0]; simp
   rw[←e]
   cases ret1 s x <;> rfl
  ·rw[if_neg k2,if_neg k2]
   by_cases k3:x.kind=3
   ·rw[if_pos k3,if_pos k3]
   ·rw[if_neg k3,if_neg k3]
theorem iQ {s:RdS} {x:HEv} (h:(ba s x).2=true):x.kind=1∧inv1 s x=true∨x.kind=2∧ret1 s x=true∨x.kind=3∧gX x=true:=by
 unfold ba at h
 simp only at h
 by_cases k1:x.kind=1
 ·rw[if_pos k1]at h
  cases hi:inv1 s x with
  | true=>exact .inl ⟨k1,rfl⟩
  | false=>rw[hi]at h; cases h
 ·rw[if_neg k1]at h
  by_cases k2:x.kind=2
  ·rw[if_pos k2]at h
   cases hi:ret1 s x with
   | true=>exact .inr (.inl ⟨k2,rfl⟩)
   | false=>rw[hi]at h; cases h
  ·rw[if_neg k2]at h
   by_cases k3:x.kind=3
   ·rw[if_pos k3]at h; exact .inr (.inr ⟨k3,h⟩)
   ·rw[if_neg k3]at h; cases h
theorem j2 {s:RdS} {x:HEv} (h:inv1 s x=true):0≤x.client∧x.client<8∧s.busy[x.client.toNat]?=some 0∧x.op.data.length≤64∧x.value=zBk∧x.err=0:=by
 simp only[inv1,Bool.and_eq_true,decide_eq_true_eq]at h
 obtain⟨⟨⟨⟨⟨h1,h2⟩,h3⟩,h4⟩,h5⟩,h6⟩:=h
 exact⟨h1,h2,h3,h4,h5,h6⟩
theorem jQ {s:RdS} {x:HEv} {n:Nat} (hs:s.Ok n) (h:ret1 s x=true):0≤x.client∧x.client<8∧x.op=zOp∧kn4 x.err=true∧∃b o,s.busy[x.client.toNat]?=some b∧0<b∧s.all[(b-1).toNat]?=some o∧opOf s x=some o∧(x.value=zBk∨o.op.kind=1∧x.err=0):=by
 simp only[ret1,Bool.and_eq_true,decide_eq_true_eq]at h
 obtain⟨⟨⟨⟨⟨h1,h2⟩,h3⟩,h4⟩,h5⟩,h6⟩:=h
 obtain⟨b,hbg⟩:∃b,s.busy[x.client.toNat]?=some b:=⟨_,List.getElem?_eq_getElem (by rw[hs.blen]; omega)⟩
 have hb:=hs.busy b (List.mem_of_getElem? hbg)
 have hb0:b≠0:=by rw[hbg]at h3; simpa using h3
 obtain⟨o,hog⟩:∃o,s.all[(b-1).toNat]?=some o:=⟨_,List.getElem?_eq_getElem (by omega)⟩
 have ho:opOf s x=some o:=by rw[opOf,hbg]; exact hog
 rw[ho]at h6
 refine⟨h1,h2,h4,h5,b,o,hbg,by omega,hog,ho,?_⟩
 simpa[Bool.or_eq_true,Bool.and_eq_true]using h6
theorem fK {s:RdS} {x:HEv} (k1:x.kind=1) (h:inv1 s x=true):(ba s x).1=⟨s.busy.set x.client.toNat (s.all.length+1),s.number.set x.client.toNat ((s.number[x.client.toNat]?.getD 0)+1),s.era,s.read+1,s.all++[⟨x.client,s.number[x.client.toNat]?.getD 0,s.era,x.op,s.read,-1,zBk,0⟩]⟩:=by simp[ba,k1,h]
theorem fJ {s:RdS} {x:HEv} {b:Int} {o:HOp} (k2:x.kind=2) (h:ret1 s x=true) (hb:s.busy[x.client.toNat]?=some b) (ho:opOf s x=some o):(ba s x).1=⟨s.busy.set x.client.toNat 0,s.number,s.era,s.read+1,s.all.set (b-1).toNat { o with returned:=s.read,value:=x.value,err:=x.err }⟩:=by simp[ba,k2,h,ho,hb]
theorem fU {s:RdS} {x:HEv} (k3:x.kind=3):(ba s x).1=⟨cu,s.number,s.era+1,s.read+1,s.all⟩:=by simp[ba,k3]
theorem iu {α:Type} {p:List α} {x y:α} {k:Nat} (h:p[k]?=some y):(p++[x])[k]?=some y:=by
 rw[List.getElem?_append_left (List.getElem?_eq_some_iff.1 h).1]; exact h
theorem lM.next {p:List HEv} {s:RdS} (T:lM p s) {x:HEv} (h:(ba s x).2=true):lM (p++[x]) (ba s x).1:=by
 have hok:=T.ok.next x
 have hlen:(p++[x]).length=p.length+1:=by simp
 rcases iQ h with ⟨k1,hi⟩ | ⟨k2,hi⟩ | ⟨k3,hi⟩
 ·obtain⟨c0,c8,hb,_,_,_⟩:=j2 hi
  have e:=fK k1 hi
  rw[e]at hok ⊢
  have hps:∀d:Int,pend (p++[x]) d=if x.client=d then (p.length:Int) else pend p d:=fun d=>by
   rw[jb,gi,if_neg (by omega),if_pos k1]
  refine⟨by rw[hlen]; exact hok,fun d hd hp=>?_,fun d hd hp=>?_,fun c d hc hd hcd b h1 h2=>?_⟩
  ·rw[hps]at hp
   by_cases hcd:x.client=d
   ·rw[if_pos hcd]at hp; omega
   ·rw[if_neg hcd]at hp
    rw[List.getElem?_set_ne (by omega)]
    exact T.idle d hd hp
  ·rw[hps]at hp ⊢
   by_cases hcd:x.client=d
   ·rw[if_pos hcd]
    refine⟨s.all.length+1,_,x,by rw[show x.client.toNat=d by omega]; exact List.getElem?_set_self (by rw[T.ok.blen]; exact hd),by omega,by
     rw[show ((s.all.length:Int)+1-1).toNat=s.all.length by omega]
     exact List.getElem?_concat_length .., by
     rw[Int.toNat_natCast]
     exact List.getElem?_concat_length .., rfl⟩
   ·rw[if_neg hcd]at hp ⊢
    obtain⟨b,o,y,g1,g2,g3,g4,g5⟩:=T.busy d hd hp
    exact⟨b,o,y,by rw[List.getElem?_set_ne (by omega)]; exact g1,g2,iu g3,iu g4,g5⟩
  ·have hbb:∀(k:Nat) (b:Int),s.busy[k]?=some b→b≤s.all.length:=fun k b hk=>(T.ok.busy b (List.mem_of_getElem? hk)).2
   by_cases e1:x.client.toNat=c
   ·subst e1
    rw[List.getElem?_set_self (by rw[T.ok.blen]; exact hc)]at h1
    rw[List.getElem?_set_ne hcd]at h2
    have:=hbb _ _ h2
    cases h1
    omega
   ·rw[List.getElem?_set_ne e1]at h1
    by_cases e2:x.client.toNat=d
    ·subst e2
     rw[List.getElem?_set_self (by rw[T.ok.blen]; exact hd)]at h2
     have:=hbb _ _ h1
     cases h2
     omega
    ·rw[List.getElem?_set_ne e2]at h2
     exact T.free c d hc hd hcd b h1 h2
 ·obtain⟨c0,c8,_,_,b,o,hb,hb0,hog,ho,_⟩:=jQ T.ok hi
  have e:=fJ k2 hi hb ho
  rw[e]at hok ⊢
  have hps:∀d:Int,pend (p++[x]) d=if x.client=d then-1 else pend p d:=fun d=>by
   rw[jb,gi,if_neg (by omega),if_neg (by omega),if_pos k2]
  refine⟨by rw[hlen]; exact hok,fun d hd hp=>?_,fun d hd hp=>?_,fun c d hc hd hcd b' h1 h2=>?_⟩
  ·rw[hps]at hp
   by_cases hcd:x.client=d
   ·rw[show x.client.toNat=d by omega]; exact List.getElem?_set_self (by rw[T.ok.blen]; exact hd)
   ·rw[if_neg hcd]at hp
    rw[List.getElem?_set_ne (by omega)]
    exact T.idle d hd hp
  ·rw[hps]at hp ⊢
   by_cases hcd:x.client=d
   ·rw[if_pos hcd]at hp; omega
   ·rw[if_neg hcd]at hp ⊢
    obtain⟨b',o',y,g1,g2,g3,g4,g5⟩:=T.busy d hd hp
    have hne:b'≠b:=fun e=>by
     subst e
     have:=T.free x.client.toNat d (by omega) hd (by omega) _ hb g1
     omega
    exact⟨b',o',y,by rw[List.getElem?_set_ne (by omega)]; exact g1,g2,by rw[List.getElem?_set_ne (by omega)]; exact g3,iu g4,g5⟩
  ·by_cases e1:x.client.toNat=c
   ·subst e1
    rw[List.getElem?_set_self (by rw[T.ok.blen]; exact hc)]at h1
    cases h1; rfl
   ·rw[List.getElem?_set_ne e1]at h1
    by_cases e2:x.client.toNat=d
    ·subst e2
     rw[List.getElem?_set_self (by rw[T.ok.blen]; exact hd)]at h2
     cases h2; rfl
    ·rw[List.getElem?_set_ne e2]at h2
     exact T.free c d hc hd hcd b' h1 h2
 ·have e:=fU (s:=s) k3
  rw[e]at hok ⊢
  have hps:∀d:Int,pend (p++[x]) d = -1:=fun d=>by rw[jb,gi,if_pos k3]
  have hz:∀b∈cu,b=0:=by decide
  refine⟨by rw[hlen]; exact hok,fun d hd _=>?_,fun d hd hp=>by rw[hps]at hp; omega,fun c d _ _ _ b h1 _=>hz b (List.mem_of_getElem? h1)⟩
  obtain⟨b,hb⟩:∃b,cu[d]?=some b:=⟨_,List.getElem?_eq_getElem hd⟩
  show cu[d]?=some 0
  rw[hb,hz b (List.mem_of_getElem? hb)]
theorem pp (h:List HEv):∀(n:Nat) (s:RdS) (i:Nat),h.length-i=n→i≤h.length→lM (h.take i) s →
  jS h n i=(if 0≤(goS s (h.drop i) i).2 then ((goS s (h.drop i) i).2,18) else (0,0))∧((goS s (h.drop i) i).2<0→lM h (goS s (h.drop i) i).1)
 | 0,s,i,hn,hi,T=>by
  have he:i=h.length:=by omega
  subst he
  rw[List.drop_length]
  rw[List.take_length]at T
  exact⟨rfl,fun _=>T⟩
 | n+1,s,i,hn,hi,T=>by
  obtain⟨x,hx⟩:∃x,h[i]?=some x:=⟨_,List.getElem?_eq_getElem (by omega)⟩
  have htk:h.take (i+1)=h.take i++[x]:=by rw[List.take_add_one,hx]; rfl
  rw[it hx,jS,hx]
  simp only
  rw[←T.fits x]
  cases hb:(ba s x).2 with
  | true =>
   simp only[if_pos]
   have T':=T.next hb
   rw[←htk]at T'
   exact pp h n _ (i+1) (by omega) (by omega) T'
  | false =>
   simp only[Bool.false_eq_true,if_false]
   rw[if_pos (by omega)]
   exact⟨rfl,fun hlt=>by omega⟩
theorem qD (h:List HEv):chkH h=rchk h:=by
 unfold chkH rchk
 by_cases h8:8192<h.length
 ·rw[if_pos h8,if_pos h8]
 ·rw[if_neg h8,if_neg h8]
  exact (pp h h.length rd0 0 (by omega) (Nat.zero_le _) y6).1.symm
end Go.Proofs.YtpjiiolnfbfcbaaGreatDoor
namespace Go.Proofs.YtpjiiolnfbfcbaaGreatDoor
open Go.Eng Go.Plain
set_option maxHeartbeats 32000000
set_option maxRecDepth 20000
attribute [local irreducible] WC RegS RegD SeqQ BlkQ ScoQ RegK CutK Sat SatN FnIs LoopQ an OpIs
theorem vm {l p:List UInt8}:FnIs Tryz.prog 66 [.d (strD l),.d (strD p)] [] (.d (strD (Lib.trimPrefix l p))) []:=
 .of_calls1 rfl ⟨_,Tryz.func66,by kernel_rfl,by kernel_rfl⟩ fun σ w X vs ha hg=>by
  rw[ha.two]
  refine (Tryz.strings_TrimPrefix (mkS l) (mkS p) w).mono ?_
  rintro e w' ⟨rfl,rfl⟩
  exact⟨by rw[cZ,cZ]; rfl,Go.RowKit.Below.refl _ _⟩
theorem vk {l p:List UInt8} (hl:l.length≤9223372036854775807):FnIs Tryz.prog 65 [.d (strD l),.d (strD p)] [] (.d (strD (Lib.trimSuffix l p))) []:=
 .of_calls1 rfl ⟨_,Tryz.func65,by kernel_rfl,by kernel_rfl⟩ fun σ w X vs ha hg=>by
  rw[ha.two]
  refine (Tryz.strings_TrimSuffix (mkS l) (mkS p) w (by rw[cz]; exact hl)).mono ?_
  rintro e w' ⟨rfl,rfl⟩
  exact⟨by rw[cZ,cZ]; rfl,Go.RowKit.Below.refl _ _⟩
theorem vo (p s:List UInt8):Lib.trimPrefix (p++s) p=s:=by
 rw[Lib.trimPrefix,Lib.hasPrefix,if_pos (by rw[List.isPrefixOf_iff_prefix]; exact List.prefix_append _ _),List.drop_left]
theorem vn (s q:List UInt8):Lib.trimSuffix (s++q) q=s:=by
 rw[Lib.trimSuffix,Lib.hasSuffix,if_pos (by rw[List.isSuffixOf_iff_suffix]; exact List.suffix_append _ _)]
 simp
def sOk:List UInt8:=[111,107]
def sArg:List UInt8:=[97,114,103]
def gJ:List UInt8:=[110,111,110,99,101]
def gK:List UInt8:=[105,110,116,101,103,114,105,116,121]
def cq:List (Int×AV):=[(0,.d (strD sOk)),(1,.d (strD sArg)),(8,.d (strD gJ)),(9,.d (strD gK))]
theorem fl:fT Tryz.prog 30 i6 1:=uF Tryz.underlying30 .i64
theorem mg:FnIs Tryz.prog 41 [] [] (.mapr 64) [(64,.mo (mapC i6 cq))]:=by
 refine au aa Tryz.func41 rfl rfl rfl ?_;refine sR<|rC<|nR ?_;refine aJ (qb) rfl ?_;refine bB rfl (dI (κ:=Int) (enc:=i6) (l:=cq.take 0) (k:=0) (v :=.d (strD sOk)) fl Tryz.underlying99 rfl rfl rfl rfl rfl) rfl rfl ?_;refine bB rfl (dI (κ:=Int) (enc:=i6) (l:=cq.take 1) (k:=1) (v :=.d (strD sArg)) fl Tryz.underlying99 rfl rfl rfl rfl rfl) rfl rfl ?_;refine bB rfl (dI (κ:=Int) (enc:=i6) (l:=cq.take 2) (k:=8) (v :=.d (strD gJ)) fl Tryz.underlying99 rfl rfl rfl rfl rfl) rfl rfl ?_;refine bB rfl (dI (κ:=Int) (enc:=i6) (l:=cq.take 3) (k:=9) (v :=.d (strD gK)) fl Tryz.underlying99 rfl rfl rfl rfl rfl) rfl rfl ?_;refine zD<|zT ?_
 exact⟨trivial,[(64,some _)],lg zV ⟨zR,trivial⟩⟩
theorem yo (l:List UInt8) (hl32:l.length=32):FnIs Tryz.prog 40 [.d (fg l)] [] (.d (strD (hexP l))) []:=by
 have hne:l≠[]:=fun e=>by rw[e]at hl32; cases hl32
 have hL:l.length≤524288:=by omega
 have hbl:(byI l).length=l.length:=b6 l
 refine au aa Tryz.func40 rfl rfl rfl ?_;refine sR<|rN ?_;refine rC<|nR ?_;refine rN<|zW ?_;refine rQ iM ?_;refine rC<|zP ?_
 refine wc_inv (fun i:Nat=>⟨[(7,.int .i64 i),(6,.d (fg l)),(3,.ptr 65 [])],[(65,some (cY (Nat.beq i 0) 65 66 (2*i))),(66,some (rowT ((l.take i).flatMap hexB)))],72,Tryz.f40.ntmps,64⟩) (fun i=>i≤l.length) (fun i=>l.length-i) 0 [(65,some _),(66,none)] (Nat.zero_le _)
  (lg zj ⟨⟨rfl,rfl,_,rfl,bj.split2⟩,⟨rfl,rfl,rfl⟩,trivial⟩) ?_
 intro i hi
 refine bG<|sR ?_;refine rC<|nQ ?_
 refine bO rfl (fun h3=>?_) (fun h3=>?_)
 ·have hlt:i<l.length:=by have:=of_decide_eq_true h3; omega
  obtain⟨b,hb⟩:∃b,l[i]?=some b:=⟨_,List.getElem?_eq_getElem hlt⟩
  have hb':(byI l)[((i:Int)).toNat]?=some (b.toNat:Int):=by rw[Int.toNat_natCast]; exact o9 hb
  have hb8:b.toNat<256:=b.toNat_lt
  have hw16:IntKind.u8.wrap ((b.toNat/16:Nat):Int)=((b.toNat/16:Nat):Int):=ci (by omega)
  have hd1:=kb (n:=b.toNat/16) (by omega)
  have hd2:=kb (n:=b.toNat % 16) (by omega)
  have hpl:((l.take i).flatMap hexB).length=2*i:=by rw[da,List.length_take,Nat.min_eq_left hi]
  have hp1:2*i+1≤1048576:=by omega
  have hpl2:((l.take i).flatMap hexB++[hexC (b.toNat/16)]).length=2*i+1:=by rw[List.length_append,hpl]; rfl
  have hp2:2*i+1+1≤1048576:=by omega
  have hgo:=mY hb
  refine zQ<|zS<|rQ (uH aa rfl rfl rfl rfl rfl (by omega) (by omega) ⟨rfl,_,hb',rfl⟩ rfl) ?_;refine rC<|nR ?_;refine rC ?_;refine rQ (dL (a:=b.toNat) (b:=16) aa rfl rfl rfl (by decide) hw16) ?_;refine rQ (eT (l:=hexD) (m:=b.toNat/16) aa rfl rfl rfl hd1) ?_;refine bB rfl (bJ [(0,some 65),(1,some 66)] (fi (Nat.beq i 0) ((l.take i).flatMap hexB) (hexC (b.toNat/16)) (2*i) hpl hp1) rfl rfl rfl (bC rfl rfl (aj ab)) ⟨⟨rfl,(by cases Nat.beq i 0 <;> rfl),_,_,rfl,rfl,(by cases Nat.beq i 0 <;> exact .refl _)⟩,zH,trivial⟩ rfl rfl (.inl rfl) rfl rfl) rfl rfl<|nS<|am ?_;refine rC ?_;refine rQ (bH (a:=b.toNat) (b:=16) aa rfl rfl rfl (by decide)) ?_;refine rQ (eT (l:=hexD) (m:=b.toNat % 16) aa rfl rfl rfl hd2) ?_;refine bB rfl (bJ [(0,some 65),(1,some _)] (fi false ((l.take i).flatMap hexB++[hexC (b.toNat/16)]) (hexC (b.toNat % 16)) (2*i+1) hpl2 hp2) rfl rfl rfl (bC rfl rfl (aj ab)) ⟨zH,zH,trivial⟩ rfl rfl (.inl rfl) rfl rfl) rfl rfl<|aA<|zC<|am ?_;refine rQ iD ?_;refine rC<|aA ?_
  exact aN (i+1) [(66,some _)] hlt (by omega) (lg zj ⟨zR,⟨rfl,rfl,_,rfl,bj.of_eq (congrArg rowT hgo)⟩,trivial⟩)
 ·have he:i=l.length:=by have:=of_decide_eq_false h3; omega
  subst he
  have hnn:l.flatMap hexB≠[]:=fun e=>by have:=da l; rw[e]at this; simp at this; omega
  have hp4:2*l.length≤1048576:=by omega
  have hbz:Nat.beq l.length 0=false:=by
   cases hz:Nat.beq l.length 0 with
   | false=>rfl
   | true=>have:=Nat.eq_of_beq_eq_true hz; omega
  rw[hbz,List.take_length]
  refine zX<|sR<|aT (bJ [(0,some 65),(1,some 66)] (gY (l.flatMap hexB) (2*l.length) (da l) hnn hp4) rfl rfl rfl (bC rfl rfl ab) ⟨zH,zH,trivial⟩ rfl rfl (.inl rfl) rfl rfl) rfl ?_;refine rC<|zT ?_
  rw[show hexP l=l.flatMap hexB from if_neg hne]
  exact⟨trivial,[],lf⟩
theorem tA {o:POp} (hd:o.data.length≤64):chkP [[o]]=0:=dV.2 ⟨by simp,fun p hp=>by
 rw[List.mem_singleton.1 hp]
 simp[badP]; try omega⟩
theorem mj (o:POp):bX [[o]]=(aI++[10])++(bd o++[10]):=by simp[bX,opsT]
theorem zZ (o:POp) (hok:o.Ok) (hd:o.data.length≤64):FnIs Tryz.prog 39 [.d (bu o)] [] (.d (strD (bd o))) []:=by
 have h0:=tA hd
 have ht:=xO [[o]] (Ap h0) (fun p hp q hq=>by rw[List.mem_singleton.1 hp]at hq; rw[List.mem_singleton.1 hq]; exact hok)
 rw[h0,if_pos rfl,mj]at ht
 have hp:=vm (l:=(aI++[10])++(bd o++[10])) (p:=aI++[10])
 rw[vo]at hp
 have hs:=vk (l:=bd o++[10]) (p:=[10]) (by have:=iq hok; simp; omega)
 rw[vn]at hs
 refine au aa Tryz.func39 rfl rfl rfl ?_;refine sR<|rN ?_;refine rC<|nR ?_;refine rQ iM ?_;refine rQ (an.frozen (aC (s:=3) aa rfl rfl rfl rfl rfl rfl rfl rfl) (Frz.lits1 (enc:=bu) o rfl rfl)) ?_;refine rQ (an.frozen (aC (s:=1) aa rfl rfl rfl rfl rfl rfl rfl rfl) (Frz.lits1 (enc:=encP) [o] rfl rfl)) ?_;refine rQ (ak ht rfl rfl (aj ab) (.inl rfl) (fun _=>rfl)) ?_
 iterate 5 refine rC ?_
 refine nR<|rC ?_;refine rQ (ak hp rfl rfl (aj (aj ab)) (.inl rfl) (fun _=>rfl)) ?_;refine rQ (ak hs rfl rfl (aj (aj ab)) (.inl rfl) (fun _=>rfl)) ?_;refine rC<|zT ?_
 exact⟨trivial,[],lf⟩
def bF:List UInt8:=[99,114,97,115,104]
def bx:List UInt8:=[105,110,118,111,107,101]
def aU:List UInt8:=[114,101,116,117,114,110]
def fY (e:Int):List UInt8:=if e=0 then sOk else if e=1 then sArg else if e=8 then gJ else if e=9 then gK else[]
def bv (x:HEv):List UInt8:=if x.kind=3 then bF else if x.kind=1 then (bx++[32])++Lib.itoa x.client++[32]++bd x.op else if x.value=zBk then (aU++[32])++Lib.itoa x.client++[32]++fY x.err else (aU++[32])++Lib.itoa x.client++[32,111,107,32]++hexP x.value
theorem vh:jL Tryz.prog 9 (strD []):=sT (by kernel_rfl) rfl
theorem uQ (e:Int):dK e cq 0=(if e=0 then some (0,.d (strD sOk)) else if e=1 then some (1,.d (strD sArg)) else if e=8 then some (2,.d (strD gJ)) else if e=9 then some (3,.d (strD gK)) else none):=by
 simp only[cq,dK]
theorem j4 (x:HEv) (hok:x.Ok) (hd:x.op.data.length≤64):FnIs Tryz.prog 15 [.d (aY x)] [] (.d (strD (bv x))) []:=by
 have hil:=bA hok.client.1 hok.client.2
 have hll:=iq hok.op
 have hhl:=cm x.value
 rw[hok.value]at hhl
 refine au aa Tryz.func15 rfl rfl rfl ?_
 unfold bv
 refine sR<|rN ?_;refine rC<|nR ?_;refine rC ?_;refine rQ iB ?_;refine rQ (ak (dU hok.client.1 hok.client.2) rfl rfl (aj ab) (.inl rfl) (fun _=>rfl)) ?_;refine rC<|nQ<|zS ?_;refine rC ?_;refine rQ iB ?_;refine zD<|nS ?_
 by_cases k3:x.kind=3
 ·have d3:decide (x.kind=3)=true:=dT k3
  rw[if_pos k3]
  refine wT<|sR ?_;refine rC<|zT<|zB ?_
  exact⟨trivial,[],lf⟩
 ·have d3:decide (x.kind=3)=false:=dF k3
  rw[if_neg k3]
  refine wF<|sR ?_;refine rC ?_;refine rQ iB ?_;refine zD<|nS ?_
  by_cases k1:x.kind=1
  ·have d1:decide (x.kind=1)=true:=dT k1
   rw[if_pos k1]
   refine wT<|sR ?_;refine rC ?_;refine rQ (aG (a:=bx++[32]) (b:=Lib.itoa x.client) rfl rfl (by simp[bx]; omega) rfl) ?_;refine rQ (aG (a:=bx++[32]++Lib.itoa x.client) (b:=[32]) rfl rfl (by simp[bx]; omega) rfl) ?_;refine rC ?_;refine rQ iB ?_;refine rQ (ak (zZ x.op hok.op hd) rfl rfl (aj ab) (.inl rfl) (fun _=>rfl)) ?_;refine rQ (aG (a:=bx++[32]++Lib.itoa x.client++[32]) (b:=bd x.op) rfl rfl (by simp[bx]; omega) rfl) ?_;refine rC<|zT<|zB ?_
   exact⟨trivial,[],lf⟩
  ·have d1:decide (x.kind=1)=false:=dF k1
   rw[if_neg k1]
   refine wF<|sR ?_;refine rC ?_;refine rQ iB ?_;refine rQ (aV aa rfl rfl rfl) ?_;refine rQ (im rfl rfl rfl rfl (by kernel_rfl) (by decide) (bq x.value zBk)) ?_;refine rC<|nS ?_
   by_cases hv:x.value=zBk
   ·have v0:(!decide (x.value=zBk))=false:=by rw[dT hv]; rfl
    rw[if_pos hv]
    have hf:=uQ x.err
    unfold fY
    refine wF<|aL<|zC<|bk ?_;refine aE (by kernel_rfl) ?_;refine dC [3] [] ?_;refine dQ [34] [] (aG (a:=aU++[32]) (b:=Lib.itoa x.client) rfl rfl (by simp[aU]; omega) rfl) ?_;refine dQ [35] [] (aG (a:=aU++[32]++Lib.itoa x.client) (b:=[32]) rfl rfl (by simp[aU]; omega) rfl) ?_;refine fD [] [] rfl (bJ [] mg rfl rfl rfl ab trivial rfl rfl (.inl rfl) rfl rfl) ?_;refine dC [1] [] ?_;refine dQ [38] [64] iB ?_
    by_cases h0:x.err=0
    ·rw[if_pos h0]at hf ⊢
     obtain⟨W,hW⟩:∃W,W=sOk:=⟨_,rfl⟩
     have hWl:W.length≤20:=by rw[hW]; decide
     rw[←hW]at hf ⊢
     refine dQ [37,39] [240] (fN (κ:=Int) (enc:=i6) (l:=cq) (k:=x.err) fl Tryz.underlying99 rfl rfl rfl hf) ?_;refine dQ [36,40] [] (aG (a:=aU++[32]++Lib.itoa x.client++[32]) (b:=W) rfl rfl (by simp[aU]; omega) rfl) ?_;refine dC [41] [] ?_;refine aB (by kernel_rfl)<|aM<|bR ?_
     exact⟨trivial,[],lf⟩
    ·rw[if_neg h0]at hf ⊢
     skip
     by_cases h1:x.err=1
     ·rw[if_pos h1]at hf ⊢
      obtain⟨W,hW⟩:∃W,W=sArg:=⟨_,rfl⟩
      have hWl:W.length≤20:=by rw[hW]; decide
      rw[←hW]at hf ⊢
      refine dQ [37,39] [240] (fN (κ:=Int) (enc:=i6) (l:=cq) (k:=x.err) fl Tryz.underlying99 rfl rfl rfl hf) ?_;refine dQ [36,40] [] (aG (a:=aU++[32]++Lib.itoa x.client++[32]) (b:=W) rfl rfl (by simp[aU]; omega) rfl) ?_;refine dC [41] [] ?_;refine aB (by kernel_rfl)<|aM<|bR ?_
      exact⟨trivial,[],lf⟩
     ·rw[if_neg h1]at hf ⊢
      skip
      by_cases h8:x.err=8
      ·rw[if_pos h8]at hf ⊢
       obtain⟨W,hW⟩:∃W,W=gJ:=⟨_,rfl⟩
       have hWl:W.length≤20:=by rw[hW]; decide
       rw[←hW]at hf ⊢
       refine dQ [37,39] [240] (fN (κ:=Int) (enc:=i6) (l:=cq) (k:=x.err) fl Tryz.underlying99 rfl rfl rfl hf) ?_;refine dQ [36,40] [] (aG (a:=aU++[32]++Lib.itoa x.client++[32]) (b:=W) rfl rfl (by simp[aU]; omega) rfl) ?_;refine dC [41] [] ?_;refine aB (by kernel_rfl)<|aM<|bR ?_
       exact⟨trivial,[],lf⟩
      ·rw[if_neg h8]at hf ⊢
       skip
       by_cases h9:x.err=9
       ·rw[if_pos h9]at hf ⊢
        obtain⟨W,hW⟩:∃W,W=gK:=⟨_,rfl⟩
        have hWl:W.length≤20:=by rw[hW]; decide
        rw[←hW]at hf ⊢
        refine dQ [37,39] [240] (fN (κ:=Int) (enc:=i6) (l:=cq) (k:=x.err) fl Tryz.underlying99 rfl rfl rfl hf) ?_;refine dQ [36,40] [] (aG (a:=aU++[32]++Lib.itoa x.client++[32]) (b:=W) rfl rfl (by simp[aU]; omega) rfl) ?_;refine dC [41] [] ?_;refine aB (by kernel_rfl)<|aM<|bR ?_
        exact⟨trivial,[],lf⟩
       ·rw[if_neg h9]at hf ⊢
        refine dQ [37,39] [240] (qc (κ:=Int) (enc:=i6) (l:=cq) (k:=x.err) fl Tryz.underlying99 vh rfl rfl rfl hf) ?_;refine dQ [36,40] [] (aG (a:=aU++[32]++Lib.itoa x.client++[32]) (b:=[]) rfl rfl (by simp[aU]; omega) rfl) ?_;refine dC [41] [] ?_;refine aB (by kernel_rfl)<|aM<|bR ?_
        exact⟨trivial,[],lf⟩
   ·have v0:(!decide (x.value=zBk))=true:=by rw[dF hv]; rfl
    rw[if_neg hv]
    refine wT<|sR ?_;refine rC ?_;refine rQ (aG (a:=aU++[32]) (b:=Lib.itoa x.client) rfl rfl (by simp[aU]; omega) rfl) ?_;refine rQ (aG (a:=aU++[32]++Lib.itoa x.client) (b:=[32,111,107,32]) rfl rfl (by simp[aU]; omega) rfl) ?_;refine rC ?_;refine rQ iB ?_;refine rQ (ak (yo x.value hok.value) rfl rfl (aj ab) (.inl rfl) (fun _=>rfl)) ?_;refine rQ (aG (a:=aU++[32]++Lib.itoa x.client++[32,111,107,32]) (b:=hexP x.value) rfl rfl (by simp[aU]; omega) rfl) ?_;refine rC<|zT<|zB ?_
    exact⟨trivial,[],lf⟩
end Go.Proofs.YtpjiiolnfbfcbaaGreatDoor
namespace Go.Proofs.YtpjiiolnfbfcbaaGreatDoor
open Go.Eng Go.Plain
set_option maxHeartbeats 32000000
set_option maxRecDepth 20000
def WfE (x:HEv):Prop := -9223372036854775808≤x.client∧x.client≤9223372036854775807 ∧
  (x.kind=3∧x.client=0∧x.op=zOp∧x.value=zBk∧x.err=0 ∨
   x.kind=1∧x.value=zBk∧x.err=0∧x.op.Ok∧x.op.data.length≤64 ∨
   x.kind=2∧x.op=zOp∧kn4 x.err=true∧x.value.length=32∧(x.value≠zBk→x.err=0))
def ch:HEv:=⟨3,0,zOp,zBk,0⟩
theorem jp:WfE ch:=⟨by decide,by decide,.inl ⟨rfl,rfl,rfl,rfl,rfl⟩⟩
theorem fF {l:List UInt8} (h:cr l=true) : -9223372036854775808≤db l∧db l≤9223372036854775807:=by
 unfold cr at h
 unfold db
 cases e:Lib.atoiAll l with
 | ok n=>simp only; exact Lib.atoiAll_bounds e
 | _=>rw[e]at h; cases h
def dR (w:List UInt8):Option Int:=if w=sOk then some 0 else if w=sArg then some 1 else if w=gJ then some 8 else if w=gK then some 9 else none
def ff (s:List UInt8):Option (List UInt8):=if s.length=64 then eG s else none
def finE (s:List UInt8) (b:Bool) (x:HEv):Option HEv:=if b=true∧bv x=s then some x else none
def evP (s:List UInt8):Option HEv :=
 if s=bF then some ch
 else if (cutA s 32).1=bx then
  match bM (aI++10::((cutA (cutA s 32).2.1 32).2.1++[10])) [] 1 with
  | ([[o]],_,e)=>if e=0 then finE s (cr (cutA (cutA s 32).2.1 32).1) ⟨1,db (cutA (cutA s 32).2.1 32).1,o,zBk,0⟩ else none
  | _=>none
 else if (cutA s 32).1=aU then
  match dR (cutA (cutA (cutA s 32).2.1 32).2.1 32).1 with
  | none=>none
  | some k=>if (cutA (cutA (cutA s 32).2.1 32).2.1 32).2.2=true then
    match ff (cutA (cutA (cutA s 32).2.1 32).2.1 32).2.1 with
    | none=>none
    | some v=>finE s (cr (cutA (cutA s 32).2.1 32).1) ⟨2,db (cutA (cutA s 32).2.1 32).1,zOp,v,k⟩
   else finE s (cr (cutA (cutA s 32).2.1 32).1) ⟨2,db (cutA (cutA s 32).2.1 32).1,zOp,zBk,k⟩
 else none
theorem eV {c:UInt8} {p:List UInt8} (q:List UInt8) (h:c ∉ p):cutA (p++c::q) c=(p,q,true):=by
 unfold cutA; rw[fm q h]
theorem yJ {c:UInt8} {p:List UInt8} (h:c ∉ p):cutA p c=(p,[],false):=by
 unfold cutA
 cases e:cutL p c with
 | none=>rfl
 | some pq =>
  obtain⟨p',q⟩:=pq
  have:=(cM e).1
  exact absurd (by rw[this]; simp) h
theorem jj (n:Int):(32:UInt8) ∉ Lib.itoa n:=fun h=>(j1 h).2 rfl
theorem gR {w:List UInt8} {k:Int} (h:dR w=some k):kn4 k=true∧w=fY k:=by
 unfold dR at h
 by_cases h0:w=sOk
 ·rw[if_pos h0]at h; cases h; exact⟨rfl,h0⟩
 ·rw[if_neg h0]at h
  by_cases h1:w=sArg
  ·rw[if_pos h1]at h; cases h; exact⟨rfl,h1⟩
  ·rw[if_neg h1]at h
   by_cases h2:w=gJ
   ·rw[if_pos h2]at h; cases h; exact⟨rfl,h2⟩
   ·rw[if_neg h2]at h
    by_cases h3:w=gK
    ·rw[if_pos h3]at h; cases h; exact⟨rfl,h3⟩
    ·rw[if_neg h3]at h; cases h
theorem eS {e:Int} (h:kn4 e=true):e=0∨e=1∨e=8∨e=9:=by
 simp only[kn4,Bool.or_eq_true,decide_eq_true_eq]at h
 omega
theorem so {e:Int} (h:kn4 e=true):dR (fY e)=some e:=by
 rcases eS h with rfl | rfl | rfl | rfl <;> decide
theorem tQ {e:Int} (h:kn4 e=true):(32:UInt8) ∉ fY e:=by
 rcases eS h with rfl | rfl | rfl | rfl <;> decide
theorem z6 {v:List UInt8} (h:v.length=32):hexP v=v.flatMap hexB∧(hexP v).length=64:=by
 have hne:v≠[]:=fun e=>by rw[e]at h; cases h
 have e:hexP v=v.flatMap hexB:=by rw[hexP,if_neg hne]
 exact⟨e,by rw[e,da,h]⟩
theorem vc {v:List UInt8} (h:v.length=32):ff (hexP v)=some v:=by
 obtain⟨e,hl⟩:=z6 h
 rw[ff,if_pos hl,e,kB]
theorem om {s v:List UInt8} (h:ff s=some v):v.length=32:=by
 unfold ff at h
 split at h
 ·have:=kA s v h; omega
 ·cases h
theorem mL (x:HEv) (h:x.kind=1):bv x=bx++32::(Lib.itoa x.client++32::bd x.op):=by
 rw[bv,if_neg (by omega),if_pos h]; simp
theorem kE (x:HEv) (h:x.kind=2) (hv:x.value=zBk):bv x=aU++32::(Lib.itoa x.client++32::fY x.err):=by
 rw[bv,if_neg (by omega),if_neg (by omega),if_pos hv]; simp
theorem jh (x:HEv) (h:x.kind=2) (hv:x.value≠zBk):bv x=aU++32::(Lib.itoa x.client++32::(sOk++32::hexP x.value)):=by
 rw[bv,if_neg (by omega),if_neg (by omega),if_neg hv]; simp[sOk]
theorem p5 {o:POp} (ho:o.Ok) (hd:o.data.length≤64):bM (aI++10::(bd o++[10])) [] 1=([[o]],0,0):=by
 have:=rM (l:=[[o]]) (fun p hp q hq=>by simp at hp; subst hp; simp at hq; subst hq; exact ho) (tA hd)
 rwa [mj,show aI++[10]++(bd o++[10])=aI++10::(bd o++[10]) by simp]at this
theorem lu {o:POp} {t:List UInt8} {j:Nat} (h:bM (aI++10::(t++[10])) [] 1=([[o]],j,0)):o.Ok∧o.data.length≤64∧bd o=t:=by
 obtain⟨_,h2,h3,h4⟩:=uu _ _ [] [[o]] 1 j (Nat.le_refl _) (by decide) (fun p hp=>by cases hp) h
 have ho:o.Ok:=h4 [o] (by simp) o (by simp)
 refine⟨ho,?_,?_⟩
 ·have:=(dV.1 h3).2 [o] (by simp)
  simpa[badP]using this
 ·rw[mj]at h2
  simpa[bX]using h2
theorem kf {s:List UInt8} {b:Bool} {x y:HEv} (h:finE s b x=some y):b=true∧bv x=s∧x=y:=by
 unfold finE at h
 split at h
 ·rename_i hc
  cases h
  exact⟨hc.1,hc.2,rfl⟩
 ·cases h
theorem wW {s:List UInt8} {x:HEv} (h:evP s=some x):WfE x∧bv x=s:=by
 unfold evP at h
 by_cases hc:s=bF
 ·rw[if_pos hc]at h; cases h
  exact⟨jp,hc.symm⟩
 rw[if_neg hc]at h
 by_cases hi:(cutA s 32).1=bx
 ·rw[if_pos hi]at h
  split at h
  ·rename_i o j e hp
   split at h
   ·rename_i he
    subst he
    obtain⟨h1,h2,h3⟩:=lu hp
    obtain⟨g1,g2,rfl⟩:=kf h
    obtain⟨r1,r2⟩:=fF g1
    exact⟨⟨r1,r2,.inr (.inl ⟨rfl,rfl,rfl,h1,h2⟩)⟩,g2⟩
   ·cases h
  ·cases h
 rw[if_neg hi]at h
 by_cases hr:(cutA s 32).1=aU
 ·rw[if_pos hr]at h
  split at h
  ·cases h
  ·rename_i k hk
   obtain⟨hk1,hk2⟩:=gR hk
   split at h
   ·rename_i hm
    split at h
    ·cases h
    ·rename_i v hv
     obtain⟨g1,g2,rfl⟩:=kf h
     obtain⟨r1,r2⟩:=fF g1
     refine⟨⟨r1,r2,.inr (.inr ⟨rfl,rfl,hk1,om hv,fun hz=>?_⟩)⟩,g2⟩
     rw[jh _ rfl hz]at g2
     rw[←g2,eV _ (by decide)]at hk2
     simp only at hk2
     rw[eV _ (jj _)]at hk2
     simp only at hk2
     rw[eV _ (by decide)]at hk2
     simp only at hk2
     rcases eS hk1 with rfl | rfl | rfl | rfl
     ·rfl
     ·exact absurd hk2 (by decide)
     ·exact absurd hk2 (by decide)
     ·exact absurd hk2 (by decide)
   ·obtain⟨g1,g2,rfl⟩:=kf h
    obtain⟨r1,r2⟩:=fF g1
    exact⟨⟨r1,r2,.inr (.inr ⟨rfl,rfl,hk1,rfl,fun hz=>absurd rfl hz⟩)⟩,g2⟩
 ·rw[if_neg hr]at h; cases h
theorem vf {n:Int} (h0 : -9223372036854775808≤n) (h1:n≤9223372036854775807):cr (Lib.itoa n)=true∧db (Lib.itoa n)=n:=by
 unfold cr db; rw[oo h0 h1]; exact⟨rfl,rfl⟩
theorem iv {x:HEv} (h:WfE x):evP (bv x)=some x:=by
 obtain⟨kind,client,op,value,err⟩:=x
 obtain⟨r1,r2,h⟩:=h
 obtain⟨a1,a2⟩:=vf r1 r2
 simp only at r1 r2 a1 a2
 rcases h with ⟨rfl,rfl,rfl,rfl,rfl⟩ | ⟨rfl,rfl,rfl,h4,h5⟩ | ⟨rfl,rfl,h3,h4,h5⟩
 ·rfl
 ·have hl:=mL ⟨1,client,op,zBk,0⟩ rfl
  have hf:finE (bv ⟨1,client,op,zBk,0⟩) true ⟨1,client,op,zBk,0⟩=some ⟨1,client,op,zBk,0⟩:=if_pos ⟨rfl,rfl⟩
  have c1:cutA (bv ⟨1,client,op,zBk,0⟩) 32=(bx,Lib.itoa client++32::bd op,true):=by rw[hl]; exact eV _ (by decide)
  have hne:bv ⟨1,client,op,zBk,0⟩≠bF:=fun e=>by rw[hl]at e; simp[bx,bF]at e
  unfold evP
  rw[if_neg hne,c1]
  simp only
  rw[if_pos trivial,eV _ (jj _)]
  simp only
  rw[p5 h4 h5,a1,a2]
  exact hf
 ·by_cases hz:value=zBk
  ·subst hz
   have hl:=kE ⟨2,client,zOp,zBk,err⟩ rfl rfl
   have hf:finE (bv ⟨2,client,zOp,zBk,err⟩) true ⟨2,client,zOp,zBk,err⟩=some ⟨2,client,zOp,zBk,err⟩:=if_pos ⟨rfl,rfl⟩
   have c1:cutA (bv ⟨2,client,zOp,zBk,err⟩) 32=(aU,Lib.itoa client++32::fY err,true):=by rw[hl]; exact eV _ (by decide)
   have hne:bv ⟨2,client,zOp,zBk,err⟩≠bF:=fun e=>by rw[hl]at e; simp[aU,bF]at e
   unfold evP
   rw[if_neg hne,c1]
   simp only
   rw[if_neg (by decide),if_pos trivial,eV _ (jj _)]
   simp only
   rw[yJ (tQ h3)]
   simp only
   rw[so h3,a1,a2]
   exact hf
  ·have he:err=0:=h5 hz
   subst he
   have hl:=jh ⟨2,client,zOp,value,0⟩ rfl hz
   have hf:finE (bv ⟨2,client,zOp,value,0⟩) true ⟨2,client,zOp,value,0⟩=some ⟨2,client,zOp,value,0⟩:=if_pos ⟨rfl,rfl⟩
   have c1:cutA (bv ⟨2,client,zOp,value,0⟩) 32=(aU,Lib.itoa client++32::(sOk++32::hexP value),true):=by rw[hl]; exact eV _ (by decide)
   have hne:bv ⟨2,client,zOp,value,0⟩≠bF:=fun e=>by rw[hl]at e; simp[aU,bF]at e
   unfold evP
   rw[if_neg hne,c1]
   simp only
   rw[if_neg (by decide),if_pos trivial,eV _ (jj _)]
   simp only
   rw[eV _ (by decide)]
   simp only
   rw[show dR sOk=some 0 by decide]
   simp only
   rw[if_pos trivial,vc h4]
   simp only
   rw[a1,a2]
   exact hf
def ic (e:Int):List UInt8:=if e=1 then sArg else if e=8 then gJ else if e=9 then gK else sOk
def fx (x:HEv):List UInt8:=if x.kind=3 then bF else if x.kind=1 then (bx++[32])++Lib.itoa x.client++[32]++bd x.op else
 (aU++[32])++Lib.itoa x.client++[32]++ic x.err++(if x.value=zBk then[] else[32]++hexP x.value)
theorem vK {e:Int} (h:kn4 e=true):ic e=fY e:=by
 rcases eS h with rfl | rfl | rfl | rfl <;> decide
theorem vN {x:HEv} (h:WfE x):fx x=bv x:=by
 obtain⟨_,_,h⟩:=h
 rcases h with ⟨h1,_⟩ | ⟨h1,_⟩ | ⟨h1,_,h3,h4,h5⟩
 ·rw[fx,bv,if_pos h1,if_pos h1]
 ·rw[fx,bv,if_neg (by omega),if_pos h1,if_neg (by omega),if_pos h1]
 ·have k3:¬x.kind=3:=by omega
  have k1:¬x.kind=1:=by omega
  simp only[fx,bv,if_neg k3,if_neg k1,vK h3]
  by_cases hz:x.value=zBk
  ·simp only[if_pos hz,List.append_nil]
  ·simp only[if_neg hz,h5 hz]; simp[fY,sOk]
def m7 (s:List UInt8) (x:HEv):Option HEv:=if fx x=s then some x else none
def keyR (c:List UInt8):Int:=if c=sArg then 1 else if c=gJ then 8 else if c=gK then 9 else 0
def valR (e:Int) (w:List (List UInt8)):Option (List UInt8):=match w with
 | [d]=>match cL d with
  | some v=>if v.length=32∧e=0 then some v else none
  | none=>none
 | _=>some zBk
def evR (s:List UInt8):Option HEv:=match cutL s 32 with
 | none=>m7 s ch
 | some (a,r1)=>match cutL r1 32 with
  | none=>m7 s ch
  | some (b,rest) =>
   if a=bx then
    match fz rest,intR b with
    | some o,some n=>if o.data.length≤64 then m7 s ⟨1,n,o,zBk,0⟩ else none
    | _,_=>none
   else if a=aU then
    match bS rest 32 with
    | []=>none
    | c::w=>match valR (keyR c) w,intR b with
     | some v,some n=>m7 s ⟨2,n,zOp,v,keyR c⟩
     | _,_=>none
   else m7 s ch
def cU (s:List UInt8) (rd:RdS) (h:List HEv) (n:Nat):List HEv×Nat×Int :=
 if s=[] then (h,0,0) else
 match _h:cutL s 10 with
 | none=>([],n,5)
 | some (t,r)=>match evP t with
  | none=>([],n,5)
  | some x=>if 8192<n then ([],n,3) else if (ba rd x).2=true then cU r (ba rd x).1 (h++[x]) (n+1) else ([],n,18)
termination_by s.length
decreasing_by
 have := (cM _h).1
 rw [this]
 simp
 omega
theorem jI (rd:RdS) (h:List HEv) (n:Nat):cU [] rd h n=(h,0,0):=by rw[cU,if_pos rfl]
theorem ly {s:List UInt8} (rd:RdS) (l:List HEv) (n:Nat) (hs:s≠[]) (h:cutL s 10=none):cU s rd l n=([],n,5):=by
 rw[cU,if_neg hs]
 split
 ·rfl
 ·rename_i t r h2; rw[h]at h2; cases h2
theorem ef {s t r:List UInt8} (rd:RdS) (l:List HEv) (n:Nat) (hs:s≠[]) (h:cutL s 10=some (t,r)):cU s rd l n=match evP t with
  | none=>([],n,5)
  | some x=>if 8192<n then ([],n,3) else if (ba rd x).2=true then cU r (ba rd x).1 (l++[x]) (n+1) else ([],n,18):=by
 rw[cU,if_neg hs]
 split
 ·rename_i h2; rw[h]at h2; cases h2
 ·rename_i t' r' h2; rw[h]at h2; cases h2; rfl
def oW:List (List UInt8)→Nat→List HEv→List HEv×Nat×Int
 | [],_,h=>(h,0,0)
 | [w],i,h=>if w=[] then (h,0,0) else ([],i+1,5)
 | w::w2::ws,i,h=>match evR w with
  | none=>([],i+1,5)
  | some x=>if 8192≤i then ([],i+1,3) else if fitB h x=true then oW (w2::ws) (i+1) (h++[x]) else ([],i+1,18)
theorem dJ {rd:RdS} {x:HEv} {l:List HEv} {i:Nat}:goS rd (x::l) i=if (ba rd x).2 then goS (ba rd x).1 l (i+1) else ((ba rd x).1,(i:Int)):=by
 have:=it (s:=rd) (h:=List.replicate i x++x::l) (i:=i) (x:=x) (by simp)
 rw[List.drop_left' (by simp)]at this
 rw[this,show List.replicate i x++x::l=(List.replicate i x++[x])++l by simp,List.drop_left' (by simp)]
theorem gm {x:HEv} (h:WfE x):(10:UInt8) ∉ bv x:=by
 obtain⟨_,_,h⟩:=h
 have hi:∀n:Int,(10:UInt8) ∉ Lib.itoa n:=fun n hm=>(j1 hm).1 rfl
 rcases h with ⟨h1,_⟩ | ⟨h1,_⟩ | ⟨h1,_,h3,h4,h5⟩
 ·rw[bv,if_pos h1]; decide
 ·rw[mL x h1]
  have:=fun hm=>(qe x.op 10 hm) rfl
  simp only[List.mem_append,List.mem_cons,not_or]
  exact⟨by decide,by decide,hi _,by decide,this⟩
 ·have hw:(10:UInt8) ∉ fY x.err:=by rcases eS h3 with e | e | e | e <;> (rw[e]; decide)
  by_cases hz:x.value=zBk
  ·rw[kE x h1 hz]
   simp only[List.mem_append,List.mem_cons,not_or]
   exact⟨by decide,by decide,hi _,by decide,hw⟩
  ·rw[jh x h1 hz]
   simp only[List.mem_append,List.mem_cons,not_or]
   exact⟨by decide,by decide,hi _,by decide,by decide,by decide,fun hm=>(m5 hm).1 rfl⟩
theorem lz:∀(q:List HEv) (rd:RdS) (h:List HEv) (n i:Nat),(∀x∈q,WfE x)→n+q.length≤8193→(goS rd q i).2<0→cU (q.flatMap fun x=>bv x++[10]) rd h n=(h++q,0,0)
 | [],rd,h,n,i,_,_,_=>by rw[List.flatMap_nil,jI]; simp
 | x::q,rd,h,n,i,hw,hn,hg=>by
  have hx:=hw x (by simp)
  rw[dJ]at hg
  cases hb:(ba rd x).2 with
  | false=>rw[hb]at hg; simp at hg; omega
  | true =>
   rw[hb,if_pos rfl]at hg
   have hcut:cutL ((x::q).flatMap fun x=>bv x++[10]) 10=some (bv x,q.flatMap fun x=>bv x++[10]):=by
    rw[List.flatMap_cons,List.append_assoc]
    exact fm _ (gm hx)
   rw[ef _ _ _ (by simp) hcut,iv hx]
   simp only
   rw[if_neg (by simp at hn; omega),hb,if_pos rfl,lz q _ _ (n+1) (i+1) (fun y hy=>hw y (by simp[hy])) (by simp at hn ⊢; omega) hg]
   simp
end Go.Proofs.YtpjiiolnfbfcbaaGreatDoor
namespace Go.Eng
open Go.RowKit
open Go.ChangeMaps (setBlock)
section
variable {P : Program} {T : Tab} {env : Env} {h : Upds} {n : Nat}
theorem nI {t kt et:Nat} {x:Operand} {rm:Nat} {κ:Type} {enc:κ→D} {l:List (κ×AV)} (ht:P.underlying t=some (.map kt et)) (hx:ay env x=some (.mapr rm)) (hr:bp h rm=some (.mo (mapC enc l))) :
  an P (.range t x) env h n (some (.ptr n [])) [(n,some (.mi (.mapr rm) l.length l.length []))]:=.of_comes fun C G st σ w a o ho hA hd hst hn=>by
 obtain⟨b,c,hs,hu⟩:=RelV.mapr.1 (ao hst (hA.ev hx)).1
 have hgm:G rm:=(ao hst (hA.ev hx)).2
 have hrow:=hA.row _ _ hr
 obtain⟨b',es,hb1,hb2,hb3,hb4⟩:=hst.rows rm _ hrow
 rw[hs]at hb2
 cases hb2
 have hl:es.size=l.length:=by
  have:=((cQ l _).1 hb4).len
  simpa using this
 have hnn:¬G n:=hn n (Nat.le_refl _) (by omega)
 have hne:rm≠n:=fun e=>hnn (e ▸ hgm)
 have hnew:=aH.freshBy hst hnn (w':=w.alloc (.mapIter (some b) es.size #[] es.size)) (by
   refine⟨rfl,rfl,rfl,by simp,fun k hk _=>?_⟩
   exact heap_alloc_old w _ hk) (Nat.le_refl _) (b:=w.heap.size) (c:=1) (.mi (.mapr rm) l.length l.length []) hgm (fun σ' X' h1 _ hs'=>⟨w.heap.size,b,hs',by rw[←hl]; exact heap_alloc_new w _,h1 (.mapr rm) false _ hgm ⟨b,1,hs,rfl⟩⟩)
 refine⟨some (.ptr n []),[(n,some (.mi (.mapr rm) l.length l.length []))],.value (.pointer (some ⟨w.heap.size,0,none⟩)),.pointer (some ⟨w.heap.size,0,none⟩),w.alloc (.mapIter (some b) es.size #[] es.size),fun q=>if q=n then some (w.heap.size,1) else σ q,fun q=>G q∨q=n,⟨rfl,rfl⟩,?_,.inl rfl,?_,fun r hr=>.inl hr,fun r hr=>hr.imp id (fun e=>by omega)⟩
 ·have hget:(getObj b).run P w=.ok (.map es es.size) w:=by simp[getObj,Sem.run,hb3]
  simp[execOp,ho,Instr.range,run_underlying ht,hu,newObj,Sem.run,hget]
 ·rw[St.put_upd]
  exact hnew.set hd (RelV.ptr.2 ⟨w.heap.size,1,by simp,by simp[aW]⟩) (.inr rfl)
theorem ct.at {κ:Type} {enc:κ→D} {σ:Place} {w:World} {X:Nat→Prop}:∀(l:List (κ×AV)) (es:List MapEntry),ct σ w X enc l es→∀(i:Nat) (e:MapEntry),es[i]?=some e →
  ∃k v,l[i]?=some (k,v)∧RelV σ w X (.d (enc k)) e.key∧RelV σ w X v e.val
 | [],es,h,i,e,he=>by rw[show es=[] from h]at he; simp at he
 | (k,v)::l,es,h,i,e,he=>by
  obtain⟨e0,es',rfl,h1,h2,h3⟩:=h
  cases i with
  | zero =>
   simp only[List.getElem?_cons_zero,Option.some.injEq]at he
   subst he
   exact⟨k,v,rfl,h1,h2⟩
  | succ i=>exact ct.at l es' h3 i e (by simpa using he)
theorem n3 {x:Operand} {r rm L i:Nat} {seen:List Nat} {κ:Type} {enc:κ→D} {l:List (κ×AV)} {k:κ} {v:AV} (hx:ay env x=some (.ptr r [])) (hr:bp h r=some (.mi (.mapr rm) L L (seen++[i]))) (hm:bp h rm=some (.mo (mapC enc l))) (hL:L=l.length) (hi:l[i]?=some (k,v)) :
  an P (.entry x) env h n (some (.tup (.acons (.d (enc k)) (.acons v .anil)))) []:=.of_comes fun C G st σ w a o ho hA hd hst hn=>by
 subst hL
 have hrow:=hA.row _ _ hr
 have hrowm:=hA.row _ _ hm
 obtain⟨b,m,hb1,hb2,hb3⟩:=hst.rows r _ hrow
 obtain⟨bm,es,hm0,hm1,hm2,hm3⟩:=hst.rows rm _ hrowm
 obtain⟨bm',c',e1,e2⟩:=hb3
 rw[hm1]at e1
 cases e1
 simp only[List.cons.injEq,Value.map.injEq,Option.some.injEq,and_true]at e2
 subst e2
 obtain⟨b',c',hs',hu⟩:=RelV.ptr.1 (ao hst (hA.ev hx)).1
 rw[hb1]at hs'
 cases hs'
 have hent:=(cQ l _).1 hm3
 have hlen:es.size=l.length:=by simpa using hent.len
 have hlt:i<es.size:=by rw[hlen]; exact (List.getElem?_eq_some_iff.1 hi).1
 have hei:es[i]?=some es[i]:=Array.getElem?_eq_getElem hlt
 have hbi:=hm0 i _ hei
 obtain⟨k',v',q1,q2,q3⟩:=ct.at l _ hent i es[i] (by simp)
 rw[hi]at q1
 cases q1
 have hnd:(es.toList.map (·.born)).Nodup:=by
  rw[show es.toList.map (·.born)=List.range es.size by
   apply List.ext_getElem?
   intro j
   rw[List.getElem?_map]
   by_cases hj:j<es.size
   ·rw[List.getElem?_eq_getElem (by simpa using hj),List.getElem?_range hj]
    have:=hm0 j _ (Array.getElem?_eq_getElem hj)
    simp[this]
   ·rw[List.getElem?_eq_none (by simpa using hj),List.getElem?_eq_none (by simpa using hj)]; rfl]
  exact List.nodup_range
 refine .quiet (u :=.tuple #[es[i].key,es[i].val]) hst hd ⟨rfl,rfl⟩ ?_ ?_ ?_
 ·have hrun:=run_entry_at (P:=P) w b m l.length seen.toArray es es.size es[i] (by rw[hb2,hbi,hlen,List.push_toArray]) hm2 (by simp) hnd
  simp only[execOp,ho,hu,aW,Sem.run_bind,hrun,Result.andThen_ok,Sem.run_pure]
 ·unfold RelV
  rw[if_neg (by simp[AV.isAgg])]
  exact⟨_,rfl,_,_,rfl,q2,_,_,rfl,q3,rfl⟩
 ·exact⟨trivial,(dH l).1 (hst.rowsG rm _ hrowm).2 (k,v) (List.mem_of_getElem? hi),trivial⟩
variable {sz : Nat} {all rest : List Oper} {K : Env → Upds → Nat → Prop}
theorem jR {d:Tmp} {x:Operand} {ty:TypeId} {pos:String} {af:Array Edge} {r rm L:Nat} {seen:List Nat} {κ:Type} {enc:κ→D} {l:List (κ×AV)} (hd:Nat.blt d sz=true) (hx:ay env x=some (.ptr r []))
  (hr:bp h r=some (.mi (.mapr rm) L L seen)) (hm:bp h rm=some (.mo (mapC enc l))) (hL:L=l.length)
  (hend:(∀i,i<l.length→i∈seen)→RegS P all sz rest (n+8) ((d,.tup (.acons (.bool false) .anil))::env) h K)
  (hgo:∀i k v,l[i]?=some (k,v)→i ∉ seen→RegS P all sz rest (n+8) ((d,.tup (.acons (.bool true) (.acons (.d (enc k)) (.acons v .anil))))::env) ((r,some (.mi (.mapr rm) L L (seen++[i])))::h) K) :
  RegS P all sz (⟨some d,.next x false,ty,pos,af,none⟩::rest) n env h K:=by
 subst hL
 intro C σ w a hst Q hQ
 have hrow:(⟨env,h,n,sz,64⟩:St).row r=some (.mi (.mapr rm) l.length l.length seen):=by rw[←cg]; exact hr
 have hrowm:(⟨env,h,n,sz,64⟩:St).row rm=some (.mo (mapC enc l)):=by rw[←cg]; exact hm
 obtain⟨b,m,hb1,hb2,hb3⟩:=hst.rows r _ hrow
 obtain⟨bm,es,hm0,hm1,hm2,hm3⟩:=hst.rows rm _ hrowm
 obtain⟨bm',c',e1,e2⟩:=hb3
 rw[hm1]at e1
 cases e1
 simp only[List.cons.injEq,Value.map.injEq,Option.some.injEq,and_true]at e2
 subst e2
 obtain⟨b',c',hs',hu⟩:=RelV.ptr.1 (ao hst hx).1
 rw[hb1]at hs'
 cases hs'
 have hlen:es.size=l.length:=by simpa using ((cQ l _).1 hm3).len
 have hborn:∀e∈es.toList,e.born<l.length:=by
  intro e he
  obtain⟨i,hi⟩:=List.getElem?_of_mem he
  have hi':es[i]?=some e:=by simpa using hi
  rw[hm0 i e hi']
  have:=(Array.getElem?_eq_some_iff.1 hi').1
  omega
 have hdst:fP (some d) sz=true:=hd
 unfold wpListIn
 rw[if_pos (show Region.wanted _ _=true from rfl)]
 refine⟨fun _ _=>trivial,?_⟩
 rcases run_next_at (P:=P) w ty b m l.length l.length seen.toArray es es.size hb2 hm2 hborn (Nat.le_refl _)with ⟨h0,hrun⟩ | ⟨e,he,w1,hw1,hrun⟩
 ·have hex:(execOp a.eval ⟨some d,.next x false,ty,pos,af,none⟩).run P w=.ok (.value (.tuple #[.bool false])) w:=by
   simp only[execOp,hu,aW,Sem.run_bind,hrun,Result.andThen_ok,Sem.run_pure]
  rw[fq hex (fun c hc=>by cases hc)]
  have hst2:=hst.set (v:=some (.tup (.acons (.bool false) .anil))) (u :=.tuple #[.bool false]) (dst:=some d) (gv hdst) (by
   unfold RelV
   rw[if_neg (by simp[AV.isAgg])]
   exact⟨_,rfl,_,_,rfl,RelV.sc.2 ⟨rfl,rfl⟩,rfl⟩) ⟨trivial,trivial⟩
  rw[mA]at hst2
  refine hend ?_ C σ w _ ?_ Q hQ
  ·intro i hi
   have hlt:i<es.size:=by omega
   have h1:es[i].born=i:=hm0 i _ (Array.getElem?_eq_getElem hlt)
   by_cases hc:i∈seen
   ·exact hc
   ·exfalso
    have:es[i]∈leftOf es seen.toArray:=by
     unfold leftOf
     rw[Array.mem_filter]
     refine⟨by simp,?_⟩
     rw[h1]
     simpa using hc
    have:=Array.size_pos_of_mem this
    omega
  ·have:=hst2.grow (G':=fun r=>r<n+8) (fun r hr=>Nat.lt_of_lt_of_le hr (Nat.le_add_right n 8))
   exact { this with }
 ·have hheap:w1.heap=w.heap:=by rcases hw1 with rfl | rfl <;> rfl
  have hst1:aH C (fun r=>r<n) ⟨env,h,n,sz,64⟩ σ w1 a:=by
   rcases hw1 with rfl | rfl
   ·exact hst
   ·exact hst.drew
  obtain⟨bm2,es2,_,k1,k2,k3⟩:=hst1.rows rm _ hrowm
  rw[hm1]at k1
  cases k1
  rw[hheap,hm2]at k2
  cases k2
  have hmem:e∈es.toList∧e.born ∉ seen:=by
   unfold leftOf at he
   rw[Array.mem_toList_iff,Array.mem_filter]at he
   exact⟨by simpa using he.1,by simpa using he.2⟩
  obtain⟨i,hi⟩:=List.getElem?_of_mem hmem.1
  have hi':es[i]?=some e:=by simpa using hi
  have hbi:=hm0 i e hi'
  obtain⟨k,v,q1,q2,q3⟩:=ct.at l _ ((cQ l _).1 k3) i e hi
  have hex:(execOp a.eval ⟨some d,.next x false,ty,pos,af,none⟩).run P w=.ok (.value (.tuple #[.bool true,e.key,e.val])) (setBlock w1 b (.mapIter (some m) l.length (seen.toArray.push e.born) es.size)):=by
   simp only[execOp,hu,aW,Sem.run_bind,hrun,Result.andThen_ok,Sem.run_pure]
  rw[fq hex (fun c hc=>by cases hc)]
  have hgv:v.within (fun r=>r<n):=(dH l).1 (hst.rowsG rm _ hrowm).2 (k,v) (List.mem_of_getElem? q1)
  have hgm:rm<n:=(hst.rowsG rm _ hrowm).1
  have hst2:=hst1.set (v:=some (.tup (.acons (.bool true) (.acons (.d (enc k)) (.acons v .anil))))) (u :=.tuple #[.bool true,e.key,e.val]) (dst:=some d) (gv hdst) (by
   unfold RelV
   rw[if_neg (by simp[AV.isAgg])]
   exact⟨_,rfl,_,_,rfl,RelV.sc.2 ⟨rfl,rfl⟩,_,_,rfl,q2,_,_,rfl,q3,rfl⟩) ⟨trivial,trivial,hgv,trivial⟩
  rw[mA]at hst2
  have hrow2:(⟨putE (some d) (some (.tup (.acons (.bool true) (.acons (.d (enc k)) (.acons v .anil))))) env,[]++h,n,sz,64⟩:St).row r=some (.mi (.mapr rm) l.length l.length seen):=by rw[←cg]; exact hr
  have hst3:=hst2.writeObj (o' :=.mapIter (some m) l.length (seen.toArray.push e.born) es.size) (row :=.mi (.mapr rm) l.length l.length (seen++[i])) hrow2 hb1 (by rw[hheap]; exact hb2) rfl hgm
   (fun w' ht hh'=>⟨b,m,hb1,by rw[hh',hbi,hlen,List.push_toArray],ht (.mapr rm) false _ hgm ⟨m,1,hm1,rfl⟩⟩)
  refine hgo i k v q1 (by rw[←hbi]; exact hmem.2) C σ _ _ ?_ Q hQ
  have:=hst3.grow (G':=fun r=>r<n+8) (fun r hr=>Nat.lt_of_lt_of_le hr (Nat.le_add_right n 8))
  exact { this with }
end
end Go.Eng
namespace Go.Eng
open Go.RowKit
section
variable {P : Program} {T : Tab} {env : Env} {h : Upds} {n : Nat}
theorem mp (hT:aq P T) {t e L s:Nat} {re:TyR} {x:Operand} {α:Type} {enc:α→D} {xs:List α} (ht:bh T t=some (.array L e)) (he:lk T e=some re) (hx:ay env x=some (.d (.pt (.vec L s enc xs)))) (hL:Nat.ble L 1048576=true) (hs0:Nat.blt 0 s=true) :
  an P (.slice t x none none none) env h n (some (.d (.arr s enc xs))) []:=.of_comes fun C G st σ w a o ho hA hdst hst hn=>by
 obtain⟨ud,hud,hdd⟩:=aS hT ht
 cases hdd
 have hL:=Nat.le_of_ble_eq_true hL
 have hs0:=Nat.le_of_ble_eq_true hs0
 have hsz:=(hT e re he).run_size (P:=P)
 obtain⟨ad,cs,hv,⟨hl,f,hf,hcs⟩,hc⟩:=RelV.iptr.1 (RelV.pt.1 (ao hst (hA.ev hx)).1)
 have hmax:(1048576:Nat)≤maxLen:=by decide
 refine .quiet (u :=.slice (some ad) L L) hst hdst ⟨rfl,rfl⟩ ?_ (RelV.arr.2 (.inr ⟨ad,L,by rw[hl],by omega,by omega,f,fun i hi=>⟨(hf i hi).1,(hf i hi).2,fun j u hj=>?_⟩⟩)) trivial
 ·simp[execOp,ho,Instr.sliceAt,hv,Instr.sureAddr,run_underlying hud,Instr.sliceBounds,Instr.sliceBound,asIntOf,hsz,Sem.run_bind,Sem.run_pure,Result.andThen_ok,Addr.add_zero']
 ·have hjs:j<s:=by rw[←(hf i hi).2]; exact (List.getElem?_eq_some_iff.1 hj).1
  have:=dW xs.length (fun i hi=>(hf i hi).2) i j hi hjs
  rw[hj]at this
  refine hc _ _ ?_
  rw[hcs,←hl]
  exact this
end
end Go.Eng
namespace Go.Eng
open Go.RowKit
set_option linter.unusedSimpArgs false
section
variable {P : Program} {T : Tab} {env : Env} {h : Upds} {n : Nat}
theorem ri {t:Nat} {w:World} {ms} (hud:P.underlying t=some (.interface ms)):(binOp .neq t .nilIface .nilIface).run P w=.ok (.bool false) w:=by
 have h1:(Op.equalIn 10000 t .nilIface .nilIface).run P w=.ok true w:=by
  rw[show (10000:Nat)=9999+1 from rfl,Op.equalIn]
  simp only[Sem.run_bind,run_underlying hud,Result.andThen_ok,Sem.run_pure]
 show (do let b ←Op.equalIn 10000 t _ _; pure (Value.bool !b):Sem Value).run P w=_
 simp only[Sem.run_bind,h1,Result.andThen_ok,Sem.run_pure,Bool.not_true]
theorem rj {t t1:Nat} {w:World} {ms} {v:Value} (hud:P.underlying t=some (.interface ms)):(binOp .neq t (.iface t1 v) .nilIface).run P w=.ok (.bool true) w:=by
 have h1:(Op.equalIn 10000 t (.iface t1 v) .nilIface).run P w=.ok false w:=by
  rw[show (10000:Nat)=9999+1 from rfl,Op.equalIn]
  simp only[Sem.run_bind,run_underlying hud,Result.andThen_ok,Sem.run_pure]
 show (do let b ←Op.equalIn 10000 t _ _; pure (Value.bool !b):Sem Value).run P w=_
 simp only[Sem.run_bind,h1,Result.andThen_ok,Sem.run_pure,Bool.not_false]
theorem jU {t t':Nat} {x:Operand} {ms} (hu:P.underlying t=some (.interface ms)) (hx:ay env x=some (.d (.sc .nilIface))) :
  an P (.binOp .neq t x (.const .nilIface) t') env h n (some (.bool false)) []:=.of_comes fun C G st σ w ac o ho hA hdst hst hn=>by
 obtain⟨hv,_⟩:=RelV.sc.1 (ao hst (hA.ev hx)).1
 refine .quiet (u :=.bool false) hst hdst ⟨rfl,rfl⟩ ?_ (RelV.sc.2 ⟨rfl,rfl⟩) trivial
 have hg:(eqGuard .neq t x (.const .nilIface) .nilIface .nilIface).run P w=.ok () w:=by
  simp[eqGuard]
  try (cases x <;> rfl)
 have hc:ac.eval (.const .nilIface)=.nilIface:=rfl
 simp only[execOp,ho,hv,hc,Sem.run_bind,hg,Result.andThen_ok,ri hu,Sem.run_pure]
theorem zx {t t':Nat} {x:Operand} {ms} (hu:P.underlying t=some (.interface ms)) (hx:ay env x=some .er) :
  an P (.binOp .neq t x (.const .nilIface) t') env h n (some (.bool true)) []:=.of_comes fun C G st σ w ac o ho hA hdst hst hn=>by
 obtain⟨t1,v,hv⟩:=RelV.er.1 (ao hst (hA.ev hx)).1
 refine .quiet (u :=.bool true) hst hdst ⟨rfl,rfl⟩ ?_ (RelV.sc.2 ⟨rfl,rfl⟩) trivial
 have hg:(eqGuard .neq t x (.const .nilIface) (.iface t1 v) .nilIface).run P w=.ok () w:=rfl
 have hc:ac.eval (.const .nilIface)=.nilIface:=rfl
 simp only[execOp,ho,hv,hc,Sem.run_bind,hg,Result.andThen_ok,rj hu,Sem.run_pure]
theorem uf (hT:aq P T) {t e L s:Nat} {re:TyR} {x:Operand} {α:Type} {enc:α→D} {xs:List α} (ht:bh T t=some (.array L e)) (he:lk T e=some re) (hx:ay env x=some (.iptr (.vec L s enc xs))) (hL:Nat.ble L 1048576=true) (hs0:Nat.blt 0 s=true) :
  an P (.slice t x none none none) env h n (some (.d (.arr s enc xs))) []:=.of_comes fun C G st σ w a o ho hA hdst hst hn=>by
 obtain⟨ud,hud,hdd⟩:=aS hT ht
 cases hdd
 have hL:=Nat.le_of_ble_eq_true hL
 have hs0:=Nat.le_of_ble_eq_true hs0
 have hsz:=(hT e re he).run_size (P:=P)
 obtain⟨ad,cs,hv,⟨hl,f,hf,hcs⟩,hc⟩:=RelV.iptr.1 (ao hst (hA.ev hx)).1
 have hmax:(1048576:Nat)≤maxLen:=by decide
 refine .quiet (u :=.slice (some ad) L L) hst hdst ⟨rfl,rfl⟩ ?_ (RelV.arr.2 (.inr ⟨ad,L,by rw[hl],by omega,by omega,f,fun i hi=>⟨(hf i hi).1,(hf i hi).2,fun j u hj=>?_⟩⟩)) trivial
 ·simp[execOp,ho,Instr.sliceAt,hv,Instr.sureAddr,run_underlying hud,Instr.sliceBounds,Instr.sliceBound,asIntOf,hsz,Sem.run_bind,Sem.run_pure,Result.andThen_ok,Addr.add_zero']
 ·have hjs:j<s:=by rw[←(hf i hi).2]; exact (List.getElem?_eq_some_iff.1 hj).1
  have:=dW xs.length (fun i hi=>(hf i hi).2) i j hi hjs
  rw[hj]at this
  refine hc _ _ ?_
  rw[hcs,←hl]
  exact this
end
end Go.Eng
namespace Go.Proofs.YtpjiiolnfbfcbaaGreatDoor
open Go.Eng Go.Plain
set_option maxHeartbeats 32000000
set_option maxRecDepth 20000
attribute [local irreducible] WC RegS RegD SeqQ BlkQ ScoQ RegK CutK Sat SatN FnIs LoopQ an OpIs
theorem pL (e:Int):FnIs Tryz.prog 87 [.int .i64 e] [] (.d (strD (ic e))) []:=by
 refine au aa Tryz.func87 rfl rfl rfl ?_
 unfold ic
 by_cases e1:e=1
 ·have d1:decide (e=1)=true:=dT e1
  rw[if_pos e1]
  refine sR<|rC<|zW ?_;refine rC<|zP<|sR ?_;refine zD ?_;refine zI<|sR ?_;refine rC<|zT<|zB ?_
  exact⟨trivial,[],lf⟩
 have d1:decide (e=1)=false:=dF e1
 rw[if_neg e1]
 by_cases e8:e=8
 ·have d8:decide (e=8)=true:=dT e8
  rw[if_pos e8]
  refine sR<|rC<|zW ?_;refine rC<|zP<|sR ?_;refine zD ?_;refine zG<|sR ?_;refine zD ?_;refine zI<|sR ?_;refine rC<|zT<|zB ?_
  exact⟨trivial,[],lf⟩
 have d8:decide (e=8)=false:=dF e8
 rw[if_neg e8]
 by_cases e9:e=9
 ·have d9:decide (e=9)=true:=dT e9
  rw[if_pos e9]
  refine sR<|rC<|zW ?_;refine rC<|zP<|sR ?_;refine zD ?_;refine zG<|sR ?_;refine zD ?_;refine zG<|sR ?_;refine zD ?_;refine zI<|sR ?_;refine rC<|zT<|zB ?_
  exact⟨trivial,[],lf⟩
 have d9:decide (e=9)=false:=dF e9
 rw[if_neg e9]
 refine sR<|rC<|zW ?_;refine rC<|zP<|sR ?_;refine zD ?_;refine zG<|sR ?_;refine zD ?_;refine zG<|sR ?_;refine zD ?_;refine zG<|aL<|zC<|sR ?_;refine rC<|zT ?_
 exact⟨trivial,[],lf⟩
theorem uh (e:Int):(ic e).length≤9:=by
 unfold ic
 split
 ·decide
 ·split
  ·decide
  ·split <;> decide
theorem ru (x:HEv) (hok:x.Ok) (hd:x.op.data.length≤1000000):FnIs Tryz.prog 58 [.d (aY x)] [] (.d (strD (fx x))) []:=by
 have hdL:x.op.data.length≤1000000000:=by omega
 have hil:=bA hok.client.1 hok.client.2
 have hll:=iq hok.op
 have hwl:=uh x.err
 have hvl:=hok.value
 have hhl:=cm x.value
 unfold fx
 refine au aa Tryz.func58 rfl rfl rfl ?_;refine sR<|rN ?_;refine rC<|nS ?_;refine fZ (env':=[(1,_),(2,_),(0,_)]) (h':=[]) 64 _ rfl ⟨⟨_,rfl,Frz.ptr⟩,zE,zE,trivial⟩ trivial ?_
 by_cases k3:x.kind=3
 ·have d3:decide (x.kind=3)=true:=dT k3
  rw[if_pos k3]
  refine qR<|rQ (bL aa rfl rfl rfl rfl) ?_;refine rQ iL ?_;refine rC ?_;refine zI<|sR ?_;refine rC<|zT<|aP ?_
  exact⟨trivial,[],lf⟩
 have d3:decide (x.kind=3)=false:=dF k3
 rw[if_neg k3]
 by_cases k1:x.kind=1
 ·have d1:decide (x.kind=1)=true:=dT k1
  rw[if_pos k1]
  refine qR<|rQ (bL aa rfl rfl rfl rfl) ?_;refine rQ iL ?_;refine rC ?_;refine zG<|kS<|qR ?_;refine rQ (bL aa rfl rfl rfl rfl) ?_;refine rQ iL ?_;refine rC ?_;refine zI<|bk ?_;refine aE (by kernel_rfl) ?_;refine dQ [1] [] (bL aa rfl rfl rfl rfl) ?_;refine dQ [11] [] iL ?_;refine dQ [12] [] (ak (cD x.client hok.client.1 hok.client.2) rfl rfl (aj ab) (.inl rfl) (fun _=>rfl)) ?_;refine dQ [13] [] (aG (a:=bx++[32]) (b:=Lib.itoa x.client) rfl rfl (by simp[bx]; omega) rfl) ?_;refine dQ [14] [] (aG (a:=(bx++[32])++Lib.itoa x.client) (b:=[32]) rfl rfl (by simp[bx]; omega) rfl) ?_;refine dQ [1] [] (bL aa rfl rfl rfl rfl) ?_;refine dQ [16] [] iL ?_;refine dQ [17] [] (ak (vO x.op hok.op hdL) rfl rfl (aj ab) (.inl rfl) (fun _=>rfl)) ?_;refine dQ [15,18] [] (aG (a:=(bx++[32])++Lib.itoa x.client++[32]) (b:=bd x.op) rfl rfl (by simp[bx]; omega) rfl) ?_;refine dC [19] [] ?_;refine aB (by kernel_rfl)<|aM<|bR<|aP ?_
  exact⟨trivial,[],lf⟩
 have d1:decide (x.kind=1)=false:=dF k1
 rw[if_neg k1]
 by_cases hz:x.value=zBk
 ·have dz:(!decide (x.value=zBk))=false:=by rw[dT hz]; rfl
  rw[if_pos hz,List.append_nil]
  refine qR<|rQ (bL aa rfl rfl rfl rfl) ?_;refine rQ iL ?_;refine rC ?_;refine zG<|kS<|qR ?_;refine rQ (bL aa rfl rfl rfl rfl) ?_;refine rQ iL ?_;refine rC ?_;refine zG<|zQ ?_;refine aE (by kernel_rfl) ?_;refine dQ [1] [] (bL aa rfl rfl rfl rfl) ?_;refine dQ [20] [] iL ?_;refine dQ [21] [] (ak (cD x.client hok.client.1 hok.client.2) rfl rfl (aj ab) (.inl rfl) (fun _=>rfl)) ?_;refine dQ [22] [] (aG (a:=aU++[32]) (b:=Lib.itoa x.client) rfl rfl (by simp[aU]; omega) rfl) ?_;refine dQ [23] [] (aG (a:=(aU++[32])++Lib.itoa x.client) (b:=[32]) rfl rfl (by simp[aU]; omega) rfl) ?_;refine dQ [1] [] (bL aa rfl rfl rfl rfl) ?_;refine dQ [25] [] iL ?_;refine dQ [26] [] (ak (pL x.err) rfl rfl (aj ab) (.inl rfl) (fun _=>rfl)) ?_;refine dQ [24,27] [] (aG (a:=(aU++[32])++Lib.itoa x.client++[32]) (b:=ic x.err) rfl rfl (by simp[aU]; omega) rfl) ?_;refine dC [28] [] ?_;refine aB (by kernel_rfl)<|aM<|sR ?_;refine rQ (aV aa rfl rfl rfl) ?_;refine rN ?_;refine rW<|nQ<|sR ?_;refine rQ (bL aa rfl rfl rfl rfl) ?_;refine rQ iL ?_;refine rQ iM ?_;refine rQ (im rfl rfl rfl rfl (by kernel_rfl) (by decide) (bq x.value zBk)) ?_;refine zG<|kS<|sR ?_;refine zD<|zT ?_
  exact⟨trivial,[],lf⟩
 ·have dz:(!decide (x.value=zBk))=true:=by rw[dF hz]; rfl
  rw[if_neg hz,←List.append_assoc]
  refine qR<|rQ (bL aa rfl rfl rfl rfl) ?_;refine rQ iL ?_;refine rC ?_;refine zG<|kS<|qR ?_;refine rQ (bL aa rfl rfl rfl rfl) ?_;refine rQ iL ?_;refine rC ?_;refine zG<|zQ ?_;refine aE (by kernel_rfl) ?_;refine dQ [1] [] (bL aa rfl rfl rfl rfl) ?_;refine dQ [20] [] iL ?_;refine dQ [21] [] (ak (cD x.client hok.client.1 hok.client.2) rfl rfl (aj ab) (.inl rfl) (fun _=>rfl)) ?_;refine dQ [22] [] (aG (a:=aU++[32]) (b:=Lib.itoa x.client) rfl rfl (by simp[aU]; omega) rfl) ?_;refine dQ [23] [] (aG (a:=(aU++[32])++Lib.itoa x.client) (b:=[32]) rfl rfl (by simp[aU]; omega) rfl) ?_;refine dQ [1] [] (bL aa rfl rfl rfl rfl) ?_;refine dQ [25] [] iL ?_;refine dQ [26] [] (ak (pL x.err) rfl rfl (aj ab) (.inl rfl) (fun _=>rfl)) ?_;refine dQ [24,27] [] (aG (a:=(aU++[32])++Lib.itoa x.client++[32]) (b:=ic x.err) rfl rfl (by simp[aU]; omega) rfl) ?_;refine dC [28] [] ?_;refine aB (by kernel_rfl)<|aM<|sR ?_;refine rQ (aV aa rfl rfl rfl) ?_;refine rN ?_;refine rW<|nQ<|sR ?_;refine rQ (bL aa rfl rfl rfl rfl) ?_;refine rQ iL ?_;refine rQ iM ?_;refine rQ (im rfl rfl rfl rfl (by kernel_rfl) (by decide) (bq x.value zBk)) ?_;refine zI<|am ?_;refine rC ?_;refine rQ (aG (a:=(aU++[32])++Lib.itoa x.client++[32]++ic x.err) (b:=[32]) rfl rfl (by simp[aU]; omega) rfl) ?_;refine rQ (bL aa rfl rfl rfl rfl) ?_;refine rQ (uf aa rfl rfl rfl rfl rfl) ?_;refine rQ (ak (iY x.value (by omega)) rfl rfl (aj ab) (.inl rfl) (fun _=>rfl)) ?_;refine rQ (aG (a:=(aU++[32])++Lib.itoa x.client++[32]++ic x.err++[32]) (b:=hexP x.value) rfl rfl (by simp[aU]; omega) rfl) ?_;refine rC<|nR ?_;refine zD<|zT ?_
  exact⟨trivial,[],lf⟩
def dZ (h:List HEv):List UInt8:=h.flatMap fun x=>fx x++[10]
theorem pP {h:List HEv} {i:Nat} {x:HEv} (hx:h[i]?=some x):dZ (h.take (i+1))=dZ (h.take i)++fx x++[10]:=by
 rw[List.take_add_one,hx]; simp[dZ]
theorem ui (h:List HEv) (i:Nat):(dZ (h.take i)).length≤(dZ h).length:=by
 have:=congrArg (fun l=>(dZ l).length) (List.take_append_drop i h)
 simp only[dZ,List.flatMap_append,List.length_append]at this
 unfold dZ
 omega
theorem rq (h:List HEv) (hL:h.length≤1000000) (hok:∀x∈h,x.Ok∧x.op.data.length≤1000000) (hT:(dZ h).length≤1000000000000):FnIs Tryz.prog 32 [.d (encH h)] [] (.d (strD (dZ h))) []:=by
 refine au aa Tryz.func32 rfl rfl rfl ?_;refine sR<|rC<|nR ?_;refine rC<|zW ?_;refine rC<|zP ?_
 refine wc_inv (fun i:Nat=>⟨[(4,.int .i64 i),(3,.d (strD (dZ (h.take i)))),(0,.d (encH h))],[],72,Tryz.f32.ntmps,64⟩) (fun i=>i≤h.length) (fun i=>h.length-i) 0 [] (Nat.zero_le _)
  (lg zj trivial) ?_
 intro i hi
 refine bG ?_
 by_cases hlt:i<h.length
 ·have c1:decide ((i:Int)<(h.length:Int))=true:=dT (by omega)
  obtain⟨x,hx⟩:∃x,h[i]?=some x:=⟨_,List.getElem?_eq_getElem hlt⟩
  have hx':h[((i:Int)).toNat]?=some x:=by rw[Int.toNat_natCast]; exact hx
  obtain⟨hokx,hdx⟩:=hok x (List.mem_of_getElem? hx)
  have hgo:=pP hx
  have hle:=ui h (i+1)
  rw[hgo,List.length_append,List.length_append,List.length_singleton]at hle
  refine qR<|zD ?_;refine rQ iE ?_;refine rC ?_;refine zI<|zQ<|aZ<|am ?_;refine zU ?_;refine rQ (aF aa rfl rfl rfl rfl rfl (by omega) hx') ?_;refine rQ iL ?_;refine rQ (ak (ru x hokx hdx) rfl rfl (aj ab) (.inl rfl) (fun _=>rfl)) ?_;refine rQ (aG (a:=dZ (h.take i)) (b:=fx x) rfl rfl (by omega) rfl) ?_;refine rQ (aG (a:=dZ (h.take i)++fx x) (b:=[10]) rfl rfl (by simp only[List.length_append,List.length_singleton]; omega) rfl) ?_;refine rC<|aA<|zC<|am ?_;refine rC ?_;refine rQ iD ?_;refine rC<|aA ?_
  exact aN (i+1) [] hlt (by omega) (lg ⟨zE,rfl,⟨_,rfl,AVLe.of_eq (congrArg (fun l=>AV.d (strD l)) hgo.symm)⟩,rfl,zE,rfl,trivial⟩ trivial)
 ·have c1:decide ((i:Int)<(h.length:Int))=false:=dF (by omega)
  have he:i=h.length:=by omega
  subst he
  rw[List.take_length]
  refine qR<|zD ?_;refine rQ iE ?_;refine rC ?_;refine zG<|zX<|sR ?_;refine zD<|zT ?_
  exact⟨trivial,[],lf⟩
def cntC (l:List HOp) (c:Int):Int:=(l.countP fun o=>decide (o.client=c):Nat)
def lr (c:Int):List HEv→Nat→Option (Nat×HEv)
 | [],_=>none
 | x::l,k=>if x.kind=3 then none else if x.client=c then some (k,x) else lr c l (k+1)
def dj (x:HEv) (i:Nat) (era n:Int):HOp:=⟨x.client,n,era,x.op,i,-1,zBk,0⟩
def ez (o:HOp):Option (Nat×HEv)→HOp
 | none=>o
 | some (k,y) => { o with returned:=k,value:=y.value,err:=y.err }
def mkOp (h:List HEv) (i:Nat) (x:HEv) (out:List HOp) (era:Int):HOp:=ez (dj x i era (cntC out x.client)) (lr x.client (h.drop (i+1)) (i+1))
def fB (h:List HEv):Nat→Nat→List HOp→Int→List HOp
 | 0,_,out,_=>out
 | n+1,i,out,era=>match h[i]? with
  | none=>out
  | some x=>if x.kind=3 then fB h n (i+1) out (era+1) else if x.kind=1 then fB h n (i+1) (out++[mkOp h i x out era]) era else fB h n (i+1) out era
def opsR (h:List HEv):List HOp:=fB h h.length 0 [] 0
theorem uY {l:List HOp} {k:Nat} {o:HOp} (c:Int) (ho:l[k]?=some o):cntC (l.take (k+1)) c=cntC (l.take k) c+(if o.client=c then 1 else 0):=by
 rw[cntC,cntC,List.take_add_one,ho,Option.toList_some,List.countP_append]
 by_cases h:o.client=c <;> simp[h]
theorem yK (l:List HOp) (c:Int):0≤cntC l c∧cntC l c≤l.length:=by
 have:=List.countP_le_length (p:=fun o:HOp=>decide (o.client=c)) (l:=l)
 unfold cntC
 omega
theorem fy {h:List HEv} {k:Nat} {y:HEv} (c:Int) (hy:h[k]?=some y):lr c (h.drop k) k=if y.kind=3 then none else if y.client=c then some (k,y) else lr c (h.drop (k+1)) (k+1):=by
 have hlt:=(List.getElem?_eq_some_iff.1 hy).1
 rw[List.drop_eq_getElem_cons hlt,(List.getElem?_eq_some_iff.1 hy).2]
 rfl
theorem vM (h:List HEv) (hL:h.length≤1000000):FnIs Tryz.prog 30 [.d (encH h)] [] (.own 64 0 (opsR h).length 41 none) [(64,dA (opsR h))]:=by
 refine au aa Tryz.func30 rfl rfl rfl ?_;refine sR<|rC<|nR ?_;refine rC<|nR ?_;refine rC<|zW ?_;refine rC<|zP ?_
 refine wc_inv (fun q:Nat×List HOp×Int=>⟨[(5,.int .i64 q.1),(4,.int .i64 q.2.2),(3,.own 65 0 q.2.1.length 41 none),(0,.d (encH h))],[(65,some (dA q.2.1))],72,Tryz.f30.ntmps,64⟩) (fun q=>q.1≤h.length∧q.2.1.length≤q.1∧0≤q.2.2∧q.2.2≤q.1∧fB h (h.length-q.1) q.1 q.2.1 q.2.2=opsR h) (fun q=>h.length-q.1) (0,[],0) [(65,none)] ⟨Nat.zero_le _,Nat.le_refl _,Int.le_refl _,Int.le_refl _,rfl⟩
  (lg zi ⟨⟨rfl,rfl,rfl⟩,trivial⟩) ?_
 rintro⟨i,out,era⟩ ⟨hi,ho,he0,he1,hgo⟩
 simp only at hi ho he0 he1 hgo
 refine bG<|qR ?_;refine zD ?_;refine rQ iE ?_;refine rC<|nS ?_
 refine bO rfl (fun h2=>?_) (fun h2=>?_)
 ·have hlt:i<h.length:=by have:=of_decide_eq_true h2; omega
  obtain⟨x,hx⟩:∃u,h[i]?=some u:=⟨_,List.getElem?_eq_getElem hlt⟩
  have hx':h[((i:Int)).toNat]?=some x:=by rw[Int.toNat_natCast]; exact hx
  have hw22:IntKind.i64.wrap (era+1)=era+1:=aO (by omega) (by omega)
  obtain⟨n,hn⟩:∃n,h.length-i=n+1:=⟨h.length-i-1,by omega⟩
  have hn':h.length-(i+1)=n:=by omega
  rw[hn,fB,hx]at hgo
  simp only at hgo
  refine zQ<|aZ<|qR<|zD ?_;refine rQ (aF aa rfl rfl rfl rfl rfl (by omega) hx') ?_;refine rC ?_;refine rQ iL ?_;refine rC<|nS ?_
  by_cases k3:x.kind=3
  ·have d3:decide (x.kind=3)=true:=dT k3
   have d1:(!decide (x.kind=1))=true:=by rw[dF (by omega)]; rfl
   rw[if_pos k3]at hgo
   refine wT<|am ?_;refine rC ?_;refine rQ (cJ (m:=era+1) aa rfl rfl hw22) ?_;refine rC<|zW ?_;refine zD ?_;refine rQ (aF aa rfl rfl rfl rfl rfl (by omega) hx') ?_;refine rC ?_;refine rQ iL ?_;refine rC ?_;refine zI<|cv<|ew<|eD<|aM<|am ?_;refine rC ?_;refine rQ iD ?_;refine rC<|aA ?_
   exact aN (i+1,out,era+1) [(65,some 65)] ⟨hlt,by simp only; omega,by simp only; omega,by simp only; omega,by simp only[hn']; exact hgo⟩ (by show h.length-(i+1)<h.length-i; omega) (lg zi ⟨zR,trivial⟩)
  ·have d3:decide (x.kind=3)=false:=dF k3
   rw[if_neg k3]at hgo
   refine wF<|kS<|qR ?_;refine zD ?_;refine rQ (aF aa rfl rfl rfl rfl rfl (by omega) hx') ?_;refine rC ?_;refine rQ iL ?_;refine rC<|nS ?_
   by_cases k1:x.kind=1
   ·have d1:(!decide (x.kind=1))=false:=by rw[dT k1]; rfl
    rw[if_pos k1]at hgo
    refine wF<|zQ ?_;refine aE (by kernel_rfl) ?_;refine dC [0] [] ?_;refine dC [5] [] ?_;refine dQ [29,30] [] (aF aa rfl rfl rfl rfl rfl (by omega) hx') ?_;refine dC [31] [] ?_;refine dQ [32] [] iL ?_;refine dC [4] [] ?_;refine dC [0] [] ?_;refine dC [5] [] ?_;refine dQ [35,36] [] (aF aa rfl rfl rfl rfl rfl (by omega) hx') ?_;refine dC [37] [] ?_;refine dQ [38] [] iL ?_;refine dC [5] [] ?_;refine dQ [33,34,39,40] [] iS ?_;refine fD [] [] rfl (aw aa (fun K hk=>hk)) ?_;refine bI [6,41] [304] (aD aa rfl rfl rfl ⟨_,⟨rfl,rfl,rfl⟩,rfl⟩ rfl) ?_;refine aB (by kernel_rfl)<|aM<|qR ?_;refine rC<|zP ?_
    refine wc_inv (fun k:Nat=>⟨[(7,.int .i64 k),(6,.ptr 66 []),(5,.int .i64 i),(4,.int .i64 era),(3,.own 65 0 out.length 41 none),(0,.d (encH h))],[(65,some (dA out)),(66,some (.box 43 (.d (b8 (dj x i era (cntC (out.take k) x.client))))))],72,Tryz.f30.ntmps,64⟩) (fun k=>k≤out.length) (fun k=>out.length-k) 0 [(65,some 65),(66,some _)] (Nat.zero_le _)
     (lg zg ⟨zR,zR,trivial⟩) ?_
    intro k hk
    refine bG<|qR ?_;refine zD ?_;refine rQ (bP aa rfl rfl) ?_;refine rC<|nS ?_
    refine bO rfl (fun h4=>?_) (fun h4=>?_)
    ·have hkl:k<out.length:=by have:=of_decide_eq_true h4; omega
     obtain⟨q,hq⟩:∃q,out[k]?=some q:=⟨_,List.getElem?_eq_getElem hkl⟩
     have hq':out[((k:Int)).toNat]?=some q:=by rw[Int.toNat_natCast]; exact hq
     have hcn:=uY x.client hq
     have hcl:=yK (out.take k) x.client
     rw[List.length_take]at hcl
     have hw58:IntKind.i64.wrap (cntC (out.take k) x.client+1)=cntC (out.take k) x.client+1:=aO (by omega) (by omega)
     refine zQ<|aZ<|bk<|aE (by kernel_rfl) ?_;refine dC [3] [] ?_;refine dC [7] [] ?_;refine dQ [48,49] [] (br aa rfl rfl rfl rfl rfl (by omega) (by omega)) ?_;refine dC [50] [] ?_;refine dQ [51] [65] (bU aa rfl rfl ⟨rfl,q,hq',_,rfl,rfl⟩ rfl) ?_;refine dC [6] [] ?_;refine dQ [53] [66] iB ?_;refine dC [52,54] [] ?_;refine aB (by kernel_rfl)<|aM ?_
     by_cases kc:q.client=x.client
     ·have dc:decide (q.client=x.client)=true:=dT kc
      rw[if_pos kc]at hcn
      refine wT<|am ?_;refine rC ?_;refine rQ iB ?_;refine rQ (cJ aa rfl rfl hw58) ?_;refine rC ?_;refine rX<|aA<|gw<|aM<|am ?_;refine rC ?_;refine rQ iD ?_;refine rC<|aA ?_
      exact aN (k+1) [(65,some 65),(66,some 66)] hkl (by omega) (lg zg ⟨zR,⟨rfl,rfl,_,rfl,bj.of_eq (congrArg (fun n=>Row.box 43 (.d (b8 (dj x i era n)))) hcn.symm)⟩,trivial⟩)
     ·have dc:decide (q.client=x.client)=false:=dF kc
      rw[if_neg kc,Int.add_zero]at hcn
      refine wF<|aL<|zC<|am ?_;refine rC ?_;refine rQ iD ?_;refine rC<|aA ?_
      exact aN (k+1) [(65,some 65),(66,some 66)] hkl (by omega) (lg zg ⟨zR,⟨rfl,rfl,_,rfl,bj.of_eq (congrArg (fun n=>Row.box 43 (.d (b8 (dj x i era n)))) hcn.symm)⟩,trivial⟩)
    ·have hke:k=out.length:=by have:=of_decide_eq_false h4; omega
     subst hke
     rw[List.take_length]
     refine zX<|qR<|rC ?_;refine rQ iD ?_;refine rC<|zP ?_
     have hal:out.length+1≤1048576:=by omega
     refine wc_inv (fun k:Nat=>⟨[(8,.int .i64 k),(6,.ptr 66 []),(5,.int .i64 i),(4,.int .i64 era),(3,.own 65 0 out.length 41 none),(0,.d (encH h))],[(65,some (dA out)),(66,some (.box 43 (.d (b8 (dj x i era (cntC out x.client))))))],72,Tryz.f30.ntmps,64⟩) (fun k=>k≤h.length∧lr x.client (h.drop k) k=lr x.client (h.drop (i+1)) (i+1)) (fun k=>h.length-k) (i+1) [(65,some 65),(66,some 66)] ⟨hlt,rfl⟩
      (lg zg ⟨zR,zR,trivial⟩) ?_
     rintro k ⟨hk2,hret⟩
     refine bG<|qR ?_;refine zD ?_;refine rQ iE ?_;refine zD ?_
     by_cases hkl:k<h.length
     ·have d66:decide ((k:Int)<(h.length:Int))=true:=dT (by omega)
      obtain⟨y,hy⟩:∃y,h[k]?=some y:=⟨_,List.getElem?_eq_getElem hkl⟩
      have hy':h[((k:Int)).toNat]?=some y:=by rw[Int.toNat_natCast]; exact hy
      have hst:=fy x.client hy
      rw[hret]at hst
      refine rO ?_;refine rC ?_;refine rO ?_;refine rC ?_;refine rO ?_;refine rQ (aF aa rfl rfl rfl rfl rfl (by omega) hy') ?_;refine rO ?_;refine rC ?_;refine rO ?_;refine rQ iL ?_;refine rO ?_;refine rC ?_;refine rQ iT<|nS ?_
      by_cases y3:y.kind=3
      ·have dy:(!decide (y.kind=3))=false:=by rw[dT y3]; rfl
       rw[if_pos y3]at hst
       have hmk:mkOp h i x out era=ez (dj x i era (cntC out x.client)) none:=by rw[mkOp,hst]
       rw[hmk]at hgo
       have hl1:out.length+1=(out++[ez (dj x i era (cntC out x.client)) none]).length:=by simp
       refine wF<|zX<|am ?_;refine rC ?_;refine rQ iM ?_;refine aJ (aC (s:=41) aa rfl rfl rfl rfl rfl rfl rfl rfl) rfl ?_;refine aT (aR (enc:=b8) (s:=41) (xs:=out) aa (ez (dj x i era (cntC out x.client)) none) rfl rfl rfl rfl rfl rfl rfl rfl rfl hal rfl) rfl ?_;refine rC<|aA<|zC<|am ?_;refine rC ?_;refine rQ iD ?_;refine rC<|aA ?_
       exact aN (i+1,out++[ez (dj x i era (cntC out x.client)) none],era) [(65,some _)] ⟨hlt,by simp; omega,by simp only; omega,by simp only; omega,by simp only[hn']; exact hgo⟩ (by show h.length-(i+1)<h.length-i; omega) (lg ⟨zE,rfl,zE,rfl,⟨_,rfl,AVLe.of_eq (congrArg (fun n=>AV.own _ 0 n 41 none) hl1)⟩,rfl,zE,rfl,trivial⟩ ⟨zR,trivial⟩)
      ·have dy:(!decide (y.kind=3))=true:=by rw[dF y3]; rfl
       rw[if_neg y3]at hst
       refine wT<|zQ<|aZ<|bk ?_;refine aE (by kernel_rfl) ?_;refine dC [0] [] ?_;refine dC [8] [] ?_;refine dQ [76,77] [] (aF aa rfl rfl rfl rfl rfl (by omega) hy') ?_;refine dC [78] [] ?_;refine dQ [79] [] iL ?_;refine dC [6] [] ?_;refine dQ [81] [66] iB ?_;refine dC [80,82] [] ?_;refine aB (by kernel_rfl)<|aM ?_
       by_cases yc:y.client=x.client
       ·have dc:decide (y.client=x.client)=true:=dT yc
        rw[if_pos yc]at hst
        have hmk:mkOp h i x out era=ez (dj x i era (cntC out x.client)) (some (k,y)):=by rw[mkOp,hst]
        rw[hmk]at hgo
        have hl1:out.length+1=(out++[ez (dj x i era (cntC out x.client)) (some (k,y))]).length:=by simp
        refine wT<|sR ?_;refine zD ?_;refine rX<|nR ?_;refine zD ?_;refine rQ (aF aa rfl rfl rfl rfl rfl (by omega) hy') ?_;refine rC ?_;refine rQ iL ?_;refine rC ?_;refine rX<|nR ?_;refine zD ?_;refine rQ (aF aa rfl rfl rfl rfl rfl (by omega) hy') ?_;refine rC ?_;refine rQ iL ?_;refine rC ?_;refine rX<|nS<|cv ?_;refine Cr rfl<|ew<|fe<|eD<|aM<|am ?_;refine rC ?_;refine rQ iM ?_;refine aJ (aC (s:=41) aa rfl rfl rfl rfl rfl rfl rfl rfl) rfl ?_;refine aT (aR (enc:=b8) (s:=41) (xs:=out) aa (ez (dj x i era (cntC out x.client)) (some (k,y))) rfl rfl rfl rfl rfl rfl rfl rfl rfl hal rfl) rfl ?_;refine rC<|aA<|zC<|am ?_;refine rC ?_;refine rQ iD ?_;refine rC<|aA ?_
        exact aN (i+1,out++[ez (dj x i era (cntC out x.client)) (some (k,y))],era) [(65,some _)] ⟨hlt,by simp; omega,by simp only; omega,by simp only; omega,by simp only[hn']; exact hgo⟩ (by show h.length-(i+1)<h.length-i; omega) (lg ⟨zE,rfl,zE,rfl,⟨_,rfl,AVLe.of_eq (congrArg (fun n=>AV.own _ 0 n 41 none) hl1)⟩,rfl,zE,rfl,trivial⟩ ⟨zR,trivial⟩)
       ·have dc:decide (y.client=x.client)=false:=dF yc
        rw[if_neg yc]at hst
        refine wF<|aL<|zC<|am ?_;refine rC ?_;refine rQ iD ?_;refine rC<|aA ?_
        exact aN (k+1) [(65,some 65),(66,some 66)] ⟨hkl,hst.symm⟩ (by omega) (lg zg ⟨zR,zR,trivial⟩)
     ·have d66:decide ((k:Int)<(h.length:Int))=false:=dF (by omega)
      have hst:lr x.client (h.drop (i+1)) (i+1)=none:=by rw[←hret,List.drop_eq_nil_of_le (by omega)]; rfl
      have hmk:mkOp h i x out era=ez (dj x i era (cntC out x.client)) none:=by rw[mkOp,hst]
      rw[hmk]at hgo
      have hl1:out.length+1=(out++[ez (dj x i era (cntC out x.client)) none]).length:=by simp
      iterate 6 refine rS ?_
      refine rQ iF ?_;refine zJ<|zX<|am ?_;refine rC ?_;refine rQ iM ?_;refine aJ (aC (s:=41) aa rfl rfl rfl rfl rfl rfl rfl rfl) rfl ?_;refine aT (aR (enc:=b8) (s:=41) (xs:=out) aa (ez (dj x i era (cntC out x.client)) none) rfl rfl rfl rfl rfl rfl rfl rfl rfl hal rfl) rfl ?_;refine rC<|aA<|zC<|am ?_;refine rC ?_;refine rQ iD ?_;refine rC<|aA ?_
      exact aN (i+1,out++[ez (dj x i era (cntC out x.client)) none],era) [(65,some _)] ⟨hlt,by simp; omega,by simp only; omega,by simp only; omega,by simp only[hn']; exact hgo⟩ (by show h.length-(i+1)<h.length-i; omega) (lg ⟨zE,rfl,zE,rfl,⟨_,rfl,AVLe.of_eq (congrArg (fun n=>AV.own _ 0 n 41 none) hl1)⟩,rfl,zE,rfl,trivial⟩ ⟨zR,trivial⟩)
   ·have d1:(!decide (x.kind=1))=true:=by rw[dF k1]; rfl
    rw[if_neg k1]at hgo
    refine wT<|cv<|ew<|eD<|aM<|am ?_;refine rC ?_;refine rQ iD ?_;refine rC<|aA ?_
    exact aN (i+1,out,era) [(65,some 65)] ⟨hlt,by simp only; omega,by simp only; omega,by simp only; omega,by simp only[hn']; exact hgo⟩ (by show h.length-(i+1)<h.length-i; omega) (lg zi ⟨zR,trivial⟩)
 ·have hi2:i=h.length:=by have:=of_decide_eq_false h2; omega
  subst hi2
  rw[Nat.sub_self]at hgo
  rw[←hgo]
  refine zX<|sR<|zD<|zT ?_
  exact⟨trivial,[(64,some _)],lg zV ⟨zR,trivial⟩⟩
theorem sX (h:List HEv) (hL:h.length≤1000000):FnIs Tryz.prog 30 [.d (encH h)] [] (.d (eu (opsR h))) []:=(vM h hL).freeze_out 64 _ rfl (Frz.own rfl) trivial
structure PQ where
 kind:UInt8
 index:UInt8
 data:UInt8
def encQ (x:PQ):D :=.cons (u8s x.kind.toNat) (.cons (u8s x.index.toNat) (.cons (u8s x.data.toNat) .nil))
def qOf (x:PQ):POp :=
 if x.kind.toNat % 9<4 then⟨1,((x.index.toNat % 22:Nat):Int)-1,[]⟩
 else if x.kind.toNat % 9<7 then⟨2,((x.index.toNat % 22:Nat):Int)-1,List.replicate 32 x.data⟩
 else if x.kind.toNat % 9=8 then⟨((x.data.toNat % 4:Nat):Int),(x.index.toNat:Int)-100,List.replicate (x.index.toNat % 32) x.data⟩
 else⟨3,0,[]⟩
theorem ft (k i:Int):AVLe (.d (.cons (.sc (.int .u8 k)) (.cons (.sc (.int .i64 i)) (.cons (.sc nil_) .nil)))) (.d (bu ⟨k,i,[]⟩)):=
 AVLe.d (x:=encV (true,⟨k,i,[]⟩)) (fun w X cs h=>yE (x:=(true,⟨k,i,[]⟩)) (fun _=>rfl) h) rfl
def eA (d:Int) (n i:Nat):List Int:=List.replicate i d++List.replicate (n-i) 0
theorem sw (d:Int) (n:Nat):eA d n 0=List.replicate n 0:=by simp[eA]
theorem kM {d:Int} {n i:Nat} (h:i<n):(eA d n i)[i]?=some 0:=by
 obtain⟨k,hk⟩:∃k,n-i=k+1:=⟨n-i-1,by omega⟩
 rw[eA,hk,List.getElem?_append_right (by simp),List.length_replicate,Nat.sub_self]
 rfl
theorem kL {d:Int} {n i:Nat} (h:i<n):(eA d n i).set i d=eA d n (i+1):=by
 obtain⟨k,hk⟩:∃k,n-i=k+1:=⟨n-i-1,by omega⟩
 rw[eA,eA,List.set_append_right _ _ (by simp),List.replicate_succ' (n:=i),List.append_assoc,hk,show n-(i+1)=k by omega,List.length_replicate,Nat.sub_self]
 rfl
theorem kN (d:UInt8) (n:Nat):eA d.toNat n n=byI (List.replicate n d):=by simp[eA,byI]
theorem zo (x:PQ):FnIs Tryz.prog 84 [.d (encQ x)] [] (.d (bu (qOf x))) []:=by
 have hx1:=x.kind.toNat_lt
 have hx2:=x.index.toNat_lt
 have hx3:=x.data.toNat_lt
 refine au aa Tryz.func84 rfl rfl rfl ?_;refine sR ?_;iterate 2 refine rN ?_
 refine nR<|rQ iS ?_;refine rN ?_;refine rW<|nR ?_;refine aJ (de (enc:=bE) (s:=1) (N:=32) aa (0:Int) rfl rfl rfl rfl rfl rfl rfl (by decide) rfl) rfl ?_;refine rC<|zW ?_;refine rC<|zP ?_
 refine wc_inv (fun i:Nat=>⟨[(5,.int .i64 i),(4,.own 67 0 32 1 none),(3,.ptr 66 []),(2,.ptr 65 []),(1,.ptr 64 [])],[(64,some (.box 147 (.d (encQ x)))),(65,some (.box 27 (.d (encV (true,nN))))),(66,some (.box 27 (.d (encV (true,⟨3,0,[]⟩))))),(67,some (.ds 5 1 true bE (eA x.data.toNat 32 i)))],72,Tryz.f84.ntmps,64⟩) (fun i=>i≤32) (fun i=>32-i) 0 [(64,some _),(65,some _),(66,some _),(67,some _)] (Nat.zero_le _)
  (lg zh ⟨zR,zR,zR,⟨rfl,rfl,_,rfl,bj.of_eq (by rw[sw]; rfl)⟩,trivial⟩) ?_
 intro i hi
 by_cases hlt:i<32
 ·have h3:decide ((i:Int)<32)=true:=dT (by omega)
  have hg:(eA x.data.toNat 32 i)[((i:Int)).toNat]?=some 0:=by rw[Int.toNat_natCast]; exact kM hlt
  have hset:=kL (d:=(x.data.toNat:Int)) hlt
  refine bG<|qR ?_;refine zD ?_;refine zI<|zQ<|aZ<|am ?_;refine zU ?_;refine rQ iB ?_;refine rQ (br aa rfl rfl rfl rfl rfl (by omega) (by omega)) ?_;refine bg (aD aa rfl rfl rfl ⟨rfl,(0:Int),(x.data.toNat:Int),hg,⟨rfl,rfl,rfl⟩,rfl⟩ rfl)<|aA<|zC<|am ?_;refine rC ?_;refine rQ iD ?_;refine rC<|aA ?_
  exact aN (i+1) [] hlt (by omega) (lg zh ⟨zR,zR,zR,⟨rfl,rfl,_,rfl,bj.of_eq (congrArg (Row.ds 5 1 true bE) hset)⟩,trivial⟩)
 ·have he:i=32:=by omega
  subst he
  rw[kN]
  have h3:decide (((32:Nat):Int)<32)=false:=rfl
  have hl32:32=(byI (List.replicate 32 x.data)).length:=by rw[b6,List.length_replicate]
  refine bG ?_;refine fZ (env':=[(5,_),(4,_),(3,_),(2,_),(1,_)]) (h':=[(64,some _),(65,some _),(66,some _)]) 67 _ rfl ⟨zE,⟨_,rfl,Frz.own hl32⟩,zE,zE,zE,trivial⟩ ⟨⟨rfl,_,rfl,.refl _⟩,⟨rfl,_,rfl,.refl _⟩,⟨rfl,_,rfl,.refl _⟩,trivial⟩ ?_
  have hw27:IntKind.i64.wrap ((x.index.toNat % 22:Nat):Int)=((x.index.toNat % 22:Nat):Int):=aO (by omega) (by omega)
  have hw48:IntKind.i64.wrap (x.index.toNat:Int)=(x.index.toNat:Int):=aO (by omega) (by omega)
  have h54:((x.index.toNat % 32:Nat):Int)≤(byI (List.replicate 32 x.data)).length:=by rw[b6,List.length_replicate]; omega
  by_cases q4:x.kind.toNat % 9<4
  ·have d4:decide (((x.kind.toNat % 9:Nat):Int)<4)=true:=dT (by omega)
   rw[show qOf x=⟨1,((x.index.toNat % 22:Nat):Int)-1,[]⟩ by rw[qOf,if_pos q4]]
   refine qR<|zD ?_;refine zJ<|zX<|qR ?_;refine rC ?_;refine rQ iB ?_;refine rQ (bH (a:=x.kind.toNat) (b:=9) aa rfl rfl rfl (by decide)) ?_;refine rC<|zP<|sR ?_;refine zU ?_;refine zI<|am ?_;refine rC ?_;refine rQ iB ?_;refine rQ (bH (a:=x.index.toNat) (b:=22) aa rfl rfl rfl (by decide)) ?_;refine rQ (bf (m:=((x.index.toNat % 22:Nat):Int)) aa rfl rfl rfl hw27) ?_;refine rQ (cH aa rfl rfl (aO (by omega) (by omega))) ?_;refine rQ iS ?_;refine rW<|aA<|zC<|sR ?_;refine rQ iM ?_;refine rW<|zT ?_
   exact⟨trivial,_,rfl,[],lg ⟨⟨_,rfl,ft _ _⟩,rfl,trivial⟩ trivial⟩
  have d4:decide (((x.kind.toNat % 9:Nat):Int)<4)=false:=dF (by omega)
  by_cases q7:x.kind.toNat % 9<7
  ·have d7:decide (((x.kind.toNat % 9:Nat):Int)<7)=true:=dT (by omega)
   rw[show qOf x=⟨2,((x.index.toNat % 22:Nat):Int)-1,List.replicate 32 x.data⟩ by rw[qOf,if_neg q4,if_pos q7]]
   refine qR<|zD ?_;refine zJ<|zX<|qR ?_;refine rC ?_;refine rQ iB ?_;refine rQ (bH (a:=x.kind.toNat) (b:=9) aa rfl rfl rfl (by decide)) ?_;refine rC<|zP<|sR ?_;refine zU ?_;refine zG<|sR ?_;refine zU ?_;refine zI<|am ?_;refine rC ?_;refine rQ iB ?_;refine rQ (bH (a:=x.index.toNat) (b:=22) aa rfl rfl rfl (by decide)) ?_;refine rQ (bf (m:=((x.index.toNat % 22:Nat):Int)) aa rfl rfl rfl hw27) ?_;refine rQ (cH aa rfl rfl (aO (by omega) (by omega))) ?_;refine rC ?_;refine rQ iS ?_;refine rW<|aA<|zC<|sR ?_;refine rQ iM ?_;refine rW<|zT ?_
   exact⟨trivial,_,rfl,[],lf⟩
  have d7:decide (((x.kind.toNat % 9:Nat):Int)<7)=false:=dF (by omega)
  by_cases q8:x.kind.toNat % 9=8
  ·have d8:decide (((x.kind.toNat % 9:Nat):Int)=8)=true:=dT (by omega)
   rw[show qOf x=⟨((x.data.toNat % 4:Nat):Int),(x.index.toNat:Int)-100,List.replicate (x.index.toNat % 32) x.data⟩ by rw[qOf,if_neg q4,if_neg q7,if_pos q8]]
   have ht:(byI (List.replicate 32 x.data)).take (((x.index.toNat % 32:Nat):Int)).toNat=byI (List.replicate (x.index.toNat % 32) x.data):=by
    rw[Int.toNat_natCast,byI,byI,←List.map_take,List.take_replicate,Nat.min_eq_left (by omega)]
   refine qR<|zD ?_;refine zJ<|zX<|qR ?_;refine rC ?_;refine rQ iB ?_;refine rQ (bH (a:=x.kind.toNat) (b:=9) aa rfl rfl rfl (by decide)) ?_;refine rC<|zP<|sR ?_;refine zU ?_;refine zG<|sR ?_;refine zU ?_;refine zG<|sR ?_;refine zU ?_;refine zI ?_;refine aE (by kernel_rfl) ?_;refine dC [1] [] ?_;refine dQ [43] [64] iB ?_;refine dQ [44] [] (bH (a:=x.data.toNat) (b:=4) aa rfl rfl rfl (by decide)) ?_;refine dC [1] [] ?_;refine dQ [46] [64] iB ?_;refine dQ [47] [] (bf (m:=(x.index.toNat:Int)) aa rfl rfl rfl hw48) ?_;refine dQ [48] [] (cH aa rfl rfl (aO (by omega) (by omega))) ?_;refine dC [4] [] ?_;refine dC [1] [] ?_;refine dQ [51] [64] iB ?_;refine dQ [52] [] (bH (a:=x.index.toNat) (b:=32) aa rfl rfl rfl (by decide)) ?_;refine dQ [50,53] [] (gg (m:=((x.index.toNat % 32:Nat):Int)) aa rfl rfl rfl rfl (by omega) h54) ?_;refine dQ [45,49,54] [] iS ?_;refine bI [3,55] [66] (aD aa rfl rfl rfl ⟨_,⟨rfl,rfl,rfl⟩,rfl⟩ rfl) ?_;refine aB (by kernel_rfl)<|gw<|aM<|sR ?_;refine rQ iM ?_;refine rW<|zT ?_
   rw[ht]
   exact⟨trivial,_,rfl,[],lf⟩
  ·have d8:decide (((x.kind.toNat % 9:Nat):Int)=8)=false:=dF (by omega)
   rw[show qOf x=⟨3,0,[]⟩ by rw[qOf,if_neg q4,if_neg q7,if_neg q8]]
   refine qR<|zD ?_;refine zJ<|zX<|qR ?_;refine rC ?_;refine rQ iB ?_;refine rQ (bH (a:=x.kind.toNat) (b:=9) aa rfl rfl rfl (by decide)) ?_;refine rC<|zP<|sR ?_;refine zU ?_;refine zG<|sR ?_;refine zU ?_;refine zG<|sR ?_;refine zU ?_;refine zG<|aL<|zC<|sR ?_;refine rQ iM ?_;refine rW<|zT ?_
   exact⟨trivial,_,rfl,[],lg ⟨⟨_,rfl,ft _ _⟩,rfl,trivial⟩ trivial⟩
def blkB (d:UInt8):UInt8:=(d.toNat % 4).toUInt8
theorem xv (d:UInt8):(blkB d).toNat=d.toNat % 4:=by
 rw[blkB,Nat.toUInt8_eq,UInt8.toNat_ofNat']
 omega
theorem nm (d:UInt8):FnIs Tryz.prog 55 [.int .u8 d.toNat] [] (.d (fg (List.replicate 32 (blkB d)))) []:=by
 have hd:=d.toNat_lt
 refine au aa Tryz.func55 rfl rfl rfl ?_;refine sR<|rN<|nR ?_;refine rN<|zW ?_;refine rC<|zP ?_
 refine wc_inv (fun i:Nat=>⟨[(4,.int .i64 i),(3,.ptr 65 []),(2,.ptr 66 []),(0,.int .u8 d.toNat)],[(65,some (.box 29 (.d (.vec 32 1 bE (eA ((d.toNat % 4:Nat):Int) 32 i))))),(66,some (.box 29 (.d (.vec 32 1 bE (List.replicate 32 0)))))],72,Tryz.f55.ntmps,64⟩) (fun i=>i≤32) (fun i=>32-i) 0 [(65,some _),(66,some _)] (Nat.zero_le _)
  (lg zi ⟨zR,zR,trivial⟩) ?_
 intro i hi
 refine bG<|qR ?_;refine zD<|nS ?_
 refine bO rfl (fun h3=>?_) (fun h3=>?_)
 ·have hlt:i<32:=by have:=of_decide_eq_true h3; omega
  have hg:(eA ((d.toNat % 4:Nat):Int) 32 i)[((i:Int)).toNat]?=some 0:=by rw[Int.toNat_natCast]; exact kM hlt
  have hs:=kL (d:=((d.toNat % 4:Nat):Int)) hlt
  refine zQ<|aZ<|am<|zD ?_;refine rQ (bH (a:=d.toNat) (b:=4) aa rfl rfl rfl (by decide)) ?_;refine rQ (aw aa (fun K hk=>⟨by omega,by omega,hk⟩)) ?_;refine bg (aD aa rfl rfl rfl ⟨_,⟨_,⟨rfl,_,((d.toNat % 4:Nat):Int),hg,⟨rfl,rfl,rfl⟩,rfl⟩,rfl⟩,rfl⟩ rfl)<|aA<|zC<|am ?_;refine rC ?_;refine rQ iD ?_;refine rC<|aA ?_
  exact aN (i+1) [(65,some 65),(66,some 66)] hlt (by omega) (lg zi ⟨⟨rfl,rfl,_,rfl,bj.of_eq (congrArg (fun l=>Row.box 29 (.d (.vec 32 1 bE l))) hs)⟩,zR,trivial⟩)
 ·have he:i=32:=by have:=of_decide_eq_false h3; omega
  subst he
  have hE:eA ((d.toNat % 4:Nat):Int) 32 32=byI (List.replicate 32 (blkB d)):=by rw[←xv]; exact kN _ _
  rw[hE]
  refine zX<|sR<|rQ iM ?_;refine rW<|zT ?_
  exact⟨trivial,_,rfl,[],lf⟩
structure XE where
 who:UInt8
 what:UInt8
 data:UInt8
def xa (x:XE):D :=.cons (u8s x.who.toNat) (.cons (u8s x.what.toNat) (.cons (u8s x.data.toNat) .nil))
def opX (x:XE):POp :=
 if x.what.toNat % 8<3 then⟨1,((x.data.toNat/4 % 3:Nat):Int),[]⟩
 else if x.what.toNat % 8<6 then⟨2,((x.data.toNat/4 % 3:Nat):Int),List.replicate 32 (blkB x.data)⟩
 else if x.what.toNat % 8=6 then⟨3,0,[]⟩
 else qOf ⟨8,x.data,x.what⟩
theorem wj (x:XE):FnIs Tryz.prog 53 [.d (xa x)] [] (.d (bu (opX x))) []:=by
 have hx1:=x.what.toNat_lt
 have hx2:=x.data.toNat_lt
 have hwc:IntKind.i64.wrap ((x.data.toNat/4:Nat):Int)=((x.data.toNat/4:Nat):Int):=aO (by omega) (by omega)
 refine au aa Tryz.func53 rfl rfl rfl ?_;refine sR ?_;iterate 2 refine rN ?_
 refine nR<|rC ?_;refine rQ iB ?_;refine rQ (ak (nm x.data) rfl rfl (aj ab) (.inl rfl) (fun _=>rfl)) ?_;refine rN ?_;refine rW<|nS ?_;refine fZ (env':=[(3,_),(2,_),(1,_)]) (h':=[(64,some _),(72,some _)]) 104 _ rfl ⟨⟨_,rfl,Frz.ptr⟩,zE,zE,trivial⟩ ⟨⟨rfl,_,rfl,.refl _⟩,⟨rfl,_,rfl,.refl _⟩,trivial⟩ ?_
 have hw8:x.what.toNat % 8<8:=Nat.mod_lt _ (by decide)
 refine qR<|rC ?_;refine rQ iB ?_;refine rQ (bH (a:=x.what.toNat) (b:=8) aa rfl rfl rfl (by decide))<|zP<|qR ?_;refine zD<|nS ?_
 by_cases w0:x.what.toNat % 8=0
 ·have e0:decide (((x.what.toNat % 8:Nat):Int)=0)=true:=dT (by omega)
  rw[show opX x=⟨1,((x.data.toNat/4 % 3:Nat):Int),[]⟩ by rw[opX,if_pos (by omega)]]
  refine wT<|kS ?_;refine wT<|sR ?_;refine rC ?_;refine rQ iB ?_;refine rQ (gG (a:=x.data.toNat) (s:=2) (m:=x.data.toNat/4) rfl rfl (by decide) rfl) ?_;refine rQ (bf (m:=((x.data.toNat/4:Nat):Int)) aa rfl rfl rfl hwc) ?_;refine rQ (bH (a:=x.data.toNat/4) (b:=3) aa rfl rfl rfl (by decide)) ?_;refine rQ iS ?_;refine rW<|zT<|zB ?_
  exact⟨trivial,_,rfl,[],lg ⟨⟨_,rfl,ft _ _⟩,rfl,trivial⟩ trivial⟩
 skip
 by_cases w1:x.what.toNat % 8=1
 ·have e0:decide (((x.what.toNat % 8:Nat):Int)=0)=false:=dF (by omega)
  have e1:decide (((x.what.toNat % 8:Nat):Int)=1)=true:=dT (by omega)
  rw[show opX x=⟨1,((x.data.toNat/4 % 3:Nat):Int),[]⟩ by rw[opX,if_pos (by omega)]]
  refine wF<|sR ?_;refine zD ?_;refine zI<|kS ?_;refine wT<|sR ?_;refine rC ?_;refine rQ iB ?_;refine rQ (gG (a:=x.data.toNat) (s:=2) (m:=x.data.toNat/4) rfl rfl (by decide) rfl) ?_;refine rQ (bf (m:=((x.data.toNat/4:Nat):Int)) aa rfl rfl rfl hwc) ?_;refine rQ (bH (a:=x.data.toNat/4) (b:=3) aa rfl rfl rfl (by decide)) ?_;refine rQ iS ?_;refine rW<|zT<|zB ?_
  exact⟨trivial,_,rfl,[],lg ⟨⟨_,rfl,ft _ _⟩,rfl,trivial⟩ trivial⟩
 skip
 by_cases w2:x.what.toNat % 8=2
 ·have e0:decide (((x.what.toNat % 8:Nat):Int)=0)=false:=dF (by omega)
  have e1:decide (((x.what.toNat % 8:Nat):Int)=1)=false:=dF (by omega)
  have e2:decide (((x.what.toNat % 8:Nat):Int)=2)=true:=dT (by omega)
  rw[show opX x=⟨1,((x.data.toNat/4 % 3:Nat):Int),[]⟩ by rw[opX,if_pos (by omega)]]
  refine wF<|sR ?_;refine zD ?_;refine zG<|am ?_;refine zD ?_;refine zI<|sR ?_;refine rC ?_;refine rQ iB ?_;refine rQ (gG (a:=x.data.toNat) (s:=2) (m:=x.data.toNat/4) rfl rfl (by decide) rfl) ?_;refine rQ (bf (m:=((x.data.toNat/4:Nat):Int)) aa rfl rfl rfl hwc) ?_;refine rQ (bH (a:=x.data.toNat/4) (b:=3) aa rfl rfl rfl (by decide)) ?_;refine rQ iS ?_;refine rW<|zT<|zB ?_
  exact⟨trivial,_,rfl,[],lg ⟨⟨_,rfl,ft _ _⟩,rfl,trivial⟩ trivial⟩
 skip
 by_cases w3:x.what.toNat % 8=3
 ·have e0:decide (((x.what.toNat % 8:Nat):Int)=0)=false:=dF (by omega)
  have e1:decide (((x.what.toNat % 8:Nat):Int)=1)=false:=dF (by omega)
  have e2:decide (((x.what.toNat % 8:Nat):Int)=2)=false:=dF (by omega)
  have e3:decide (((x.what.toNat % 8:Nat):Int)=3)=true:=dT (by omega)
  rw[show opX x=⟨2,((x.data.toNat/4 % 3:Nat):Int),List.replicate 32 (blkB x.data)⟩ by rw[opX,if_neg (by omega),if_pos (by omega)]]
  refine wF<|sR ?_;refine zD ?_;refine zG<|am ?_;refine zD ?_;refine zG<|qR ?_;refine zD ?_;refine zI<|kS ?_;refine wT<|bk ?_;refine aE (by kernel_rfl) ?_;refine dC [1] [] ?_;refine dQ [24] [64] iB ?_;refine dQ [25] [] (gG (a:=x.data.toNat) (s:=2) (m:=x.data.toNat/4) rfl rfl (by decide) rfl) ?_;refine dQ [26] [] (bf (m:=((x.data.toNat/4:Nat):Int)) aa rfl rfl rfl hwc) ?_;refine dQ [27] [] (bH (a:=x.data.toNat/4) (b:=3) aa rfl rfl rfl (by decide)) ?_;refine dQ [3] [] (mp aa rfl rfl rfl rfl rfl) ?_;refine dQ [28,29] [] iS ?_;refine bI [2,30] [72] (aD aa rfl rfl rfl ⟨_,⟨rfl,rfl,rfl⟩,rfl⟩ rfl) ?_;refine aB (by kernel_rfl)<|aM<|bR<|zB ?_
  exact⟨trivial,_,rfl,[],lf⟩
 skip
 by_cases w4:x.what.toNat % 8=4
 ·have e0:decide (((x.what.toNat % 8:Nat):Int)=0)=false:=dF (by omega)
  have e1:decide (((x.what.toNat % 8:Nat):Int)=1)=false:=dF (by omega)
  have e2:decide (((x.what.toNat % 8:Nat):Int)=2)=false:=dF (by omega)
  have e3:decide (((x.what.toNat % 8:Nat):Int)=3)=false:=dF (by omega)
  have e4:decide (((x.what.toNat % 8:Nat):Int)=4)=true:=dT (by omega)
  rw[show opX x=⟨2,((x.data.toNat/4 % 3:Nat):Int),List.replicate 32 (blkB x.data)⟩ by rw[opX,if_neg (by omega),if_pos (by omega)]]
  refine wF<|sR ?_;refine zD ?_;refine zG<|am ?_;refine zD ?_;refine zG<|qR ?_;refine zD ?_;refine zG<|sR ?_;refine zD ?_;refine zI<|kS ?_;refine wT<|bk ?_;refine aE (by kernel_rfl) ?_;refine dC [1] [] ?_;refine dQ [24] [64] iB ?_;refine dQ [25] [] (gG (a:=x.data.toNat) (s:=2) (m:=x.data.toNat/4) rfl rfl (by decide) rfl) ?_;refine dQ [26] [] (bf (m:=((x.data.toNat/4:Nat):Int)) aa rfl rfl rfl hwc) ?_;refine dQ [27] [] (bH (a:=x.data.toNat/4) (b:=3) aa rfl rfl rfl (by decide)) ?_;refine dQ [3] [] (mp aa rfl rfl rfl rfl rfl) ?_;refine dQ [28,29] [] iS ?_;refine bI [2,30] [72] (aD aa rfl rfl rfl ⟨_,⟨rfl,rfl,rfl⟩,rfl⟩ rfl) ?_;refine aB (by kernel_rfl)<|aM<|bR<|zB ?_
  exact⟨trivial,_,rfl,[],lf⟩
 skip
 by_cases w5:x.what.toNat % 8=5
 ·have e0:decide (((x.what.toNat % 8:Nat):Int)=0)=false:=dF (by omega)
  have e1:decide (((x.what.toNat % 8:Nat):Int)=1)=false:=dF (by omega)
  have e2:decide (((x.what.toNat % 8:Nat):Int)=2)=false:=dF (by omega)
  have e3:decide (((x.what.toNat % 8:Nat):Int)=3)=false:=dF (by omega)
  have e4:decide (((x.what.toNat % 8:Nat):Int)=4)=false:=dF (by omega)
  have e5:decide (((x.what.toNat % 8:Nat):Int)=5)=true:=dT (by omega)
  rw[show opX x=⟨2,((x.data.toNat/4 % 3:Nat):Int),List.replicate 32 (blkB x.data)⟩ by rw[opX,if_neg (by omega),if_pos (by omega)]]
  refine wF<|sR ?_;refine zD ?_;refine zG<|am ?_;refine zD ?_;refine zG<|qR ?_;refine zD ?_;refine zG<|sR ?_;refine zD ?_;refine zG<|am ?_;refine zD ?_;refine zI<|bk ?_;refine aE (by kernel_rfl) ?_;refine dC [1] [] ?_;refine dQ [24] [64] iB ?_;refine dQ [25] [] (gG (a:=x.data.toNat) (s:=2) (m:=x.data.toNat/4) rfl rfl (by decide) rfl) ?_;refine dQ [26] [] (bf (m:=((x.data.toNat/4:Nat):Int)) aa rfl rfl rfl hwc) ?_;refine dQ [27] [] (bH (a:=x.data.toNat/4) (b:=3) aa rfl rfl rfl (by decide)) ?_;refine dQ [3] [] (mp aa rfl rfl rfl rfl rfl) ?_;refine dQ [28,29] [] iS ?_;refine bI [2,30] [72] (aD aa rfl rfl rfl ⟨_,⟨rfl,rfl,rfl⟩,rfl⟩ rfl) ?_;refine aB (by kernel_rfl)<|aM<|bR<|zB ?_
  exact⟨trivial,_,rfl,[],lf⟩
 skip
 by_cases w6:x.what.toNat % 8=6
 ·have e0:decide (((x.what.toNat % 8:Nat):Int)=0)=false:=dF (by omega)
  have e1:decide (((x.what.toNat % 8:Nat):Int)=1)=false:=dF (by omega)
  have e2:decide (((x.what.toNat % 8:Nat):Int)=2)=false:=dF (by omega)
  have e3:decide (((x.what.toNat % 8:Nat):Int)=3)=false:=dF (by omega)
  have e4:decide (((x.what.toNat % 8:Nat):Int)=4)=false:=dF (by omega)
  have e5:decide (((x.what.toNat % 8:Nat):Int)=5)=false:=dF (by omega)
  have e6:decide (((x.what.toNat % 8:Nat):Int)=6)=true:=dT (by omega)
  rw[show opX x=⟨3,0,[]⟩ by rw[opX,if_neg (by omega),if_neg (by omega),if_pos w6]]
  refine wF<|sR ?_;refine zD ?_;refine zG<|am ?_;refine zD ?_;refine zG<|qR ?_;refine zD ?_;refine zG<|sR ?_;refine zD ?_;refine zG<|am ?_;refine zD ?_;refine zG<|sR ?_;refine zD ?_;refine zI<|sR ?_;refine rQ iS ?_;refine rW<|zT<|zB ?_
  exact⟨trivial,_,rfl,[],lg ⟨⟨_,rfl,ft _ _⟩,rfl,trivial⟩ trivial⟩
 have w7:x.what.toNat % 8=7:=by omega
 have e0:decide (((x.what.toNat % 8:Nat):Int)=0)=false:=dF (by omega)
 have e1:decide (((x.what.toNat % 8:Nat):Int)=1)=false:=dF (by omega)
 have e2:decide (((x.what.toNat % 8:Nat):Int)=2)=false:=dF (by omega)
 have e3:decide (((x.what.toNat % 8:Nat):Int)=3)=false:=dF (by omega)
 have e4:decide (((x.what.toNat % 8:Nat):Int)=4)=false:=dF (by omega)
 have e5:decide (((x.what.toNat % 8:Nat):Int)=5)=false:=dF (by omega)
 have e6:decide (((x.what.toNat % 8:Nat):Int)=6)=false:=dF (by omega)
 rw[show opX x=qOf ⟨8,x.data,x.what⟩ by rw[opX,if_neg (by omega),if_neg (by omega),if_neg w6]]
 refine wF<|sR ?_;refine zD ?_;refine zG<|am ?_;refine zD ?_;refine zG<|qR ?_;refine zD ?_;refine zG<|sR ?_;refine zD ?_;refine zG<|am ?_;refine zD ?_;refine zG<|sR ?_;refine zD ?_;refine zG<|aL<|zC<|sR ?_;refine rC ?_;refine rQ iB ?_;refine rC ?_;refine rQ iB ?_;refine rQ iS ?_;refine rQ (ak (zo ⟨8,x.data,x.what⟩) rfl rfl (aj ab) (.inl rfl) (fun _=>rfl)) ?_;refine rW<|zT ?_
 exact⟨trivial,_,rfl,[],lf⟩
end Go.Proofs.YtpjiiolnfbfcbaaGreatDoor
