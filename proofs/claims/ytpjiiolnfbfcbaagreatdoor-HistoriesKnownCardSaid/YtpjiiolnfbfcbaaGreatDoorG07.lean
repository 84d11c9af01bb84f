/- Texts of the proof: HF7, HF8, HF9, HF10, HX, Eng120, Eng121, H36, HB, HK, HC, HD, HE, HG, Eng90, H35, Eng137, HL. -/
import Derived.Test.YtpjiiolnfbfcbaaGreatDoorG06
import Derived.Test.YtpjiiolnfbfcbaaGreatDoorG05
import Derived.Test.YtpjiiolnfbfcbaaGreatDoorG04
import Derived.Test.YtpjiiolnfbfcbaaGreatDoorG02

set_option linter.unusedVariables false
set_option linter.unusedSimpArgs false
set_option linter.unusedSectionVars false
set_option maxRecDepth 10000

namespace Go.Proofs.YtpjiiolnfbfcbaaGreatDoor
open Go.Eng Go.Plain
set_option maxHeartbeats 32000000
set_option maxRecDepth 20000
attribute [local irreducible] WC RegS RegD SeqQ BlkQ ScoQ RegK CutK Sat SatN FnIs LoopQ an OpIs
theorem ua (S:Nat→Prop) (s:RdS) (x:HEv) (n:Nat) (hs:s.Ok n) (hn:n≤1000000) (k1:x.kind=1) (m:Int) (hc0:0≤x.client) (hc8:x.client<8) (hbg:s.busy[x.client.toNat]?=some 0) (hng:s.number[x.client.toNat]?=some m) (hd64:x.op.data.length≤64) (hval:x.value=zBk) (herr:x.err=0) :
  kq S s x ⟨s.busy.set x.client.toNat ((s.all.length+1:Nat):Int),s.number.set x.client.toNat (m+1),s.era,s.read+1,s.all++[⟨x.client,m,s.era,x.op,s.read,-1,zBk,0⟩]⟩ true:=by
 have hr:=hs.read
 have ha:=hs.all
 have hm:=hs.number m (List.mem_of_getElem? hng)
 have d1:decide (x.kind=1)=true:=dT k1
 have c0:decide (0≤x.client)=true:=dT hc0
 have c8:decide (x.client<8)=true:=dT hc8
 have n8:(!decide (x.client<8))=false:=by rw[c8]; rfl
 have b0:decide ((0:Int)<0)=false:=rfl
 have l64:decide ((64:Int)<((byI x.op.data).length:Int))=false:=dF (by rw[b6]; omega)
 have v0:(!decide (x.value=zBk))=false:=by rw[dT hval]; rfl
 have e0:(!decide (x.err=0))=false:=by rw[dT herr]; rfl
 have hw:IntKind.i64.wrap (s.read+1)=s.read+1:=aO (by omega) (by omega)
 have hwm:IntKind.i64.wrap (m+1)=m+1:=aO (by omega) (by omega)
 have hlen:x.op.data.length≤1048576:=by omega
 have hal:s.all.length+1≤1048576:=by omega
 simp only[kq,cP,List.length_append,List.length_cons,List.length_nil,Nat.zero_add]
 refine au aa Tryz.func17 rfl rfl rfl ?_;refine sR<|rN ?_;refine rC<|nR ?_;refine zU ?_;refine rQ iM ?_;refine rC<|nR ?_;refine zU ?_;refine rQ iM ?_;refine rQ iD ?_;refine zD ?_;refine bg (aD aa rfl rfl rfl ⟨_,⟨_,⟨rfl,rfl,rfl⟩,rfl⟩,rfl⟩ rfl)<|nR ?_;refine rC ?_;refine rQ iB ?_;refine zD ?_;refine rO ?_;refine rC ?_;refine rO ?_;refine rQ iB ?_;refine rO ?_;refine rC ?_;refine rQ iT ?_;refine rC<|nR ?_;refine rC ?_;refine rQ iB ?_;refine rQ (aV aa rfl rfl rfl) ?_;refine rQ (bD rfl rfl rfl rfl (by kernel_rfl) (by decide) (bq x.value zBk)) ?_;refine rC<|nQ<|zS ?_;refine rC ?_;refine rQ iB ?_;refine zD ?_;refine zI ?_;iterate 2 refine bk ?_
 refine aE (by kernel_rfl) ?_;refine dC [6] [] ?_;refine dC [37] [] ?_;refine dC [38] [] ?_;refine ae [39,0] [] rfl rfl (by assumption) rfl (aw aa (fun K hk=>hk)) ?_;refine ae [39,3] [] rfl rfl (by assumption) rfl (aw aa (fun K hk=>hk)) ?_;refine ae [39,41] [64] rfl rfl (by assumption) rfl (bc aa rfl rfl ⟨_,rfl,rfl⟩ rfl) ?_;refine ae [39,40] [] rfl rfl (by assumption) rfl (aw aa (fun K hk=>hk)) ?_;refine ae [39,43] [] rfl rfl (by assumption) rfl (aw aa (fun K hk=>hk)) ?_;refine ae [39,44,42] [] rfl rfl (by assumption) rfl (aw aa (fun K hk=>⟨by omega,by omega,hk⟩)) ?_;refine ae [39,45] [0] rfl rfl (by assumption) rfl (bc aa rfl rfl ⟨_,⟨rfl,_,hbg,rfl⟩,rfl⟩ rfl) ?_;refine ae [39,46] [] rfl rfl (by assumption) rfl (aw aa (fun K hk=>hk)) ?_;refine dQ [39,47] [] iF ?_;refine dC [48] [] ?_;refine ae [49,3] [] rfl rfl rfl rfl (aw aa (fun K hk=>hk)) ?_;refine ae [49,50] [] rfl rfl rfl rfl (aw aa (fun K hk=>hk)) ?_;refine ae [49,51] [64] rfl rfl rfl rfl (bc aa rfl rfl ⟨_,rfl,rfl⟩ rfl) ?_;refine ae [49,52] [] rfl rfl rfl rfl (jY aa rfl rfl) ?_;refine ae [49,53] [] rfl rfl rfl rfl (aw aa (fun K hk=>hk)) ?_;refine dQ [49,54] [] iG ?_;refine dC [55] [] ?_;refine ae [56,7] [] rfl rfl (by assumption) rfl (aw aa (fun K hk=>hk)) ?_;refine ae [56,57] [] rfl rfl (by assumption) rfl (aw aa (fun K hk=>hk)) ?_;refine dQ [56,58] [] iF ?_;refine dC [59] [] ?_;refine ae [60,3] [] rfl rfl (by assumption) rfl (aw aa (fun K hk=>hk)) ?_;refine ae [60,61] [64] rfl rfl (by assumption) rfl (bc aa rfl rfl ⟨_,rfl,rfl⟩ rfl) ?_;refine ae [60,62] [] rfl rfl (by assumption) rfl (aw aa (fun K hk=>hk)) ?_;refine dQ [60,63] [] iF ?_;refine aB (by kernel_rfl)<|aM ?_;refine wF<|kS<|sR ?_;refine zD ?_;refine rQ iB ?_;refine aT (bJ [(2,some 2)] (Ae S x.op.data hlen) rfl rfl rfl (aj ab) ⟨zH,trivial⟩ rfl rfl (.inl rfl) rfl rfl) rfl ?_;refine zD ?_;refine bg (aD aa rfl rfl rfl ⟨_,⟨_,⟨_,⟨_,⟨rfl,rfl,rfl⟩,rfl⟩,rfl⟩,rfl⟩,rfl⟩ rfl)<|nQ ?_;refine aE (by kernel_rfl) ?_;iterate 2 refine dC [0] [] ?_
 refine dC [72] [] ?_;refine dC [73] [] ?_;refine dQ [74] [0] iM ?_;refine dC [3] [] ?_;refine dQ [76] [64] iB ?_;refine dC [0] [] ?_;refine dC [3] [] ?_;refine dQ [79] [64] iB ?_;refine dC [78] [] ?_;refine dC [81] [] ?_;refine dQ [82,80] [] (aw aa (fun K hk=>⟨by omega,by omega,hk⟩)) ?_;refine dQ [83] [0] (bc aa rfl rfl ⟨_,⟨rfl,_,hng,rfl⟩,rfl⟩ rfl) ?_;refine dC [0] [] ?_;refine dC [85] [] ?_;refine dC [86] [] ?_;refine dQ [87] [0] iM ?_;refine dC [3] [] ?_;refine dQ [89] [64] iB ?_;refine dC [5] [] ?_;refine dQ [77,84,88,90,91] [] iS ?_;refine fD [92] [] rfl (aC (s:=41) aa rfl rfl rfl rfl rfl rfl rfl rfl) ?_;refine jm [75,93] [1,784] rfl (aR (enc:=(eK S)) (s:=41) (xs:=s.all) aa ⟨x.client,m,s.era,x.op,s.read,-1,zBk,0⟩ rfl rfl rfl rfl rfl rfl rfl rfl rfl hal rfl) ?_;refine dC [71] [] ?_;refine dC [95] [] ?_;refine bI [96,94] [0] (aD aa rfl rfl rfl ⟨_,⟨_,⟨rfl,rfl,rfl⟩,rfl⟩,rfl⟩ rfl) ?_;refine aB (by kernel_rfl)<|aM<|bk ?_;refine aE (by kernel_rfl) ?_;refine dC [0] [] ?_;refine dC [3] [] ?_;refine dQ [98] [64] iB ?_;refine dC [97] [] ?_;refine dC [100] [] ?_;refine dQ [101,99] [] (aw aa (fun K hk=>⟨by omega,by omega,hk⟩)) ?_;refine dQ [102] [0] (bc aa rfl rfl ⟨_,⟨rfl,_,hng,rfl⟩,rfl⟩ rfl) ?_;refine dQ [103] [] iD ?_;refine dC [97] [] ?_;refine dC [105] [] ?_;refine dQ [106,99] [] (aw aa (fun K hk=>⟨by omega,by omega,hk⟩)) ?_;refine bI [107,104] [0] (aD aa rfl rfl rfl ⟨_,⟨_,⟨_,⟨rfl,_,m+1,hng,⟨rfl,rfl,rfl⟩,rfl⟩,rfl⟩,rfl⟩,rfl⟩ rfl) ?_;refine aB (by kernel_rfl)<|aM ?_;refine aE (by kernel_rfl) ?_;refine dC [0] [] ?_;refine dC [3] [] ?_;refine dQ [109] [64] iB ?_;refine dC [0] [] ?_;refine dC [111] [] ?_;refine dC [112] [] ?_;refine dQ [113] [0] iM ?_;refine dQ [114] [792] (bP aa rfl rfl) ?_;refine dC [108] [] ?_;refine dC [116] [] ?_;refine dQ [117,110] [] (aw aa (fun K hk=>⟨by omega,by omega,hk⟩)) ?_;refine bI [118,115] [0] (aD aa rfl rfl rfl ⟨_,⟨_,⟨_,⟨rfl,_,((s.all.length+1:Nat):Int),hbg,⟨rfl,rfl,rfl⟩,rfl⟩,rfl⟩,rfl⟩,rfl⟩ rfl) ?_;refine aB (by kernel_rfl)<|zC<|sR ?_;refine rC<|zT ?_
 exact⟨trivial,[(64,some _)],lg zV ⟨zR,zR,zR,trivial⟩⟩
theorem oz (S:Nat→Prop) (s:RdS) (x:HEv) (n:Nat) (hs:s.Ok n) (hn:n≤1000000) (k1:x.kind=1) (hno:inv1 s x=false):kq S s x { s with read:=s.read+1 } false:=by
 have hr:=hs.read
 have d1:decide (x.kind=1)=true:=dT k1
 have hw:IntKind.i64.wrap (s.read+1)=s.read+1:=aO (by omega) (by omega)
 refine au aa Tryz.func17 rfl rfl rfl ?_;refine sR<|rN ?_;refine rC<|nR ?_;refine zU ?_;refine rQ iM ?_;refine rC<|nR ?_;refine zU ?_;refine rQ iM ?_;refine rQ iD ?_;refine zD ?_;refine bg (aD aa rfl rfl rfl ⟨_,⟨_,⟨rfl,rfl,rfl⟩,rfl⟩,rfl⟩ rfl)<|nR ?_;refine rC ?_;refine rQ iB ?_;refine zD ?_
 by_cases hc0:0≤x.client
 ·have c0:decide (0≤x.client)=true:=dT hc0
  refine rO ?_;refine rC ?_;refine rO ?_;refine rQ iB ?_;refine rO ?_;refine rC ?_;refine rQ iT ?_;refine rC<|nR ?_;refine rC ?_;refine rQ iB ?_;refine rQ (aV aa rfl rfl rfl) ?_;refine rQ (bD rfl rfl rfl rfl (by kernel_rfl) (by decide) (bq x.value zBk)) ?_;refine rC<|nQ<|zS ?_;refine rC ?_;refine rQ iB ?_;refine zD ?_;refine zI ?_;iterate 2 refine bk ?_
  refine aE (by kernel_rfl) ?_;refine dC [6] [] ?_;refine dC [37] [] ?_;refine dC [38] [] ?_
  by_cases hc8:x.client<8
  ·have c8:decide (x.client<8)=true:=dT hc8
   have n8:(!decide (x.client<8))=false:=by rw[c8]; rfl
   obtain⟨b,hbg⟩:∃b,s.busy[x.client.toNat]?=some b:=⟨_,List.getElem?_eq_getElem (by rw[hs.blen]; omega)⟩
   have hb:=hs.busy b (List.mem_of_getElem? hbg)
   refine ae [39,0] [] rfl rfl (by assumption) rfl (aw aa (fun K hk=>hk)) ?_;refine ae [39,3] [] rfl rfl (by assumption) rfl (aw aa (fun K hk=>hk)) ?_;refine ae [39,41] [64] rfl rfl (by assumption) rfl (bc aa rfl rfl ⟨_,rfl,rfl⟩ rfl) ?_;refine ae [39,40] [] rfl rfl (by assumption) rfl (aw aa (fun K hk=>hk)) ?_;refine ae [39,43] [] rfl rfl (by assumption) rfl (aw aa (fun K hk=>hk)) ?_;refine ae [39,44,42] [] rfl rfl (by assumption) rfl (aw aa (fun K hk=>⟨by omega,by omega,hk⟩)) ?_;refine ae [39,45] [0] rfl rfl (by assumption) rfl (bc aa rfl rfl ⟨_,⟨rfl,_,hbg,rfl⟩,rfl⟩ rfl) ?_;refine ae [39,46] [] rfl rfl (by assumption) rfl (aw aa (fun K hk=>hk)) ?_;refine dQ [39,47] [] iF ?_;refine dC [48] [] ?_
   by_cases hb0:b=0
   ·have b0:decide (0<b)=false:=dF (by omega)
    refine ae [49,3] [] rfl rfl (by assumption) rfl (aw aa (fun K hk=>hk)) ?_;refine ae [49,50] [] rfl rfl (by assumption) rfl (aw aa (fun K hk=>hk)) ?_;refine ae [49,51] [64] rfl rfl (by assumption) rfl (bc aa rfl rfl ⟨_,rfl,rfl⟩ rfl) ?_;refine ae [49,52] [] rfl rfl (by assumption) rfl (jY aa rfl rfl) ?_;refine ae [49,53] [] rfl rfl (by assumption) rfl (aw aa (fun K hk=>hk)) ?_;refine dQ [49,54] [] iF ?_;refine dC [55] [] ?_
    by_cases hd:x.op.data.length≤64
    ·have l64:decide ((64:Int)<((byI x.op.data).length:Int))=false:=dF (by rw[b6]; omega)
     refine ae [56,7] [] rfl rfl (by assumption) rfl (aw aa (fun K hk=>hk)) ?_;refine ae [56,57] [] rfl rfl (by assumption) rfl (aw aa (fun K hk=>hk)) ?_;refine dQ [56,58] [] iF ?_;refine dC [59] [] ?_
     by_cases hv:x.value=zBk
     ·have v0:(!decide (x.value=zBk))=false:=by rw[dT hv]; rfl
      have e0:(!decide (x.err=0))=true:=by
       skip
       cases h:decide (x.err=0) with
       | false=>rfl
       | true =>
        rw[inv1,c0,c8,hbg,hb0,dT hd,dT hv,h]at hno
        cases hno
      refine ae [60,3] [] rfl rfl (by assumption) rfl (aw aa (fun K hk=>hk)) ?_;refine ae [60,61] [64] rfl rfl (by assumption) rfl (bc aa rfl rfl ⟨_,rfl,rfl⟩ rfl) ?_;refine ae [60,62] [] rfl rfl (by assumption) rfl (aw aa (fun K hk=>hk)) ?_;refine dQ [60,63] [] iF ?_;refine aB (by kernel_rfl)<|aM ?_;refine wT<|sR ?_;refine rC<|zT<|aP<|zB ?_
      exact⟨trivial,[(64,some 1)],lg zV ⟨zR,zR,zR,trivial⟩⟩
     ·have v0:(!decide (x.value=zBk))=true:=by rw[dF hv]; rfl
      refine ai [60,3] rfl rfl (by assumption) rfl ?_;refine ai [60,61] rfl rfl (by assumption) rfl ?_;refine ai [60,62] rfl rfl (by assumption) rfl ?_;refine dQ [60,63] [] iT ?_;refine aB (by kernel_rfl)<|aM ?_;refine wV<|sR ?_;refine rC<|zT<|aP<|zB ?_
      exact⟨trivial,[(64,some 1)],lg zV ⟨zR,zR,zR,trivial⟩⟩
    ·have l64:decide ((64:Int)<((byI x.op.data).length:Int))=true:=dT (by rw[b6]; omega)
     refine ai [56,7] rfl rfl (by assumption) rfl ?_;refine ai [56,57] rfl rfl (by assumption) rfl ?_;refine dQ [56,58] [] iT ?_;refine dC [59] [] ?_;refine ai [60,3] rfl rfl rfl rfl ?_;refine ai [60,61] rfl rfl rfl rfl ?_;refine ai [60,62] rfl rfl rfl rfl ?_;refine dQ [60,63] [] iU ?_;refine aB (by kernel_rfl)<|aM ?_;refine wV<|sR ?_;refine rC<|zT<|aP<|zB ?_
     exact⟨trivial,[(64,some 1)],lg zV ⟨zR,zR,zR,trivial⟩⟩
   ·have b0:decide (0<b)=true:=dT (by omega)
    refine ai [49,3] rfl rfl (by assumption) rfl ?_;refine ai [49,50] rfl rfl (by assumption) rfl ?_;refine ai [49,51] rfl rfl (by assumption) rfl ?_;refine ai [49,52] rfl rfl (by assumption) rfl ?_;refine ai [49,53] rfl rfl (by assumption) rfl ?_;refine dQ [49,54] [] iT ?_;refine dC [55] [] ?_;refine ai [56,7] rfl rfl rfl rfl ?_;refine ai [56,57] rfl rfl rfl rfl ?_;refine dQ [56,58] [] iU ?_;refine dC [59] [] ?_;refine ai [60,3] rfl rfl rfl rfl ?_;refine ai [60,61] rfl rfl rfl rfl ?_;refine ai [60,62] rfl rfl rfl rfl ?_;refine dQ [60,63] [] iU ?_;refine aB (by kernel_rfl)<|aM ?_;refine wV<|sR ?_;refine rC<|zT<|aP<|zB ?_
    exact⟨trivial,[(64,some 1)],lg zV ⟨zR,zR,zR,trivial⟩⟩
  ·have c8:decide (x.client<8)=false:=dF hc8
   have n8:(!decide (x.client<8))=true:=by rw[c8]; rfl
   refine ai [39,0] rfl rfl (by assumption) rfl ?_;refine ai [39,3] rfl rfl (by assumption) rfl ?_;refine ai [39,41] rfl rfl (by assumption) rfl ?_;refine ai [39,40] rfl rfl (by assumption) rfl ?_;refine ai [39,43] rfl rfl (by assumption) rfl ?_;refine ai [39,44,42] rfl rfl (by assumption) rfl ?_;refine ai [39,45] rfl rfl (by assumption) rfl ?_;refine ai [39,46] rfl rfl (by assumption) rfl ?_;refine dQ [39,47] [] iT ?_;refine dC [48] [] ?_;refine ai [49,3] rfl rfl rfl rfl ?_;refine ai [49,50] rfl rfl rfl rfl ?_;refine ai [49,51] rfl rfl rfl rfl ?_;refine ai [49,52] rfl rfl rfl rfl ?_;refine ai [49,53] rfl rfl rfl rfl ?_;refine dQ [49,54] [] iU ?_;refine dC [55] [] ?_;refine ai [56,7] rfl rfl rfl rfl ?_;refine ai [56,57] rfl rfl rfl rfl ?_;refine dQ [56,58] [] iU ?_;refine dC [59] [] ?_;refine ai [60,3] rfl rfl rfl rfl ?_;refine ai [60,61] rfl rfl rfl rfl ?_;refine ai [60,62] rfl rfl rfl rfl ?_;refine dQ [60,63] [] iU ?_;refine aB (by kernel_rfl)<|aM ?_;refine wV<|sR ?_;refine rC<|zT<|aP<|zB ?_
   exact⟨trivial,[(64,some 1)],lg zV ⟨zR,zR,zR,trivial⟩⟩
 ·have c0:decide (0≤x.client)=false:=dF hc0
  iterate 3 refine rS ?_
  refine rQ iF ?_;refine rC<|nR ?_;refine rC ?_;refine rQ iB ?_;refine rQ (aV aa rfl rfl rfl) ?_;refine rQ (bD rfl rfl rfl rfl (by kernel_rfl) (by decide) (bq x.value zBk)) ?_;refine rC<|nQ<|zS ?_;refine rC ?_;refine rQ iB ?_;refine zD ?_;refine zI ?_;iterate 2 refine bk ?_
  refine aE (by kernel_rfl) ?_;refine dC [6] [] ?_;refine dC [37] [] ?_;refine dC [38] [] ?_;refine ai [39,0] rfl rfl rfl rfl ?_;refine ai [39,3] rfl rfl rfl rfl ?_;refine ai [39,41] rfl rfl rfl rfl ?_;refine ai [39,40] rfl rfl rfl rfl ?_;refine ai [39,43] rfl rfl rfl rfl ?_;refine ai [39,44,42] rfl rfl rfl rfl ?_;refine ai [39,45] rfl rfl rfl rfl ?_;refine ai [39,46] rfl rfl rfl rfl ?_;refine dQ [39,47] [] iU ?_;refine dC [48] [] ?_;refine ai [49,3] rfl rfl rfl rfl ?_;refine ai [49,50] rfl rfl rfl rfl ?_;refine ai [49,51] rfl rfl rfl rfl ?_;refine ai [49,52] rfl rfl rfl rfl ?_;refine ai [49,53] rfl rfl rfl rfl ?_;refine dQ [49,54] [] iU ?_;refine dC [55] [] ?_;refine ai [56,7] rfl rfl rfl rfl ?_;refine ai [56,57] rfl rfl rfl rfl ?_;refine dQ [56,58] [] iU ?_;refine dC [59] [] ?_;refine ai [60,3] rfl rfl rfl rfl ?_;refine ai [60,61] rfl rfl rfl rfl ?_;refine ai [60,62] rfl rfl rfl rfl ?_;refine dQ [60,63] [] iU ?_;refine aB (by kernel_rfl)<|aM ?_;refine wV<|sR ?_;refine rC<|zT<|aP<|zB ?_
  exact⟨trivial,[(64,some 1)],lg zV ⟨zR,zR,zR,trivial⟩⟩
theorem px (S:Nat→Prop) (s:RdS) (x:HEv) (n:Nat) (hs:s.Ok n) (hn:n≤1000000) (k2:x.kind=2) (b:Int) (o:HOp) (hc0:0≤x.client) (hc8:x.client<8) (hbg:s.busy[x.client.toNat]?=some b) (hb0:b≠0) (hog:s.all[(b-1).toNat]?=some o) (hz:x.op=zOp) (c1 c2 c3:Bool) (h1:(!([0,1,8,9]:List Int).any (fun y=>decide (x.err=y)))=c1) (h2:(!decide (x.value=zBk))=c2) (h3:(!decide (o.op.kind=1))=c3) (h4:(c1||c2&&(c3 || !decide (x.err=0)))=false) :
  kq S s x ⟨s.busy.set x.client.toNat 0,s.number,s.era,s.read+1,s.all.set (b-1).toNat { o with returned:=s.read,value:=x.value,err:=x.err }⟩ true:=by
 have hr:=hs.read
 have ha:=hs.all
 have hb:=hs.busy b (List.mem_of_getElem? hbg)
 have d1:decide (x.kind=1)=false:=dF (by omega)
 have d2:decide (x.kind=2)=true:=dT k2
 have c0:decide (0≤x.client)=true:=dT hc0
 have c8:decide (x.client<8)=true:=dT hc8
 have n8:(!decide (x.client<8))=false:=by rw[c8]; rfl
 have b0:decide (b=0)=false:=dF hb0
 have z0:(!decide (x.op=zOp))=false:=by rw[dT hz]; rfl
 have hw:IntKind.i64.wrap (s.read+1)=s.read+1:=aO (by omega) (by omega)
 have hwb:IntKind.i64.wrap (b-1)=b-1:=aO (by omega) (by omega)
 have hlt:b-1<(s.all.length:Int):=by omega
 have hge:0≤b-1:=by omega
 have hjl:=(List.getElem?_eq_some_iff.1 hog).1
 have hog1:(s.all.set (b-1).toNat { o with returned:=s.read })[(b-1).toNat]?=some { o with returned:=s.read }:=List.getElem?_set_self hjl
 have hog2:(s.all.set (b-1).toNat { o with returned:=s.read,value:=x.value })[(b-1).toNat]?=some { o with returned:=s.read,value:=x.value }:=List.getElem?_set_self hjl
 simp only[kq,cP,List.length_set]
 refine au aa Tryz.func17 rfl rfl rfl ?_;refine sR<|rN ?_;refine rC<|nR ?_;refine zU ?_;refine rQ iM ?_;refine rC<|nR ?_;refine zU ?_;refine rQ iM ?_;refine rQ iD ?_;refine zD ?_;refine bg (aD aa rfl rfl rfl ⟨_,⟨_,⟨rfl,rfl,rfl⟩,rfl⟩,rfl⟩ rfl)<|nR ?_;refine rC ?_;refine rQ iB ?_;refine zD ?_;refine rO ?_;refine rC ?_;refine rO ?_;refine rQ iB ?_;refine rO ?_;refine rC ?_;refine rQ iT ?_;refine rC<|nR ?_;refine rC ?_;refine rQ iB ?_;refine rQ (aV aa rfl rfl rfl) ?_;refine rQ (bD rfl rfl rfl rfl (by kernel_rfl) (by decide) (bq x.value zBk)) ?_;refine rC<|nQ<|zS ?_;refine rC ?_;refine rQ iB ?_;refine zD ?_;refine zG<|sR ?_;refine rC ?_;refine rQ iB ?_;refine zD ?_;refine zI ?_;iterate 2 refine bk ?_
 refine aE (by kernel_rfl) ?_;refine dC [6] [] ?_;refine dC [123] [] ?_;refine dC [124] [] ?_;refine ae [125,0] [] rfl rfl (by assumption) rfl (aw aa (fun K hk=>hk)) ?_;refine ae [125,3] [] rfl rfl (by assumption) rfl (aw aa (fun K hk=>hk)) ?_;refine ae [125,127] [64] rfl rfl (by assumption) rfl (bc aa rfl rfl ⟨_,rfl,rfl⟩ rfl) ?_;refine ae [125,126] [] rfl rfl (by assumption) rfl (aw aa (fun K hk=>hk)) ?_;refine ae [125,129] [] rfl rfl (by assumption) rfl (aw aa (fun K hk=>hk)) ?_;refine ae [125,130,128] [] rfl rfl (by assumption) rfl (aw aa (fun K hk=>⟨by omega,by omega,hk⟩)) ?_;refine ae [125,131] [0] rfl rfl (by assumption) rfl (bc aa rfl rfl ⟨_,⟨rfl,_,hbg,rfl⟩,rfl⟩ rfl) ?_;refine ae [125,132] [] rfl rfl (by assumption) rfl (aw aa (fun K hk=>hk)) ?_;refine dQ [125,133] [] iF ?_;refine dC [134] [] ?_;refine ae [135,3] [] rfl rfl (by assumption) rfl (aw aa (fun K hk=>hk)) ?_;refine ae [135,136] [64] rfl rfl (by assumption) rfl (bc aa rfl rfl ⟨_,rfl,rfl⟩ rfl) ?_;refine ae [135,137] [] rfl rfl (by assumption) rfl (ak (gx x.op) rfl rfl (aj ab) (.inl rfl) (fun _=>rfl)) ?_;refine ae [135,138] [] rfl rfl (by assumption) rfl (aw aa (fun K hk=>hk)) ?_;refine dQ [135,139] [] iF ?_;refine aB (by kernel_rfl)<|aM ?_;refine wF<|zQ ?_;refine aE (by kernel_rfl) ?_;refine dC [0] [] ?_;refine dC [141] [] ?_;refine dC [142] [] ?_;refine dQ [143] [0] iM ?_;refine dC [0] [] ?_;refine dC [3] [] ?_;refine dQ [146] [64] iB ?_;refine dC [145] [] ?_;refine dC [148] [] ?_;refine dQ [149,147] [] (aw aa (fun K hk=>⟨by omega,by omega,hk⟩)) ?_;refine dQ [150] [0] (bc aa rfl rfl ⟨_,⟨rfl,_,hbg,rfl⟩,rfl⟩ rfl) ?_;refine dQ [151] [] (cH aa rfl rfl hwb) ?_;refine dQ [144,152] [] (br aa rfl rfl rfl rfl rfl (by omega) (by omega)) ?_;refine dC [153] [] ?_;refine aB (by kernel_rfl)<|aM<|sR ?_;refine rQ (an.frozen (aC (s:=1) aa rfl rfl rfl rfl rfl rfl rfl rfl) (Frz.litsN (enc:=i6) [0,1,8,9] rfl (fun _ _=>rfl))) ?_;refine rC ?_;refine rQ iB ?_;refine rQ (ak (o5 x.err [0,1,8,9] (by decide)) rfl rfl (aj (aj ab)) (.inl rfl) (fun _=>rfl)) ?_;refine rC<|zW ?_;refine zU ?_
 cases c1 with
 | true=>cases h4
 | false =>
  refine rO ?_;refine rC ?_;refine rO ?_;refine rC ?_;refine rO ?_;refine rC ?_
  cases c2 with
  | false =>
   iterate 7 refine rS ?_
   iterate 3 refine rU ?_
   refine rS ?_;refine rO ?_;iterate 2 refine rQ iF ?_
   refine zJ<|zQ ?_;refine aE (by kernel_rfl) ?_;iterate 3 refine dC [8] [] ?_
   refine dC [5] [] ?_;refine dC [3] [] ?_;refine dQ [181] [64] iB ?_;refine dC [3] [] ?_;refine dQ [183] [64] iB ?_;refine dC [177] [] ?_;refine dC [185] [] ?_;refine bI [186,180] [1] (aD (row':=dG S (s.all.set (b-1).toNat { o with returned:=s.read })) aa rfl rfl rfl ⟨rfl,o, { o with returned:=s.read },hog,⟨_,⟨rfl,rfl,rfl⟩,rfl⟩,rfl⟩ rfl) ?_;refine dC [178] [] ?_;refine dC [187] [] ?_;refine bI [188,182] [1] (aD (row':=dG S (s.all.set (b-1).toNat { o with returned:=s.read,value:=x.value })) aa rfl rfl rfl ⟨rfl,_, { o with returned:=s.read,value:=x.value },hog1,⟨_,⟨rfl,rfl,rfl⟩,rfl⟩,(by rw[List.set_set])⟩ rfl) ?_;refine dC [179] [] ?_;refine dC [189] [] ?_;refine bI [190,184] [1] (aD (row':=dG S (s.all.set (b-1).toNat { o with returned:=s.read,value:=x.value,err:=x.err })) aa rfl rfl rfl ⟨rfl,_, { o with returned:=s.read,value:=x.value,err:=x.err },hog2,⟨_,⟨rfl,rfl,rfl⟩,rfl⟩,(by rw[List.set_set])⟩ rfl) ?_;refine aB (by kernel_rfl)<|aM ?_;refine aE (by kernel_rfl) ?_;refine dC [0] [] ?_;refine dC [3] [] ?_;refine dQ [192] [64] iB ?_;refine dC [191] [] ?_;refine dC [194] [] ?_;refine dQ [195,193] [] (aw aa (fun K hk=>⟨by omega,by omega,hk⟩)) ?_;refine bI [196] [0] (aD aa rfl rfl rfl ⟨_,⟨_,⟨_,⟨rfl,_,0,hbg,⟨rfl,rfl,rfl⟩,rfl⟩,rfl⟩,rfl⟩,rfl⟩ rfl) ?_;refine aB (by kernel_rfl)<|zC<|sR ?_;refine rC<|zT ?_
   exact⟨trivial,[(64,some 1)],lg zV ⟨zR,zR,zR,trivial⟩⟩
  | true =>
   refine rO ?_;refine rC ?_;refine rO ?_;refine rC ?_;refine rO ?_;refine rC ?_;refine rO ?_;refine rC ?_;refine rO ?_;refine rQ (bU aa rfl rfl ⟨rfl,o,hog,_,rfl,rfl⟩ rfl) ?_;refine rO ?_;refine rC ?_;refine rO ?_;refine rC ?_
   cases c3 with
   | true=>cases h4
   | false =>
    have e0:(!decide (x.err=0))=false:=h4
    refine rO ?_;refine rC ?_;refine rO ?_;refine rQ iB ?_;refine rO ?_;refine rC ?_;refine rO ?_;refine rQ iF ?_;refine rO ?_;refine rQ iT ?_;refine rQ iF<|nS ?_;refine wF<|zQ ?_;refine aE (by kernel_rfl) ?_;iterate 3 refine dC [8] [] ?_
    refine dC [5] [] ?_;refine dC [3] [] ?_;refine dQ [181] [64] iB ?_;refine dC [3] [] ?_;refine dQ [183] [64] iB ?_;refine dC [177] [] ?_;refine dC [185] [] ?_;refine bI [186,180] [1] (aD (row':=dG S (s.all.set (b-1).toNat { o with returned:=s.read })) aa rfl rfl rfl ⟨rfl,o, { o with returned:=s.read },hog,⟨_,⟨rfl,rfl,rfl⟩,rfl⟩,rfl⟩ rfl) ?_;refine dC [178] [] ?_;refine dC [187] [] ?_;refine bI [188,182] [1] (aD (row':=dG S (s.all.set (b-1).toNat { o with returned:=s.read,value:=x.value })) aa rfl rfl rfl ⟨rfl,_, { o with returned:=s.read,value:=x.value },hog1,⟨_,⟨rfl,rfl,rfl⟩,rfl⟩,(by rw[List.set_set])⟩ rfl) ?_;refine dC [179] [] ?_;refine dC [189] [] ?_;refine bI [190,184] [1] (aD (row':=dG S (s.all.set (b-1).toNat { o with returned:=s.read,value:=x.value,err:=x.err })) aa rfl rfl rfl ⟨rfl,_, { o with returned:=s.read,value:=x.value,err:=x.err },hog2,⟨_,⟨rfl,rfl,rfl⟩,rfl⟩,(by rw[List.set_set])⟩ rfl) ?_;refine aB (by kernel_rfl)<|aM ?_;refine aE (by kernel_rfl) ?_;refine dC [0] [] ?_;refine dC [3] [] ?_;refine dQ [192] [64] iB ?_;refine dC [191] [] ?_;refine dC [194] [] ?_;refine dQ [195,193] [] (aw aa (fun K hk=>⟨by omega,by omega,hk⟩)) ?_;refine bI [196] [0] (aD aa rfl rfl rfl ⟨_,⟨_,⟨_,⟨rfl,_,0,hbg,⟨rfl,rfl,rfl⟩,rfl⟩,rfl⟩,rfl⟩,rfl⟩ rfl) ?_;refine aB (by kernel_rfl)<|zC<|sR ?_;refine rC<|zT ?_
    exact⟨trivial,[(64,some 1)],lg zV ⟨zR,zR,zR,trivial⟩⟩
theorem ox (S:Nat→Prop) (s:RdS) (x:HEv) (n:Nat) (hs:s.Ok n) (hn:n≤1000000) (k2:x.kind=2) (hno:ret1 s x=false):kq S s x { s with read:=s.read+1 } false:=by
 have hr:=hs.read
 have ha:=hs.all
 have d1:decide (x.kind=1)=false:=dF (by omega)
 have d2:decide (x.kind=2)=true:=dT k2
 have hw:IntKind.i64.wrap (s.read+1)=s.read+1:=aO (by omega) (by omega)
 refine au aa Tryz.func17 rfl rfl rfl ?_;refine sR<|rN ?_;refine rC<|nR ?_;refine zU ?_;refine rQ iM ?_;refine rC<|nR ?_;refine zU ?_;refine rQ iM ?_;refine rQ iD ?_;refine zD ?_;refine bg (aD aa rfl rfl rfl ⟨_,⟨_,⟨rfl,rfl,rfl⟩,rfl⟩,rfl⟩ rfl)<|nR ?_;refine rC ?_;refine rQ iB ?_;refine zD ?_
 by_cases hc0:0≤x.client
 ·have c0:decide (0≤x.client)=true:=dT hc0
  refine rO ?_;refine rC ?_;refine rO ?_;refine rQ iB ?_;refine rO ?_;refine rC ?_;refine rQ iT ?_;refine rC<|nR ?_;refine rC ?_;refine rQ iB ?_;refine rQ (aV aa rfl rfl rfl) ?_;refine rQ (bD rfl rfl rfl rfl (by kernel_rfl) (by decide) (bq x.value zBk)) ?_;refine rC<|nQ<|zS ?_;refine rC ?_;refine rQ iB ?_;refine zD ?_;refine zG<|sR ?_;refine rC ?_;refine rQ iB ?_;refine zD ?_;refine zI ?_;iterate 2 refine bk ?_
  refine aE (by kernel_rfl) ?_;refine dC [6] [] ?_;refine dC [123] [] ?_;refine dC [124] [] ?_
  by_cases hc8:x.client<8
  ·have c8:decide (x.client<8)=true:=dT hc8
   have n8:(!decide (x.client<8))=false:=by rw[c8]; rfl
   obtain⟨b,hbg⟩:∃b,s.busy[x.client.toNat]?=some b:=⟨_,List.getElem?_eq_getElem (by rw[hs.blen]; omega)⟩
   have hb:=hs.busy b (List.mem_of_getElem? hbg)
   refine ae [125,0] [] rfl rfl (by assumption) rfl (aw aa (fun K hk=>hk)) ?_;refine ae [125,3] [] rfl rfl (by assumption) rfl (aw aa (fun K hk=>hk)) ?_;refine ae [125,127] [64] rfl rfl (by assumption) rfl (bc aa rfl rfl ⟨_,rfl,rfl⟩ rfl) ?_;refine ae [125,126] [] rfl rfl (by assumption) rfl (aw aa (fun K hk=>hk)) ?_;refine ae [125,129] [] rfl rfl (by assumption) rfl (aw aa (fun K hk=>hk)) ?_;refine ae [125,130,128] [] rfl rfl (by assumption) rfl (aw aa (fun K hk=>⟨by omega,by omega,hk⟩)) ?_;refine ae [125,131] [0] rfl rfl (by assumption) rfl (bc aa rfl rfl ⟨_,⟨rfl,_,hbg,rfl⟩,rfl⟩ rfl) ?_;refine ae [125,132] [] rfl rfl (by assumption) rfl (aw aa (fun K hk=>hk)) ?_;refine dQ [125,133] [] iF ?_;refine dC [134] [] ?_
   by_cases hb0:b=0
   ·have b0:decide (b=0)=true:=dT hb0
    refine ai [135,3] rfl rfl (by assumption) rfl ?_;refine ai [135,136] rfl rfl (by assumption) rfl ?_;refine ai [135,137] rfl rfl (by assumption) rfl ?_;refine ai [135,138] rfl rfl (by assumption) rfl ?_;refine dQ [135,139] [] iT ?_;refine aB (by kernel_rfl)<|aM ?_;refine wV<|sR ?_;refine rC<|zT<|aP<|zB ?_
    exact⟨trivial,[(64,some 1)],lg zV ⟨zR,zR,zR,trivial⟩⟩
   ·have b0:decide (b=0)=false:=dF hb0
    refine ae [135,3] [] rfl rfl (by assumption) rfl (aw aa (fun K hk=>hk)) ?_;refine ae [135,136] [64] rfl rfl (by assumption) rfl (bc aa rfl rfl ⟨_,rfl,rfl⟩ rfl) ?_;refine ae [135,137] [] rfl rfl (by assumption) rfl (ak (gx x.op) rfl rfl (aj ab) (.inl rfl) (fun _=>rfl)) ?_;refine ae [135,138] [] rfl rfl (by assumption) rfl (aw aa (fun K hk=>hk)) ?_;refine dQ [135,139] [] iF ?_;refine aB (by kernel_rfl)<|aM ?_
    by_cases hz:x.op=zOp
    ·have z0:(!decide (x.op=zOp))=false:=by rw[dT hz]; rfl
     have hwb:IntKind.i64.wrap (b-1)=b-1:=aO (by omega) (by omega)
     have hlt:b-1<(s.all.length:Int):=by omega
     have hge:0≤b-1:=by omega
     obtain⟨o,hog⟩:∃o,s.all[(b-1).toNat]?=some o:=⟨_,List.getElem?_eq_getElem (by omega)⟩
     obtain⟨c1,h1⟩:∃c,(!([0,1,8,9]:List Int).any (fun y=>decide (x.err=y)))=c:=⟨_,rfl⟩
     obtain⟨c2,h2⟩:∃c,(!decide (x.value=zBk))=c:=⟨_,rfl⟩
     obtain⟨c3,h3⟩:∃c,(!decide (o.op.kind=1))=c:=⟨_,rfl⟩
     obtain⟨c4,h4⟩:∃c,(!decide (x.err=0))=c:=⟨_,rfl⟩
     have hc:(c1||c2&&(c3||c4))=true:=by
      have hkn:kn4 x.err = !c1:=by rw[←h1,←l7,Bool.not_not]
      have hv2:decide (x.value=zBk) = !c2:=by rw[←h2,Bool.not_not]
      have hk3:decide (o.op.kind=1) = !c3:=by rw[←h3,Bool.not_not]
      have he4:decide (x.err=0) = !c4:=by rw[←h4,Bool.not_not]
      have hb':decide (some b=some (0:Int))=false:=dF (by simpa using hb0)
      have ho:opOf s x=some o:=by rw[opOf,hbg]; exact hog
      rw[ret1,c0,c8,hbg,hb',dT hz,hkn,hv2,ho]at hno
      simp only[hk3,he4]at hno
      revert hno
      cases c1 <;> cases c2 <;> cases c3 <;> cases c4 <;> decide
     refine wF<|zQ ?_;refine aE (by kernel_rfl) ?_;refine dC [0] [] ?_;refine dC [141] [] ?_;refine dC [142] [] ?_;refine dQ [143] [0] iM ?_;refine dC [0] [] ?_;refine dC [3] [] ?_;refine dQ [146] [64] iB ?_;refine dC [145] [] ?_;refine dC [148] [] ?_;refine dQ [149,147] [] (aw aa (fun K hk=>⟨by omega,by omega,hk⟩)) ?_;refine dQ [150] [0] (bc aa rfl rfl ⟨_,⟨rfl,_,hbg,rfl⟩,rfl⟩ rfl) ?_;refine dQ [151] [] (cH aa rfl rfl hwb) ?_;refine dQ [144,152] [] (br aa rfl rfl rfl rfl rfl (by omega) (by omega)) ?_;refine dC [153] [] ?_;refine aB (by kernel_rfl)<|aM<|sR ?_;refine rQ (an.frozen (aC (s:=1) aa rfl rfl rfl rfl rfl rfl rfl rfl) (Frz.litsN (enc:=i6) [0,1,8,9] rfl (fun _ _=>rfl))) ?_;refine rC ?_;refine rQ iB ?_;refine rQ (ak (o5 x.err [0,1,8,9] (by decide)) rfl rfl (aj (aj ab)) (.inl rfl) (fun _=>rfl)) ?_;refine rC<|zW ?_;refine zU ?_
     cases c1 with
     | true =>
      iterate 3 refine rS ?_
      iterate 11 refine rU ?_
      refine rS ?_;refine rQ iT ?_;refine zO<|sR ?_;refine rC<|zT<|aP<|zB ?_
      exact⟨trivial,[(64,some 1)],lg zV ⟨zR,zR,zR,trivial⟩⟩
     | false =>
      refine rO ?_;refine rC ?_;refine rO ?_;refine rC ?_;refine rO ?_;refine rC ?_
      cases c2 with
      | false=>cases hc
      | true =>
       refine rO ?_;refine rC ?_;refine rO ?_;refine rC ?_;refine rO ?_;refine rC ?_;refine rO ?_;refine rC ?_;refine rO ?_;refine rQ (bU aa rfl rfl ⟨rfl,o,hog,_,rfl,rfl⟩ rfl) ?_;refine rO ?_;refine rC ?_;refine rO ?_;refine rC ?_
       cases c3 with
       | true =>
        iterate 3 refine rS ?_
        refine rO ?_;refine rQ iT ?_;refine rO ?_;refine rQ iT ?_;refine rQ iF ?_;refine zO<|sR ?_;refine rC<|zT<|aP<|zB ?_
        exact⟨trivial,[(64,some 1)],lg zV ⟨zR,zR,zR,trivial⟩⟩
       | false =>
        refine rO ?_;refine rC ?_;refine rO ?_;refine rQ iB ?_;refine rO ?_;refine rC ?_;refine rO ?_;refine rQ iF ?_;refine rO ?_;refine rQ iT ?_;refine rQ iF<|nS ?_
        cases c4 with
        | false=>cases hc
        | true =>
         refine wT<|sR ?_;refine rC<|zT<|aP<|zB ?_
         exact⟨trivial,[(64,some 1)],lg zV ⟨zR,zR,zR,trivial⟩⟩
    ·have z0:(!decide (x.op=zOp))=true:=by rw[dF hz]; rfl
     refine wT<|sR ?_;refine rC<|zT<|aP<|zB ?_
     exact⟨trivial,[(64,some 1)],lg zV ⟨zR,zR,zR,trivial⟩⟩
  ·have c8:decide (x.client<8)=false:=dF hc8
   have n8:(!decide (x.client<8))=true:=by rw[c8]; rfl
   refine ai [125,0] rfl rfl (by assumption) rfl ?_;refine ai [125,3] rfl rfl (by assumption) rfl ?_;refine ai [125,127] rfl rfl (by assumption) rfl ?_;refine ai [125,126] rfl rfl (by assumption) rfl ?_;refine ai [125,129] rfl rfl (by assumption) rfl ?_;refine ai [125,130,128] rfl rfl (by assumption) rfl ?_;refine ai [125,131] rfl rfl (by assumption) rfl ?_;refine ai [125,132] rfl rfl (by assumption) rfl ?_;refine dQ [125,133] [] iT ?_;refine dC [134] [] ?_;refine ai [135,3] rfl rfl rfl rfl ?_;refine ai [135,136] rfl rfl rfl rfl ?_;refine ai [135,137] rfl rfl rfl rfl ?_;refine ai [135,138] rfl rfl rfl rfl ?_;refine dQ [135,139] [] iU ?_;refine aB (by kernel_rfl)<|aM ?_;refine wV<|sR ?_;refine rC<|zT<|aP<|zB ?_
   exact⟨trivial,[(64,some 1)],lg zV ⟨zR,zR,zR,trivial⟩⟩
 ·have c0:decide (0≤x.client)=false:=dF hc0
  iterate 3 refine rS ?_
  refine rQ iF ?_;refine rC<|nR ?_;refine rC ?_;refine rQ iB ?_;refine rQ (aV aa rfl rfl rfl) ?_;refine rQ (bD rfl rfl rfl rfl (by kernel_rfl) (by decide) (bq x.value zBk)) ?_;refine rC<|nQ<|zS ?_;refine rC ?_;refine rQ iB ?_;refine zD ?_;refine zG<|sR ?_;refine rC ?_;refine rQ iB ?_;refine zD ?_;refine zI ?_;iterate 2 refine bk ?_
  refine aE (by kernel_rfl) ?_;refine dC [6] [] ?_;refine dC [123] [] ?_;refine dC [124] [] ?_;refine ai [125,0] rfl rfl rfl rfl ?_;refine ai [125,3] rfl rfl rfl rfl ?_;refine ai [125,127] rfl rfl rfl rfl ?_;refine ai [125,126] rfl rfl rfl rfl ?_;refine ai [125,129] rfl rfl rfl rfl ?_;refine ai [125,130,128] rfl rfl rfl rfl ?_;refine ai [125,131] rfl rfl rfl rfl ?_;refine ai [125,132] rfl rfl rfl rfl ?_;refine dQ [125,133] [] iU ?_;refine dC [134] [] ?_;refine ai [135,3] rfl rfl rfl rfl ?_;refine ai [135,136] rfl rfl rfl rfl ?_;refine ai [135,137] rfl rfl rfl rfl ?_;refine ai [135,138] rfl rfl rfl rfl ?_;refine dQ [135,139] [] iU ?_;refine aB (by kernel_rfl)<|aM ?_;refine wV<|sR ?_;refine rC<|zT<|aP<|zB ?_
  exact⟨trivial,[(64,some 1)],lg zV ⟨zR,zR,zR,trivial⟩⟩
theorem vv (S:Nat→Prop) (s:RdS) (x:HEv) (n:Nat) (hs:s.Ok n) (hn:n≤1000000):kq S s x (ba s x).1 (ba s x).2:=by
 by_cases k1:x.kind=1
 ·cases hi:inv1 s x with
  | false =>
   have h:=oz S s x n hs hn k1 hi
   have e:ba s x=({ s with read:=s.read+1 },false):=by simp[ba,k1,hi]
   rw[e]; exact h
  | true =>
   have hi':=hi
   simp only[inv1,Bool.and_eq_true,decide_eq_true_eq]at hi'
   obtain⟨⟨⟨⟨⟨h1,h2⟩,h3⟩,h4⟩,h5⟩,h6⟩:=hi'
   obtain⟨m,hm⟩:∃m,s.number[x.client.toNat]?=some m:=⟨_,List.getElem?_eq_getElem (by rw[hs.nlen]; omega)⟩
   have h:=ua S s x n hs hn k1 m h1 h2 h3 hm h4 h5 h6
   have e:ba s x=(⟨s.busy.set x.client.toNat ((s.all.length+1:Nat):Int),s.number.set x.client.toNat (m+1),s.era,s.read+1,s.all++[⟨x.client,m,s.era,x.op,s.read,-1,zBk,0⟩]⟩,true):=by
    simp[ba,k1,hi,hm]
   rw[e]; exact h
 ·by_cases k2:x.kind=2
  ·cases hi:ret1 s x with
   | false =>
    have h:=ox S s x n hs hn k2 hi
    have e:ba s x=({ s with read:=s.read+1 },false):=by simp[ba,k2,hi]
    rw[e]; exact h
   | true =>
    have hi':=hi
    simp only[ret1,Bool.and_eq_true,decide_eq_true_eq]at hi'
    obtain⟨⟨⟨⟨⟨h1,h2⟩,h3⟩,h4⟩,h5⟩,h6⟩:=hi'
    obtain⟨b,hbg⟩:∃b,s.busy[x.client.toNat]?=some b:=⟨_,List.getElem?_eq_getElem (by rw[hs.blen]; omega)⟩
    have hb:=hs.busy b (List.mem_of_getElem? hbg)
    have hb0:b≠0:=by rw[hbg]at h3; simpa using h3
    obtain⟨o,hog⟩:∃o,s.all[(b-1).toNat]?=some o:=⟨_,List.getElem?_eq_getElem (by omega)⟩
    have ho:opOf s x=some o:=by rw[opOf,hbg]; exact hog
    rw[ho]at h6
    have h:=px S s x n hs hn k2 b o h1 h2 hbg hb0 hog h4 _ _ _ rfl rfl rfl (by
     rw[l7,h5]
     simp only at h6
     revert h6
     cases decide (x.value=zBk) <;> cases decide (o.op.kind=1) <;> cases decide (x.err=0) <;> decide)
    have e:ba s x=(⟨s.busy.set x.client.toNat 0,s.number,s.era,s.read+1,s.all.set (b-1).toNat { o with returned:=s.read,value:=x.value,err:=x.err }⟩,true):=by
     simp[ba,k2,hi,ho,hbg]
    rw[e]; exact h
  ·by_cases k3:x.kind=3
   ·have h:=pC S s x n hs hn k3 _ _ _ _ rfl rfl rfl rfl
    have e:ba s x=(⟨cu,s.number,s.era+1,s.read+1,s.all⟩,gX x):=by simp[ba,k3]
    rw[e]; exact h
   ·have h:=pA S s x n hs hn k1 k2 k3 _ rfl
    have e:ba s x=({ s with read:=s.read+1 },false):=by simp[ba,k1,k2,k3]
    rw[e]; exact h
theorem sv (S:Nat→Prop) (s:RdS) (x:HEv) (n:Nat) (hs:s.Ok n) (hn:n≤1000000):FnIs Tryz.prog 82 [.d (aY x),.ptr 0 []] [(0,.box 69 (fnT 1)),(1,cP s 2),(2,dG S s.all),(3,.lo S)] (.bool (!(ba s x).2)) [(0,.box 69 (fnT 1)),(1,cP (ba s x).1 64),(64,dG S (ba s x).1.all),(3,.lo S)]:=by
 refine au aa Tryz.func82 rfl rfl rfl ?_;refine sR<|rN ?_;refine rC<|nR ?_;iterate 2 refine rQ iM ?_
 refine bB rfl (o7 [(0,some 1),(1,some 2),(2,some 3)] (vv S s x n hs hn) rfl rfl rfl rfl (bC rfl rfl (aj ab)) ⟨zH,zH,zH,trivial⟩ rfl rfl (.inl rfl) rfl rfl) rfl rfl ?_;refine zD<|zT ?_
 exact⟨trivial,[(64,some _)],lg zV ⟨zR,zR,zR,zR,trivial⟩⟩
theorem yh (S:Nat→Prop) (h:List HEv) (hL:h.length≤1000000) (s0:RdS) (hs0:s0.Ok 0):FnIs Tryz.prog 81 [.d (encH h),fnF 0] [(0,.box 69 (fnT 1)),(1,cP s0 2),(2,dG S s0.all),(3,.lo S)] (.int .i64 (goS s0 h 0).2) [(0,.box 69 (fnT 1)),(1,cP (goS s0 h 0).1 64),(64,dG S (goS s0 h 0).1.all),(3,.lo S)]:=by
 refine au aa Tryz.func81 rfl rfl rfl ?_;refine sR<|rC<|zW ?_;refine rC ?_;refine rQ iE ?_;refine rC<|zP ?_
 refine wc_inv (fun q:RdS×Nat=>⟨[(8,.int .i64 q.2),(7,.int .i64 h.length),(1,fnF 0),(0,.d (encH h))],[(0,some (.box 69 (fnT 1))),(1,some (cP q.1 65)),(65,some (dG S q.1.all)),(3,some (.lo S))],72,Tryz.f81.ntmps,64⟩) (fun q=>q.2≤h.length∧q.1.Ok q.2∧goS q.1 (h.drop q.2) q.2=goS s0 h 0) (fun q=>h.length-q.2) (s0,0) [(65,some 2)] ⟨Nat.zero_le _,hs0,rfl⟩
  (lg zi ⟨zR,zR,zR,zR,trivial⟩) ?_
 rintro⟨s,i⟩ ⟨hi,hs,hgo⟩
 refine bG<|sR ?_;refine rC<|nQ ?_
 refine bO rfl (fun h2=>?_) (fun h2=>?_)
 ·have hlt:i<h.length:=by have:=of_decide_eq_true h2; omega
  obtain⟨x,hx⟩:∃u,h[i]?=some u:=⟨_,List.getElem?_eq_getElem hlt⟩
  have hx':h[((i:Int)).toNat]?=some x:=by rw[Int.toNat_natCast]; exact hx
  have hfst:=sv S s x i hs (by omega)
  have hst:=it (s:=s) hx
  rw[hgo]at hst
  cases hb:(ba s x).2 with
  | false =>
   rw[hb]at hst hfst
   rw[hst]
   refine zQ<|zS<|zD<|nR ?_;refine zU ?_;refine rQ (aF aa rfl rfl rfl rfl rfl (by omega) hx') ?_;refine rQ iL ?_;refine bB rfl (bJ [(0,some 0),(1,some 1),(2,some 65),(3,some 3)] hfst rfl rfl rfl (aj (bC rfl rfl ab)) ⟨zH,zH,zH,zH,trivial⟩ rfl rfl (.inl rfl) rfl rfl) rfl rfl ?_;refine zO<|sR ?_;refine zD<|zT<|zB<|ce<|zB ?_
   exact⟨trivial,[(64,some _)],lg zV ⟨zR,zR,zR,zR,trivial⟩⟩
  | true =>
   rw[hb]at hst hfst
   refine zQ<|zS<|zD<|nR ?_;refine zU ?_;refine rQ (aF aa rfl rfl rfl rfl rfl (by omega) hx') ?_;refine rQ iL ?_;refine bB rfl (bJ [(0,some 0),(1,some 1),(2,some 65),(3,some 3)] hfst rfl rfl rfl (aj (bC rfl rfl ab)) ⟨zH,zH,zH,zH,trivial⟩ rfl rfl (.inl rfl) rfl rfl) rfl rfl ?_;refine zJ<|aL<|zC<|am ?_;refine rQ iD ?_;refine rC<|aA ?_
   exact aN ((ba s x).1,i+1) [(65,some _)] ⟨hlt,hs.next x,hst.symm⟩ (by show h.length-(i+1)<h.length-i; omega) (lg zi ⟨zR,zR,zR,zR,trivial⟩)
 ·have he:i=h.length:=by have:=of_decide_eq_false h2; omega
  subst he
  rw[List.drop_length]at hgo
  rw[←hgo]
  refine zX<|sR<|rC<|zT ?_
  exact⟨trivial,[(64,some _)],lg zV ⟨zR,zR,zR,zR,trivial⟩⟩
theorem nY (S:Nat→Prop) (h:List HEv) (hL:h.length≤1000000) (s0:RdS) (hs0:s0.Ok 0):FnIs Tryz.prog 49 [.d (encH h),fnT 0] [(0,cP s0 1),(1,dG S s0.all),(2,.lo S)] (.int .i64 (goS s0 h 0).2) [(0,cP (goS s0 h 0).1 64),(64,dG S (goS s0 h 0).1.all),(2,.lo S)]:=by
 refine au aa Tryz.func49 rfl rfl rfl ?_;refine sR<|rN ?_;refine rC<|nR ?_;refine zD ?_;refine bB rfl (bJ [(0,some 64),(1,some 0),(2,some 1),(3,some 2)] (yh S h hL s0 hs0) rfl rfl rfl (aj (tI rfl rfl ab)) ⟨zH,zH,zH,zH,trivial⟩ rfl rfl (.inl rfl) rfl rfl) rfl rfl ?_;refine rC<|zT ?_
 exact⟨trivial,[(64,some _)],lg zV ⟨zR,zR,zR,trivial⟩⟩
theorem vX (S:Nat→Prop) (h:List HEv) (hh:h.length≤9223372036854775807):FnIs Tryz.prog 22 [.d (encH h)] [(0,.lo S)] (.tup (.acons (.ptr 64 []) (.acons (.int .i64 (chkH h).1) (.acons (.int .i64 (chkH h).2) .anil)))) [(64,cP (rdH h) 65),(65,dG S (rdH h).all),(0,.lo S)]:=by
 unfold rdH chkH
 obtain⟨Z,hZ⟩:∃Z,decide ((8192:Int)<(h.length:Int))=Z:=⟨_,rfl⟩
 refine au aa Tryz.func22 rfl rfl rfl ?_;refine sR<|zU<|nR ?_;refine rQ iS ?_;refine rN ?_;refine rC<|nS ?_;refine lc (env':=[(2,.ptr 64 []),(0,.d (encH h))]) (h':=[(64,some (cP rd0 65)),(65,some (dG S [])),(0,some (.lo S))]) 72 [(64,some 96),(65,none)] (lg zk ⟨⟨rfl,rfl,_,rfl,oI⟩,⟨rfl,rfl,rfl⟩,zR,trivial⟩) ?_
 cases Z with
 | true =>
  have h8:8192<h.length:=by have:=of_decide_eq_true hZ; omega
  rw[if_pos h8,if_pos h8]
  refine qR<|rC ?_;refine rQ iE ?_;refine rC ?_;refine zI<|sR ?_;iterate 4 refine rC ?_
  refine zT<|aP ?_
  exact⟨trivial,[(64,some _),(65,some _)],lg zV ⟨zR,zR,zR,trivial⟩⟩
 | false =>
  have h8:¬8192<h.length:=by have:=of_decide_eq_false hZ; omega
  have hL:h.length≤1000000:=by omega
  rw[if_neg h8,if_neg h8]
  by_cases h0:0≤(goS rd0 h 0).2
  ·have d0:decide (0≤(goS rd0 h 0).2)=true:=dT h0
   rw[if_pos h0]
   refine qR<|rC ?_;refine rQ iE ?_;refine rC ?_;refine zG<|kS<|qR ?_;refine zU ?_;refine bB rfl (bJ [(0,some 64),(1,some 65),(2,some 0)] (nY S h hL rd0 gL) rfl rfl rfl (aj (ma rfl rfl ab)) ⟨zH,zH,zH,trivial⟩ rfl rfl (.inl rfl) rfl rfl) rfl rfl ?_;refine rC<|nR ?_;refine zD ?_;refine zI<|sR ?_;iterate 5 refine rC ?_
   refine zT<|aP ?_
   exact⟨trivial,[(64,some _),(65,some _)],lg zV ⟨zR,zR,zR,trivial⟩⟩
  ·have d0:decide (0≤(goS rd0 h 0).2)=false:=dF h0
   rw[if_neg h0]
   refine qR<|rC ?_;refine rQ iE ?_;refine rC ?_;refine zG<|kS<|qR ?_;refine zU ?_;refine bB rfl (bJ [(0,some 64),(1,some 65),(2,some 0)] (nY S h hL rd0 gL) rfl rfl rfl (aj (ma rfl rfl ab)) ⟨zH,zH,zH,trivial⟩ rfl rfl (.inl rfl) rfl rfl) rfl rfl ?_;refine rC<|nR ?_;refine zD ?_;refine zG<|kS<|sR ?_;iterate 4 refine rC ?_
   refine zT ?_
   exact⟨trivial,[(64,some _),(65,some _)],lg zV ⟨zR,zR,zR,trivial⟩⟩
theorem yl (S:Nat→Prop) (h:List HEv) (hh:h.length≤9223372036854775807) (hal:(rdH h).all.length≤1048576) (h0:(chkH h).2=0):FnIs Tryz.prog 7 [.d (encH h)] [(0,.lo S)] (.tup (.acons (.own 64 0 (rdH h).all.length 41 none) (.acons (.int .i64 0) .anil))) [(64,.ds 43 41 true (eK S) (rdH h).all),(0,.lo S)]:=by
 refine au aa Tryz.func7 rfl rfl rfl ?_;refine sR<|zD<|nR ?_;refine rC ?_;refine bB rfl (bJ [(0,some 0)] (vX S h hh) rfl rfl rfl (aj ab) ⟨zH,trivial⟩ rfl rfl (.inl rfl) rfl rfl) rfl rfl ?_
 iterate 7 refine rC ?_
 refine zW<|zD<|nS ?_
 have d0:(!decide ((chkH h).2=0))=false:=by rw[dT h0]; rfl
 refine wF<|kS<|sR ?_;refine zU ?_;refine rQ iM ?_;refine bT (env':=[(19,_)]) (h':=[(0,some _)]) 89 _ rfl ⟨⟨_,rfl,Frz.own rfl⟩,trivial⟩ ⟨⟨rfl,_,rfl,.refl _⟩,trivial⟩ ?_;refine aJ (bJ [] (wS S (rdH h).all hal) rfl rfl rfl (aj ab) trivial rfl rfl (.inl rfl) rfl rfl) rfl ?_;refine zD<|zT ?_
 exact⟨trivial,[(64,some _)],lg zV ⟨zR,zR,trivial⟩⟩
end Go.Proofs.YtpjiiolnfbfcbaaGreatDoor
namespace Go.Proofs.YtpjiiolnfbfcbaaGreatDoor
open Go.Eng Go.Plain
set_option maxHeartbeats 32000000
set_option maxRecDepth 20000
def later (h:List HEv) (i:Nat) (s:RdS) (j:Nat) (o:HOp):HOp :=
 if s.busy[o.client.toNat]?=some ((j:Int)+1) then ez o (lr o.client (h.drop i) i) else o
structure Sync (h:List HEv) (i:Nat) (s:RdS) (out:List HOp) (era:Int):Prop where
 ok:s.Ok i
 len:out.length=s.all.length
 outs:∀(j:Nat) o,s.all[j]?=some o→out[j]?=some (later h i s j o)
 cli:∀(j:Nat) o,s.all[j]?=some o→0≤o.client∧o.client<8
 own:∀(c:Nat) (b:Int),c<8→s.busy[c]?=some b→b≠0→∃o,s.all[(b-1).toNat]?=some o∧o.client=c
 num:∀c:Nat,c<8→s.number[c]?=some (cntC out c)
 era:s.era=era
theorem oO (o:HOp) (r:Option (Nat×HEv)):(ez o r).client=o.client:=by cases r <;> rfl
theorem uZ (l:List HOp) (o:HOp) (c:Int):cntC (l++[o]) c=cntC l c+if o.client=c then 1 else 0:=by
 simp only[cntC,List.countP_append,List.countP_cons,List.countP_nil]
 by_cases h:o.client=c <;> simp[h]
theorem rY (o:HOp):ez o none=o:=rfl
theorem Sync.next {h:List HEv} {i:Nat} {s:RdS} {out:List HOp} {era:Int} {x:HEv} (S:Sync h i s out era) (hx:h[i]?=some x) (ht:(ba s x).2=true) :
  Sync h (i+1) (ba s x).1 (if x.kind=3 then out else if x.kind=1 then out++[mkOp h i x out era] else out) (if x.kind=3 then era+1 else era):=by
 have hok:=S.ok.next x
 rcases iQ ht with ⟨k1,hi⟩ | ⟨k2,hi⟩ | ⟨k3,hi⟩
 ·obtain⟨c0,c8,hb,_,_,_⟩:=j2 hi
  have k3:¬x.kind=3:=by omega
  rw[if_neg k3,if_pos k1,if_neg k3]
  rw[fK k1 hi]at hok ⊢
  have hbl:=S.ok.blen
  have hnl:=S.ok.nlen
  have hnum:s.number[x.client.toNat]?.getD 0=cntC out x.client:=by
   rw[S.num x.client.toNat (by omega)]
   show cntC out _=_
   rw[Int.toNat_of_nonneg c0]
  have hcc:((x.client.toNat:Nat):Int)=x.client:=Int.toNat_of_nonneg c0
  refine⟨hok,by simp[S.len],fun j o hj=>?_,fun j o hj=>?_,fun c b hc hbc hb0=>?_,fun c hc=>?_,S.era⟩
  ·rcases Nat.lt_or_ge j s.all.length with hlt | hge
   ·have hj':s.all[j]?=some o:=by rw[List.getElem?_append_left hlt]at hj; exact hj
    rw[List.getElem?_append_left (by rw[S.len]; exact hlt),S.outs j o hj']
    obtain⟨o0,o8⟩:=S.cli j o hj'
    congr 1
    unfold later
    simp only
    by_cases he:o.client=x.client
    ·rw[he,hb,if_neg (by simp; omega),List.getElem?_set_self (by omega),if_neg (by simp; omega)]
    ·rw[List.getElem?_set_ne (by omega)]
     split
     ·rw[fy _ hx,if_neg k3,if_neg (fun e=>he e.symm)]
     ·rfl
   ·have hje:j=s.all.length:=by
     have:=(List.getElem?_eq_some_iff.1 hj).1
     simp at this; omega
    subst hje
    rw[List.getElem?_append_right (Nat.le_refl _),Nat.sub_self]at hj
    simp only[List.getElem?_cons_zero,Option.some.injEq]at hj
    subst hj
    rw[List.getElem?_append_right (by rw[S.len]; exact Nat.le_refl _),S.len,Nat.sub_self]
    simp only[List.getElem?_cons_zero,Option.some.injEq]
    unfold later mkOp
    simp only
    rw[List.getElem?_set_self (by omega),if_pos rfl,dj,hnum,S.era,S.ok.read]
  ·rcases Nat.lt_or_ge j s.all.length with hlt | hge
   ·exact S.cli j o (by rw[List.getElem?_append_left hlt]at hj; exact hj)
   ·rw[List.getElem?_append_right hge]at hj
    have:j-s.all.length=0:=by have:=(List.getElem?_eq_some_iff.1 hj).1; simpa using this
    rw[this]at hj
    simp only[List.getElem?_cons_zero,Option.some.injEq]at hj
    subst hj
    exact⟨c0,c8⟩
  ·simp only at hbc ⊢
   by_cases he:x.client.toNat=c
   ·subst he
    rw[List.getElem?_set_self (by omega)]at hbc
    cases hbc
    refine⟨_,by rw[show ((s.all.length:Int)+1-1).toNat=s.all.length by omega,List.getElem?_append_right (Nat.le_refl _),Nat.sub_self]; rfl,hcc.symm⟩
   ·rw[List.getElem?_set_ne he]at hbc
    obtain⟨o,ho,hoc⟩:=S.own c b hc hbc hb0
    exact⟨o,iu ho,hoc⟩
  ·simp only
   rw[uZ,mkOp,oO]
   show _=some (cntC out c+if x.client=(c:Int) then 1 else 0)
   by_cases he:x.client.toNat=c
   ·subst he
    rw[List.getElem?_set_self (by omega),hnum,if_pos hcc.symm,hcc]
   ·rw[List.getElem?_set_ne he,S.num c hc,if_neg (by omega),Int.add_zero]
 ·obtain⟨c0,c8,_,_,b,o,hb,hbp,hog,hof,_⟩:=jQ S.ok hi
  have k3:¬x.kind=3:=by omega
  have k1:¬x.kind=1:=by omega
  rw[if_neg k3,if_neg k1,if_neg k3]
  rw[fJ k2 hi hb hof]at hok ⊢
  have hbl:=S.ok.blen
  have hcc:((x.client.toNat:Nat):Int)=x.client:=Int.toNat_of_nonneg c0
  obtain⟨o',ho',hoc⟩:=S.own x.client.toNat b (by omega) hb (by omega)
  rw[hog]at ho'
  cases ho'
  rw[hcc]at hoc
  have hbi:(((b-1).toNat:Nat):Int)+1=b:=by omega
  have hlt:=(List.getElem?_eq_some_iff.1 hog).1
  refine⟨hok,by simp[S.len],fun j q hj=>?_,fun j q hj=>?_,fun c d hc hbc hb0=>?_,S.num,S.era⟩
  ·simp only at hj ⊢
   by_cases he:(b-1).toNat=j
   ·subst he
    rw[List.getElem?_set_self hlt]at hj
    cases hj
    rw[S.outs _ o hog]
    congr 1
    unfold later
    simp only
    rw[hoc,hb,if_pos (by rw[hbi]),fy _ hx,if_neg k3,if_pos rfl,List.getElem?_set_self (by omega),if_neg (by simp; omega),ez,S.ok.read]
    try rw[hoc]
   ·rw[List.getElem?_set_ne he]at hj
    rw[S.outs j q hj]
    obtain⟨q0,q8⟩:=S.cli j q hj
    congr 1
    unfold later
    simp only
    by_cases hq:q.client=x.client
    ·rw[hq,hb,if_neg (by simp; omega),List.getElem?_set_self (by omega),if_neg (by simp; omega)]
    ·rw[List.getElem?_set_ne (by omega)]
     split
     ·rw[fy _ hx,if_neg k3,if_neg (fun e=>hq e.symm)]
     ·rfl
  ·simp only at hj
   by_cases he:(b-1).toNat=j
   ·subst he
    rw[List.getElem?_set_self hlt]at hj
    cases hj
    exact S.cli _ o hog
   ·rw[List.getElem?_set_ne he]at hj
    exact S.cli j q hj
  ·simp only at hbc ⊢
   by_cases he:x.client.toNat=c
   ·subst he
    rw[List.getElem?_set_self (by omega)]at hbc
    cases hbc
    exact absurd rfl hb0
   ·rw[List.getElem?_set_ne he]at hbc
    obtain⟨q,hq,hqc⟩:=S.own c d hc hbc hb0
    by_cases hed:(b-1).toNat=(d-1).toNat
    ·rw[←hed,hog]at hq
     cases hq
     exact absurd hqc (by omega)
    ·exact⟨q,by rw[List.getElem?_set_ne hed]; exact hq,hqc⟩
 ·have k1:¬x.kind=1:=by omega
  rw[if_pos k3,if_pos k3]
  rw[fU k3]at hok ⊢
  have hz:∀b∈cu,b=0:=by decide
  refine⟨hok,S.len,fun j q hj=>?_,S.cli,fun c d hc hbc hb0=>absurd (hz d (List.mem_of_getElem? hbc)) hb0,S.num,by rw[S.era]⟩
  simp only at hj
  rw[S.outs j q hj]
  congr 1
  unfold later
  simp only
  rw[if_neg (c:=cu[q.client.toNat]?=some ((j:Int)+1)) (fun e=>by have:=hz _ (List.mem_of_getElem? e); omega)]
  split
  ·rw[fy _ hx,if_pos k3,rY]
  ·rfl
theorem sW (h:List HEv):∀(n:Nat) (s:RdS) (i:Nat) (out:List HOp) (era:Int),h.length-i=n→i≤h.length→Sync h i s out era→(goS s (h.drop i) i).2<0→(goS s (h.drop i) i).1.all=fB h n i out era
 | 0,s,i,out,era,hn,hi,S,_=>by
  have he:i=h.length:=by omega
  subst he
  rw[List.drop_length,fB]
  refine List.ext_getElem? fun j=>?_
  show s.all[j]?=out[j]?
  cases hj:s.all[j]? with
  | none=>rw[List.getElem?_eq_none (by rw[S.len]; exact List.getElem?_eq_none_iff.1 hj)]
  | some o =>
   rw[S.outs j o hj]
   unfold later
   rw[List.drop_length]
   split
   ·rfl
   ·rfl
 | n+1,s,i,out,era,hn,hi,S,hlt=>by
  obtain⟨x,hx⟩:∃x,h[i]?=some x:=⟨_,List.getElem?_eq_getElem (by omega)⟩
  rw[it hx]at hlt ⊢
  cases hb:(ba s x).2 with
  | false=>rw[hb]at hlt; simp at hlt; omega
  | true =>
   rw[hb]at hlt
   simp only[if_pos]at hlt ⊢
   have S':=S.next hx hb
   rw[sW h n _ (i+1) _ _ (by omega) (by omega) S' hlt,fB,hx]
   simp only
   by_cases k3:x.kind=3
   ·simp only[k3,if_pos]
   ·by_cases k1:x.kind=1
    ·simp only[if_neg k3,if_pos k1]
    ·simp only[if_neg k3,if_neg k1]
theorem Ca (h:List HEv):Sync h 0 rd0 [] 0:=by
 have hz:∀b∈cu,b=0:=by decide
 refine⟨gL,rfl,fun j o hj=>by simp[rd0]at hj,fun j o hj=>by simp[rd0]at hj,fun c b hc hb h0=>absurd (hz b (List.mem_of_getElem? hb)) h0,fun c hc=>?_,rfl⟩
 obtain⟨b,hb⟩:∃b,cu[c]?=some b:=⟨_,List.getElem?_eq_getElem hc⟩
 show cu[c]?=some 0
 rw[hb,hz b (List.mem_of_getElem? hb)]
theorem p6 {h:List HEv} (hc:(chkH h).2=0):(rdH h).all=opsR h:=by
 unfold chkH at hc
 unfold rdH
 by_cases h8:8192<h.length
 ·rw[if_pos h8]at hc; cases hc
 ·rw[if_neg h8]at hc ⊢
  have hlt:(goS rd0 h 0).2<0:=by
   by_cases h0:0≤(goS rd0 h 0).2
   ·rw[if_pos h0]at hc; cases hc
   ·omega
  have:=sW h h.length rd0 0 [] 0 (by omega) (Nat.zero_le _) (Ca h) (by rw[List.drop_zero]; exact hlt)
  rw[List.drop_zero]at this
  exact this
end Go.Proofs.YtpjiiolnfbfcbaaGreatDoor
namespace Go.Eng
open Go.RowKit
section
variable {F : Fence} {n : Nat} {P : Program} {ops : Array Oper} {Q : Exit → Act → World → Prop}
theorem jX {Q Q':Exit→Act→World→Prop} (hq:∀e a w,e ≠ .normal→Q e a w→Q' e a w):LetsOut Q→LetsOut Q':=fun⟨a,w,h⟩=>⟨a,w,hq _ a w (by intro e; cases e) h⟩
theorem lh {o:Oper} {a:Act} {next next':Act→World→Prop} {Q Q':Exit→Act→World→Prop} (hn:∀a w,next a w→next' a w) (hq:∀e a w,e ≠ .normal→Q e a w→Q' e a w):∀(r:Result Next),o.uponIn F n P a next Q r→o.uponIn F n P a next' Q' r
 | .ok (.value v) w',h=>hn _ _ h
 | .ok .skip w',h=>hn _ _ h
 | .ok (.defer d) w',h=>hn _ _ h
 | .ok (.enter f args) w',h=>⟨h.1,h.2.mono fun e w2 h2=>by
   cases e with
   | returned v=>exact hn _ _ h2
   | panicked c=>exact hq _ _ _ (by intro e; cases e) h2
   | outgrown=>exact jX hq h2⟩
 | .ok (.row row args) w',h=>⟨h.1,h.2.mono fun v w2 h2=>hn _ _ h2⟩
 | .ok (.round l f tmps assign body) w',h=>⟨h.1,h.2.mono fun e w2 h2=>by
   cases e with
   | returned v=>exact hn _ _ h2
   | panicked c=>exact hq _ _ _ (by intro e; cases e) h2
   | outgrown=>exact jX hq h2⟩
 | .halt x w',h=>by
  cases x with
  | panic v=>exact hq _ _ _ (by intro e; cases e) h
  | _=>exact h
theorem fc:∀(l1 l2:List Oper) (a:Act) (w:World),wpListIn F n P ops (fun e a w=>match e with | .normal=>wpListIn F n P ops Q l2 a w | e=>Q e a w) l1 a w→wpListIn F n P ops Q (l1++l2) a w
 | [],l2,a,w,h=>h
 | o::l1,l2,a,w,h=>by
  rw[List.cons_append]
  rw[wpListIn]at h ⊢
  split at h <;> rename_i hw
  ·rw[if_pos hw]
   refine⟨h.1,lh (fun a w h=>fc l1 l2 a w h) (fun e a w he h=>?_) _ h.2⟩
   cases e <;> first | exact absurd rfl he | exact h
  ·rw[if_neg hw]
   exact⟨h.1,fc l1 l2 _ w h.2⟩
end
section
variable {S : Nat → Prop} {P : Program} {T : Tab} {sz : Nat} {all l l1 l2 : List Oper} {n : Nat} {env : Env} {h : Upds} {K : Env → Upds → Nat → Prop} {Q : Exit → St → Prop}
end
end Go.Eng
namespace Go.Eng
open Go.RowKit
section
variable {S : Nat → Prop} {P : Program} {sz : Nat} {n : Nat} {env : Env} {h : Upds} {Q : Exit → St → Prop} {c : Code}
theorem xM {r:Nat} {t:TypeId} {x:D} (env':(Nat→Prop)→Env) (hr:bp h r=some (.box t (.d x))) (hlt:Nat.blt r n=true) (hn:Nat.ble 64 n=true) (hE:∀S,fG S env (env' S))
  (h1:∀S,SatC S P c Q ⟨env' S,(r,some (.box t (.d (.re false (NotS S) x))))::(n,some (.lo S))::h,n+8,sz,64⟩):WC P sz c Q env h n :=
 vI (st:=⟨env,h,n,sz,64⟩) env' (by rw[←hr]; exact (cg (st:=⟨env,h,n,sz,64⟩) (r:=r)).symm) hlt hE (Nat.le_of_ble_eq_true hn) h1
theorem qW (h1:WC P sz c Q env h n):SatC S P c Q ⟨env,h,n,sz,64⟩:=Sat.toC h1
theorem ed {x y:Code} (h1:WC P sz x (SeqT S P y Q) env h n):SatC S P (.seq x y) Q ⟨env,h,n,sz,64⟩:=jO (Sat.toC h1)
end
section
variable {S : Nat → Prop} {P : Program} {T : Tab} {sz : Nat} {all l : List Oper} {n : Nat} {env : Env} {h : Upds} {K : Env → Upds → Nat → Prop}
theorem xT (hT:aq P T) {p:Value→Prop} {m:Nat} {j:Int} {k:IntKind} {t e:TypeId} {re:TyR} {x i:Operand} {d:Tmp} {ty:TypeId} {pos:String} {af:Array Edge} (hd:Nat.blt d sz=true) (ht:bh T t=some (.slice e)) (he:lk T e=some re) (hs:Nat.beq re.size 1=true)
  (hx:ay env x=some (.d (.jk S p m))) (hi:ay env i=some (.int k j)) (h0:0≤j) (h1:j<(m:Int)) (hone:∀u,p u→u.oneCell'=true)
  (next:∀u,p u→RegC S P all sz l (n+8) ((d,.d (.re true S (.pt (.sc u))))::env) h K):RegC S P all sz (⟨some d,.indexAddr t x i,ty,pos,af,none⟩::l) n env h K:=by
 intro C σ w a hS hst Q hQ
 unfold wpListIn
 rw[if_pos (show Region.wanted (⟨some d,.indexAddr t x i,ty,pos,af,none⟩:Oper) (yielded all.toArray a.tmps)=true from rfl)]
 have key:=y7 (l:=[]) (K:=fun env' h' n'=>∃u,p u∧env'=(d,.d (.re true S (.pt (.sc u))))::env∧h'=h∧n'=n+8) (all:=all) (P:=P) (sz:=sz) (n:=n) (h:=h) (ty:=ty) (pos:=pos) (af:=af) hT hd ht he hs hx hi h0 h1 hone (fun u hu=>oG ⟨u,hu,rfl,rfl,rfl⟩)
 have k2:=key C σ w a hst (fun e a w=>match e with | .normal=>wpListIn (fen C.ro) 0 P all.toArray Q l a w | e=>Q e a w) ?_
 ·rw[wpListIn,if_pos (show Region.wanted (⟨some d,.indexAddr t x i,ty,pos,af,none⟩:Oper) (yielded all.toArray a.tmps)=true from rfl)]at k2
  refine⟨k2.1,lh (fun a w h=>h) (fun e a w he h=>?_) _ k2.2⟩
  cases e <;> first | exact absurd rfl he | exact h
 ·rintro env' h' n' σ' w' a' ⟨u,hu,rfl,rfl,rfl⟩ hst'
  exact next u hu C σ' w' a' hS hst' Q hQ
theorem vU {l1 l2:List Oper} (hl:l=l1++l2) (h1:RegS P all sz l1 n env h (fun env h n=>RegC S P all sz l2 n env h K)):RegC S P all sz l n env h K:=by
 intro C σ w a hS hst Q hQ
 rw[hl]
 refine fc _ _ _ _ (h1 C σ w a hst _ fun env h n σ w a hk hst=>hk C σ w a hS hst Q hQ)
end
section
variable {S : Nat → Prop} {P : Program} {sz n i : Nat} {env : Env} {h : Upds} {Q : Exit → St → Prop} {b : Code} {st : St}
theorem vT (h1:Q .normal ⟨env,h,n,sz,64⟩):RegK (BlkQ i Q) sz env h n:=h1
theorem Am (h1:Q .normal st):BlkQ i Q .normal st:=h1
theorem xu (h1:Q .normal st):BlkQ i Q (.exit i) st:=by
 show (if i=i then Q .normal st else Q (.exit i) st)
 rw[if_pos rfl]; exact h1
theorem vH (h1:Q (.exit i) st):SeqT S P b Q (.exit i) st:=h1
theorem loopQ_x.{u} {α:Type u} {mk:α→St} {Inv:α→Prop} {μ:α→Nat} {a:α} (h1:Q (.exit i) st):LoopQ Q mk Inv μ a (.exit i) st:=h1
end
end Go.Eng
namespace Go.Proofs.YtpjiiolnfbfcbaaGreatDoor
open Go.Eng Go.Plain
set_option maxHeartbeats 32000000
set_option maxRecDepth 20000
set_option linter.unusedVariables false
attribute [local irreducible] WC RegS RegD SeqQ BlkQ ScoQ RegK CutK Sat SatN FnIs LoopQ an OpIs
abbrev isB (u:Value):Prop:=∃z,u=.int .u8 z
def yF (S:Nat→Prop) (x:POp):D :=.cons (u8s x.kind) (.cons (i6 x.index) (.cons (.jk S isB x.data.length) .nil))
def sB (S:Nat→Prop) (x:HOp):D :=.cons (i6 x.client) (.cons (i6 x.number) (.cons (i6 x.era) (.cons (yF S x.op) (.cons (i6 x.invoked) (.cons (i6 x.returned) (.cons (fg x.value) (.cons (i6 x.err) .nil)))))))
theorem zu {S:Nat→Prop} {x:HOp}:DLe (eK S x) (b8 x):=by
 rintro w X cs ⟨a1,r1,rfl,h1,a2,r2,rfl,h2,a3,r3,rfl,h3,a4,r4,rfl,⟨b1,q1,rfl,g1,b2,q2,rfl,g2,b3,q3,rfl,g3,g4⟩,h5⟩
 exact⟨a1,_,rfl,h1,a2,_,rfl,h2,a3,_,rfl,h3,_,r4,rfl,⟨b1,_,rfl,g1,b2,_,rfl,g2,b3,q3,rfl,DLe.re w X b3 g3,g4⟩,h5⟩
theorem x4 {S:Nat→Prop} {x:HOp}:DLe (eK S x) (sB S x):=by
 rintro w X cs ⟨a1,r1,rfl,h1,a2,r2,rfl,h2,a3,r3,rfl,h3,a4,r4,rfl,⟨b1,q1,rfl,g1,b2,q2,rfl,g2,b3,q3,rfl,g3,g4⟩,h5⟩
 exact⟨a1,_,rfl,h1,a2,_,rfl,h2,a3,_,rfl,h3,_,r4,rfl,⟨b1,_,rfl,g1,b2,_,rfl,g2,b3,q3,rfl,DLe.re_jk (b6 _) (fun z=>⟨z,rfl⟩) w X b3 g3,g4⟩,h5⟩
theorem jd (h:List HEv):∀(n i:Nat) (out:List HOp) (era:Int),(fB h n i out era).length≤out.length+n
 | 0,_,out,_=>by simp[fB]
 | n+1,i,out,era=>by
  rw[fB]
  split
  ·omega
  ·split
   ·have:=jd h n (i+1) out (era+1); omega
   ·split
    ·rename_i x _ _ _
     have:=jd h n (i+1) (out++[mkOp h i x out era]) era
     rw[List.length_append,List.length_singleton]at this
     omega
    ·have:=jd h n (i+1) out era; omega
theorem jT (h:List HEv):(opsR h).length≤h.length:=by
 have:=jd h h.length 0 [] 0
 simpa[opsR]using this
theorem gP (h:List HEv) (hd:∀x∈h,x.op.data.length≤64):∀(n i:Nat) (out:List HOp) (era:Int),(∀o∈out,o.op.data.length≤64)→∀o∈fB h n i out era,o.op.data.length≤64
 | 0,_,out,_,ho=>by rw[fB]; exact ho
 | n+1,i,out,era,ho=>by
  rw[fB]
  split
  ·exact ho
  ·rename_i x hx
   split
   ·exact gP h hd n (i+1) out (era+1) ho
   ·split
    ·refine gP h hd n (i+1) _ era fun o hm=>?_
     rcases List.mem_append.1 hm with hm | hm
     ·exact ho o hm
     ·rw[List.mem_singleton]at hm
      subst hm
      have:(mkOp h i x out era).op=x.op:=by unfold mkOp ez; split <;> rfl
      rw[this]
      exact hd x (List.mem_of_getElem? hx)
    ·exact gP h hd n (i+1) out era ho
theorem vJ (S:Nat→Prop) (p q:List HOp) (hL:p.length≤1000000000):FnIs Tryz.prog 29 [.d (.arr 41 (eK S) p),.d (eu q)] [] (.d (i6 (if p=q then 1 else 0))) []:=
 FnIs.args_le (show dP [.d (.arr 41 (eK S) p),.d (eu q)] [.d (eu p),.d (eu q)] from⟨⟨AVLe.d (jo (g:=id) (List.map_id _).symm fun _ _=>zu) rfl,fun _ _=>trivial⟩,⟨AVLe.of_eq rfl,fun _ _=>trivial⟩,trivial⟩) (mx p q hL)
theorem uE (z:List XE):FnIs Tryz.prog 9 [.d (g8 z)] [] (.bool true) []:=by
 have hx:=mX z
 obtain⟨hl,hc,hok,hwf⟩:=gq z
 generalize hOf z=h at *
 have hal:=p6 (h:=h) (by rw[hc])
 have hso:=fun S=>show FnIs Tryz.prog 29 [.d (.arr 41 (eK S) (opsR h)),.d (eu (opsR h))] [] (.d (i6 1)) [] from by
  have:=vJ S (opsR h) (opsR h) (by have:=jT h; omega)
  rwa [if_pos rfl]at this
 have hsm:=gp h h (by omega)
 have hro:=sX h (by omega)
 have hop:=fun S=>yl S h (by omega) (by rw[hal]; have:=jT h; omega) (by rw[hc])
 rw[hal]at hop
 rw[if_pos rfl]at hsm
 have hol:=jT h
 have hdl:∀o∈opsR h,o.op.data.length≤64:=gP h (fun x hx=>fI (hwf x hx)) h.length 0 [] 0 (fun o ho=>by cases ho)
 generalize opsR h=l at *
 have q1:(!decide ((l.length:Int)=(l.length:Int)))=false:=by rw[dT rfl]; rfl
 refine au aa Tryz.func9 rfl rfl rfl ?_;refine sR<|rN ?_;refine rC<|nR ?_;refine rQ iM ?_;refine rQ (ak hx rfl rfl (aj ab) (.inl rfl) (fun _=>rfl)) ?_;refine rC<|nS ?_
 refine xM (r:=64) (fun S=>[(1,.ptr 64 []),(3,.d (.re false (NotS S) (encH h)))]) rfl rfl rfl (fun S=>.keep rfl (.old rfl .nil)) (fun S=>?_)
 refine ed<|am ?_;refine rC ?_;refine bB rfl (bJ [(0,some 104)] (hop S) rfl rfl rfl (hJ rfl trivial DLe.re ab) ⟨zH,trivial⟩ rfl rfl (.inl rfl) rfl rfl) rfl rfl ?_
 iterate 5 refine rC ?_
 refine aA ?_
 refine gH (ed ?_)
 refine sR<|zU ?_;refine rP ?_;refine rC ?_;refine rP ?_;refine rQ (u9 aa rfl rfl rfl) ?_;refine rP ?_;refine rC ?_;refine rP ?_;refine rQ (bP aa rfl rfl) ?_;refine rP ?_;refine rC ?_;refine rQ iG ?_;refine rC ?_;refine rO ?_;refine rC ?_;refine rO ?_;refine rC ?_;refine rO ?_;refine rQ (ak hro rfl rfl (hJ rfl trivial DLe.re ab) (.inl rfl) (fun _=>rfl)) ?_;refine rO ?_;refine rQ (ak (hso S) rfl rfl (jt rfl (aj ab)) (.inr (cG.sc _)) (fun _=>rfl)) ?_;refine rO ?_;refine rC ?_;refine rQ iF ?_;refine zJ<|aL ?_
 refine gH (jO (ed ?_))
 refine am<|rC<|aA ?_
 refine gH (gI ?_)
 refine satC_inv (fun i:Nat=>⟨[(1,.ptr 64 []),(3,.d (.re false (NotS S) (encH h))),(4,.own 65 0 l.length 41 none),(6,.int .i64 (i:Nat))],[(65,some (.ds 43 41 true (sB S) l)),(64,some (.box 50 (.d (.re false (NotS S) (g8 z)))))],500,Tryz.f9.ntmps,64⟩) (fun i=>i≤l.length) (fun i=>l.length-i) 0 [(65,some 120)] (Nat.zero_le _)
  (lg zi ⟨⟨rfl,rfl,_,rfl,bj.ds_map id (List.map_id _).symm fun _ _=>x4⟩,zR,trivial⟩) ?_
 intro i hi
 by_cases hlt:i<l.length
 ·have c1:decide ((i:Int)<(l.length:Int))=true:=dT (by omega)
  obtain⟨o,ho⟩:∃o,l[i]?=some o:=⟨_,List.getElem?_eq_getElem hlt⟩
  have hd64:=hdl o (List.mem_of_getElem? ho)
  have hgi:l[((i:Int)).toNat]?=some o:=by rw[Int.toNat_natCast]; exact ho
  refine ed<|sR ?_;refine zD ?_;refine rQ (bP aa rfl rfl) ?_;refine rC ?_;refine zI<|aL ?_
  refine gH (jO (gI (ed ?_)))
  refine am<|rC<|aA ?_
  refine gH (gI ?_)
  refine satC_inv (fun k:Nat=>⟨[(1,.ptr 64 []),(3,.d (.re false (NotS S) (encH h))),(4,.own 65 0 l.length 41 none),(6,.int .i64 (i:Nat)),(7,.int .i64 (k:Nat))],[(65,some (.ds 43 41 true (sB S) l)),(64,some (.box 50 (.d (.re false (NotS S) (g8 z)))))],800,Tryz.f9.ntmps,64⟩) (fun k=>k≤o.op.data.length) (fun k=>o.op.data.length-k) 0 [] (Nat.zero_le _)
   (lg zh ⟨zR,zR,trivial⟩) ?_
  intro k hk
  by_cases hlk:k<o.op.data.length
  ·have c2:decide ((k:Int)<(o.op.data.length:Int))=true:=dT (by omega)
   refine ed<|sR ?_;refine zU ?_;refine rQ (br aa rfl rfl rfl rfl rfl (by omega) (by omega)) ?_;refine zD ?_;refine rQ (bU (v :=.d (.jk S isB o.op.data.length)) aa rfl rfl ⟨rfl,o,hgi,.jk S isB o.op.data.length,rfl,rfl⟩ rfl) ?_;refine rQ (wB aa rfl rfl) ?_;refine rC ?_;refine zI<|aL ?_
   refine gH (jO (gI (pF ?_)))
   refine vU (l1:=[_,_,_,_,_,_,_]) rfl ?_;refine zD ?_;refine rQ (br aa rfl rfl rfl rfl rfl (by omega) (by omega)) ?_;refine zD ?_;refine rQ (bU (v :=.d (.jk S isB o.op.data.length)) aa rfl rfl ⟨rfl,o,hgi,.jk S isB o.op.data.length,rfl,rfl⟩ rfl) ?_;refine rC ?_;refine oG ?_
   refine xT (p:=isB) (m:=o.op.data.length) (j:=(k:Int)) (k :=.i64) aa rfl rfl rfl rfl rfl rfl (by omega) (by omega) (fun u ⟨z,e⟩=>by rw[e]; rfl) (fun u hu=>?_)
   refine rz (v :=.int .u8 99) aa [(1,.ptr 64 []),(3,.d (.re false (NotS S) (encH h))),(4,.own 65 0 l.length 41 none),(6,.int .i64 (i:Nat)),(7,.int .i64 (k:Nat))] rfl rfl rfl (.cons rfl trivial (.cons rfl (fun _ h=>h) (.cons rfl trivial (.cons rfl trivial (.cons rfl trivial .nil))))) ⟨fun x=>⟨trivial,trivial,trivial,⟨trivial,trivial,⟨99,rfl⟩,trivial⟩,trivial,trivial,fun _=>trivial,trivial,trivial⟩,fun _ h=>h,trivial⟩ ?_
   refine vV (vT (gH (qW ?_)))
   refine am<|rC ?_;refine rQ iD ?_;refine rC<|aA ?_
   exact aN (k+1) [] (show k+1≤_ by omega) (by show o.op.data.length-(k+1)<o.op.data.length-k; omega) (lg zh ⟨zR,zR,trivial⟩)
  ·have c2:decide ((k:Int)<(o.op.data.length:Int))=false:=dF (by omega)
   refine ed<|sR ?_;refine zU ?_;refine rQ (br aa rfl rfl rfl rfl rfl (by omega) (by omega)) ?_;refine zD ?_;refine rQ (bU (v :=.d (.jk S isB o.op.data.length)) aa rfl rfl ⟨rfl,o,hgi,.jk S isB o.op.data.length,rfl,rfl⟩ rfl) ?_;refine rQ (wB aa rfl rfl) ?_;refine rC ?_;refine zG<|cv ?_
   refine vH (loopQ_x (xu (Am (gH (qW ?_)))))
   refine am<|rC ?_;refine rQ iD ?_;refine rC<|aA ?_
   exact aN (i+1) [] (show i+1≤_ by omega) (by show l.length-(i+1)<l.length-i; omega) (lg zi ⟨zR,zR,trivial⟩)
 ·have c1:decide ((i:Int)<(l.length:Int))=false:=dF (by omega)
  refine ed<|sR ?_;refine zD ?_;refine rQ (bP aa rfl rfl) ?_;refine rC ?_;refine zG<|cv ?_
  refine vH (loopQ_x (xu (gH (qW ?_))))
  refine sR<|rC ?_;refine rQ iM ?_;refine rQ (ak hx rfl rfl (hJ rfl trivial DLe.re ab) (.inl rfl) (fun _=>rfl)) ?_;refine rQ (ak hsm rfl rfl (hJ rfl trivial DLe.re (aj ab)) (.inl rfl) (fun _=>rfl)) ?_;refine zD ?_;refine rP ?_;refine rQ (ak cF rfl rfl ab (.inl rfl) (fun _=>rfl)) ?_;refine rQ iU ?_;refine rC<|zT ?_
  exact⟨trivial,[],lf⟩
end Go.Proofs.YtpjiiolnfbfcbaaGreatDoor
namespace Go.Proofs.YtpjiiolnfbfcbaaGreatDoor
open Go.Eng Go.Plain
set_option maxHeartbeats 32000000
set_option maxRecDepth 20000
structure OrdS (s:RdS):Prop where
 blen:s.busy.length=8
 rd:0≤s.read
 inv:∀(i:Nat) o,s.all[i]?=some o→0≤o.client∧0≤o.invoked∧o.invoked<s.read∧o.era≤s.era∧(o.returned = -1∨o.invoked<o.returned∧o.returned<s.read)
 lt:∀(i j:Nat) a b,i<j→s.all[i]?=some a→s.all[j]?=some b→a.invoked<b.invoked∧a.era≤b.era
 bz:∀(i:Nat) o,s.all[i]?=some o→o.returned = -1→o.era=s.era→s.busy[o.client.toNat]?=some ((i:Int)+1)
 bo:∀(c k:Nat),s.busy[c]?=some ((k:Int)+1)→∃o,s.all[k]?=some o∧o.returned = -1∧o.client.toNat=c∧o.era=s.era
 same:∀(i j:Nat) a b,i<j→s.all[i]?=some a→s.all[j]?=some b→a.client=b.client→a.era=b.era→0≤a.returned∧a.returned<b.invoked
theorem ord0:OrdS rd0:=⟨rfl,Int.le_refl _,fun i o h=>by simp[rd0]at h,fun i j a b _ h=>by simp[rd0]at h,fun i o h=>by simp[rd0]at h,fun c k h=>by
  exfalso
  simp only[rd0,cu]at h
  have:=List.mem_of_getElem? h
  simp at this
  omega,fun i j a b _ h=>by simp[rd0]at h⟩
theorem gF {α:Type} {l:List α} {x y:α} {i:Nat} (h:(l++[x])[i]?=some y):l[i]?=some y∨i=l.length∧y=x:=by
 rcases Nat.lt_or_ge i l.length with hl | hl
 ·rw[List.getElem?_append_left hl]at h; exact .inl h
 ·rw[List.getElem?_append_right hl]at h
  have h0:i-l.length=0:=by have:=(List.getElem?_eq_some_iff.1 h).1; simpa using this
  rw[h0]at h
  simp only[List.getElem?_cons_zero,Option.some.injEq]at h
  exact .inr ⟨by omega,h.symm⟩
theorem OrdS.next {s:RdS} {n:Nat} {x:HEv} (hs:s.Ok n) (S:OrdS s) (ht:(ba s x).2=true):OrdS (ba s x).1:=by
 rcases iQ ht with ⟨k1,hi⟩ | ⟨k2,hi⟩ | ⟨k3,hi⟩
 ·obtain⟨c0,c8,hb,_,_,_⟩:=j2 hi
  rw[fK k1 hi]
  have hbl:=S.blen
  have hrd:=S.rd
  have old:∀(i:Nat) o,s.all[i]?=some o→o.client=x.client→o.era=s.era→o.returned ≠ -1:=fun i o h hc he hr=>by
   have:=S.bz i o h hr he
   rw[hc,hb]at this
   simp only[Option.some.injEq]at this
   omega
  refine⟨by simp[hbl],by show 0≤s.read+1; omega,fun i o h=>?_,fun i j a b hij ha hb'=>?_,fun i o h hr he=>?_,fun c k h=>?_,fun i j a b hij ha hb' hc he=>?_⟩
  ·rcases gF h with h | ⟨_,rfl⟩
   ·obtain⟨g0,g1,g2,g3,g4⟩:=S.inv i o h
    refine⟨g0,g1,by show _<s.read+1; omega,g3,?_⟩
    rcases g4 with g4 | g4
    ·exact .inl g4
    ·exact .inr ⟨g4.1,by show _<s.read+1; omega⟩
   ·exact⟨c0,hrd,by show s.read<s.read+1; omega,Int.le_refl _,.inl rfl⟩
  ·rcases gF hb' with hb' | ⟨hj,rfl⟩
   ·have hi':i<s.all.length:=by have:=(List.getElem?_eq_some_iff.1 hb').1; omega
    simp only[List.getElem?_append_left hi']at ha
    exact S.lt i j a b hij ha hb'
   ·have hi':i<s.all.length:=by omega
    simp only[List.getElem?_append_left hi']at ha
    obtain⟨_,_,g2,g3,_⟩:=S.inv i a ha
    exact⟨g2,g3⟩
  ·rcases gF h with h | ⟨hj,rfl⟩
   ·have hne:o.client≠x.client:=fun hc=>old i o h hc he hr
    obtain⟨g0,_⟩:=S.inv i o h
    show (s.busy.set _ _)[_]?=_
    rw[List.getElem?_set_ne (by omega)]
    exact S.bz i o h hr he
   ·subst hj
    show (s.busy.set _ _)[_]?=_
    rw[List.getElem?_set_self (by omega)]
  ·simp only at h
   by_cases hc:x.client.toNat=c
   ·subst hc
    rw[List.getElem?_set_self (by omega)]at h
    have hk:s.all.length=k:=by simp only[Option.some.injEq]at h; omega
    subst hk
    exact⟨_,by rw[List.getElem?_append_right (Nat.le_refl _),Nat.sub_self]; rfl,rfl,rfl,rfl⟩
   ·rw[List.getElem?_set_ne hc]at h
    obtain⟨o,h1,h2⟩:=S.bo c k h
    exact⟨o,iu h1,h2⟩
  ·rcases gF hb' with hb' | ⟨hj,rfl⟩
   ·have hi':i<s.all.length:=by have:=(List.getElem?_eq_some_iff.1 hb').1; omega
    simp only[List.getElem?_append_left hi']at ha
    exact S.same i j a b hij ha hb' hc he
   ·have hi':i<s.all.length:=by omega
    simp only[List.getElem?_append_left hi']at ha
    have h1:=old i a ha hc he
    obtain⟨_,g1,_,_,g4⟩:=S.inv i a ha
    rcases g4 with g4 | g4
    ·exact absurd g4 h1
    ·exact⟨by omega,g4.2⟩
 ·have hbl:=S.blen
  have hrd:=S.rd
  obtain⟨c0,c8,_,_,b,o,hb,hb0,hbo,hop,_⟩:=jQ hs hi
  rw[fJ k2 hi hb hop]
  obtain⟨k,hk⟩:∃k:Nat,b=(k:Int)+1:=⟨(b-1).toNat,by omega⟩
  subst hk
  have hkk:((k:Int)+1-1).toNat=k:=by omega
  rw[hkk]at hbo ⊢
  obtain⟨o',ho',hor,hoc,hoe⟩:=S.bo _ _ hb
  rw[hbo]at ho'
  cases ho'
  have hkl:=(List.getElem?_eq_some_iff.1 hbo).1
  obtain⟨q0,q1,q2,q3,q4⟩:=S.inv k o hbo
  have get:∀(i:Nat) a,(s.all.set k { o with returned:=s.read,value:=x.value,err:=x.err })[i]?=some a→i=k∧a = { o with returned:=s.read,value:=x.value,err:=x.err }∨i≠k∧s.all[i]?=some a:=fun i a h=>by
   by_cases e:k=i
   ·subst e
    rw[List.getElem?_set_self hkl]at h
    cases h
    exact .inl ⟨rfl,rfl⟩
   ·rw[List.getElem?_set_ne e]at h
    exact .inr ⟨fun e'=>e e'.symm,h⟩
  refine⟨by simp[hbl],by show 0≤s.read+1; omega,fun i a h=>?_,fun i j a b hij ha hb'=>?_,fun i a h hr he=>?_,fun c m h=>?_,fun i j a b hij ha hb' hc he=>?_⟩
  ·rcases get i a h with ⟨_,rfl⟩ | ⟨_,h⟩
   ·exact⟨q0,q1,by show o.invoked<s.read+1; omega,q3,.inr ⟨q2,by show s.read<s.read+1; omega⟩⟩
   ·obtain⟨g0,g1,g2,g3,g4⟩:=S.inv i a h
    refine⟨g0,g1,by show _<s.read+1; omega,g3,?_⟩
    rcases g4 with g4 | g4
    ·exact .inl g4
    ·exact .inr ⟨g4.1,by show _<s.read+1; omega⟩
  ·have e1:∃a',s.all[i]?=some a'∧a'.invoked=a.invoked∧a'.era=a.era:=by
    rcases get i a ha with ⟨rfl,rfl⟩ | ⟨_,h⟩
    ·exact⟨o,hbo,rfl,rfl⟩
    ·exact⟨a,h,rfl,rfl⟩
   have e2:∃b',s.all[j]?=some b'∧b'.invoked=b.invoked∧b'.era=b.era:=by
    rcases get j b hb' with ⟨rfl,rfl⟩ | ⟨_,h⟩
    ·exact⟨o,hbo,rfl,rfl⟩
    ·exact⟨b,h,rfl,rfl⟩
   obtain⟨a',h1,h2,h3⟩:=e1
   obtain⟨b',h4,h5,h6⟩:=e2
   have:=S.lt i j a' b' hij h1 h4
   rw[h2,h3,h5,h6]at this
   exact this
  ·rcases get i a h with ⟨_,rfl⟩ | ⟨hik,h⟩
   ·have:s.read = -1:=hr
    omega
   ·have h1:=S.bz i a h hr he
    show (s.busy.set _ _)[_]?=_
    rw[List.getElem?_set_ne fun e=>by
     rw[←e,hb]at h1
     simp only[Option.some.injEq]at h1
     omega]
    exact h1
  ·simp only at h
   by_cases hc:x.client.toNat=c
   ·subst hc
    rw[List.getElem?_set_self (by omega)]at h
    simp only[Option.some.injEq]at h
    omega
   ·rw[List.getElem?_set_ne hc]at h
    obtain⟨a,h1,h2,h3,h4⟩:=S.bo c m h
    refine⟨a,?_,h2,h3,h4⟩
    show (s.all.set _ _)[_]?=_
    rw[List.getElem?_set_ne fun e=>?_]
    ·exact h1
    ·subst e
     rw[hbo]at h1
     cases h1
     exact hc (hoc.symm.trans h3)
  ·rcases get j b hb' with ⟨rfl,rfl⟩ | ⟨_,h4⟩
   ·rcases get i a ha with ⟨rfl,rfl⟩ | ⟨_,h1⟩
    ·omega
    ·exact S.same i j a o hij h1 hbo hc he
   ·rcases get i a ha with ⟨rfl,rfl⟩ | ⟨_,h1⟩
    ·have:=(S.same i j o b hij hbo h4 hc he).1
     omega
    ·exact S.same i j a b hij h1 h4 hc he
 ·rw[fU k3]
  have hrd:=S.rd
  refine⟨rfl,by show 0≤s.read+1; omega,fun i o h=>?_,S.lt,fun i o h hr he=>?_,fun c k h=>?_,S.same⟩
  ·obtain⟨g0,g1,g2,g3,g4⟩:=S.inv i o h
   refine⟨g0,g1,by show _<s.read+1; omega,by show _≤s.era+1; omega,?_⟩
   rcases g4 with g4 | g4
   ·exact .inl g4
   ·exact .inr ⟨g4.1,by show _<s.read+1; omega⟩
  ·obtain⟨_,_,_,g3,_⟩:=S.inv i o h
   have he:o.era=s.era+1:=he
   omega
  ·exfalso
   simp only[cu]at h
   have:=List.mem_of_getElem? h
   simp at this
   omega
theorem wi:∀(h:List HEv) (s:RdS) (n i:Nat),s.Ok n→OrdS s→(goS s h i).2<0→OrdS (goS s h i).1
 | [],s,n,i,_,S,_=>by simpa[goS]using S
 | x::h,s,n,i,hs,S,hg=>by
  rw[dJ]at hg ⊢
  by_cases ht:(ba s x).2=true
  ·rw[if_pos ht]at hg ⊢
   exact wi h _ (n+1) (i+1) (hs.next x) (S.next hs ht) hg
  ·rw[if_neg ht]at hg
   simp only at hg
   omega
structure BefL (l:List HOp):Prop where
 lt:∀(i j:Nat) a b,l[i]?=some a→l[j]?=some b→befB a b=true→i<j
 same:∀(i j:Nat) a b,i<j→l[i]?=some a→l[j]?=some b→a.client=b.client→befB a b=true
 trans:∀(i j k:Nat) a b c,l[i]?=some a→l[j]?=some b→l[k]?=some c→befB a b=true→befB b c=true→befB a c=true
theorem OrdS.bef {s:RdS} (S:OrdS s):BefL s.all:=by
 refine⟨fun i j a b ha hb h=>?_,fun i j a b hij ha hb hc=>?_,fun i j k a b c ha hb hc h1 h2=>?_⟩
 ·obtain⟨_,a1,a2,a3,a4⟩:=S.inv i a ha
  rcases Nat.lt_or_ge i j with hij | hij
  ·exact hij
  exfalso
  rcases Nat.eq_or_lt_of_le hij with e | hlt
  ·subst e
   rw[ha]at hb; cases hb
   simp only[befB,if_true,Bool.and_eq_true,decide_eq_true_eq]at h
   omega
  ·obtain⟨g1,g2⟩:=S.lt j i b a hlt hb ha
   unfold befB at h
   split at h
   ·simp only[Bool.and_eq_true,decide_eq_true_eq]at h; omega
   ·simp only[decide_eq_true_eq]at h; omega
 ·obtain⟨g1,g2⟩:=S.lt i j a b hij ha hb
  unfold befB
  split
  ·rename_i he
   obtain⟨g3,g4⟩:=S.same i j a b hij ha hb hc he
   simp only[Bool.and_eq_true,decide_eq_true_eq]
   exact⟨g3,g4⟩
  ·simp only[decide_eq_true_eq]; omega
 ·obtain⟨_,b1,b2,b3,b4⟩:=S.inv j b hb
  unfold befB at h1 h2 ⊢
  by_cases e1:a.era=b.era
  ·rw[if_pos e1]at h1
   simp only[Bool.and_eq_true,decide_eq_true_eq]at h1
   by_cases e2:b.era=c.era
   ·rw[if_pos e2]at h2
    simp only[Bool.and_eq_true,decide_eq_true_eq]at h2
    rw[if_pos (e1.trans e2)]
    simp only[Bool.and_eq_true,decide_eq_true_eq]
    omega
   ·rw[if_neg e2]at h2
    simp only[decide_eq_true_eq]at h2
    rw[if_neg (by omega)]
    simp only[decide_eq_true_eq]; omega
  ·rw[if_neg e1]at h1
   simp only[decide_eq_true_eq]at h1
   by_cases e2:b.era=c.era
   ·rw[if_neg (by omega)]
    simp only[decide_eq_true_eq]; omega
   ·rw[if_neg e2]at h2
    simp only[decide_eq_true_eq]at h2
    rw[if_neg (by omega)]
    simp only[decide_eq_true_eq]; omega
end Go.Proofs.YtpjiiolnfbfcbaaGreatDoor
namespace Go.Proofs.YtpjiiolnfbfcbaaGreatDoor
open Go.Eng Go.Plain
set_option maxHeartbeats 32000000
set_option maxRecDepth 20000
set_option linter.unusedVariables false
attribute [local irreducible] WC RegS RegD SeqQ BlkQ ScoQ RegK CutK Sat SatN FnIs LoopQ an OpIs
theorem meet {P G:Prop} (use:(True→P)→G) (rest:P):G:=use fun _=>rest
theorem yn (z:List XE):BefL (opsH (hOf z)):=by
 obtain⟨hl,hc,hok,hwf⟩:=gq z
 have hgo:=(sG (h:=hOf z) (by rw[hc])).2.1
 rw[opsH,if_pos (by rw[hc]),rdH,if_neg (by omega)]
 exact (wi (hOf z) rd0 0 0 gL ord0 hgo).bef
theorem oU (z:List XE) (a b:HOp):FnIs Tryz.prog 12 [.d (g8 z),.d (b8 a),.d (b8 b)] [] (.bool true) []:=by
 have hx:=mX z
 have B:=yn z
 obtain⟨hl,hc,hok,hwf⟩:=gq z
 generalize hOf z=h at *
 have hal:=p6 (h:=h) (by rw[hc])
 have hol:=jT h
 have hop:=l8 h (by omega) (by rw[hal]; omega)
 have hoe:opsH h=opsR h:=by rw[opsH,if_pos (by rw[hc]),hal]
 rw[hoe]at hop B
 rw[hc]at hop
 generalize opsR h=l at *
 have hab:=eN a b
 have hrab:=mz a b
 refine au aa Tryz.func12 rfl rfl rfl ?_
 apply meet
 ·intro rest
  cases hv:befB a b
  ·rw[hv]at hab hrab
   rw[if_neg (by decide)]at hrab
   refine sR ?_;iterate 3 refine rN ?_
   refine rC<|nQ<|bk ?_;refine aE (by kernel_rfl) ?_;refine dQ [4] [72] iM ?_;refine dQ [5] [80] iM ?_;refine dQ [13,14] [] (ak hab rfl rfl (aj (aj ab)) (.inl rfl) (fun _=>rfl)) ?_;refine dQ [4] [72] iM ?_;refine dQ [5] [80] iM ?_;refine dQ [16,17] [] (ak hrab rfl rfl (aj (aj ab)) (.inl rfl) (fun _=>rfl)) ?_;refine dC [18] [] ?_;refine dC [15,19] [] ?_;refine aB (by kernel_rfl)<|aM ?_;refine wG<|kS ?_;refine lc (env':=[(3,.ptr 64 [])]) (h':=[(64,some (.box 50 (.d (g8 z))))]) 72 [(64,some 64)] (lg zl ⟨zR,trivial⟩) ?_
   exact rest trivial
  ·rw[hv]at hab hrab
   rw[if_pos rfl]at hrab
   refine sR ?_;iterate 3 refine rN ?_
   refine rC<|nQ<|bk ?_;refine aE (by kernel_rfl) ?_;refine dQ [4] [72] iM ?_;refine dQ [5] [80] iM ?_;refine dQ [13,14] [] (ak hab rfl rfl (aj (aj ab)) (.inl rfl) (fun _=>rfl)) ?_;refine dQ [4] [72] iM ?_;refine dQ [5] [80] iM ?_;refine dQ [16,17] [] (ak hrab rfl rfl (aj (aj ab)) (.inl rfl) (fun _=>rfl)) ?_;refine dC [18] [] ?_;refine dC [15,19] [] ?_;refine aB (by kernel_rfl)<|aM ?_;refine wG<|kS ?_;refine lc (env':=[(3,.ptr 64 [])]) (h':=[(64,some (.box 50 (.d (g8 z))))]) 72 [(64,some 64)] (lg zl ⟨zR,trivial⟩) ?_
   exact rest trivial
 refine sR<|rQ iM ?_;refine rQ (ak hx rfl rfl (aj ab) (.inl rfl) (fun _=>rfl)) ?_;refine rQ (ak hop rfl rfl (aj ab) (.inl rfl) (fun _=>rfl)) ?_
 iterate 5 refine rC ?_
 refine zW<|zD ?_;refine zJ<|kS<|qR ?_;refine rC<|zP ?_
 refine wc_inv (fun i:Nat=>⟨[(7,.d (lG l)),(9,.int .i64 (i:Nat))],[],72,Tryz.f12.ntmps,64⟩) (fun i=>i≤l.length) (fun i=>l.length-i) 0 [] (Nat.zero_le _)
  (lg zk trivial) ?_
 intro i hi
 refine bG ?_
 by_cases hlt:i<l.length
 ·have c1:decide ((i:Int)<(l.length:Int))=true:=dT (by omega)
  obtain⟨x,hx⟩:∃e,l[i]?=some e:=⟨_,List.getElem?_eq_getElem hlt⟩
  have hgi:l[((i:Int)).toNat]?=some x:=by rw[Int.toNat_natCast]; exact hx
  refine qR<|zD ?_;refine rQ (bt aa rfl rfl) ?_;refine rC ?_;refine zI<|zQ<|zS ?_;refine rC<|nS<|aZ ?_
  refine wc_inv (fun j:Nat=>⟨[(7,.d (lG l)),(9,.int .i64 (i:Nat)),(10,.int .i64 (j:Nat))],[],72,Tryz.f12.ntmps,64⟩) (fun j=>j≤l.length) (fun j=>l.length-j) 0 [] (Nat.zero_le _)
   (lg zj trivial) ?_
  intro j hj
  refine bG ?_
  by_cases hjl:j<l.length
  ·have c2:decide ((j:Int)<(l.length:Int))=true:=dT (by omega)
   obtain⟨y,hy⟩:∃e,l[j]?=some e:=⟨_,List.getElem?_eq_getElem hjl⟩
   have hgj:l[((j:Int)).toNat]?=some y:=by rw[Int.toNat_natCast]; exact hy
   have hij:=eN x y
   have hrij:=mz x y
   have hlt2:=B.lt i j x y hx hy
   have hsame:=B.same i j x y
   cases hq:befB x y with
   | true =>
    rw[hq]at hij hrij hlt2
    rw[if_pos rfl]at hrij
    have hlt2:=hlt2 rfl
    have c3:decide ((j:Int)≤(i:Int))=false:=dF (by omega)
    have c4:decide ((i:Int)<(j:Int))=true:=dT (by omega)
    obtain⟨c,hcc⟩:∃c,decide (x.client=y.client)=c:=⟨_,rfl⟩
    apply meet
    ·intro rest
     cases c
     ·refine qR<|zD ?_;refine rQ (bt aa rfl rfl) ?_;refine rC ?_;refine zI<|zQ<|aZ<|bk ?_;refine aE (by kernel_rfl) ?_;refine dC [7] [] ?_;refine dC [9] [] ?_;refine dQ [41,42] [] (aK (xs:=l) aa rfl rfl rfl rfl rfl (by omega) hgi) ?_;refine dQ [43] [] iL ?_;refine dC [7] [] ?_;refine dC [10] [] ?_;refine dQ [45,46] [] (aK (xs:=l) aa rfl rfl rfl rfl rfl (by omega) hgj) ?_;refine dQ [47] [] iL ?_;refine dQ [44,48] [] (ak hij rfl rfl (aj (aj ab)) (.inl rfl) (fun _=>rfl)) ?_;refine dC [49] [] ?_;refine aB (by kernel_rfl)<|aM ?_;iterate 2 refine bk ?_
      refine aE (by kernel_rfl) ?_;refine dC [11] [] ?_;refine dC [7] [] ?_;refine dC [9] [] ?_;refine dQ [51,52] [] (aK (xs:=l) aa rfl rfl rfl rfl rfl (by omega) hgi) ?_;refine dQ [53] [] iL ?_;refine dC [7] [] ?_;refine dC [10] [] ?_;refine dQ [55,56] [] (aK (xs:=l) aa rfl rfl rfl rfl rfl (by omega) hgj) ?_;refine dQ [57] [] iL ?_;refine dQ [54,58] [] (ak hrij rfl rfl (aj (aj ab)) (.inl rfl) (fun _=>rfl)) ?_;refine dC [59] [] ?_;refine dC [50,60] [] ?_;refine dC [61] [] ?_;refine ae [62,11] [] rfl rfl rfl rfl (aw aa (fun K hk=>hk)) ?_;refine ae [62,63] [] rfl rfl rfl rfl (aw aa (fun K hk=>hk)) ?_;refine ae [64,10] [] rfl rfl rfl rfl (aw aa (fun K hk=>hk)) ?_;refine ae [64,9] [] rfl rfl rfl rfl (aw aa (fun K hk=>hk)) ?_;refine ae [64,65,66] [] rfl rfl rfl rfl (aw aa (fun K hk=>hk)) ?_;refine ae [62,64,67] [] rfl rfl rfl rfl (ii aa rfl rfl rfl) ?_;refine dQ [62,68] [] iG ?_;refine dC [69] [] ?_;refine ae [70,9] [] rfl rfl (by assumption) rfl (aw aa (fun K hk=>hk)) ?_;refine ae [70,10] [] rfl rfl (by assumption) rfl (aw aa (fun K hk=>hk)) ?_;refine ae [70,71,72] [] rfl rfl (by assumption) rfl (aw aa (fun K hk=>hk)) ?_;refine ae [70,73] [] rfl rfl (by assumption) rfl (aw aa (fun K hk=>hk)) ?_;refine ae [74,7] [] rfl rfl (by assumption) rfl (aw aa (fun K hk=>hk)) ?_;refine ae [74,9] [] rfl rfl (by assumption) rfl (aw aa (fun K hk=>hk)) ?_;refine ae [74,75,76] [] rfl rfl (by assumption) rfl (aK (xs:=l) aa rfl rfl rfl rfl rfl (by omega) hgi) ?_;refine ae [74,77] [] rfl rfl (by assumption) rfl (aw aa (fun K hk=>hk)) ?_;refine ae [74,78] [] rfl rfl (by assumption) rfl (cT aa rfl rfl) ?_;refine ae [74,7] [] rfl rfl (by assumption) rfl (aw aa (fun K hk=>hk)) ?_;refine ae [74,10] [] rfl rfl (by assumption) rfl (aw aa (fun K hk=>hk)) ?_;refine ae [74,80,81] [] rfl rfl (by assumption) rfl (aK (xs:=l) aa rfl rfl rfl rfl rfl (by omega) hgj) ?_;refine ae [74,82] [] rfl rfl (by assumption) rfl (aw aa (fun K hk=>hk)) ?_;refine ae [74,83] [] rfl rfl (by assumption) rfl (cT aa rfl rfl) ?_;refine ae [74,79,84] [] rfl rfl (by assumption) rfl (aw aa (fun K hk=>hk)) ?_;refine ae [70,74,85] [] rfl rfl (by assumption) rfl (ii aa rfl (by assumption) rfl) ?_;refine ae [70,86] [] rfl rfl (by assumption) rfl (aw aa (fun K hk=>hk)) ?_;refine ai [87,11] rfl rfl (by assumption) rfl ?_;refine ai [87,88] rfl rfl (by assumption) rfl ?_;refine ae [70,87,89] [] rfl rfl (by assumption) rfl (ij aa rfl (by assumption) rfl) ?_;refine dQ [70,90] [] iF ?_;refine aB (by kernel_rfl)<|aM ?_;refine wG<|kS ?_;refine lc (env':=[(7,.d (lG l)),(9,.int .i64 (i:Nat)),(10,.int .i64 (j:Nat)),(11,.bool true)]) (h':=[]) 72 [] (lg zi trivial) ?_
      exact rest trivial
     ·refine qR<|zD ?_;refine rQ (bt aa rfl rfl) ?_;refine rC ?_;refine zI<|zQ<|aZ<|bk ?_;refine aE (by kernel_rfl) ?_;refine dC [7] [] ?_;refine dC [9] [] ?_;refine dQ [41,42] [] (aK (xs:=l) aa rfl rfl rfl rfl rfl (by omega) hgi) ?_;refine dQ [43] [] iL ?_;refine dC [7] [] ?_;refine dC [10] [] ?_;refine dQ [45,46] [] (aK (xs:=l) aa rfl rfl rfl rfl rfl (by omega) hgj) ?_;refine dQ [47] [] iL ?_;refine dQ [44,48] [] (ak hij rfl rfl (aj (aj ab)) (.inl rfl) (fun _=>rfl)) ?_;refine dC [49] [] ?_;refine aB (by kernel_rfl)<|aM ?_;iterate 2 refine bk ?_
      refine aE (by kernel_rfl) ?_;refine dC [11] [] ?_;refine dC [7] [] ?_;refine dC [9] [] ?_;refine dQ [51,52] [] (aK (xs:=l) aa rfl rfl rfl rfl rfl (by omega) hgi) ?_;refine dQ [53] [] iL ?_;refine dC [7] [] ?_;refine dC [10] [] ?_;refine dQ [55,56] [] (aK (xs:=l) aa rfl rfl rfl rfl rfl (by omega) hgj) ?_;refine dQ [57] [] iL ?_;refine dQ [54,58] [] (ak hrij rfl rfl (aj (aj ab)) (.inl rfl) (fun _=>rfl)) ?_;refine dC [59] [] ?_;refine dC [50,60] [] ?_;refine dC [61] [] ?_;refine ae [62,11] [] rfl rfl rfl rfl (aw aa (fun K hk=>hk)) ?_;refine ae [62,63] [] rfl rfl rfl rfl (aw aa (fun K hk=>hk)) ?_;refine ae [64,10] [] rfl rfl rfl rfl (aw aa (fun K hk=>hk)) ?_;refine ae [64,9] [] rfl rfl rfl rfl (aw aa (fun K hk=>hk)) ?_;refine ae [64,65,66] [] rfl rfl rfl rfl (aw aa (fun K hk=>hk)) ?_;refine ae [62,64,67] [] rfl rfl rfl rfl (ii aa rfl rfl rfl) ?_;refine dQ [62,68] [] iG ?_;refine dC [69] [] ?_;refine ae [70,9] [] rfl rfl (by assumption) rfl (aw aa (fun K hk=>hk)) ?_;refine ae [70,10] [] rfl rfl (by assumption) rfl (aw aa (fun K hk=>hk)) ?_;refine ae [70,71,72] [] rfl rfl (by assumption) rfl (aw aa (fun K hk=>hk)) ?_;refine ae [70,73] [] rfl rfl (by assumption) rfl (aw aa (fun K hk=>hk)) ?_;refine ae [74,7] [] rfl rfl (by assumption) rfl (aw aa (fun K hk=>hk)) ?_;refine ae [74,9] [] rfl rfl (by assumption) rfl (aw aa (fun K hk=>hk)) ?_;refine ae [74,75,76] [] rfl rfl (by assumption) rfl (aK (xs:=l) aa rfl rfl rfl rfl rfl (by omega) hgi) ?_;refine ae [74,77] [] rfl rfl (by assumption) rfl (aw aa (fun K hk=>hk)) ?_;refine ae [74,78] [] rfl rfl (by assumption) rfl (cT aa rfl rfl) ?_;refine ae [74,7] [] rfl rfl (by assumption) rfl (aw aa (fun K hk=>hk)) ?_;refine ae [74,10] [] rfl rfl (by assumption) rfl (aw aa (fun K hk=>hk)) ?_;refine ae [74,80,81] [] rfl rfl (by assumption) rfl (aK (xs:=l) aa rfl rfl rfl rfl rfl (by omega) hgj) ?_;refine ae [74,82] [] rfl rfl (by assumption) rfl (aw aa (fun K hk=>hk)) ?_;refine ae [74,83] [] rfl rfl (by assumption) rfl (cT aa rfl rfl) ?_;refine ae [74,79,84] [] rfl rfl (by assumption) rfl (aw aa (fun K hk=>hk)) ?_;refine ae [70,74,85] [] rfl rfl (by assumption) rfl (ii aa rfl (by assumption) rfl) ?_;refine ae [70,86] [] rfl rfl (by assumption) rfl (aw aa (fun K hk=>hk)) ?_;refine ae [87,11] [] rfl rfl (by assumption) rfl (aw aa (fun K hk=>hk)) ?_;refine ae [87,88] [] rfl rfl (by assumption) rfl (aw aa (fun K hk=>hk)) ?_;refine ae [70,87,89] [] rfl rfl (by assumption) rfl (ii aa rfl (by assumption) rfl) ?_;refine dQ [70,90] [] iF ?_;refine aB (by kernel_rfl)<|aM ?_;refine wG<|kS ?_;refine lc (env':=[(7,.d (lG l)),(9,.int .i64 (i:Nat)),(10,.int .i64 (j:Nat)),(11,.bool true)]) (h':=[]) 72 [] (lg zi trivial) ?_
      exact rest trivial
    refine sR<|rC<|zP ?_
    refine wc_inv (fun k:Nat=>⟨[(7,.d (lG l)),(9,.int .i64 (i:Nat)),(10,.int .i64 (j:Nat)),(11,.bool true),(12,.int .i64 (k:Nat))],[],72,Tryz.f12.ntmps,64⟩) (fun k=>k≤l.length) (fun k=>l.length-k) 0 [] (Nat.zero_le _)
     (lg zh trivial) ?_
    intro k hk
    refine bG ?_
    by_cases hkl:k<l.length
    ·have c6:decide ((k:Int)<(l.length:Int))=true:=dT (by omega)
     obtain⟨w,hw⟩:∃e,l[k]?=some e:=⟨_,List.getElem?_eq_getElem hkl⟩
     have hgk:l[((k:Int)).toNat]?=some w:=by rw[Int.toNat_natCast]; exact hw
     have hjk:=eN y w
     have hik:=eN x w
     cases hq2:befB y w with
     | true =>
      rw[hq2]at hjk
      rw[B.trans i j k x y w hx hy hw hq hq2]at hik
      refine qR<|zD ?_;refine rQ (bt aa rfl rfl) ?_;refine zD ?_;refine rO ?_;refine rC ?_;refine rQ iT ?_;refine zO<|zQ<|aZ<|bk ?_;refine aE (by kernel_rfl) ?_;refine dC [7] [] ?_;refine dC [10] [] ?_;refine dQ [101,102] [] (aK (xs:=l) aa rfl rfl rfl rfl rfl (by omega) hgj) ?_;refine dQ [103] [] iL ?_;refine dC [7] [] ?_;refine dC [12] [] ?_;refine dQ [105,106] [] (aK (xs:=l) aa rfl rfl rfl rfl rfl (by omega) hgk) ?_;refine dQ [107] [] iL ?_;refine dQ [104,108] [] (ak hjk rfl rfl (aj (aj ab)) (.inl rfl) (fun _=>rfl)) ?_;refine dC [109] [] ?_;refine ae [110,7] [] rfl rfl rfl rfl (aw aa (fun K hk=>hk)) ?_;refine ae [110,9] [] rfl rfl rfl rfl (aw aa (fun K hk=>hk)) ?_;refine ae [110,111,112] [] rfl rfl rfl rfl (aK (xs:=l) aa rfl rfl rfl rfl rfl (by omega) hgi) ?_;refine ae [110,113] [] rfl rfl rfl rfl (cT aa rfl rfl) ?_;refine ae [110,7] [] rfl rfl rfl rfl (aw aa (fun K hk=>hk)) ?_;refine ae [110,12] [] rfl rfl rfl rfl (aw aa (fun K hk=>hk)) ?_;refine ae [110,115,116] [] rfl rfl rfl rfl (aK (xs:=l) aa rfl rfl rfl rfl rfl (by omega) hgk) ?_;refine ae [110,117] [] rfl rfl rfl rfl (cT aa rfl rfl) ?_;refine ae [110,114,118] [] rfl rfl rfl rfl (ak hik rfl rfl (aj (aj ab)) (.inl rfl) (fun _=>rfl)) ?_;refine ae [110,119] [] rfl rfl rfl rfl (aw aa (fun K hk=>hk)) ?_;refine dQ [110,120] [] iU ?_;refine aB (by kernel_rfl)<|aM ?_;refine wG<|aL<|zC<|am ?_;refine rC ?_;refine rQ iD ?_;refine rC<|aA ?_
      exact aN (k+1) [] hkl (by omega) (lg zh trivial)
     | false =>
      rw[hq2]at hjk
      refine qR<|zD ?_;refine rQ (bt aa rfl rfl) ?_;refine zD ?_;refine rO ?_;refine rC ?_;refine rQ iT ?_;refine zO<|zQ<|aZ<|bk ?_;refine aE (by kernel_rfl) ?_;refine dC [7] [] ?_;refine dC [10] [] ?_;refine dQ [101,102] [] (aK (xs:=l) aa rfl rfl rfl rfl rfl (by omega) hgj) ?_;refine dQ [103] [] iL ?_;refine dC [7] [] ?_;refine dC [12] [] ?_;refine dQ [105,106] [] (aK (xs:=l) aa rfl rfl rfl rfl rfl (by omega) hgk) ?_;refine dQ [107] [] iL ?_;refine dQ [104,108] [] (ak hjk rfl rfl (aj (aj ab)) (.inl rfl) (fun _=>rfl)) ?_;refine dC [109] [] ?_;refine ai [110,7] rfl rfl rfl rfl ?_;refine ai [110,9] rfl rfl rfl rfl ?_;refine ai [110,111,112] rfl rfl rfl rfl ?_;refine ai [110,113] rfl rfl rfl rfl ?_;refine ai [110,7] rfl rfl rfl rfl ?_;refine ai [110,12] rfl rfl rfl rfl ?_;refine ai [110,115,116] rfl rfl rfl rfl ?_;refine ai [110,117] rfl rfl rfl rfl ?_;refine ai [110,114,118] rfl rfl rfl rfl ?_;refine ai [110,119] rfl rfl rfl rfl ?_;refine dQ [110,120] [] iG ?_;refine aB (by kernel_rfl)<|aM ?_;refine wG<|aL<|zC<|am ?_;refine rC ?_;refine rQ iD ?_;refine rC<|aA ?_
      exact aN (k+1) [] hkl (by omega) (lg zh trivial)
    ·have c6:decide ((k:Int)<(l.length:Int))=false:=dF (by omega)
     refine qR<|zD ?_;refine rQ (bt aa rfl rfl) ?_;refine zD ?_;refine rS ?_;refine rQ iF ?_;refine zJ<|cv<|ew<|fe<|eD<|zC<|am ?_;refine rC ?_;refine rQ iD ?_;refine rC<|aA ?_
     exact aN (j+1) [] hjl (by omega) (lg zj trivial)
   | false =>
    rw[hq]at hij hrij
    rw[if_neg (by decide)]at hrij
    have c0:decide ((0:Int)<(l.length:Int))=true:=dT (by omega)
    by_cases hij2:i<j
    ·have c4:decide ((i:Int)<(j:Int))=true:=dT (by omega)
     have c5:decide (x.client=y.client)=false:=dF fun e=>by
      have:=hsame hij2 hx hy e
      rw[hq]at this; cases this
     refine qR<|zD ?_;refine rQ (bt aa rfl rfl) ?_;refine rC ?_;refine zI<|zQ<|aZ<|bk ?_;refine aE (by kernel_rfl) ?_;refine dC [7] [] ?_;refine dC [9] [] ?_;refine dQ [41,42] [] (aK (xs:=l) aa rfl rfl rfl rfl rfl (by omega) hgi) ?_;refine dQ [43] [] iL ?_;refine dC [7] [] ?_;refine dC [10] [] ?_;refine dQ [45,46] [] (aK (xs:=l) aa rfl rfl rfl rfl rfl (by omega) hgj) ?_;refine dQ [47] [] iL ?_;refine dQ [44,48] [] (ak hij rfl rfl (aj (aj ab)) (.inl rfl) (fun _=>rfl)) ?_;refine dC [49] [] ?_;refine aB (by kernel_rfl)<|aM ?_;iterate 2 refine bk ?_
     refine aE (by kernel_rfl) ?_;refine dC [11] [] ?_;refine dC [7] [] ?_;refine dC [9] [] ?_;refine dQ [51,52] [] (aK (xs:=l) aa rfl rfl rfl rfl rfl (by omega) hgi) ?_;refine dQ [53] [] iL ?_;refine dC [7] [] ?_;refine dC [10] [] ?_;refine dQ [55,56] [] (aK (xs:=l) aa rfl rfl rfl rfl rfl (by omega) hgj) ?_;refine dQ [57] [] iL ?_;refine dQ [54,58] [] (ak hrij rfl rfl (aj (aj ab)) (.inl rfl) (fun _=>rfl)) ?_;refine dC [59] [] ?_;refine dC [50,60] [] ?_;refine dC [61] [] ?_;refine ae [62,11] [] rfl rfl rfl rfl (aw aa (fun K hk=>hk)) ?_;refine ae [62,63] [] rfl rfl rfl rfl (aw aa (fun K hk=>hk)) ?_;refine ai [64,10] rfl rfl rfl rfl ?_;refine ai [64,9] rfl rfl rfl rfl ?_;refine ai [64,65,66] rfl rfl rfl rfl ?_;refine ae [62,64,67] [] rfl rfl rfl rfl (ij aa rfl rfl rfl) ?_;refine dQ [62,68] [] iG ?_;refine dC [69] [] ?_;refine ae [70,9] [] rfl rfl rfl rfl (aw aa (fun K hk=>hk)) ?_;refine ae [70,10] [] rfl rfl rfl rfl (aw aa (fun K hk=>hk)) ?_;refine ae [70,71,72] [] rfl rfl rfl rfl (aw aa (fun K hk=>hk)) ?_;refine ae [70,73] [] rfl rfl rfl rfl (aw aa (fun K hk=>hk)) ?_;refine ae [74,7] [] rfl rfl (by assumption) rfl (aw aa (fun K hk=>hk)) ?_;refine ae [74,9] [] rfl rfl (by assumption) rfl (aw aa (fun K hk=>hk)) ?_;refine ae [74,75,76] [] rfl rfl (by assumption) rfl (aK (xs:=l) aa rfl rfl rfl rfl rfl (by omega) hgi) ?_;refine ae [74,77] [] rfl rfl (by assumption) rfl (aw aa (fun K hk=>hk)) ?_;refine ae [74,78] [] rfl rfl (by assumption) rfl (cT aa rfl rfl) ?_;refine ae [74,7] [] rfl rfl (by assumption) rfl (aw aa (fun K hk=>hk)) ?_;refine ae [74,10] [] rfl rfl (by assumption) rfl (aw aa (fun K hk=>hk)) ?_;refine ae [74,80,81] [] rfl rfl (by assumption) rfl (aK (xs:=l) aa rfl rfl rfl rfl rfl (by omega) hgj) ?_;refine ae [74,82] [] rfl rfl (by assumption) rfl (aw aa (fun K hk=>hk)) ?_;refine ae [74,83] [] rfl rfl (by assumption) rfl (cT aa rfl rfl) ?_;refine ae [74,79,84] [] rfl rfl (by assumption) rfl (aw aa (fun K hk=>hk)) ?_;refine ae [70,74,85] [] rfl rfl rfl rfl (ii aa rfl (by assumption) rfl) ?_;refine ae [70,86] [] rfl rfl rfl rfl (aw aa (fun K hk=>hk)) ?_;refine ai [87,11] rfl rfl (by assumption) rfl ?_;refine ai [87,88] rfl rfl (by assumption) rfl ?_;refine ae [70,87,89] [] rfl rfl rfl rfl (ij aa rfl (by assumption) rfl) ?_;refine dQ [70,90] [] iG ?_;refine aB (by kernel_rfl)<|aM ?_;refine wG<|kS<|sR ?_;refine rC<|zP ?_;refine jN<|qR ?_;refine zD ?_;refine rQ (bt aa rfl rfl) ?_;refine zD ?_;refine rO ?_;refine rC ?_;refine rQ iT ?_;refine zJ<|cv<|ew<|fe<|eD<|zC<|am ?_;refine rC ?_;refine rQ iD ?_;refine rC<|aA ?_
     exact aN (j+1) [] hjl (by omega) (lg zj trivial)
    ·have c4:decide ((i:Int)<(j:Int))=false:=dF (by omega)
     refine qR<|zD ?_;refine rQ (bt aa rfl rfl) ?_;refine rC ?_;refine zI<|zQ<|aZ<|bk ?_;refine aE (by kernel_rfl) ?_;refine dC [7] [] ?_;refine dC [9] [] ?_;refine dQ [41,42] [] (aK (xs:=l) aa rfl rfl rfl rfl rfl (by omega) hgi) ?_;refine dQ [43] [] iL ?_;refine dC [7] [] ?_;refine dC [10] [] ?_;refine dQ [45,46] [] (aK (xs:=l) aa rfl rfl rfl rfl rfl (by omega) hgj) ?_;refine dQ [47] [] iL ?_;refine dQ [44,48] [] (ak hij rfl rfl (aj (aj ab)) (.inl rfl) (fun _=>rfl)) ?_;refine dC [49] [] ?_;refine aB (by kernel_rfl)<|aM ?_;iterate 2 refine bk ?_
     refine aE (by kernel_rfl) ?_;refine dC [11] [] ?_;refine dC [7] [] ?_;refine dC [9] [] ?_;refine dQ [51,52] [] (aK (xs:=l) aa rfl rfl rfl rfl rfl (by omega) hgi) ?_;refine dQ [53] [] iL ?_;refine dC [7] [] ?_;refine dC [10] [] ?_;refine dQ [55,56] [] (aK (xs:=l) aa rfl rfl rfl rfl rfl (by omega) hgj) ?_;refine dQ [57] [] iL ?_;refine dQ [54,58] [] (ak hrij rfl rfl (aj (aj ab)) (.inl rfl) (fun _=>rfl)) ?_;refine dC [59] [] ?_;refine dC [50,60] [] ?_;refine dC [61] [] ?_;refine ae [62,11] [] rfl rfl rfl rfl (aw aa (fun K hk=>hk)) ?_;refine ae [62,63] [] rfl rfl rfl rfl (aw aa (fun K hk=>hk)) ?_;refine ai [64,10] rfl rfl rfl rfl ?_;refine ai [64,9] rfl rfl rfl rfl ?_;refine ai [64,65,66] rfl rfl rfl rfl ?_;refine ae [62,64,67] [] rfl rfl rfl rfl (ij aa rfl rfl rfl) ?_;refine dQ [62,68] [] iG ?_;refine dC [69] [] ?_;refine ae [70,9] [] rfl rfl rfl rfl (aw aa (fun K hk=>hk)) ?_;refine ae [70,10] [] rfl rfl rfl rfl (aw aa (fun K hk=>hk)) ?_;refine ae [70,71,72] [] rfl rfl rfl rfl (aw aa (fun K hk=>hk)) ?_;refine ae [70,73] [] rfl rfl rfl rfl (aw aa (fun K hk=>hk)) ?_;refine ai [74,7] rfl rfl (by assumption) rfl ?_;refine ai [74,9] rfl rfl (by assumption) rfl ?_;refine ai [74,75,76] rfl rfl (by assumption) rfl ?_;refine ai [74,77] rfl rfl (by assumption) rfl ?_;refine ai [74,78] rfl rfl (by assumption) rfl ?_;refine ai [74,7] rfl rfl (by assumption) rfl ?_;refine ai [74,10] rfl rfl (by assumption) rfl ?_;refine ai [74,80,81] rfl rfl (by assumption) rfl ?_;refine ai [74,82] rfl rfl (by assumption) rfl ?_;refine ai [74,83] rfl rfl (by assumption) rfl ?_;refine ai [74,79,84] rfl rfl (by assumption) rfl ?_;refine ae [70,74,85] [] rfl rfl rfl rfl (ij aa rfl (by assumption) rfl) ?_;refine ae [70,86] [] rfl rfl rfl rfl (aw aa (fun K hk=>hk)) ?_;refine ai [87,11] rfl rfl rfl rfl ?_;refine ai [87,88] rfl rfl rfl rfl ?_;refine ae [70,87,89] [] rfl rfl rfl rfl (ij aa rfl rfl rfl) ?_;refine dQ [70,90] [] iG ?_;refine aB (by kernel_rfl)<|aM ?_;refine wG<|kS<|sR ?_;refine rC<|zP ?_;refine jN<|qR ?_;refine zD ?_;refine rQ (bt aa rfl rfl) ?_;refine zD ?_;refine rO ?_;refine rC ?_;refine rQ iT ?_;refine zJ<|cv<|ew<|fe<|eD<|zC<|am ?_;refine rC ?_;refine rQ iD ?_;refine rC<|aA ?_
     exact aN (j+1) [] hjl (by omega) (lg zj trivial)
  ·have c2:decide ((j:Int)<(l.length:Int))=false:=dF (by omega)
   refine qR<|zD ?_;refine rQ (bt aa rfl rfl) ?_;refine rC ?_;refine zG<|cv<|ew<|fe<|eD<|zC<|am ?_;refine rC ?_;refine rQ iD ?_;refine rC<|aA ?_
   exact aN (i+1) [] hlt (by omega) (lg zk trivial)
 ·have c1:decide ((i:Int)<(l.length:Int))=false:=dF (by omega)
  refine qR<|zD ?_;refine rQ (bt aa rfl rfl) ?_;refine rC ?_;refine zG<|zX<|sR ?_;refine rQ (ak cF rfl rfl ab (.inl rfl) (fun _=>rfl)) ?_;refine rC<|zT ?_
  exact⟨trivial,[],lf⟩
end Go.Proofs.YtpjiiolnfbfcbaaGreatDoor
namespace Go.Proofs.YtpjiiolnfbfcbaaGreatDoor
open Go.Eng Go.Plain
set_option maxHeartbeats 32000000
set_option maxRecDepth 20000
def eU:POp:=⟨3,0,[]⟩
def invF (c:Nat):HEv:=⟨1,(c:Int),eU,zBk,0⟩
def retF (c:Nat):HEv:=⟨2,(c:Int),zOp,zBk,0⟩
def bigH:Nat→List HEv
 | 0=>[]
 | n+1=>bigH n++[invF (n % 8),retF (n % 8)]
theorem fa:∀n,(bigH n).length=2*n
 | 0=>rfl
 | n+1=>by rw[bigH,List.length_append,fa n]; simp; omega
def bigO (i:Nat):HOp:=⟨((i % 8:Nat):Int),((i/8:Nat):Int),0,eU,((2*i:Nat):Int),((2*i+1:Nat):Int),zBk,0⟩
def bigN (n:Nat):List Int:=(List.range 8).map fun c=>(((n+7-c)/8:Nat):Int)
def bigS (n:Nat):RdS:=⟨cu,bigN n,0,((2*n:Nat):Int),(List.range n).map bigO⟩
theorem tO:∀c<8,cu[c]?=some 0:=by decide
theorem tN (c:Nat) (hc:c<8) (v:Int):(cu.set c v).set c 0=cu:=by
 rw[List.set_set]
 revert c
 decide
theorem xA (n:Nat):(bigN n)[n % 8]?.getD 0=((n/8:Nat):Int):=by
 have h:n % 8<8:=Nat.mod_lt _ (by decide)
 rw[bigN,List.getElem?_map,List.getElem?_range h]
 simp only[Option.map_some,Option.getD_some]
 omega
theorem xz (n:Nat):(bigN n).set (n % 8) (((n/8:Nat):Int)+1)=bigN (n+1):=by
 refine List.ext_getElem (by simp[bigN]) fun c h1 h2=>?_
 have h3:c<8:=by simpa[bigN]using h2
 simp only[bigN,List.getElem_set,List.getElem_map,List.getElem_range]
 split <;> omega
theorem li {s:RdS} {x:HEv} (k:x.kind=1) (h:inv1 s x=true):(ba s x).2=true:=by simp[ba,k,h]
theorem py {s:RdS} {x:HEv} (k:x.kind=2) (h:ret1 s x=true):(ba s x).2=true:=by simp[ba,k,h]
theorem xx (n:Nat):∃s,ba (bigS n) (invF (n % 8))=(s,true)∧ba s (retF (n % 8))=(bigS (n+1),true):=by
 have h8:n % 8<8:=Nat.mod_lt _ (by decide)
 have hi:inv1 (bigS n) (invF (n % 8))=true:=by
  simp only[inv1,Bool.and_eq_true,decide_eq_true_eq]
  exact⟨⟨⟨⟨⟨Int.natCast_nonneg _,by show ((n % 8:Nat):Int)<8; omega⟩,tO _ h8⟩,Nat.zero_le 64⟩,rfl⟩,rfl⟩
 refine⟨(ba (bigS n) (invF (n % 8))).1,Prod.ext rfl (li rfl hi),?_⟩
 rw[fK rfl hi]
 have hl:((List.range n).map bigO).length=n:=by simp
 have hb:(cu.set (n % 8) (((((List.range n).map bigO).length:Nat):Int)+1))[n % 8]?=some ((n:Int)+1):=by
  rw[hl,List.getElem?_set_self (by exact h8)]
 have ho:((List.range n).map bigO++[(⟨((n % 8:Nat):Int),(bigN n)[n % 8]?.getD 0,0,eU,((2*n:Nat):Int),-1,zBk,0⟩:HOp)])[((n:Int)+1-1).toNat]?=some ⟨((n % 8:Nat):Int),(bigN n)[n % 8]?.getD 0,0,eU,((2*n:Nat):Int),-1,zBk,0⟩:=by
  rw[(by omega:((n:Int)+1-1).toNat=n),List.getElem?_append_right (by omega),hl,Nat.sub_self]; rfl
 have hop:opOf ⟨cu.set (n % 8) (((((List.range n).map bigO).length:Nat):Int)+1),(bigN n).set (n % 8) ((bigN n)[n % 8]?.getD 0+1),0,((2*n:Nat):Int)+1,(List.range n).map bigO++[⟨((n % 8:Nat):Int),(bigN n)[n % 8]?.getD 0,0,eU,((2*n:Nat):Int),-1,zBk,0⟩]⟩ (retF (n % 8))=some ⟨((n % 8:Nat):Int),(bigN n)[n % 8]?.getD 0,0,eU,((2*n:Nat):Int),-1,zBk,0⟩:=by
  show (match (cu.set (n % 8) _)[n % 8]? with | some b=>_ | none=>none)=_
  rw[hb]
  exact ho
 have hr:ret1 ⟨cu.set (n % 8) (((((List.range n).map bigO).length:Nat):Int)+1),(bigN n).set (n % 8) ((bigN n)[n % 8]?.getD 0+1),0,((2*n:Nat):Int)+1,(List.range n).map bigO++[⟨((n % 8:Nat):Int),(bigN n)[n % 8]?.getD 0,0,eU,((2*n:Nat):Int),-1,zBk,0⟩]⟩ (retF (n % 8))=true:=by
  simp only[ret1,Bool.and_eq_true,Bool.or_eq_true,decide_eq_true_eq,Bool.not_eq_true',decide_eq_false_iff_not]
  refine⟨⟨⟨⟨⟨Int.natCast_nonneg _,by show ((n % 8:Nat):Int)<8; omega⟩,?_⟩,rfl⟩,rfl⟩,.inl rfl⟩
  show ¬(cu.set (n % 8) _)[n % 8]?=some 0
  rw[hb]
  simp only[Option.some.injEq]
  omega
 refine Prod.ext ((fJ rfl hr hb hop).trans ?_) (py rfl hr)
 rw[xA]
 simp only[bigS,RdS.mk.injEq]
 refine⟨tN _ h8 _,xz n,trivial,by omega,?_⟩
 rw[(by omega:((n:Int)+1-1).toNat=n),List.range_succ,List.map_append,List.set_append_right _ _ (by omega),hl,Nat.sub_self]
 simp only[List.set_cons_zero,List.map_cons,List.map_nil]
 congr 2
theorem tc {a b:List HEv}:∀ {s:RdS} {i:Nat},(goS s a i).2<0→goS s (a++b) i=goS (goS s a i).1 b (i+a.length):=by
 induction a with
 | nil=>intro s i _; rfl
 | cons x a ih =>
  intro s i h
  rw[List.cons_append,dJ]
  rw[dJ]at h ⊢
  by_cases ht:(ba s x).2=true
  ·rw[if_pos ht]at h ⊢
   rw[if_pos ht,ih h,List.length_cons]
   congr 1
   omega
  ·rw[if_neg ht]at h
   simp only at h
   omega
theorem np:∀n,goS rd0 (bigH n) 0=(bigS n,-1)
 | 0=>by
  rw[bigH,goS]
  exact Prod.ext (show rd0=bigS 0 from rfl) rfl
 | n+1=>by
  have h:=np n
  rw[bigH,tc (by rw[h]; exact (by decide:(-1:Int)<0)),h]
  obtain⟨s,h1,h2⟩:=xx n
  rw[dJ,h1,if_pos rfl,dJ,h2,if_pos rfl]
  rfl
theorem An (n i:Nat) (h:i<n):(bigS n).all[i]?=some (bigO i):=by
 simp only[bigS]
 rw[List.getElem?_map,List.getElem?_range h]
 rfl
theorem tF (n:Nat):(bigS n).all.length=n:=by
 simp only[bigS]
 rw[List.length_map,List.length_range]
def z64:List UInt8:=List.replicate 64 0
def invW:HEv:=⟨1,7,⟨2,0,z64⟩,zBk,0⟩
def lngH:Nat→List HEv
 | 0=>[]
 | n+1=>lngH n++[invW,ch]
theorem fC:∀n,(lngH n).length=2*n
 | 0=>rfl
 | n+1=>by rw[lngH,List.length_append,fC n]; simp; omega
theorem nT (n:Nat):∀k,(lngH (n+k)).take (2*n)=lngH n
 | 0=>List.take_of_length_le (by rw[Nat.add_zero,fC]; omega)
 | k+1=>by
  show (lngH (n+k)++_).take _=_
  rw[List.take_append_of_le_length (by rw[fC]; omega),nT n k]
theorem ww:∀n,(goS rd0 (lngH n) 0).2 = -1∧(goS rd0 (lngH n) 0).1.busy=cu
 | 0=>⟨rfl,rfl⟩
 | n+1=>by
  obtain⟨h1,h2⟩:=ww n
  rw[lngH,tc (by rw[h1]; decide)]
  have hi:inv1 (goS rd0 (lngH n) 0).1 invW=true:=by
   simp only[inv1,Bool.and_eq_true,decide_eq_true_eq]
   refine⟨⟨⟨⟨⟨by decide,by decide⟩,?_⟩,by decide⟩,rfl⟩,rfl⟩
   rw[h2]
   rfl
  rw[dJ,if_pos (li rfl hi),dJ]
  have hc:∀s:RdS,ba s ch=(⟨cu,s.number,s.era+1,s.read+1,s.all⟩,true):=fun s=>by
   simp[ba,ch,gX]
  rw[hc,if_pos rfl]
  exact⟨rfl,rfl⟩
theorem gS {n:Nat} (h:n<10):Lib.itoa (n:Int)=[UInt8.ofNat (48+n)]:=by
 rw[Lib.itoa,if_neg (by omega),Int.toNat_natCast,Lib.decDigits,dif_pos h]
theorem sh {c:Nat} (h:c<8):(bv (invF c)).length=14:=by
 show (bv ⟨1,(c:Int),eU,zBk,0⟩).length=14
 rw[bv,if_neg (show ¬(1:Int)=3 by decide),if_pos rfl]
 simp only
 rw[gS (by omega)]
 rfl
theorem se {c:Nat} (h:c<8):(bv (retF c)).length=11:=by
 show (bv ⟨2,(c:Int),zOp,zBk,0⟩).length=11
 rw[bv,if_neg (show ¬(2:Int)=3 by decide),if_neg (show ¬(2:Int)=1 by decide),if_pos rfl]
 simp only
 rw[gS (by omega)]
 rfl
theorem sf:(bv invW).length=145:=by
 show (bv ⟨1,((7:Nat):Int),⟨2,((0:Nat):Int),z64⟩,zBk,0⟩).length=145
 rw[bv,if_neg (show ¬(1:Int)=3 by decide),if_pos rfl,bd,if_neg (show ¬((2:Int)=1∧z64=[]) from fun h=>absurd h.1 (by decide)),if_pos rfl]
 simp only
 rw[gS (by decide),gS (by decide)]
 have hx:(hexP z64).length=128:=by
  rw[hexP,if_neg (by decide),da,z64,List.length_replicate]
 simp only[List.length_append,List.length_cons,hx]
 rfl
theorem ml (a b:List HEv):bQ (a++b)=bQ a++bQ b:=by simp[bQ]
theorem pw:∀n,(bQ (bigH n)).length=27*n
 | 0=>rfl
 | n+1=>by
  have h8:n % 8<8:=Nat.mod_lt _ (by decide)
  rw[bigH,ml,List.length_append,pw n]
  simp only[bQ,List.flatMap_cons,List.flatMap_nil,List.length_append,List.length_cons,List.length_nil,sh h8,se h8]
  omega
theorem pu:∀n,(bQ (lngH n)).length=152*n
 | 0=>rfl
 | n+1=>by
  rw[lngH,ml,List.length_append,pu n]
  have hc:(bv ch).length=5:=rfl
  simp only[bQ,List.flatMap_cons,List.flatMap_nil,List.length_append,List.length_cons,List.length_nil,sf,hc]
  omega
theorem yj {c:Nat} (h:c<8):WfE (invF c):=⟨show (-9223372036854775808:Int)≤(c:Int) by omega,show (c:Int)≤9223372036854775807 by omega,.inr (.inl ⟨rfl,rfl,rfl,⟨⟨by show (0:Int)≤3; decide,by show (3:Int)≤255; decide⟩,⟨by show (-9223372036854775808:Int)≤0; decide,by show (0:Int)≤9223372036854775807; decide⟩⟩,Nat.zero_le _⟩)⟩
theorem xR {c:Nat} (h:c<8):WfE (retF c):=⟨show (-9223372036854775808:Int)≤(c:Int) by omega,show (c:Int)≤9223372036854775807 by omega,.inr (.inr ⟨rfl,rfl,rfl,rfl,fun h=>absurd rfl h⟩)⟩
theorem yi:WfE invW:=⟨by decide,by decide,.inr (.inl ⟨rfl,rfl,rfl,⟨by decide,by decide⟩,by decide⟩)⟩
theorem nn:∀n,∀x∈bigH n,WfE x
 | 0,x,h=>by simp[bigH]at h
 | n+1,x,h=>by
  have h8:n % 8<8:=Nat.mod_lt _ (by decide)
  rw[bigH]at h
  rcases List.mem_append.1 h with h | h
  ·exact nn n x h
  ·simp only[List.mem_cons,List.not_mem_nil,or_false]at h
   rcases h with rfl | rfl
   ·exact yj h8
   ·exact xR h8
theorem sa:∀n,∀x∈lngH n,WfE x
 | 0,x,h=>by simp[lngH]at h
 | n+1,x,h=>by
  rw[lngH]at h
  rcases List.mem_append.1 h with h | h
  ·exact sa n x h
  ·simp only[List.mem_cons,List.not_mem_nil,or_false]at h
   rcases h with rfl | rfl
   ·exact yi
   ·exact jp
theorem jJ (r:List UInt8):∀(q:List HEv) (rd:RdS) (h:List HEv) (n i:Nat),(∀x∈q,WfE x)→n+q.length≤8193→(goS rd q i).2<0→cU (bQ q++r) rd h n=cU r (goS rd q i).1 (h++q) (n+q.length)
 | [],rd,h,n,i,_,_,_=>by simp[bQ,goS]
 | x::q,rd,h,n,i,hw,hn,hg=>by
  have hx:=hw x (by simp)
  rw[dJ]at hg ⊢
  cases hb:(ba rd x).2 with
  | false=>rw[hb]at hg; simp at hg; omega
  | true =>
   rw[hb,if_pos rfl]at hg
   have hcut:cutL (bQ (x::q)++r) 10=some (bv x,bQ q++r):=by
    rw[bQ,List.flatMap_cons,List.append_assoc,List.append_assoc]
    exact fm _ (gm hx)
   rw[ef _ _ _ (by simp[bQ]) hcut,iv hx]
   simp only
   rw[if_neg (by simp at hn; omega),hb,if_pos rfl,if_pos trivial,jJ r q _ _ (n+1) (i+1) (fun y hy=>hw y (by simp[hy])) (by simp at hn ⊢; omega) hg,List.append_assoc,List.length_cons]
   congr 1
   omega
theorem ve:cU (bQ (bigH 4096)) rd0 [] 1=(bigH 4096,0,0):=by
 have h:=jJ [] (bigH 4096) rd0 [] 1 0 (nn _) (by rw[fa]; decide) (by rw[np]; exact (by decide:(-1:Int)<0))
 rw[List.append_nil]at h
 rw[h,jI,List.nil_append]
theorem sL:cU (bQ (bigH 4096)++(bF++[10])) rd0 [] 1=([],8193,3):=by
 rw[jJ _ (bigH 4096) rd0 [] 1 0 (nn _) (by rw[fa]; decide) (by rw[np]; exact (by decide:(-1:Int)<0)),fa,show bF=bv ch from rfl,ef (t:=bv ch) (r:=[]) _ _ _ (by simp) (fm [] (gm jp)),iv jp]
 rfl
theorem vY:rdH (bigH 4096)=bigS 4096:=by
 rw[rdH,if_neg (by rw[fa]; decide),np]
theorem o6:chkH (bigH 4096)=(0,0):=by
 rw[chkH,if_neg (by rw[fa]; decide),np,if_neg (show ¬(0:Int) ≤ -1 by decide)]
theorem yN:chkH (lngH 4096)=(0,0):=by
 rw[chkH,if_neg (by rw[fC]; decide),(ww _).1,if_neg (show ¬(0:Int) ≤ -1 by decide)]
def oneB:List UInt8:=[0,0,0,0,0,0,0,0,0,0,0,0,0,0,0,0,0,0,0,0,0,0,0,0,0,0,0,0,0,0,0,1]
def gh:HEv:=⟨1,0,⟨1,0,[]⟩,zBk,0⟩
def kv:List (List HEv):=
  [[⟨0,0,zOp,zBk,0⟩],[⟨4,0,zOp,zBk,0⟩],[⟨3,1,zOp,zBk,0⟩],[⟨3,0,zOp,zBk,1⟩],[⟨1,8,zOp,zBk,0⟩],[⟨1,0,zOp,oneB,0⟩],
   [⟨1,0,⟨0,0,List.replicate 65 0⟩,zBk,0⟩],[gh,gh],[gh,⟨2,0,zOp,zBk,2⟩],[gh,⟨2,0,zOp,oneB,1⟩],[gh,⟨2,0,⟨0,1,[]⟩,zBk,0⟩],
   [gh,ch,⟨2,0,zOp,zBk,0⟩],[⟨1,0,eU,zBk,0⟩,⟨2,0,zOp,oneB,0⟩]]
theorem ue:∀h∈kv,chkH h=((h.length:Int)-1,18)∧h.length≤3:=by decide
theorem vy:∀h∈kv,∀x∈h,x.Ok:=by
 have:∀h∈kv,∀x∈h,((0≤x.kind∧x.kind≤255)∧(-9223372036854775808≤x.client∧x.client≤9223372036854775807)∧((0≤x.op.kind∧x.op.kind≤255)∧(-9223372036854775808≤x.op.index∧x.op.index≤9223372036854775807))∧x.value.length=32∧(-9223372036854775808≤x.err∧x.err≤9223372036854775807)):=by decide
 intro h hh x hx
 obtain⟨h1,h2,⟨h3,h4⟩,h5,h6⟩:=this h hh x hx
 exact⟨h1,h2,⟨h3,h4⟩,h5,h6⟩
end Go.Proofs.YtpjiiolnfbfcbaaGreatDoor
namespace Go.Proofs.YtpjiiolnfbfcbaaGreatDoor
open Go.Eng Go.Plain
set_option maxHeartbeats 32000000
set_option maxRecDepth 20000
attribute [local irreducible] WC RegS RegD SeqQ BlkQ ScoQ RegK CutK Sat SatN FnIs LoopQ an OpIs
theorem xC {look:Nat→Option Row} {ρ:Nat→Option Nat} {n:Nat} {bs9 avs:List AV} (h:cw look ρ bs9 avs):cw look ρ (.sl n::bs9) (.sl n::avs):=⟨_,avs,rfl,⟨rfl,rfl⟩,AVLe.refl _,h⟩
theorem xU (m:Nat) (hm:8192<m):FnIs Tryz.prog 22 [.sl m] [] (.tup (.acons (.ptr 64 []) (.acons (.int .i64 0) (.acons (.int .i64 3) .anil)))) [(64,cP rd0 65),(65,dA rd0.all)]:=by
 have h8:decide ((8192:Int)<(m:Int))=true:=dT (by omega)
 refine au aa Tryz.func22 rfl rfl rfl ?_;refine sR<|zU<|nR ?_;refine rQ iS ?_;refine rN ?_;refine rC<|nS ?_;refine lc (env':=[(2,.ptr 64 []),(0,.sl m)]) (h':=[(64,some (cP rd0 65)),(65,some (dA []))]) 72 [(64,some 96),(65,none)] (lg zk ⟨⟨rfl,rfl,_,rfl,oI⟩,⟨rfl,rfl,rfl⟩,trivial⟩)<|qR ?_;refine rC ?_;refine rQ (zy aa rfl rfl) ?_;refine rC ?_;refine zI<|sR ?_;iterate 4 refine rC ?_
 refine zT<|aP ?_
 exact⟨trivial,[(64,some _),(65,some _)],lg zV ⟨zR,zR,trivial⟩⟩
theorem uL (m:Nat) (hm:8192<m):FnIs Tryz.prog 6 [.sl m] [] (.tup (.acons (.int .i64 0) (.acons (.int .i64 3) .anil))) []:=by
 refine au aa Tryz.func6 rfl rfl rfl ?_;refine sR<|zD<|nR ?_;refine rC ?_;refine aT (bJ [] (xU m hm) rfl rfl rfl (xC ab) trivial rfl rfl (.inl rfl) rfl rfl) rfl ?_;iterate 6 refine rC ?_
 refine nR ?_;iterate 4 refine rC ?_
 refine zT ?_
 exact⟨trivial,[],lf⟩
end Go.Proofs.YtpjiiolnfbfcbaaGreatDoor
namespace Go.Eng
open Go.RowKit
set_option linter.unusedSimpArgs false
section
variable {P : Program} {T : Tab} {n : Nat} {env : Env} {h : Upds}
theorem iJ (hT:aq P T) {t e r off L s:Nat} {re:TyR} {x y:Operand} {α:Type} {s':Nat} {enc:α→D} (ht:bh T t=some (.slice e)) (he:lk T e=some re)
  (hx:ay env x=some (.own r off L s none)) (hy:ay env y=some (.d (.arr s' enc ([]:List α)))) :
  an P (.call { callee :=.builtin .append,args := #[x,y],argTypes := #[t,t] }) env h n (some (.own r off L s none)) []:=.of_comes fun C G st σ w ac o ho hA hd hst hn=>by
 obtain⟨ud,hud,hdd⟩:=aS hT ht
 cases hdd
 obtain⟨hx1,hg1⟩:=ao hst (hA.ev hx)
 obtain⟨hy1,_⟩:=ao hst (hA.ev hy)
 have hsz:=(hT e re he).run_size (P:=P)
 have hv:∃b c,ac.eval x=.slice b L c∧L≤c:=by
  rcases RelV.own.1 hx1 with ⟨_,_,h2,_,hv⟩ | ⟨b,c,a,_,hv,_,_,h3,_⟩
  ·exact⟨none,0,by rw[hv,h2],by omega⟩
  ·exact⟨some a,_,hv,h3⟩
 obtain⟨b,c,hv,hlc⟩:=hv
 have hu:∃ad c,ac.eval y=.slice ad 0 c:=by
  rcases RelV.arr.1 hy1 with ⟨_,hv⟩ | ⟨ad,c,hv,_⟩
  ·exact⟨none,0,hv⟩
  ·exact⟨some ad,c,by simpa using hv⟩
 obtain⟨ad,c',hu⟩:=hu
 have h0:∀a,(loadCells a 0).run P w=.ok #[] w:=fun a=>by simpa using run_loadCells_list (P:=P) w a [] (by simp)
 rw[hv]at hx1
 refine .quiet (u :=.slice b L c) hst hd ⟨rfl,rfl⟩ ?_ hx1 hg1
 cases b <;> cases ad <;> simp[execOp,ho,resolve,invoke,builtin,Builtin.append_,hv,hu,run_underlying hud,hsz,Builtin.lenOf,Builtin.firstCells,h0,storeCells,Sem.run_bind,Sem.run_pure,Result.andThen_ok,hlc]
end
end Go.Eng
namespace Go.Proofs.YtpjiiolnfbfcbaaGreatDoor
open Go.Eng Go.Plain
set_option maxHeartbeats 32000000
set_option maxRecDepth 20000
set_option linter.unusedVariables false
attribute [local irreducible] WC RegS RegD SeqQ BlkQ ScoQ RegK CutK Sat SatN FnIs LoopQ an OpIs
def sepE (i:Nat):List HEv:=if i=0 then[] else[ch]
def allE (es:List (List HEv)):Nat→List HEv
 | 0=>[]
 | i+1=>allE es i++sepE i++(es[i]?.getD [])
theorem ot (es:List (List HEv)) (e:List HEv):∀i,i≤es.length→allE (es++[e]) i=allE es i
 | 0,_=>rfl
 | i+1,hi=>by
  rw[allE,allE,ot es e i (by omega),List.getElem?_append_left (by omega)]
def allJ (es:List (List HEv)):List HEv:=allE es es.length
theorem k8 (es:List (List HEv)) (e:List HEv):allJ (es++[e])=allJ es++sepE es.length++e:=by
 unfold allJ
 rw[show (es++[e]).length=es.length+1 by simp,allE,ot es e _ (Nat.le_refl _),List.getElem?_append_right (Nat.le_refl _),Nat.sub_self]
 rfl
theorem k9:∀(l:List HEv) (out:List (List HEv)) (era:List HEv),(∀x∈l,x.kind=3→x=ch)→allJ (eB l out era)=allJ (out++[era])++l
 | [],out,era,_=>by rw[eB,List.append_nil]
 | x::l,out,era,hc=>by
  rw[eB]
  by_cases hk:x.kind=3
  ·rw[if_pos hk,k9 l _ _ (fun y hy=>hc y (by simp[hy])),k8,hc x (by simp) hk]
   simp[sepE]
  ·rw[if_neg hk,k9 l _ _ (fun y hy=>hc y (by simp[hy])),k8,k8]
   simp
theorem wY {h:List HEv} (hw:∀x∈h,WfE x):allJ (eB h [] [])=h:=by
 rw[k9 h [] [] (fun x hx hk=>by
  rcases (hw x hx).2.2 with ⟨k,c,o,v,e⟩ | ⟨k,_⟩ | ⟨k,_⟩
  ·obtain⟨k',c',o',v',e'⟩:=x
   simp only at k c o v e
   subst k c o v e
   rfl
  ·omega
  ·omega)]
 simp[allJ,allE,sepE]
theorem ou (es:List (List HEv)) (i:Nat):(allE es i).length≤(allE es (i+1)).length:=by
 rw[allE]; simp only[List.length_append]; omega
theorem tJ (es:List (List HEv)):∀(k i:Nat),(allE es i).length≤(allE es (i+k)).length
 | 0,i=>Nat.le_refl _
 | k+1,i=>Nat.le_trans (tJ es k i) (ou es (i+k))
theorem kR:∀(l:List HEv) (out:List (List HEv)) (era:List HEv),1≤(eB l out era).length∧(eB l out era).length≤out.length+l.length+1
 | [],out,era=>by simp[eB]
 | x::l,out,era=>by
  rw[eB]
  split
  ·have:=kR l (out++[era]) []
   simp only[List.length_append,List.length_cons,List.length_nil]at this ⊢
   omega
  ·have:=kR l out (era++[x])
   simp only[List.length_cons]at this ⊢
   omega
theorem sk (z:List XE) (n:UInt8):FnIs Tryz.prog 10 [.d (g8 z),.int .u8 n.toNat] [] (.bool true) []:=by
 have hx:=mX z
 have hfit:=ta z
 obtain⟨hl,hc,hok,hwf⟩:=gq z
 generalize hOf z=h at *
 have hn:=n.toNat_lt
 have her:=m6 h (by omega) (fun x hx=>Nat.le_trans (fI (hwf x hx)) (by decide))
 rw[hc,if_pos rfl]at her
 have hall:=wY hwf
 have helen:=kR h [] []
 generalize eB h [] []=es at *
 simp only[List.length_nil]at helen
 unfold allJ at hall
 have q0:decide ((es.length:Int)=0)=false:=dF (by omega)
 have q1:(!decide ((es.length:Int)=(es.length:Int)))=false:=by rw[dT rfl]; rfl
 refine au aa Tryz.func10 rfl rfl rfl ?_;refine sR<|rN ?_;refine rC<|nR ?_;refine rQ iM ?_;refine rQ (ak hx rfl rfl (aj ab) (.inl rfl) (fun _=>rfl)) ?_;refine rC<|nR ?_;refine rC ?_;refine rQ (ak her rfl rfl (aj ab) (.inl rfl) (fun _=>rfl)) ?_;iterate 5 refine rC ?_
 refine zW<|zU ?_;refine rP ?_;refine rC ?_;refine rP ?_;refine rQ (bt aa rfl rfl) ?_;refine rP ?_;refine rC ?_;refine rQ iG ?_;refine rC ?_;refine rO ?_;refine rC ?_;refine rO ?_;refine rQ (fR aa rfl rfl) ?_;refine rO ?_;refine rC ?_;refine rO ?_;refine rQ (bt aa rfl rfl) ?_;refine rO ?_;refine rC ?_;refine rQ iF<|nS ?_;refine wF<|kS<|sR ?_;refine rC<|zW ?_;refine rC<|zP ?_
 refine wc_inv (fun i:Nat=>⟨[(1,.int .u8 n.toNat),(5,.d (encH h)),(6,.d (.arx 1 fO es)),(8,.own 65 0 (allE es i).length 38 none),(9,.int .i64 (i:Nat))],[(65,some (.ds 32 38 false aY (allE es i)))],500,Tryz.f10.ntmps,64⟩) (fun i=>i≤es.length) (fun i=>es.length-i) 0 [(65,none)] (Nat.zero_le _)
  (lg zh ⟨⟨rfl,rfl,rfl⟩,trivial⟩) ?_
 intro i hi
 refine bG ?_
 by_cases hlt:i<es.length
 ·have c1:decide ((i:Int)<(es.length:Int))=true:=dT (by omega)
  obtain⟨e,he⟩:∃e,es[i]?=some e:=⟨_,List.getElem?_eq_getElem hlt⟩
  have hgi:es[((i:Int)).toNat]?=some e:=by rw[Int.toNat_natCast]; exact he
  have q2:(!decide ((e.length:Int)=(e.length:Int)))=false:=by rw[dT rfl]; rfl
  have hnx:allE es (i+1)=allE es i++sepE i++e:=by rw[allE,he]; rfl
  have hle:(allE es (i+1)).length≤24:=by
   have:=tJ es (es.length-(i+1)) (i+1)
   rw[show i+1+(es.length-(i+1))=es.length by omega,hall]at this
   omega
  have hle0:=ou es i
  have hal:(allE es i).length+1≤1048576:=by omega
  have hnl:(allE es (i+1)).length=(allE es i++sepE i).length+e.length:=by rw[hnx,List.length_append]
  have hal2:(allE es i++sepE i).length+e.length≤1048576:=by omega
  have hfin:(allE es i++sepE i).length+e.length=(allE es (i+1)).length:=hnl.symm
  by_cases hi0:i=0
  ·have c2:decide ((0:Int)<(i:Int))=false:=dF (by omega)
   have hsep:sepE i=[]:=by rw[sepE,if_pos hi0]
   have hsl:(allE es i).length=(allE es i++sepE i).length:=by rw[hsep,List.append_nil]
   by_cases hep:0<e.length
   ·rw[hsep,List.append_nil]at hnx hfin hnl
    have hal3:(allE es i).length+e.length≤1048576:=by omega
    refine qR<|zD ?_;refine rQ (bt aa rfl rfl) ?_;refine rC ?_;refine zI<|zQ<|aZ ?_;iterate 2 refine bk ?_
    refine aE (by kernel_rfl) ?_;refine dC [6] [] ?_;refine dC [9] [] ?_;refine dQ [44,45] [] (aK (xs:=es) aa rfl rfl rfl rfl rfl (by omega) hgi) ?_;refine dQ [46] [] iL ?_;refine dQ [47] [] (fR aa rfl rfl) ?_;refine dC [6] [] ?_;refine dC [9] [] ?_;refine dQ [49,50] [] (aK (xs:=es) aa rfl rfl rfl rfl rfl (by omega) hgi) ?_;refine dQ [51] [] iL ?_;refine dQ [52] [] (bt aa rfl rfl) ?_;refine dC [48,53] [] ?_;refine aB (by kernel_rfl)<|aM ?_;refine wF<|kS<|qR ?_;refine zD ?_;refine zG<|kS<|am ?_;refine zU ?_;refine rQ (aK (xs:=es) aa rfl rfl rfl rfl rfl (by omega) hgi) ?_;refine rQ (an.val_le (cT aa rfl rfl) DLe.arx_arr rfl) ?_;refine aT (lL (xs:=allE es i) (ys:=e) aa rfl rfl rfl rfl rfl rfl rfl rfl hep hal3 rfl) rfl ?_;refine rC<|aA<|zC<|am ?_;refine rC ?_;refine rQ iD ?_;refine rC<|aA ?_
    exact aN (i+1) [(65,some _)] hlt (by omega) (lg ⟨zE,rfl,zE,rfl,zE,rfl,⟨_,rfl,AVLe.of_eq (congrArg (fun n=>AV.own _ 0 n 38 none) hfin)⟩,rfl,zE,rfl,trivial⟩ ⟨⟨rfl,rfl,_,rfl,bj.of_eq (congrArg (fun l=>Row.ds 32 38 false aY l) hnx.symm)⟩,trivial⟩)
   ·have hen:e=[]:=List.eq_nil_of_length_eq_zero (by omega)
    subst hen
    have hnx0:allE es i=allE es (i+1):=by rw[hnx,hsep]; simp
    refine qR<|zD ?_;refine rQ (bt aa rfl rfl) ?_;refine rC ?_;refine zI<|zQ<|aZ ?_;iterate 2 refine bk ?_
    refine aE (by kernel_rfl) ?_;refine dC [6] [] ?_;refine dC [9] [] ?_;refine dQ [44,45] [] (aK (xs:=es) aa rfl rfl rfl rfl rfl (by omega) hgi) ?_;refine dQ [46] [] iL ?_;refine dQ [47] [] (fR aa rfl rfl) ?_;refine dC [6] [] ?_;refine dC [9] [] ?_;refine dQ [49,50] [] (aK (xs:=es) aa rfl rfl rfl rfl rfl (by omega) hgi) ?_;refine dQ [51] [] iL ?_;refine dQ [52] [] (bt aa rfl rfl) ?_;refine dC [48,53] [] ?_;refine aB (by kernel_rfl)<|aM ?_;refine wG<|kS<|qR ?_;refine zD ?_;refine zG<|kS<|am ?_;refine zU ?_;refine rQ (aK (xs:=es) aa rfl rfl rfl rfl rfl (by omega) hgi) ?_;refine rQ (an.val_le (cT aa rfl rfl) DLe.arx_arr rfl) ?_;refine rQ (iJ (enc:=aY) (s':=38) aa rfl rfl rfl rfl) ?_;refine rC<|aA<|zC<|am ?_;refine rC ?_;refine rQ iD ?_;refine rC<|aA ?_
    exact aN (i+1) [(65,some _)] hlt (by omega) (lg ⟨zE,rfl,zE,rfl,zE,rfl,⟨_,rfl,AVLe.of_eq (congrArg (fun l:List HEv=>AV.own _ 0 l.length 38 none) hnx0)⟩,rfl,zE,rfl,trivial⟩ ⟨⟨rfl,rfl,_,rfl,bj.of_eq (congrArg (fun l=>Row.ds 32 38 false aY l) hnx0)⟩,trivial⟩)
  ·have c2:decide ((0:Int)<(i:Int))=true:=dT (by omega)
   have hsep:sepE i=[ch]:=by rw[sepE,if_neg hi0]
   have hsl:(allE es i).length+1=(allE es i++sepE i).length:=by rw[hsep]; simp
   by_cases hep:0<e.length
   ·rw[hsep]at hsl hfin hal2 hnx
    clear hnl
    refine qR<|zD ?_;refine rQ (bt aa rfl rfl) ?_;refine rC ?_;refine zI<|zQ<|aZ ?_;iterate 2 refine bk ?_
    refine aE (by kernel_rfl) ?_;refine dC [6] [] ?_;refine dC [9] [] ?_;refine dQ [44,45] [] (aK (xs:=es) aa rfl rfl rfl rfl rfl (by omega) hgi) ?_;refine dQ [46] [] iL ?_;refine dQ [47] [] (fR aa rfl rfl) ?_;refine dC [6] [] ?_;refine dC [9] [] ?_;refine dQ [49,50] [] (aK (xs:=es) aa rfl rfl rfl rfl rfl (by omega) hgi) ?_;refine dQ [51] [] iL ?_;refine dQ [52] [] (bt aa rfl rfl) ?_;refine dC [48,53] [] ?_;refine aB (by kernel_rfl)<|aM ?_;refine wF<|kS<|qR ?_;refine zD ?_;refine zI<|am ?_;refine rC ?_;refine rQ (an.val_le (aX aa rfl rfl rfl rfl) (dE 3 0 0) rfl) ?_;refine aJ (aC (s:=38) aa rfl rfl rfl rfl rfl rfl rfl rfl) rfl ?_;refine aT (aR (enc:=aY) (s:=38) (xs:=allE es i) aa ch rfl rfl rfl rfl rfl rfl rfl rfl rfl hal rfl) rfl ?_;refine rC<|nS<|am ?_;refine zU ?_;refine rQ (aK (xs:=es) aa rfl rfl rfl rfl rfl (by omega) hgi) ?_;refine rQ (an.val_le (cT aa rfl rfl) DLe.arx_arr rfl) ?_;refine aT (lL (xs:=allE es i++[ch]) (ys:=e) aa rfl rfl rfl rfl rfl hsl rfl rfl hep hal2 rfl) rfl ?_;refine rC<|aA<|zC<|am ?_;refine rC ?_;refine rQ iD ?_;refine rC<|aA ?_
    exact aN (i+1) [(65,some _)] hlt (by omega) (lg ⟨zE,rfl,zE,rfl,zE,rfl,⟨_,rfl,AVLe.of_eq (congrArg (fun n=>AV.own _ 0 n 38 none) hfin)⟩,rfl,zE,rfl,trivial⟩ ⟨⟨rfl,rfl,_,rfl,bj.of_eq (congrArg (fun l=>Row.ds 32 38 false aY l) hnx.symm)⟩,trivial⟩)
   ·have hen:e=[]:=List.eq_nil_of_length_eq_zero (by omega)
    subst hen
    have hnx0:allE es i++[ch]=allE es (i+1):=by rw[hnx,hsep]; simp
    have hl0:(allE es i).length+1=(allE es (i+1)).length:=by rw[←hnx0]; simp
    refine qR<|zD ?_;refine rQ (bt aa rfl rfl) ?_;refine rC ?_;refine zI<|zQ<|aZ ?_;iterate 2 refine bk ?_
    refine aE (by kernel_rfl) ?_;refine dC [6] [] ?_;refine dC [9] [] ?_;refine dQ [44,45] [] (aK (xs:=es) aa rfl rfl rfl rfl rfl (by omega) hgi) ?_;refine dQ [46] [] iL ?_;refine dQ [47] [] (fR aa rfl rfl) ?_;refine dC [6] [] ?_;refine dC [9] [] ?_;refine dQ [49,50] [] (aK (xs:=es) aa rfl rfl rfl rfl rfl (by omega) hgi) ?_;refine dQ [51] [] iL ?_;refine dQ [52] [] (bt aa rfl rfl) ?_;refine dC [48,53] [] ?_;refine aB (by kernel_rfl)<|aM ?_;refine wG<|kS<|qR ?_;refine zD ?_;refine zI<|am ?_;refine rC ?_;refine rQ (an.val_le (aX aa rfl rfl rfl rfl) (dE 3 0 0) rfl) ?_;refine aJ (aC (s:=38) aa rfl rfl rfl rfl rfl rfl rfl rfl) rfl ?_;refine aT (aR (enc:=aY) (s:=38) (xs:=allE es i) aa ch rfl rfl rfl rfl rfl rfl rfl rfl rfl hal rfl) rfl ?_;refine rC<|nS<|am ?_;refine zU ?_;refine rQ (aK (xs:=es) aa rfl rfl rfl rfl rfl (by omega) hgi) ?_;refine rQ (an.val_le (cT aa rfl rfl) DLe.arx_arr rfl) ?_;refine rQ (iJ (enc:=aY) (s':=38) aa rfl rfl rfl rfl) ?_;refine rC<|aA<|zC<|am ?_;refine rC ?_;refine rQ iD ?_;refine rC<|aA ?_
    exact aN (i+1) [(65,some _)] hlt (by omega) (lg ⟨zE,rfl,zE,rfl,zE,rfl,⟨_,rfl,AVLe.of_eq (congrArg (fun n=>AV.own _ 0 n 38 none) hl0)⟩,rfl,zE,rfl,trivial⟩ ⟨⟨rfl,rfl,_,rfl,bj.of_eq (congrArg (fun l=>Row.ds 32 38 false aY l) hnx0)⟩,trivial⟩)
 ·have c1:decide ((i:Int)<(es.length:Int))=false:=dF (by omega)
  have hie:i=es.length:=by omega
  subst hie
  rw[hall]
  have hsm:=gp h h (by omega)
  rw[if_pos rfl]at hsm
  refine qR<|zD ?_;refine rQ (bt aa rfl rfl) ?_;refine rC ?_;refine zG<|zX<|qR ?_;refine zD ?_;refine rQ (ak hsm rfl rfl (jt rfl (aj ab)) (.inr (cG.sc _)) (fun _=>rfl)) ?_;refine rC ?_;refine zJ<|kS<|qR ?_;refine rC<|zP ?_
  refine wc_inv (fun c:Nat=>⟨[(1,.int .u8 n.toNat),(5,.d (encH h)),(10,.int .i64 (c:Nat))],[],1000,Tryz.f10.ntmps,64⟩) (fun c=>c≤4) (fun c=>4-c) 0 [] (Nat.zero_le _)
   (lg zj trivial) ?_
  intro c hc4
  refine bG ?_
  by_cases hlt4:c<4
  ·have c4:decide ((c:Int)<4)=true:=dT (by omega)
   refine qR<|zD ?_;refine zI<|zQ<|zS ?_;refine rC<|zW ?_;refine rC<|zP ?_
   refine wc_inv (fun i:Nat=>⟨[(1,.int .u8 n.toNat),(5,.d (encH h)),(10,.int .i64 (c:Nat)),(11,.own 66 0 ((h.take i).filter (bY c)).length 38 none),(12,.int .i64 (i:Nat))],[(66,some (.ds 32 38 false aY ((h.take i).filter (bY c))))],1100,Tryz.f10.ntmps,64⟩) (fun i=>i≤h.length) (fun i=>h.length-i) 0 [(66,none)] (Nat.zero_le _)
    (lg zh ⟨⟨rfl,rfl,rfl⟩,trivial⟩) ?_
   intro i hi
   refine bG ?_
   by_cases hlt:i<h.length
   ·have c1:decide ((i:Int)<(h.length:Int))=true:=dT (by omega)
    obtain⟨x,hxx⟩:∃x,h[i]?=some x:=⟨_,List.getElem?_eq_getElem hlt⟩
    have hxi:h[((i:Int)).toNat]?=some x:=by rw[Int.toNat_natCast]; exact hxx
    have hlen:((h.take i).filter (bY c)).length≤i:=Nat.le_trans (List.length_filter_le _ _) (by rw[List.length_take]; omega)
    have hal:((h.take i).filter (bY c)).length+1≤1048576:=by omega
    have htk:h.take (i+1)=h.take i++[x]:=by rw[List.take_add_one,hxx]; rfl
    obtain⟨b1,e1⟩:∃b,decide (x.kind=3)=b:=⟨_,rfl⟩
    obtain⟨b2,e2⟩:∃b,decide (x.client=(c:Int))=b:=⟨_,rfl⟩
    cases hpb:bY c x with
    | true =>
     have hf:(h.take (i+1)).filter (bY c)=(h.take i).filter (bY c)++[x]:=by rw[htk,List.filter_append]; simp[hpb]
     have hl1:((h.take i).filter (bY c)).length+1=((h.take (i+1)).filter (bY c)).length:=by rw[hf]; simp
     cases b1 with
     | true =>
      refine qR<|zD ?_;refine rQ iE ?_;refine rC ?_;refine zI<|zQ<|zS ?_;refine zD ?_;refine rQ (aF (xs:=h) aa rfl rfl rfl rfl rfl (by omega) hxi) ?_;refine rC ?_;refine rQ iL ?_;refine zD ?_
      iterate 7 refine rS ?_
      refine rQ iT ?_;refine zO<|am ?_;refine zU ?_;refine rQ (aF (xs:=h) aa rfl rfl rfl rfl rfl (by omega) hxi) ?_;refine rQ iL ?_;refine aJ (aC (s:=38) aa rfl rfl rfl rfl rfl rfl rfl rfl) rfl ?_;refine aT (aR (enc:=aY) (s:=38) (xs:=(h.take i).filter (bY c)) aa x rfl rfl rfl rfl rfl rfl rfl rfl rfl hal rfl) rfl ?_;refine rC<|aA<|zC<|am ?_;refine rC ?_;refine rQ iD ?_;refine rC<|aA ?_
      exact aN (i+1) [(66,some _)] hlt (by omega) (lg ⟨zE,rfl,zE,rfl,zE,rfl,⟨_,rfl,AVLe.of_eq (congrArg (fun n=>AV.own _ 0 n 38 none) hl1)⟩,rfl,zE,rfl,trivial⟩ ⟨⟨rfl,rfl,_,rfl,bj.of_eq (congrArg (fun l=>Row.ds 32 38 false aY l) hf.symm)⟩,trivial⟩)
     | false =>
      have hb2:b2=true:=by rw[bY,e1,e2]at hpb; exact hpb
      subst hb2
      refine qR<|zD ?_;refine rQ iE ?_;refine rC ?_;refine zI<|zQ<|zS ?_;refine zD ?_;refine rQ (aF (xs:=h) aa rfl rfl rfl rfl rfl (by omega) hxi) ?_;refine rC ?_;refine rQ iL ?_;refine zD ?_;refine rO ?_;refine rC ?_;refine rO ?_;refine rC ?_;refine rO ?_;refine rQ (aF (xs:=h) aa rfl rfl rfl rfl rfl (by omega) hxi) ?_;refine rO ?_;refine rC ?_;refine rO ?_;refine rQ iL ?_;refine rO ?_;refine rC ?_;refine rO ?_;refine rC ?_;refine rQ iF ?_;refine zI<|am ?_;refine zU ?_;refine rQ (aF (xs:=h) aa rfl rfl rfl rfl rfl (by omega) hxi) ?_;refine rQ iL ?_;refine aJ (aC (s:=38) aa rfl rfl rfl rfl rfl rfl rfl rfl) rfl ?_;refine aT (aR (enc:=aY) (s:=38) (xs:=(h.take i).filter (bY c)) aa x rfl rfl rfl rfl rfl rfl rfl rfl rfl hal rfl) rfl ?_;refine rC<|aA<|zC<|am ?_;refine rC ?_;refine rQ iD ?_;refine rC<|aA ?_
      exact aN (i+1) [(66,some _)] hlt (by omega) (lg ⟨zE,rfl,zE,rfl,zE,rfl,⟨_,rfl,AVLe.of_eq (congrArg (fun n=>AV.own _ 0 n 38 none) hl1)⟩,rfl,zE,rfl,trivial⟩ ⟨⟨rfl,rfl,_,rfl,bj.of_eq (congrArg (fun l=>Row.ds 32 38 false aY l) hf.symm)⟩,trivial⟩)
    | false =>
     have hf:(h.take i).filter (bY c)=(h.take (i+1)).filter (bY c):=by rw[htk,List.filter_append]; simp[hpb]
     have hb:b1=false∧b2=false:=by rw[bY,e1,e2]at hpb; simpa using hpb
     obtain⟨hb1,hb2⟩:=hb
     subst hb1
     subst hb2
     refine qR<|zD ?_;refine rQ iE ?_;refine rC ?_;refine zI<|zQ<|zS ?_;refine zD ?_;refine rQ (aF (xs:=h) aa rfl rfl rfl rfl rfl (by omega) hxi) ?_;refine rC ?_;refine rQ iL ?_;refine zD ?_;refine rO ?_;refine rC ?_;refine rO ?_;refine rC ?_;refine rO ?_;refine rQ (aF (xs:=h) aa rfl rfl rfl rfl rfl (by omega) hxi) ?_;refine rO ?_;refine rC ?_;refine rO ?_;refine rQ iL ?_;refine rO ?_;refine rC ?_;refine rO ?_;refine rC ?_;refine rQ iF ?_;refine zG<|aL<|zC<|am ?_;refine rC ?_;refine rQ iD ?_;refine rC<|aA ?_
     exact aN (i+1) [(66,some 66)] hlt (by omega) (lg ⟨zE,rfl,zE,rfl,zE,rfl,⟨_,rfl,AVLe.of_eq (congrArg (fun l:List HEv=>AV.own 66 0 l.length 38 none) hf)⟩,rfl,zE,rfl,trivial⟩ ⟨⟨rfl,rfl,_,rfl,bj.of_eq (congrArg (fun l=>Row.ds 32 38 false aY l) hf)⟩,trivial⟩)
   ·have c1:decide ((i:Int)<(h.length:Int))=false:=dF (by omega)
    have hie:i=h.length:=by omega
    subst hie
    rw[List.take_length]
    have hpj:=mW h c (by omega) (fun x hx=>Nat.le_trans (fI (hwf x hx)) (by decide))
    rw[show fA c h=0 by rw[fA,hc,if_pos rfl,if_neg (by omega)],if_pos rfl]at hpj
    have hfl:(h.filter (bY c)).length≤h.length:=List.length_filter_le _ _
    have hsp:=gp (h.filter (bY c)) (h.filter (bY c)) (by omega)
    rw[if_pos rfl]at hsp
    have q3:(!decide (((h.filter (bY c)).length:Int)=((h.filter (bY c)).length:Int)))=false:=by rw[dT rfl]; rfl
    refine qR<|zD ?_;refine rQ iE ?_;refine rC ?_;refine zG<|zX<|sR ?_;refine zD ?_;refine rQ (ak hpj rfl rfl (aj (aj ab)) (.inl rfl) (fun _=>rfl)) ?_;iterate 5 refine rC ?_
    refine nR<|zU ?_;refine rP ?_;refine rC ?_;refine rP ?_;refine rC ?_;refine rP ?_;refine rQ (ak hsp rfl rfl (hJ rfl trivial DLe.arx_arr (jt rfl ab)) (.inr (cG.sc _)) (fun _=>rfl)) ?_;refine rP ?_;refine rC ?_;refine rQ iG ?_;refine rC ?_;refine rP ?_;refine rC ?_;refine rP ?_;refine rQ (fR aa rfl rfl) ?_;refine rP ?_;refine rC ?_;refine rP ?_;refine rQ (bt aa rfl rfl) ?_;refine rP ?_;refine rC ?_;refine rQ iG ?_;refine zG<|aL<|zC<|am ?_;refine rC ?_;refine rQ iD ?_;refine rC<|aA ?_
    exact aN (c+1) [] (show c+1≤4 by omega) (by show 4-(c+1)<4-c; omega) (lg zj trivial)
  ·have c4:decide ((c:Int)<4)=false:=dF (by omega)
   have hw1:IntKind.i64.wrap ((h.length:Int)+1)=((h.length+1:Nat):Int):=aO (by omega) (by omega)
   have hwn:IntKind.i64.wrap (n.toNat:Int)=(n.toNat:Int):=aO (by omega) (by omega)
   have hmod:n.toNat % (h.length+1)<h.length+1:=Nat.mod_lt _ (by omega)
   have hm0:0≤((n.toNat % (h.length+1):Nat):Int):=Int.natCast_nonneg _
   have hm1:((n.toNat % (h.length+1):Nat):Int)≤(h.length:Int):=Int.ofNat_le.2 (Nat.le_of_lt_succ hmod)
   have hck:=df (h.take (((n.toNat % (h.length+1):Nat):Int)).toNat) (by rw[List.length_take]; omega)
   rw[tB (hfit.take _) (by rw[List.length_take]; omega)]at hck
   refine qR<|zD ?_;refine zG<|zX<|sR ?_;refine zD ?_;refine rQ (bf (m:=(n.toNat:Int)) aa rfl rfl rfl hwn) ?_;refine rC ?_;refine rQ iE ?_;refine rQ (cJ (m:=((h.length+1:Nat):Int)) aa rfl rfl hw1) ?_;refine rQ (bH (a:=n.toNat) (b:=h.length+1) aa rfl rfl rfl (by omega)) ?_;refine rQ (gg (xs:=h) aa rfl rfl rfl rfl hm0 hm1) ?_;refine rQ (ak hck rfl rfl (aj ab) (.inl rfl) (fun _=>rfl)) ?_
   iterate 5 refine rC ?_
   refine nR<|zU ?_;refine rP ?_;refine rQ (ak cF rfl rfl ab (.inl rfl) (fun _=>rfl)) ?_;refine rQ iU ?_;refine rC<|zT ?_
   exact⟨trivial,[],lf⟩
end Go.Proofs.YtpjiiolnfbfcbaaGreatDoor
namespace Go.Eng
open Go.RowKit
section
variable {P : Program} {T : Tab} {sz : Nat} {env : Env} {h : Upds} {n : Nat}
theorem aH.grown {C:Ctx} {G:Nat→Prop} {st:St} {σ:Place} {w w':World} {a:Act} (h:aH C G st σ w a) (hg:w.grownBy w' none):aH C G st σ w' a:=by
 have hno:∀k:Nat,(some k:Option Nat)≠none:=fun k e=>by cases e
 have hsz:=h.size
 exact h.core (fun _ hr=>hr) (fun _ _=>rfl) (fun ad u h1 h2=>⟨.of_block (hg.block _ (World.block_lt_of_cell? w ad h1) (hno _)) h1,h2⟩) rfl rfl rfl
  (fun r row h1=>.inl ⟨h1,fun b c hs=>hg.block _ (h.lt h1 hs) (hno _)⟩) h.inj h.high (Nat.le_trans h.size hg.size)
  ⟨hg.os,hg.tape,hg.output,hg.size,fun k hk' hm=>hg.block k (by omega) (hno _),fun k o ho hbk=>(hg.block k (Array.getElem?_eq_some_iff.1 ho).1 (hno _)).trans ho⟩
theorem vg (hT:aq P T) {t ty e r:Nat} {re:TyR} {s:Nat} {ex:Bool} {α:Type} {enc:α→D} {xs ys:List α} {x y:Operand} {v:AV} (ht:bh T t=some (.slice e)) (he:lk T e=some re) (hs:re.size=s) (hs0:0<s)
  (hx:ay env x=some (.own r 0 xs.length s none)) (hrow:bp h r=some (.ds e s ex enc xs)) (hy:ay env y=some v) (hys:0<ys.length) (hlen:xs.length+ys.length≤maxLen) (hbytes:(xs.length+ys.length)*re.bytes≤140737488355328)
  (hsrc:∀(C:Ctx) (G:Nat→Prop) (st:St) (σ:Place) (w:World) (a:Act),fh env h st→aH C G st σ w a→qT s enc ys w (st.X C.X0 σ) (a.eval y)) :
  an P (.call { callee :=.builtin .append,args := #[x,y],argTypes := #[t,t] }) env h n (some (.sl (xs.length+ys.length))) []:=.of_comes fun C G st σ w a o ho hA hd hst hn=>by
 obtain⟨hx1,hx2⟩:=ao hst (hA.ev hx)
 obtain⟨ad,c1,g,hu,hg,hgc⟩:=hsrc C G st σ w a hA hst
 have hr:=hA.row _ _ hrow
 obtain⟨i,z,hi,hi1,hi2,hi3,hi4⟩:=(hT e re he).info
 obtain⟨ud,hud,hdd⟩:=aS hT ht
 cases hdd
 have hz:z.cells.size=s:=by
  have h1:=Enc.len _ _ (Enc.closed w (fun _=>False) _ (hT e re he).zero)
  rw[hi4]at h1
  simpa[(hT e re he).zsize,hs]using h1
 have hnn:¬G n:=hn n (Nat.le_refl _) (by omega)
 have hgl:(cat g ys.length).length=ys.length*s:=cf _ fun i hi=>(hg i hi).2
 have fin:∀(b c:Nat) (w':World),aH C G st σ w' a →
   (Builtin.append_ #[t,t] o.type #[a.eval x,a.eval y]).run P w=.ok (.slice (some ⟨b,0,none⟩) (xs.length+ys.length) c) w' →
   b5 P C G st n o a w (fun v' u'=>v'=some (.sl (xs.length+ys.length))∧u'=[]):=by
  intro b c w' hsw hrun
  refine⟨_,_,.value (.slice (some ⟨b,0,none⟩) (xs.length+ys.length) c),_,w',_,G,⟨rfl,rfl⟩,?_,.inl rfl,by rw[St.put_upd]; exact hsw.set hd (RelV.sl.2 ⟨_,_,rfl⟩) trivial,fun r hr=>hr,fun r hr=>.inl hr⟩
  simp[execOp,ho,resolve,invoke,builtin,hrun]
 have h63:¬(9223372036854775807<xs.length+ys.length):=by simp only[maxLen]at hlen; omega
 rcases hst.rows r _ hr with ⟨hσ,hxs⟩ | ⟨b,c,cur,hσ,hex,hh,hcs,hle,hcm,f,hf,htk⟩
 ·rcases RelV.own.1 hx1 with ⟨_,_,_,_,hv⟩ | ⟨b,c,_,hσ',_⟩
  ·subst hxs
   have hrun:=run_append_nil (P:=P) w t o.type e i z hud hi hi3 ad ys.length c1 (cat g ys.length) (by rw[hgl,hi1,hs]) hgc hys (by omega) (by rw[hi2]; simp at hbytes; omega)
   exact fin w.heap.size (grownCap w ys.length 0 e) _ (hst.grown (cR w _ _)) (by rw[hv,hu,hrun,List.length_nil,Nat.zero_add])
  ·rw[hσ]at hσ'; cases hσ'
 ·rcases RelV.own.1 hx1 with ⟨hσ',_⟩ | ⟨b',c',a',hσ',hv,_,_,hlec,had⟩
  ·rw[hσ]at hσ'; cases hσ'
  ·rw[hσ]at hσ'
   cases hσ'
   simp only[Option.getD_none,Nat.sub_zero]at hv hlec
   have hfl:(cat f xs.length).length=xs.length*s:=cf _ fun i hi=>(hf i hi).2
   by_cases hroom:xs.length+ys.length≤c
   ·have:a'=⟨b,0,none⟩:=by have:=had (by omega); simpa using this
    subst this
    have hrun:=run_append_room (P:=P) w t o.type e i hud hi b xs.length c cur hh ad ys.length c1 (cat g ys.length) (by rw[hgl,hi1,hs]) hgc (fun u hu=>by
     obtain⟨k,hk,hu⟩:=js _ hu
     exact Enc.one _ _ (hg k hk).1 u hu) hroom (by rw[hgl,hi1,hs,hcs,←Nat.add_mul]; exact Nat.mul_le_mul_right _ hroom)
    have hm:=Nat.mul_le_mul_right s hroom
    rw[Nat.add_mul]at hm
    have hr9:lk st.heap r=some (some (.ds e s ex enc xs)):=by
     unfold St.row at hr
     cases hq:lk st.heap r with
     | none=>rw[hq]at hr; cases hr
     | some q=>rw[hq]at hr; exact congrArg some hr
    have hw:=hst.write (row :=.ds e s ex enc xs) hr hσ hh trivial (new :=?_) (fun w' hk1 hk2 hh'=>.inr ⟨b,c,_,hσ,hex,hh',?_,hle,hcm,f,fun i hi=>⟨hk2 _ _ (hf i hi).1,(hf i hi).2⟩,?_⟩)
    refine fin b c _ (hw.congr (fun t=>rfl) (fun t=>?_) rfl rfl) (by rw[hv,hu,hrun])
    ·simp only[St.upd,List.cons_append,List.nil_append,aQ]
     split
     ·rename_i ht
      subst ht
      rw[hr9]
     ·rfl
    ·simp only[List.size_toArray,List.length_append,List.length_take,List.length_drop,Array.length_toList,hi1,hs,hgl,hcs]
     omega
    ·rw[hi1,hs,htk,List.append_assoc,←hfl]
     exact List.take_left
   ·have hrun:=run_append_grow (P:=P) w t o.type e i z hud hi hi3 a' xs.length c (cat f xs.length) (by rw[hfl,hi1,hs]) (fun j u hj=>by
     have hjl:j<xs.length*s:=by rw[←hfl]; exact (List.getElem?_eq_some_iff.1 hj).1
     have hc0:0<c:=by
      rcases Nat.eq_zero_or_pos c with rfl | h1
      ·have:xs.length=0:=by omega
       rw[this]at hjl; omega
      ·exact h1
     have:a'=⟨b,0,none⟩:=by have:=had hc0; simpa using this
     subst this
     rw[dr,cell_of_row w b _ cur e (0,0) hh]
     rw[←htk,List.getElem?_take,if_pos hjl]at hj
     rw[Nat.zero_add,←Array.getElem?_toList]
     exact hj) ad ys.length c1 (cat g ys.length) (by rw[hgl,hi1,hs]) hgc (by omega) (by omega) (growslice_fits (by omega) (by rw[hi2]; exact hbytes))
    exact fin w.heap.size _ _ (hst.grown (cR w _ _)) (by rw[hv,hu,hrun])
end
end Go.Eng
namespace Go.Proofs.YtpjiiolnfbfcbaaGreatDoor
open Go.Eng Go.Plain
set_option maxHeartbeats 32000000
set_option maxRecDepth 20000
set_option linter.unusedVariables false
attribute [local irreducible] WC RegS RegD SeqQ BlkQ ScoQ RegK CutK Sat SatN FnIs LoopQ an OpIs
theorem pc {P:Program} {T:Tab} {env:Env} {h:Upds} {n:Nat} (hT:aq P T) {t e r r2 m L:Nat} {re:TyR} {s:Nat} {ex ex2:Bool} {cap2:Option Nat} {α:Type} {enc:α→D} {xs:List α} {x y:Operand} (ys:List α) (ht:bh T t=some (.slice e)) (he:lk T e=some re) (hs:Nat.beq re.size s=true) (hs0:Nat.blt 0 s=true)
  (hx:ay env x=some (.own r 0 L s none)) (hL:L=xs.length) (hrow:bp h r=some (.ds e s ex enc xs)) (hy:ay env y=some (.own r2 0 m s cap2)) (hrow2:bp h r2=some (.lits e s m ex2 (dsAV (ys.map enc)))) (hm:ys.length=m) (hsz:∀x∈ys,(enc x).size=s) (hp:0<m)
  (hlen:xs.length+ys.length≤1048576) (hbytes:Nat.ble re.bytes 134217728=true) :
  an P (.call { callee :=.builtin .append,args := #[x,y],argTypes := #[t,t] }) env h n (some (.sl (xs.length+ys.length))) []:=by
 subst hL
 have hb:=Nat.le_of_ble_eq_true hbytes
 refine vg (ty:=0) hT ht he (Nat.eq_of_beq_eq_true hs) (Nat.le_of_ble_eq_true hs0) hx hrow hy (by omega) (by simp only[maxLen]; omega) ?_ (pE ys hy hrow2 hm hsz hp)
 calc (xs.length+ys.length)*re.bytes≤1048576*134217728:=Nat.mul_le_mul hlen hb
  _≤140737488355328:=by decide
theorem nX {r te n:Nat} {ex:Bool} {cap:Option Nat}:Frz r (.ds te 1 ex bE (List.replicate n (0:Int))) (.own r 0 n 1 cap) (.d (encB (List.replicate n 0))):=by
 have e:byI (List.replicate n 0)=List.replicate n (0:Int):=by simp[byI]
 show Frz _ _ _ (.d (.arr 1 bE (byI (List.replicate n 0))))
 rw[e]
 exact Frz.own (by simp)
theorem wa (l:List UInt8) (n:Int):cG (.tup (.acons (.d (strD l)) (.acons (.int .i64 n) .anil))) []:=by
 intro σ w X X'
 refine⟨fun v hv=>?_,fun r row hr=>by simp[lk]at hr⟩
 unfold RelV at hv ⊢
 rw[if_neg (by simp[AV.isAgg])]at hv ⊢
 exact hv
theorem cN (n:Nat):IntKind.u8.wrap (n:Int)=((UInt8.ofNat n).toNat:Int):=by
 have h:=ci (a:=n % 256) (Nat.mod_lt _ (by decide))
 have e:IntKind.u8.wrap (n:Int)=IntKind.u8.wrap ((n % 256:Nat):Int):=by
  simp only[IntKind.wrap,IntKind.bits,IntKind.signed]
  simp
 rw[e,h]
 simp
theorem j3 (i k:Nat) (h:i*k≤1000000000):IntKind.i64.wrap ((i:Int)*(k:Int))=((i*k:Nat):Int):=by rw[←Int.natCast_mul]; exact aO (by omega) (by omega)
theorem oP (k i:Int):DLe (.cons (.sc (.int .u8 k)) (.cons (.sc (.int .i64 i)) (.cons (.sc nil_) .nil))) (bu ⟨k,i,[]⟩):=by
 rintro w X cs ⟨c1,r1,rfl,h1,c2,r2,rfl,h2,c3,r3,rfl,h3,h4⟩
 exact⟨c1,_,rfl,h1,c2,_,rfl,h2,c3,r3,rfl,.inl ⟨rfl,h3.1⟩,h4⟩
theorem kP (k c e:Int) {d:D} {o:POp} (h:DLe d (bu o)):DLe (.cons (u8s k) (.cons (i6 c) (.cons d (.cons (.vec 32 1 bE (List.replicate 32 0)) (.cons (i6 e) .nil))))) (aY ⟨k,c,o,zBk,e⟩):=by
 rintro w X cs ⟨c1,r1,rfl,h1,c2,r2,rfl,h2,c3,r3,rfl,h3,h4⟩
 exact⟨c1,_,rfl,h1,c2,_,rfl,h2,c3,_,rfl,h _ _ _ h3,h4⟩
theorem sy (k c e:Int) (v:List UInt8) {d:D} {o:POp} (h:DLe d (bu o)):DLe (.cons (u8s k) (.cons (i6 c) (.cons d (.cons (fg v) (.cons (i6 e) .nil))))) (aY ⟨k,c,o,v,e⟩):=by
 rintro w X cs ⟨c1,r1,rfl,h1,c2,r2,rfl,h2,c3,r3,rfl,h3,h4⟩
 exact⟨c1,_,rfl,h1,c2,_,rfl,h2,c3,_,rfl,h _ _ _ h3,h4⟩
theorem wm (c n e i r x:Int):DLe (.cons (i6 c) (.cons (i6 n) (.cons (i6 e) (.cons zPOp (.cons (i6 i) (.cons (i6 r) (.cons (.vec 32 1 bE (List.replicate 32 0)) (.cons (i6 x) .nil)))))))) (b8 ⟨c,n,e,zOp,i,r,zBk,x⟩):=by
 rintro w X cs ⟨c1,r1,rfl,h1,c2,r2,rfl,h2,c3,r3,rfl,h3,c4,r4,rfl,h4,h5⟩
 exact⟨c1,_,rfl,h1,c2,_,rfl,h2,c3,_,rfl,h3,c4,_,rfl,hY _ _ _ h4,h5⟩
structure BigR (H:List HEv) (T:List UInt8) (O:List HOp) (o:HOp) (m:Nat):Prop where
 hl:H.length=8192
 tl:T.length≤200000
 text:FnIs Tryz.prog 4 [.d (encH H)] [] (.tup (.acons (.d (strD T)) (.acons (.int .i64 0) .anil))) []
 parse:FnIs Tryz.prog 5 [.d (strD T)] [] (hpR H 0 0) []
 more:FnIs Tryz.prog 5 [.d (strD (T++[99,114,97,115,104,10]))] [] (hpR [] m 3) []
 mv:(!decide ((m:Int)=8193))=false
 ops:FnIs Tryz.prog 7 [.d (encH H)] [] (.tup (.acons (.d (lG O)) (.acons (.int .i64 0) .anil))) []
 ol:O.length=4096
 last:O[((4095:Int)).toNat]?=some o
 num:(!decide (o.number=511))=false
 ret:(!decide (o.returned=8191))=false
theorem xy (i:Nat) (he:i=4096):∃H T O o m,bigH i=H∧BigR H T O o m:=by
 subst he
 have hl:(bigH 4096).length=8192:=fa 4096
 have ht:=pw 4096
 have htx:=ir (bigH 4096) (by omega) (fun _=>by omega) (fun _ x hx=>⟨yX (nn _ x hx),fI (nn _ x hx)⟩) (fun _=>by omega)
 rw[o6,if_pos rfl]at htx
 have hp:=eg (bQ (bigH 4096)) (by omega)
 rw[ve]at hp
 have hp1:=eg (bQ (bigH 4096)++(bF++[10])) (by rw[List.length_append]; have:(bF++[10]).length=6:=rfl; omega)
 rw[sL]at hp1
 have ho:=l8 (bigH 4096) (by omega) (by rw[vY,tF]; decide)
 have hO:opsH (bigH 4096)=(bigS 4096).all:=by rw[opsH,if_pos (by rw[o6]),vY]
 rw[o6,hO]at ho
 exact⟨_,_,_,bigO 4095,8193,rfl,hl,by omega,htx,hp,hp1,by decide,ho,tF 4096,An 4096 4095 (by decide),by decide,by decide⟩
structure LngR (L:List HEv) (T:List UInt8):Prop where
 ll:(8192:Int)≤(L.length:Int)
 text:FnIs Tryz.prog 4 [.d (.arr 38 aY (L.take (8192:Int).toNat))] [] (.tup (.acons (.d (strD T)) (.acons (.int .i64 0) .anil))) []
 tl:T.length+T.length≤9223372036854775807
 tv:(!decide ((T.length:Int)=622592))=false
 parse:FnIs Tryz.prog 5 [.d (strD (T++T))] [] (hpR [] 0 3) []
theorem wv (i:Nat) (he:i=4096+3904):∃L T,lngH i=L∧LngR L T:=by
 have hl:=fC i
 have ht:=pu 4096
 have hll:=fC 4096
 have hk:(lngH i).take (8192:Int).toNat=lngH 4096:=by
  rw[he]
  exact nT 4096 3904
 have htx:=ir (lngH 4096) (by omega) (fun _=>by omega) (fun _ x hx=>⟨yX (sa _ x hx),fI (sa _ x hx)⟩) (fun _=>by omega)
 rw[yN,if_pos rfl,←hk]at htx
 exact⟨_,_,rfl,by omega,htx,by rw[hk]; omega,by rw[hk,ht]; decide,qn _ (by rw[List.length_append,hk]; omega)⟩
abbrev hx (i:Nat):List XE:=[⟨UInt8.ofNat i,UInt8.ofNat (i*3),UInt8.ofNat (i*5)⟩,⟨UInt8.ofNat (i+1),UInt8.ofNat (i*7),UInt8.ofNat i⟩,⟨UInt8.ofNat i,0,UInt8.ofNat i⟩,⟨3,UInt8.ofNat i,0⟩,⟨UInt8.ofNat (i*11),UInt8.ofNat i,1⟩,⟨UInt8.ofNat (i*11),1,UInt8.ofNat i⟩]
theorem qh:FnIs Tryz.prog 3 [] [] (.bool true) []:=by
 refine au aa Tryz.func3 rfl rfl rfl ?_;refine sR<|rC<|nR ?_;refine rC<|zW ?_;refine rC<|zP ?_
 refine wc_inv (fun i:Nat=>⟨[(2,.int .i64 i),(1,.own 65 0 (bigH i).length 38 none)],[(65,some (.ds 32 38 false aY (bigH i)))],72,Tryz.f3.ntmps,64⟩) (fun i=>i≤4096) (fun i=>4096-i) 0 [(65,none)] (Nat.zero_le _)
  (lg zk ⟨⟨rfl,rfl,rfl⟩,trivial⟩) ?_
 intro i hi
 refine bG<|qR ?_;refine zD<|nS ?_
 refine bO rfl (fun h3=>?_) (fun h3=>?_)
 ·have hlt:i<4096:=by have:=of_decide_eq_true h3; omega
  clear h3
  have hbl:=fa i
  have hlen:(bigH i).length+[invF (i % 8),retF (i % 8)].length≤1048576:=by simp only[List.length_cons,List.length_nil]; omega
  have hl1:(bigH i).length+[invF (i % 8),retF (i % 8)].length=(bigH (i+1)).length:=by rw[bigH,List.length_append]
  refine zQ<|aZ<|am<|zD ?_;refine rQ (bH (a:=i) (b:=8) aa rfl rfl rfl (by decide)) ?_;refine rQ iS ?_;refine rQ (an.val_le (aX aa rfl rfl rfl rfl) (kP 1 ((i % 8:Nat):Int) 0 (oP 3 0)) rfl) ?_;refine rC ?_;refine rQ (bH (a:=i) (b:=8) aa rfl rfl rfl (by decide)) ?_;refine rQ (an.val_le (aX aa rfl rfl rfl rfl) (dE 2 ((i % 8:Nat):Int) 0) rfl) ?_;refine aJ (aC (s:=38) aa rfl rfl rfl rfl rfl rfl rfl rfl) rfl ?_;refine aT (fp (s:=38) (enc:=aY) (xs:=bigH i) aa [invF (i % 8),retF (i % 8)] rfl rfl rfl rfl rfl rfl rfl rfl rfl rfl (fun _ _=>rfl) (by decide) hlen rfl) rfl ?_;refine rC<|aA<|zC<|am ?_;refine rC ?_;refine rQ iD ?_;refine rC<|aA ?_
  exact aN (i+1) [(65,some _)] hlt (by omega) (lg ⟨zE,rfl,⟨_,rfl,AVLe.of_eq (congrArg (fun n=>AV.own _ 0 n 38 none) hl1)⟩,rfl,trivial⟩ ⟨zR,trivial⟩)
 have hge:i=4096:=by have:=of_decide_eq_false h3; omega
 clear h3
 obtain⟨H,T,O,o,m,hH,B⟩:=xy i hge
 rw[hH]
 clear hH
 have hlen:H.length+[ch].length≤1048576:=by have:=B.hl; simp only[List.length_cons,List.length_nil]; omega
 have hlong:8192<H.length+1:=by have:=B.hl; omega
 have hT1:T.length+[(99:UInt8),114,97,115,104,10].length≤9223372036854775807:=by have:=B.tl; simp only[List.length_cons,List.length_nil]; omega
 have hlast:=B.last
 have hol:=B.ol
 have e4:=B.ret
 have e3:=B.num
 have e2:(!decide ((O.length:Int)=4096))=false:=by rw[B.ol]; rfl
 have e1:=B.mv
 have e0:(!decide ((H.length:Int)=8192))=false:=by rw[B.hl]; rfl
 refine zX<|sR<|rC ?_;refine rQ (ak B.text rfl rfl (jt rfl ab) (.inr (wa _ _)) (fun _=>rfl)) ?_
 iterate 5 refine rC ?_
 refine nR<|rC ?_;refine rQ (ak B.parse rfl rfl (aj ab) (.inl rfl) (fun _=>rfl)) ?_;iterate 7 refine rC ?_
 refine nR<|rC ?_;refine rQ (aG (a:=T) (b:=[99,114,97,115,104,10]) rfl rfl hT1 rfl) ?_;refine rQ (ak B.more rfl rfl (aj ab) (.inl rfl) (fun _=>rfl)) ?_
 iterate 7 refine rC ?_
 refine nR<|rC ?_;refine rQ (an.val_le (aX aa rfl rfl rfl rfl) (dE 3 0 0) rfl) ?_;refine aJ (aC (s:=38) aa rfl rfl rfl rfl rfl rfl rfl rfl) rfl ?_;refine rQ (pc (s:=38) (enc:=aY) (xs:=H) aa [ch] rfl rfl rfl rfl rfl rfl rfl rfl rfl rfl (fun _ _=>rfl) (by decide) hlen rfl) ?_;refine rQ (ak (uL (H.length+1) hlong) rfl rfl (xC ab) (.inl rfl) (fun _=>rfl)) ?_
 iterate 5 refine rC ?_
 refine nS<|fZ (env':=[(1,_),(3,_),(4,_),(5,_),(6,_),(7,_),(9,_),(10,_),(11,_),(12,_)]) (h':=[]) 65 _ rfl ⟨⟨_,rfl,Frz.own rfl⟩,zE,zE,zE,zE,zE,zE,zE,zE,zE,trivial⟩ trivial<|sR ?_;refine rC ?_;refine rQ (ak B.ops rfl rfl (aj ab) (.inl rfl) (fun _=>rfl)) ?_;iterate 5 refine rC ?_
 refine zW<|zU ?_;refine rP ?_;refine rC ?_;refine rP ?_;refine rC ?_;refine rQ iG ?_;refine rC ?_;refine rP ?_;refine rC ?_;refine rP ?_;refine rC ?_;refine rQ iG ?_;refine rC ?_;refine rP ?_;refine rC ?_;refine rP ?_;refine rQ (bt aa rfl rfl) ?_;refine rP ?_;refine rC ?_;refine rQ iG ?_;refine rC ?_;refine rO ?_;refine rC ?_;refine rO ?_;refine rC ?_;refine rQ iF ?_;refine rC ?_;refine rP ?_;refine rC ?_;refine rP ?_;refine rC ?_;refine rQ iG ?_;refine rC ?_;refine rO ?_;refine rC ?_;refine rO ?_;refine rC ?_;refine rQ iF ?_;refine rC ?_;refine rP ?_;refine rC ?_;refine rP ?_;refine rC ?_;refine rQ iG ?_;refine rC ?_;refine rP ?_;refine rC ?_;refine rP ?_;refine rC ?_;refine rQ iG ?_;refine rC ?_;refine rP ?_;refine rC ?_;refine rP ?_;refine rQ (bt aa rfl rfl) ?_;refine rP ?_;refine rC ?_;refine rQ iG ?_;refine rC ?_;refine rO ?_;refine rC ?_;refine rO ?_;refine rQ (aK (xs:=O) aa rfl rfl rfl rfl rfl (by omega) hlast) ?_;refine rO ?_;refine rC ?_;refine rO ?_;refine rQ iL ?_;refine rO ?_;refine rC ?_;refine rQ iF ?_;refine rC ?_;refine rO ?_;refine rC ?_;refine rO ?_;refine rQ (aK (xs:=O) aa rfl rfl rfl rfl rfl (by omega) hlast) ?_;refine rO ?_;refine rC ?_;refine rO ?_;refine rQ iL ?_;refine rO ?_;refine rC ?_;refine rQ iF ?_;refine zG<|kS<|sR ?_;refine rC<|zW ?_;refine rC<|zP ?_
 refine wc_inv (fun i:Nat=>⟨[(16,.int .i64 i),(15,.own 65 0 (lngH i).length 38 none)],[(65,some (.ds 32 38 false aY (lngH i)))],72,Tryz.f3.ntmps,64⟩) (fun i=>i≤8000) (fun i=>8000-i) 0 [(65,none)] (Nat.zero_le _)
  (lg zk ⟨⟨rfl,rfl,rfl⟩,trivial⟩) ?_
 clear hlen hlong hT1 e0 e1 e2 e3 e4 hlast hol B hge hi
 clear H T O o m i
 intro i hi
 refine bG<|qR ?_;refine zD<|nS ?_
 refine bO rfl (fun h3=>?_) (fun h3=>?_)
 ·have hlt:i<8000:=by have:=of_decide_eq_true h3; omega
  clear h3
  have hbl:=fC i
  have hlen:(lngH i).length+[invW,ch].length≤1048576:=by simp only[List.length_cons,List.length_nil]; omega
  have hl1:(lngH i).length+[invW,ch].length=(lngH (i+1)).length:=by rw[lngH,List.length_append]
  refine zQ<|aZ<|am<|rC ?_;refine rQ (an.frozen (de (enc:=bE) (s:=1) (N:=64) aa (0:Int) rfl rfl rfl rfl rfl rfl rfl (by decide) rfl) nX) ?_;refine rQ iS ?_;refine rQ (an.val_le (aX aa rfl rfl rfl rfl) (kP (o:=⟨2,0,z64⟩) 1 7 0 (DLe.refl _)) rfl) ?_;refine rQ (an.val_le (aX aa rfl rfl rfl rfl) (dE 3 0 0) rfl) ?_;refine aJ (aC (s:=38) aa rfl rfl rfl rfl rfl rfl rfl rfl) rfl ?_;refine aT (fp (s:=38) (enc:=aY) (xs:=lngH i) aa [invW,ch] rfl rfl rfl rfl rfl rfl rfl rfl rfl rfl (fun _ _=>rfl) (by decide) hlen rfl) rfl ?_;refine rC<|aA<|zC<|am ?_;refine rC ?_;refine rQ iD ?_;refine rC<|aA ?_
  exact aN (i+1) [(65,some _)] hlt (by omega) (lg ⟨zE,rfl,⟨_,rfl,AVLe.of_eq (congrArg (fun n=>AV.own _ 0 n 38 none) hl1)⟩,rfl,trivial⟩ ⟨zR,trivial⟩)
 have hge:i=4096+3904:=by have:=of_decide_eq_false h3; omega
 clear h3
 obtain⟨L,T2,hL,R⟩:=wv i hge
 rw[hL]
 clear hL hge
 have hll:=R.ll
 have hT2:=R.tl
 have e0:=R.tv
 refine zX<|fZ (env':=[(15,_)]) (h':=[]) 65 _ rfl ⟨⟨_,rfl,Frz.own rfl⟩,trivial⟩ trivial ?_
 have hz31:(List.replicate 32 (0:Int))[((31:Int)).toNat]?=some 0:=rfl
 refine sR<|rC ?_;refine rQ (gg (xs:=L) aa rfl rfl rfl rfl (by decide) hll) ?_;refine rQ (ak R.text rfl rfl (aj ab) (.inl rfl) (fun _=>rfl)) ?_
 iterate 5 refine rC ?_
 refine nR<|zD ?_;refine rQ (aG (a:=T2) (b:=T2) rfl rfl hT2 rfl) ?_;refine rQ (ak R.parse rfl rfl (aj ab) (.inl rfl) (fun _=>rfl)) ?_;iterate 6 refine rC ?_
 refine zW<|zU ?_;refine rP ?_;refine rC ?_;refine rP ?_;refine rQ (ek aa rfl rfl) ?_;refine rP ?_;refine rC ?_;refine rQ iG ?_;refine rC ?_;refine rO ?_;refine rC ?_;refine rO ?_;refine rC ?_;refine rQ iF ?_;refine rC ?_;refine rP ?_;refine rC ?_;refine rP ?_;refine rC ?_;refine rQ iG ?_;refine zJ<|kS<|sR ?_;refine rN<|nR ?_;refine rQ (aw aa (fun K hk=>⟨by omega,by omega,hk⟩)) ?_;refine bg (aD aa rfl rfl rfl ⟨_,⟨_,⟨rfl,_,1,hz31,⟨rfl,rfl,rfl⟩,rfl⟩,rfl⟩,rfl⟩ rfl)<|nR ?_;refine rQ iS ?_;refine rQ (an.val_le (aX aa rfl rfl rfl rfl) (kP 1 0 0 (oP 1 0)) rfl) ?_;refine rN ?_;refine rW<|nS ?_;refine lc (env':=[(17,.ptr 64 []),(18,.ptr 72 [])]) (h':=[(64,some (.box 29 (.d (fg oneB)))),(72,some (.box 32 (.d (aY gh))))]) 80 [(64,some 352),(72,some 392)] (lg zk ⟨⟨rfl,rfl,_,rfl,bj.of_eq rfl⟩,zR,trivial⟩) ?_
 clear hz31 hll hT2 e0 R hi
 clear L T2 i
 iterate 2 refine bk ?_
 refine aE (by kernel_rfl) ?_;refine dQ [] [] (an.val_le (aX aa rfl rfl rfl rfl) (dE 0 0 0) rfl) ?_;refine dQ [167] [] (an.frozen (aC (s:=38) aa rfl rfl rfl rfl rfl rfl rfl rfl) (Frz.lits1 (enc:=aY) ⟨0,0,zOp,zBk,0⟩ rfl rfl)) ?_;refine dQ [] [] (an.val_le (aX aa rfl rfl rfl rfl) (dE 4 0 0) rfl) ?_;refine dQ [169] [] (an.frozen (aC (s:=38) aa rfl rfl rfl rfl rfl rfl rfl rfl) (Frz.lits1 (enc:=aY) ⟨4,0,zOp,zBk,0⟩ rfl rfl)) ?_;refine dQ [] [] (an.val_le (aX aa rfl rfl rfl rfl) (dE 3 1 0) rfl) ?_;refine dQ [171] [] (an.frozen (aC (s:=38) aa rfl rfl rfl rfl rfl rfl rfl rfl) (Frz.lits1 (enc:=aY) ⟨3,1,zOp,zBk,0⟩ rfl rfl)) ?_;refine dQ [] [] (an.val_le (aX aa rfl rfl rfl rfl) (dE 3 0 1) rfl) ?_;refine dQ [173] [] (an.frozen (aC (s:=38) aa rfl rfl rfl rfl rfl rfl rfl rfl) (Frz.lits1 (enc:=aY) ⟨3,0,zOp,zBk,1⟩ rfl rfl)) ?_;refine dQ [] [] (an.val_le (aX aa rfl rfl rfl rfl) (dE 1 8 0) rfl) ?_;refine dQ [175] [] (an.frozen (aC (s:=38) aa rfl rfl rfl rfl rfl rfl rfl rfl) (Frz.lits1 (enc:=aY) ⟨1,8,zOp,zBk,0⟩ rfl rfl)) ?_;refine dQ [17] [64] iM ?_;refine dQ [177] [] (an.val_le (aX aa rfl rfl rfl rfl) (sy 1 0 0 oneB hY) rfl) ?_;refine dQ [178] [] (an.frozen (aC (s:=38) aa rfl rfl rfl rfl rfl rfl rfl rfl) (Frz.lits1 (enc:=aY) ⟨1,0,zOp,oneB,0⟩ rfl rfl)) ?_;refine dQ [] [] (an.frozen (de (enc:=bE) (s:=1) (N:=65) aa (0:Int) rfl rfl rfl rfl rfl rfl rfl (by decide) rfl) nX) ?_;refine dQ [180] [] iS ?_;refine dQ [181] [] (an.val_le (aX aa rfl rfl rfl rfl) (kP (o:=⟨0,0,List.replicate 65 0⟩) 1 0 0 (DLe.refl _)) rfl) ?_;refine dQ [182] [] (an.frozen (aC (s:=38) aa rfl rfl rfl rfl rfl rfl rfl rfl) (Frz.lits1 (enc:=aY) ⟨1,0,⟨0,0,List.replicate 65 0⟩,zBk,0⟩ rfl rfl)) ?_
 iterate 2 refine dQ [18] [72] iM ?_
 refine dQ [184,185] [] (an.frozen (aC (s:=38) aa rfl rfl rfl rfl rfl rfl rfl rfl) (Frz.lits2 (enc:=aY) gh gh rfl rfl rfl rfl)) ?_;refine dQ [18] [72] iM ?_;refine dQ [] [] (an.val_le (aX aa rfl rfl rfl rfl) (dE 2 0 2) rfl) ?_;refine dQ [187,188] [] (an.frozen (aC (s:=38) aa rfl rfl rfl rfl rfl rfl rfl rfl) (Frz.lits2 (enc:=aY) gh ⟨2,0,zOp,zBk,2⟩ rfl rfl rfl rfl)) ?_;refine dQ [18] [72] iM ?_;refine dQ [17] [64] iM ?_;refine dQ [191] [] (an.val_le (aX aa rfl rfl rfl rfl) (sy 2 0 1 oneB hY) rfl) ?_;refine dQ [190,192] [] (an.frozen (aC (s:=38) aa rfl rfl rfl rfl rfl rfl rfl rfl) (Frz.lits2 (enc:=aY) gh ⟨2,0,zOp,oneB,1⟩ rfl rfl rfl rfl)) ?_;refine dQ [18] [72] iM ?_;refine dQ [] [] iS ?_;refine dQ [195] [] (an.val_le (aX aa rfl rfl rfl rfl) (kP 2 0 0 (oP 0 1)) rfl) ?_;refine dQ [194,196] [] (an.frozen (aC (s:=38) aa rfl rfl rfl rfl rfl rfl rfl rfl) (Frz.lits2 (enc:=aY) gh ⟨2,0,⟨0,1,[]⟩,zBk,0⟩ rfl rfl rfl rfl)) ?_;refine dQ [18] [72] iM ?_;refine dQ [] [] (an.val_le (aX aa rfl rfl rfl rfl) (dE 3 0 0) rfl) ?_;refine dQ [] [] (an.val_le (aX aa rfl rfl rfl rfl) (dE 2 0 0) rfl) ?_;refine dQ [198,199,200] [] (an.frozen (aC (s:=38) aa rfl rfl rfl rfl rfl rfl rfl rfl) (Frz.litsN (enc:=aY) [gh,ch,⟨2,0,zOp,zBk,0⟩] rfl (fun _ _=>rfl))) ?_;refine dQ [] [] iS ?_;refine dQ [202] [] (an.val_le (aX aa rfl rfl rfl rfl) (kP 1 0 0 (oP 3 0)) rfl) ?_;refine dQ [17] [64] iM ?_;refine dQ [204] [] (an.val_le (aX aa rfl rfl rfl rfl) (sy 2 0 0 oneB hY) rfl) ?_;refine dQ [203,205] [] (an.frozen (aC (s:=38) aa rfl rfl rfl rfl rfl rfl rfl rfl) (Frz.lits2 (enc:=aY) ⟨1,0,eU,zBk,0⟩ ⟨2,0,zOp,oneB,0⟩ rfl rfl rfl rfl)) ?_;refine dQ [168,170,172,174,176,179,183,186,189,193,197,201,206] [] (an.frozen (aC (s:=1) aa rfl rfl rfl rfl rfl rfl rfl rfl) (Frz.litsN (enc:=encH) kv rfl (fun _ _=>rfl))) ?_;refine dQ [207] [] iE ?_;refine dC [] [] ?_;refine aB (by kernel_rfl)<|aM<|aZ ?_
 have hSl:kv.length=13:=rfl
 have hbad:=ue
 have hok:=vy
 generalize kv=S at *
 refine wc_inv (fun i:Nat=>⟨[(209,.int .i64 i),(208,.int .i64 S.length),(207,.d (.arr 1 encH S))],[],72,Tryz.f3.ntmps,64⟩) (fun i=>i≤S.length) (fun i=>S.length-i) 0 [] (Nat.zero_le _)
  (lg zj trivial) ?_
 intro i hi
 refine bG<|sR ?_;refine rC<|nQ ?_
 refine bO rfl (fun h3=>?_) (fun h3=>?_)
 ·have hlt:i<S.length:=by have:=of_decide_eq_true h3; omega
  clear h3
  obtain⟨x,hx⟩:∃e,S[i]?=some e:=⟨_,List.getElem?_eq_getElem hlt⟩
  have hgx:S[((i:Int)).toNat]?=some x:=by rw[Int.toNat_natCast]; exact hx
  obtain⟨hb,hx3⟩:=hbad x (List.mem_of_getElem? hx)
  have hck:=df x (by omega)
  rw[hb]at hck
  have hlc:=qi x (hok x (List.mem_of_getElem? hx)) (i:Int) (by omega) (by omega)
  have hw225:IntKind.i64.wrap ((x.length:Int)-1)=(x.length:Int)-1:=aO (by omega) (by omega)
  have e1:(!decide ((x.length:Int)-1=(x.length:Int)-1))=false:=by rw[dT rfl]; rfl
  refine zQ<|zS<|rC ?_;refine rQ (aF (xs:=S) aa rfl rfl rfl rfl rfl (by omega) hgx) ?_;refine rQ iL ?_;refine zD<|nR ?_;refine rC ?_;refine rQ (ak hck rfl rfl (aj ab) (.inl rfl) (fun _=>rfl)) ?_;iterate 5 refine rC ?_
  refine nR<|zU ?_;refine rP ?_;refine rC ?_;refine rP ?_;refine rC ?_;refine rP ?_;refine rQ iE ?_;refine rP ?_;refine rQ (cH (m:=(x.length:Int)-1) aa rfl rfl hw225) ?_;refine rP ?_;refine rC ?_;refine rQ iG ?_;refine rC ?_;refine rO ?_;refine rC ?_;refine rO ?_;refine rC ?_;refine rO ?_;refine rQ (ak hlc rfl rfl (aj (aj ab)) (.inl rfl) (fun _=>rfl)) ?_;refine rO ?_;refine rC ?_;refine rQ iF ?_;refine zJ<|aL<|zC<|am ?_;refine rQ iD ?_;refine rC<|aA ?_
  exact aN (i+1) [] hlt (by omega) (lg zj trivial)
 clear h3
 refine zX<|qR<|rC<|zP ?_
 refine wc_inv (fun i:Nat=>⟨[(23,.int .i64 i)],[],72,Tryz.f3.ntmps,64⟩) (fun i=>i≤200) (fun i=>200-i) 0 [] (Nat.zero_le _)
  (lg zl trivial) ?_
 clear hi hSl hbad hok
 clear i S
 intro i hi
 refine bG<|qR ?_;refine zD<|nS ?_
 refine bO rfl (fun h3=>?_) (fun h3=>?_)
 ·have hlt:i<200:=by have:=of_decide_eq_true h3; omega
  clear h3
  have hw249:IntKind.i64.wrap ((i:Int)+1)=((i+1:Nat):Int):=by rw[aO (by omega) (by omega)]; omega
  have h295:((i % 7:Nat):Int)≤((hx i).length:Int):=by show _≤(6:Int); omega
  refine zQ<|zS<|rC ?_;refine rQ (bf (m:=((UInt8.ofNat (i)).toNat:Int)) aa rfl rfl rfl (cN (i))) ?_;refine rC ?_;refine rQ (fk (m:=((i*3:Nat):Int)) aa rfl rfl (j3 i 3 (by omega))) ?_;refine rQ (bf (m:=((UInt8.ofNat (i*3)).toNat:Int)) aa rfl rfl rfl (cN (i*3))) ?_;refine rC ?_;refine rQ (fk (m:=((i*5:Nat):Int)) aa rfl rfl (j3 i 5 (by omega))) ?_;refine rQ (bf (m:=((UInt8.ofNat (i*5)).toNat:Int)) aa rfl rfl rfl (cN (i*5))) ?_;refine rQ iS ?_;refine rC ?_;refine rQ (cJ (m:=((i+1:Nat):Int)) aa rfl rfl hw249) ?_;refine rQ (bf (m:=((UInt8.ofNat (i+1)).toNat:Int)) aa rfl rfl rfl (cN (i+1))) ?_;refine rC ?_;refine rQ (fk (m:=((i*7:Nat):Int)) aa rfl rfl (j3 i 7 (by omega))) ?_;refine rQ (bf (m:=((UInt8.ofNat (i*7)).toNat:Int)) aa rfl rfl rfl (cN (i*7))) ?_;refine rC ?_;refine rQ (bf (m:=((UInt8.ofNat (i)).toNat:Int)) aa rfl rfl rfl (cN (i))) ?_;refine rQ iS ?_;refine rC ?_;refine rQ (bf (m:=((UInt8.ofNat (i)).toNat:Int)) aa rfl rfl rfl (cN (i))) ?_;refine rC ?_;refine rQ (bf (m:=((UInt8.ofNat (i)).toNat:Int)) aa rfl rfl rfl (cN (i))) ?_;refine rQ iS ?_;refine rC ?_;refine rQ (bf (m:=((UInt8.ofNat (i)).toNat:Int)) aa rfl rfl rfl (cN (i))) ?_;refine rQ iS ?_;refine rC ?_;refine rQ (fk (m:=((i*11:Nat):Int)) aa rfl rfl (j3 i 11 (by omega))) ?_;refine rQ (bf (m:=((UInt8.ofNat (i*11)).toNat:Int)) aa rfl rfl rfl (cN (i*11))) ?_;refine rC ?_;refine rQ (bf (m:=((UInt8.ofNat (i)).toNat:Int)) aa rfl rfl rfl (cN (i))) ?_;refine rQ iS ?_;refine rC ?_;refine rQ (fk (m:=((i*11:Nat):Int)) aa rfl rfl (j3 i 11 (by omega))) ?_;refine rQ (bf (m:=((UInt8.ofNat (i*11)).toNat:Int)) aa rfl rfl rfl (cN (i*11))) ?_;refine rC ?_;refine rQ (bf (m:=((UInt8.ofNat (i)).toNat:Int)) aa rfl rfl rfl (cN (i))) ?_;refine rQ iS ?_;refine rQ (an.frozen (aC (s:=3) aa rfl rfl rfl rfl rfl rfl rfl rfl) (Frz.litsN (enc:=xa) (hx i) rfl (fun _ _=>rfl))) ?_;refine rQ iS ?_;refine rN ?_;refine rW<|nQ ?_;refine aE (by kernel_rfl) ?_;refine dQ [24] [408] iM ?_;refine dQ [279] [] (ak (uE (hx i)) rfl rfl (aj ab) (.inl rfl) (fun _=>rfl)) ?_;refine dC [280] [] ?_;refine dC [281] [] ?_;refine ae [282,24] [408] rfl rfl rfl rfl (bc aa rfl rfl rfl rfl) ?_;refine ae [282,23] [] rfl rfl rfl rfl (aw aa (fun K hk=>hk)) ?_;refine ae [282,284] [] rfl rfl rfl rfl (bf (m:=((UInt8.ofNat (i)).toNat:Int)) aa rfl rfl rfl (cN (i))) ?_;refine ae [282,283,285] [] rfl rfl rfl rfl (ak (sk (hx i) (UInt8.ofNat i)) rfl rfl (aj (aj ab)) (.inl rfl) (fun _=>rfl)) ?_;refine ae [282,286] [] rfl rfl rfl rfl (aw aa (fun K hk=>hk)) ?_;refine dQ [282,287] [] iG ?_;refine dC [288] [] ?_;refine ae [289,24] [408] rfl rfl rfl rfl (bc aa rfl rfl rfl rfl) ?_;refine ae [289,24] [] rfl rfl rfl rfl (aw aa (fun K hk=>hk)) ?_;refine ae [289,291] [408] rfl rfl rfl rfl (bc aa rfl rfl ⟨_,rfl,rfl⟩ rfl) ?_;refine ae [289,23] [] rfl rfl rfl rfl (aw aa (fun K hk=>hk)) ?_;refine ae [289,293] [] rfl rfl rfl rfl (bH (a:=i) (b:=7) aa rfl rfl rfl (by decide)) ?_;refine ae [289,292,294] [] rfl rfl rfl rfl (gg (xs:=hx i) aa rfl rfl rfl rfl (by omega) h295) ?_;refine ae [289,295] [] rfl rfl rfl rfl (aX aa rfl rfl rfl rfl) ?_;refine ae [289,290,296] [] rfl rfl rfl rfl (ak (sj (hx i) ((hx i).take (((i % 7:Nat):Int)).toNat)) rfl rfl (aj (aj ab)) (.inl rfl) (fun _=>rfl)) ?_;refine ae [289,297] [] rfl rfl rfl rfl (aw aa (fun K hk=>hk)) ?_;refine dQ [289,298] [] iG ?_;refine dC [299] [] ?_;refine ae [300,24] [408] rfl rfl rfl rfl (bc aa rfl rfl rfl rfl) ?_;refine ae [300,23] [] rfl rfl rfl rfl (aw aa (fun K hk=>hk)) ?_;refine ae [300,302] [] rfl rfl rfl rfl (bH (a:=i) (b:=3) aa rfl rfl rfl (by decide)) ?_;refine ae [300,23] [] rfl rfl rfl rfl (aw aa (fun K hk=>hk)) ?_;refine ae [300,303,304] [] rfl rfl rfl rfl (an.val_le (aX aa rfl rfl rfl rfl) (wm 0 0 ((i % 3:Nat):Int) (i:Int) 0 0) rfl) ?_;refine ae [300,23] [] rfl rfl rfl rfl (aw aa (fun K hk=>hk)) ?_;refine ae [300,306] [] rfl rfl rfl rfl (bH (a:=i) (b:=5) aa rfl rfl rfl (by decide)) ?_;refine ae [300,307] [] rfl rfl rfl rfl (an.val_le (aX aa rfl rfl rfl rfl) (wm 0 0 1 3 ((i % 5:Nat):Int) 0) rfl) ?_;refine ae [300,301,305,308] [] rfl rfl rfl rfl (ak (oU (hx i) ⟨0,0,((i % 3:Nat):Int),zOp,(i:Int),0,zBk,0⟩ ⟨0,0,1,zOp,3,((i % 5:Nat):Int),zBk,0⟩) rfl rfl (aj (aj (aj ab))) (.inl rfl) (fun _=>rfl)) ?_;refine ae [300,309] [] rfl rfl rfl rfl (aw aa (fun K hk=>hk)) ?_;refine dQ [300,310] [] iG ?_;refine aB (by kernel_rfl)<|aM ?_;refine wG<|aL<|zC<|am ?_;refine rC ?_;refine rQ iD ?_;refine rC<|aA ?_
  exact aN (i+1) [] hlt (by omega) (lg zl trivial)
 refine zX<|sR<|rQ (ak cF rfl rfl ab (.inl rfl) (fun _=>rfl)) ?_;refine rC<|zT ?_
 exact⟨trivial,[],lf⟩
end Go.Proofs.YtpjiiolnfbfcbaaGreatDoor
