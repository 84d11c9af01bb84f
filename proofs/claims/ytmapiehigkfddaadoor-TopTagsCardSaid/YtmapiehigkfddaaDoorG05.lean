/- Texts of the proof: V29, VT, V30, V31, Eng94, V32, TO. -/
import Derived.Test.YtmapiehigkfddaaDoorG04
import Derived.Test.YtmapiehigkfddaaDoorG02
import Derived.Test.YtmapiehigkfddaaDoorG03

set_option linter.unusedVariables false
set_option linter.unusedSimpArgs false
set_option linter.unusedSectionVars false
set_option maxRecDepth 10000

namespace Go.Proofs.YtmapiehigkfddaaDoor
open Go.Eng Go.Plain
set_option maxHeartbeats 32000000
set_option maxRecDepth 20000
attribute [local irreducible] WC RegS RegD SeqQ BlkQ ScoQ RegK CutK Sat SatN FnIs LoopQ ab OpIs
abbrev encN (k:Nat):D :=.sc (.int .i64 k)
abbrev plU (u:LUse):fZ:=⟨u.key,u.range.nonce⟩
abbrev rR (r:Int×Int×Bool):AV :=.tup (.acons (.int .i64 r.1) (.acons (.int .i64 r.2.1) (.acons (.bool r.2.2) .anil)))
theorem kB (u:LUse) (hv:bZ u=true) (ho:jg u.range u.range=true):FnIs Tryd.prog 26 [.d (di [u,u])] [] (rR (0,1,true)) []:=by
 have hC:=gh [u,u]
 rw[show chkL [u,u]=0 by unfold chkL; rw[if_neg (show ¬(([u,u].length:Nat):Int)>65536 by show ¬((2:Nat):Int)>65536; decide),if_pos (by simp only[List.all_cons,hv,List.all_nil]; rfl)]]at hC
 have hO:=l4 u.range u.range
 rw[ho]at hO
 have hf0:dy (plU u) ([]:List (fZ×AV)) 0=none:=rfl
 have hf1:dy (plU u) [(plU u,AV.own 80 0 1 1 none)] 0=some (0,.own 80 0 1 1 none):=by simp[dy]
 have e0:decide ((0:Int)<2)=true:=rfl
 have e1:decide ((1:Int)<2)=true:=rfl
 have e2:decide ((0:Int)<0)=false:=rfl
 have e3:decide ((0:Int)<1)=true:=rfl
 refine aw aa Tryd.func26 rfl rfl rfl ?_;refine sR<|rN ?_;refine zU<|nS<|fg<|qR ?_;refine rQ iM ?_;refine rQ (aq hC rfl rfl (am aj) (.inl rfl) (fun _=>rfl)) ?_;refine rC<|nS ?_;refine wG<|kS<|sR ?_;refine aS (o8) rfl ?_;refine rC<|nQ<|km<|bm<|qR ?_;refine rC ?_;refine rQ iB ?_;refine rQ iE ?_;refine rC<|zP ?_
 refine wc_inv (fun q:Bool=>match q with | false=>⟨[(18,.int .i64 0),(17,.int .i64 2),(16,.d (.arr 20 cm [u,u])),(1,.ptr 64 []),(2,.int .i64 0),(3,.int .i64 0),(4,.bool false),(5,.mapr 72)],[(64,some (.box 76 (.d (di [u,u])))),(72,some (.mo (mapC iq [])))],100000,Tryd.f26.ntmps,64⟩ | true=>⟨[(18,.int .i64 1),(17,.int .i64 2),(16,.d (.arr 20 cm [u,u])),(1,.ptr 64 []),(2,.int .i64 0),(3,.int .i64 0),(4,.bool false),(5,.mapr 72)],[(64,some (.box 76 (.d (di [u,u])))),(72,some (.mo (mapC iq [(plU u,.own 80 0 1 1 none)]))),(80,some (.ds 3 1 false encN [0]))],100000,Tryd.f26.ntmps,64⟩) (fun _=>True) (fun q=>if q then 0 else 1) false [(72,some 120)] trivial
  (lg ze ⟨zR,zR,trivial⟩) ?_
 intro q _
 cases q with
 | false =>
  refine bk<|sR ?_;refine rC<|nQ ?_;refine wV<|zQ<|zS ?_;refine rC ?_;refine rQ (bq (el:=u) aa rfl rfl rfl rfl rfl (by decide) rfl) ?_;refine rQ iL ?_;refine rN ?_;refine rC ?_;refine rW<|nR ?_;refine rC ?_;refine rQ iB ?_;refine zD ?_;refine rQ iB ?_;refine rQ iS ?_;refine rN ?_;refine rW<|zW ?_;refine rC ?_;refine rQ iM ?_;refine rQ (kP (k:=plU u) o9 Tryd.underlying122 iX rfl rfl rfl hf0) ?_;refine rQ (jU aa rfl rfl) ?_;refine rC<|zP ?_;refine mH<|sR ?_;refine rC<|nQ ?_;refine wG<|bS<|da<|cw<|dD<|bm<|ao ?_;refine rC ?_;refine rQ iM ?_;refine rC ?_;refine aS (aH (s:=1) aa rfl rfl rfl rfl rfl rfl rfl rfl) rfl ?_;refine aS (mg (k:=plU u) o9 Tryd.underlying122 iX rfl rfl rfl hf0) rfl ?_;refine rC ?_;refine aS (iH (enc:=encN) (s:=1) aa 0 rfl rfl rfl rfl rfl rfl rfl rfl) rfl ?_;refine rC ?_;refine cu rfl (la (by exact Nat.zero_lt_one) rfl rfl rfl rfl) rfl rfl<|aA<|zC<|ao ?_;refine rQ iD ?_;refine rC<|aA ?_;refine aT true [(64,some 64),(72,some 72),(80,some 100216)] trivial (by decide) ?_
  exact lg ze ⟨zR,zR,zR,trivial⟩
 | true =>
  refine bk<|sR ?_;refine rC<|nQ ?_;refine wV<|zQ<|zS ?_;refine rC ?_;refine rQ (bq (el:=u) aa rfl rfl rfl rfl rfl (by decide) rfl) ?_;refine rQ iL ?_;refine rN ?_;refine rC ?_;refine rW<|nR ?_;refine rC ?_;refine rQ iB ?_;refine zD ?_;refine rQ iB ?_;refine rQ iS ?_;refine rN ?_;refine rW<|zW ?_;refine rC ?_;refine rQ iM ?_;refine rQ (kO (k:=plU u) o9 Tryd.underlying122 rfl rfl rfl hf1) ?_;refine rQ (eK aa rfl rfl) ?_;refine rC<|zP ?_;refine mH<|sR ?_;refine rC<|nQ ?_;refine wV<|kS<|br<|zS ?_;refine rQ (ca aa rfl rfl rfl rfl rfl (by decide) (by decide)) ?_;refine rQ (bC (row :=.ds 3 1 false encN [0]) aa rfl rfl ⟨rfl,0,rfl,_,rfl,rfl⟩ rfl) ?_;refine rC<|nQ ?_;refine aR (by kernel_rfl) ?_;refine dC [1] [] ?_;refine dQ [37] [64] iB ?_;refine dC [10] [] ?_;refine dQ [38,39] [] (bq (el:=u) aa rfl rfl rfl rfl rfl (by decide) rfl) ?_;refine dC [40] [] ?_;refine dQ [41] [] iL ?_;refine dC [7] [] ?_;refine dQ [43] [100032] iB ?_;refine dQ [42,44] [] (aq hO rfl rfl (am (am aj)) (.inl rfl) (fun _=>rfl)) ?_;refine aM (by kernel_rfl)<|bm ?_;refine wV<|sR ?_;iterate 5 refine rC ?_
  refine nS<|bS<|jB rfl<|da<|cw ?_;refine jB rfl<|da ?_;refine jB rfl<|da<|cw<|dD<|bm<|sR ?_;iterate 6 refine rC ?_
  refine zT<|mO ?_
  exact⟨trivial,[],lf⟩
end Go.Proofs.YtmapiehigkfddaaDoor
namespace Go.Plain
def subI (b:UInt8):Nat→UInt8
 | 0=>b
 | i+1=>sub8 (subI b i)
end Go.Plain
namespace Go.Proofs.YtmapiehigkfddaaDoor
open Go.Eng Go.Plain
set_option maxHeartbeats 32000000
set_option maxRecDepth 20000
attribute [local irreducible] WC RegS RegD SeqQ BlkQ ScoQ RegK CutK Sat SatN FnIs LoopQ ab OpIs
theorem nv {e:List UInt8} {s c:Nat} {b:List UInt8} (_:True):strX e s c (strX e s c b)=b:=by
 refine List.ext_getElem? fun j=>?_
 by_cases h:j<b.length
 ·rw[gR (by rw[cD]; exact h),List.getElem?_eq_getElem h]
  simp only[strB]
  rw[gR h]
  simp only[strB,List.getElem?_eq_getElem h,Option.getD_some,UInt8.xor_assoc,UInt8.xor_self,UInt8.xor_zero]
 ·rw[List.getElem?_eq_none (by rw[cD,cD]; omega),List.getElem?_eq_none (by omega)]
def key1:List UInt8:=1::List.replicate 31 0
def sAbc:List UInt8:=[97,98,99]
def pl1:List UInt8:=1::List.replicate 30 0++[2]
theorem rf:(digD [sAbc])[0]?=some 186:=by decide+kernel
theorem rI:sub8 83=237:=by decide+kernel
theorem so (a b:List Int):EqOk Tryd.prog 2 60 (.vec 32 1 aF a) (.vec 32 1 aF b) (decide (a=b)):=
 mf aa (P:=Tryd.prog) Tryd.underlying60 rfl (fun _=>rfl) rfl (fun _ _=>io (P:=Tryd.prog) Tryd.underlying5)
abbrev use1 (e:List UInt8):LUse:=⟨byI e,⟨⟨1,0⟩,0,1⟩⟩
theorem qJ {r:Nat} {ex:Bool} {l:List LUse} {n:Nat} {c:Option Nat} (hn:n=l.length):Frz r (rowU ex l) (lZ r n c) (.d (di l)):=Frz.dcons (Frz.own hn) (Frz.refl _)
theorem ru (l:List LUse) (u:LUse) (h0:chkL l=0) (hv:bZ u=true) (hk:l.length+1≤65536):FnIs Tryd.prog 25 [.d (di l),.d (cm u)] [] (.tup (.acons (.d (di (l++[u]))) (.acons (.d (i6 0)) .anil))) []:=
 (qL l u h0 hv hk).freeze_out 64 _ rfl (Frz.tup (FrzT.cons (qJ rfl) (FrzT.cons (Frz.refl _) FrzT.nil))) trivial
theorem qK:DLe (.cons (.sc (.slice none 0 0)) .nil) (di []):=DLe.cons (DLe.nil_arr _ _) (DLe.refl _)
theorem eJ:FnIs Tryd.prog 5 [] [] (.bool true) []:=by
 have hvol:=ns key1 rfl
 have hsub:=fI 83
 rw[rI]at hsub
 have habc:=kK [sAbc] (by decide) (by decide)
 obtain⟨G,hG⟩:∃G,digD [sAbc]=G:=⟨_,rfl⟩
 have hGz:=rf
 rw[hG]at habc hGz
 obtain⟨e,he⟩:∃e,kEnc key1=e:=⟨_,rfl⟩
 obtain⟨m,hm⟩:∃m,kMac key1=m:=⟨_,rfl⟩
 have hel:e.length=16:=by rw[←he,kEnc,fx]
 have hml:m.length=32:=by rw[←hm,kMac,fx]
 rw[he,hm]at hvol
 have hseal:=qa e m 7 1 0 pl1 hel hml (by decide) (by decide) (by decide) rfl
 have hopen:=qq e m 7 1 0 (strX e 1 0 pl1) hel hml (by decide) (by decide) (by decide) (by rw[cD]; rfl)
 rw[nv trivial]at hopen
 rw[kv]at hseal
 obtain⟨T,hT⟩:∃T,macD m [msgB 7 1 0 (strX e 1 0 pl1)]=T:=⟨_,rfl⟩
 have hTl:T.length=32:=by rw[←hT,cH]
 rw[hT]at hseal hopen
 obtain⟨X,hX⟩:∃X,strX e 1 0 pl1=X:=⟨_,rfl⟩
 rw[hX]at hseal hopen
 have hput:=qj 1 0 T (by decide) (by decide) hTl
 have hget:=qP T hTl
 have hRl:=kF (s:=1) (c:=0) hTl
 obtain⟨R,hR⟩:∃R,recB 1 0 T=R:=⟨_,rfl⟩
 rw[hR]at hput hget hRl
 have hRl2:((byI R).length:Int)=45:=by rw[aB,hRl]; rfl
 have hbeq:=(so (byI pl1) (byI pl1)).cast (dT rfl)
 have hneq:=(mX ⟨1,0⟩ ⟨1,0⟩).cast (dT rfl)
 have h45:DLe (.sc (.int .i64 ((byI R).length:Int))) (.sc (.int .i64 45)):=by rw[hRl2]; exact DLe.refl _
 have hadd1:=ru [] (use1 e) rfl rfl (by decide)
 have hadd2:=ru [use1 e] (use1 e) (by unfold chkL; rfl) rfl (show 2≤65536 by decide)
 have hrep:=kB (use1 e) rfl (by unfold jg; rfl)
 have hz0:(byI G)[(0:Int).toNat]?=some ((186:UInt8).toNat:Int):=bA hGz
 have hz:Sub (encV 32 G) [.idx (0:Int).toNat 1] (u8s 186):=⟨rfl,_,hz0,rfl⟩
 refine aw aa Tryd.func5 rfl rfl rfl ?_;refine sR<|rC<|nR ?_;refine rQ ((co aa rfl rfl rfl rfl rfl rfl rfl).val_le (DLe.chain_vec (enc:=aF) (fun _ _ _ _ h=>by rw[h.1]; rfl) (byI key1) _ rfl) rfl) ?_;refine rQ (aq hvol rfl rfl (am aj) (.inl rfl) (fun _=>rfl)) ?_;refine rN ?_;refine rW<|nR ?_;refine rQ (aq qw rfl rfl (am (am (am aj))) (.inl rfl) (fun _=>rfl)) ?_;refine zU ?_;refine rN ?_;refine rW ?_;refine rC<|nR ?_;refine rQ iM ?_;refine rQ (aq l5 rfl rfl (am aj) (.inl rfl) (fun _=>rfl)) ?_;refine zU ?_;refine rN ?_;refine rW ?_;refine rC<|nR ?_;refine rQ iM ?_;refine rQ (aq o4 rfl rfl (am (am aj)) (.inl rfl) (fun _=>rfl)) ?_;iterate 4 refine rC ?_
 iterate 2 refine rN ?_
 iterate 2 refine rW ?_
 refine rC<|nR ?_;refine rQ ((co aa rfl rfl rfl rfl rfl rfl rfl).val_le (DLe.chain_vec (enc:=aF) (fun _ _ _ _ h=>by rw[h.1]; rfl) (byI pl1) _ rfl) rfl) ?_;refine rN ?_;refine rW<|nR ?_;iterate 3 refine rQ iM ?_
 refine rQ (aq hseal rfl rfl (am (am (am (am aj)))) (.inl rfl) (fun _=>rfl)) ?_;iterate 4 refine rC ?_
 iterate 2 refine rN ?_
 iterate 2 refine rW ?_
 refine rC<|zW ?_;refine zU ?_;refine rP ?_;refine rC ?_;refine rP ?_;refine rC ?_;refine rQ iG ?_;refine rC ?_;refine rP ?_;refine rC ?_;refine rP ?_;refine rC ?_;refine rQ iG ?_;refine rC ?_;refine rP ?_;refine rC ?_;refine rP ?_;refine rC ?_;refine rQ iG ?_;refine rC ?_;refine rP ?_;refine rQ iM ?_;refine rP ?_;refine rQ iS ?_;refine rP ?_;refine rQ (fp rfl rfl rfl rfl (by kernel_rfl) (by decide) hneq) ?_;refine rQ iG ?_;refine rC ?_;refine rP ?_;refine rC ?_;refine rP ?_;refine rQ iB ?_;refine rP ?_;refine rQ iE ?_;refine rP ?_;refine rC ?_;refine rQ iG ?_;refine rC ?_;refine rP ?_;refine rC ?_;refine rP ?_;refine rQ iB ?_;refine rP ?_;refine rQ (bq (el:=(1:Int)) aa rfl rfl rfl rfl rfl (by decide) rfl) ?_;refine rP ?_;refine rQ iL ?_;refine rP ?_;refine rC ?_;refine rQ iG ?_;refine zJ<|kS<|sR ?_;iterate 2 refine rQ iM ?_
 refine rQ iS ?_;refine rQ (aq hput rfl rfl (am aj) (.inl rfl) (fun _=>rfl)) ?_;iterate 5 refine rC ?_
 refine nR<|rC ?_;refine rQ (aq hget rfl rfl (am aj) (.inl rfl) (fun _=>rfl)) ?_;refine zU ?_;refine rN ?_;refine rW ?_;refine rC<|nR ?_;refine rQ iM ?_;refine rC ?_;refine rQ iB ?_;refine rQ iM ?_;refine rC ?_;refine rQ iB ?_;refine rQ (aq hopen rfl rfl (am (am (am (am (am aj))))) (.inl rfl) (fun _=>rfl)) ?_;refine zU ?_;refine rN ?_;refine rW ?_;refine rC<|zW ?_;refine zU ?_;refine rP ?_;refine rC ?_;refine rP ?_;refine rC ?_;refine rQ iG ?_;refine rC ?_;refine rP ?_;refine rC ?_;refine rP ?_;refine rC ?_;refine rQ iG ?_;refine rC ?_;refine rP ?_;refine rQ iM ?_;refine rP ?_;refine rQ iM ?_;refine rP ?_;refine rQ (fp rfl rfl rfl rfl (by kernel_rfl) (by decide) hbeq) ?_;refine rQ iG ?_;refine rC ?_;refine rP ?_;refine rC ?_;refine rP ?_;refine rQ ((mY aa rfl rfl).val_le h45 rfl) ?_;refine rP ?_;refine rC ?_;refine rQ iG ?_;refine zJ<|kS<|sR ?_;refine rQ iM ?_;refine rQ (aq (pT 1 0) rfl rfl (am (am (am aj))) (.inl rfl) (fun _=>rfl)) ?_;refine zU ?_;refine rN ?_;refine rW ?_;refine rC<|nR ?_;refine rQ iS ?_;refine rC ?_;refine rQ iB ?_;refine rQ iM ?_;refine rQ iS ?_;refine rQ (aq hadd1 rfl rfl (rr rfl trivial qK (am aj)) (.inl rfl) (fun _=>rfl)) ?_;refine zU ?_;refine rN ?_;refine rW ?_;refine rC<|nR ?_;refine rQ iM ?_;refine rC ?_;refine rQ iB ?_;refine rQ iM ?_;refine rQ iS ?_;refine rQ (aq hadd2 rfl rfl (am (am aj)) (.inl rfl) (fun _=>rfl)) ?_;refine zU ?_;refine rN ?_;refine rW ?_;refine rC<|nR ?_;refine rQ iM ?_;refine rQ (aq hrep rfl rfl (am aj) (.inl rfl) (fun _=>rfl)) ?_;iterate 7 refine rC ?_
 refine nR<|zU ?_;refine rP ?_;refine rC ?_;refine rP ?_;refine rQ iB ?_;refine rP ?_;refine rC ?_;refine rQ iU ?_;refine rC ?_;refine rP ?_;refine rC ?_;refine rP ?_;refine rC ?_;refine rQ iU ?_;refine rC ?_;refine rP ?_;refine rC ?_;refine rP ?_;refine rC ?_;refine rQ iU ?_;refine rC ?_;refine rP ?_;refine rC ?_;refine rP ?_;refine rC ?_;refine rQ iU ?_;refine rC ?_;refine rP ?_;refine rC ?_;refine rP ?_;refine rC ?_;refine rQ iU ?_;refine rC ?_;refine rP ?_;refine rC ?_;refine rQ iU ?_;refine rC ?_;refine rP ?_;refine rQ (aq hsub rfl rfl (am aj) (.inl rfl) (fun _=>rfl)) ?_;refine rP ?_;refine rC ?_;refine rQ iU ?_;refine rC ?_;refine rP ?_;refine aS (aH (s:=1) aa rfl rfl rfl rfl rfl rfl rfl rfl) rfl ?_;refine rP ?_;refine cu (dst:=some 189) rfl (eO (len:=3) aa rfl rfl rfl rfl (jT sAbc rfl) rfl rfl) rfl rfl ?_;refine rP ?_;refine rQ (ab.frozen (aH (s:=1) aa rfl rfl rfl rfl rfl rfl rfl rfl) (Frz.litsN (enc:=encB) [sAbc] rfl (fun _ _=>rfl))) ?_;refine rP ?_;refine rQ (aq habc rfl rfl (am aj) (.inl rfl) (fun _=>rfl)) ?_;refine rP ?_;refine rQ (fP (z:=u8s 186) aa rfl rfl rfl rfl rfl (by decide) (by decide) hz rfl) ?_;refine rP ?_;refine rC ?_;refine rQ iU ?_;refine rC<|zT ?_
 exact⟨trivial,[],lf⟩
end Go.Proofs.YtmapiehigkfddaaDoor
namespace Go.Proofs.YtmapiehigkfddaaDoor
open Go.Eng Go.Plain
set_option maxHeartbeats 32000000
set_option maxRecDepth 20000
attribute [local irreducible] WC RegS RegD SeqQ BlkQ ScoQ RegK CutK Sat SatN FnIs LoopQ ab OpIs
def upB (b:UInt8) (i:Nat):List UInt8:=List.replicate i b++List.replicate (16-i) 0
attribute [local irreducible] encA sub8 mul8 byI
end Go.Proofs.YtmapiehigkfddaaDoor
namespace Go.Eng
section
variable {P : Program} {T : Tab} {env : Env} {h : Upds} {n : Nat}
theorem ek (hT:ak P T) {t t' e:TypeId} {x:Operand} {l:List UInt8} (ht:aI T t=some (.slice e)) (he:aI T e=some (.int .u8)) (ht':aI T t'=some .string) (hx:ae env x=some (.d (.arr 1 aF (byI l)))) :
  ab P (.convert t t' x) env h n (some (.d (strD l))) []:=by
 have:=ms (h:=h) (n:=n) hT ht he ht' hx
 rw[nw]at this
 exact this
end
end Go.Eng
namespace Go.Proofs.YtmapiehigkfddaaDoor
open Go.Eng Go.Plain
set_option maxHeartbeats 32000000
set_option maxRecDepth 20000
attribute [local irreducible] WC RegS RegD SeqQ BlkQ ScoQ RegK CutK Sat SatN FnIs LoopQ ab OpIs
theorem ri (a b:List UInt8) (hab:a.length=b.length) (hn:a.length≤1048576):FnIs Tryd.prog 7 [.d (encB a),.d (encB b)] [] (.tup (.acons (.d (encB (xorB a b))) (.acons (.d (i6 0)) .anil))) []:=
 (mC a b hab hn).freeze_out 64 _ rfl (Frz.tup (FrzT.cons (Frz.own (by rw[aB])) (FrzT.cons (Frz.refl _) FrzT.nil))) trivial
theorem qE (key:List UInt8) (parts:List (List UInt8)):macD key parts=digD [padK key 0x5c,digD (padK key 0x36::parts)]:=rfl
theorem rE (s:DSt):wrD s []=s:=rfl
theorem qF (key:List UInt8) (parts:List (List UInt8)):macD key ([]::parts)=macD key parts:=by
 rw[gD,gD,List.foldl_cons,rE]
theorem sg (k info:List UInt8):expD k info 64=macD k [info,[1]]++macD k [macD k [info,[1]],info,[2]]:=by
 have h1:expN k info 2=macD k [info,[1]]++macD k [macD k [info,[1]],info,[2]]:=by
  rw[expN,expN,expN,List.nil_append,aX,aX,aX,qF]; rfl
 rw[expD,show (64+31)/32=2 from rfl,h1]
 exact List.take_of_length_le (by simp[cH])
theorem sn (a b:List Int):EqOk Tryd.prog 2 31 (.vec 32 1 aF a) (.vec 32 1 aF b) (decide (a=b)):=
 mf aa (P:=Tryd.prog) Tryd.underlying31 rfl (fun _=>rfl) rfl (fun _ _=>io (P:=Tryd.prog) Tryd.underlying5)
theorem qt:DLe (.arr 1 aF [((1:UInt8).toNat:Int)]) (encB [1]):=DLe.refl _
theorem qs:DLe (.arr 1 aF [((2:UInt8).toNat:Int)]) (encB [2]):=DLe.refl _
attribute [local irreducible] byI macD digD padK kblk expD
theorem pc (key msg info:List UInt8):FnIs Tryd.prog 3 [.d (encB key),.d (encB msg),.d (encB info)] [] (.bool true) []:=by
 refine aw aa Tryd.func3 rfl rfl rfl ?_
 by_cases h1:100<key.length
 ·have d1:decide ((100:Int)<((byI key).length:Int))=true:=dT (by rw[aB]; omega)
  refine sR<|rC<|zW ?_;refine rC ?_;refine rQ iE ?_;refine zD ?_
  iterate 3 refine rS ?_
  refine rQ iT ?_;refine rC ?_;iterate 3 refine rT ?_
  refine rQ iU ?_;refine zO<|sR ?_;refine rQ (aq eJ rfl rfl aj (.inl rfl) (fun _=>rfl)) ?_;refine rC<|zT<|fk ?_
  exact⟨trivial,[],lf⟩
 have d1:decide ((100:Int)<((byI key).length:Int))=false:=dF (by rw[aB]; omega)
 by_cases h2:100<msg.length
 ·have d2:decide ((100:Int)<((byI msg).length:Int))=true:=dT (by rw[aB]; omega)
  refine sR<|rC<|zW ?_;refine rC ?_;refine rQ iE ?_;refine zD ?_;refine rO ?_;refine rC ?_;refine rO ?_;refine rQ iE ?_;refine rO ?_;refine rC ?_;refine rQ iF ?_;refine rC ?_;iterate 3 refine rS ?_
  refine rQ iT ?_;refine zO<|sR ?_;refine rQ (aq eJ rfl rfl aj (.inl rfl) (fun _=>rfl)) ?_;refine rC<|zT<|fk ?_
  exact⟨trivial,[],lf⟩
 have d2:decide ((100:Int)<((byI msg).length:Int))=false:=dF (by rw[aB]; omega)
 by_cases h3:100<info.length
 ·have d3:decide ((100:Int)<((byI info).length:Int))=true:=dT (by rw[aB]; omega)
  refine sR<|rC<|zW ?_;refine rC ?_;refine rQ iE ?_;refine zD ?_;refine rO ?_;refine rC ?_;refine rO ?_;refine rQ iE ?_;refine rO ?_;refine rC ?_;refine rQ iF ?_;refine rC ?_;refine rO ?_;refine rC ?_;refine rO ?_;refine rQ iE ?_;refine rO ?_;refine rC ?_;refine rQ iF ?_;refine zI<|sR ?_;refine rQ (aq eJ rfl rfl aj (.inl rfl) (fun _=>rfl)) ?_;refine rC<|zT<|fk ?_
  exact⟨trivial,[],lf⟩
 have d3:decide ((100:Int)<((byI info).length:Int))=false:=dF (by rw[aB]; omega)
 have hbk:=lu key (by omega)
 have hkl:=hZ (key:=key) (by omega)
 have hx1:=ri (kblk key) (List.replicate 64 0x36) (by rw[hkl]; simp) (by omega)
 have hx2:=ri (kblk key) (List.replicate 64 0x5c) (by rw[hkl]; simp) (by omega)
 rw[←jO]at hx1 hx2
 have hp1:=eb (key:=key) (by omega) 0x36
 have hp2:=eb (key:=key) (by omega) 0x5c
 have hm0:=e9 key [msg] (by omega) (by simp) (by simp; omega)
 have hex:=ik key msg (by omega) (by omega)
 have hT:=qE key [msg]
 have hTl:=cH key [msg]
 have ho1:=kK [padK key 0x36,msg] (by simp) (by simp; omega)
 have hGl:=ej [padK key 0x36,msg]
 generalize digD [padK key 0x36,msg]=G at *
 have ho2:=kK [padK key 0x5c,G] (by simp) (by simp; omega)
 rw[←hT]at ho2
 clear hT
 generalize padK key 0x36=PI at *
 generalize padK key 0x5c=PO at *
 generalize macD key [msg]=T at *
 have hm1:=e9 T [info,[1]] (by omega) (by simp) (by simp; omega)
 have hAl:=cH T [info,[1]]
 have hxp:=fS T info 64 (by omega) (by omega) (by decide) (by decide)
 rw[sg]at hxp
 generalize macD T [info,[1]]=A at *
 have hm2:=e9 T [A,info,[2]] (by omega) (by simp) (by simp; omega)
 have hBl:=cH T [A,info,[2]]
 generalize macD T [A,info,[2]]=B at *
 have heq:=(sn (byI T) (byI T)).cast (dT rfl)
 have hab:A.length+B.length≤9223372036854775807:=by omega
 have des:decide (A++B=A++B)=true:=dT rfl
 refine sR<|rC<|zW ?_;refine rC ?_;refine rQ iE ?_;refine zD ?_;refine rO ?_;refine rC ?_;refine rO ?_;refine rQ iE ?_;refine rO ?_;refine rC ?_;refine rQ iF ?_;refine rC ?_;refine rO ?_;refine rC ?_;refine rO ?_;refine rQ iE ?_;refine rO ?_;refine rC ?_;refine rQ iF ?_;refine zG<|kS<|sR ?_;refine rC ?_;refine rQ (aq hbk rfl rfl (am aj) (.inl rfl) (fun _=>rfl)) ?_;refine rN ?_;refine rW<|nS ?_;refine bE (env':=[(7,_),(2,_),(1,_),(0,_)]) (h':=[]) 192 _ rfl ⟨⟨_,rfl,Frz.ptr⟩,zE,zE,zE,trivial⟩ trivial<|br ?_;refine aR (by kernel_rfl) ?_;refine dQ [7] [] (bc aa rfl rfl rfl rfl rfl) ?_;refine dQ [] [] (aq (jp 64 0x36 (by decide)) rfl rfl (am (am aj)) (.inl rfl) (fun _=>rfl)) ?_;refine dQ [35,36] [] (aq hx1 rfl rfl (am (am aj)) (.inl rfl) (fun _=>rfl)) ?_;refine dC [37] [] ?_;iterate 2 refine dC [34] [] ?_
 refine dC [38] [] ?_;refine dC [39] [] ?_;refine aM (by kernel_rfl)<|bm<|br ?_;refine aR (by kernel_rfl) ?_;refine dQ [7] [] (bc aa rfl rfl rfl rfl rfl) ?_;refine dQ [] [] (aq (jp 64 0x5c (by decide)) rfl rfl (am (am aj)) (.inl rfl) (fun _=>rfl)) ?_;refine dQ [41,42] [] (aq hx2 rfl rfl (am (am aj)) (.inl rfl) (fun _=>rfl)) ?_;refine dC [43] [] ?_;iterate 2 refine dC [40] [] ?_
 refine dC [44] [] ?_;refine dC [45] [] ?_;refine aM (by kernel_rfl)<|bm<|sR ?_;refine zD ?_;refine rQ (ab.frozen (aH (s:=1) aa rfl rfl rfl rfl rfl rfl rfl rfl) (Frz.litsN (enc:=encB) [PI,msg] rfl (fun _ _=>rfl))) ?_;refine rQ (aq ho1 rfl rfl (am aj) (.inl rfl) (fun _=>rfl)) ?_;refine rN ?_;refine rW<|nR ?_;refine zD ?_;refine rQ (ab.frozen (aH (s:=1) aa rfl rfl rfl rfl rfl rfl rfl rfl) (Frz.litsN (enc:=encB) [msg] rfl (fun _ _=>rfl))) ?_;refine rQ (aq hm0 rfl rfl (am (am aj)) (.inl rfl) (fun _=>rfl)) ?_;refine rN ?_;refine rW<|nS ?_;refine bE (env':=[(13,_),(12,_),(11,_),(10,_),(9,_),(2,_),(1,_),(0,_)]) (h':=[(368,some _)]) 416 _ rfl ⟨⟨_,rfl,Frz.ptr⟩,zE,zE,zE,zE,zE,zE,zE,trivial⟩ ⟨⟨rfl,_,rfl,.refl _⟩,trivial⟩ ?_;refine bE (env':=[(12,_),(13,_),(11,_),(10,_),(9,_),(2,_),(1,_),(0,_)]) (h':=[]) 368 _ rfl ⟨⟨_,rfl,Frz.ptr⟩,zE,zE,zE,zE,zE,zE,zE,trivial⟩ trivial ?_
 iterate 2 refine br ?_
 refine aR (by kernel_rfl) ?_;refine dC [9] [] ?_;refine dC [54] [] ?_;refine dC [55] [] ?_;refine a9 [56,11] [] rfl rfl rfl rfl (aE aa (fun K hk=>hk)) ?_;refine a9 [56,57] [] rfl rfl rfl rfl (aE aa (fun K hk=>hk)) ?_;refine dQ [56,58] [] iG ?_;refine dC [59] [] ?_;refine a9 [60,13] [] rfl rfl rfl rfl (jR aa rfl rfl) ?_;refine a9 [60,10] [] rfl rfl rfl rfl (aE aa (fun K hk=>hk)) ?_;refine a9 [60,12] [] rfl rfl rfl rfl (bc aa rfl rfl rfl rfl rfl) ?_;refine a9 [60,62,63] [] rfl rfl rfl rfl (ab.frozen (aH (s:=1) aa rfl rfl rfl rfl rfl rfl rfl rfl) (Frz.litsN (enc:=encB) [PO,G] rfl (fun _ _=>rfl))) ?_;refine a9 [60,64] [] rfl rfl rfl rfl (aq ho2 rfl rfl (am aj) (.inl rfl) (fun _=>rfl)) ?_;refine a9 [60,61,65] [] rfl rfl rfl rfl (fp rfl rfl rfl rfl (by kernel_rfl) (by decide) heq) ?_;refine dQ [60,66] [] iG ?_;refine dC [67] [] ?_;refine a9 [68,0] [] rfl rfl rfl rfl (aE aa (fun K hk=>hk)) ?_;refine a9 [68,1] [] rfl rfl rfl rfl (aE aa (fun K hk=>hk)) ?_;refine a9 [68,69,70] [] rfl rfl rfl rfl (aq hex rfl rfl (am (am aj)) (.inl rfl) (fun _=>rfl)) ?_;refine a9 [68,13] [] rfl rfl rfl rfl (jR aa rfl rfl) ?_;refine a9 [68,71,72] [] rfl rfl rfl rfl (fp rfl rfl rfl rfl (by kernel_rfl) (by decide) heq) ?_;refine dQ [68,73] [] iG ?_;refine aM (by kernel_rfl)<|bm ?_;refine wG<|kS<|sR ?_;refine rQ (bc aa rfl rfl rfl rfl rfl) ?_;refine rC ?_;refine rQ ((ab.frozen (aH (s:=1) aa rfl rfl rfl rfl rfl rfl rfl rfl) (Frz.litsN (enc:=aF) [((1:UInt8).toNat:Int)] rfl (fun _ _=>rfl))).val_le qt rfl) ?_;refine rQ (ab.frozen (aH (s:=1) aa rfl rfl rfl rfl rfl rfl rfl rfl) (Frz.litsN (enc:=encB) [info,[1]] rfl (fun _ _=>rfl))) ?_;refine rQ (aq hm1 rfl rfl (am (am aj)) (.inl rfl) (fun _=>rfl)) ?_;refine rN ?_;refine rW<|nS ?_;refine bE (env':=[(14,_),(13,_),(2,_)]) (h':=[]) 640 _ rfl ⟨⟨_,rfl,Frz.ptr⟩,zE,zE,trivial⟩ trivial<|br ?_;refine aR (by kernel_rfl) ?_;refine dQ [13] [] (bc aa rfl rfl rfl rfl rfl) ?_;refine dQ [14] [] (bc aa rfl rfl rfl rfl rfl) ?_;refine dC [2] [] ?_;refine dQ [] [] ((ab.frozen (aH (s:=1) aa rfl rfl rfl rfl rfl rfl rfl rfl) (Frz.litsN (enc:=aF) [((2:UInt8).toNat:Int)] rfl (fun _ _=>rfl))).val_le qs rfl) ?_;refine dQ [81,82,83] [] (ab.frozen (aH (s:=1) aa rfl rfl rfl rfl rfl rfl rfl rfl) (Frz.litsN (enc:=encB) [A,info,[2]] rfl (fun _ _=>rfl))) ?_;refine dQ [80,84] [] (aq hm2 rfl rfl (am (am aj)) (.inl rfl) (fun _=>rfl)) ?_;refine fb [] [] rfl (aE aa (fun K hk=>hk)) ?_;refine bG [15,85] [704] (aQ aa rfl rfl rfl ⟨_,⟨rfl,rfl,rfl⟩,rfl⟩ rfl) ?_;refine aM (by kernel_rfl)<|bm ?_;refine bE (env':=[(15,_),(14,_),(13,_),(2,_)]) (h':=[]) 704 _ rfl ⟨⟨_,rfl,Frz.ptr⟩,zE,zE,zE,trivial⟩ trivial<|sR ?_;refine rQ (bc aa rfl rfl rfl rfl rfl) ?_;refine rC ?_;refine rQ (aq hxp rfl rfl (am (am (am aj))) (.inl rfl) (fun _=>rfl)) ?_
 iterate 5 refine rC ?_
 refine nQ<|aR (by kernel_rfl) ?_;refine dC [17] [] ?_;refine dC [92] [] ?_;refine dC [93] [] ?_;refine a9 [94,16] [] rfl rfl rfl rfl (aE aa (fun K hk=>hk)) ?_;refine a9 [94,95] [] rfl rfl rfl rfl (ek aa rfl rfl rfl rfl) ?_;refine a9 [94,14] [] rfl rfl rfl rfl (bc aa rfl rfl rfl rfl rfl) ?_;refine a9 [94,97] [] rfl rfl rfl rfl (ek aa rfl rfl rfl rfl) ?_;refine a9 [94,15] [] rfl rfl rfl rfl (bc aa rfl rfl rfl rfl rfl) ?_;refine a9 [94,99] [] rfl rfl rfl rfl (ek aa rfl rfl rfl rfl) ?_;refine a9 [94,98,100] [] rfl rfl rfl rfl (rc rfl rfl hab rfl) ?_;refine a9 [94,96,101] [] rfl rfl rfl rfl (tV aa rfl rfl rfl) ?_;refine dQ [94,102] [] iU ?_;refine dC [103] [] ?_;refine a9 [104] [] rfl rfl (by assumption) rfl (aq eJ rfl rfl aj (.inl rfl) (fun _=>rfl)) ?_;refine dQ [104,105] [] iT ?_;refine dC [106] [] ?_;refine aM (by kernel_rfl)<|bm<|cY ?_
 exact⟨trivial,[],lf⟩
end Go.Proofs.YtmapiehigkfddaaDoor
namespace Go.Proofs.YtmapiehigkfddaaDoor
open Go.Eng Go.Plain
set_option maxHeartbeats 32000000
set_option maxRecDepth 20000
theorem rV {a:Int} (h:(Lit.int .u8 a).wf=true):0≤a∧a≤255:=by
 simp[Lit.wf,IntKind.min,IntKind.max,IntKind.bits,IntKind.signed]at h
 omega
def toB (l:List Int):List UInt8:=l.map fun z=>z.toNat.toUInt8
theorem pZ {l:List Int} (h:∀a∈l,(Lit.int .u8 a).wf=true):byI (toB l)=l:=by
 rw[byI,toB,List.map_map]
 have:∀a∈l,((fun b:UInt8=>(b.toNat:Int)) ∘ fun z:Int=>z.toNat.toUInt8) a=a:=fun a ha=>by
  obtain⟨h1,h2⟩:=rV (h a ha)
  simp only[Function.comp_apply,Nat.toUInt8_eq,UInt8.toNat_ofNat']
  omega
 rw[List.map_congr_left this,List.map_id'']
 exact fun _=>rfl
theorem ec:gq Tryd.prog 22 1 (fun l:List UInt8=>encB l) fun _=>True :=
 gq.map (kJ (P:=Tryd.prog) Tryd.underlying22 (by kernel_rfl) (nE (P:=Tryd.prog) Tryd.underlying5))
  toB (fun l h=>by show D.arr 1 aF (byI (toB l))=_; rw[pZ h.2]; rfl) (fun _ _=>trivial)
end Go.Proofs.YtmapiehigkfddaaDoor
