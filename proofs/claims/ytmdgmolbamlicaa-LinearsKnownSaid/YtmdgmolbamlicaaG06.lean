/- Texts of the proof: Y25, P45, H18, H19, H20, YW, YR, Eng110, Y26, Y5, YT9, Y27, Y28, Y30, Y31, Y32, Y33, YA, Y34, Y35, Y36, Y37, YB, YQ, YQ2, YQ3. -/
import Derived.Test.YtmdgmolbamlicaaG05
import Derived.Test.YtmdgmolbamlicaaG03
import Derived.Test.YtmdgmolbamlicaaG04
import Derived.Test.YtmdgmolbamlicaaG02

set_option linter.unusedVariables false
set_option linter.unusedSimpArgs false
set_option linter.unusedSectionVars false
set_option maxRecDepth 10000

namespace Go.Proofs.Ytmdgmolbamlicaa
open Go.Eng Go.Plain
set_option maxHeartbeats 32000000
set_option maxRecDepth 20000
attribute [local irreducible] WC RegS RegD SeqQ BlkQ ScoQ RegK CutK Sat SatN FnIs LoopQ ab OpIs
abbrev lH (h:List HEv) (b:Int):List HOp:=opL h b
abbrev pH (h:List HEv) (b:Int):Prep:=cn (lH h b) b (ao h)
def gg (h:List HEv) (b fuel:Int):Option (QS×List (List aF)):=kR (pH h b) (lH h b) (ao h) fuel
def bO (h:List HEv) (b fuel:Int):(List Int×Bool)×Int :=
 if opE h b=0 then
  if fuel<0∨1048576<fuel then (([],false),1)
  else match gg h b fuel with
   | none=>(([],false),4)
   | some r=>(ji (pH h b) (lH h b) (ao h) r.1.2 r.2 (ao h+sumM (lH h b) b (ao h)+1),0)
 else (([],false),opE h b)
def cv (h:List HEv) (b fuel:Int):Int×Int :=
 if opE h b=0 then
  if fuel<0∨1048576<fuel then (0,1)
  else match gg h b fuel with
   | none=>(0,4)
   | some r=>(r.1.2.length,0)
 else (0,opE h b)
structure fz (h:List HEv) (b fuel:Int):Prop where
 len:h.length≤8192
 al:(rdH h).all.length≤8192
 run:opE h b=0→0≤fuel→fuel≤1048576→vH h b fuel (pH h b) (lH h b) (ao h) (gg h b fuel)
 pok:opE h b=0→∃ks kv,gJ (lH h b) b (ao h) (pH h b) ks kv
 ll:opE h b=0→(lH h b).length≤8192
 tot:∀r,opE h b=0→0≤fuel→fuel≤1048576→gg h b fuel=some r→totS r.2+1≤67108864
theorem oB (h:List HEv) (b fuel:Int) (c:Int) (hw:kg 16 Try.prog 22 [.d (encH h),.int .i64 b,.int .i64 fuel] [] (ptrE c) []) (hc:c≠0):FnIs Try.prog 6 [.d (encH h),.int .i64 b,.int .i64 fuel] [] (.tup (.acons (.int .i64 0) (.acons (.int .i64 c) .anil))) []:=by
 have d0:(!decide (c=0))=true:=by rw[dF hc]; rfl
 refine aq aa Try.func6 rfl rfl rfl ?_;refine z11 ?_;refine ir (by decide) [] rfl hw rfl rfl rfl (aE (aE (aE au))) trivial rfl rfl (.inl rfl) rfl rfl rfl ?_;refine z24 ?_
 exact⟨trivial,[],lf⟩
theorem yB (h:List HEv) (b fuel:Int) (l:List HOp) (e:Int) (p:Prep) (q:QS) (sp:List (List aF)) (hw:kg 16 Try.prog 22 [.d (encH h),.int .i64 b,.int .i64 fuel] [] (.tup (.acons (.ptr 64 []) (.acons (.int .i64 0) .anil))) (lA l b e p sp q)):FnIs Try.prog 6 [.d (encH h),.int .i64 b,.int .i64 fuel] [] (.tup (.acons (.int .i64 q.2.length) (.acons (.int .i64 0) .anil))) []:=by
 refine aq aa Try.func6 rfl rfl rfl ?_;refine z11 ?_;refine ir (by decide) [] rfl hw rfl rfl rfl (aE (aE (aE au))) trivial rfl rfl (.inl rfl) rfl rfl rfl ?_;refine z29 ?_
 exact⟨trivial,[],lf⟩
theorem vi (h:List HEv) (b fuel:Int) (c:Int) (hw:kg 16 Try.prog 22 [.d (encH h),.int .i64 b,.int .i64 fuel] [] (ptrE c) []) (hc:c≠0):FnIs Try.prog 5 [.d (encH h),.int .i64 b,.int .i64 fuel] [] (.tup (.acons (.d (lb [])) (.acons (.bool false) (.acons (.int .i64 c) .anil)))) []:=by
 have d0:(!decide (c=0))=true:=by rw[dF hc]; rfl
 refine aq aa Try.func5 rfl rfl rfl ?_;refine z12 ?_;refine ir (by decide) [] rfl hw rfl rfl rfl (aE (aE (aE au))) trivial rfl rfl (.inl rfl) rfl rfl rfl ?_;refine z25 ?_
 exact⟨trivial,[],lg ⟨⟨_,rfl,AVLe.tup1 (jf _ _) rfl⟩,rfl,trivial⟩ trivial⟩
theorem Dw (h:List HEv) (b fuel:Int) (l:List HOp) (e:Int) (p:Prep) (q:QS) (sp:List (List aF)) (o:List Int) (f:Bool) (hle:FnIs Try.prog 23 [.ptr 0 []] (cg l b e p sp q 9) (ordE o f) (ordW o++cg l b e p sp q 9)) (hw:kg 16 Try.prog 22 [.d (encH h),.int .i64 b,.int .i64 fuel] [] (.tup (.acons (.ptr 64 []) (.acons (.int .i64 0) .anil))) (lA l b e p sp q)):FnIs Try.prog 5 [.d (encH h),.int .i64 b,.int .i64 fuel] [] (.tup (.acons (ordQ o) (.acons (.bool f) (.acons (.int .i64 0) .anil)))) (ordW o):=by
 cases o with
 | nil =>
  replace hle:FnIs Try.prog 23 [.ptr 0 []] (cg l b e p sp q 9) (.tup (.acons (.d (lb [])) (.acons (.bool f) .anil))) (cg l b e p sp q 9):=hle
  show FnIs Try.prog 5 [.d (encH h),.int .i64 b,.int .i64 fuel] [] (.tup (.acons (.d (lb [])) (.acons (.bool f) (.acons (.int .i64 0) .anil)))) []
  refine aq aa Try.func5 rfl rfl rfl ?_;refine z12 ?_;refine ir (by decide) [] rfl hw rfl rfl rfl (aE (aE (aE au))) trivial rfl rfl (.inl rfl) rfl rfl rfl ?_;refine z20 ?_;refine bE rfl (aS [(0,some 112),(1,some 113),(2,some 114),(3,some 115),(4,some 116),(5,some 117),(6,some 118),(7,some 119),(8,some 120),(9,some 121),(10,some 122)] hle rfl rfl rfl (aT rfl rfl au) ⟨zH,zN,zN,zH,zN,zN,zN,zN,zN,zH,zH,trivial⟩ rfl rfl (.inl rfl) rfl rfl) rfl rfl ?_;refine z17 ?_
  exact⟨trivial,[],lf⟩
 | cons a o =>
  generalize hoo:a::o=c at *
  replace hle:FnIs Try.prog 23 [.ptr 0 []] (cg l b e p sp q 9) (.tup (.acons (.own 64 0 c.length 1 (some c.length)) (.acons (.bool f) .anil))) ((64,zRow c)::cg l b e p sp q 9):=by subst hoo; exact hle
  have key:FnIs Try.prog 5 [.d (encH h),.int .i64 b,.int .i64 fuel] [] (.tup (.acons (.own 64 0 c.length 1 (some c.length)) (.acons (.bool f) (.acons (.int .i64 0) .anil)))) [(64,zRow c)]:=by
   refine aq aa Try.func5 rfl rfl rfl ?_;refine z12 ?_;refine ir (by decide) [] rfl hw rfl rfl rfl (aE (aE (aE au))) trivial rfl rfl (.inl rfl) rfl rfl rfl ?_;refine z20 ?_;refine bE rfl (aS [(0,some 112),(1,some 113),(2,some 114),(3,some 115),(4,some 116),(5,some 117),(6,some 118),(7,some 119),(8,some 120),(9,some 121),(10,some 122)] hle rfl rfl rfl (aT rfl rfl au) ⟨zH,zN,zN,zH,zN,zN,zN,zN,zN,zH,zH,trivial⟩ rfl rfl (.inl rfl) rfl rfl) rfl rfl ?_;refine z17 ?_
   exact⟨trivial,[(64,some 192)],lg zl ⟨zR,trivial⟩⟩
  subst hoo
  exact key
theorem dG (h:List HEv):0<ao h:=by unfold ao; omega
theorem AT {h:List HEv} (hh:h.length≤8192):ao h≤8193:=by
 have:h.countP (fun x=>decide (x.kind=3))≤h.length:=List.countP_le_length
 unfold ao; omega
theorem gm {h:List HEv} {b fuel:Int} (R:fz h b fuel):FnIs Try.prog 6 [.d (encH h),.int .i64 b,.int .i64 fuel] [] (.tup (.acons (.int .i64 (cv h b fuel).1) (.acons (.int .i64 (cv h b fuel).2) .anil))) []:=by
 have hl:=R.len
 have ha:=R.al
 unfold cv
 by_cases hE:opE h b=0
 ·rw[if_pos hE]
  by_cases hf:fuel<0∨1048576<fuel
  ·rw[if_pos hf]
   exact oB h b fuel 1 ((sD h b fuel (by omega) (by omega) hE hf).wide (by decide)) (by decide)
  ·rw[if_neg hf]
   have hr:=R.run hE (by omega) (by omega)
   cases hs:gg h b fuel with
   | none =>
    rw[hs]at hr
    exact oB h b fuel 4 hr (by decide)
   | some r =>
    obtain⟨q,sp⟩:=r
    rw[hs]at hr
    exact yB h b fuel _ _ _ q sp hr
 ·rw[if_neg hE]
  exact oB h b fuel (opE h b) ((sE h b fuel (by omega) (by omega) hE).wide (by decide)) hE
theorem AQ {h:List HEv} {b fuel:Int} (R:fz h b fuel):FnIs Try.prog 5 [.d (encH h),.int .i64 b,.int .i64 fuel] [] (.tup (.acons (ordQ (bO h b fuel).1.1) (.acons (.bool (bO h b fuel).1.2) (.acons (.int .i64 (bO h b fuel).2) .anil)))) (ordW (bO h b fuel).1.1):=by
 have hl:=R.len
 have ha:=R.al
 unfold bO
 by_cases hE:opE h b=0
 ·rw[if_pos hE]
  by_cases hf:fuel<0∨1048576<fuel
  ·rw[if_pos hf]
   exact vi h b fuel 1 ((sD h b fuel (by omega) (by omega) hE hf).wide (by decide)) (by decide)
  ·rw[if_neg hf]
   have hr:=R.run hE (by omega) (by omega)
   cases hs:gg h b fuel with
   | none =>
    rw[hs]at hr
    exact vi h b fuel 4 hr (by decide)
   | some r =>
    obtain⟨q,sp⟩:=r
    rw[hs]at hr
    obtain⟨ks,kv,F⟩:=R.pok hE
    have hll:=R.ll hE
    have he:=dG h
    have he2:=AT hl
    have P:=F.ok hll
    obtain⟨I,hfu⟩:=gn P he hs
    have ht:=R.tot _ hE (by omega) (by omega) hs
    have hq0:=(List.getElem?_eq_some_iff.1 I.fst).1
    have hle:=Au (lH h b) b (ao h) (pH h b) sp q (muS (pH h b) (ao h) q.2) P I.ok.st (by omega) I.spOk I.eraOk (by omega) hq0 ht (I.leastOk F he (by omega))
    rw[mu0 F I he]at hle
    exact Dw h b fuel _ _ _ q sp _ _ hle hr
 ·rw[if_neg hE]
  exact vi h b fuel (opE h b) ((sE h b fuel (by omega) (by omega) hE).wide (by decide)) hE
theorem jp {h:List HEv} {b fuel:Int} (R:fz h b fuel):FnIs Try.prog 5 [.d (encH h),.int .i64 b,.int .i64 fuel] [] (.tup (.acons (.d (lb (bO h b fuel).1.1)) (.acons (.bool (bO h b fuel).1.2) (.acons (.int .i64 (bO h b fuel).2) .anil)))) []:=by
 have hf:=AQ R
 cases ho:(bO h b fuel).1.1 with
 | nil=>rw[ho]at hf; exact hf
 | cons a o =>
  rw[ho]at hf
  exact FnIs.freeze_out 64 (zRow (a::o)) rfl (.tup (.cons (.ownx rfl rfl) (.cons (.refl _) (.cons (.refl _) .nil)))) trivial hf
theorem iC {h:List HEv} {b fuel:Int} (R:fz h b fuel):FnIs Try.prog 10 [.d (encH h),.int .i64 b,.int .i64 fuel] [] (.tup (.acons (.bool (bO h b fuel).1.2) (.acons (.int .i64 (bO h b fuel).2) .anil))) []:=by
 have hfi:=jp R
 refine aq aa Try.func10 rfl rfl rfl ?_;refine z30 ?_
 exact⟨trivial,[],lf⟩
structure PQ where
 kind:UInt8
 index:UInt8
 data:UInt8
def encQ (x:PQ):D :=.cons (u8s x.kind.toNat) (.cons (u8s x.index.toNat) (.cons (u8s x.data.toNat) .nil))
def qOf (x:PQ):POp :=
 if x.kind.toNat % 9<4 then⟨1,((x.index.toNat % 22:Nat):Int)-1,[]⟩
 else if x.kind.toNat % 9<7 then⟨2,((x.index.toNat % 22:Nat):Int)-1,List.replicate 32 x.data⟩
 else if x.kind.toNat % 9=8 then⟨((x.data.toNat % 4:Nat):Int),(x.index.toNat:Int)-100,List.replicate (x.index.toNat % 32) x.data⟩
 else⟨3,0,[]⟩
theorem gu (k i:Int):AVLe (.d (.cons (.sc (.int .u8 k)) (.cons (.sc (.int .i64 i)) (.cons (.sc nil_) .nil)))) (.d (ce ⟨k,i,[]⟩)):=
 AVLe.d (x:=encV (true,⟨k,i,[]⟩)) (fun w X cs h=>Ci (x:=(true,⟨k,i,[]⟩)) (fun _=>rfl) h) rfl
def gF (d:Int) (n i:Nat):List Int:=List.replicate i d++List.replicate (n-i) 0
theorem vk (d:Int) (n:Nat):gF d n 0=List.replicate n 0:=by simp[gF]
theorem qI {d:Int} {n i:Nat} (h:i<n):(gF d n i)[i]?=some 0:=by
 obtain⟨k,hk⟩:∃k,n-i=k+1:=⟨n-i-1,by omega⟩
 rw[gF,hk,List.getElem?_append_right (by simp),List.length_replicate,Nat.sub_self]
 rfl
theorem qH {d:Int} {n i:Nat} (h:i<n):(gF d n i).set i d=gF d n (i+1):=by
 obtain⟨k,hk⟩:∃k,n-i=k+1:=⟨n-i-1,by omega⟩
 rw[gF,gF,List.set_append_right _ _ (by simp),List.replicate_succ' (n:=i),List.append_assoc,hk,show n-(i+1)=k by omega,List.length_replicate,Nat.sub_self]
 rfl
theorem qJ (d:UInt8) (n:Nat):gF d.toNat n n=byI (List.replicate n d):=by simp[gF,byI]
theorem C7 (x:PQ):FnIs Try.prog 75 [.d (encQ x)] [] (.d (ce (qOf x))) []:=by
 have hx1:=x.kind.toNat_lt
 have hx2:=x.index.toNat_lt
 have hx3:=x.data.toNat_lt
 refine aq aa Try.func75 rfl rfl rfl ?_;refine z15 ?_;refine aO (dA (enc:=cN) (s:=1) (N:=32) aa (0:Int) rfl rfl rfl rfl rfl rfl rfl (by decide) rfl) rfl ?_;refine z10 ?_
 refine wc_inv (fun i:Nat=>⟨[(5,.int .i64 i),(4,.own 67 0 32 1 none),(3,.ptr 66 []),(2,.ptr 65 []),(1,.ptr 64 [])],[(64,some (.box 146 (.d (encQ x)))),(65,some (.box 38 (.d (encV (true,Am))))),(66,some (.box 38 (.d (encV (true,⟨3,0,[]⟩))))),(67,some (.ds 5 1 true cN (gF x.data.toNat 32 i)))],72,Try.f75.ntmps,64⟩) (fun i=>i≤32) (fun i=>32-i) 0 [(64,some _),(65,some _),(66,some _),(67,some _)] (Nat.zero_le _)
  (lg zh ⟨zR,zR,zR,⟨rfl,rfl,_,rfl,aM.of_eq (by rw[vk]; rfl)⟩,trivial⟩) ?_
 intro i hi
 by_cases hlt:i<32
 ·have h3:decide ((i:Int)<32)=true:=dT (by omega)
  have hg:(gF x.data.toNat 32 i)[((i:Int)).toNat]?=some 0:=by rw[Int.toNat_natCast]; exact qI hlt
  have hset:=qH (d:=(x.data.toNat:Int)) hlt
  refine bt ?_;refine z18 ?_;refine bH (aG aa rfl rfl rfl ⟨rfl,(0:Int),(x.data.toNat:Int),hg,⟨rfl,rfl,rfl⟩,rfl⟩ rfl) ?_;refine z8 ?_
  exact an (i+1) [] hlt (by omega) (lg zh ⟨zR,zR,zR,⟨rfl,rfl,_,rfl,aM.of_eq (congrArg (Row.ds 5 1 true cN) hset)⟩,trivial⟩)
 ·have he:i=32:=by omega
  subst he
  rw[qJ]
  have h3:decide (((32:Nat):Int)<32)=false:=rfl
  have hl32:32=(byI (List.replicate 32 x.data)).length:=by rw[fO,List.length_replicate]
  refine bt ?_;refine de (env':=[(5,_),(4,_),(3,_),(2,_),(1,_)]) (h':=[(64,some _),(65,some _),(66,some _)]) 67 _ rfl ⟨zE,⟨_,rfl,Frz.own hl32⟩,zE,zE,zE,trivial⟩ ⟨⟨rfl,_,rfl,.refl _⟩,⟨rfl,_,rfl,.refl _⟩,⟨rfl,_,rfl,.refl _⟩,trivial⟩ ?_
  have hw27:IntKind.i64.wrap ((x.index.toNat % 22:Nat):Int)=((x.index.toNat % 22:Nat):Int):=aH (by omega) (by omega)
  have hw48:IntKind.i64.wrap (x.index.toNat:Int)=(x.index.toNat:Int):=aH (by omega) (by omega)
  have h54:((x.index.toNat % 32:Nat):Int)≤(byI (List.replicate 32 x.data)).length:=by rw[fO,List.length_replicate]; omega
  by_cases q4:x.kind.toNat % 9<4
  ·have d4:decide (((x.kind.toNat % 9:Nat):Int)<4)=true:=dT (by omega)
   rw[show qOf x=⟨1,((x.index.toNat % 22:Nat):Int)-1,[]⟩ by rw[qOf,if_pos q4]]
   refine z18 ?_;refine rQ (aZ (a:=x.kind.toNat) (b:=9) aa rfl rfl rfl (by decide)) ?_;refine z15 ?_;refine rQ (aZ (a:=x.index.toNat) (b:=22) aa rfl rfl rfl (by decide)) ?_;refine rQ (aR (m:=((x.index.toNat % 22:Nat):Int)) aa rfl rfl rfl hw27) ?_;refine z13 ?_
   exact⟨trivial,_,rfl,[],lg ⟨⟨_,rfl,gu _ _⟩,rfl,trivial⟩ trivial⟩
  have d4:decide (((x.kind.toNat % 9:Nat):Int)<4)=false:=dF (by omega)
  by_cases q7:x.kind.toNat % 9<7
  ·have d7:decide (((x.kind.toNat % 9:Nat):Int)<7)=true:=dT (by omega)
   rw[show qOf x=⟨2,((x.index.toNat % 22:Nat):Int)-1,List.replicate 32 x.data⟩ by rw[qOf,if_neg q4,if_pos q7]]
   refine z18 ?_;refine rQ (aZ (a:=x.kind.toNat) (b:=9) aa rfl rfl rfl (by decide)) ?_;refine z23 ?_;refine rQ (aZ (a:=x.index.toNat) (b:=22) aa rfl rfl rfl (by decide)) ?_;refine rQ (aR (m:=((x.index.toNat % 22:Nat):Int)) aa rfl rfl rfl hw27) ?_;refine z14 ?_
   exact⟨trivial,_,rfl,[],lf⟩
  have d7:decide (((x.kind.toNat % 9:Nat):Int)<7)=false:=dF (by omega)
  by_cases q8:x.kind.toNat % 9=8
  ·have d8:decide (((x.kind.toNat % 9:Nat):Int)=8)=true:=dT (by omega)
   rw[show qOf x=⟨((x.data.toNat % 4:Nat):Int),(x.index.toNat:Int)-100,List.replicate (x.index.toNat % 32) x.data⟩ by rw[qOf,if_neg q4,if_neg q7,if_pos q8]]
   have ht:(byI (List.replicate 32 x.data)).take (((x.index.toNat % 32:Nat):Int)).toNat=byI (List.replicate (x.index.toNat % 32) x.data):=by
    rw[Int.toNat_natCast,byI,byI,←List.map_take,List.take_replicate,Nat.min_eq_left (by omega)]
   refine z18 ?_;refine rQ (aZ (a:=x.kind.toNat) (b:=9) aa rfl rfl rfl (by decide)) ?_;refine z30 ?_;refine dQ [43] [64] iB ?_;refine yA (aZ (a:=x.data.toNat) (b:=4) aa rfl rfl rfl (by decide)) ?_;refine z1 ?_;refine dQ [46] [64] iB ?_;refine yA (aR (m:=(x.index.toNat:Int)) aa rfl rfl rfl hw48) ?_;refine z3 ?_;refine dQ [51] [64] iB ?_;refine yA (aZ (a:=x.index.toNat) (b:=32) aa rfl rfl rfl (by decide)) ?_;refine yA (jM (m:=((x.index.toNat % 32:Nat):Int)) aa rfl rfl rfl rfl (by omega) h54) ?_;refine z1 ?_;refine bj [3,55] [66] (aG aa rfl rfl rfl ⟨_,⟨rfl,rfl,rfl⟩,rfl⟩ rfl) ?_;refine z10 ?_
   rw[ht]
   exact⟨trivial,_,rfl,[],lf⟩
  ·have d8:decide (((x.kind.toNat % 9:Nat):Int)=8)=false:=dF (by omega)
   rw[show qOf x=⟨3,0,[]⟩ by rw[qOf,if_neg q4,if_neg q7,if_neg q8]]
   refine z18 ?_;refine rQ (aZ (a:=x.kind.toNat) (b:=9) aa rfl rfl rfl (by decide)) ?_;refine z38 ?_
   exact⟨trivial,_,rfl,[],lg ⟨⟨_,rfl,gu _ _⟩,rfl,trivial⟩ trivial⟩
def blkB (d:UInt8):UInt8:=(d.toNat % 4).toUInt8
theorem Be (d:UInt8):(blkB d).toNat=d.toNat % 4:=by
 rw[blkB,Nat.toUInt8_eq,UInt8.toNat_ofNat']
 omega
theorem gH (d:UInt8):FnIs Try.prog 19 [.int .u8 d.toNat] [] (.d (bc (List.replicate 32 (blkB d)))) []:=by
 have hd:=d.toNat_lt
 refine aq aa Try.func19 rfl rfl rfl ?_;refine z17 ?_
 refine wc_inv (fun i:Nat=>⟨[(4,.int .i64 i),(3,.ptr 65 []),(2,.ptr 66 []),(0,.int .u8 d.toNat)],[(65,some (.box 40 (.d (.vec 32 1 cN (gF ((d.toNat % 4:Nat):Int) 32 i))))),(66,some (.box 40 (.d (.vec 32 1 cN (List.replicate 32 0)))))],72,Try.f19.ntmps,64⟩) (fun i=>i≤32) (fun i=>32-i) 0 [(65,some _),(66,some _)] (Nat.zero_le _)
  (lg zi ⟨zR,zR,trivial⟩) ?_
 intro i hi
 refine bt ?_;refine z7 ?_
 refine eW rfl (fun h3=>?_) (fun h3=>?_)
 ·have hlt:i<32:=by have:=of_decide_eq_true h3; omega
  have hg:(gF ((d.toNat % 4:Nat):Int) 32 i)[((i:Int)).toNat]?=some 0:=by rw[Int.toNat_natCast]; exact qI hlt
  have hs:=qH (d:=((d.toNat % 4:Nat):Int)) hlt
  refine z7 ?_;refine rQ (aZ (a:=d.toNat) (b:=4) aa rfl rfl rfl (by decide)) ?_;refine z1 ?_;refine bH (aG aa rfl rfl rfl ⟨_,⟨_,⟨rfl,_,((d.toNat % 4:Nat):Int),hg,⟨rfl,rfl,rfl⟩,rfl⟩,rfl⟩,rfl⟩ rfl) ?_;refine z8 ?_
  exact an (i+1) [(65,some 65),(66,some 66)] hlt (by omega) (lg zi ⟨⟨rfl,rfl,_,rfl,aM.of_eq (congrArg (fun l=>Row.box 40 (.d (.vec 32 1 cN l))) hs)⟩,zR,trivial⟩)
 ·have he:i=32:=by have:=of_decide_eq_false h3; omega
  subst he
  have hE:gF ((d.toNat % 4:Nat):Int) 32 32=byI (List.replicate 32 (blkB d)):=by rw[←Be]; exact qJ _ _
  rw[hE]
  refine z12 ?_
  exact⟨trivial,_,rfl,[],lf⟩
structure XE where
 who:UInt8
 what:UInt8
 data:UInt8
def qN (x:XE):D :=.cons (u8s x.who.toNat) (.cons (u8s x.what.toNat) (.cons (u8s x.data.toNat) .nil))
def opX (x:XE):POp :=
 if x.what.toNat % 8<3 then⟨1,((x.data.toNat/4 % 3:Nat):Int),[]⟩
 else if x.what.toNat % 8<6 then⟨2,((x.data.toNat/4 % 3:Nat):Int),List.replicate 32 (blkB x.data)⟩
 else if x.what.toNat % 8=6 then⟨3,0,[]⟩
 else qOf ⟨8,x.data,x.what⟩
theorem Aj (x:XE):FnIs Try.prog 48 [.d (qN x)] [] (.d (ce (opX x))) []:=by
 have hx1:=x.what.toNat_lt
 have hx2:=x.data.toNat_lt
 have hwc:IntKind.i64.wrap ((x.data.toNat/4:Nat):Int)=((x.data.toNat/4:Nat):Int):=aH (by omega) (by omega)
 refine aq aa Try.func48 rfl rfl rfl ?_;refine z10 ?_;refine rQ (yK (gH x.data)) ?_;refine z4 ?_;refine de (env':=[(3,_),(2,_),(1,_)]) (h':=[(64,some _),(72,some _)]) 104 _ rfl ⟨⟨_,rfl,Frz.ptr⟩,zE,zE,trivial⟩ ⟨⟨rfl,_,rfl,.refl _⟩,⟨rfl,_,rfl,.refl _⟩,trivial⟩ ?_
 have hw8:x.what.toNat % 8<8:=Nat.mod_lt _ (by decide)
 refine z5 ?_;refine rQ (aZ (a:=x.what.toNat) (b:=8) aa rfl rfl rfl (by decide)) ?_;refine z10 ?_
 by_cases w0:x.what.toNat % 8=0
 ·have e0:decide (((x.what.toNat % 8:Nat):Int)=0)=true:=dT (by omega)
  rw[show opX x=⟨1,((x.data.toNat/4 % 3:Nat):Int),[]⟩ by rw[opX,if_pos (by omega)]]
  refine z8 ?_;refine rQ (eX (a:=x.data.toNat) (s:=2) (m:=x.data.toNat/4) rfl rfl (by decide) rfl) ?_;refine rQ (aR (m:=((x.data.toNat/4:Nat):Int)) aa rfl rfl rfl hwc) ?_;refine rQ (aZ (a:=x.data.toNat/4) (b:=3) aa rfl rfl rfl (by decide)) ?_;refine z7 ?_
  exact⟨trivial,_,rfl,[],lg ⟨⟨_,rfl,gu _ _⟩,rfl,trivial⟩ trivial⟩
 skip
 by_cases w1:x.what.toNat % 8=1
 ·have e0:decide (((x.what.toNat % 8:Nat):Int)=0)=false:=dF (by omega)
  have e1:decide (((x.what.toNat % 8:Nat):Int)=1)=true:=dT (by omega)
  rw[show opX x=⟨1,((x.data.toNat/4 % 3:Nat):Int),[]⟩ by rw[opX,if_pos (by omega)]]
  refine z15 ?_;refine rQ (eX (a:=x.data.toNat) (s:=2) (m:=x.data.toNat/4) rfl rfl (by decide) rfl) ?_;refine rQ (aR (m:=((x.data.toNat/4:Nat):Int)) aa rfl rfl rfl hwc) ?_;refine rQ (aZ (a:=x.data.toNat/4) (b:=3) aa rfl rfl rfl (by decide)) ?_;refine z7 ?_
  exact⟨trivial,_,rfl,[],lg ⟨⟨_,rfl,gu _ _⟩,rfl,trivial⟩ trivial⟩
 skip
 by_cases w2:x.what.toNat % 8=2
 ·have e0:decide (((x.what.toNat % 8:Nat):Int)=0)=false:=dF (by omega)
  have e1:decide (((x.what.toNat % 8:Nat):Int)=1)=false:=dF (by omega)
  have e2:decide (((x.what.toNat % 8:Nat):Int)=2)=true:=dT (by omega)
  rw[show opX x=⟨1,((x.data.toNat/4 % 3:Nat):Int),[]⟩ by rw[opX,if_pos (by omega)]]
  refine z18 ?_;refine rQ (eX (a:=x.data.toNat) (s:=2) (m:=x.data.toNat/4) rfl rfl (by decide) rfl) ?_;refine rQ (aR (m:=((x.data.toNat/4:Nat):Int)) aa rfl rfl rfl hwc) ?_;refine rQ (aZ (a:=x.data.toNat/4) (b:=3) aa rfl rfl rfl (by decide)) ?_;refine z7 ?_
  exact⟨trivial,_,rfl,[],lg ⟨⟨_,rfl,gu _ _⟩,rfl,trivial⟩ trivial⟩
 skip
 by_cases w3:x.what.toNat % 8=3
 ·have e0:decide (((x.what.toNat % 8:Nat):Int)=0)=false:=dF (by omega)
  have e1:decide (((x.what.toNat % 8:Nat):Int)=1)=false:=dF (by omega)
  have e2:decide (((x.what.toNat % 8:Nat):Int)=2)=false:=dF (by omega)
  have e3:decide (((x.what.toNat % 8:Nat):Int)=3)=true:=dT (by omega)
  rw[show opX x=⟨2,((x.data.toNat/4 % 3:Nat):Int),List.replicate 32 (blkB x.data)⟩ by rw[opX,if_neg (by omega),if_pos (by omega)]]
  refine z28 ?_;refine dQ [24] [64] iB ?_;refine yA (eX (a:=x.data.toNat) (s:=2) (m:=x.data.toNat/4) rfl rfl (by decide) rfl) ?_;refine yA (aR (m:=((x.data.toNat/4:Nat):Int)) aa rfl rfl rfl hwc) ?_;refine yA (aZ (a:=x.data.toNat/4) (b:=3) aa rfl rfl rfl (by decide)) ?_;refine yA (jN aa rfl rfl rfl rfl rfl) ?_;refine z1 ?_;refine bj [2,30] [72] (aG aa rfl rfl rfl ⟨_,⟨rfl,rfl,rfl⟩,rfl⟩ rfl) ?_;refine z5 ?_
  exact⟨trivial,_,rfl,[],lf⟩
 skip
 by_cases w4:x.what.toNat % 8=4
 ·have e0:decide (((x.what.toNat % 8:Nat):Int)=0)=false:=dF (by omega)
  have e1:decide (((x.what.toNat % 8:Nat):Int)=1)=false:=dF (by omega)
  have e2:decide (((x.what.toNat % 8:Nat):Int)=2)=false:=dF (by omega)
  have e3:decide (((x.what.toNat % 8:Nat):Int)=3)=false:=dF (by omega)
  have e4:decide (((x.what.toNat % 8:Nat):Int)=4)=true:=dT (by omega)
  rw[show opX x=⟨2,((x.data.toNat/4 % 3:Nat):Int),List.replicate 32 (blkB x.data)⟩ by rw[opX,if_neg (by omega),if_pos (by omega)]]
  refine z35 ?_;refine dQ [24] [64] iB ?_;refine yA (eX (a:=x.data.toNat) (s:=2) (m:=x.data.toNat/4) rfl rfl (by decide) rfl) ?_;refine yA (aR (m:=((x.data.toNat/4:Nat):Int)) aa rfl rfl rfl hwc) ?_;refine yA (aZ (a:=x.data.toNat/4) (b:=3) aa rfl rfl rfl (by decide)) ?_;refine yA (jN aa rfl rfl rfl rfl rfl) ?_;refine z1 ?_;refine bj [2,30] [72] (aG aa rfl rfl rfl ⟨_,⟨rfl,rfl,rfl⟩,rfl⟩ rfl) ?_;refine z5 ?_
  exact⟨trivial,_,rfl,[],lf⟩
 skip
 by_cases w5:x.what.toNat % 8=5
 ·have e0:decide (((x.what.toNat % 8:Nat):Int)=0)=false:=dF (by omega)
  have e1:decide (((x.what.toNat % 8:Nat):Int)=1)=false:=dF (by omega)
  have e2:decide (((x.what.toNat % 8:Nat):Int)=2)=false:=dF (by omega)
  have e3:decide (((x.what.toNat % 8:Nat):Int)=3)=false:=dF (by omega)
  have e4:decide (((x.what.toNat % 8:Nat):Int)=4)=false:=dF (by omega)
  have e5:decide (((x.what.toNat % 8:Nat):Int)=5)=true:=dT (by omega)
  rw[show opX x=⟨2,((x.data.toNat/4 % 3:Nat):Int),List.replicate 32 (blkB x.data)⟩ by rw[opX,if_neg (by omega),if_pos (by omega)]]
  refine z38 ?_;refine dQ [24] [64] iB ?_;refine yA (eX (a:=x.data.toNat) (s:=2) (m:=x.data.toNat/4) rfl rfl (by decide) rfl) ?_;refine yA (aR (m:=((x.data.toNat/4:Nat):Int)) aa rfl rfl rfl hwc) ?_;refine yA (aZ (a:=x.data.toNat/4) (b:=3) aa rfl rfl rfl (by decide)) ?_;refine yA (jN aa rfl rfl rfl rfl rfl) ?_;refine z1 ?_;refine bj [2,30] [72] (aG aa rfl rfl rfl ⟨_,⟨rfl,rfl,rfl⟩,rfl⟩ rfl) ?_;refine z5 ?_
  exact⟨trivial,_,rfl,[],lf⟩
 skip
 by_cases w6:x.what.toNat % 8=6
 ·have e0:decide (((x.what.toNat % 8:Nat):Int)=0)=false:=dF (by omega)
  have e1:decide (((x.what.toNat % 8:Nat):Int)=1)=false:=dF (by omega)
  have e2:decide (((x.what.toNat % 8:Nat):Int)=2)=false:=dF (by omega)
  have e3:decide (((x.what.toNat % 8:Nat):Int)=3)=false:=dF (by omega)
  have e4:decide (((x.what.toNat % 8:Nat):Int)=4)=false:=dF (by omega)
  have e5:decide (((x.what.toNat % 8:Nat):Int)=5)=false:=dF (by omega)
  have e6:decide (((x.what.toNat % 8:Nat):Int)=6)=true:=dT (by omega)
  rw[show opX x=⟨3,0,[]⟩ by rw[opX,if_neg (by omega),if_neg (by omega),if_pos w6]]
  refine z51 ?_
  exact⟨trivial,_,rfl,[],lg ⟨⟨_,rfl,gu _ _⟩,rfl,trivial⟩ trivial⟩
 have w7:x.what.toNat % 8=7:=by omega
 have e0:decide (((x.what.toNat % 8:Nat):Int)=0)=false:=dF (by omega)
 have e1:decide (((x.what.toNat % 8:Nat):Int)=1)=false:=dF (by omega)
 have e2:decide (((x.what.toNat % 8:Nat):Int)=2)=false:=dF (by omega)
 have e3:decide (((x.what.toNat % 8:Nat):Int)=3)=false:=dF (by omega)
 have e4:decide (((x.what.toNat % 8:Nat):Int)=4)=false:=dF (by omega)
 have e5:decide (((x.what.toNat % 8:Nat):Int)=5)=false:=dF (by omega)
 have e6:decide (((x.what.toNat % 8:Nat):Int)=6)=false:=dF (by omega)
 rw[show opX x=qOf ⟨8,x.data,x.what⟩ by rw[opX,if_neg (by omega),if_neg (by omega),if_neg w6]]
 refine z52 ?_;refine rQ (yK (C7 ⟨8,x.data,x.what⟩)) ?_;refine z4 ?_
 exact⟨trivial,_,rfl,[],lf⟩
def j5 (l:List XE):D :=.cons (.arr 3 qN l) .nil
def mj:List Int:=[0,0,0,0,0,1,8,9]
def errX (y:HEv) (x:XE):Int:=if badO y.op 3&&decide (x.what.toNat<200) then 1 else mj[x.what.toNat % 8]?.getD 0
def bX (out:List HEv) (x:XE):List HEv :=
 if x.who.toNat % 4=3∧x.what.toNat≤20 then out++[⟨3,0,zOp,zBk,0⟩]
 else if pend out ((x.who.toNat % 4 % 3:Nat):Int)<0 then out++[⟨1,((x.who.toNat % 4 % 3:Nat):Int),opX x,zBk,0⟩]
 else match out[(pend out ((x.who.toNat % 4 % 3:Nat):Int)).toNat]? with
  | none=>out
  | some y=>out++[⟨2,((x.who.toNat % 4 % 3:Nat):Int),zOp,if y.op.kind=1∧errX y x=0 then List.replicate 32 (blkB x.data) else zBk,errX y x⟩]
def hOf (l:List XE):List HEv:=(l.take 24).foldl bX []
theorem ld (k c e:Int):DLe (.cons (u8s k) (.cons (i6 c) (.cons zPOp (.cons (.vec 32 1 cN (List.replicate 32 0)) (.cons (i6 e) .nil))))) (bu ⟨k,c,zOp,zBk,e⟩):=by
 rintro w X cs ⟨c1,r1,rfl,h1,c2,r2,rfl,h2,c3,r3,rfl,h3,h4⟩
 exact⟨c1,_,rfl,h1,c2,_,rfl,h2,c3,_,rfl,CT _ _ _ h3,h4⟩
theorem xh (out:List HEv) (x:XE):(bX out x).length≤out.length+1:=by
 unfold bX
 split
 ·simp
 ·split
  ·simp
  ·split <;> simp
theorem kG:∀(l:List XE) (out:List HEv),(l.foldl bX out).length≤out.length+l.length
 | [],out=>by simp
 | x::l,out=>by
  have h1:=kG l (bX out x)
  have h2:=xh out x
  simp only[List.foldl_cons,List.length_cons]
  omega
theorem vh {l:List XE} {i:Nat} {x:XE} (hx:l[i]?=some x):(l.take (i+1)).foldl bX []=bX ((l.take i).foldl bX []) x:=by
 rw[List.take_add_one,hx,Option.toList_some,List.foldl_append]; rfl
theorem wv (l:List XE):FnIs Try.prog 24 [.d (j5 l)] [] (.own 64 0 (hOf l).length 38 none) [(64,.ds 42 38 false bu (hOf l))]:=by
 refine aq aa Try.func24 rfl rfl rfl ?_;refine z18 ?_
 refine wc_inv (fun q:Nat×List HEv=>⟨[(4,.int .i64 q.1),(3,.own 65 0 q.2.length 38 none),(1,.ptr 64 [])],[(64,some (.box 50 (.d (j5 l)))),(65,some (.ds 42 38 false bu q.2))],72,Try.f24.ntmps,64⟩) (fun q=>q.1≤l.length∧q.1≤24∧q.2=(l.take q.1).foldl bX []) (fun q=>24-q.1) (0,[]) [(64,some 64),(65,none)] ⟨Nat.zero_le _,Nat.zero_le _,rfl⟩
  (lg zj ⟨zR,⟨rfl,rfl,rfl⟩,trivial⟩) ?_
 rintro⟨i,out⟩ ⟨hi,h24,hout⟩
 simp only at hi h24 hout
 have hol:out.length≤24:=by
  have:=kG (l.take i) []
  rw[←hout,List.length_take]at this
  simp at this; omega
 have hal:out.length+1≤1048576:=by omega
 have hpl:out.length≤9223372036854775807:=by omega
 refine bt ?_;refine z9 ?_
 by_cases hlt:i<l.length
 ·have c1:decide ((i:Int)<(l.length:Int))=true:=dT (by omega)
  refine z7 ?_
  by_cases h24:i<24
  ·have c2:decide ((i:Int)<24)=true:=dT (by omega)
   obtain⟨x,hx⟩:∃u,l[i]?=some u:=⟨_,List.getElem?_eq_getElem hlt⟩
   have hx':l[((i:Int)).toNat]?=some x:=by rw[Int.toNat_natCast]; exact hx
   have hx1:=x.who.toNat_lt
   have hx2:=x.what.toNat_lt
   have hwc:IntKind.i64.wrap ((x.who.toNat % 4:Nat):Int)=((x.who.toNat % 4:Nat):Int):=aH (by omega) (by omega)
   have hfx:=vh hx
   rw[←hout]at hfx
   refine z20 ?_;refine rQ (aZ (a:=x.who.toNat) (b:=4) aa rfl rfl rfl (by decide)) ?_;refine rQ (aR (m:=((x.who.toNat % 4:Nat):Int)) aa rfl rfl rfl hwc) ?_;refine z9 ?_
   by_cases w3:x.who.toNat % 4=3
   ·have d3:decide (((x.who.toNat % 4:Nat):Int)=3)=true:=dT (by omega)
    refine z9 ?_
    by_cases w20:x.what.toNat≤20
    ·have d20:decide ((x.what.toNat:Int)≤20)=true:=dT (by omega)
     have hst:bX out x=out++[⟨3,0,zOp,zBk,0⟩]:=by rw[bX,if_pos ⟨w3,w20⟩]
     have hl1:out.length+1=(out++[(⟨3,0,zOp,zBk,0⟩:HEv)]).length:=by simp
     refine z4 ?_;refine rQ (ab.val_le (aK aa rfl rfl rfl rfl) (ld 3 0 0) rfl) ?_;refine aO (ae (s:=38) aa rfl rfl rfl rfl rfl rfl rfl rfl) rfl ?_;refine aC (aJ (enc:=bu) (s:=38) (xs:=out) aa ⟨3,0,zOp,zBk,0⟩ rfl rfl rfl rfl rfl rfl rfl rfl rfl hal rfl) rfl ?_;refine z12 ?_
     exact an (i+1,out++[⟨3,0,zOp,zBk,0⟩]) [(64,some 64),(65,some _)] ⟨hlt,h24,by rw[hfx,hst]⟩ (by show 24-(i+1)<24-i; omega) (lg ⟨zE,rfl,⟨_,rfl,AVLe.of_eq (congrArg (fun n=>AV.own _ 0 n 38 none) hl1)⟩,rfl,zE,rfl,trivial⟩ ⟨zR,zR,trivial⟩)
    ·have d20:decide ((x.what.toNat:Int)≤20)=false:=dF (by omega)
     have hns:¬(x.who.toNat % 4=3∧x.what.toNat≤20):=by omega
     refine z6 ?_;refine rQ (aZ (a:=x.who.toNat % 4) (b:=3) aa rfl rfl rfl (by decide)) ?_;refine z7 ?_;refine rQ (ii (wh out ((x.who.toNat % 4 % 3:Nat):Int) hpl) rfl rfl (od rfl (aE au)) (.inr (cr.sc _)) (fun _=>rfl)) ?_;refine z10 ?_
     by_cases hp:pend out ((x.who.toNat % 4 % 3:Nat):Int)<0
     ·have dp:decide (pend out ((x.who.toNat % 4 % 3:Nat):Int)<0)=true:=dT hp
      have hst:bX out x=out++[⟨1,((x.who.toNat % 4 % 3:Nat):Int),opX x,zBk,0⟩]:=by rw[bX,if_neg hns,if_pos hp]
      have hl1:out.length+1=(out++[(⟨1,((x.who.toNat % 4 % 3:Nat):Int),opX x,zBk,0⟩:HEv)]).length:=by simp
      refine z6 ?_;refine rQ (yK (Aj x)) ?_;refine z1 ?_;refine aO (ae (s:=38) aa rfl rfl rfl rfl rfl rfl rfl rfl) rfl ?_;refine aC (aJ (enc:=bu) (s:=38) (xs:=out) aa ⟨1,((x.who.toNat % 4 % 3:Nat):Int),opX x,zBk,0⟩ rfl rfl rfl rfl rfl rfl rfl rfl rfl hal rfl) rfl ?_;refine z12 ?_
      exact an (i+1,out++[⟨1,((x.who.toNat % 4 % 3:Nat):Int),opX x,zBk,0⟩]) [(64,some 64),(65,some _)] ⟨hlt,h24,by rw[hfx,hst]⟩ (by show 24-(i+1)<24-i; omega) (lg ⟨zE,rfl,⟨_,rfl,AVLe.of_eq (congrArg (fun n=>AV.own _ 0 n 38 none) hl1)⟩,rfl,zE,rfl,trivial⟩ ⟨zR,zR,trivial⟩)
     ·have dp:decide (pend out ((x.who.toNat % 4 % 3:Nat):Int)<0)=false:=dF hp
      have hpi:=rD out ((x.who.toNat % 4 % 3:Nat):Int)
      have hge:0≤pend out ((x.who.toNat % 4 % 3:Nat):Int):=by omega
      have hlp:pend out ((x.who.toNat % 4 % 3:Nat):Int)<(out.length:Int):=hpi.2
      obtain⟨y,hy⟩:∃y,out[(pend out ((x.who.toNat % 4 % 3:Nat):Int)).toNat]?=some y:=⟨_,List.getElem?_eq_getElem (by omega)⟩
      obtain⟨e0,he0⟩:∃e0,mj[x.what.toNat % 8]?=some e0:=⟨_,List.getElem?_eq_getElem (Nat.mod_lt _ (by decide))⟩
      have hE:mj[(((x.what.toNat % 8:Nat):Int)).toNat]?=some e0:=by rw[Int.toNat_natCast]; exact he0
      have hs0:bX out x=out++[⟨2,((x.who.toNat % 4 % 3:Nat):Int),zOp,if y.op.kind=1∧errX y x=0 then List.replicate 32 (blkB x.data) else zBk,errX y x⟩]:=by rw[bX,if_neg hns,if_neg hp,hy]
      have hb:=nZ y.op 3
      obtain⟨bad,hbad⟩:∃b,badO y.op 3=b:=⟨_,rfl⟩
      obtain⟨lo,hlo⟩:∃b,decide (x.what.toNat<200)=b:=⟨_,rfl⟩
      have hlo':decide ((x.what.toNat:Int)<200)=lo:=by rw[←hlo]; exact decide_eq_decide.2 (by omega)
      rw[hbad]at hb
      unfold r01 at hb
      refine z6 ?_;refine rQ (ab.frozen (ae (s:=1) aa rfl rfl rfl rfl rfl rfl rfl rfl) (Frz.litsN (enc:=i6) [0,0,0,0,0,1,8,9] rfl (fun _ _=>rfl))) ?_;refine z2 ?_;refine rQ (aZ (a:=x.what.toNat) (b:=8) aa rfl rfl rfl (by decide)) ?_;refine rQ (bK (xs:=mj) aa rfl rfl rfl rfl rfl (by omega) hE) ?_;refine z1 ?_;refine rQ (ab.val_le (aK aa rfl rfl rfl rfl) (ld 2 ((x.who.toNat % 4 % 3:Nat):Int) e0) rfl) ?_;refine z9 ?_;refine rQ (bg aa rfl rfl rfl rfl rfl hge hlp) ?_;refine z1 ?_;refine rQ (aX aa rfl rfl ⟨rfl,y,hy,_,rfl,rfl⟩ rfl) ?_;refine z3 ?_
      cases bad with
      | true =>
       rw[if_pos rfl]at hb
       refine z9 ?_
       cases lo with
       | true =>
        have heX:errX y x=1:=by rw[errX,hbad,hlo]; rfl
        rw[heX]at hs0
        refine z3 ?_;refine rX ?_;refine z7 ?_;refine rQ (bg aa rfl rfl rfl rfl rfl hge hlp) ?_;refine z2 ?_;refine rQ (aX aa rfl rfl ⟨rfl,y,hy,_,rfl,rfl⟩ rfl) ?_;refine z2 ?_
        by_cases hk:y.op.kind=1
        ·have dk:decide (y.op.kind=1)=true:=dT hk
         have hst:bX out x=out++[⟨2,((x.who.toNat % 4 % 3:Nat):Int),zOp,zBk,1⟩]:=by rw[hs0,if_neg (by omega)]
         have hl1:out.length+1=(out++[(⟨2,((x.who.toNat % 4 % 3:Nat):Int),zOp,zBk,1⟩:HEv)]).length:=by simp
         refine z15 ?_;refine aO (ae (s:=38) aa rfl rfl rfl rfl rfl rfl rfl rfl) rfl ?_;refine aC (aJ (enc:=bu) (s:=38) (xs:=out) aa ⟨2,((x.who.toNat % 4 % 3:Nat):Int),zOp,zBk,1⟩ rfl rfl rfl rfl rfl rfl rfl rfl rfl hal rfl) rfl ?_;refine z9 ?_
         exact an (i+1,out++[⟨2,((x.who.toNat % 4 % 3:Nat):Int),zOp,zBk,1⟩]) [(64,some 64),(65,some _)] ⟨hlt,h24,by rw[hfx,hst]⟩ (by show 24-(i+1)<24-i; omega) (lg ⟨zE,rfl,⟨_,rfl,AVLe.of_eq (congrArg (fun n=>AV.own _ 0 n 38 none) hl1)⟩,rfl,zE,rfl,trivial⟩ ⟨zR,zR,trivial⟩)
        ·have dk:decide (y.op.kind=1)=false:=dF hk
         have hst:bX out x=out++[⟨2,((x.who.toNat % 4 % 3:Nat):Int),zOp,zBk,1⟩]:=by rw[hs0,if_neg (fun h=>hk h.1)]
         have hl1:out.length+1=(out++[(⟨2,((x.who.toNat % 4 % 3:Nat):Int),zOp,zBk,1⟩:HEv)]).length:=by simp
         refine z12 ?_;refine aO (ae (s:=38) aa rfl rfl rfl rfl rfl rfl rfl rfl) rfl ?_;refine aC (aJ (enc:=bu) (s:=38) (xs:=out) aa ⟨2,((x.who.toNat % 4 % 3:Nat):Int),zOp,zBk,1⟩ rfl rfl rfl rfl rfl rfl rfl rfl rfl hal rfl) rfl ?_;refine z9 ?_
         exact an (i+1,out++[⟨2,((x.who.toNat % 4 % 3:Nat):Int),zOp,zBk,1⟩]) [(64,some 64),(65,some _)] ⟨hlt,h24,by rw[hfx,hst]⟩ (by show 24-(i+1)<24-i; omega) (lg ⟨zE,rfl,⟨_,rfl,AVLe.of_eq (congrArg (fun n=>AV.own _ 0 n 38 none) hl1)⟩,rfl,zE,rfl,trivial⟩ ⟨zR,zR,trivial⟩)
       | false =>
        have heX:errX y x=e0:=by rw[errX,hbad,hlo,he0]; rfl
        rw[heX]at hs0
        refine z8 ?_;refine rQ (bg aa rfl rfl rfl rfl rfl hge hlp) ?_;refine z2 ?_;refine rQ (aX aa rfl rfl ⟨rfl,y,hy,_,rfl,rfl⟩ rfl) ?_;refine z2 ?_
        by_cases hk:y.op.kind=1
        ·have dk:decide (y.op.kind=1)=true:=dT hk
         refine z9 ?_
         by_cases hz:e0=0
         ·have dz:decide (e0=0)=true:=dT hz
          have hst:bX out x=out++[⟨2,((x.who.toNat % 4 % 3:Nat):Int),zOp,List.replicate 32 (blkB x.data),e0⟩]:=by rw[hs0,if_pos ⟨hk,hz⟩]
          have hl1:out.length+1=(out++[(⟨2,((x.who.toNat % 4 % 3:Nat):Int),zOp,List.replicate 32 (blkB x.data),e0⟩:HEv)]).length:=by simp
          refine z4 ?_;refine rQ (yK (gH x.data)) ?_;refine z1 ?_;refine rX ?_;refine z5 ?_;refine aO (ae (s:=38) aa rfl rfl rfl rfl rfl rfl rfl rfl) rfl ?_;refine aC (aJ (enc:=bu) (s:=38) (xs:=out) aa ⟨2,((x.who.toNat % 4 % 3:Nat):Int),zOp,List.replicate 32 (blkB x.data),e0⟩ rfl rfl rfl rfl rfl rfl rfl rfl rfl hal rfl) rfl ?_;refine z9 ?_
          exact an (i+1,out++[⟨2,((x.who.toNat % 4 % 3:Nat):Int),zOp,List.replicate 32 (blkB x.data),e0⟩]) [(64,some 64),(65,some _)] ⟨hlt,h24,by rw[hfx,hst]⟩ (by show 24-(i+1)<24-i; omega) (lg ⟨zE,rfl,⟨_,rfl,AVLe.of_eq (congrArg (fun n=>AV.own _ 0 n 38 none) hl1)⟩,rfl,zE,rfl,trivial⟩ ⟨zR,zR,trivial⟩)
         ·have dz:decide (e0=0)=false:=dF hz
          have hst:bX out x=out++[⟨2,((x.who.toNat % 4 % 3:Nat):Int),zOp,zBk,e0⟩]:=by rw[hs0,if_neg (fun h=>hz h.2)]
          have hl1:out.length+1=(out++[(⟨2,((x.who.toNat % 4 % 3:Nat):Int),zOp,zBk,e0⟩:HEv)]).length:=by simp
          refine z6 ?_;refine aO (ae (s:=38) aa rfl rfl rfl rfl rfl rfl rfl rfl) rfl ?_;refine aC (aJ (enc:=bu) (s:=38) (xs:=out) aa ⟨2,((x.who.toNat % 4 % 3:Nat):Int),zOp,zBk,e0⟩ rfl rfl rfl rfl rfl rfl rfl rfl rfl hal rfl) rfl ?_;refine z9 ?_
          exact an (i+1,out++[⟨2,((x.who.toNat % 4 % 3:Nat):Int),zOp,zBk,e0⟩]) [(64,some 64),(65,some _)] ⟨hlt,h24,by rw[hfx,hst]⟩ (by show 24-(i+1)<24-i; omega) (lg ⟨zE,rfl,⟨_,rfl,AVLe.of_eq (congrArg (fun n=>AV.own _ 0 n 38 none) hl1)⟩,rfl,zE,rfl,trivial⟩ ⟨zR,zR,trivial⟩)
        ·have dk:decide (y.op.kind=1)=false:=dF hk
         have hst:bX out x=out++[⟨2,((x.who.toNat % 4 % 3:Nat):Int),zOp,zBk,e0⟩]:=by rw[hs0,if_neg (fun h=>hk h.1)]
         have hl1:out.length+1=(out++[(⟨2,((x.who.toNat % 4 % 3:Nat):Int),zOp,zBk,e0⟩:HEv)]).length:=by simp
         refine z12 ?_;refine aO (ae (s:=38) aa rfl rfl rfl rfl rfl rfl rfl rfl) rfl ?_;refine aC (aJ (enc:=bu) (s:=38) (xs:=out) aa ⟨2,((x.who.toNat % 4 % 3:Nat):Int),zOp,zBk,e0⟩ rfl rfl rfl rfl rfl rfl rfl rfl rfl hal rfl) rfl ?_;refine z9 ?_
         exact an (i+1,out++[⟨2,((x.who.toNat % 4 % 3:Nat):Int),zOp,zBk,e0⟩]) [(64,some 64),(65,some _)] ⟨hlt,h24,by rw[hfx,hst]⟩ (by show 24-(i+1)<24-i; omega) (lg ⟨zE,rfl,⟨_,rfl,AVLe.of_eq (congrArg (fun n=>AV.own _ 0 n 38 none) hl1)⟩,rfl,zE,rfl,trivial⟩ ⟨zR,zR,trivial⟩)
      | false =>
       rw[if_neg (by decide)]at hb
       have heX:errX y x=e0:=by rw[errX,hbad,he0]; rfl
       rw[heX]at hs0
       refine z14 ?_;refine rQ (bg aa rfl rfl rfl rfl rfl hge hlp) ?_;refine z2 ?_;refine rQ (aX aa rfl rfl ⟨rfl,y,hy,_,rfl,rfl⟩ rfl) ?_;refine z2 ?_
       by_cases hk:y.op.kind=1
       ·have dk:decide (y.op.kind=1)=true:=dT hk
        refine z9 ?_
        by_cases hz:e0=0
        ·have dz:decide (e0=0)=true:=dT hz
         have hst:bX out x=out++[⟨2,((x.who.toNat % 4 % 3:Nat):Int),zOp,List.replicate 32 (blkB x.data),e0⟩]:=by rw[hs0,if_pos ⟨hk,hz⟩]
         have hl1:out.length+1=(out++[(⟨2,((x.who.toNat % 4 % 3:Nat):Int),zOp,List.replicate 32 (blkB x.data),e0⟩:HEv)]).length:=by simp
         refine z4 ?_;refine rQ (yK (gH x.data)) ?_;refine z1 ?_;refine rX ?_;refine z5 ?_;refine aO (ae (s:=38) aa rfl rfl rfl rfl rfl rfl rfl rfl) rfl ?_;refine aC (aJ (enc:=bu) (s:=38) (xs:=out) aa ⟨2,((x.who.toNat % 4 % 3:Nat):Int),zOp,List.replicate 32 (blkB x.data),e0⟩ rfl rfl rfl rfl rfl rfl rfl rfl rfl hal rfl) rfl ?_;refine z9 ?_
         exact an (i+1,out++[⟨2,((x.who.toNat % 4 % 3:Nat):Int),zOp,List.replicate 32 (blkB x.data),e0⟩]) [(64,some 64),(65,some _)] ⟨hlt,h24,by rw[hfx,hst]⟩ (by show 24-(i+1)<24-i; omega) (lg ⟨zE,rfl,⟨_,rfl,AVLe.of_eq (congrArg (fun n=>AV.own _ 0 n 38 none) hl1)⟩,rfl,zE,rfl,trivial⟩ ⟨zR,zR,trivial⟩)
        ·have dz:decide (e0=0)=false:=dF hz
         have hst:bX out x=out++[⟨2,((x.who.toNat % 4 % 3:Nat):Int),zOp,zBk,e0⟩]:=by rw[hs0,if_neg (fun h=>hz h.2)]
         have hl1:out.length+1=(out++[(⟨2,((x.who.toNat % 4 % 3:Nat):Int),zOp,zBk,e0⟩:HEv)]).length:=by simp
         refine z6 ?_;refine aO (ae (s:=38) aa rfl rfl rfl rfl rfl rfl rfl rfl) rfl ?_;refine aC (aJ (enc:=bu) (s:=38) (xs:=out) aa ⟨2,((x.who.toNat % 4 % 3:Nat):Int),zOp,zBk,e0⟩ rfl rfl rfl rfl rfl rfl rfl rfl rfl hal rfl) rfl ?_;refine z9 ?_
         exact an (i+1,out++[⟨2,((x.who.toNat % 4 % 3:Nat):Int),zOp,zBk,e0⟩]) [(64,some 64),(65,some _)] ⟨hlt,h24,by rw[hfx,hst]⟩ (by show 24-(i+1)<24-i; omega) (lg ⟨zE,rfl,⟨_,rfl,AVLe.of_eq (congrArg (fun n=>AV.own _ 0 n 38 none) hl1)⟩,rfl,zE,rfl,trivial⟩ ⟨zR,zR,trivial⟩)
       ·have dk:decide (y.op.kind=1)=false:=dF hk
        have hst:bX out x=out++[⟨2,((x.who.toNat % 4 % 3:Nat):Int),zOp,zBk,e0⟩]:=by rw[hs0,if_neg (fun h=>hk h.1)]
        have hl1:out.length+1=(out++[(⟨2,((x.who.toNat % 4 % 3:Nat):Int),zOp,zBk,e0⟩:HEv)]).length:=by simp
        refine z12 ?_;refine aO (ae (s:=38) aa rfl rfl rfl rfl rfl rfl rfl rfl) rfl ?_;refine aC (aJ (enc:=bu) (s:=38) (xs:=out) aa ⟨2,((x.who.toNat % 4 % 3:Nat):Int),zOp,zBk,e0⟩ rfl rfl rfl rfl rfl rfl rfl rfl rfl hal rfl) rfl ?_;refine z9 ?_
        exact an (i+1,out++[⟨2,((x.who.toNat % 4 % 3:Nat):Int),zOp,zBk,e0⟩]) [(64,some 64),(65,some _)] ⟨hlt,h24,by rw[hfx,hst]⟩ (by show 24-(i+1)<24-i; omega) (lg ⟨zE,rfl,⟨_,rfl,AVLe.of_eq (congrArg (fun n=>AV.own _ 0 n 38 none) hl1)⟩,rfl,zE,rfl,trivial⟩ ⟨zR,zR,trivial⟩)
   ·have d3:decide (((x.who.toNat % 4:Nat):Int)=3)=false:=dF (by omega)
    have hns:¬(x.who.toNat % 4=3∧x.what.toNat≤20):=by omega
    refine z12 ?_;refine rQ (aZ (a:=x.who.toNat % 4) (b:=3) aa rfl rfl rfl (by decide)) ?_;refine z7 ?_;refine rQ (ii (wh out ((x.who.toNat % 4 % 3:Nat):Int) hpl) rfl rfl (od rfl (aE au)) (.inr (cr.sc _)) (fun _=>rfl)) ?_;refine z10 ?_
    by_cases hp:pend out ((x.who.toNat % 4 % 3:Nat):Int)<0
    ·have dp:decide (pend out ((x.who.toNat % 4 % 3:Nat):Int)<0)=true:=dT hp
     have hst:bX out x=out++[⟨1,((x.who.toNat % 4 % 3:Nat):Int),opX x,zBk,0⟩]:=by rw[bX,if_neg hns,if_pos hp]
     have hl1:out.length+1=(out++[(⟨1,((x.who.toNat % 4 % 3:Nat):Int),opX x,zBk,0⟩:HEv)]).length:=by simp
     refine z6 ?_;refine rQ (yK (Aj x)) ?_;refine z1 ?_;refine aO (ae (s:=38) aa rfl rfl rfl rfl rfl rfl rfl rfl) rfl ?_;refine aC (aJ (enc:=bu) (s:=38) (xs:=out) aa ⟨1,((x.who.toNat % 4 % 3:Nat):Int),opX x,zBk,0⟩ rfl rfl rfl rfl rfl rfl rfl rfl rfl hal rfl) rfl ?_;refine z12 ?_
     exact an (i+1,out++[⟨1,((x.who.toNat % 4 % 3:Nat):Int),opX x,zBk,0⟩]) [(64,some 64),(65,some _)] ⟨hlt,h24,by rw[hfx,hst]⟩ (by show 24-(i+1)<24-i; omega) (lg ⟨zE,rfl,⟨_,rfl,AVLe.of_eq (congrArg (fun n=>AV.own _ 0 n 38 none) hl1)⟩,rfl,zE,rfl,trivial⟩ ⟨zR,zR,trivial⟩)
    ·have dp:decide (pend out ((x.who.toNat % 4 % 3:Nat):Int)<0)=false:=dF hp
     have hpi:=rD out ((x.who.toNat % 4 % 3:Nat):Int)
     have hge:0≤pend out ((x.who.toNat % 4 % 3:Nat):Int):=by omega
     have hlp:pend out ((x.who.toNat % 4 % 3:Nat):Int)<(out.length:Int):=hpi.2
     obtain⟨y,hy⟩:∃y,out[(pend out ((x.who.toNat % 4 % 3:Nat):Int)).toNat]?=some y:=⟨_,List.getElem?_eq_getElem (by omega)⟩
     obtain⟨e0,he0⟩:∃e0,mj[x.what.toNat % 8]?=some e0:=⟨_,List.getElem?_eq_getElem (Nat.mod_lt _ (by decide))⟩
     have hE:mj[(((x.what.toNat % 8:Nat):Int)).toNat]?=some e0:=by rw[Int.toNat_natCast]; exact he0
     have hs0:bX out x=out++[⟨2,((x.who.toNat % 4 % 3:Nat):Int),zOp,if y.op.kind=1∧errX y x=0 then List.replicate 32 (blkB x.data) else zBk,errX y x⟩]:=by rw[bX,if_neg hns,if_neg hp,hy]
     have hb:=nZ y.op 3
     obtain⟨bad,hbad⟩:∃b,badO y.op 3=b:=⟨_,rfl⟩
     obtain⟨lo,hlo⟩:∃b,decide (x.what.toNat<200)=b:=⟨_,rfl⟩
     have hlo':decide ((x.what.toNat:Int)<200)=lo:=by rw[←hlo]; exact decide_eq_decide.2 (by omega)
     rw[hbad]at hb
     unfold r01 at hb
     refine z6 ?_;refine rQ (ab.frozen (ae (s:=1) aa rfl rfl rfl rfl rfl rfl rfl rfl) (Frz.litsN (enc:=i6) [0,0,0,0,0,1,8,9] rfl (fun _ _=>rfl))) ?_;refine z2 ?_;refine rQ (aZ (a:=x.what.toNat) (b:=8) aa rfl rfl rfl (by decide)) ?_;refine rQ (bK (xs:=mj) aa rfl rfl rfl rfl rfl (by omega) hE) ?_;refine z1 ?_;refine rQ (ab.val_le (aK aa rfl rfl rfl rfl) (ld 2 ((x.who.toNat % 4 % 3:Nat):Int) e0) rfl) ?_;refine z9 ?_;refine rQ (bg aa rfl rfl rfl rfl rfl hge hlp) ?_;refine z1 ?_;refine rQ (aX aa rfl rfl ⟨rfl,y,hy,_,rfl,rfl⟩ rfl) ?_;refine z3 ?_
     cases bad with
     | true =>
      rw[if_pos rfl]at hb
      refine z9 ?_
      cases lo with
      | true =>
       have heX:errX y x=1:=by rw[errX,hbad,hlo]; rfl
       rw[heX]at hs0
       refine z3 ?_;refine rX ?_;refine z7 ?_;refine rQ (bg aa rfl rfl rfl rfl rfl hge hlp) ?_;refine z2 ?_;refine rQ (aX aa rfl rfl ⟨rfl,y,hy,_,rfl,rfl⟩ rfl) ?_;refine z2 ?_
       by_cases hk:y.op.kind=1
       ·have dk:decide (y.op.kind=1)=true:=dT hk
        have hst:bX out x=out++[⟨2,((x.who.toNat % 4 % 3:Nat):Int),zOp,zBk,1⟩]:=by rw[hs0,if_neg (by omega)]
        have hl1:out.length+1=(out++[(⟨2,((x.who.toNat % 4 % 3:Nat):Int),zOp,zBk,1⟩:HEv)]).length:=by simp
        refine z15 ?_;refine aO (ae (s:=38) aa rfl rfl rfl rfl rfl rfl rfl rfl) rfl ?_;refine aC (aJ (enc:=bu) (s:=38) (xs:=out) aa ⟨2,((x.who.toNat % 4 % 3:Nat):Int),zOp,zBk,1⟩ rfl rfl rfl rfl rfl rfl rfl rfl rfl hal rfl) rfl ?_;refine z9 ?_
        exact an (i+1,out++[⟨2,((x.who.toNat % 4 % 3:Nat):Int),zOp,zBk,1⟩]) [(64,some 64),(65,some _)] ⟨hlt,h24,by rw[hfx,hst]⟩ (by show 24-(i+1)<24-i; omega) (lg ⟨zE,rfl,⟨_,rfl,AVLe.of_eq (congrArg (fun n=>AV.own _ 0 n 38 none) hl1)⟩,rfl,zE,rfl,trivial⟩ ⟨zR,zR,trivial⟩)
       ·have dk:decide (y.op.kind=1)=false:=dF hk
        have hst:bX out x=out++[⟨2,((x.who.toNat % 4 % 3:Nat):Int),zOp,zBk,1⟩]:=by rw[hs0,if_neg (fun h=>hk h.1)]
        have hl1:out.length+1=(out++[(⟨2,((x.who.toNat % 4 % 3:Nat):Int),zOp,zBk,1⟩:HEv)]).length:=by simp
        refine z12 ?_;refine aO (ae (s:=38) aa rfl rfl rfl rfl rfl rfl rfl rfl) rfl ?_;refine aC (aJ (enc:=bu) (s:=38) (xs:=out) aa ⟨2,((x.who.toNat % 4 % 3:Nat):Int),zOp,zBk,1⟩ rfl rfl rfl rfl rfl rfl rfl rfl rfl hal rfl) rfl ?_;refine z9 ?_
        exact an (i+1,out++[⟨2,((x.who.toNat % 4 % 3:Nat):Int),zOp,zBk,1⟩]) [(64,some 64),(65,some _)] ⟨hlt,h24,by rw[hfx,hst]⟩ (by show 24-(i+1)<24-i; omega) (lg ⟨zE,rfl,⟨_,rfl,AVLe.of_eq (congrArg (fun n=>AV.own _ 0 n 38 none) hl1)⟩,rfl,zE,rfl,trivial⟩ ⟨zR,zR,trivial⟩)
      | false =>
       have heX:errX y x=e0:=by rw[errX,hbad,hlo,he0]; rfl
       rw[heX]at hs0
       refine z8 ?_;refine rQ (bg aa rfl rfl rfl rfl rfl hge hlp) ?_;refine z2 ?_;refine rQ (aX aa rfl rfl ⟨rfl,y,hy,_,rfl,rfl⟩ rfl) ?_;refine z2 ?_
       by_cases hk:y.op.kind=1
       ·have dk:decide (y.op.kind=1)=true:=dT hk
        refine z9 ?_
        by_cases hz:e0=0
        ·have dz:decide (e0=0)=true:=dT hz
         have hst:bX out x=out++[⟨2,((x.who.toNat % 4 % 3:Nat):Int),zOp,List.replicate 32 (blkB x.data),e0⟩]:=by rw[hs0,if_pos ⟨hk,hz⟩]
         have hl1:out.length+1=(out++[(⟨2,((x.who.toNat % 4 % 3:Nat):Int),zOp,List.replicate 32 (blkB x.data),e0⟩:HEv)]).length:=by simp
         refine z4 ?_;refine rQ (yK (gH x.data)) ?_;refine z1 ?_;refine rX ?_;refine z5 ?_;refine aO (ae (s:=38) aa rfl rfl rfl rfl rfl rfl rfl rfl) rfl ?_;refine aC (aJ (enc:=bu) (s:=38) (xs:=out) aa ⟨2,((x.who.toNat % 4 % 3:Nat):Int),zOp,List.replicate 32 (blkB x.data),e0⟩ rfl rfl rfl rfl rfl rfl rfl rfl rfl hal rfl) rfl ?_;refine z9 ?_
         exact an (i+1,out++[⟨2,((x.who.toNat % 4 % 3:Nat):Int),zOp,List.replicate 32 (blkB x.data),e0⟩]) [(64,some 64),(65,some _)] ⟨hlt,h24,by rw[hfx,hst]⟩ (by show 24-(i+1)<24-i; omega) (lg ⟨zE,rfl,⟨_,rfl,AVLe.of_eq (congrArg (fun n=>AV.own _ 0 n 38 none) hl1)⟩,rfl,zE,rfl,trivial⟩ ⟨zR,zR,trivial⟩)
        ·have dz:decide (e0=0)=false:=dF hz
         have hst:bX out x=out++[⟨2,((x.who.toNat % 4 % 3:Nat):Int),zOp,zBk,e0⟩]:=by rw[hs0,if_neg (fun h=>hz h.2)]
         have hl1:out.length+1=(out++[(⟨2,((x.who.toNat % 4 % 3:Nat):Int),zOp,zBk,e0⟩:HEv)]).length:=by simp
         refine z6 ?_;refine aO (ae (s:=38) aa rfl rfl rfl rfl rfl rfl rfl rfl) rfl ?_;refine aC (aJ (enc:=bu) (s:=38) (xs:=out) aa ⟨2,((x.who.toNat % 4 % 3:Nat):Int),zOp,zBk,e0⟩ rfl rfl rfl rfl rfl rfl rfl rfl rfl hal rfl) rfl ?_;refine z9 ?_
         exact an (i+1,out++[⟨2,((x.who.toNat % 4 % 3:Nat):Int),zOp,zBk,e0⟩]) [(64,some 64),(65,some _)] ⟨hlt,h24,by rw[hfx,hst]⟩ (by show 24-(i+1)<24-i; omega) (lg ⟨zE,rfl,⟨_,rfl,AVLe.of_eq (congrArg (fun n=>AV.own _ 0 n 38 none) hl1)⟩,rfl,zE,rfl,trivial⟩ ⟨zR,zR,trivial⟩)
       ·have dk:decide (y.op.kind=1)=false:=dF hk
        have hst:bX out x=out++[⟨2,((x.who.toNat % 4 % 3:Nat):Int),zOp,zBk,e0⟩]:=by rw[hs0,if_neg (fun h=>hk h.1)]
        have hl1:out.length+1=(out++[(⟨2,((x.who.toNat % 4 % 3:Nat):Int),zOp,zBk,e0⟩:HEv)]).length:=by simp
        refine z12 ?_;refine aO (ae (s:=38) aa rfl rfl rfl rfl rfl rfl rfl rfl) rfl ?_;refine aC (aJ (enc:=bu) (s:=38) (xs:=out) aa ⟨2,((x.who.toNat % 4 % 3:Nat):Int),zOp,zBk,e0⟩ rfl rfl rfl rfl rfl rfl rfl rfl rfl hal rfl) rfl ?_;refine z9 ?_
        exact an (i+1,out++[⟨2,((x.who.toNat % 4 % 3:Nat):Int),zOp,zBk,e0⟩]) [(64,some 64),(65,some _)] ⟨hlt,h24,by rw[hfx,hst]⟩ (by show 24-(i+1)<24-i; omega) (lg ⟨zE,rfl,⟨_,rfl,AVLe.of_eq (congrArg (fun n=>AV.own _ 0 n 38 none) hl1)⟩,rfl,zE,rfl,trivial⟩ ⟨zR,zR,trivial⟩)
     | false =>
      rw[if_neg (by decide)]at hb
      have heX:errX y x=e0:=by rw[errX,hbad,he0]; rfl
      rw[heX]at hs0
      refine z14 ?_;refine rQ (bg aa rfl rfl rfl rfl rfl hge hlp) ?_;refine z2 ?_;refine rQ (aX aa rfl rfl ⟨rfl,y,hy,_,rfl,rfl⟩ rfl) ?_;refine z2 ?_
      by_cases hk:y.op.kind=1
      ·have dk:decide (y.op.kind=1)=true:=dT hk
       refine z9 ?_
       by_cases hz:e0=0
       ·have dz:decide (e0=0)=true:=dT hz
        have hst:bX out x=out++[⟨2,((x.who.toNat % 4 % 3:Nat):Int),zOp,List.replicate 32 (blkB x.data),e0⟩]:=by rw[hs0,if_pos ⟨hk,hz⟩]
        have hl1:out.length+1=(out++[(⟨2,((x.who.toNat % 4 % 3:Nat):Int),zOp,List.replicate 32 (blkB x.data),e0⟩:HEv)]).length:=by simp
        refine z4 ?_;refine rQ (yK (gH x.data)) ?_;refine z1 ?_;refine rX ?_;refine z5 ?_;refine aO (ae (s:=38) aa rfl rfl rfl rfl rfl rfl rfl rfl) rfl ?_;refine aC (aJ (enc:=bu) (s:=38) (xs:=out) aa ⟨2,((x.who.toNat % 4 % 3:Nat):Int),zOp,List.replicate 32 (blkB x.data),e0⟩ rfl rfl rfl rfl rfl rfl rfl rfl rfl hal rfl) rfl ?_;refine z9 ?_
        exact an (i+1,out++[⟨2,((x.who.toNat % 4 % 3:Nat):Int),zOp,List.replicate 32 (blkB x.data),e0⟩]) [(64,some 64),(65,some _)] ⟨hlt,h24,by rw[hfx,hst]⟩ (by show 24-(i+1)<24-i; omega) (lg ⟨zE,rfl,⟨_,rfl,AVLe.of_eq (congrArg (fun n=>AV.own _ 0 n 38 none) hl1)⟩,rfl,zE,rfl,trivial⟩ ⟨zR,zR,trivial⟩)
       ·have dz:decide (e0=0)=false:=dF hz
        have hst:bX out x=out++[⟨2,((x.who.toNat % 4 % 3:Nat):Int),zOp,zBk,e0⟩]:=by rw[hs0,if_neg (fun h=>hz h.2)]
        have hl1:out.length+1=(out++[(⟨2,((x.who.toNat % 4 % 3:Nat):Int),zOp,zBk,e0⟩:HEv)]).length:=by simp
        refine z6 ?_;refine aO (ae (s:=38) aa rfl rfl rfl rfl rfl rfl rfl rfl) rfl ?_;refine aC (aJ (enc:=bu) (s:=38) (xs:=out) aa ⟨2,((x.who.toNat % 4 % 3:Nat):Int),zOp,zBk,e0⟩ rfl rfl rfl rfl rfl rfl rfl rfl rfl hal rfl) rfl ?_;refine z9 ?_
        exact an (i+1,out++[⟨2,((x.who.toNat % 4 % 3:Nat):Int),zOp,zBk,e0⟩]) [(64,some 64),(65,some _)] ⟨hlt,h24,by rw[hfx,hst]⟩ (by show 24-(i+1)<24-i; omega) (lg ⟨zE,rfl,⟨_,rfl,AVLe.of_eq (congrArg (fun n=>AV.own _ 0 n 38 none) hl1)⟩,rfl,zE,rfl,trivial⟩ ⟨zR,zR,trivial⟩)
      ·have dk:decide (y.op.kind=1)=false:=dF hk
       have hst:bX out x=out++[⟨2,((x.who.toNat % 4 % 3:Nat):Int),zOp,zBk,e0⟩]:=by rw[hs0,if_neg (fun h=>hk h.1)]
       have hl1:out.length+1=(out++[(⟨2,((x.who.toNat % 4 % 3:Nat):Int),zOp,zBk,e0⟩:HEv)]).length:=by simp
       refine z12 ?_;refine aO (ae (s:=38) aa rfl rfl rfl rfl rfl rfl rfl rfl) rfl ?_;refine aC (aJ (enc:=bu) (s:=38) (xs:=out) aa ⟨2,((x.who.toNat % 4 % 3:Nat):Int),zOp,zBk,e0⟩ rfl rfl rfl rfl rfl rfl rfl rfl rfl hal rfl) rfl ?_;refine z9 ?_
       exact an (i+1,out++[⟨2,((x.who.toNat % 4 % 3:Nat):Int),zOp,zBk,e0⟩]) [(64,some 64),(65,some _)] ⟨hlt,h24,by rw[hfx,hst]⟩ (by show 24-(i+1)<24-i; omega) (lg ⟨zE,rfl,⟨_,rfl,AVLe.of_eq (congrArg (fun n=>AV.own _ 0 n 38 none) hl1)⟩,rfl,zE,rfl,trivial⟩ ⟨zR,zR,trivial⟩)
  ·have c2:decide ((i:Int)<24)=false:=dF (by omega)
   have hE:out=hOf l:=by rw[hout,hOf,show i=24 by omega]
   rw[←hE]
   refine z13 ?_
   exact⟨trivial,[(64,some _)],lg zV ⟨zR,trivial⟩⟩
 ·have c1:decide ((i:Int)<(l.length:Int))=false:=dF (by omega)
  have hE:out=hOf l:=by rw[hout,hOf,List.take_of_length_le (by omega),List.take_of_length_le (by omega)]
  rw[←hE]
  refine z18 ?_
  exact⟨trivial,[(64,some _)],lg zV ⟨zR,trivial⟩⟩
end Go.Proofs.Ytmdgmolbamlicaa
namespace Go.Proofs.Ytmdgmolbamlicaa
open Go.Eng Go.Plain
set_option maxHeartbeats 32000000
set_option maxRecDepth 20000
set_option linter.unusedVariables false
theorem B5 {e:Int} (h:kn4 e=true):e=0∨e=1∨e=8∨e=9:=by
 simp only[kn4,Bool.or_eq_true,decide_eq_true_eq]at h
 omega
theorem AJ {rd:RdS} {x:HEv} {l:List HEv} {i:Nat}:goS rd (x::l) i=if (bR rd x).2 then goS (bR rd x).1 l (i+1) else ((bR rd x).1,(i:Int)):=by
 have:=mf (s:=rd) (h:=List.replicate i x++x::l) (i:=i) (x:=x) (by simp)
 rw[List.drop_left' (by simp)]at this
 rw[this,show List.replicate i x++x::l=(List.replicate i x++[x])++l by simp,List.drop_left' (by simp)]
theorem C6 (x:PQ):(qOf x).Ok:=by
 have h1:=x.kind.toNat_lt
 have h2:=x.index.toNat_lt
 have h3:=x.data.toNat_lt
 unfold qOf
 split
 ·exact⟨⟨by show (0:Int)≤1; decide,by show (1:Int)≤(255:Int); decide⟩,⟨by show-9223372036854775808≤((x.index.toNat % 22:Nat):Int)-1; omega,by show ((x.index.toNat % 22:Nat):Int)-1≤9223372036854775807; omega⟩⟩
 split
 ·exact⟨⟨by show (0:Int)≤2; decide,by show (2:Int)≤(255:Int); decide⟩,⟨by show-9223372036854775808≤((x.index.toNat % 22:Nat):Int)-1; omega,by show ((x.index.toNat % 22:Nat):Int)-1≤9223372036854775807; omega⟩⟩
 split
 ·exact⟨⟨by show (0:Int)≤((x.data.toNat % 4:Nat):Int); omega,by show ((x.data.toNat % 4:Nat):Int)≤255; omega⟩,⟨by show-9223372036854775808≤(x.index.toNat:Int)-100; omega,by show (x.index.toNat:Int)-100≤9223372036854775807; omega⟩⟩
 ·exact⟨⟨by decide,by decide⟩,⟨by decide,by decide⟩⟩
theorem zY (x:PQ):(qOf x).data.length≤32:=by
 unfold qOf
 split
 ·simp
 split
 ·simp
 split
 ·simp; omega
 ·simp
theorem rh (s:RdS) (x:HEv):(bR s x).1.all.length≤s.all.length+1:=by
 unfold bR
 simp only
 split
 ·split
  ·simp
  ·simp
 ·split
  ·split
   ·simp only
    cases opOf s x <;> simp
   ·simp
  ·split <;> simp
theorem nz:∀(h:List HEv) (s:RdS) (i:Nat),(goS s h i).1.all.length≤s.all.length+h.length
 | [],s,i=>by simp[goS]
 | x::h,s,i=>by
  rw[AJ]
  have h1:=rh s x
  split
  ·have:=nz h (bR s x).1 (i+1)
   simp only[List.length_cons]
   omega
  ·simp only[List.length_cons]
   omega
theorem dM (h:List HEv):(rdH h).all.length≤h.length:=by
 unfold rdH
 split
 ·simp[rd0]
 ·have:=nz h rd0 0
  simpa[rd0]using this
def bT (h:List HEv):Prop:=∀i x,h[i]?=some x→fitB (h.take i) x=true
theorem jB:bT []:=fun i x h=>by simp at h
theorem bT.snoc {h:List HEv} {x:HEv} (H:bT h) (hx:fitB h x=true):bT (h++[x]):=by
 intro i y hy
 by_cases hi:i<h.length
 ·rw[List.getElem?_append_left hi]at hy
  rw[List.take_append_of_le_length (by omega)]
  exact H i y hy
 ·have hlt:=(List.getElem?_eq_some_iff.1 hy).1
  have he:i=h.length:=by simp at hlt; omega
  subst he
  rw[List.getElem?_append_right (by omega),Nat.sub_self]at hy
  simp at hy
  subst hy
  rw[List.take_left']
  ·exact hx
  ·rfl
theorem bT.take {h:List HEv} (H:bT h) (n:Nat):bT (h.take n):=by
 intro i x hx
 have hlt:=(List.getElem?_eq_some_iff.1 hx).1
 rw[List.length_take]at hlt
 rw[List.getElem?_take_of_lt (by omega)]at hx
 rw[List.take_take,Nat.min_eq_left (by omega)]
 exact H i x hx
theorem sP {h:List HEv} (H:bT h):∀(n i:Nat),qe h n i=(0,0)
 | 0,i=>rfl
 | n+1,i=>by
  rw[qe]
  cases hx:h[i]? with
  | none=>rfl
  | some x =>
   simp only
   rw[H i x hx,if_pos rfl]
   exact sP H n (i+1)
theorem ob {h:List HEv} (H:bT h) (hl:h.length≤8192):chkH h=(0,0):=by
 rw[A9,rchk,if_neg (by omega)]
 exact sP H _ _
theorem AS:∀e∈mj,kn4 e=true:=by decide
theorem Ce (y:HEv) (x:XE):kn4 (errX y x)=true:=by
 unfold errX
 split
 ·rfl
 ·obtain⟨e,he⟩:∃e,mj[x.what.toNat % 8]?=some e:=⟨_,List.getElem?_eq_getElem (Nat.mod_lt _ (by decide))⟩
  rw[he]
  exact AS e (List.mem_of_getElem? he)
theorem Al (x:XE):(opX x).data.length≤64:=by
 unfold opX
 split
 ·simp
 split
 ·simp
 split
 ·simp
 ·have:=zY ⟨8,x.data,x.what⟩; omega
theorem Da (x:XE):(opX x).Ok:=by
 have h2:=x.data.toNat_lt
 unfold opX
 split
 ·exact⟨⟨by show (0:Int)≤1; decide,by show (1:Int)≤(255:Int); decide⟩,⟨by show-9223372036854775808≤((x.data.toNat/4 % 3:Nat):Int); omega,by show ((x.data.toNat/4 % 3:Nat):Int)≤9223372036854775807; omega⟩⟩
 split
 ·exact⟨⟨by show (0:Int)≤2; decide,by show (2:Int)≤(255:Int); decide⟩,⟨by show-9223372036854775808≤((x.data.toNat/4 % 3:Nat):Int); omega,by show ((x.data.toNat/4 % 3:Nat):Int)≤9223372036854775807; omega⟩⟩
 split
 ·exact⟨⟨by decide,by decide⟩,⟨by decide,by decide⟩⟩
 ·exact C6 _
theorem zop_ok':zOp.Ok:=⟨by decide,by decide⟩
theorem xi {out:List HEv} (x:XE) (H:bT out) (hok:∀y∈out,y.Ok):bT (bX out x)∧∀y∈bX out x,y.Ok:=by
 have app:∀(e:HEv),fitB out e=true→e.Ok→bT (out++[e])∧∀y∈out++[e],y.Ok:=fun e h1 h2=>⟨H.snoc h1,fun y hy=>by
  rcases List.mem_append.1 hy with hy | hy
  ·exact hok y hy
  ·rw[List.mem_singleton.1 hy]; exact h2⟩
 unfold bX
 split
 ·exact app _ rfl ⟨show (0:Int)≤3∧(3:Int)≤255 by decide,show (-9223372036854775808:Int)≤0∧(0:Int)≤9223372036854775807 by decide,zop_ok',rfl,show (-9223372036854775808:Int)≤0∧(0:Int)≤9223372036854775807 by decide⟩
 ·split
  ·rename_i hp
   refine app _ ?_ ⟨show (0:Int)≤1∧(1:Int)≤255 by decide,show (-9223372036854775808:Int)≤((x.who.toNat % 4 % 3:Nat):Int)∧((x.who.toNat % 4 % 3:Nat):Int)≤9223372036854775807 by omega,Da x,rfl,show (-9223372036854775808:Int)≤0∧(0:Int)≤9223372036854775807 by decide⟩
   rw[fitB,if_pos rfl,fit1]
   simp only[Bool.and_eq_true,decide_eq_true_eq]
   exact⟨⟨⟨⟨⟨by omega,by omega⟩,hp⟩,Al x⟩,trivial⟩,trivial⟩
  ·rename_i hp
   split
   ·exact⟨H,hok⟩
   ·rename_i y hy
    have hk:=Ce y x
    have hkr:=B5 hk
    refine app _ ?_ ⟨show (0:Int)≤2∧(2:Int)≤255 by decide,show (-9223372036854775808:Int)≤((x.who.toNat % 4 % 3:Nat):Int)∧((x.who.toNat % 4 % 3:Nat):Int)≤9223372036854775807 by omega,zop_ok',?_,?_⟩
    ·rw[fitB,if_neg (show ¬(2:Int)=1 by decide),if_pos rfl,fit2]
     simp only[Bool.and_eq_true,Bool.or_eq_true,decide_eq_true_eq,Bool.not_eq_true',decide_eq_false_iff_not]
     refine⟨⟨⟨⟨⟨by omega,by omega⟩,hp⟩,trivial⟩,hk⟩,?_⟩
     rw[hy]
     simp only[Bool.and_eq_true,decide_eq_true_eq]
     by_cases hc:y.op.kind=1∧errX y x=0
     ·exact .inl hc
     ·exact .inr (by rw[if_neg hc])
    ·show (if y.op.kind=1∧errX y x=0 then List.replicate 32 (blkB x.data) else zBk).length=32
     split
     ·simp
     ·rfl
    ·show-9223372036854775808≤errX y x∧errX y x≤9223372036854775807
     omega
theorem qF:∀(l:List XE) (out:List HEv),bT out→(∀y∈out,y.Ok)→bT (l.foldl bX out)∧∀y∈l.foldl bX out,y.Ok
 | [],out,H,hok=>⟨H,hok⟩
 | x::l,out,H,hok=>by
  obtain⟨h1,h2⟩:=xi x H hok
  exact qF l _ h1 h2
theorem wy (l:List XE):bT (hOf l):=(qF _ [] jB (fun y hy=>by cases hy)).1
theorem kD (l:List XE):(hOf l).length≤24:=by
 have:=kG (l.take 24) []
 rw[List.length_take]at this
 unfold hOf
 simp at this
 omega
theorem n7 (l:List XE):chkH (hOf l)=(0,0):=ob (wy l) (by have:=kD l; omega)
end Go.Proofs.Ytmdgmolbamlicaa
namespace Go.Proofs.Ytmdgmolbamlicaa
open Go.Eng Go.Plain
set_option maxHeartbeats 32000000
set_option maxRecDepth 20000
theorem Ak (h:List HEv):(opsH h).length≤h.length:=by
 unfold opsH
 split
 ·exact dM h
 ·exact Nat.zero_le _
theorem rV (h:List HEv) (b:Int):(lH h b).length≤h.length:=by
 unfold lH opL
 split
 ·exact Ak h
 ·exact Nat.zero_le _
theorem POk.zle {l:List HOp} {e:Nat} {p:Prep} (P:POk l e p) {x:LSt} (S:SOk p e x):(zOf p x.era).length≤8192:=by
 obtain⟨e0,e1⟩:=S.era
 obtain⟨n,hn⟩:∃n:Nat,x.era=n:=⟨x.era.toNat,by omega⟩
 rw[hn]
 exact P.zl _ (P.zm (by omega))
theorem gJ.zle {l:List HOp} {b:Int} {e:Nat} {p:Prep} {ks:List Int} {kv:List (List UInt8)} (F:gJ l b e p ks kv) {x:LSt} (S:SOk p e x):(zOf p x.era).length≤l.length:=by
 obtain⟨e0,e1⟩:=S.era
 obtain⟨n,hn⟩:∃n:Nat,x.era=n:=⟨x.era.toNat,by omega⟩
 rw[hn,zOf,Int.toNat_natCast,F.opk n (by omega),Option.getD_some,fj,mayI]
 exact fP _ l 0
theorem yS (h:List HEv) (b fuel:Int) (hh:h.length≤8192) (Inv:Nat→QS→List (List aF)→Prop)
  (hI0:opE h b=0→Inv 0 (addS ([],[]) (dD (pH h b))).1 []) (hIs:∀i q sp x,opE h b=0→POk (lH h b) (ao h) (pH h b)→0≤fuel→Inv i q sp→q.2[i]?=some x→(q.2.length:Int)≤fuel→Inv (i+1) (cC (pH h b) (lH h b) (ao h) x q).1 (sp++[(cC (pH h b) (lH h b) (ao h) x q).2])) (hIb:∀i q sp,0≤fuel→Inv i q sp→q.2.length+8200≤1048576)
  (htot:∀r,opE h b=0→0≤fuel→fuel≤1048576→gg h b fuel=some r→r.1.2.length*(h.length+1)+1≤67108864):fz h b fuel:=by
 have hal:(rdH h).all.length≤8192:=Nat.le_trans (dM h) hh
 have hll:(lH h b).length≤8192:=Nat.le_trans (rV h b) hh
 obtain⟨ks,kv,F⟩:=dP (lH h b) b (ao h)
 have P:=F.ok hll
 refine⟨hh,hal,fun hE h0 h1=>?_,fun _=>⟨ks,kv,F⟩,fun _=>hll,fun r hE h0 h1 hr=>?_⟩
 ·exact xn h b fuel hh hal hE h0 h1 _ rfl _ rfl _ rfl P (fun o _ hm hk=>(iy hm).2.1 hk) Inv (hI0 hE) (fun i q sp x=>hIs i q sp x hE P h0) (fun i q sp=>hIb i q sp h0)
 ·obtain⟨q,sp⟩:=r
  obtain⟨I,hfu⟩:=gn P (dG h) hr
  have h2:=I.tot (M:=h.length) fun x hx=>Nat.le_trans (F.zle (I.ok.st x hx)) (rV h b)
  have h3:=htot _ hE h0 h1 hr
  simp only at h3 ⊢
  omega
theorem fE (h:List HEv) (b fuel:Int) (hh:h.length≤8192) (hf:fuel≤1000000∨1048576<fuel∨opE h b≠0) (ht:fuel≤1000000→fuel.toNat*(h.length+1)+1≤67108864):fz h b fuel:=by
 rcases hf with hf | hf
 ·refine yS h b fuel hh (fun i q sp=>(∀y∈q.2,SOk (pH h b) (ao h) y)∧q.2.length≤fuel.toNat+8194) (fun hE=>⟨(CC (dG h)).ok.st,?_⟩) (fun i q sp x hE P h0 hI hx hle=>?_) (fun i q sp h0 hI=>?_) (fun r hE h0 _ hr=>?_)
  ·have:=(mD ([],[]) (dD (pH h b))).2
   simp only[List.length_nil]at this
   omega
  ·obtain⟨h1,h2⟩:=hI
   have hxm:=List.mem_of_getElem? hx
   have h3:=(qx (pH h b) (lH h b) (ao h) x q).2
   have h4:=P.zle (h1 x hxm)
   exact⟨s6 P (h1 x hxm) h1,by omega⟩
  ·have:=hI.2; omega
  ·obtain⟨ks,kv,F⟩:=dP (lH h b) b (ao h)
   have P:=F.ok (Nat.le_trans (rV h b) hh)
   obtain⟨q,sp⟩:=r
   obtain⟨I,hfu⟩:=gn P (dG h) hr
   have h1:=ht hf
   have h2:q.2.length≤fuel.toNat:=by omega
   have h3:=Nat.mul_le_mul_right (h.length+1) h2
   simp only
   omega
 ·have hal:(rdH h).all.length≤8192:=Nat.le_trans (dM h) hh
  have hll:(lH h b).length≤8192:=Nat.le_trans (rV h b) hh
  obtain⟨ks,kv,F⟩:=dP (lH h b) b (ao h)
  have P:=F.ok hll
  refine⟨hh,hal,fun hE h0 h1=>?_,fun _=>⟨ks,kv,F⟩,fun _=>hll,fun r hE h0 h1 hr=>?_⟩
  ·rcases hf with hf | hf
   ·omega
   ·exact absurd hE hf
  ·rcases hf with hf | hf
   ·omega
   ·exact absurd hE hf
end Go.Proofs.Ytmdgmolbamlicaa
namespace Go.Eng
open Go.RowKit
section
variable {P : Program} {T : Tab} {env : Env} {h : Upds} {n : Nat}
theorem dL (hT:aj P T) {t e:Nat} {re:TyR} {s:Nat} {α:Type} {enc:α→D} {xs ys:List α} {x y:Operand} (ht:bh T t=some (.slice e)) (he:lk T e=some re) (hs:Nat.beq re.size s=true) (hs0:Nat.blt 0 s=true)
  (hx:ai env x=some (.d (.arx s enc xs))) (hy:ai env y=some (.d (.arr s enc ys))) (hys:0<ys.length)
  (hlen:xs.length+ys.length≤1048576) (hbytes:Nat.ble re.bytes 134217728=true) :
  ab P (.call { callee :=.builtin .append,args := #[x,y],argTypes := #[t,t] }) env h n (some (.own n 0 (xs.length+ys.length) s none)) [(n,some (.ds e s false enc (xs++ys)))]:=by
 have hb:=Nat.le_of_ble_eq_true hbytes
 have hs1:=Nat.eq_of_beq_eq_true hs
 have hs0:=Nat.le_of_ble_eq_true hs0
 refine mA hT (ys:=ys) ht he hs1 hys (by simp only[maxLen]; omega) ?_ ?_ ?_
 ·have:(xs.length+ys.length)*re.bytes≤1048576*134217728:=Nat.mul_le_mul hlen hb
  omega
 ·intro C G st σ w a hA hst
  obtain⟨hx1,_⟩:=ak hst (hA.ev hx)
  rcases RelV.arx.1 hx1 with ⟨rfl,ad,hv⟩ | ⟨ad,hv,hc1,f,hf⟩
  ·exact⟨ad,0,fun _=>[],hv,by simpa using hys,fun _=>⟨rfl,rfl⟩,fun i hi=>by simp at hi,fun _ _ j v hj=>by simp[cat]at hj⟩
  ·refine⟨some ad,xs.length,f,hv,by omega,(fun h=>by cases h),fun i hi=>⟨(hf i hi).1,(hf i hi).2.1⟩,fun ad' had j v hj=>?_⟩
   cases had
   have hfl:∀i,i<xs.length→(f i).length=s:=fun i hi=>(hf i hi).2.1
   have hjl:=(List.getElem?_eq_some_iff.1 hj).1
   rw[cz _ hfl]at hjl
   have hi:j/s<xs.length:=Nat.div_lt_of_lt_mul (by rw[Nat.mul_comm]; exact hjl)
   have hm:j % s<s:=Nat.mod_lt _ hs0
   have hdm:j/s*s+j % s=j:=by rw[Nat.mul_comm]; exact Nat.div_add_mod j s
   have hg:=eH (f:=f) xs.length hfl (j/s) (j % s) hi hm
   rw[hdm,hj]at hg
   have:=((hf (j/s) hi).2.2 (j % s) v hg.symm).1
   rwa [hdm]at this
 ·exact BC hs0 hy hys
theorem Frz.litsX {r:Nat} {t s m:Nat} {α:Type} {enc:α→D} (xs:List α) (hm:m=xs.length) (hs:∀x,(enc x).size=s):Frz r (.lits t s m true (sk enc xs)) (.own r 0 m s none) (.d (.arx s enc xs)):=
 Frz.row_le (aM.lits_ds hs hm) (Frz.ownxe hm)
end
end Go.Eng
namespace Go.Proofs.Ytmdgmolbamlicaa
open Go.Eng Go.Plain
set_option maxHeartbeats 32000000
set_option maxRecDepth 20000
attribute [local irreducible] WC RegS RegD SeqQ BlkQ ScoQ RegK CutK Sat SatN FnIs LoopQ ab OpIs
theorem ic (k i:Int):DLe (.cons (u8s k) (.cons (i6 i) (.cons (.sc nil_) .nil))) (ce ⟨k,i,[]⟩):=by
 rintro w X cs ⟨d1,q1,rfl,g1,d2,q2,rfl,g2,d3,q3,rfl,⟨rfl,_⟩,rfl⟩
 exact⟨d1,_,rfl,g1,d2,_,rfl,g2,[.slice none 0 0],[],rfl,.inl ⟨rfl,rfl⟩,rfl⟩
theorem eP (k c ok oi e:Int) (v:List UInt8):DLe (.cons (u8s k) (.cons (i6 c) (.cons (.cons (u8s ok) (.cons (i6 oi) (.cons (.sc nil_) .nil))) (.cons (bc v) (.cons (i6 e) .nil))))) (bu ⟨k,c,⟨ok,oi,[]⟩,v,e⟩):=by
 rintro w X cs ⟨c1,r1,rfl,h1,c2,r2,rfl,h2,c3,r3,rfl,h3,h4⟩
 exact⟨c1,_,rfl,h1,c2,_,rfl,h2,c3,_,rfl,ic _ _ _ _ _ h3,h4⟩
theorem DM {α:Type} (s:Nat) (enc:α→D) (xs:List α):AVLe (.d (.arx s enc xs)) (.d (.arr s enc xs)):=AVLe.of_enc rfl rfl fun w X cs h=>Enc.arx_arr (fun _ _ h=>h) cs h
abbrev Fk (l:List HEv):D :=.arx 38 bu l
def didL (op:POp) (v:List UInt8):List HEv:=[⟨1,0,op,zBk,0⟩,⟨2,0,zOp,v,0⟩]
def wrO (d:UInt8):POp:=⟨2,0,List.replicate 32 (blkB d)⟩
def rdO:POp:=⟨1,0,[]⟩
def flO:POp:=⟨3,0,[]⟩
def cV:List UInt8:=List.replicate 32 (blkB 1)
theorem fm (d:UInt8):FnIs Try.prog 9 [.int .u8 d.toNat] [] (.d (ce (wrO d))) []:=by
 refine aq aa Try.func9 rfl rfl rfl ?_;refine z8 ?_;refine rQ (yK (gH d)) ?_;refine z4 ?_;refine de (env':=[(3,_),(2,_)]) (h':=[(64,some _)]) 88 _ rfl ⟨⟨_,rfl,Frz.ptr⟩,zE,trivial⟩ ⟨⟨rfl,_,rfl,.refl _⟩,trivial⟩ ?_;refine z2 ?_;refine rQ (jN aa rfl rfl rfl rfl rfl) ?_;refine z5 ?_
 exact⟨trivial,_,rfl,[],lf⟩
theorem l6:FnIs Try.prog 33 [] [] (.d (bc cV)) []:=by
 refine aq aa Try.func33 rfl rfl rfl ?_;refine z7 ?_;refine rQ (yK (gH 1)) ?_;refine z4 ?_
 exact⟨trivial,_,rfl,[],lf⟩
theorem wK (op:POp) (v:List UInt8):FnIs Try.prog 8 [.d (ce op),.d (bc v)] [] (.d (Fk (didL op v))) []:=by
 refine aq aa Try.func8 rfl rfl rfl ?_;refine z12 ?_;refine rQ (ab.val_le (aK aa rfl rfl rfl rfl) (eP 2 0 0 0 0 v) rfl) ?_;refine rQ (ab.frozen (ae (s:=38) aa rfl rfl rfl rfl rfl rfl rfl rfl) (Frz.litsX (enc:=bu) (didL op v) rfl (fun _=>rfl))) ?_;refine z4 ?_
 exact⟨trivial,[],lf⟩
theorem jx (op:POp) (v:List UInt8):FnIs Try.prog 8 [.d (ce op),.d (bc v)] [] (.d (encH (didL op v))) []:=by
 refine aq aa Try.func8 rfl rfl rfl ?_;refine z12 ?_;refine rQ (ab.val_le (aK aa rfl rfl rfl rfl) (eP 2 0 0 0 0 v) rfl) ?_;refine rQ (ab.frozen (ae (s:=38) aa rfl rfl rfl rfl rfl rfl rfl rfl) (Frz.litsX (enc:=bu) (didL op v) rfl (fun _=>rfl))) ?_;refine z4 ?_
 exact⟨trivial,[],lg ⟨⟨_,rfl,DM _ _ _⟩,rfl,trivial⟩ trivial⟩
def eV (v:List UInt8):List HEv:=[⟨1,0,wrO 1,zBk,0⟩,⟨1,1,rdO,zBk,0⟩,⟨2,1,zOp,v,0⟩,⟨2,0,zOp,zBk,0⟩]
theorem wQ (v:List UInt8):FnIs Try.prog 32 [.d (bc v)] [] (.d (encH (eV v))) []:=by
 refine aq aa Try.func32 rfl rfl rfl ?_;refine z8 ?_;refine yA (yK (fm 1)) ?_;refine z2 ?_;refine yA (ab.val_le (aK aa rfl rfl rfl rfl) (eP 1 1 1 0 0 zBk) rfl) ?_;refine dQ [1] [64] iM ?_;refine yA (ab.val_le (aK aa rfl rfl rfl rfl) (eP 2 1 0 0 0 v) rfl) ?_;refine yA (ab.val_le (aK aa rfl rfl rfl rfl) (eP 2 0 0 0 0 zBk) rfl) ?_;refine yA (ab.frozen (ae (s:=38) aa rfl rfl rfl rfl rfl rfl rfl rfl) (Frz.litsN (enc:=bu) (eV v) rfl (fun _ _=>rfl))) ?_;refine z4 ?_
 exact⟨trivial,[],lf⟩
def jy (f:Bool):List HEv:=didL (wrO 1) zBk++(if f then didL flO zBk else[])++didL (wrO 0) zBk++[⟨3,0,zOp,zBk,0⟩]++didL rdO cV
theorem vu:FnIs Try.prog 34 [.bool true] [] (.own 64 0 9 38 none) [(64,.ds 42 38 false bu (jy true))]:=by
 refine aq aa Try.func34 rfl rfl rfl ?_;refine z7 ?_;refine rQ (yK (fm 1)) ?_;refine rQ (bB aa rfl rfl rfl) ?_;refine rQ (yK (wK (wrO 1) zBk)) ?_;refine z12 ?_;refine rQ (ab.val_le (aK aa rfl rfl rfl rfl) (ic 3 0) rfl) ?_;refine rQ (bB aa rfl rfl rfl) ?_;refine rQ (yK (jx flO zBk)) ?_;refine aO (dL (s:=38) (enc:=bu) (xs:=didL (wrO 1) zBk) (ys:=didL flO zBk) aa rfl rfl rfl rfl rfl rfl (by decide) (by decide) rfl) rfl ?_;refine z6 ?_;refine rQ (yK (fm 0)) ?_;refine rQ (bB aa rfl rfl rfl) ?_;refine rQ (yK (jx (wrO 0) zBk)) ?_;refine aC (lI (s:=38) (enc:=bu) (xs:=didL (wrO 1) zBk++didL flO zBk) (ys:=didL (wrO 0) zBk) aa rfl rfl rfl rfl rfl rfl rfl (by decide) (by decide) rfl) rfl ?_;refine z6 ?_;refine rQ (ab.val_le (aK aa rfl rfl rfl rfl) (eP 3 0 0 0 0 zBk) rfl) ?_;refine aO (ae (s:=38) aa rfl rfl rfl rfl rfl rfl rfl rfl) rfl ?_;refine aC (aJ (s:=38) (enc:=bu) (xs:=didL (wrO 1) zBk++didL flO zBk++didL (wrO 0) zBk) aa (⟨3,0,zOp,zBk,0⟩:HEv) rfl rfl rfl rfl rfl rfl rfl rfl rfl (by decide) rfl) rfl ?_;refine rQ (ab.val_le (aK aa rfl rfl rfl rfl) (ic 1 0) rfl) ?_;refine rQ (yK l6) ?_;refine rQ (yK (jx rdO cV)) ?_;refine aC (lI (s:=38) (enc:=bu) (xs:=didL (wrO 1) zBk++didL flO zBk++didL (wrO 0) zBk++[⟨3,0,zOp,zBk,0⟩]) (ys:=didL rdO cV) aa rfl rfl rfl rfl rfl rfl rfl (by decide) (by decide) rfl) rfl ?_;refine z4 ?_
 exact⟨trivial,[(64,some 264)],lg zV ⟨⟨rfl,rfl,_,rfl,aM.of_eq rfl⟩,trivial⟩⟩
theorem m7:FnIs Try.prog 34 [.bool true] [] (.d (encH (jy true))) []:=vu.freeze_out 64 _ rfl (Frz.own rfl) trivial
theorem vv:FnIs Try.prog 34 [.bool false] [] (.own 64 0 7 38 none) [(64,.ds 42 38 false bu (jy false))]:=by
 refine aq aa Try.func34 rfl rfl rfl ?_;refine z7 ?_;refine rQ (yK (fm 1)) ?_;refine rQ (bB aa rfl rfl rfl) ?_;refine rQ (yK (wK (wrO 1) zBk)) ?_;refine z15 ?_;refine rQ (yK (fm 0)) ?_;refine rQ (bB aa rfl rfl rfl) ?_;refine rQ (yK (jx (wrO 0) zBk)) ?_;refine aO (dL (s:=38) (enc:=bu) (xs:=didL (wrO 1) zBk) (ys:=didL (wrO 0) zBk) aa rfl rfl rfl rfl rfl rfl (by decide) (by decide) rfl) rfl ?_;refine z6 ?_;refine rQ (ab.val_le (aK aa rfl rfl rfl rfl) (eP 3 0 0 0 0 zBk) rfl) ?_;refine aO (ae (s:=38) aa rfl rfl rfl rfl rfl rfl rfl rfl) rfl ?_;refine aC (aJ (s:=38) (enc:=bu) (xs:=didL (wrO 1) zBk++didL (wrO 0) zBk) aa (⟨3,0,zOp,zBk,0⟩:HEv) rfl rfl rfl rfl rfl rfl rfl rfl rfl (by decide) rfl) rfl ?_;refine rQ (ab.val_le (aK aa rfl rfl rfl rfl) (ic 1 0) rfl) ?_;refine rQ (yK l6) ?_;refine rQ (yK (jx rdO cV)) ?_;refine aC (lI (s:=38) (enc:=bu) (xs:=didL (wrO 1) zBk++didL (wrO 0) zBk++[⟨3,0,zOp,zBk,0⟩]) (ys:=didL rdO cV) aa rfl rfl rfl rfl rfl rfl rfl (by decide) (by decide) rfl) rfl ?_;refine z4 ?_
 exact⟨trivial,[(64,some 216)],lg zV ⟨⟨rfl,rfl,_,rfl,aM.of_eq rfl⟩,trivial⟩⟩
theorem m8:FnIs Try.prog 34 [.bool false] [] (.d (encH (jy false))) []:=vv.freeze_out 64 _ rfl (Frz.own rfl) trivial
abbrev CO (b:Bool):D :=.sc (.bool b)
abbrev fg (l:List Int):D :=.arr 1 i6 l
abbrev wi (o:HOp):Row :=.box 67 (.d (a9 o))
theorem Cy (o x:HOp):FnIs Try.prog 54 [.d (a9 x),.d (.pt (a9 o))] [] (.bool (befB o x)) []:=by
 refine aq aa Try.func54 rfl rfl rfl ?_;refine z8 ?_;refine rQ (B0 aa rfl rfl) ?_;refine z1 ?_;refine rQ (yK (kO o x)) ?_;refine z4 ?_
 exact⟨trivial,[],lf⟩
theorem Bn (o:HOp) (ah:List HOp) (hL:ah.length≤9223372036854775807):FnIs Try.prog 53 [.own 1 0 ah.length 41 none,.fn (.func 54) .anil (.acons (.ptr 0 []) .anil)] [(0,wi o),(1,dN ah)] (.bool (ah.any (befB o))) [(0,wi o),(1,dN ah)]:=
 FnIs.lend (.freeze (avs':=[.own 1 0 ah.length 41 none,.fn (.func 54) .anil (.acons (.d (.pt (a9 o))) .anil)]) (h0':=[(1,dN ah)]) 0 _ rfl ⟨zE,⟨_,rfl,Frz.fn .nil (.cons Frz.ptr .nil)⟩,trivial⟩ ⟨⟨rfl,_,rfl,.refl _⟩,trivial⟩ rfl
  (.freeze (avs':=[.d (bS ah),.fn (.func 54) .anil (.acons (.d (.pt (a9 o))) .anil)]) (h0':=[]) 1 _ rfl ⟨⟨_,rfl,Frz.own rfl⟩,zE,trivial⟩ trivial rfl (.refl _ _))) (jE.sc _)
  (DF ah 54 (a9 o) (befB o) hL (Cy o))
theorem CV {t:TypeId} {A B:AV}:aM (.box t (.acons A (.acons B (.d .nil)))) (.box t (.acons A (.acons B .anil))):=by
 rintro σ w X r ⟨hf,b,cs,h1,h2,c1,c2,h3,h4,c3,c4,h5,h6,h7⟩
 refine⟨?_,b,cs,h1,h2,c1,c2,h3,h4,c3,c4,h5,h6,h7⟩
 simp only[AV.flat]at hf ⊢
 exact hf
theorem Ao:aM (.mo .anil) (fB []):=aM.mo_mq (l':=[]) (.refl _)
def gh (ah:List HOp) (o:HOp):Bool:=match ah.getLast? with
 | some y=>decide (y.era<o.era)
 | none=>decide (0<o.era)
def hapV (a d:VMap) (o:HOp):Bool×VMap×VMap :=
 if o.op.kind=1 then (!bf o||decide (getV a o.op.index=o.value),a,d)
 else if o.op.kind=2 then (true,putV a o.op.index o.op.data,d)
 else (true,a,a)
def accL (b:Int) (l:List HOp):List Int→List Bool→List HOp→VMap→VMap→Int×List Bool
 | [],tk,_,_,_=>(0,tk)
 | i::os,tk,ah,a,d =>
  if i<0 then (1,tk) else match l[i.toNat]? with
  | none=>(1,tk)
  | some o=>if tk[i.toNat]?=some true then (1,tk) else if mayB o b=false then (1,tk) else if ah.any (befB o)=true then (13,tk)
   else if (hapV (if gh ah o=true then d else a) d o).1=false then (15,tk)
   else accL b l os (tk.set i.toNat true) (ah++[o]) (hapV (if gh ah o=true then d else a) d o).2.1 (hapV (if gh ah o=true then d else a) d o).2.2
def misB:List HOp→List Bool→Bool
 | o::l,t::tk=>(bf o && !t)||misB l tk
 | _,_=>false
theorem s8 (tk:List Bool):misB [] tk=false:=by cases tk <;> rfl
def accS (b:Int) (l:List HOp) (order:List Int):Int :=
 if (accL b l order (List.replicate l.length false) [] [] []).1=0 then (if misB l (accL b l order (List.replicate l.length false) [] [] []).2=true then 15 else 0) else (accL b l order (List.replicate l.length false) [] [] []).1
theorem yi {b:Int} {l:List HOp} {order:List Int} {k:Nat} {i:Int} (h:order[k]?=some i) (tk:List Bool) (ah:List HOp) (a d:VMap):accL b l (order.drop k) tk ah a d=accL b l (i::order.drop (k+1)) tk ah a d:=by
 have hlt:=(List.getElem?_eq_some_iff.1 h).1
 rw[List.drop_eq_getElem_cons hlt,(List.getElem?_eq_some_iff.1 h).2]
theorem Ap {o:HOp} {b:Int} (h:mayB o b=true):o.op.kind=1∨(o.op.kind=2∧o.op.data.length=32)∨o.op.kind=3:=by
 unfold mayB badO at h
 by_cases k1:o.op.kind=1
 ·exact .inl k1
 ·by_cases k2:o.op.kind=2
  ·refine .inr (.inl ⟨k2,?_⟩)
   simp[k2]at h
   exact h.1.2
  ·refine .inr (.inr ?_)
   simp[k1,k2]at h
   exact h.1
structure xa where
 k:Nat
 tk:List Bool
 ah:List HOp
 a:VMap
 d:VMap
structure xa.Ok (b:Int) (l:List HOp) (order:List Int) (q:xa):Prop where
 le:q.k≤order.length
 tkl:q.tk.length=l.length
 ahl:q.ah.length≤q.k
 na:(di q.a).Nodup
 nd:(di q.d).Nodup
 res:accL b l (order.drop q.k) q.tk q.ah q.a q.d=accL b l order (List.replicate l.length false) [] [] []
abbrev yr (tk:List Bool):Row :=.ds 4 1 true CO tk
theorem nh (h:List HEv) (b:Int) (order:List Int) (hh:h.length≤9223372036854775807) (hal0:(rdH h).all.length≤1048576) (ho:order.length≤1000000):FnIs Try.prog 26 [.d (encH h),.int .i64 b,.d (fg order)] [] (.d (i6 (if opE h b=0 then accS b (opsH h) order else opE h b))) []:=by
 have hop:=fL h b hh hal0
 refine aq aa Try.func26 rfl rfl rfl ?_
 by_cases he:opE h b=0
 case neg =>
  have d0:(!decide (opE h b=0))=true:=by rw[dF he]; rfl
  rw[if_neg he]
  refine z33 ?_
  exact⟨trivial,[],lf⟩
 rw[if_pos he]
 rw[show opL h b=opsH h by rw[opL,if_pos he],he]at hop
 have hal:(opsH h).length≤1048576:=by unfold opsH; split <;> first | omega | simp
 generalize opsH h=l at *
 refine z29 ?_;iterate 2 refine aO (iz) rfl ?_
 refine z9 ?_;refine bE rfl (dA (s:=1) (enc:=CO) (N:=l.length) aa false rfl rfl rfl rfl rfl rfl rfl hal rfl) rfl rfl ?_;refine z17 ?_
 refine wc_inv (fun q:xa=>⟨[(34,.int .i64 q.k),(33,.int .i64 order.length),(32,.d (fg order)),(7,.d (fv l)),(1,.int .i64 b),(9,.ptr 64 []),(10,.own 65 0 l.length 1 none),(11,.own 68 0 q.ah.length 41 none)],[(64,some (ib 66 67)),(65,some (yr q.tk)),(66,some (fB q.a)),(67,some (fB q.d)),(68,some (dN q.ah))],72,Try.f26.ntmps,64⟩) (xa.Ok b l order) (fun q=>order.length-q.k) ⟨0,List.replicate l.length false,[],[],[]⟩ [(64,some 176),(65,some 208),(66,some 152),(67,some 160),(68,none)] ⟨Nat.zero_le _,by simp,Nat.zero_le _,by simp,by simp,rfl⟩
  (lg ze ⟨⟨rfl,rfl,_,rfl,CV⟩,zR,⟨rfl,rfl,_,rfl,Ao⟩,⟨rfl,rfl,_,rfl,Ao⟩,⟨rfl,rfl,rfl⟩,trivial⟩) ?_
 rintro⟨k,tk,ah,a,d⟩ ⟨hk,htk,hah,hna,hnd,hres⟩
 simp only at hk htk hah hna hnd hres
 refine bt ?_
 by_cases hlt:k<order.length
 ·have d1:decide ((k:Int)<(order.length:Int))=true:=dT (by omega)
  obtain⟨i,hi⟩:∃i,order[k]?=some i:=⟨_,List.getElem?_eq_getElem hlt⟩
  have hi2:order[((k:Int)).toNat]?=some i:=by rw[Int.toNat_natCast]; exact hi
  rw[yi hi,accL]at hres
  have bad:∀ {e:Int} {x:List Bool},e≠0→(e,x)=accL b l order (List.replicate l.length false) [] [] []→accS b l order=e:=fun he h=>by
   rw[accS,←h,if_neg he]
  by_cases c1:i<0
  ·have e1:decide (i<0)=true:=dT c1
   rw[if_pos c1]at hres
   rw[bad (by decide) hres]
   refine z59 ?_
   exact⟨trivial,[],lf⟩
  have e1:decide (i<0)=false:=dF c1
  rw[if_neg c1]at hres
  cases hl:l[i.toNat]? with
  | none =>
   have hge:=List.getElem?_eq_none_iff.1 hl
   have e2:decide ((l.length:Int)≤i)=true:=dT (by omega)
   rw[hl]at hres
   rw[bad (by decide) hres]
   refine z60 ?_;refine z3 ?_
   exact⟨trivial,[],lf⟩
  | some o =>
   have hil:=(List.getElem?_eq_some_iff.1 hl).1
   have e2:decide ((l.length:Int)≤i)=false:=dF (by omega)
   rw[hl]at hres
   simp only at hres
   obtain⟨t,ht⟩:∃t,tk[i.toNat]?=some t:=⟨_,List.getElem?_eq_getElem (by omega)⟩
   cases t with
   | true =>
    rw[ht,if_pos rfl]at hres
    rw[bad (by decide) hres]
    refine z60 ?_;refine z7 ?_
    exact⟨trivial,[],lf⟩
   | false =>
    rw[ht,if_neg (by decide)]at hres
    have hmy:=uZ o b
    cases hm:mayB o b with
    | false =>
     rw[hm,if_pos rfl]at hres
     rw[hm]at hmy
     rw[bad (by decide) hres]
     refine z60 ?_;refine z14 ?_
     exact⟨trivial,[],lf⟩
    | true =>
     rw[hm,if_neg (by decide)]at hres
     rw[hm]at hmy
     have hab:=Bn o ah (by omega)
     cases hany:ah.any (befB o) with
     | true =>
      rw[hany]at hab
      rw[hany,if_pos rfl]at hres
      rw[bad (by decide) hres]
      refine z60 ?_;refine z19 ?_;refine bE rfl (aS [(0,some 320),(1,some 68)] hab rfl rfl rfl (iV rfl rfl (cU rfl rfl au)) ⟨zH,zH,trivial⟩ rfl rfl (.inl rfl) rfl rfl) rfl rfl ?_;refine z15 ?_
      exact⟨trivial,[],lf⟩
     | false =>
      rw[hany]at hab
      rw[hany,if_neg (by decide)]at hres
      refine z60 ?_;refine z19 ?_;refine bE rfl (aS [(0,some 320),(1,some 68)] hab rfl rfl rfl (iV rfl rfl (cU rfl rfl au)) ⟨zH,zH,trivial⟩ rfl rfl (.inl rfl) rfl rfl) rfl rfl ?_
      refine z5 ?_;refine yo (fun a2:VMap=>⟨[(34,.int .i64 k),(33,.int .i64 order.length),(32,.d (fg order)),(7,.d (fv l)),(1,.int .i64 b),(9,.ptr 64 []),(10,.own 65 0 l.length 1 none),(11,.own 68 0 ah.length 41 none),(13,.int .i64 i),(14,.ptr 69 [])],[(64,some (ib 66 67)),(65,some (yr tk)),(66,some (fB a2)),(67,some (fB d)),(68,some (dN ah)),(69,some (wi o))],72,Try.f26.ntmps,64⟩) (fun a2=>a2=(if gh ah o=true then d else a)) ?_ ?_
      ·by_cases hah0:ah=[]
       ·subst hah0
        have f1:decide ((0:Int)<(([]:List HOp).length:Int))=false:=rfl
        have f2:decide ((([]:List HOp).length:Int)=0)=true:=rfl
        cases hlt2:decide (0<o.era) with
        | false =>
         refine z3 ?_;refine dQ [68] [68] (ee aa rfl rfl) ?_;refine z15 ?_;refine aD [83,84] [68] rfl rfl rfl rfl (ee aa rfl rfl) ?_;refine z3 ?_;refine aD [87,88] [320] rfl rfl rfl rfl (ay aa rfl rfl ⟨_,rfl,rfl⟩ rfl) ?_;refine z7 ?_
         exact l9 a [(64,some _),(65,some 65),(66,some 66),(67,some 67),(68,some 68),(69,some 320)] (by rw[show gh [] o=false from hlt2]; rfl) (lg zc ⟨zR,zR,zR,zR,zR,zR,trivial⟩)
        | true =>
         refine z3 ?_;refine dQ [68] [68] (ee aa rfl rfl) ?_;refine z15 ?_;refine aD [83,84] [68] rfl rfl rfl rfl (ee aa rfl rfl) ?_;refine z3 ?_;refine aD [87,88] [320] rfl rfl rfl rfl (ay aa rfl rfl ⟨_,rfl,rfl⟩ rfl) ?_;refine z10 ?_;refine bE rfl (aS [(0,some 64),(1,some 66),(2,some 67)] (qT a d hnd) rfl rfl rfl (aT rfl rfl (aT rfl rfl (so rfl rfl au))) ⟨zH,zH,zH,trivial⟩ rfl rfl (.inl rfl) rfl rfl) rfl rfl ?_;refine z1 ?_
         exact l9 d [(64,some _),(65,some 65),(66,some _),(67,some 67),(68,some 68),(69,some 320)] (by rw[show gh [] o=true from hlt2]; rfl) (lg zc ⟨zR,zR,zR,zR,zR,zR,trivial⟩)
       ·have hpos:0<ah.length:=List.length_pos_iff.2 hah0
        have f1:decide ((0:Int)<(ah.length:Int))=true:=dT (by omega)
        have f2:decide ((ah.length:Int)=0)=false:=dF (by omega)
        have hw75:IntKind.i64.wrap ((ah.length:Int)-1)=(ah.length:Int)-1:=aH (by omega) (by omega)
        have hx0:(0:Int)≤(ah.length:Int)-1:=by omega
        have hx1:(ah.length:Int)-1<(ah.length:Int):=by omega
        obtain⟨y,hy⟩:∃y,ah[((ah.length:Int)-1).toNat]?=some y:=⟨_,List.getElem?_eq_getElem (by omega)⟩
        have hyl:ah.getLast?=some y:=by rw[List.getLast?_eq_getElem?,←hy]; congr 1; omega
        cases hlt2:decide (y.era<o.era) with
        | false =>
         refine z3 ?_;refine dQ [68] [68] (ee aa rfl rfl) ?_;refine z4 ?_;refine aD [71,73] [68] rfl rfl (by assumption) rfl (ee aa rfl rfl) ?_;refine yO (cm (m:=(ah.length:Int)-1) aa rfl rfl hw75) ?_;refine yO (bg aa rfl rfl rfl rfl rfl hx0 hx1) ?_;refine z1 ?_;refine aD [71,77] [68] rfl rfl (by assumption) rfl (aX aa rfl rfl ⟨rfl,y,hy,_,rfl,rfl⟩ rfl) ?_;refine z1 ?_;refine aD [71,79] [320] rfl rfl (by assumption) rfl (ay aa rfl rfl ⟨_,rfl,rfl⟩ rfl) ?_;refine z4 ?_;refine aD [83,84] [68] rfl rfl (by assumption) rfl (ee aa rfl rfl) ?_;refine z11 ?_
         exact l9 a [(64,some _),(65,some 65),(66,some 66),(67,some 67),(68,some 68),(69,some 320)] (by rw[show gh ah o=false by rw[gh,hyl]; exact hlt2]; rfl) (lg zc ⟨zR,zR,zR,zR,zR,zR,trivial⟩)
        | true =>
         refine z3 ?_;refine dQ [68] [68] (ee aa rfl rfl) ?_;refine z4 ?_;refine aD [71,73] [68] rfl rfl (by assumption) rfl (ee aa rfl rfl) ?_;refine yO (cm (m:=(ah.length:Int)-1) aa rfl rfl hw75) ?_;refine yO (bg aa rfl rfl rfl rfl rfl hx0 hx1) ?_;refine z1 ?_;refine aD [71,77] [68] rfl rfl (by assumption) rfl (aX aa rfl rfl ⟨rfl,y,hy,_,rfl,rfl⟩ rfl) ?_;refine z1 ?_;refine aD [71,79] [320] rfl rfl (by assumption) rfl (ay aa rfl rfl ⟨_,rfl,rfl⟩ rfl) ?_;refine z19 ?_;refine bE rfl (aS [(0,some 64),(1,some 66),(2,some 67)] (qT a d hnd) rfl rfl rfl (aT rfl rfl (aT rfl rfl (so rfl rfl au))) ⟨zH,zH,zH,trivial⟩ rfl rfl (.inl rfl) rfl rfl) rfl rfl ?_;refine z1 ?_
         exact l9 d [(64,some _),(65,some 65),(66,some _),(67,some 67),(68,some 68),(69,some 320)] (by rw[show gh ah o=true by rw[gh,hyl]; exact hlt2]; rfl) (lg zc ⟨zR,zR,zR,zR,zR,zR,trivial⟩)
      ·rintro a2 ha2
       rw[←ha2]at hres
       have hna2:(di a2).Nodup:=by rw[ha2]; split <;> assumption
       have hahl:ah.length+1≤1048576:=by omega
       have hset:(tk.set i.toNat true).length=l.length:=by rw[List.length_set]; exact htk
       refine bt ?_
       rcases Ap hm with hkd | ⟨hkd,hdt⟩ | hkd
       ·have hhp:=AE a2 d o hkd hna2
        obtain⟨v,hv⟩:∃v,(!bf o||decide (getV a2 o.op.index=o.value))=v:=⟨_,rfl⟩
        rw[hv]at hhp
        rw[show hapV a2 d o=(v,a2,d) by rw[hapV,if_pos hkd,hv]]at hres
        cases v with
        | false =>
         rw[if_pos rfl]at hres
         rw[bad (by decide) hres]
         refine z4 ?_;refine bE rfl (aS [(0,some 64),(1,some 66),(2,some 67)] hhp rfl rfl rfl (aT rfl rfl (aE au)) ⟨zH,zH,zH,trivial⟩ rfl rfl (.inl rfl) rfl rfl) rfl rfl ?_;refine z16 ?_
         exact⟨trivial,[],lf⟩
        | true =>
         rw[if_neg (by simp)]at hres
         refine z4 ?_;refine bE rfl (aS [(0,some 64),(1,some 66),(2,some 67)] hhp rfl rfl rfl (aT rfl rfl (aE au)) ⟨zH,zH,zH,trivial⟩ rfl rfl (.inl rfl) rfl rfl) rfl rfl ?_;refine z11 ?_;refine bH (aG aa rfl rfl rfl ⟨rfl,false,true,ht,⟨rfl,rfl,rfl⟩,rfl⟩ rfl) ?_;refine z5 ?_;refine aO (ae (s:=41) aa rfl rfl rfl rfl rfl rfl rfl rfl) rfl ?_;refine aC (aJ (xs:=ah) (s:=41) (enc:=a9) aa o rfl rfl rfl rfl rfl rfl rfl rfl rfl hahl rfl) rfl ?_;refine z8 ?_
         exact an ⟨k+1,tk.set i.toNat true,ah++[o],a2,d⟩ [(64,some 64),(65,some 65),(66,some 66),(67,some 67),(68,some _)] ⟨hlt,hset,by simp only[List.length_append,List.length_cons,List.length_nil]; omega,hna2,hnd,hres⟩ (by simp only; omega) (lg ⟨zE,rfl,zE,rfl,zE,rfl,zE,rfl,zE,rfl,zE,rfl,zE,rfl,⟨_,rfl,AVLe.of_eq (by simp only[List.length_append]; rfl)⟩,rfl,trivial⟩ ⟨zR,zR,zR,zR,zR,trivial⟩)
       ·have hhp:=xS a2 d o hkd hdt hna2
        rw[show hapV a2 d o=(true,putV a2 o.op.index o.op.data,d) by rw[hapV,if_neg (by omega),if_pos hkd],if_neg (by simp)]at hres
        refine z4 ?_;refine bE rfl (aS [(0,some 64),(1,some 66),(2,some 67)] hhp rfl rfl rfl (aT rfl rfl (aE au)) ⟨zH,zH,zH,trivial⟩ rfl rfl (.inl rfl) rfl rfl) rfl rfl ?_;refine z11 ?_;refine bH (aG aa rfl rfl rfl ⟨rfl,false,true,ht,⟨rfl,rfl,rfl⟩,rfl⟩ rfl) ?_;refine z5 ?_;refine aO (ae (s:=41) aa rfl rfl rfl rfl rfl rfl rfl rfl) rfl ?_;refine aC (aJ (xs:=ah) (s:=41) (enc:=a9) aa o rfl rfl rfl rfl rfl rfl rfl rfl rfl hahl rfl) rfl ?_;refine z8 ?_
        exact an ⟨k+1,tk.set i.toNat true,ah++[o],putV a2 o.op.index o.op.data,d⟩ [(64,some 64),(65,some 65),(66,some 66),(67,some 67),(68,some _)] ⟨hlt,hset,by simp only[List.length_append,List.length_cons,List.length_nil]; omega,xL _ _ _ hna2,hnd,hres⟩ (by simp only; omega) (lg ⟨zE,rfl,zE,rfl,zE,rfl,zE,rfl,zE,rfl,zE,rfl,zE,rfl,⟨_,rfl,AVLe.of_eq (by simp only[List.length_append]; rfl)⟩,rfl,trivial⟩ ⟨zR,zR,zR,zR,zR,trivial⟩)
       ·have hhp:=xT a2 d o hkd hna2
        rw[show hapV a2 d o=(true,a2,a2) by rw[hapV,if_neg (by omega),if_neg (by omega)],if_neg (by simp)]at hres
        refine z4 ?_;refine bE rfl (aS [(0,some 64),(1,some 66),(2,some 67)] hhp rfl rfl rfl (aT rfl rfl (aE au)) ⟨zH,zH,zH,trivial⟩ rfl rfl (.inl rfl) rfl rfl) rfl rfl ?_;refine z11 ?_;refine bH (aG aa rfl rfl rfl ⟨rfl,false,true,ht,⟨rfl,rfl,rfl⟩,rfl⟩ rfl) ?_;refine z5 ?_;refine aO (ae (s:=41) aa rfl rfl rfl rfl rfl rfl rfl rfl) rfl ?_;refine aC (aJ (xs:=ah) (s:=41) (enc:=a9) aa o rfl rfl rfl rfl rfl rfl rfl rfl rfl hahl rfl) rfl ?_;refine z8 ?_
        exact an ⟨k+1,tk.set i.toNat true,ah++[o],a2,a2⟩ [(64,some 64),(65,some 65),(66,some 66),(67,some _),(68,some _)] ⟨hlt,hset,by simp only[List.length_append,List.length_cons,List.length_nil]; omega,hna2,hna2,hres⟩ (by simp only; omega) (lg ⟨zE,rfl,zE,rfl,zE,rfl,zE,rfl,zE,rfl,zE,rfl,zE,rfl,⟨_,rfl,AVLe.of_eq (by simp only[List.length_append]; rfl)⟩,rfl,trivial⟩ ⟨zR,zR,zR,zR,zR,trivial⟩)
 ·have d1:decide ((k:Int)<(order.length:Int))=false:=dF (by omega)
  rw[show order.drop k=[] from List.drop_eq_nil_of_le (by omega),accL]at hres
  have hS:accS b l order=if misB l tk=true then 15 else 0:=by rw[accS,←hres,if_pos rfl]
  rw[hS]
  refine z21 ?_
  refine wc_inv (fun i:Nat=>⟨[(110,.int .i64 i),(109,.int .i64 l.length),(108,.d (fv l)),(10,.own 65 0 l.length 1 none)],[(65,some (yr tk))],72,Try.f26.ntmps,64⟩) (fun i=>i≤l.length∧misB (l.drop i) (tk.drop i)=misB l tk) (fun i=>l.length-i) 0 [(65,some 65)] ⟨Nat.zero_le _,rfl⟩
   (lg zi ⟨zR,trivial⟩) ?_
  rintro i ⟨hi,hmis⟩
  refine bt ?_
  by_cases hil:i<l.length
  ·have d2:decide ((i:Int)<(l.length:Int))=true:=dT (by omega)
   obtain⟨o,hl⟩:∃o,l[((i:Int)).toNat]?=some o:=⟨_,List.getElem?_eq_getElem (by rw[Int.toNat_natCast]; exact hil)⟩
   obtain⟨t,ht⟩:∃t,tk[((i:Int)).toNat]?=some t:=⟨_,List.getElem?_eq_getElem (by rw[Int.toNat_natCast]; omega)⟩
   have hstep:misB (l.drop i) (tk.drop i)=((bf o && !t)||misB (l.drop (i+1)) (tk.drop (i+1))):=by
    rw[Int.toNat_natCast]at hl ht
    rw[List.drop_eq_getElem_cons hil,List.drop_eq_getElem_cons (show i<tk.length by omega),(List.getElem?_eq_some_iff.1 hl).2,(List.getElem?_eq_some_iff.1 ht).2,misB]
   rw[hstep]at hmis
   have hmu:=gR o
   cases hmo:bf o with
   | false =>
    rw[hmo]at hmu hmis
    simp only[Bool.false_and,Bool.false_or]at hmis
    refine z42 ?_
    exact an (i+1) [(65,some 65)] ⟨hil,hmis⟩ (by omega) (lg zi ⟨zR,trivial⟩)
   | true =>
    rw[hmo]at hmu hmis
    cases t with
    | true =>
     simp only[Bool.not_true,Bool.and_false,Bool.false_or]at hmis
     refine z47 ?_
     exact an (i+1) [(65,some 65)] ⟨hil,hmis⟩ (by omega) (lg zi ⟨zR,trivial⟩)
    | false =>
     simp only[Bool.not_false,Bool.and_true,Bool.true_or]at hmis
     rw[←hmis,if_pos rfl]
     refine z51 ?_
     exact⟨trivial,[],lf⟩
  ·have d2:decide ((i:Int)<(l.length:Int))=false:=dF (by omega)
   rw[show l.drop i=[] from List.drop_eq_nil_of_le (by omega),s8]at hmis
   rw[←hmis,if_neg (by decide)]
   refine z18 ?_
   exact⟨trivial,[],lf⟩
end Go.Proofs.Ytmdgmolbamlicaa
namespace Go.Proofs.Ytmdgmolbamlicaa
open Go.Eng Go.Plain
set_option maxHeartbeats 32000000
set_option maxRecDepth 20000
def tc:List HEv:=[⟨1,0,wrO 1,zBk,0⟩,⟨3,0,zOp,zBk,0⟩]
def wr:List HEv:=[⟨1,0,wrO 1,zBk,0⟩,⟨1,1,flO,zBk,0⟩,⟨3,0,zOp,zBk,0⟩]
def tV:List HEv:=[⟨1,0,rdO,zBk,0⟩,⟨2,0,zOp,zBk,9⟩]
def badL:List HEv:=tV++didL (wrO 1) zBk
theorem ex1:bO (eV cV) 1 9=(([0,1],true),0):=by decide+kernel
theorem ex2:bO (eV zBk) 1 9=(([1,0],true),0):=by decide+kernel
theorem ex3:cv (eV cV) 1 3=(3,0):=by decide+kernel
theorem ex4:cv (eV cV) 1 2=(0,4):=by decide+kernel
theorem ex5:cv (eV zBk) 1 4=(4,0):=by decide+kernel
theorem ex6:bO (jy true) 1 99=(([0,1,2,3],true),0):=by decide+kernel
theorem ex7:(bO (jy false) 1 99).1.2=false∧(bO (jy false) 1 99).2=0:=by decide+kernel
theorem ex8:(bO (tc++didL rdO cV) 1 99).1.2=false∧(bO (tc++didL rdO cV) 1 99).2=0:=by decide+kernel
theorem ex9:bO (wr++didL rdO cV) 1 99=(([0,1,2],true),0):=by decide+kernel
theorem ex10:(if (chkH badL).2=0 then stV (opsH badL) else false)=false∧(chkH badL).2=0:=by decide+kernel
theorem ex11:(bO badL 1 9).1.2=true∧(bO badL 1 9).2=0:=by decide+kernel
theorem acA (o:List Int) (e:Int) (h:_root_.Go.Proofs.Ytmdgmolbamlicaa.accS 1 (opsH (eV cV)) o=e):(if opE (eV cV) 1=0 then _root_.Go.Proofs.Ytmdgmolbamlicaa.accS 1 (opsH (eV cV)) o else opE (eV cV) 1)=e:=by
 rw[if_pos (by decide+kernel),h]
theorem ex12:_root_.Go.Proofs.Ytmdgmolbamlicaa.accS 1 (opsH (eV cV)) [1,0]=15∧_root_.Go.Proofs.Ytmdgmolbamlicaa.accS 1 (opsH (eV cV)) [0]=15∧_root_.Go.Proofs.Ytmdgmolbamlicaa.accS 1 (opsH (eV cV)) [0,0]=1∧_root_.Go.Proofs.Ytmdgmolbamlicaa.accS 1 (opsH (eV cV)) [0,1]=0:=by decide+kernel
end Go.Proofs.Ytmdgmolbamlicaa
namespace Go.Proofs.Ytmdgmolbamlicaa
open Go.Eng Go.Plain
set_option maxHeartbeats 32000000
set_option maxRecDepth 20000
attribute [local irreducible] WC RegS RegD SeqQ BlkQ ScoQ RegK CutK Sat SatN FnIs LoopQ ab OpIs
def eqN (a b:List Int):Int:=if a=b then 1 else 0
def eqG:List Int→List Int→Int
 | [],[]=>1
 | x::a,y::b=>if x=y then eqG a b else 0
 | _,_=>0
theorem vo:∀(a b:List Int),eqG a b=eqN a b
 | [],[]=>rfl
 | x::a,y::b=>by
  have ih:=vo a b
  unfold eqN at ih ⊢
  unfold eqG
  by_cases h:x=y
  ·subst h; simp[ih]
  ·simp[h]
 | [],_::_=>by simp[eqG,eqN]
 | _::_,[]=>by simp[eqG,eqN]
theorem AU (a b:List Int) (ha:a.length≤1048576):FnIs Try.prog 7 [.d (lb a),.d (encL b)] [] (.d (i6 (eqN a b))) []:=by
 refine aq aa Try.func7 rfl rfl rfl ?_
 by_cases hl:a.length=b.length
 ·have d1:decide ((a.length:Int)=(b.length:Int))=true:=dT (by omega)
  have d1n:(!decide ((a.length:Int)=(b.length:Int)))=false:=by rw[d1]; rfl
  have d2n:(!decide ((a.length:Int)=(a.length:Int)))=false:=by rw[dT rfl]; rfl
  refine z17 ?_;refine rQ (Cp aa rfl rfl) ?_;refine z19 ?_
  refine wc_inv (fun i:Nat=>⟨[(5,.int .i64 i),(0,.d (lb a)),(1,.d (encL b))],[],72,Try.f7.ntmps,64⟩) (fun i=>i≤a.length∧eqG (a.drop i) (b.drop i)=eqG a b) (fun i=>a.length-i) 0 [] ⟨Nat.zero_le _,rfl⟩
   (lg zj trivial) ?_
  rintro i ⟨hi,hinv⟩
  refine bt ?_
  by_cases hlt:i<a.length
  ·have d3:decide ((i:Int)<(a.length:Int))=true:=dT (by omega)
   obtain⟨x,hx⟩:∃x,a[i]?=some x:=⟨_,List.getElem?_eq_getElem hlt⟩
   obtain⟨y,hy⟩:∃y,b[i]?=some y:=⟨_,List.getElem?_eq_getElem (by omega)⟩
   have hx2:a[((i:Int)).toNat]?=some x:=by rw[Int.toNat_natCast]; exact hx
   have hy2:b[((i:Int)).toNat]?=some y:=by rw[Int.toNat_natCast]; exact hy
   have hs:eqG (a.drop i) (b.drop i)=if x=y then eqG (a.drop (i+1)) (b.drop (i+1)) else 0:=by
    rw[List.drop_eq_getElem_cons (List.getElem?_eq_some_iff.1 hx).1,(List.getElem?_eq_some_iff.1 hx).2,List.drop_eq_getElem_cons (List.getElem?_eq_some_iff.1 hy).1,(List.getElem?_eq_some_iff.1 hy).2]
    rfl
   rw[hs]at hinv
   by_cases he:x=y
   ·have d4:(!decide (x=y))=false:=by rw[dT he]; rfl
    rw[if_pos he]at hinv
    refine z36 ?_
    exact an (i+1) [] ⟨hlt,hinv⟩ (by omega) (lg zj trivial)
   ·have d4:(!decide (x=y))=true:=by rw[dF he]; rfl
    rw[if_neg he]at hinv
    rw[←vo,←hinv]
    refine z39 ?_
    exact⟨trivial,[],lf⟩
  ·have d3:decide ((i:Int)<(a.length:Int))=false:=dF (by omega)
   rw[List.drop_eq_nil_of_le (by omega),List.drop_eq_nil_of_le (by omega)]at hinv
   rw[←vo,←hinv]
   refine z21 ?_
   exact⟨trivial,[],lf⟩
 ·have d1:decide ((a.length:Int)=(b.length:Int))=false:=dF (by omega)
  have d1n:(!decide ((a.length:Int)=(b.length:Int)))=true:=by rw[d1]; rfl
  have he:eqN a b=0:=by rw[eqN,if_neg fun e=>hl (by rw[e])]
  rw[he]
  refine z30 ?_
  exact⟨trivial,[],lf⟩
theorem kL (a:List Int) (ha:a.length≤1048576):FnIs Try.prog 7 [.d (lb a),.d (encL a)] [] (.d (i6 1)) []:=by
 have:=AU a a ha
 rwa [eqN,if_pos rfl]at this
abbrev fndE (o:List Int) (f:Bool) (e:Int):AV :=.tup (.acons (.d (lb o)) (.acons (.bool f) (.acons (.int .i64 e) .anil)))
abbrev legE (f:Bool) (e:Int):AV :=.tup (.acons (.bool f) (.acons (.int .i64 e) .anil))
abbrev stsE (m e:Int):AV :=.tup (.acons (.int .i64 m) (.acons (.int .i64 e) .anil))
theorem As (H G C1 C2:List HEv) (hb1:FnIs Try.prog 32 [.d (bc cV)] [] (.d (encH H)) []) (hb2:FnIs Try.prog 32 [.d (bc zBk)] [] (.d (encH G)) [])
  (m7:FnIs Try.prog 34 [.bool true] [] (.d (encH C1)) []) (m8:FnIs Try.prog 34 [.bool false] [] (.d (encH C2)) [])
  (hf1:FnIs Try.prog 5 [.d (encH H),.int .i64 1,.int .i64 9] [] (fndE [0,1] true 0) []) (hf2:FnIs Try.prog 5 [.d (encH G),.int .i64 1,.int .i64 9] [] (fndE [1,0] true 0) [])
  (hs1:FnIs Try.prog 6 [.d (encH H),.int .i64 1,.int .i64 3] [] (stsE 3 0) []) (hs2:FnIs Try.prog 6 [.d (encH H),.int .i64 1,.int .i64 2] [] (stsE 0 4) []) (hs3:FnIs Try.prog 6 [.d (encH G),.int .i64 1,.int .i64 4] [] (stsE 4 0) [])
  (hacs:∀(k:Nat) o e,[[1,0],[0],[0,0],[0,1]][k]?=some o→([15,15,1,0]:List Int)[k]?=some e→FnIs Try.prog 26 [.d (encH H),.int .i64 1,.d (encL o)] [] (.d (i6 e)) [])
  (hf3:FnIs Try.prog 5 [.d (encH C1),.int .i64 1,.int .i64 99] [] (fndE [0,1,2,3] true 0) []) (hl1:FnIs Try.prog 10 [.d (encH C2),.int .i64 1,.int .i64 99] [] (legE false 0) [])
  (hl2:FnIs Try.prog 10 [.d (encH (tc++didL rdO cV)),.int .i64 1,.int .i64 99] [] (legE false 0) []) (hf4:FnIs Try.prog 5 [.d (encH (wr++didL rdO cV)),.int .i64 1,.int .i64 99] [] (fndE [0,1,2] true 0) [])
  (hsk:FnIs Try.prog 29 [.d (encH (tV++didL (wrO 1) zBk))] [] (legE false 0) []) (hl3:FnIs Try.prog 10 [.d (encH (tV++didL (wrO 1) zBk)),.int .i64 1,.int .i64 9] [] (legE true 0) []) :
  FnIs Try.prog 17 [] [] (.bool true) []:=by
 refine aq aa Try.func17 rfl rfl rfl ?_;refine z7 ?_;refine rQ (yK l6) ?_;refine z1 ?_;refine rQ (bB aa rfl rfl rfl) ?_;iterate 2 refine z60 ?_
 refine z1 ?_;refine rQ (ab.frozen (ae (s:=1) aa rfl rfl rfl rfl rfl rfl rfl rfl) (Frz.litsN (enc:=i6) [0,1] rfl (fun _ _=>rfl))) ?_;refine z1 ?_;refine rQ (yK (kL [0,1] (by decide))) ?_;refine z3 ?_;refine rQ (ab.frozen (ae (s:=1) aa rfl rfl rfl rfl rfl rfl rfl rfl) (Frz.litsN (enc:=i6) [1,0] rfl (fun _ _=>rfl))) ?_;refine z1 ?_;refine rQ (yK (kL [1,0] (by decide))) ?_;refine z1 ?_;refine rQ (ed (m:=1) aa rfl rfl rfl) ?_;refine z11 ?_;refine rQ (ab.frozen (ae (s:=1) aa rfl rfl rfl rfl rfl rfl rfl rfl) (Frz.litsN (enc:=i6) [1,0] rfl (fun _ _=>rfl))) ?_;refine rQ (ab.frozen (ae (s:=1) aa rfl rfl rfl rfl rfl rfl rfl rfl) (Frz.litsN (enc:=i6) [0] rfl (fun _ _=>rfl))) ?_;refine rQ (ab.frozen (ae (s:=1) aa rfl rfl rfl rfl rfl rfl rfl rfl) (Frz.litsN (enc:=i6) [0,0] rfl (fun _ _=>rfl))) ?_;refine rQ (ab.frozen (ae (s:=1) aa rfl rfl rfl rfl rfl rfl rfl rfl) (Frz.litsN (enc:=i6) [0,1] rfl (fun _ _=>rfl))) ?_;refine rQ (ab.frozen (ae (s:=1) aa rfl rfl rfl rfl rfl rfl rfl rfl) (Frz.litsN (enc:=encL) [[1,0],[0],[0,0],[0,1]] rfl (fun _ _=>rfl))) ?_;refine z5 ?_
 refine wc_inv (fun k:Nat=>⟨[(107,.int .i64 k),(106,.int .i64 4),(105,.d (.arr 1 encL [[1,0],[0],[0,0],[0,1]])),(1,.d (encH H))],[],72,Try.f17.ntmps,64⟩) (fun k=>k≤4) (fun k=>4-k) 0 [] (Nat.zero_le _)
  (lg zi trivial) ?_
 intro k hk
 refine bt ?_
 by_cases h4:k=4
 ·subst h4
  refine z14 ?_;refine rQ (yK m7) ?_;refine z12 ?_;refine rQ (yK m8) ?_;refine z10 ?_;refine rQ (yK (fm 1)) ?_;refine z1 ?_;refine rQ (ab.val_le (aK aa rfl rfl rfl rfl) (eP 3 0 0 0 0 zBk) rfl) ?_;refine rQ (ab.frozen (ae (s:=38) aa rfl rfl rfl rfl rfl rfl rfl rfl) (Frz.litsX (enc:=bu) tc rfl (fun _=>rfl))) ?_;refine z5 ?_;refine rQ (yK (fm 1)) ?_;refine z2 ?_;refine rQ (ab.val_le (aK aa rfl rfl rfl rfl) (eP 1 1 3 0 0 zBk) rfl) ?_;refine rQ (ab.val_le (aK aa rfl rfl rfl rfl) (eP 3 0 0 0 0 zBk) rfl) ?_;refine rQ (ab.frozen (ae (s:=38) aa rfl rfl rfl rfl rfl rfl rfl rfl) (Frz.litsX (enc:=bu) wr rfl (fun _=>rfl))) ?_;refine z6 ?_;refine rQ (ab.val_le (aK aa rfl rfl rfl rfl) (ic 1 0) rfl) ?_;refine rQ (yK l6) ?_;refine rQ (yK (jx rdO cV)) ?_;refine rQ (ab.frozen (dL (s:=38) (enc:=bu) (xs:=tc) (ys:=didL rdO cV) aa rfl rfl rfl rfl rfl rfl (by decide) (by decide) rfl) (Frz.own (by decide))) ?_;refine z11 ?_;refine rQ (ab.val_le (aK aa rfl rfl rfl rfl) (ic 1 0) rfl) ?_;refine rQ (yK l6) ?_;refine rQ (yK (jx rdO cV)) ?_;refine rQ (ab.frozen (dL (s:=38) (enc:=bu) (xs:=wr) (ys:=didL rdO cV) aa rfl rfl rfl rfl rfl rfl (by decide) (by decide) rfl) (Frz.own (by decide))) ?_;refine z57 ?_;refine rQ (ab.frozen (ae (s:=1) aa rfl rfl rfl rfl rfl rfl rfl rfl) (Frz.litsN (enc:=i6) [0,1,2,3] rfl (fun _ _=>rfl))) ?_;refine z1 ?_;refine rQ (yK (kL [0,1,2,3] (by decide))) ?_;refine z3 ?_;refine rQ (ab.frozen (ae (s:=1) aa rfl rfl rfl rfl rfl rfl rfl rfl) (Frz.litsN (enc:=i6) [0,1,2] rfl (fun _ _=>rfl))) ?_;refine z1 ?_;refine rQ (yK (kL [0,1,2] (by decide))) ?_;refine z1 ?_;refine rQ (ed (m:=1) aa rfl rfl rfl) ?_;refine z11 ?_;refine rQ (ab.val_le (aK aa rfl rfl rfl rfl) (eP 1 0 1 0 0 zBk) rfl) ?_;refine rQ (ab.val_le (aK aa rfl rfl rfl rfl) (eP 2 0 0 0 9 zBk) rfl) ?_;refine rQ (ab.frozen (ae (s:=38) aa rfl rfl rfl rfl rfl rfl rfl rfl) (Frz.litsX (enc:=bu) tV rfl (fun _=>rfl))) ?_;refine rQ (yK (fm 1)) ?_;refine rQ (bB aa rfl rfl rfl) ?_;refine rQ (yK (jx (wrO 1) zBk)) ?_;refine rQ (ab.frozen (dL (s:=38) (enc:=bu) (xs:=tV) (ys:=didL (wrO 1) zBk) aa rfl rfl rfl rfl rfl rfl (by decide) (by decide) rfl) (Frz.own (by decide))) ?_;refine z49 ?_
  exact⟨trivial,[],lf⟩
 by_cases h0:k=0
 ·subst h0
  have hac:=hacs 0 [1,0] 15 rfl rfl
  have hod:([[1,0],[0],[0,0],[0,1]]:List (List Int))[(((0:Nat):Int)).toNat]?=some [1,0]:=rfl
  refine z25 ?_;refine yA (kN aa rfl rfl rfl rfl rfl) ?_;refine z1 ?_;refine yA (bD aa (fun K hk=>⟨by decide,by decide,_,rfl,hk⟩)) ?_;refine z11 ?_
  exact an 1 [] (by decide) (by decide) (lg zi trivial)
 by_cases h1:k=1
 ·subst h1
  have hac:=hacs 1 [0] 15 rfl rfl
  have hod:([[1,0],[0],[0,0],[0,1]]:List (List Int))[(((1:Nat):Int)).toNat]?=some [0]:=rfl
  refine z25 ?_;refine yA (kN aa rfl rfl rfl rfl rfl) ?_;refine z1 ?_;refine yA (bD aa (fun K hk=>⟨by decide,by decide,_,rfl,hk⟩)) ?_;refine z11 ?_
  exact an 2 [] (by decide) (by decide) (lg zi trivial)
 by_cases h2:k=2
 ·subst h2
  have hac:=hacs 2 [0,0] 1 rfl rfl
  have hod:([[1,0],[0],[0,0],[0,1]]:List (List Int))[(((2:Nat):Int)).toNat]?=some [0,0]:=rfl
  refine z25 ?_;refine yA (kN aa rfl rfl rfl rfl rfl) ?_;refine z1 ?_;refine yA (bD aa (fun K hk=>⟨by decide,by decide,_,rfl,hk⟩)) ?_;refine z11 ?_
  exact an 3 [] (by decide) (by decide) (lg zi trivial)
 ·obtain rfl:k=3:=by omega
  have hac:=hacs 3 [0,1] 0 rfl rfl
  have hod:([[1,0],[0],[0,0],[0,1]]:List (List Int))[(((3:Nat):Int)).toNat]?=some [0,1]:=rfl
  refine z25 ?_;refine yA (kN aa rfl rfl rfl rfl rfl) ?_;refine z1 ?_;refine yA (bD aa (fun K hk=>⟨by decide,by decide,_,rfl,hk⟩)) ?_;refine z11 ?_
  exact an 4 [] (by decide) (by decide) (lg zi trivial)
theorem cZ:FnIs Try.prog 17 [] [] (.bool true) []:=by
 have fnd:∀(h:List HEv) (fuel:Int) r,bO h 1 fuel=r→h.length≤100→fuel≤100→FnIs Try.prog 5 [.d (encH h),.int .i64 1,.int .i64 fuel] [] (fndE r.1.1 r.1.2 r.2) []:=fun h fuel r hr hh hf=>by
  have:=jp (fE h 1 fuel (by omega) (.inl (by omega)) (fun _=>by have:=Nat.mul_le_mul (show fuel.toNat≤100 by omega) (show h.length+1≤101 by omega); omega))
  rwa [hr]at this
 have sts:∀(h:List HEv) (fuel:Int) r,cv h 1 fuel=r→h.length≤100→fuel≤100→FnIs Try.prog 6 [.d (encH h),.int .i64 1,.int .i64 fuel] [] (stsE r.1 r.2) []:=fun h fuel r hr hh hf=>by
  have:=gm (fE h 1 fuel (by omega) (.inl (by omega)) (fun _=>by have:=Nat.mul_le_mul (show fuel.toNat≤100 by omega) (show h.length+1≤101 by omega); omega))
  rwa [hr]at this
 have leg:∀(h:List HEv) (fuel:Int) (f:Bool) (e:Int),(bO h 1 fuel).1.2=f∧(bO h 1 fuel).2=e→h.length≤100→fuel≤100→FnIs Try.prog 10 [.d (encH h),.int .i64 1,.int .i64 fuel] [] (legE f e) []:=fun h fuel f e hr hh hf=>by
  have:=iC (fE h 1 fuel (by omega) (.inl (by omega)) (fun _=>by have:=Nat.mul_le_mul (show fuel.toNat≤100 by omega) (show h.length+1≤101 by omega); omega))
  rwa [hr.1,hr.2]at this
 refine As (eV cV) (eV zBk) (jy true) (jy false) (wQ _) (wQ _) m7 m8 (fnd _ 9 _ ex1 (by decide) (by decide)) (fnd _ 9 _ ex2 (by decide) (by decide)) (sts _ 3 _ ex3 (by decide) (by decide)) (sts _ 2 _ ex4 (by decide) (by decide)) (sts _ 4 _ ex5 (by decide) (by decide)) (fun k o e ho he=>?_) (fnd _ 99 _ ex6 (by decide) (by decide)) (leg _ 99 _ _ ex7 (by decide) (by decide)) (leg _ 99 _ _ ex8 (by decide) (by decide)) (fnd _ 99 _ ex9 (by decide) (by decide)) ?_ (leg _ 9 _ _ ex11 (by decide) (by decide))
 ·have hal:(rdH (eV cV)).all.length≤1048576:=Nat.le_trans (dM _) (by decide)
  have key:∀(o:List Int) (e:Int),_root_.Go.Proofs.Ytmdgmolbamlicaa.accS 1 (opsH (eV cV)) o=e→o.length≤100→FnIs Try.prog 26 [.d (encH (eV cV)),.int .i64 1,.d (encL o)] [] (.d (i6 e)) []:=fun o e h1 h2=>by
   have:=nh (eV cV) 1 o (by decide) hal (by omega)
   rwa [acA o e h1]at this
  match k,ho,he with
  | 0,ho,he=>cases ho; cases he; exact key _ _ ex12.1 (by decide)
  | 1,ho,he=>cases ho; cases he; exact key _ _ ex12.2.1 (by decide)
  | 2,ho,he=>cases ho; cases he; exact key _ _ ex12.2.2.1 (by decide)
  | 3,ho,he=>cases ho; cases he; exact key _ _ ex12.2.2.2 (by decide)
  | k+4,ho,he=>simp at ho
 ·have hal:(rdH badL).all.length≤1048576:=Nat.le_trans (dM _) (by decide)
  have:=p8 badL (by decide) hal
  rw[ex10.1,ex10.2]at this
  exact this
abbrev r01d (b:Bool):AV :=.d (i6 (if b then 1 else 0))
theorem vU (o:HOp) (b:Int):FnIs Try.prog 64 [.d (a9 o),.int .i64 b] [] (r01d (mayB o b)) []:=by
 have hb:=nZ o.op b
 refine aq aa Try.func64 rfl rfl rfl ?_
 unfold mayB
 cases hbd:badO o.op b with
 | true =>
  rw[hbd]at hb
  refine z24 ?_
  exact⟨trivial,[],lf⟩
 | false =>
  rw[hbd]at hb
  cases h1:decide (o.returned<0) with
  | true =>
   refine z45 ?_
   exact⟨trivial,[],lf⟩
  | false =>
   cases h2:decide (o.err=0) with
   | true =>
    refine z48 ?_
    exact⟨trivial,[],lf⟩
   | false =>
    cases h3:decide (o.err=9) with
    | true =>
     refine z51 ?_
     exact⟨trivial,[],lf⟩
    | false =>
     refine z52 ?_
     exact⟨trivial,[],lf⟩
theorem lS (o:HOp):FnIs Try.prog 36 [.d (a9 o)] [] (r01d (bf o)) []:=by
 refine aq aa Try.func36 rfl rfl rfl ?_
 unfold bf
 cases h1:decide (0≤o.returned) with
 | true =>
  cases h2:decide (o.err=0) with
  | true =>
   refine z30 ?_
   exact⟨trivial,[],lf⟩
  | false =>
   refine z31 ?_
   exact⟨trivial,[],lf⟩
 | false =>
  refine z28 ?_
  exact⟨trivial,[],lf⟩
def stB (o p:HOp):Bool:=decide (o.err=9)&&(decide (o.era=p.era)&&(decide (o.returned<p.invoked)&&(decide (0≤p.returned)&&(decide (p.err=0)||decide (p.err=8)))))
def rstV (l:List HOp):Bool := !l.any fun o=>l.any (stB o)
theorem tB {κ ν:Type} [DecidableEq κ] (k e:κ) (v:ν):∀m:List (κ×ν),getA (putA m k v) e=if e=k then some v else getA m e
 | []=>rfl
 | (k',v')::m=>by
  by_cases h:k=k'
  ·subst h
   simp only[putA,if_true,getA]
   split <;> rfl
  ·simp only[putA,if_neg h,getA,tB k e v m]
   by_cases h2:e=k'
   ·subst h2
    rw[if_pos rfl,if_neg (fun x=>h x.symm),if_pos rfl]
   ·rw[if_neg h2,if_neg h2]
theorem kj (e v:Int):∀(l:List HOp) (m:IMap),(∃t,getA (stG l m) e=some t∧t<v)↔((∃t,getA m e=some t∧t<v)∨∃o∈l,o.err=9∧o.era=e∧o.returned<v)
 | [],m=>by simp[stG]
 | o::l,m=>by
  have put:(∃t,getA (putA m o.era o.returned) e=some t∧t<v)↔if e=o.era then o.returned<v else ∃t,getA m e=some t∧t<v:=by
   rw[tB]
   by_cases h:e=o.era
   ·rw[if_pos h,if_pos h]
    exact⟨fun⟨t,h1,h2⟩=>by cases h1; exact h2,fun h1=>⟨_,rfl,h1⟩⟩
   ·rw[if_neg h,if_neg h]
  rw[stG]
  by_cases h9:o.err=9
  ·rw[if_pos h9]
   cases hg:getA m o.era with
   | none =>
    simp only
    rw[kj e v l,put]
    by_cases h:e=o.era
    ·subst h
     rw[if_pos rfl,hg]
     constructor
     ·rintro (h1 | ⟨x,hx,h1⟩)
      ·exact .inr ⟨o,List.mem_cons_self,h9,rfl,h1⟩
      ·exact .inr ⟨x,List.mem_cons_of_mem _ hx,h1⟩
     ·rintro (⟨t,h1,_⟩ | ⟨x,hx,h1⟩)
      ·cases h1
      ·rcases List.mem_cons.1 hx with rfl | hx
       ·exact .inl h1.2.2
       ·exact .inr ⟨x,hx,h1⟩
    ·rw[if_neg h]
     constructor
     ·rintro (h1 | ⟨x,hx,h1⟩)
      ·exact .inl h1
      ·exact .inr ⟨x,List.mem_cons_of_mem _ hx,h1⟩
     ·rintro (h1 | ⟨x,hx,h1⟩)
      ·exact .inl h1
      ·rcases List.mem_cons.1 hx with rfl | hx
       ·exact absurd h1.2.1.symm h
       ·exact .inr ⟨x,hx,h1⟩
   | some t0 =>
    simp only
    by_cases hr:o.returned<t0
    ·rw[if_pos hr,kj e v l,put]
     by_cases h:e=o.era
     ·subst h
      rw[if_pos rfl,hg]
      constructor
      ·rintro (h1 | ⟨x,hx,h1⟩)
       ·exact .inr ⟨o,List.mem_cons_self,h9,rfl,h1⟩
       ·exact .inr ⟨x,List.mem_cons_of_mem _ hx,h1⟩
      ·rintro (⟨t,h1,h2⟩ | ⟨x,hx,h1⟩)
       ·cases h1
        exact .inl (by omega)
       ·rcases List.mem_cons.1 hx with rfl | hx
        ·exact .inl h1.2.2
        ·exact .inr ⟨x,hx,h1⟩
     ·rw[if_neg h]
      constructor
      ·rintro (h1 | ⟨x,hx,h1⟩)
       ·exact .inl h1
       ·exact .inr ⟨x,List.mem_cons_of_mem _ hx,h1⟩
      ·rintro (h1 | ⟨x,hx,h1⟩)
       ·exact .inl h1
       ·rcases List.mem_cons.1 hx with rfl | hx
        ·exact absurd h1.2.1.symm h
        ·exact .inr ⟨x,hx,h1⟩
    ·rw[if_neg hr,kj e v l]
     constructor
     ·rintro (h1 | ⟨x,hx,h1⟩)
      ·exact .inl h1
      ·exact .inr ⟨x,List.mem_cons_of_mem _ hx,h1⟩
     ·rintro (h1 | ⟨x,hx,h1⟩)
      ·exact .inl h1
      ·rcases List.mem_cons.1 hx with rfl | hx
       ·exact .inl ⟨t0,by rw[←h1.2.1]; exact hg,by omega⟩
       ·exact .inr ⟨x,hx,h1⟩
  ·rw[if_neg h9,kj e v l]
   constructor
   ·rintro (h1 | ⟨x,hx,h1⟩)
    ·exact .inl h1
    ·exact .inr ⟨x,List.mem_cons_of_mem _ hx,h1⟩
   ·rintro (h1 | ⟨x,hx,h1⟩)
    ·exact .inl h1
    ·rcases List.mem_cons.1 hx with rfl | hx
     ·exact absurd h1.1 h9
     ·exact .inr ⟨x,hx,h1⟩
theorem pN (m:IMap) (p:HOp):lJ m p=true↔(∃t,getA m p.era=some t∧t<p.invoked)∧0≤p.returned∧(p.err=0∨p.err=8):=by
 unfold lJ
 cases getA m p.era with
 | none=>simp
 | some t=>simp
theorem vR (o p:HOp):stB o p=true↔(o.err=9∧o.era=p.era∧o.returned<p.invoked)∧0≤p.returned∧(p.err=0∨p.err=8):=by
 simp only[stB,Bool.and_eq_true,Bool.or_eq_true,decide_eq_true_eq]
 constructor
 ·rintro⟨a,b,c,d,e⟩
  exact⟨⟨a,b,c⟩,d,e⟩
 ·rintro⟨⟨a,b,c⟩,d,e⟩
  exact⟨a,b,c,d,e⟩
theorem C0 (l:List HOp):stV l=rstV l:=by
 have:l.any (lJ (stG l []))=l.any fun o=>l.any (stB o):=by
  rw[Bool.eq_iff_iff,List.any_eq_true,List.any_eq_true]
  constructor
  ·rintro⟨p,hp,h⟩
   rw[pN,kj]at h
   obtain⟨h1,h2⟩:=h
   rcases h1 with ⟨t,h1,_⟩ | ⟨o,ho,h1⟩
   ·cases h1
   ·exact⟨o,ho,List.any_eq_true.2 ⟨p,hp,(vR o p).2 ⟨h1,h2⟩⟩⟩
  ·rintro⟨o,ho,h⟩
   obtain⟨p,hp,h⟩:=List.any_eq_true.1 h
   obtain⟨h1,h2⟩:=(vR o p).1 h
   exact⟨p,hp,(pN _ _).2 ⟨(kj _ _ _ _).2 (.inr ⟨o,ho,h1⟩),h2⟩⟩
 rw[stV,rstV,this]
theorem mC {α:Type} (f:α→Bool) {l:List α} {i:Nat} {o:α} (h:l[i]?=some o):(l.drop i).any f=(f o||(l.drop (i+1)).any f):=by
 have hlt:=(List.getElem?_eq_some_iff.1 h).1
 rw[List.drop_eq_getElem_cons hlt,(List.getElem?_eq_some_iff.1 h).2,List.any_cons]
theorem kp (h:List HEv):∀(n i:Nat) (out:List HOp) (era:Int),(eS h n i out era).length≤out.length+n
 | 0,_,out,_=>by simp[eS]
 | n+1,i,out,era=>by
  rw[eS]
  split
  ·omega
  ·split
   ·have:=kp h n (i+1) out (era+1); omega
   ·split
    ·rename_i x _ _ _
     have:=kp h n (i+1) (out++[mkOp h i x out era]) era
     rw[List.length_append,List.length_singleton]at this
     omega
    ·have:=kp h n (i+1) out era; omega
theorem ft (h:List HEv):(opsR h).length≤h.length:=by
 have:=kp h h.length 0 [] 0
 simpa[opsR]using this
theorem uG (h:List HEv) (hL:h.length≤1000000):FnIs Try.prog 30 [.d (encH h)] [] (r01d (rstV (opsR h))) []:=by
 have hop:=lQ h hL
 have hl:=ft h
 refine aq aa Try.func30 rfl rfl rfl ?_
 generalize opsR h=l at *
 have hl2:l.length≤1000000:=by omega
 clear hl
 refine z19 ?_
 refine wc_inv (fun i:Nat=>⟨[(4,.int .i64 i),(3,.d (bS l))],[],72,Try.f30.ntmps,64⟩) (fun i=>i≤l.length∧((l.drop i).any fun o=>l.any (stB o))=l.any fun o=>l.any (stB o)) (fun i=>l.length-i) 0 [] ⟨Nat.zero_le _,rfl⟩
  (lg zk trivial) ?_
 rintro i ⟨hi,hd⟩
 refine bt ?_
 by_cases hlt:i<l.length
 ·have d1:decide ((i:Int)<(l.length:Int))=true:=dT (by omega)
  obtain⟨x,hx⟩:∃x,l[i]?=some x:=⟨_,List.getElem?_eq_getElem hlt⟩
  have hx2:l[((i:Int)).toNat]?=some x:=by rw[Int.toNat_natCast]; exact hx
  rw[mC _ hx]at hd
  refine z20 ?_
  refine wc_inv (fun j:Nat=>⟨[(5,.int .i64 j),(4,.int .i64 i),(3,.d (bS l))],[],72,Try.f30.ntmps,64⟩) (fun j=>j≤l.length∧(l.drop j).any (stB x)=l.any (stB x)) (fun j=>l.length-j) 0 [] ⟨Nat.zero_le _,rfl⟩
   (lg zj trivial) ?_
  rintro j ⟨hj,he⟩
  refine bt ?_
  by_cases hjt:j<l.length
  ·have d2:decide ((j:Int)<(l.length:Int))=true:=dT (by omega)
   obtain⟨y,hy⟩:∃y,l[j]?=some y:=⟨_,List.getElem?_eq_getElem hjt⟩
   have hy2:l[((j:Int)).toNat]?=some y:=by rw[Int.toNat_natCast]; exact hy
   rw[mC _ hy]at he
   have bad:stB x y=true→rstV l=false:=fun hb=>by
    rw[hb,Bool.true_or]at he
    rw[←he,Bool.true_or]at hd
    rw[rstV,←hd]; rfl
   have nxt:stB x y=false→(l.drop (j+1)).any (stB x)=l.any (stB x):=fun hb=>by rw[hb,Bool.false_or]at he; exact he
   clear he hd
   have hB:stB x y=(decide (x.err=9)&&(decide (x.era=y.era)&&(decide (x.returned<y.invoked)&&(decide (0≤y.returned)&&(decide (y.err=0)||decide (y.err=8)))))):=rfl
   cases k1:decide (x.err=9) with
   | false =>
    rw[k1]at hB
    refine z60 ?_;refine z23 ?_
    exact an (j+1) [] ⟨hjt,nxt hB⟩ (by omega) (lg zj trivial)
   | true =>
    cases k2:decide (x.era=y.era) with
    | false =>
     rw[k1,k2]at hB
     refine z60 ?_;refine z23 ?_
     exact an (j+1) [] ⟨hjt,nxt hB⟩ (by omega) (lg zj trivial)
    | true =>
     cases k3:decide (x.returned<y.invoked) with
     | false =>
      rw[k1,k2,k3]at hB
      refine z60 ?_;refine z23 ?_
      exact an (j+1) [] ⟨hjt,nxt hB⟩ (by omega) (lg zj trivial)
     | true =>
      cases k4:decide (0≤y.returned) with
      | false =>
       rw[k1,k2,k3,k4]at hB
       refine z60 ?_;refine z23 ?_
       exact an (j+1) [] ⟨hjt,nxt hB⟩ (by omega) (lg zj trivial)
      | true =>
       cases k5:decide (y.err=0) with
       | true =>
        rw[k1,k2,k3,k4,k5]at hB
        rw[bad hB]
        refine z60 ?_;refine z30 ?_
        exact⟨trivial,[],lf⟩
       | false =>
        cases k6:decide (y.err=8) with
        | true =>
         rw[k1,k2,k3,k4,k5,k6]at hB
         rw[bad hB]
         refine z60 ?_;refine z30 ?_
         exact⟨trivial,[],lf⟩
        | false =>
         rw[k1,k2,k3,k4,k5,k6]at hB
         refine z60 ?_;refine z23 ?_
         exact an (j+1) [] ⟨hjt,nxt hB⟩ (by omega) (lg zj trivial)
  ·have d2:decide ((j:Int)<(l.length:Int))=false:=dF (by omega)
   rw[List.drop_eq_nil_of_le (by omega),List.any_nil]at he
   rw[←he,Bool.false_or]at hd
   refine z21 ?_
   exact an (i+1) [] ⟨hlt,hd⟩ (by omega) (lg zk trivial)
 ·have d1:decide ((i:Int)<(l.length:Int))=false:=dF (by omega)
  rw[List.drop_eq_nil_of_le (by omega),List.any_nil]at hd
  have hv:rstV l=true:=by rw[rstV,←hd]; rfl
  rw[hv]
  refine z21 ?_
  exact⟨trivial,[],lf⟩
theorem rK (x:List XE):FnIs Try.prog 15 [.d (j5 x)] [] (.bool true) []:=by
 have hof:FnIs Try.prog 24 [.d (j5 x)] [] (.d (encH (hOf x))) []:=(wv x).freeze_out 64 _ rfl (Frz.own rfl) trivial
 have hn:=kD x
 have hc:=n7 x
 have hsk:=p8 (hOf x) (by omega) (by have:=dM (hOf x); omega)
 have hrs:=uG (hOf x) (by omega)
 generalize hOf x=h at *
 rw[if_pos (by rw[hc])]at hsk
 rw[hc]at hsk
 have hs:opsH h=opsR h:=by rw[opsH,if_pos (by rw[hc]),jV (by rw[hc])]
 rw[hs,C0]at hsk
 generalize rstV (opsR h)=b at hsk hrs
 refine aq aa Try.func15 rfl rfl rfl ?_
 cases b
 ·refine z42 ?_;refine rQ (yK cZ) ?_;refine z5 ?_
  exact⟨trivial,[],lf⟩
 ·refine z42 ?_;refine rQ (yK cZ) ?_;refine z5 ?_
  exact⟨trivial,[],lf⟩
structure RS where
 era:Int
 taken:List Int
 arr:List (List UInt8)
 dur:List (List UInt8)
abbrev jI (l:List (List UInt8)):D :=.arr 32 bc l
def cP (s:RS):D :=.cons (i6 s.era) (.cons (fg s.taken) (.cons (jI s.arr) (.cons (jI s.dur) .nil)))
abbrev pI (l:List (List UInt8)):Row :=.ds 40 32 true bc l
theorem E7 {α:Type} {l:List α} {k:Nat} {x z:α} (h:l[k]?=some x):(l.take k++List.replicate (l.length-k) z).set k x=l.take (k+1)++List.replicate (l.length-(k+1)) z:=by
 have hlt:=(List.getElem?_eq_some_iff.1 h).1
 obtain⟨m,hm⟩:∃m,l.length-k=m+1:=⟨l.length-k-1,by omega⟩
 rw[hm,show l.length-(k+1)=m by omega,List.replicate_succ,List.set_append_right _ _ (by rw[List.length_take]; omega),List.length_take,Nat.min_eq_left (by omega),Nat.sub_self,List.set_cons_zero,List.take_add_one,h]
 simp
theorem pG (l:List (List UInt8)) (hl:l.length≤1048576):FnIs Try.prog 35 [.d (jI l)] [] (.own 64 0 l.length 32 none) [(64,pI l)]:=by
 refine aq aa Try.func35 rfl rfl rfl ?_;refine z9 ?_;refine aO (dA (enc:=bc) (s:=32) (N:=l.length) aa zBk rfl rfl rfl rfl rfl rfl rfl hl rfl) rfl ?_;refine z10 ?_
 refine wc_inv (fun k:Nat=>⟨[(4,.int .i64 k),(3,.own 65 0 l.length 32 none),(0,.d (jI l))],[(65,some (pI (l.take k++List.replicate (l.length-k) zBk)))],72,Try.f35.ntmps,64⟩) (fun k=>k≤l.length) (fun k=>l.length-k) 0 [(65,some _)] (Nat.zero_le _)
  (lg zj ⟨zR,trivial⟩) ?_
 intro k hk
 refine bt ?_
 by_cases hlt:k<l.length
 ·have d1:decide ((k:Int)<(l.length:Int))=true:=dT (by omega)
  obtain⟨x,hx⟩:∃x,l[k]?=some x:=⟨_,List.getElem?_eq_getElem hlt⟩
  have hx2:l[((k:Int)).toNat]?=some x:=by rw[Int.toNat_natCast]; exact hx
  obtain⟨z0,hz1⟩:∃z0,(l.take k++List.replicate (l.length-k) zBk)[k]?=some z0:=⟨_,List.getElem?_eq_getElem (by rw[List.length_append,List.length_take,List.length_replicate]; omega)⟩
  have hz0:(l.take k++List.replicate (l.length-k) zBk)[((k:Int)).toNat]?=some z0:=by rw[Int.toNat_natCast]; exact hz1
  have hset:(l.take k++List.replicate (l.length-k) zBk).set ((k:Int)).toNat x=l.take (k+1)++List.replicate (l.length-(k+1)) zBk:=by rw[Int.toNat_natCast]; exact E7 hx
  refine z22 ?_;refine bH (aG aa rfl rfl rfl ⟨rfl,z0,x,hz0,⟨rfl,rfl,rfl⟩,rfl⟩ rfl) ?_;refine z8 ?_
  exact an (k+1) [(65,some 65)] hlt (by omega) (lg zj ⟨⟨rfl,rfl,_,rfl,aM.of_eq (congrArg pI hset)⟩,trivial⟩)
 ·have d1:decide ((k:Int)<(l.length:Int))=false:=dF (by omega)
  obtain rfl:k=l.length:=by omega
  rw[List.take_length,Nat.sub_self,List.replicate_zero,List.append_nil]
  refine z22 ?_
  exact⟨trivial,[(64,some 65)],lg zV ⟨zR,trivial⟩⟩
theorem gv (l:List (List UInt8)) (hl:l.length≤1048576):FnIs Try.prog 35 [.d (jI l)] [] (.d (jI l)) []:=(pG l hl).freeze_out 64 _ rfl (Frz.own rfl) trivial
def am (n:Nat):RS:=⟨0,[],List.replicate n zBk,List.replicate n zBk⟩
theorem Du (n:Nat):DLe (.cons (i6 0) (.cons (.sc nil_) (.cons (jI (List.replicate n zBk)) (.cons (jI (List.replicate n zBk)) .nil)))) (cP (am n)):=by
 rintro w X cs ⟨c1,r1,rfl,h1,c2,r2,rfl,h2,h3⟩
 exact⟨c1,_,rfl,h1,c2,_,rfl,.inl ⟨rfl,h2.1⟩,h3⟩
theorem kk (n:Nat) (hn:n≤1048576):FnIs Try.prog 18 [.int .i64 n] [] (.d (cP (am n))) []:=by
 refine aq aa Try.func18 rfl rfl rfl ?_;refine z8 ?_;refine yA (ab.frozen (dA (enc:=bc) (s:=32) (N:=n) aa zBk rfl rfl rfl rfl rfl rfl rfl hn rfl) (Frz.own (by rw[List.length_replicate]))) ?_;refine z1 ?_;refine yA (ab.frozen (dA (enc:=bc) (s:=32) (N:=n) aa zBk rfl rfl rfl rfl rfl rfl rfl hn rfl) (Frz.own (by rw[List.length_replicate]))) ?_;refine yA (ab.val_le (aK aa rfl rfl rfl rfl) (Du n) rfl) ?_;refine bj [2,7] [64] (aG aa rfl rfl rfl ⟨_,⟨rfl,rfl,rfl⟩,rfl⟩ rfl) ?_;refine z3 ?_
 exact⟨trivial,_,rfl,[],lf⟩
def aI (s:RS):RS:=⟨s.era+1,[],s.dur,s.dur⟩
theorem DD (e:Int) (d:List (List UInt8)):DLe (.cons (i6 e) (.cons (.sc nil_) (.cons (jI d) (.cons (jI d) .nil)))) (cP ⟨e,[],d,d⟩):=by
 rintro w X cs ⟨c1,r1,rfl,h1,c2,r2,rfl,h2,h3⟩
 exact⟨c1,_,rfl,h1,c2,_,rfl,.inl ⟨rfl,h2.1⟩,h3⟩
theorem fe (s:RS) (hd:s.dur.length≤1048576) (he:IntKind.i64.wrap (s.era+1)=s.era+1):FnIs Try.prog 20 [.d (cP s)] [] (.d (cP (aI s))) []:=by
 have hc:=gv s.dur hd
 refine aq aa Try.func20 rfl rfl rfl ?_;refine z9 ?_;refine dQ [3] [64] iB ?_;refine yA (bM (m:=s.era+1) aa rfl rfl he) ?_;refine z1 ?_;refine dQ [6] [64] iB ?_;refine z2 ?_;refine dQ [9] [64] iB ?_;refine z1 ?_;refine yA (ab.val_le (aK aa rfl rfl rfl rfl) (DD (s.era+1) s.dur) rfl) ?_;refine bj [2,12] [72] (aG aa rfl rfl rfl ⟨_,⟨rfl,rfl,rfl⟩,rfl⟩ rfl) ?_;refine z3 ?_
 exact⟨trivial,_,rfl,[],lf⟩
theorem lT (l:List Int) (n:Int) (hl:l.length≤1048576):FnIs Try.prog 63 [.d (fg l),.int .i64 n] [] (.d (i6 (if l.any (fun y=>decide (y=n))=true then 1 else 0))) []:=by
 refine aq aa Try.func63 rfl rfl rfl ?_;refine z12 ?_
 refine wc_inv (fun k:Nat=>⟨[(5,.int .i64 k),(1,.int .i64 n),(0,.d (fg l))],[],72,Try.f63.ntmps,64⟩) (fun k=>k≤l.length∧(l.drop k).any (fun y=>decide (y=n))=l.any (fun y=>decide (y=n))) (fun k=>l.length-k) 0 [] ⟨Nat.zero_le _,rfl⟩
  (lg zj trivial) ?_
 rintro k ⟨hk,hd⟩
 refine bt ?_
 by_cases hlt:k<l.length
 ·have d1:decide ((k:Int)<(l.length:Int))=true:=dT (by omega)
  obtain⟨x,hx⟩:∃x,l[k]?=some x:=⟨_,List.getElem?_eq_getElem hlt⟩
  have hx2:l[((k:Int)).toNat]?=some x:=by rw[Int.toNat_natCast]; exact hx
  rw[mC _ hx]at hd
  by_cases h2:x=n
  ·have d2:decide (x=n)=true:=dT h2
   rw[d2,Bool.true_or]at hd
   rw[if_pos hd.symm]
   refine z36 ?_
   exact⟨trivial,[],lf⟩
  ·have d2:decide (x=n)=false:=dF h2
   rw[d2,Bool.false_or]at hd
   refine z33 ?_
   exact an (k+1) [] ⟨hlt,hd⟩ (by omega) (lg zj trivial)
 ·have d1:decide ((k:Int)<(l.length:Int))=false:=dF (by omega)
  rw[List.drop_eq_nil_of_le (by omega),List.any_nil]at hd
  rw[if_neg (by rw[←hd]; decide)]
  refine z21 ?_
  exact⟨trivial,[],lf⟩
theorem yN {α:Type} {l:List α} {i:Nat} {x:α} (h:l[i]?=some x):l.set i x=l:=by
 apply List.ext_getElem?
 intro j
 rw[List.getElem?_set]
 split
 ·rename_i e
  subst e
  rw[if_pos (List.getElem?_eq_some_iff.1 h).1,h]
 ·rfl
def pgAt (l:List (List UInt8)) (i:Int):List UInt8:=l[i.toNat]?.getD zBk
def hapR (s:RS) (o:HOp):RS×Bool :=
 if o.op.kind=1 then (s,!bf o||decide (pgAt s.arr o.op.index=o.value))
 else if o.op.kind=2 then ({ s with arr:=s.arr.set o.op.index.toNat o.op.data },true)
 else ({ s with dur:=s.arr },true)
structure ui (s:RS) (o:HOp):Prop where
 al:s.arr.length≤1048576
 dl:s.dur.length≤1048576
 pg:∀p∈s.arr,p.length=32
 kd:o.op.kind=1∨o.op.kind=2∨o.op.kind=3
 ix:o.op.kind=1∨o.op.kind=2→0≤o.op.index∧o.op.index<s.arr.length
 dt:o.op.kind=2→o.op.data.length=32
abbrev hapE (r:RS×Bool):AV :=.tup (.acons (.d (cP r.1)) (.acons (r01d r.2) .anil))
theorem zq (s:RS) (o:HOp) (h:ui s o) (h1:o.op.kind=1):FnIs Try.prog 21 [.d (cP s),.d (a9 o)] [] (hapE (hapR s o)) []:=by
 have hca:=gv s.arr h.al
 have hcd:=gv s.dur h.dl
 have hmu:=lS o
 have k1:decide (o.op.kind=1)=true:=dT h1
 have k2:decide (o.op.kind=2)=false:=dF (by omega)
 have k3:decide (o.op.kind=3)=false:=dF (by omega)
 obtain⟨hi0,hi1⟩:=h.ix (.inl h1)
 obtain⟨x,hx⟩:∃x,s.arr[o.op.index.toNat]?=some x:=⟨_,List.getElem?_eq_getElem (by omega)⟩
 have hp:pgAt s.arr o.op.index=x:=by rw[pgAt,hx]; rfl
 refine aq aa Try.func21 rfl rfl rfl ?_
 rw[hapR,if_pos h1,hp]
 cases hm:bf o with
 | false =>
  rw[hm]at hmu
  refine z11 ?_;refine dQ [8] [64] iB ?_;refine z1 ?_;refine dQ [10] [64] iB ?_;refine z1 ?_;refine dQ [12] [64] iB ?_;refine z2 ?_;refine dQ [15] [64] iB ?_;refine z2 ?_;refine c9 [] [] rfl (bD aa (fun K hk=>hk)) ?_;refine bj [6,18] [184] (aG aa rfl rfl rfl ⟨_,⟨rfl,rfl,rfl⟩,rfl⟩ rfl) ?_;refine z20 ?_;refine dQ [3] [72] iM ?_;refine z28 ?_
  exact⟨trivial,_,rfl,[],lf⟩
 | true =>
  rw[hm]at hmu
  by_cases he:x=o.value
  ·have d2:decide (x=o.value)=true:=dT he
   have d1:(!decide (x=o.value))=false:=by rw[d2]; rfl
   rw[d2]
   refine z11 ?_;refine dQ [8] [64] iB ?_;refine z1 ?_;refine dQ [10] [64] iB ?_;refine z1 ?_;refine dQ [12] [64] iB ?_;refine z2 ?_;refine dQ [15] [64] iB ?_;refine z2 ?_;refine c9 [] [] rfl (bD aa (fun K hk=>hk)) ?_;refine bj [6,18] [184] (aG aa rfl rfl rfl ⟨_,⟨rfl,rfl,rfl⟩,rfl⟩ rfl) ?_;refine z20 ?_;refine dQ [3] [72] iM ?_;refine z4 ?_;refine aD [27,28] [64] rfl rfl rfl rfl (ay aa rfl rfl ⟨_,rfl,rfl⟩ rfl) ?_;refine z2 ?_;refine aD [27,31] [72] rfl rfl rfl rfl (ay aa rfl rfl ⟨_,rfl,rfl⟩ rfl) ?_;refine yO (bK aa rfl rfl rfl rfl rfl hi0 hx) ?_;refine z2 ?_;refine aD [27,35] [72] rfl rfl rfl rfl (ay aa rfl rfl ⟨_,rfl,rfl⟩ rfl) ?_;refine yO (l7 rfl rfl rfl rfl (by kernel_rfl) (by decide) (cJ x o.value)) ?_;refine z15 ?_
   exact⟨trivial,_,rfl,[],lf⟩
  ·have d2:decide (x=o.value)=false:=dF he
   have d1:(!decide (x=o.value))=true:=by rw[d2]; rfl
   rw[d2]
   refine z11 ?_;refine dQ [8] [64] iB ?_;refine z1 ?_;refine dQ [10] [64] iB ?_;refine z1 ?_;refine dQ [12] [64] iB ?_;refine z2 ?_;refine dQ [15] [64] iB ?_;refine z2 ?_;refine c9 [] [] rfl (bD aa (fun K hk=>hk)) ?_;refine bj [6,18] [184] (aG aa rfl rfl rfl ⟨_,⟨rfl,rfl,rfl⟩,rfl⟩ rfl) ?_;refine z20 ?_;refine dQ [3] [72] iM ?_;refine z4 ?_;refine aD [27,28] [64] rfl rfl rfl rfl (ay aa rfl rfl ⟨_,rfl,rfl⟩ rfl) ?_;refine z2 ?_;refine aD [27,31] [72] rfl rfl rfl rfl (ay aa rfl rfl ⟨_,rfl,rfl⟩ rfl) ?_;refine yO (bK aa rfl rfl rfl rfl rfl hi0 hx) ?_;refine z2 ?_;refine aD [27,35] [72] rfl rfl rfl rfl (ay aa rfl rfl ⟨_,rfl,rfl⟩ rfl) ?_;refine yO (l7 rfl rfl rfl rfl (by kernel_rfl) (by decide) (cJ x o.value)) ?_;refine z14 ?_
   exact⟨trivial,_,rfl,[],lf⟩
theorem zo (s:RS) (o:HOp) (h:ui s o) (h3:o.op.kind=3):FnIs Try.prog 21 [.d (cP s),.d (a9 o)] [] (hapE (hapR s o)) []:=by
 have hca:=gv s.arr h.al
 have hcd:=gv s.dur h.dl
 have k1:decide (o.op.kind=1)=false:=dF (by omega)
 have k2:decide (o.op.kind=2)=false:=dF (by omega)
 have k3:decide (o.op.kind=3)=true:=dT h3
 refine aq aa Try.func21 rfl rfl rfl ?_
 rw[hapR,if_neg (by omega),if_neg (by omega)]
 refine z11 ?_;refine dQ [8] [64] iB ?_;refine z1 ?_;refine dQ [10] [64] iB ?_;refine z1 ?_;refine dQ [12] [64] iB ?_;refine z2 ?_;refine dQ [15] [64] iB ?_;refine z2 ?_;refine c9 [] [] rfl (bD aa (fun K hk=>hk)) ?_;refine bj [6,18] [184] (aG aa rfl rfl rfl ⟨_,⟨rfl,rfl,rfl⟩,rfl⟩ rfl) ?_;refine z37 ?_;refine rX ?_;refine z11 ?_
 exact⟨trivial,_,rfl,[],lf⟩
abbrev C8 (s:RS) (n:Nat):Row :=.box 59 (.acons (.d (i6 s.era)) (.acons (.d (fg s.taken)) (.acons (.own n 0 s.arr.length 32 none) (.acons (.d (jI s.dur)) (.d .nil)))))
theorem zp (s:RS) (o:HOp) (h:ui s o) (h2:o.op.kind=2):FnIs Try.prog 21 [.d (cP s),.d (a9 o)] [] (.tup (.acons (.acons (.d (i6 s.era)) (.acons (.d (fg s.taken)) (.acons (.own 64 0 s.arr.length 32 none) (.acons (.d (jI s.dur)) (.d .nil))))) (.acons (r01d true) .anil))) [(64,pI (s.arr.set o.op.index.toNat o.op.data))]:=by
 have hca:=pG s.arr h.al
 have hcd:=gv s.dur h.dl
 have k1:decide (o.op.kind=1)=false:=dF (by omega)
 have k2:decide (o.op.kind=2)=true:=dT h2
 have k3:decide (o.op.kind=3)=false:=dF (by omega)
 obtain⟨hi0,hi1⟩:=h.ix (.inr h2)
 have hdl:=h.dt h2
 obtain⟨x,hx⟩:∃x,s.arr[o.op.index.toNat]?=some x:=⟨_,List.getElem?_eq_getElem (by omega)⟩
 have hxl:x.length=32:=h.pg x (List.mem_of_getElem? hx)
 have hset0:s.arr=s.arr.set o.op.index.toNat (o.op.data.take 0++x.drop 0):=by
  rw[List.take_zero,List.nil_append,List.drop_zero]
  exact (yN hx).symm
 refine aq aa Try.func21 rfl rfl rfl ?_;refine z11 ?_;refine dQ [8] [64] iB ?_;refine z1 ?_;refine dQ [10] [64] iB ?_;refine z1 ?_;refine dQ [12] [64] iB ?_;refine c9 [13] [] rfl (aS [] hca rfl rfl rfl (aE au) trivial rfl rfl (.inl rfl) rfl rfl) ?_;refine z1 ?_;refine dQ [15] [64] iB ?_;refine z1 ?_;refine dQ [9,11,14,17] [144] iS ?_;refine c9 [] [] rfl (bD aa (fun K hk=>hk)) ?_;refine bj [6,18] [184] (aG aa rfl rfl rfl ⟨_,⟨rfl,rfl,rfl⟩,rfl⟩ rfl) ?_;refine z31 ?_
 refine wc_inv (fun k:Nat=>⟨[(7,.int .i64 k),(6,.ptr 66 []),(4,.ptr 67 []),(3,.ptr 65 []),(2,.ptr 64 [])],[(64,some (.box 59 (.d (cP s)))),(65,some (wi o)),(66,some (C8 s 68)),(67,some (.box 59 (.d r59.zero))),(68,some (pI (s.arr.set o.op.index.toNat (o.op.data.take k++x.drop k))))],72,Try.f21.ntmps,64⟩) (fun k=>k≤32) (fun k=>32-k) 0 [(64,some _),(65,some _),(66,some _),(67,some _),(68,some _)] (Nat.zero_le _)
  (lg zh ⟨zR,zR,zR,zR,⟨rfl,rfl,_,rfl,aM.of_eq (congrArg pI hset0)⟩,trivial⟩) ?_
 intro k hk
 refine bt ?_
 by_cases hlt:k<32
 ·have d5:decide ((k:Int)<32)=true:=dT (by omega)
  obtain⟨y,hy⟩:∃y,o.op.data[k]?=some y:=⟨_,List.getElem?_eq_getElem (by omega)⟩
  obtain⟨z,hz⟩:∃z,x[k]?=some z:=⟨_,List.getElem?_eq_getElem (by omega)⟩
  have hbl:(byI o.op.data).length=o.op.data.length:=fO _
  have hy2:(byI o.op.data)[((k:Int)).toNat]?=some ((y.toNat:Nat):Int):=by rw[Int.toNat_natCast]; exact wP hy
  obtain⟨e0,he0⟩:∃e0:Int,((z.toNat:Nat):Int)=e0:=⟨_,rfl⟩
  have htl:(o.op.data.take k).length=k:=by rw[List.length_take]; omega
  have hgm:(o.op.data.take k++x.drop k)[k]?=some z:=by rw[List.getElem?_append_right (by omega),htl,Nat.sub_self,List.getElem?_drop,Nat.add_zero]; exact hz
  have hgb:(byI (o.op.data.take k++x.drop k))[((k:Int)).toNat]?=some e0:=by rw[Int.toNat_natCast,←he0]; exact wP hgm
  have hset:(byI (o.op.data.take k++x.drop k)).set ((k:Int)).toNat ((y.toNat:Nat):Int)=byI (o.op.data.take (k+1)++x.drop (k+1)):=by
   rw[Int.toNat_natCast,byI,byI,←List.map_set,List.set_append_right _ _ (by omega),htl,Nat.sub_self,List.drop_eq_getElem_cons (by omega:k<x.length),List.set_cons_zero,List.take_add_one,hy]
   simp
  have hga:(s.arr.set o.op.index.toNat (o.op.data.take k++x.drop k))[o.op.index.toNat]?=some (o.op.data.take k++x.drop k):=by rw[List.getElem?_set_self (by omega)]
  have hss:(s.arr.set o.op.index.toNat (o.op.data.take k++x.drop k)).set o.op.index.toNat (o.op.data.take (k+1)++x.drop (k+1))=s.arr.set o.op.index.toNat (o.op.data.take (k+1)++x.drop (k+1)):=List.set_set ..
  refine z14 ?_;refine dQ [46] [66] iM ?_;refine z2 ?_;refine dQ [49] [65] iB ?_;refine z3 ?_;refine dQ [53] [65] iB ?_;refine z3 ?_;refine yA (bg aa rfl rfl rfl rfl rfl hi0 hi1) ?_;refine z1 ?_;refine bj [59,57] [68] (aG aa rfl rfl rfl ⟨rfl,_,o.op.data.take (k+1)++x.drop (k+1),hga,⟨rfl,e0,((y.toNat:Nat):Int),hgb,⟨rfl,rfl,rfl⟩,congrArg (D.vec 32 1 cN) hset.symm⟩,rfl⟩ rfl) ?_;refine z8 ?_
  exact an (k+1) [(64,some _),(65,some _),(66,some _),(67,some _),(68,some _)] hlt (by omega) (lg zh ⟨zR,zR,zR,zR,⟨rfl,rfl,_,rfl,aM.of_eq (congrArg pI hss)⟩,trivial⟩)
 ·have d5:decide ((k:Int)<32)=false:=dF (by omega)
  have hfin:o.op.data.take k++x.drop k=o.op.data:=by rw[List.take_of_length_le (by omega),List.drop_eq_nil_of_le (by omega),List.append_nil]
  rw[hfin]
  refine z22 ?_
  exact⟨trivial,_,rfl,[(64,some 68)],lg zV ⟨zR,trivial⟩⟩
theorem gz (s:RS) (o:HOp) (h:ui s o):FnIs Try.prog 21 [.d (cP s),.d (a9 o)] [] (hapE (hapR s o)) []:=by
 rcases h.kd with k | k | k
 ·exact zq s o h k
 ·have:hapR s o=({ s with arr:=s.arr.set o.op.index.toNat o.op.data },true):=by rw[hapR,if_neg (by omega),if_pos k]
  rw[this]
  exact (zp s o h k).freeze_out 64 _ rfl (Frz.tup (.cons (Frz.dcons (.refl _) (Frz.dcons (.refl _) (Frz.dcons (Frz.own (by rw[List.length_set])) (Frz.dcons (.refl _) (.refl _))))) (.cons (.refl _) .nil))) trivial
 ·exact zo s o h k
def aP (e:Int) (s:RS):RS:=if s.era<e then⟨e,[],s.dur,s.dur⟩ else s
def befA (l:List HOp) (o:HOp) (j:Int):Bool:=match l[j.toNat]? with
 | some p=>befB o p
 | none=>false
def dS (b:Int) (l:List HOp):List Int→List Int→RS→Int
 | [],_,_=>0
 | i::os,pre,s=>if i<0 then 1 else match l[i.toNat]? with
  | none=>1
  | some o=>if pre.any (fun y=>decide (y=i))=true then 1 else if mayB o b=false then 1 else if pre.any (befA l o)=true then 13
   else if (hapR (aP o.era s) o).2=false then 15 else dS b l os (pre++[i]) (hapR (aP o.era s) o).1
def eI (ord:List Int):List HOp→Nat→Bool
 | [],_=>false
 | o::l,k=>(bf o && !ord.any (fun y=>decide (y=(k:Int))))||eI ord l (k+1)
def fp (b:Int) (n:Nat) (l:List HOp) (order:List Int):Int :=
 if dS b l order [] (am n)=0 then (if eI order l 0=true then 15 else 0) else dS b l order [] (am n)
structure RSOk (n:Nat) (s:RS):Prop where
 al:s.arr.length=n
 dl:s.dur.length=n
 ap:∀p∈s.arr,p.length=32
 dp:∀p∈s.dur,p.length=32
 e0:0≤s.era
 e1:s.era≤1000000
theorem RSOk.first (n:Nat):RSOk n (am n):=
 ⟨List.length_replicate,List.length_replicate,fun p hp=>by rw[(List.mem_replicate.1 hp).2]; rfl,fun p hp=>by rw[(List.mem_replicate.1 hp).2]; rfl,Int.le_refl _,by show (0:Int)≤1000000; decide⟩
theorem RSOk.crash {n:Nat} {s:RS} (h:RSOk n s) (he:s.era<1000000):RSOk n (aI s):=⟨h.dl,h.dl,h.dp,h.dp,by have:=h.e0; show 0≤s.era+1; omega,by show s.era+1≤1000000; omega⟩
theorem RSOk.to {n:Nat} {s:RS} (h:RSOk n s) {e:Int} (he:e≤1000000):RSOk n (aP e s):=by
 unfold aP
 split
 ·exact⟨h.dl,h.dl,h.dp,h.dp,by have:=h.e0; show 0≤e; omega,he⟩
 ·exact h
theorem wl {o:HOp} {n:Nat} (h:mayB o n=true):(o.op.kind=1∨o.op.kind=2∨o.op.kind=3)∧(o.op.kind=1∨o.op.kind=2→0≤o.op.index∧o.op.index<n)∧(o.op.kind=2→o.op.data.length=32):=by
 unfold mayB badO outO at h
 by_cases k1:o.op.kind=1
 ·simp[k1]at h
  exact⟨.inl k1,fun _=>by omega,fun k=>by omega⟩
 ·by_cases k2:o.op.kind=2
  ·simp[k2]at h
   exact⟨.inr (.inl k2),fun _=>by omega,fun _=>h.1.2⟩
  ·simp[k1,k2]at h
   exact⟨.inr (.inr h.1),fun k=>by omega,fun k=>by omega⟩
theorem RSOk.hap {n:Nat} (hn:n≤1048576) {s:RS} (h:RSOk n s) {o:HOp} (hm:mayB o n=true):ui s o∧RSOk n (hapR s o).1:=by
 obtain⟨m1,m2,m3⟩:=wl hm
 refine⟨⟨by rw[h.al]; exact hn,by rw[h.dl]; exact hn,h.ap,m1,fun k=>by rw[h.al]; exact m2 k,m3⟩,?_⟩
 unfold hapR
 split
 ·exact h
 ·split
  ·rename_i k2
   exact⟨by simp only[List.length_set]; exact h.al,h.dl,fun p hp=>by
    rcases List.mem_or_eq_of_mem_set hp with hp | rfl
    ·exact h.ap p hp
    ·exact m3 k2,h.dp,h.e0,h.e1⟩
  ·exact⟨h.al,h.al,h.ap,h.ap,h.e0,h.e1⟩
theorem uP {b:Int} {l:List HOp} {order:List Int} {k:Nat} {i:Int} (h:order[k]?=some i) (pre:List Int) (s:RS):dS b l (order.drop k) pre s=dS b l (i::order.drop (k+1)) pre s:=by
 have hlt:=(List.getElem?_eq_some_iff.1 h).1
 rw[List.drop_eq_getElem_cons hlt,(List.getElem?_eq_some_iff.1 h).2]
theorem xo {ord:List Int} {l:List HOp} {k:Nat} {o:HOp} (h:l[k]?=some o):eI ord (l.drop k) k=((bf o && !ord.any (fun y=>decide (y=(k:Int))))||eI ord (l.drop (k+1)) (k+1)):=by
 have hlt:=(List.getElem?_eq_some_iff.1 h).1
 rw[List.drop_eq_getElem_cons hlt,(List.getElem?_eq_some_iff.1 h).2,eI]
abbrev fR (s:RS):Row :=.box 59 (.d (cP s))
theorem oP (h:List HEv) (n:Nat) (order:List Int) (l:List HOp) (hop:FnIs Try.prog 28 [.d (encH h)] [] (.d (bS l)) []) (hL:l.length≤1000000) (hn:n≤1000000) (hO:order.length≤1000000) (hE:∀o∈l,0≤o.era∧o.era≤1000000):FnIs Try.prog 31 [.d (encH h),.int .i64 n,.d (fg order)] [] (.d (i6 (fp n n l order))) []:=by
 have hfi:=kk n (by omega)
 refine aq aa Try.func31 rfl rfl rfl ?_
 have fin:∀v,v≠0→dS n l order [] (am n)=v→fp n n l order=v:=fun v hv e=>by rw[fp,e,if_neg hv]
 have fin0:∀c,dS n l order [] (am n)=0→eI order l 0=c→fp n n l order=if c=true then 15 else 0:=fun c e e2=>by rw[fp,e,if_pos rfl,e2]
 refine z27 ?_
 refine wc_inv (fun q:Nat×RS=>⟨[(9,.int .i64 q.1),(8,.ptr 64 []),(7,.d (bS l)),(2,.d (fg order)),(1,.int .i64 n)],[(64,some (fR q.2))],72,Try.f31.ntmps,64⟩) (fun q=>q.1≤order.length∧RSOk n q.2∧(∀y∈order.take q.1,0≤y∧y<l.length)∧dS n l (order.drop q.1) (order.take q.1) q.2=dS n l order [] (am n)) (fun q=>order.length-q.1) (0,am n) [(64,some _)] ⟨Nat.zero_le _,.first n,fun y hy=>(by simp at hy),rfl⟩
  (lg zh ⟨zR,trivial⟩) ?_
 rintro⟨k,s⟩ ⟨hk,hs,hr,hg⟩
 simp only at hk hs hr hg
 refine bt ?_
 by_cases hlt:k<order.length
 ·have d1:decide ((k:Int)<(order.length:Int))=true:=dT (by omega)
  obtain⟨i,hi⟩:∃i,order[k]?=some i:=⟨_,List.getElem?_eq_getElem hlt⟩
  have hi2:order[((k:Int)).toNat]?=some i:=by rw[Int.toNat_natCast]; exact hi
  rw[uP hi,dS]at hg
  have htk:order.take (k+1)=order.take k++[i]:=by rw[List.take_add_one,hi]; rfl
  have htl:(order.take k).length=k:=by rw[List.length_take]; omega
  refine z29 ?_
  by_cases h1:i<0
  ·have e1:decide (i<0)=true:=dT h1
   rw[if_pos h1]at hg
   rw[fin 1 (by decide) hg.symm]
   refine z37 ?_
   exact⟨trivial,[],lf⟩
  have e1:decide (i<0)=false:=dF h1
  have hi0:0≤i:=by omega
  rw[if_neg h1]at hg
  by_cases h2:(l.length:Int)≤i
  ·have e2:decide ((l.length:Int)≤i)=true:=dT h2
   rw[List.getElem?_eq_none (by omega)]at hg
   simp only at hg
   rw[fin 1 (by decide) hg.symm]
   refine z41 ?_
   exact⟨trivial,[],lf⟩
  have e2:decide ((l.length:Int)≤i)=false:=dF h2
  obtain⟨o,ho⟩:∃o,l[i.toNat]?=some o:=⟨_,List.getElem?_eq_getElem (by omega)⟩
  rw[ho]at hg
  simp only at hg
  obtain⟨he0,he1⟩:=hE o (List.mem_of_getElem? ho)
  have hha:=lT (order.take k) i (by omega)
  have hma:=vU o n
  cases h3:(order.take k).any (fun y=>decide (y=i)) with
  | true =>
   rw[if_pos h3]at hg
   rw[h3]at hha
   rw[fin 1 (by decide) hg.symm]
   refine z15 ?_;refine rQ (jM (m:=(k:Int)) aa rfl rfl rfl rfl (by omega) (by omega)) ?_;refine z31 ?_
   exact⟨trivial,[],lf⟩
  | false =>
  rw[if_neg (by rw[h3]; decide)]at hg
  rw[h3]at hha
  cases h4:mayB o n with
  | false =>
   rw[if_pos h4]at hg
   rw[h4]at hma
   rw[fin 1 (by decide) hg.symm]
   refine z15 ?_;refine rQ (jM (m:=(k:Int)) aa rfl rfl rfl rfl (by omega) (by omega)) ?_;refine z13 ?_;refine rQ (bK aa rfl rfl rfl rfl rfl hi0 ho) ?_;refine z24 ?_
   exact⟨trivial,[],lf⟩
  | true =>
  rw[if_neg (by rw[h4]; decide)]at hg
  rw[h4]at hma
  refine z15 ?_;refine rQ (jM (m:=(k:Int)) aa rfl rfl rfl rfl (by omega) (by omega)) ?_;refine z13 ?_;refine rQ (bK aa rfl rfl rfl rfl rfl hi0 ho) ?_;refine z21 ?_
  refine wc_inv (fun j:Nat=>⟨[(11,.int .i64 j),(10,.int .i64 i),(9,.int .i64 k),(8,.ptr 64 []),(7,.d (bS l)),(2,.d (fg order)),(1,.int .i64 n)],[(64,some (fR s))],72,Try.f31.ntmps,64⟩) (fun j=>j≤k∧((order.take k).drop j).any (befA l o)=(order.take k).any (befA l o)) (fun j=>k-j) 0 [(64,some _)] ⟨Nat.zero_le _,rfl⟩
   (lg zf ⟨zR,trivial⟩) ?_
  rintro j ⟨hj,hja⟩
  refine bt ?_
  by_cases hjt:j<k
  ·have d2:decide ((j:Int)<(k:Int))=true:=dT (by omega)
   obtain⟨y,hy⟩:∃y,order[j]?=some y:=⟨_,List.getElem?_eq_getElem (by omega)⟩
   have hy2:order[((j:Int)).toNat]?=some y:=by rw[Int.toNat_natCast]; exact hy
   have hyt:(order.take k)[j]?=some y:=by rw[List.getElem?_take_of_lt hjt]; exact hy
   obtain⟨hy0,hyl⟩:=hr y (List.mem_of_getElem? hyt)
   obtain⟨p,hp⟩:∃p,l[y.toNat]?=some p:=⟨_,List.getElem?_eq_getElem (by omega)⟩
   have hba:befA l o y=befB o p:=by rw[befA,hp]
   rw[mC _ hyt,hba]at hja
   have hbe:=ln o p
   cases hb:befB o p with
   | true =>
    rw[hb]at hbe hja
    rw[Bool.true_or]at hja
    rw[if_pos hja.symm]at hg
    rw[fin 13 (by decide) hg.symm]
    refine z17 ?_;refine yA (bK aa rfl rfl rfl rfl rfl hi0 ho) ?_;refine z6 ?_;refine yA (bK aa rfl rfl rfl rfl rfl hy0 hp) ?_;refine z22 ?_
    exact⟨trivial,[],lf⟩
   | false =>
    rw[hb]at hbe hja
    rw[Bool.false_or]at hja
    refine z17 ?_;refine yA (bK aa rfl rfl rfl rfl rfl hi0 ho) ?_;refine z6 ?_;refine yA (bK aa rfl rfl rfl rfl rfl hy0 hp) ?_;refine z14 ?_
    exact an (j+1) [(64,some _)] ⟨hjt,hja⟩ (by omega) (lg zf ⟨zR,trivial⟩)
  ·have d2:decide ((j:Int)<(k:Int))=false:=dF (by omega)
   rw[List.drop_eq_nil_of_le (by omega),List.any_nil]at hja
   rw[if_neg (by rw[←hja]; decide)]at hg
   refine z16 ?_
   refine wc_inv (fun q:RS=>⟨[(10,.int .i64 i),(9,.int .i64 k),(8,.ptr 64 []),(7,.d (bS l)),(2,.d (fg order)),(1,.int .i64 n)],[(64,some (fR q))],72,Try.f31.ntmps,64⟩) (fun q=>RSOk n q∧aP o.era q=aP o.era s) (fun q=>(o.era-q.era).toNat) s [(64,some _)] ⟨hs,rfl⟩
    (lg zg ⟨zR,trivial⟩) ?_
   rintro q ⟨hq,hqe⟩
   refine bt ?_
   by_cases hqt:q.era<o.era
   ·have d3:decide (q.era<o.era)=true:=dT hqt
    have hq0:=hq.e0
    have hcr:=fe q (by rw[hq.dl]; omega) (aH (by omega) (by omega))
    have hnx:aP o.era (aI q)=aP o.era s:=by
     rw[←hqe]
     unfold aP
     rw[if_pos hqt]
     by_cases hc:(aI q).era<o.era
     ·rw[if_pos hc]; rfl
     ·rw[if_neg hc]
      have:q.era+1=o.era:=by have:¬q.era+1<o.era:=hc; omega
      rw[aI,this]
    refine z4 ?_;refine dQ [72] [64] iB ?_;refine z2 ?_;refine yA (bK aa rfl rfl rfl rfl rfl hi0 ho) ?_;refine z15 ?_
    exact an (aI q) [(64,some _)] ⟨hq.crash (by omega),hnx⟩ (by show (o.era-(q.era+1)).toNat<(o.era-q.era).toNat; omega) (lg zg ⟨zR,trivial⟩)
   ·have d3:decide (q.era<o.era)=false:=dF hqt
    have hqq:aP o.era s=q:=by rw[←hqe,aP,if_neg hqt]
    rw[hqq]at hg
    obtain⟨hho,hso⟩:=hq.hap (by omega) h4
    have hhp:=gz q o hho
    obtain⟨⟨u,f⟩,hu⟩:∃r,hapR q o=r:=⟨_,rfl⟩
    rw[hu]at hhp hg hso
    cases f with
    | false =>
     rw[if_pos rfl]at hg
     rw[fin 15 (by decide) hg.symm]
     refine z4 ?_;refine dQ [72] [64] iB ?_;refine z2 ?_;refine yA (bK aa rfl rfl rfl rfl rfl hi0 ho) ?_;refine z13 ?_;refine dQ [8] [64] iM ?_;refine z2 ?_;refine yA (bK aa rfl rfl rfl rfl rfl hi0 ho) ?_;refine z5 ?_;refine c9 [] [] rfl (bD aa (fun K hk=>hk)) ?_;refine bj [12,89] [208] (aG aa rfl rfl rfl ⟨_,⟨rfl,rfl,rfl⟩,rfl⟩ rfl) ?_;refine z23 ?_
     exact⟨trivial,[],lf⟩
    | true =>
     rw[if_neg (by show ¬(true=false); decide)]at hg
     refine z4 ?_;refine dQ [72] [64] iB ?_;refine z2 ?_;refine yA (bK aa rfl rfl rfl rfl rfl hi0 ho) ?_;refine z13 ?_;refine dQ [8] [64] iM ?_;refine z2 ?_;refine yA (bK aa rfl rfl rfl rfl rfl hi0 ho) ?_;refine z5 ?_;refine c9 [] [] rfl (bD aa (fun K hk=>hk)) ?_;refine bj [12,89] [208] (aG aa rfl rfl rfl ⟨_,⟨rfl,rfl,rfl⟩,rfl⟩ rfl) ?_;refine z24 ?_
     exact an (k+1,u) [(64,some _)] ⟨hlt,hso,fun y hy=>(by
      rw[htk]at hy
      rcases List.mem_append.1 hy with hy | hy
      ·exact hr y hy
      ·obtain rfl:=List.mem_singleton.1 hy
       exact⟨hi0,by omega⟩),by simp only[htk]; exact hg⟩ (by simp only; omega) (lg zh ⟨zR,trivial⟩)
 ·have d1:decide ((k:Int)<(order.length:Int))=false:=dF (by omega)
  rw[List.drop_eq_nil_of_le (by omega),dS]at hg
  refine z22 ?_
  refine wc_inv (fun j:Nat=>⟨[(14,.int .i64 j),(7,.d (bS l)),(2,.d (fg order))],[],72,Try.f31.ntmps,64⟩) (fun j=>j≤l.length∧eI order (l.drop j) j=eI order l 0) (fun j=>l.length-j) 0 [] ⟨Nat.zero_le _,rfl⟩
   (lg zj trivial) ?_
  rintro j ⟨hj,hjm⟩
  refine bt ?_
  by_cases hjt:j<l.length
  ·have d2:decide ((j:Int)<(l.length:Int))=true:=dT (by omega)
   obtain⟨o,ho⟩:∃o,l[j]?=some o:=⟨_,List.getElem?_eq_getElem hjt⟩
   have ho2:l[((j:Int)).toNat]?=some o:=by rw[Int.toNat_natCast]; exact ho
   rw[xo ho]at hjm
   have hmu:=lS o
   have hhs:=lT order (j:Int) (by omega)
   cases hm:bf o with
   | false =>
    rw[hm]at hmu hjm
    rw[Bool.false_and,Bool.false_or]at hjm
    refine z39 ?_
    exact an (j+1) [] ⟨hjt,hjm⟩ (by omega) (lg zj trivial)
   | true =>
    rw[hm]at hmu hjm
    cases ha:order.any (fun y=>decide (y=(j:Int))) with
    | true =>
     rw[ha]at hhs hjm
     refine z43 ?_
     exact an (j+1) [] ⟨hjt,hjm⟩ (by omega) (lg zj trivial)
    | false =>
     rw[ha]at hhs hjm
     rw[fin0 true hg.symm hjm.symm]
     refine z46 ?_
     exact⟨trivial,[],lf⟩
  ·have d2:decide ((j:Int)<(l.length:Int))=false:=dF (by omega)
   rw[List.drop_eq_nil_of_le (by omega),eI]at hjm
   rw[fin0 false hg.symm hjm.symm]
   refine z21 ?_
   exact⟨trivial,[],lf⟩
end Go.Proofs.Ytmdgmolbamlicaa
namespace Go.Proofs.Ytmdgmolbamlicaa
open Go.Eng Go.Plain
set_option maxHeartbeats 32000000
set_option maxRecDepth 20000
theorem kq (h:List HEv):∀(n i:Nat) (out:List HOp) (era:Int),0≤era→(∀o∈out,0≤o.era∧o.era≤era)→∀o∈eS h n i out era,0≤o.era∧o.era≤era+n
 | 0,_,out,era,h0,ho,o,hm=>by
  rw[eS]at hm
  have:=ho o hm
  omega
 | n+1,i,out,era,h0,ho,o,hm=>by
  rw[eS]at hm
  split at hm
  ·have:=ho o hm; omega
  ·rename_i x _
   split at hm
   ·have:=kq h n (i+1) out (era+1) (by omega) (fun y hy=>by have:=ho y hy; omega) o hm
    omega
   ·split at hm
    ·have:=kq h n (i+1) (out++[mkOp h i x out era]) era h0 (fun y hy=>by
      rcases List.mem_append.1 hy with hy | hy
      ·exact ho y hy
      ·rw[List.mem_singleton.1 hy]
       have:(mkOp h i x out era).era=era:=by
        unfold mkOp co bF
        split <;> rfl
       omega) o hm
     omega
    ·have:=kq h n (i+1) out era h0 ho o hm
     omega
theorem s4 (h:List HEv):∀o∈opsR h,0≤o.era∧o.era≤h.length:=by
 intro o ho
 have:=kq h h.length 0 [] 0 (Int.le_refl _) (fun _ hy=>by cases hy) o ho
 omega
structure ARel (n:Nat) (l:List HOp) (tk:List Bool) (ah:List HOp) (a d:VMap) (pre:List Int) (s:RS):Prop where
 tkl:tk.length=l.length
 tki:∀j,j<l.length→tk[j]?=some (pre.any fun y=>decide (y=(j:Int)))
 any:∀o,ah.any (befB o)=pre.any (befA l o)
 late:∀o,gh ah o=decide (s.era<o.era)
 ord:∀o:HOp,0≤o.era→ah.any (befB o)=false→s.era≤o.era
 av:∀j:Int,0≤j→j<n→getV a j=pgAt s.arr j
 dv:∀j:Int,0≤j→j<n→getV d j=pgAt s.dur j
 ok:RSOk n s
theorem eM (n:Nat) (j:Int):pgAt (List.replicate n zBk) j=zBk:=by
 unfold pgAt
 rw[List.getElem?_replicate]
 split <;> rfl
theorem ARel.first (n:Nat) (l:List HOp):ARel n l (List.replicate l.length false) [] [] [] [] (am n):=
 ⟨List.length_replicate,fun j hj=>by rw[List.getElem?_replicate,if_pos hj]; rfl,fun _=>rfl,fun _=>rfl,fun o h0 _=>h0,fun j _ _=>(eM n j).symm,fun j _ _=>(eM n j).symm,.first n⟩
theorem tN {n:Nat} {l:List HOp} {tk:List Bool} {ah:List HOp} {a d:VMap} {pre:List Int} {s:RS} (R:ARel n l tk ah a d pre s) (o:HOp) :
  (∀j:Int,0≤j→j<n→getV (if gh ah o=true then d else a) j=pgAt (aP o.era s).arr j)∧(∀j:Int,0≤j→j<n→getV d j=pgAt (aP o.era s).dur j):=by
 rw[R.late,aP]
 by_cases h:s.era<o.era
 ·rw[if_pos (dT h),if_pos h]
  exact⟨R.dv,R.dv⟩
 ·rw[if_neg (by rw[dF h]; decide),if_neg h]
  exact⟨R.av,R.dv⟩
theorem B8 {n:Nat} {a d:VMap} {s:RS} {o:HOp} (ha:∀j:Int,0≤j→j<n→getV a j=pgAt s.arr j) (hd:∀j:Int,0≤j→j<n→getV d j=pgAt s.dur j) (hl:s.arr.length=n) (hm:mayB o n=true) :
  (hapV a d o).1=(hapR s o).2∧(∀j:Int,0≤j→j<n→getV (hapV a d o).2.1 j=pgAt (hapR s o).1.arr j)∧(∀j:Int,0≤j→j<n→getV (hapV a d o).2.2 j=pgAt (hapR s o).1.dur j)∧(hapR s o).1.era=s.era:=by
 obtain⟨m1,m2,m3⟩:=wl hm
 unfold hapV hapR
 by_cases k1:o.op.kind=1
 ·rw[if_pos k1,if_pos k1]
  obtain⟨i0,i1⟩:=m2 (.inl k1)
  exact⟨by simp only; rw[ha _ i0 i1],ha,hd,rfl⟩
 ·rw[if_neg k1,if_neg k1]
  by_cases k2:o.op.kind=2
  ·rw[if_pos k2,if_pos k2]
   obtain⟨i0,i1⟩:=m2 (.inr k2)
   refine⟨rfl,fun j j0 j1=>?_,hd,rfl⟩
   simp only
   rw[AL,pgAt]
   by_cases e:j=o.op.index
   ·subst e
    rw[if_pos rfl,List.getElem?_set_self (by omega)]
    rfl
   ·rw[if_neg e,List.getElem?_set_ne (by omega)]
    exact ha j j0 j1
  ·rw[if_neg k2,if_neg k2]
   exact⟨rfl,ha,ha,rfl⟩
theorem ARel.step {n:Nat} {l:List HOp} {tk:List Bool} {ah:List HOp} {a d:VMap} {pre:List Int} {s:RS} (R:ARel n l tk ah a d pre s) {i:Int} {o:HOp} (hE:0≤o.era) (hE1:o.era≤1000000) (hn:n≤1048576) (h0:0≤i) (ho:l[i.toNat]?=some o) (hm:mayB o n=true) (hb:pre.any (befA l o)=false) :
  (hapV (if gh ah o=true then d else a) d o).1=(hapR (aP o.era s) o).2∧ARel n l (tk.set i.toNat true) (ah++[o]) (hapV (if gh ah o=true then d else a) d o).2.1 (hapV (if gh ah o=true then d else a) d o).2.2 (pre++[i]) (hapR (aP o.era s) o).1:=by
 obtain⟨c1,c2⟩:=tN R o
 have K:=R.ok.to hE1
 obtain⟨e1,e2,e3,e4⟩:=B8 c1 c2 K.al hm
 have hlt:=(List.getElem?_eq_some_iff.1 ho).1
 have hso:s.era≤o.era:=R.ord o hE (by rw[R.any]; exact hb)
 have hse:(hapR (aP o.era s) o).1.era=o.era:=by
  rw[e4,aP]
  by_cases h:s.era<o.era
  ·rw[if_pos h]
  ·rw[if_neg h]; omega
 refine⟨e1,⟨by rw[List.length_set]; exact R.tkl,fun j hj=>?_,fun x=>?_,fun x=>?_,fun x x0 hx=>?_,e2,e3,(K.hap hn hm).2⟩⟩
 ·rw[List.any_append,List.any_cons,List.any_nil,Bool.or_false]
  by_cases e:j=i.toNat
  ·subst e
   have:decide (i=((i.toNat:Nat):Int))=true:=dT (by omega)
   rw[List.getElem?_set_self (by rw[R.tkl]; exact hlt),this,Bool.or_true]
  ·have:decide (i=(j:Int))=false:=dF (by omega)
   rw[List.getElem?_set_ne (fun x=>e x.symm),R.tki j hj,this,Bool.or_false]
 ·rw[List.any_append,List.any_append,R.any x]
  congr 1
  simp only[List.any_cons,List.any_nil,befA,ho]
 ·rw[hse,gh,List.getLast?_concat]
 ·rw[hse]
  rw[List.any_append,Bool.or_eq_false_iff]at hx
  have h2:=hx.2
  simp only[List.any_cons,List.any_nil,Bool.or_false]at h2
  unfold befB at h2
  split at h2
  ·omega
  ·have:=of_decide_eq_false h2
   omega
theorem wW {n:Nat} {l:List HOp} (hn:n≤1048576) (hE:∀o∈l,0≤o.era∧o.era≤1000000):∀(order:List Int) (tk:List Bool) (ah:List HOp) (a d:VMap) (pre:List Int) (s:RS),ARel n l tk ah a d pre s →
  (accL n l order tk ah a d).1=dS n l order pre s∧((accL n l order tk ah a d).1=0→(accL n l order tk ah a d).2.length=l.length∧∀j,j<l.length→(accL n l order tk ah a d).2[j]?=some ((pre++order).any fun y=>decide (y=(j:Int))))
 | [],tk,ah,a,d,pre,s,R=>by
  rw[accL,dS]
  exact⟨rfl,fun _=>⟨R.tkl,fun j hj=>by rw[List.append_nil]; exact R.tki j hj⟩⟩
 | i::os,tk,ah,a,d,pre,s,R=>by
  rw[accL,dS]
  by_cases h0:i<0
  ·rw[if_pos h0,if_pos h0]
   exact⟨rfl,fun h=>by cases h⟩
  rw[if_neg h0,if_neg h0]
  cases ho:l[i.toNat]? with
  | none=>exact⟨rfl,fun h=>by cases h⟩
  | some o =>
  simp only
  have hlt:=(List.getElem?_eq_some_iff.1 ho).1
  have hii:((i.toNat:Nat):Int)=i:=by omega
  have ht:tk[i.toNat]?=some (pre.any fun y=>decide (y=i)):=by
   have:=R.tki i.toNat hlt
   rw[hii]at this
   exact this
  rw[ht]
  by_cases h1:(pre.any fun y=>decide (y=i))=true
  ·rw[if_pos (by rw[h1]),if_pos h1]
   exact⟨rfl,fun h=>by cases h⟩
  rw[if_neg (fun h=>h1 (Option.some.inj h)),if_neg h1]
  by_cases h2:mayB o n=false
  ·rw[if_pos h2,if_pos h2]
   exact⟨rfl,fun h=>by cases h⟩
  rw[if_neg h2,if_neg h2,R.any o]
  by_cases h3:pre.any (befA l o)=true
  ·rw[if_pos h3,if_pos h3]
   exact⟨rfl,fun h=>by cases h⟩
  rw[if_neg h3,if_neg h3]
  obtain⟨e0,e1⟩:=hE o (List.mem_of_getElem? ho)
  obtain⟨f1,f2⟩:=R.step e0 e1 hn (by omega) ho (by simpa using h2) (by simpa using h3)
  rw[f1]
  by_cases h4:(hapR (aP o.era s) o).2=false
  ·rw[if_pos h4,if_pos h4]
   exact⟨rfl,fun h=>by cases h⟩
  rw[if_neg h4,if_neg h4]
  have:=wW hn hE os _ _ _ _ _ _ f2
  rw[List.append_assoc]at this
  exact this
theorem wk (ord:List Int):∀(l:List HOp) (tk:List Bool) (k:Nat),tk.length=l.length→(∀j,j<l.length→tk[j]?=some (ord.any fun y=>decide (y=((k+j:Nat):Int))))→misB l tk=eI ord l k
 | [],tk,k,_,_=>by rw[s8,eI]
 | o::l,[],k,h,_=>by cases h
 | o::l,t::tk,k,h,hj=>by
  have h0:=hj 0 (Nat.zero_lt_succ _)
  rw[List.getElem?_cons_zero,Nat.add_zero]at h0
  rw[misB,eI,Option.some.inj h0,wk ord l tk (k+1) (by simpa using h) (fun j hl=>by
   have:=hj (j+1) (Nat.succ_lt_succ hl)
   rw[List.getElem?_cons_succ,show k+(j+1)=k+1+j by omega]at this
   exact this)]
theorem nG {n:Nat} {l:List HOp} (hn:n≤1048576) (hE:∀o∈l,0≤o.era∧o.era≤1000000) (order:List Int):_root_.Go.Proofs.Ytmdgmolbamlicaa.accS n l order=fp n n l order:=by
 obtain⟨h1,h2⟩:=wW hn hE order _ _ _ _ _ _ (ARel.first n l)
 unfold _root_.Go.Proofs.Ytmdgmolbamlicaa.accS fp
 rw[←h1]
 by_cases h:(accL n l order (List.replicate l.length false) [] [] []).1=0
 ·rw[if_pos h,if_pos h]
  obtain⟨e1,e2⟩:=h2 h
  rw[wk order l _ 0 e1 (fun j hj=>by rw[Nat.zero_add]; exact e2 j hj)]
 ·rw[if_neg h,if_neg h]
end Go.Proofs.Ytmdgmolbamlicaa
namespace Go.Proofs.Ytmdgmolbamlicaa
open Go.Eng Go.Plain
set_option maxHeartbeats 32000000
set_option maxRecDepth 20000
attribute [local irreducible] WC RegS RegD SeqQ BlkQ ScoQ RegK CutK Sat SatN FnIs LoopQ ab OpIs
theorem n6 (x:List XE):FnIs Try.prog 24 [.d (j5 x)] [] (.d (encH (hOf x))) []:=(wv x).freeze_out 64 _ rfl (Frz.own rfl) trivial
theorem rF (x:List XE) {b:Int} (h0:1≤b) (h1:b≤4096):opE (hOf x) b=0:=by
 rw[opE,n7,if_pos rfl,if_neg (by omega)]
theorem oZ (x:List XE):opsH (hOf x)=opsR (hOf x):=by
 rw[opsH,n7,if_pos rfl,jV (by rw[n7])]
theorem rM (x:List XE) (order:List Int) (n:UInt8):FnIs Try.prog 16 [.d (j5 x),.d (fg order),.int .u8 (n.toNat:Nat)] [] (.bool true) []:=by
 refine aq aa Try.func16 rfl rfl rfl ?_
 by_cases h20:20<order.length
 ·have d0:decide ((20:Int)<(order.length:Int))=true:=dT (by omega)
  refine z17 ?_;refine rQ (yK cZ) ?_;refine z5 ?_
  exact⟨trivial,[],lf⟩
 have d0:decide ((20:Int)<(order.length:Int))=false:=dF (by omega)
 have hm4:n.toNat % 4<4:=Nat.mod_lt _ (by decide)
 have hwc:IntKind.i64.wrap ((n.toNat % 4:Nat):Int)=((n.toNat % 4:Nat):Int):=aH (by omega) (by omega)
 have hwa:IntKind.i64.wrap (1+((n.toNat % 4:Nat):Int))=((1+n.toNat % 4:Nat):Int):=by rw[aH (by omega) (by omega)]; omega
 have hof:=n6 x
 have hl:=kD x
 have hol:=ft (hOf x)
 have hE:∀o∈opsR (hOf x),0≤o.era∧o.era≤1000000:=fun o ho=>by have:=s4 _ o ho; omega
 have hac:=nh (hOf x) ((1+n.toNat % 4:Nat):Int) order (by omega) (by have:=dM (hOf x); omega) (by omega)
 rw[if_pos (rF x (by omega) (by omega)),oZ,nG (by omega) hE order]at hac
 have hra:=oP (hOf x) (1+n.toNat % 4) order (opsR (hOf x)) (lQ _ (by omega)) (by omega) (by omega) (by omega) hE
 generalize fp ((1+n.toNat % 4:Nat):Int) (1+n.toNat % 4) (opsR (hOf x)) order=V at hac hra
 have hV:decide (V=V)=true:=dT rfl
 generalize hOf x=h at hof hac hra
 refine z22 ?_;refine rQ (aZ (a:=n.toNat) (b:=4) aa rfl rfl rfl (by decide)) ?_;refine rQ (aR (m:=((n.toNat % 4:Nat):Int)) aa rfl rfl rfl hwc) ?_;refine rQ (bM (m:=((1+n.toNat % 4:Nat):Int)) aa rfl rfl hwa) ?_;refine z17 ?_;refine rQ (yK cZ) ?_;refine z5 ?_
 exact⟨trivial,[],lf⟩
def cf:List Int→Int→List Int
 | [],n=>[n]
 | a::l,n=>if n<a then n::a::l else a::cf l n
def sv (d:Bool) (l:List Int) (n:Int):List Int:=if d then l else cf l n
abbrev b01 (d:Bool):AV :=.int .i64 (if d then 1 else 0)
theorem mH (n:Int):∀l:List Int,(cf l n).length=l.length+1
 | []=>rfl
 | a::l=>by
  rw[cf]
  split
  ·rfl
  ·rw[List.length_cons,mH n l,List.length_cons]
theorem tY {P:Program} {T:Tab} {env:Env} {h:Upds} {n:Nat} (hT:aj P T) {t e r r2 m:Nat} {re:TyR} {s:Nat} {ex ex2:Bool} {cap2:Option Nat} {α:Type} {enc:α→D} {xs:List α} {x y:Operand} {d:D} (el:α) (ht:bh T t=some (.slice e)) (he:lk T e=some re) (hs:Nat.beq re.size s=true) (hs0:Nat.blt 0 s=true)
  (hx:ai env x=some (.own r 0 m s none)) (hrow:aQ h r=some (.ds e s ex enc xs)) (hy:ai env y=some (.own r2 0 1 s cap2)) (hrow2:aQ h r2=some (.lits e s 1 ex2 (.acons (.d d) .anil))) (hd:d=enc el)
  (hlen:xs.length+1≤1048576) (hbytes:Nat.ble re.bytes 134217728=true) (hm:m=xs.length) :
  ab P (.call { callee :=.builtin .append,args := #[x,y],argTypes := #[t,t] }) env h n (some (.own n 0 (m+1) s none)) [(n,some (.ds e s false enc (xs++[el]))),(r,none)]:=by
 subst hm
 exact aJ hT el ht he hs hs0 hx hrow hy hrow2 hd hlen hbytes
theorem ownl {r m k s:Nat} {c:Option Nat} (h:m=k):AVLe (.own r 0 m s c) (.own r 0 k s c):=AVLe.of_eq (by rw[h])
theorem ym (l:List Int) (n:Int) (hl:l.length≤1000000):FnIs Try.prog 76 [.d (fg l),.int .i64 n] [] (.own 64 0 (cf l n).length 1 none) [(64,zRow (cf l n))]:=by
 refine aq aa Try.func76 rfl rfl rfl ?_;refine z22 ?_
 refine wc_inv (fun q:Nat×List Int×Bool=>⟨[(7,.int .i64 q.1),(6,b01 q.2.2),(5,.own 65 0 q.2.1.length 1 none),(1,.int .i64 n),(0,.d (fg l))],[(65,some (zRow q.2.1))],72,Try.f76.ntmps,64⟩) (fun q=>q.1≤l.length∧(q.2.2=false→q.2.1.length≤q.1)∧q.2.1.length≤q.1+1∧q.2.1++sv q.2.2 (l.drop q.1) n=cf l n) (fun q=>l.length-q.1) (0,[],false) [(65,none)] ⟨Nat.zero_le _,fun _=>Nat.zero_le _,Nat.zero_le _,rfl⟩
  (lg zh ⟨⟨rfl,rfl,rfl⟩,trivial⟩) ?_
 rintro⟨k,out,d⟩ ⟨hk,ho0,ho,hg⟩
 simp only at hk ho0 ho hg
 have hol:out.length+1≤1048576:=by omega
 have hol2:(out++[n]).length+1≤1048576:=by rw[List.length_append]; simp only[List.length_cons,List.length_nil]; omega
 have hl1:out.length+1=(out++[n]).length:=by simp
 refine bt ?_
 by_cases hlt:k<l.length
 ·have d1:decide ((k:Int)<(l.length:Int))=true:=dT (by omega)
  obtain⟨a,hx⟩:∃x,l[k]?=some x:=⟨_,List.getElem?_eq_getElem hlt⟩
  have hx2:l[((k:Int)).toNat]?=some a:=by rw[Int.toNat_natCast]; exact hx
  rw[List.drop_eq_getElem_cons hlt,(List.getElem?_eq_some_iff.1 hx).2]at hg
  cases d with
  | true =>
   have d0:decide ((1:Int)=0)=false:=rfl
   refine z38 ?_;refine aO (ae (s:=1) aa rfl rfl rfl rfl rfl rfl rfl rfl) rfl ?_;refine aC (aJ (enc:=i6) (s:=1) (xs:=out) aa a rfl rfl rfl rfl rfl rfl rfl rfl rfl hol rfl) rfl ?_;refine z9 ?_
   exact an (k+1,out++[a],true) [(65,some _)] ⟨hlt,fun h=>(by cases h),by simp only[List.length_append,List.length_cons,List.length_nil]; omega,by simp only; rw[←hg]; simp[sv]⟩ (by show l.length-(k+1)<l.length-k; omega) (lg ⟨zE,rfl,zE,rfl,⟨_,rfl,ownl (by simp)⟩,rfl,zE,rfl,zE,rfl,trivial⟩ ⟨zR,trivial⟩)
  | false =>
   have d0:decide ((0:Int)=0)=true:=rfl
   by_cases h2:n<a
   ·have d2:decide (n<a)=true:=dT h2
    refine z40 ?_;refine aO (ae (s:=1) aa rfl rfl rfl rfl rfl rfl rfl rfl) rfl ?_;refine aC (aJ (enc:=i6) (s:=1) (xs:=out) aa n rfl rfl rfl rfl rfl rfl rfl rfl rfl hol rfl) rfl ?_;refine z13 ?_;refine aO (ae (s:=1) aa rfl rfl rfl rfl rfl rfl rfl rfl) rfl ?_;refine aC (tY (enc:=i6) (s:=1) (xs:=out++[n]) aa a rfl rfl rfl rfl rfl rfl rfl rfl rfl hol2 rfl hl1) rfl ?_;refine z9 ?_
    exact an (k+1,out++[n]++[a],true) [(65,some _)] ⟨hlt,fun h=>(by cases h),by have:=ho0 rfl; simp only[List.length_append,List.length_cons,List.length_nil]; omega,by simp only; rw[←hg]; simp[sv,cf,h2]⟩ (by show l.length-(k+1)<l.length-k; omega) (lg ⟨zE,rfl,zE,rfl,⟨_,rfl,ownl (by simp)⟩,rfl,zE,rfl,zE,rfl,trivial⟩ ⟨zR,trivial⟩)
   ·have d2:decide (n<a)=false:=dF h2
    refine z44 ?_;refine aO (ae (s:=1) aa rfl rfl rfl rfl rfl rfl rfl rfl) rfl ?_;refine aC (aJ (enc:=i6) (s:=1) (xs:=out) aa a rfl rfl rfl rfl rfl rfl rfl rfl rfl hol rfl) rfl ?_;refine z9 ?_
    exact an (k+1,out++[a],false) [(65,some _)] ⟨hlt,fun _=>(by have:=ho0 rfl; simp only[List.length_append,List.length_cons,List.length_nil]; omega),by simp only[List.length_append,List.length_cons,List.length_nil]; omega,by simp only; rw[←hg]; simp[sv,cf,h2]⟩ (by show l.length-(k+1)<l.length-k; omega) (lg ⟨zE,rfl,zE,rfl,⟨_,rfl,ownl (by simp)⟩,rfl,zE,rfl,zE,rfl,trivial⟩ ⟨zR,trivial⟩)
 ·have d1:decide ((k:Int)<(l.length:Int))=false:=dF (by omega)
  rw[List.drop_eq_nil_of_le (by omega)]at hg
  cases d with
  | true =>
   have d0:decide ((1:Int)=0)=false:=rfl
   rw[sv,if_pos rfl,List.append_nil]at hg
   subst hg
   refine z32 ?_
   exact⟨trivial,[(64,some 65)],lg zV ⟨zR,trivial⟩⟩
  | false =>
   have d0:decide ((0:Int)=0)=true:=rfl
   have hg2:out++[n]=cf l n:=hg
   rw[←hg2]
   refine z26 ?_;refine aO (ae (s:=1) aa rfl rfl rfl rfl rfl rfl rfl rfl) rfl ?_;refine aC (aJ (enc:=i6) (s:=1) (xs:=out) aa n rfl rfl rfl rfl rfl rfl rfl rfl rfl hol rfl) rfl ?_;refine z10 ?_
   exact⟨trivial,[(64,some _)],lg ⟨⟨_,rfl,ownl (by simp)⟩,rfl,trivial⟩ ⟨zR,trivial⟩⟩
theorem Bq (l:List Int) (n:Int) (hl:l.length≤1000000):FnIs Try.prog 76 [.d (fg l),.int .i64 n] [] (.d (fg (cf l n))) []:=(ym l n hl).freeze_out 64 _ rfl (Frz.own rfl) trivial
theorem sN (h:List HEv) (hh:h.length≤1000000):FnIs Try.prog 60 [.d (encH h)] [] (.int .i64 (ao h)) []:=by
 refine aq aa Try.func60 rfl rfl rfl ?_;refine z17 ?_
 refine wc_inv (fun k:Nat=>⟨[(4,.int .i64 k),(3,.int .i64 ((1+(h.take k).countP (fun x=>decide (x.kind=3)):Nat):Int)),(0,.d (encH h))],[],72,Try.f60.ntmps,64⟩) (fun k=>k≤h.length) (fun k=>h.length-k) 0 [] (Nat.zero_le _)
  (lg zj trivial) ?_
 intro k hk
 refine bt ?_
 by_cases hlt:k<h.length
 ·have d1:decide ((k:Int)<(h.length:Int))=true:=dT (by omega)
  obtain⟨x,hx⟩:∃x,h[k]?=some x:=⟨_,List.getElem?_eq_getElem hlt⟩
  have hx2:h[((k:Int)).toNat]?=some x:=by rw[Int.toNat_natCast]; exact hx
  have hc:(h.take (k+1)).countP (fun x=>decide (x.kind=3))=(h.take k).countP (fun x=>decide (x.kind=3))+if decide (x.kind=3)=true then 1 else 0:=by
   rw[List.take_add_one,hx,Option.toList_some,List.countP_append,List.countP_cons,List.countP_nil,Nat.zero_add]
  have hcl:(h.take k).countP (fun x=>decide (x.kind=3))≤k:=Nat.le_trans List.countP_le_length (by rw[List.length_take]; omega)
  cases h2:decide (x.kind=3) with
  | true =>
   rw[h2,if_pos rfl]at hc
   refine z27 ?_;refine rQ (bM (m:=((1+(h.take k).countP (fun x=>decide (x.kind=3))+1:Nat):Int)) aa rfl rfl (by rw[aH (by omega) (by omega)]; omega)) ?_;refine z9 ?_
   exact an (k+1) [] hlt (by omega) (lg ⟨zE,rfl,⟨_,rfl,AVLe.of_eq (by rw[hc]; rfl)⟩,rfl,zE,rfl,trivial⟩ trivial)
  | false =>
   rw[h2,if_neg (by decide),Nat.add_zero]at hc
   refine z33 ?_
   exact an (k+1) [] hlt (by omega) (lg ⟨zE,rfl,⟨_,rfl,AVLe.of_eq (by rw[hc]; rfl)⟩,rfl,zE,rfl,trivial⟩ trivial)
 ·have d1:decide ((k:Int)<(h.length:Int))=false:=dF (by omega)
  obtain rfl:k=h.length:=by omega
  rw[List.take_length]
  refine z22 ?_
  exact⟨trivial,[],lf⟩
def bp (s:RS):List HOp→Nat→Bool
 | [],_=>true
 | o::l,k => !(decide (o.era=s.era)&&(bf o && !s.taken.any (fun y=>decide (y=(k:Int)))))&&bp s l (k+1)
theorem uJ {s:RS} {l:List HOp} {k:Nat} {o:HOp} (h:l[k]?=some o):bp s (l.drop k) k=(!(decide (o.era=s.era)&&(bf o && !s.taken.any (fun y=>decide (y=(k:Int)))))&&bp s (l.drop (k+1)) (k+1)):=by
 have hlt:=(List.getElem?_eq_some_iff.1 h).1
 rw[List.drop_eq_getElem_cons hlt,(List.getElem?_eq_some_iff.1 h).2,bp]
theorem oI (s:RS) (l:List HOp) (hs:s.taken.length≤1048576) (hl:l.length≤1048576):FnIs Try.prog 50 [.d (cP s),.d (bS l)] [] (r01d (bp s l 0)) []:=by
 refine aq aa Try.func50 rfl rfl rfl ?_;refine z13 ?_
 refine wc_inv (fun k:Nat=>⟨[(5,.int .i64 k),(2,.ptr 64 []),(1,.d (bS l))],[(64,some (fR s))],72,Try.f50.ntmps,64⟩) (fun k=>k≤l.length∧bp s (l.drop k) k=bp s l 0) (fun k=>l.length-k) 0 [(64,some 64)] ⟨Nat.zero_le _,rfl⟩
  (lg zj ⟨zR,trivial⟩) ?_
 rintro k ⟨hk,hd⟩
 refine bt ?_
 by_cases hlt:k<l.length
 ·have d1:decide ((k:Int)<(l.length:Int))=true:=dT (by omega)
  obtain⟨o,ho⟩:∃x,l[k]?=some x:=⟨_,List.getElem?_eq_getElem hlt⟩
  have ho2:l[((k:Int)).toNat]?=some o:=by rw[Int.toNat_natCast]; exact ho
  rw[uJ ho]at hd
  have hmu:=lS o
  have hhs:=lT s.taken (k:Int) hs
  refine z22 ?_;refine dQ [17] [64] iB ?_;refine z2 ?_
  cases h2:decide (o.era=s.era) with
  | false =>
   rw[h2,Bool.false_and,Bool.not_false,Bool.true_and]at hd
   refine z25 ?_
   exact an (k+1) [(64,some 64)] ⟨hlt,hd⟩ (by omega) (lg zj ⟨zR,trivial⟩)
  | true =>
  cases h3:bf o with
  | false =>
   rw[h2,h3,Bool.false_and,Bool.and_false,Bool.not_false,Bool.true_and]at hd
   rw[h3]at hmu
   refine z25 ?_
   exact an (k+1) [(64,some 64)] ⟨hlt,hd⟩ (by omega) (lg zj ⟨zR,trivial⟩)
  | true =>
  rw[h3]at hmu
  cases h4:s.taken.any (fun y=>decide (y=(k:Int))) with
  | true =>
   rw[h2,h3,h4,Bool.not_true,Bool.and_false,Bool.and_false,Bool.not_false,Bool.true_and]at hd
   rw[h4]at hhs
   refine z9 ?_;refine aD [28,29] [64] rfl rfl rfl rfl (ay aa rfl rfl ⟨_,rfl,rfl⟩ rfl) ?_;refine z15 ?_
   exact an (k+1) [(64,some 64)] ⟨hlt,hd⟩ (by omega) (lg zj ⟨zR,trivial⟩)
  | false =>
   rw[h2,h3,h4,Bool.not_false,Bool.and_true,Bool.and_true,Bool.not_true,Bool.false_and]at hd
   rw[h4]at hhs
   rw[←hd]
   refine z9 ?_;refine aD [28,29] [64] rfl rfl rfl rfl (ay aa rfl rfl ⟨_,rfl,rfl⟩ rfl) ?_;refine z18 ?_
   exact⟨trivial,[],lf⟩
 ·have d1:decide ((k:Int)<(l.length:Int))=false:=dF (by omega)
  rw[List.drop_eq_nil_of_le (by omega),bp]at hd
  rw[←hd]
  refine z21 ?_
  exact⟨trivial,[],lf⟩
def gy (a b:RS):Bool:=decide (a.era=b.era)&&(decide (a.taken=b.taken)&&(decide (a.arr=b.arr)&&decide (a.dur=b.dur)))
theorem rc {α:Type} {l m:List α} {k:Nat} {x y:α} (h1:l[k]?=some x) (h2:m[k]?=some y) (h:x≠y):l≠m:=fun e=>by
 subst e
 rw[h1]at h2
 exact h (Option.some.inj h2)
theorem rf {α:Type} {l m:List α} {k:Nat} {x y:α} (h1:l[k]?=some x) (h2:m[k]?=some y) (h:x=y) (ht:l.take k=m.take k):l.take (k+1)=m.take (k+1):=by
 rw[List.take_add_one,List.take_add_one,h1,h2,ht,h]
theorem nX {a b:RS} (h:a.taken≠b.taken∨a.arr≠b.arr∨a.dur≠b.dur):gy a b=false:=by
 unfold gy
 rcases h with h | h | h <;> rw[dF h] <;> simp
theorem yU (a b:RS) (n:Nat) (ha:a.arr.length=n) (hb:b.arr.length=n) (ha2:a.dur.length=n) (hb2:b.dur.length=n) (hn:n≤1048576) (ht:a.taken.length≤1048576) (ht2:b.taken.length≤1048576):FnIs Try.prog 80 [.d (cP a),.d (cP b)] [] (r01d (gy a b)) []:=by
 refine aq aa Try.func80 rfl rfl rfl ?_;refine z16 ?_
 cases h1:decide (a.era=b.era) with
 | false =>
  have hs:gy a b=false:=by rw[gy,h1]; rfl
  rw[hs]
  refine z18 ?_
  exact⟨trivial,[],lf⟩
 | true =>
 refine z17 ?_
 by_cases h2:a.taken.length=b.taken.length
 ·have d2:(!decide ((a.taken.length:Int)=(b.taken.length:Int)))=false:=by rw[dT (by omega)]; rfl
  refine z10 ?_
  refine wc_inv (fun k:Nat=>⟨[(5,.int .i64 k),(3,.ptr 65 []),(2,.ptr 64 [])],[(64,some (fR a)),(65,some (fR b))],72,Try.f80.ntmps,64⟩) (fun k=>k≤a.taken.length∧a.taken.take k=b.taken.take k) (fun k=>a.taken.length-k) 0 [(64,some 64),(65,some _)] ⟨Nat.zero_le _,rfl⟩
   (lg zj ⟨zR,zR,trivial⟩) ?_
  rintro k ⟨hk,he⟩
  refine bt ?_
  by_cases hlt:k<a.taken.length
  ·have d1:decide ((k:Int)<(a.taken.length:Int))=true:=dT (by omega)
   obtain⟨x,hx⟩:∃x,a.taken[k]?=some x:=⟨_,List.getElem?_eq_getElem hlt⟩
   obtain⟨y,hy⟩:∃x,b.taken[k]?=some x:=⟨_,List.getElem?_eq_getElem (by omega)⟩
   have hx2:a.taken[((k:Int)).toNat]?=some x:=by rw[Int.toNat_natCast]; exact hx
   have hy2:b.taken[((k:Int)).toNat]?=some y:=by rw[Int.toNat_natCast]; exact hy
   refine z18 ?_;refine dQ [28] [64] iB ?_;refine z4 ?_;refine dQ [33] [65] iB ?_;refine z6 ?_
   by_cases h3:x=y
   ·have d3:(!decide (x=y))=false:=by rw[dT h3]; rfl
    refine z9 ?_
    exact an (k+1) [(64,some 64),(65,some 65)] ⟨hlt,rf hx hy h3 he⟩ (by omega) (lg zj ⟨zR,zR,trivial⟩)
   ·have d3:(!decide (x=y))=true:=by rw[dF h3]; rfl
    rw[nX (.inl (rc hx hy h3))]
    refine z12 ?_
    exact⟨trivial,[],lf⟩
  ·have d1:decide ((k:Int)<(a.taken.length:Int))=false:=dF (by omega)
   obtain rfl:k=a.taken.length:=by omega
   rw[List.take_length,h2,List.take_length]at he
   refine z23 ?_
   refine wc_inv (fun k:Nat=>⟨[(6,.int .i64 k),(3,.ptr 65 []),(2,.ptr 64 [])],[(64,some (fR a)),(65,some (fR b))],72,Try.f80.ntmps,64⟩) (fun k=>k≤n∧a.arr.take k=b.arr.take k∧a.dur.take k=b.dur.take k) (fun k=>n-k) 0 [(64,some 64),(65,some 65)] ⟨Nat.zero_le _,rfl,rfl⟩
    (lg zj ⟨zR,zR,trivial⟩) ?_
   rintro k ⟨hk,e1,e2⟩
   refine bt ?_
   by_cases hlt:k<n
   ·have d1:decide ((k:Int)<(a.arr.length:Int))=true:=dT (by omega)
    obtain⟨x,hx⟩:∃x,a.arr[k]?=some x:=⟨_,List.getElem?_eq_getElem (by omega)⟩
    obtain⟨y,hy⟩:∃x,b.arr[k]?=some x:=⟨_,List.getElem?_eq_getElem (by omega)⟩
    obtain⟨u,hu⟩:∃x,a.dur[k]?=some x:=⟨_,List.getElem?_eq_getElem (by omega)⟩
    obtain⟨v,hv⟩:∃x,b.dur[k]?=some x:=⟨_,List.getElem?_eq_getElem (by omega)⟩
    have hx2:a.arr[((k:Int)).toNat]?=some x:=by rw[Int.toNat_natCast]; exact hx
    have hy2:b.arr[((k:Int)).toNat]?=some y:=by rw[Int.toNat_natCast]; exact hy
    have hu2:a.dur[((k:Int)).toNat]?=some u:=by rw[Int.toNat_natCast]; exact hu
    have hv2:b.dur[((k:Int)).toNat]?=some v:=by rw[Int.toNat_natCast]; exact hv
    refine z18 ?_;refine dQ [46] [64] iB ?_;refine z4 ?_;refine dQ [51] [65] iB ?_;refine z3 ?_;refine yA (l7 rfl rfl rfl rfl (by kernel_rfl) (by decide) (cJ x y)) ?_;refine z1 ?_
    by_cases h3:x=y
    ·have d3:(!decide (x=y))=false:=by rw[dT h3]; rfl
     refine z1 ?_;refine aD [57,58] [64] rfl rfl (by assumption) rfl (ay aa rfl rfl ⟨_,rfl,rfl⟩ rfl) ?_;refine z4 ?_;refine aD [57,63] [65] rfl rfl (by assumption) rfl (ay aa rfl rfl ⟨_,rfl,rfl⟩ rfl) ?_;refine z3 ?_;refine yO (l7 rfl rfl rfl rfl (by kernel_rfl) (by decide) (cJ u v)) ?_;refine z3 ?_
     by_cases h4:u=v
     ·have d4:(!decide (u=v))=false:=by rw[dT h4]; rfl
      refine z9 ?_
      exact an (k+1) [(64,some 64),(65,some 65)] ⟨hlt,rf hx hy h3 e1,rf hu hv h4 e2⟩ (by omega) (lg zj ⟨zR,zR,trivial⟩)
     ·have d4:(!decide (u=v))=true:=by rw[dF h4]; rfl
      rw[nX (.inr (.inr (rc hu hv h4)))]
      refine z12 ?_
      exact⟨trivial,[],lf⟩
    ·have d3:(!decide (x=y))=true:=by rw[dF h3]; rfl
     rw[nX (.inr (.inl (rc hx hy h3)))]
     refine z26 ?_
     exact⟨trivial,[],lf⟩
   ·have d1:decide ((k:Int)<(a.arr.length:Int))=false:=dF (by omega)
    have hs:gy a b=true:=by
     rw[List.take_of_length_le (by omega),List.take_of_length_le (by omega)]at e1 e2
     rw[gy,h1,dT he,dT e1,dT e2]; rfl
    rw[hs]
    refine z22 ?_
    exact⟨trivial,[],lf⟩
 ·have d2:(!decide ((a.taken.length:Int)=(b.taken.length:Int)))=true:=by rw[dF (by omega)]; rfl
  rw[nX (.inl fun e=>h2 (by rw[e]))]
  refine z8 ?_
  exact⟨trivial,[],lf⟩
def hitB (s:RS) (o:HOp) (k:Nat) (p:HOp):Bool:=if s.taken.any (fun y=>decide (y=(k:Int))) then befB o p else decide (p.era=s.era)&&(bf p&&befB p o)
def hitL (s:RS) (o:HOp):List HOp→Nat→Bool
 | [],_=>false
 | p::l,k=>hitB s o k p||hitL s o l (k+1)
theorem xR {s:RS} {o p:HOp} {l:List HOp} {k:Nat} (h:l[k]?=some p):hitL s o (l.drop k) k=(hitB s o k p||hitL s o (l.drop (k+1)) (k+1)):=by
 have hlt:=(List.getElem?_eq_some_iff.1 h).1
 rw[List.drop_eq_getElem_cons hlt,(List.getElem?_eq_some_iff.1 h).2,hitL]
def takB (s:RS) (l:List HOp) (i:Nat) (o:HOp):Bool:=decide (o.era=s.era)&&(mayB o s.arr.length&&(!s.taken.any (fun y=>decide (y=(i:Int))) && !hitL s o l 0))
def aL (s:RS) (l:List HOp) (i:Nat) (o:HOp):RS×Bool :=
 if takB s l i o then ({ (hapR s o).1 with taken:=cf s.taken i },(hapR s o).2) else (s,false)
abbrev zRS:D :=.cons (i6 0) (.cons (.sc nil_) (.cons (.sc nil_) (.cons (.sc nil_) .nil)))
theorem lP (s:RS) (l:List HOp) (i:Nat) (o:HOp) (n:Nat) (ho:l[i]?=some o) (hs:RSOk n s) (hn:n≤1000000) (hl:l.length≤1000000) (ht:s.taken.length≤1000000):FnIs Try.prog 51 [.d (cP s),.d (bS l),.int .i64 i] [] (hapE (aL s l i o)) []:=by
 have ho2:l[((i:Int)).toNat]?=some o:=by rw[Int.toNat_natCast]; exact ho
 have hma:=vU o s.arr.length
 have hhi:=lT s.taken (i:Int) (by omega)
 refine aq aa Try.func51 rfl rfl rfl ?_
 have no:takB s l i o=false→aL s l i o=(s,false):=fun h=>by rw[aL,h]; rfl
 refine z16 ?_;refine dQ [17] [64] iB ?_;refine z2 ?_
 cases h1:decide (o.era=s.era) with
 | false =>
  rw[no (by rw[takB,h1]; rfl)]
  refine z29 ?_
  exact⟨trivial,_,rfl,[],lf⟩
 | true =>
 cases h2:mayB o s.arr.length with
 | false =>
  rw[no (by rw[takB,h1,h2]; rfl)]
  rw[h2]at hma
  refine z5 ?_;refine aD [20,25] [64] rfl rfl rfl rfl (ay aa rfl rfl ⟨_,rfl,rfl⟩ rfl) ?_;refine z23 ?_
  exact⟨trivial,_,rfl,[],lf⟩
 | true =>
 rw[h2]at hma
 cases h3:s.taken.any (fun y=>decide (y=(i:Int))) with
 | true =>
  rw[no (by rw[takB,h1,h2,h3]; rfl)]
  rw[h3]at hhi
  refine z5 ?_;refine aD [20,25] [64] rfl rfl rfl rfl (ay aa rfl rfl ⟨_,rfl,rfl⟩ rfl) ?_;refine z6 ?_;refine aD [31,32] [64] rfl rfl rfl rfl (ay aa rfl rfl ⟨_,rfl,rfl⟩ rfl) ?_;refine z16 ?_
  exact⟨trivial,_,rfl,[],lf⟩
 | false =>
 rw[h3]at hhi
 refine z5 ?_;refine aD [20,25] [64] rfl rfl rfl rfl (ay aa rfl rfl ⟨_,rfl,rfl⟩ rfl) ?_;refine z6 ?_;refine aD [31,32] [64] rfl rfl rfl rfl (ay aa rfl rfl ⟨_,rfl,rfl⟩ rfl) ?_;refine z16 ?_
 refine wc_inv (fun k:Nat=>⟨[(8,.int .i64 k),(6,.ptr 65 []),(3,.ptr 64 []),(2,.int .i64 i),(1,.d (bS l))],[(64,some (fR s)),(65,some (.box 59 (.d zRS)))],72,Try.f51.ntmps,64⟩) (fun k=>k≤l.length∧hitL s o (l.drop k) k=hitL s o l 0) (fun k=>l.length-k) 0 [(64,some 64),(65,some _)] ⟨Nat.zero_le _,rfl⟩
  (lg zh ⟨zR,zR,trivial⟩) ?_
 rintro k ⟨hk,hd⟩
 refine bt ?_
 by_cases hlt:k<l.length
 ·have d1:decide ((k:Int)<(l.length:Int))=true:=dT (by omega)
  obtain⟨p,hp⟩:∃x,l[k]?=some x:=⟨_,List.getElem?_eq_getElem hlt⟩
  have hp2:l[((k:Int)).toNat]?=some p:=by rw[Int.toNat_natCast]; exact hp
  rw[xR hp]at hd
  have hit:hitB s o k p=true→takB s l i o=false:=fun e=>by
   rw[e,Bool.true_or]at hd
   rw[takB,←hd]; simp
  have hhk:=lT s.taken (k:Int) (by omega)
  have hb1:=ln o p
  have hb2:=ln p o
  have hmu:=lS p
  refine z29 ?_
  cases h4:s.taken.any (fun y=>decide (y=(k:Int))) with
  | true =>
   rw[h4]at hhk
   refine z13 ?_
   cases h5:befB o p with
   | true =>
    rw[h5]at hb1
    rw[no (hit (by rw[hitB,h4,if_pos rfl,h5]))]
    refine z15 ?_
    exact⟨trivial,_,rfl,[],lf⟩
   | false =>
    rw[h5]at hb1
    rw[hitB,h4,if_pos rfl,h5,Bool.false_or]at hd
    refine z48 ?_
    exact an (k+1) [(64,some 64),(65,some 65)] ⟨hlt,hd⟩ (by omega) (lg zh ⟨zR,zR,trivial⟩)
  | false =>
   rw[h4]at hhk
   refine z27 ?_;refine aD [66,72] [64] rfl rfl rfl rfl (ay aa rfl rfl ⟨_,rfl,rfl⟩ rfl) ?_;refine z3 ?_
   cases h5:decide (p.era=s.era) with
   | false =>
    rw[hitB,h4,if_neg (by decide),h5,Bool.false_and,Bool.false_or]at hd
    refine z30 ?_
    exact an (k+1) [(64,some 64),(65,some 65)] ⟨hlt,hd⟩ (by omega) (lg zh ⟨zR,zR,trivial⟩)
   | true =>
   cases h6:bf p with
   | false =>
    rw[h6]at hmu
    rw[hitB,h4,if_neg (by decide),h6,Bool.false_and,Bool.and_false,Bool.false_or]at hd
    refine z30 ?_
    exact an (k+1) [(64,some 64),(65,some 65)] ⟨hlt,hd⟩ (by omega) (lg zh ⟨zR,zR,trivial⟩)
   | true =>
   rw[h6]at hmu
   cases h7:befB p o with
   | false =>
    rw[h7]at hb2
    rw[hitB,h4,if_neg (by decide),h7,Bool.and_false,Bool.and_false,Bool.false_or]at hd
    refine z30 ?_
    exact an (k+1) [(64,some 64),(65,some 65)] ⟨hlt,hd⟩ (by omega) (lg zh ⟨zR,zR,trivial⟩)
   | true =>
    rw[h7]at hb2
    rw[no (hit (by rw[hitB,h4,if_neg (by decide),h5,h6,h7]; rfl))]
    refine z35 ?_
    exact⟨trivial,_,rfl,[],lf⟩
 ·have d1:decide ((k:Int)<(l.length:Int))=false:=dF (by omega)
  rw[List.drop_eq_nil_of_le (by omega),hitL]at hd
  have hy:aL s l i o=({ (hapR s o).1 with taken:=cf s.taken i },(hapR s o).2):=by rw[aL,takB,h1,h2,h3,←hd]; rfl
  rw[hy]
  have hha:=gz s o (hs.hap (by omega) (by rw[←hs.al]; exact h2)).1
  have hwi:=Bq s.taken (i:Int) ht
  generalize hapR s o=r at hha
  obtain⟨u,c⟩:=r
  refine z17 ?_;refine dQ [3] [64] iM ?_;refine z8 ?_;refine c9 [] [] rfl (bD aa (fun K hk=>hk)) ?_;refine bj [10,104] [176] (aG aa rfl rfl rfl ⟨_,⟨rfl,rfl,rfl⟩,rfl⟩ rfl) ?_;refine z10 ?_;refine rX ?_;refine z11 ?_
  exact⟨trivial,_,rfl,[],lf⟩
end Go.Proofs.Ytmdgmolbamlicaa
namespace Go.Proofs.Ytmdgmolbamlicaa
open Go.Eng Go.Plain
set_option maxHeartbeats 32000000
set_option maxRecDepth 20000
def rAdd (L:List RS) (t:RS):List RS:=if L.any (fun x=>gy x t) then L else L++[t]
def jG (s:RS) (l:List HOp) (i:Nat) (o:HOp) (L:List RS):List RS:=if (aL s l i o).2 then rAdd L (aL s l i o).1 else L
def ek (most:Nat) (l:List HOp) (s:RS):List HOp→Nat→List RS→List RS
 | [],_,L=>L
 | o::r,i,L=>if L.length≤most then ek most l s r (i+1) (jG s l i o L) else L
def rCra (l:List HOp) (e:Int) (s:RS) (L:List RS):List RS:=if decide (s.era<e-1)&&bp s l 0 then rAdd L (aI s) else L
def lY (most:Nat) (l:List HOp) (e:Int) (s:RS) (L:List RS):List RS:=rCra l e s (ek most l s l 0 L)
def rStG (most:Nat) (l:List HOp) (e:Int):Nat→Nat→List RS→List RS
 | 0,_,L=>L
 | n+1,at_,L=>match L[at_]? with
  | none=>L
  | some s=>if L.length≤most then rStG most l e n (at_+1) (lY most l e s L) else L
def cw (most:Nat) (l:List HOp) (n:Nat) (e:Int):List RS:=rStG most l e (most+2) 0 [am n]
theorem jQ (L:List RS) (t:RS):L.length≤(rAdd L t).length∧(rAdd L t).length≤L.length+1:=by
 unfold rAdd
 split <;> simp
theorem zL {L:List RS} {t s:RS} {j:Nat} (h:L[j]?=some s):(rAdd L t)[j]?=some s:=by
 unfold rAdd
 split
 ·exact h
 ·rw[List.getElem?_append_left (List.getElem?_eq_some_iff.1 h).1]; exact h
structure LOk (n:Nat) (L:List RS):Prop where
 ok:∀(j:Nat) (s:RS),L[j]?=some s→RSOk n s
 tk:∀(j:Nat) (s:RS),L[j]?=some s→s.taken.length≤j
theorem LOk.add {n:Nat} {L:List RS} {t:RS} (h:LOk n L) (ht:RSOk n t) (hl:t.taken.length≤L.length):LOk n (rAdd L t):=by
 unfold rAdd
 split
 ·exact h
 ·constructor
  ·intro j s hj
   rw[List.getElem?_append]at hj
   split at hj
   ·exact h.ok j s hj
   ·rcases hk:j-L.length with _ | k
    ·rw[hk]at hj; cases hj; exact ht
    ·rw[hk]at hj; simp at hj
  ·intro j s hj
   rw[List.getElem?_append]at hj
   split at hj
   ·exact h.tk j s hj
   ·rcases hk:j-L.length with _ | k
    ·rw[hk]at hj; cases hj; omega
    ·rw[hk]at hj; simp at hj
theorem Bw {n:Nat} (hn:n≤1000000) {s:RS} {l:List HOp} {i:Nat} {o:HOp} (h:RSOk n s) (h2:(aL s l i o).2=true):RSOk n (aL s l i o).1∧(aL s l i o).1.taken.length=s.taken.length+1:=by
 unfold aL at h2 ⊢
 split
 ·rename_i ht
  unfold takB at ht
  simp only[Bool.and_eq_true]at ht
  have hm:=ht.2.1
  rw[h.al]at hm
  have:=(h.hap (by omega) hm).2
  exact⟨⟨this.al,this.dl,this.ap,this.dp,this.e0,this.e1⟩,mH _ _⟩
 ·rename_i ht
  rw[if_neg ht]at h2
  cases h2
theorem uR {most:Nat} {l:List HOp} {s:RS} {i:Nat} {o:HOp} {L:List RS} (h:l[i]?=some o):ek most l s (l.drop i) i L=if L.length≤most then ek most l s (l.drop (i+1)) (i+1) (jG s l i o L) else L:=by
 have hlt:=(List.getElem?_eq_some_iff.1 h).1
 rw[List.drop_eq_getElem_cons hlt,(List.getElem?_eq_some_iff.1 h).2,ek]
theorem uQ {most:Nat} {l:List HOp} {s:RS} {i:Nat} {L:List RS} (r:List HOp) (h:¬L.length≤most):ek most l s r i L=L:=by
 cases r with
 | nil=>rfl
 | cons o r=>rw[ek,if_neg h]
end Go.Proofs.Ytmdgmolbamlicaa
namespace Go.Proofs.Ytmdgmolbamlicaa
open Go.Eng Go.Plain
set_option maxHeartbeats 32000000
set_option maxRecDepth 20000
abbrev hasB (T:List Int) (i:Int):Bool:=T.any fun y=>decide (y=i)
def tkE (z T:List Int):List UInt8:=z.map fun i=>if hasB T i then 1 else 0
def arE (vs:BMap) (ks:List Int) (A:List (List UInt8)):List UInt8:=ks.flatMap fun k=>dJ (valN vs (pgAt A k))
def encS (p:Prep) (ks:List Int) (s:RS):LSt:=⟨s.era,tkE (zOf p s.era) s.taken,arE p.vs ks s.arr,arE p.vs ks s.dur⟩
theorem tw {T:List Int} {i:Int}:hasB T i=true↔i∈T:=by
 simp only[hasB,List.any_eq_true,decide_eq_true_eq]
 exact⟨fun⟨x,h1,h2⟩=>h2 ▸ h1,fun h=>⟨i,h,rfl⟩⟩
theorem cM (T:List Int) (i j:Int):hasB (cf T i) j=(hasB T j||decide (i=j)):=by
 induction T with
 | nil=>simp[cf,hasB]
 | cons a T ih =>
  rw[cf]
  split
  ·simp only[hasB,List.any_cons]
   cases decide (i=j) <;> simp
  ·simp only[hasB,List.any_cons]at ih ⊢
   rw[ih,Bool.or_assoc]
section
variable {f g : Int → List UInt8}
theorem AN (hf:∀k,(f k).length=2):∀ks:List Int,(ks.flatMap f).length=2*ks.length
 | []=>rfl
 | k::ks=>by rw[List.flatMap_cons,List.length_append,hf,AN hf ks,List.length_cons]; omega
theorem wA (hf:∀k,(f k).length=2):∀(ks:List Int) (j:Nat),(ks.flatMap f).take (2*j)=(ks.take j).flatMap f
 | ks,0=>by simp
 | [],j+1=>by simp
 | k::ks,j+1=>by
  rw[List.flatMap_cons,List.take_succ_cons,List.flatMap_cons,←wA hf ks j,List.take_append,hf,show 2*(j+1)-2=2*j by omega,List.take_of_length_le (by rw[hf]; omega)]
theorem se (hf:∀k,(f k).length=2):∀(ks:List Int) (j:Nat),(ks.flatMap f).drop (2*j)=(ks.drop j).flatMap f
 | ks,0=>by simp
 | [],j+1=>by simp
 | k::ks,j+1=>by
  rw[List.flatMap_cons,List.drop_succ_cons,←se hf ks j,List.drop_append,hf,show 2*(j+1)-2=2*j by omega,List.drop_of_length_le (by rw[hf]; omega),List.nil_append]
theorem AO (hf:∀k,(f k).length=2) (hg:∀k,(g k).length=2):∀ks:List Int,ks.flatMap f=ks.flatMap g→∀k∈ks,f k=g k
 | [],_,_,h=>by cases h
 | a::ks,h,k,hk=>by
  rw[List.flatMap_cons,List.flatMap_cons]at h
  obtain⟨h1,h2⟩:=List.append_inj h (by rw[hf,hg])
  rcases List.mem_cons.1 hk with rfl | hk
  ·exact h1
  ·exact AO hf hg ks h2 k hk
theorem pw:∀ks:List Int,(∀k∈ks,f k=g k)→ks.flatMap f=ks.flatMap g
 | [],_=>rfl
 | a::ks,h=>by rw[List.flatMap_cons,List.flatMap_cons,h a List.mem_cons_self,pw ks fun k hk=>h k (List.mem_cons_of_mem _ hk)]
end
theorem vF {a b:Nat} (ha:a<65536) (hb:b<65536) (h:dJ a=dJ b):a=b:=by
 unfold dJ at h
 simp only[List.cons.injEq,and_true]at h
 have h1:=congrArg UInt8.toNat h.1
 have h2:=congrArg UInt8.toNat h.2
 simp only[UInt8.toNat_ofNat']at h1 h2
 omega
theorem np (p:HOp→Bool):∀(l:List HOp) (i:Nat),(selI p l i).Pairwise (· < ·)∧∀x∈selI p l i,i≤x
 | [],_=>⟨.nil,fun _ h=>by cases h⟩
 | o::l,i=>by
  obtain⟨h1,h2⟩:=np p l (i+1)
  unfold selI
  split
  ·exact⟨List.pairwise_cons.2 ⟨fun x hx=>by have:=h2 x hx; omega,h1⟩,fun x hx=>by
    rcases List.mem_cons.1 hx with rfl | hx
    ·exact Nat.le_refl _
    ·have:=h2 x hx; omega⟩
  ·exact⟨h1,fun x hx=>by have:=h2 x hx; omega⟩
theorem xb {l:List Nat} (h:l.Pairwise (· < ·)):(zs l).Pairwise (· < ·):=by
 unfold zs
 rw[List.pairwise_map]
 exact h.imp fun h=>by omega
theorem nj (P:Int→Bool) (i:Int):∀z:List Int,z.Pairwise (· < ·)→i∈z→P i=false→cf (z.filter P) i=z.filter fun j=>P j||decide (i=j)
 | [],_,h,_=>by cases h
 | a::z,hs,hi,hP=>by
  obtain⟨h1,h2⟩:=List.pairwise_cons.1 hs
  by_cases e:a=i
  ·subst e
   rw[List.filter_cons_of_neg (by rw[hP]; decide),List.filter_cons_of_pos (by simp)]
   have h3:(z.filter fun j=>P j||decide (a=j))=z.filter P:=List.filter_congr fun x hx=>by
    have:=h1 x hx
    rw[dF (by omega),Bool.or_false]
   rw[h3]
   cases h4:z.filter P with
   | nil=>rfl
   | cons b t =>
    have h5:b∈z:=(List.mem_filter.1 (h4 ▸ List.mem_cons_self:b∈z.filter P)).1
    rw[cf,if_pos (h1 b h5)]
  ·have hi2:i∈z:=by
    rcases List.mem_cons.1 hi with h | h
    ·exact absurd h.symm e
    ·exact h
   have ih:=nj P i z h2 hi2 hP
   have hai:=h1 i hi2
   by_cases hp:P a=true
   ·rw[List.filter_cons_of_pos hp,List.filter_cons_of_pos (by rw[hp]; rfl),cf,if_neg (by omega),ih]
   ·have hp:=Bool.eq_false_iff.2 hp
    rw[List.filter_cons_of_neg (by rw[hp]; decide),List.filter_cons_of_neg (by rw[hp,dF (fun h=>e h.symm)]; decide),ih]
theorem qm {κ ν:Type} [DecidableEq κ] {k:κ} {v:ν}:∀ {m:List (κ×ν)} {q:κ×ν},q∈putA m k v→q∈m∨q.1=k
 | [],q,h=>by simp[putA]at h; exact .inr (by rw[h])
 | (k',v')::m,q,h=>by
  unfold putA at h
  split at h
  ·rename_i e
   rcases List.mem_cons.1 h with rfl | h
   ·exact .inr e.symm
   ·exact .inl (List.mem_cons_of_mem _ h)
  ·rcases List.mem_cons.1 h with rfl | h
   ·exact .inl List.mem_cons_self
   ·rcases qm h with h | h
    ·exact .inl (List.mem_cons_of_mem _ h)
    ·exact .inr h
theorem nu {l:List HOp} {b:Int}:∀(idx:List Nat) (q:IMap×BMap),(∀i∈idx,(opN l i).op.kind≠3→0≤(opN l i).op.index∧(opN l i).op.index<b)→(∀x∈q.1,0≤x.1∧x.1<b)→∀x∈(cE l idx q).1,0≤x.1∧x.1<b
 | [],_,_,h=>h
 | i::idx,q,hi,h=>by
  refine nu idx (numP q.1 (opN l i),numV q.2 (opN l i)) (fun j hj=>hi j (List.mem_cons_of_mem _ hj)) fun x hx=>?_
  simp only at hx
  unfold numP at hx
  split at hx
  ·exact h x hx
  ·rename_i h3
   split at hx
   ·exact h x hx
   ·rcases qm hx with hx | hx
    ·exact h x hx
    ·rw[hx]; exact hi i List.mem_cons_self h3
theorem qn (l:List HOp) (b:Int):∀(e:Nat),∀x∈(cn l b e).pl,0≤x.1∧x.1<b
 | 0,x,h=>by cases h
 | e+1,x,h=>by
  refine nu (l:=l) (mayI l b e) ((cn l b e).pl,(cn l b e).vs) (fun i hi h3=>?_) (qn l b e) x h
  obtain⟨o,ho,_,hm⟩:=df.1 hi
  have:opN l i=o:=by rw[opN,ho]; rfl
  rw[this]at h3 ⊢
  exact (iy hm).2.2 h3
theorem qL {κ:Type} {k:κ}:∀(ks:List κ) (i:Nat),k∈ks→∃v,(k,v)∈dH ks i
 | [],_,h=>by cases h
 | a::ks,i,h=>by
  rcases List.mem_cons.1 h with rfl | h
  ·exact⟨_,List.mem_cons_self⟩
  ·obtain⟨v,hv⟩:=qL ks (i+1) h
   exact⟨v,List.mem_cons_of_mem _ hv⟩
end Go.Proofs.Ytmdgmolbamlicaa
namespace Go.Proofs.Ytmdgmolbamlicaa
open Go.Eng Go.Plain
set_option maxHeartbeats 32000000
set_option maxRecDepth 20000
structure Sc (l:List HOp) (n e:Nat) (p:Prep) (ks:List Int) (kv:List (List UInt8)):Prop where
 F:gJ l n e p ks kv
 ll:l.length≤8192
 nl:n≤1000000
 el:e≤8200
 kr:∀k∈ks,0≤k∧k<n
section
variable {l : List HOp} {n e : Nat} {p : Prep} {ks : List Int} {kv : List (List UInt8)}
theorem Sc.of (F:gJ l n e (cn l n e) ks kv) (hl:l.length≤8192) (hn:n≤1000000) (he:e≤8200):Sc l n e (cn l n e) ks kv :=
 ⟨F,hl,hn,he,fun k hk=>by
  obtain⟨v,hv⟩:=qL ks 0 hk
  rw[←F.pl]at hv
  exact qn l n e _ hv⟩
theorem Sc.kvl (S:Sc l n e p ks kv):kv.length≤8193:=by have:=S.F.vl; have:=oz l (n:Int) e; have:=S.ll; omega
theorem Sc.val (S:Sc l n e p ks kv) {v:List UInt8} (h:v∈kv):∃j,kv[j]?=some v∧valN p.vs v=j∧j<8193:=by
 obtain⟨j,h1,_,h2⟩:=e9 kv 0 h
 have hj:=(List.getElem?_eq_some_iff.1 h1).1
 have:=S.kvl
 refine⟨j,h1,?_,by omega⟩
 rw[valN,S.F.vs,h2,Option.getD_some]
 omega
theorem Sc.val_inj (S:Sc l n e p ks kv) {v w:List UInt8} (h1:v∈kv) (h2:w∈kv) (h:dJ (valN p.vs v)=dJ (valN p.vs w)):v=w:=by
 obtain⟨i,a1,a2,a3⟩:=S.val h1
 obtain⟨j,b1,b2,b3⟩:=S.val h2
 rw[a2,b2]at h
 have:=vF (by omega) (by omega) h
 subst this
 exact Option.some.inj (a1.symm.trans b1)
theorem Sc.z (S:Sc l n e p ks kv) {k:Int} (h0:0≤k) (h1:k<e):zOf p k=zs (mayI l n k.toNat):=by
 rw[zOf,S.F.opk _ (by omega)]; rfl
theorem Sc.zin (S:Sc l n e p ks kv) {k:Int} (h0:0≤k) (h1:k<e) {i:Int}:i∈zOf p k ↔ ∃(j:Nat) (o:HOp),i=j∧l[j]?=some o∧o.era=k∧mayB o n=true:=by
 rw[S.z h0 h1,zs,List.mem_map]
 constructor
 ·rintro⟨j,hj,rfl⟩
  obtain⟨o,a,b,c⟩:=df.1 hj
  exact⟨j,o,rfl,a,by omega,c⟩
 ·rintro⟨j,o,rfl,a,b,c⟩
  exact⟨j,df.2 ⟨o,a,by omega,c⟩,rfl⟩
theorem Sc.zsorted (S:Sc l n e p ks kv) {k:Int} (h0:0≤k) (h1:k<e):(zOf p k).Pairwise (· < ·):=by
 rw[S.z h0 h1]; exact xb (np _ l 0).1
structure AG (n:Nat) (ks:List Int) (kv:List (List UInt8)) (A:List (List UInt8)):Prop where
 al:A.length=n
 av:∀k∈ks,pgAt A k∈kv
 az:∀k:Int,0≤k→k ∉ ks→pgAt A k=zBk
theorem Sc.zk (S:Sc l n e p ks kv):zBk∈kv:=List.mem_of_getElem? S.F.vz
theorem Sc.agz (S:Sc l n e p ks kv):AG n ks kv (List.replicate n zBk):=
 ⟨List.length_replicate,fun k _=>by rw[eM]; exact S.zk,fun k _ _=>eM n k⟩
theorem rB {A:List (List UInt8)} {i k:Int} {v:List UInt8} (hi:0≤i) (hl:i<A.length) (hk:0≤k):pgAt (A.set i.toNat v) k=if k=i then v else pgAt A k:=by
 unfold pgAt
 by_cases h:k=i
 ·subst h
  rw[if_pos rfl,List.getElem?_set_self (by omega)]; rfl
 ·rw[if_neg h,List.getElem?_set_ne (by omega)]
theorem Sc.agset (S:Sc l n e p ks kv) {A:List (List UInt8)} (h:AG n ks kv A) {i:Int} {v:List UInt8} (hi:i∈ks) (hv:v∈kv):AG n ks kv (A.set i.toNat v):=by
 obtain⟨i0,i1⟩:=S.kr i hi
 have hl:i<A.length:=by rw[h.al]; exact i1
 refine⟨by rw[List.length_set]; exact h.al,fun k hk=>?_,fun k h0 hk=>?_⟩
 ·rw[rB i0 hl (S.kr k hk).1]
  split
  ·exact hv
  ·exact h.av k hk
 ·rw[rB i0 hl h0,if_neg (fun h2:k=i=>hk (h2 ▸ hi))]
  exact h.az k h0 hk
theorem qY (vs:BMap) (A:List (List UInt8)) (k:Int):(dJ (valN vs (pgAt A k))).length=2:=rfl
theorem wU (vs:BMap) (ks:List Int) (A:List (List UInt8)):(arE vs ks A).length=2*ks.length:=AN (qY vs A) ks
theorem Sc.arE_inj (S:Sc l n e p ks kv) {A B:List (List UInt8)} (hA:AG n ks kv A) (hB:AG n ks kv B) (h:arE p.vs ks A=arE p.vs ks B):A=B:=by
 have key:∀k:Int,0≤k→pgAt A k=pgAt B k:=fun k h0=>by
  by_cases hk:k∈ks
  ·exact S.val_inj (hA.av k hk) (hB.av k hk) (AO (qY p.vs A) (qY p.vs B) ks h k hk)
  ·rw[hA.az k h0 hk,hB.az k h0 hk]
 apply List.ext_getElem?
 intro j
 by_cases hj:j<n
 ·have:=key j (by omega)
  unfold pgAt at this
  rw[Int.toNat_natCast,List.getElem?_eq_getElem (by rw[hA.al]; exact hj),List.getElem?_eq_getElem (by rw[hB.al]; exact hj)]at this
  rw[List.getElem?_eq_getElem (by rw[hA.al]; exact hj),List.getElem?_eq_getElem (by rw[hB.al]; exact hj)]
  exact congrArg some this
 ·rw[List.getElem?_eq_none (by rw[hA.al]; omega),List.getElem?_eq_none (by rw[hB.al]; omega)]
structure RG (l:List HOp) (n e:Nat) (p:Prep) (ks:List Int) (kv:List (List UInt8)) (s:RS):Prop where
 ok:RSOk n s
 era:s.era<e
 tk:s.taken=(zOf p s.era).filter (hasB s.taken)
 ar:AG n ks kv s.arr
 du:AG n ks kv s.dur
theorem RG.tz {s:RS} (h:RG l n e p ks kv s) {i:Int} (hi:hasB s.taken i=true):i∈zOf p s.era:=by
 have:=tw.1 hi
 rw[h.tk]at this
 exact (List.mem_filter.1 this).1
theorem Sc.first (S:Sc l n e p ks kv) (he:0<e):RG l n e p ks kv (am n):=
 ⟨.first n,by show (0:Int)<e; omega,by show[]=List.filter _ _; rw[List.filter_eq_nil_iff.2 (fun _ _=>by simp[am])],S.agz,S.agz⟩
theorem RG.crash {s:RS} (h:RG l n e p ks kv s) (he:s.era+1<e) (h8:e≤8200):RG l n e p ks kv (aI s):=
 ⟨h.ok.crash (by omega),he,by show[]=List.filter _ _; rw[List.filter_eq_nil_iff.2 (fun _ _=>by simp[aI])],h.du,h.du⟩
theorem Bu {z T U:List Int} (h:tkE z T=tkE z U):∀i∈z,hasB T i=hasB U i:=by
 intro i hi
 have:=List.map_inj_left.1 h i hi
 cases h1:hasB T i <;> cases h2:hasB U i <;> simp[h1,h2]at this <;> rfl
theorem Sc.enc_inj (S:Sc l n e p ks kv) {s t:RS} (hs:RG l n e p ks kv s) (ht:RG l n e p ks kv t) (h:encS p ks s=encS p ks t):s=t:=by
 have h1:=congrArg LSt.era h
 have h2:=congrArg LSt.taken h
 have h3:=S.arE_inj hs.ar ht.ar (congrArg LSt.array h)
 have h4:=S.arE_inj hs.du ht.du (congrArg LSt.durable h)
 simp only[encS]at h1 h2
 have h5:s.taken=t.taken:=by
  rw[hs.tk,ht.tk,←h1]
  rw[←h1]at h2
  exact List.filter_congr (Bu h2)
 cases s; cases t
 simp only at h1 h3 h4 h5
 rw[h1,h3,h4,h5]
theorem vJ (z:List Int):tkE z []=cQ z.length:=by
 unfold tkE cQ
 induction z with
 | nil=>rfl
 | cons a z ih=>rw[List.map_cons,ih,List.length_cons,List.replicate_succ]; rfl
theorem mZ (s:RS):encS p ks (aI s)=⟨s.era+1,cQ (zOf p (s.era+1)).length,(encS p ks s).durable,(encS p ks s).durable⟩:=by
 unfold encS aI
 simp only[vJ]
theorem Sc.enc_first (S:Sc l n e p ks kv):encS p ks (am n)=dD p:=by
 obtain⟨j,h1,h2,_⟩:=S.val S.zk
 have hj:j=0:=by
  have h3:=S.F.vz
  exact (List.getElem?_inj (List.getElem?_eq_some_iff.1 h1).1 S.F.vnd).1 (h1.trans h3.symm)
 subst hj
 have ha:arE p.vs ks (List.replicate n zBk)=cQ (2*p.pl.length):=by
  rw[S.F.pl,ff]
  have:∀ks:List Int,arE p.vs ks (List.replicate n zBk)=cQ (2*ks.length):=by
   intro ks
   induction ks with
   | nil=>rfl
   | cons a ks ih =>
    unfold arE at ih ⊢
    rw[List.flatMap_cons,ih,eM,h2,List.length_cons,show 2*(ks.length+1)=2+2*ks.length by omega]
    unfold cQ
    rw[←List.replicate_append_replicate]; rfl
  exact this ks
 unfold encS dD
 simp only[am,ha,vJ]
theorem Sc.place (S:Sc l n e p ks kv) {i:Int} (h:i∈ks):∃j,ks[j]?=some i∧plN p.pl i=j:=by
 obtain⟨j,h1,_,h2⟩:=e9 ks 0 h
 refine⟨j,h1,?_⟩
 rw[plN,S.F.pl,h2,Option.getD_some]
 omega
theorem Sc.ar_get (S:Sc l n e p ks kv) {i:Int} (h:i∈ks) (A:List (List UInt8)):((arE p.vs ks A).drop (2*plN p.pl i)).take 2=dJ (valN p.vs (pgAt A i)):=by
 obtain⟨j,h1,h2⟩:=S.place h
 have hlt:=(List.getElem?_eq_some_iff.1 h1).1
 rw[h2,arE,se (qY p.vs A),List.drop_eq_getElem_cons hlt,(List.getElem?_eq_some_iff.1 h1).2,List.flatMap_cons]
 exact List.take_left' rfl
theorem Sc.ar_set (S:Sc l n e p ks kv) {i:Int} (h:i∈ks) {A:List (List UInt8)} (hl:A.length=n) (v:List UInt8) :
  (arE p.vs ks A).take (2*plN p.pl i)++dJ (valN p.vs v)++(arE p.vs ks A).drop (2*plN p.pl i+2)=arE p.vs ks (A.set i.toNat v):=by
 obtain⟨j,h1,h2⟩:=S.place h
 obtain⟨i0,i1⟩:=S.kr i h
 have hlt:=(List.getElem?_eq_some_iff.1 h1).1
 have hn:=S.F.knd
 have hks:ks=ks.take j++i::ks.drop (j+1):=by
  have:=List.take_append_drop j ks
  rw[List.drop_eq_getElem_cons hlt,(List.getElem?_eq_some_iff.1 h1).2]at this
  exact this.symm
 have hni:i ∉ ks.take j∧i ∉ ks.drop (j+1):=by
  rw[hks,List.nodup_append,List.nodup_cons]at hn
  exact⟨fun h=>hn.2.2 i h i List.mem_cons_self rfl,hn.2.1.1⟩
 have hst:∀k:Int,0≤k→pgAt (A.set i.toNat v) k=if k=i then v else pgAt A k:=fun k hk=>rB i0 (by rw[hl]; exact i1) hk
 have hmem:∀k,(k∈ks.take j∨k∈ks.drop (j+1))→0≤k∧k≠i:=fun k hk=>by
  rcases hk with hk | hk
  ·exact⟨(S.kr k (List.mem_of_mem_take hk)).1,fun e=>hni.1 (e ▸ hk)⟩
  ·exact⟨(S.kr k (List.mem_of_mem_drop hk)).1,fun e=>hni.2 (e ▸ hk)⟩
 unfold arE
 rw[h2,show 2*j+2=2*(j+1) by omega,wA (qY p.vs A),se (qY p.vs A)]
 conv=>rhs; rw[hks]
 rw[List.flatMap_append,List.flatMap_cons,hst i i0,if_pos rfl,List.append_assoc]
 congr 1
 ·exact pw _ fun k hk=>by
   obtain⟨a,b⟩:=hmem k (.inl hk)
   rw[hst k a,if_neg b]
 ·congr 1
  exact pw _ fun k hk=>by
   obtain⟨a,b⟩:=hmem k (.inr hk)
   rw[hst k a,if_neg b]
theorem Sc.hap (S:Sc l n e p ks kv) {s:RS} (h:RG l n e p ks kv s) {o:HOp} (hm:mayB o n=true) (hk:o.op.kind≠3→o.op.index∈ks∧numB o∈kv) :
  (hapS p (encS p ks s) o).2=(hapR s o).2∧(hapS p (encS p ks s) o).1=⟨s.era,tkE (zOf p s.era) s.taken,arE p.vs ks (hapR s o).1.arr,arE p.vs ks (hapR s o).1.dur⟩∧AG n ks kv (hapR s o).1.arr∧AG n ks kv (hapR s o).1.dur∧(hapR s o).1.era=s.era:=by
 have hkd:=(iy hm).1
 unfold hapS hapR
 by_cases h3:o.op.kind=3
 ·rw[if_pos h3,if_neg (by omega),if_neg (by omega)]
  exact⟨rfl,rfl,h.ar,h.ar,rfl⟩
 obtain⟨k1,k2⟩:=hk h3
 rw[if_neg h3]
 by_cases h2:o.op.kind=2
 ·rw[if_pos h2,if_neg (by omega),if_pos h2]
  rw[numB,if_pos h2]at k2
  refine⟨rfl,?_,S.agset h.ar k1 k2,h.du,rfl⟩
  simp only[encS]
  rw[S.ar_set k1 h.ar.al]
 ·have h1:o.op.kind=1:=by omega
  rw[if_neg h2,if_pos h1]
  rw[numB,if_neg h2]at k2
  cases hmu:bf o with
  | false =>
   rw[if_neg (by decide)]
   exact⟨rfl,rfl,h.ar,h.du,rfl⟩
  | true =>
   rw[if_pos rfl]
   refine⟨?_,rfl,h.ar,h.du,rfl⟩
   have hg:=S.ar_get k1 s.arr
   rw[Bool.not_true,Bool.false_or]
   by_cases he:pgAt s.arr o.op.index=o.value
   ·rw[dT he]
    exact dT (show ((arE p.vs ks s.arr).drop (2*plN p.pl o.op.index)).take 2=_ by rw[hg,he])
   ·rw[dF he]
    exact dF fun h':((arE p.vs ks s.arr).drop (2*plN p.pl o.op.index)).take 2=_=>he (S.val_inj (h.ar.av _ k1) k2 (hg ▸ h'))
end
end Go.Proofs.Ytmdgmolbamlicaa
namespace Go.Proofs.Ytmdgmolbamlicaa
open Go.Eng Go.Plain
set_option maxHeartbeats 32000000
set_option maxRecDepth 20000
section
variable {l : List HOp} {n e : Nat} {p : Prep} {ks : List Int} {kv : List (List UInt8)}
theorem ur {z T:List Int} {k:Nat} {i:Int} (h:z[k]?=some i):tkB (tkE z T) (k:Int)=hasB T i∧msB (tkE z T) (k:Int) = !hasB T i:=by
 have h1:(tkE z T)[k]?=some (if hasB T i then 1 else 0):=by rw[tkE,List.getElem?_map,h]; rfl
 unfold tkB msB
 rw[Int.toNat_natCast,h1,Option.getD_some]
 cases hasB T i <;> exact⟨rfl,rfl⟩
theorem eU {s:RS} {o:HOp}:∀(l:List HOp) (k:Nat),hitL s o l k=true ↔ ∃(j:Nat) (q:HOp),l[j]?=some q∧hitB s o (k+j) q=true
 | [],k=>by simp[hitL]
 | a::l,k=>by
  rw[hitL,Bool.or_eq_true,eU l (k+1)]
  constructor
  ·rintro (h | ⟨j,q,h1,h2⟩)
   ·exact⟨0,a,rfl,h⟩
   ·exact⟨j+1,q,by simpa using h1,by rw[show k+(j+1)=k+1+j by omega]; exact h2⟩
  ·rintro⟨j,q,h1,h2⟩
   cases j with
   | zero=>simp at h1; subst h1; exact .inl h2
   | succ j=>exact .inr ⟨j,q,by simpa using h1,by rw[show k+1+j=k+(j+1) by omega]; exact h2⟩
theorem ep {l:List HOp} {i:Nat} {o:HOp} (h:l[i]?=some o):opN l i=o:=by rw[opN,h]; rfl
theorem wc {f:Nat→Bool} {M:List Nat} {z T:List Int} (hz:z=zs M) (g:List UInt8→Int→Bool) (b:Int→Bool) (hg:∀(k:Nat) (i:Int),z[k]?=some i→g (tkE z T) (k:Int)=b i) :
  (posN f M M.length).any (g (tkE z T))=true ↔ ∃m∈M,f m=true∧b (m:Int)=true:=by
 rw[List.any_eq_true]
 constructor
 ·rintro⟨j,h1,h2⟩
  obtain⟨k,rfl,h3,h4⟩:=(jS _).1 h1
  have hk:M[k]?=some M[k]:=List.getElem?_eq_getElem h3
  rw[hk,Option.getD_some]at h4
  rw[hg k (M[k]:Nat) (by rw[hz,zs,List.getElem?_map,hk]; rfl)]at h2
  exact⟨_,List.getElem_mem h3,h4,h2⟩
 ·rintro⟨m,hm,h1,h2⟩
  obtain⟨k,hk⟩:=List.mem_iff_getElem?.1 hm
  refine⟨(k:Int),(jS _).2 ⟨k,rfl,(List.getElem?_eq_some_iff.1 hk).1,by rw[hk]; exact h1⟩,?_⟩
  rw[hg k (m:Int) (by rw[hz,zs,List.getElem?_map,hk]; rfl)]
  exact h2
theorem Sc.skip (S:Sc l n e p ks kv) {s:RS} (h:RG l n e p ks kv s) {k i:Nat} {o:HOp} (hk:(zOf p s.era)[k]?=some (i:Int)) (ho:l[i]?=some o) (he:o.era=s.era) (hm:mayB o n=true) :
  takB s l i o = !im p (encS p ks s) k i:=by
 have e0:=h.ok.e0
 have e1:=h.era
 obtain⟨E,hE⟩:∃E:Nat,s.era=E:=⟨s.era.toNat,by omega⟩
 have hz:zOf p s.era=zs (mayI l n E):=by rw[S.z e0 e1]; congr 2; omega
 have hEe:E<e:=by omega
 have hi:i∈mayI l n E:=df.2 ⟨o,ho,by omega,hm⟩
 have hst:=S.F.st E hEe i hi
 have haf:=S.F.af E hEe i hi
 have hah:=S.F.ah E hEe i hi
 have ht:=ur (T:=s.taken) hk
 rw[ep ho]at hst
 have q1:((getA p.af (i:Int)).getD []).any (tkB (tkE (zOf p s.era) s.taken))=true ↔ ∃m∈mayI l n E,afB l i m=true∧hasB s.taken (m:Int)=true:=by
  rw[haf]
  exact wc hz tkB (hasB s.taken) fun k i hk=>(ur hk).1
 have q2:((getA p.ah (i:Int)).getD []).any (msB (tkE (zOf p s.era) s.taken))=true ↔ ∃m∈mayI l n E,ahB l i m=true∧(!hasB s.taken (m:Int))=true:=by
  rw[hah]
  exact wc hz msB (fun i => !hasB s.taken i) fun k i hk=>(ur hk).2
 have hL:hitL s o l 0=((getA p.st (i:Int)).getD false||(((getA p.af (i:Int)).getD []).any (tkB (tkE (zOf p s.era) s.taken))||((getA p.ah (i:Int)).getD []).any (msB (tkE (zOf p s.era) s.taken)))):=by
  rw[Bool.eq_iff_iff,Bool.or_eq_true,Bool.or_eq_true,q1,q2,hst,List.any_eq_true,eU]
  simp only[Nat.zero_add]
  constructor
  ·rintro⟨j,q,h1,h2⟩
   unfold hitB at h2
   cases hj:hasB s.taken (j:Int) with
   | true =>
    rw[if_pos hj]at h2
    have hjz:=h.tz hj
    rw[hz,zs,List.mem_map]at hjz
    obtain⟨j',hj',ej⟩:=hjz
    have:j'=j:=by omega
    subst this
    exact .inr (.inl ⟨j',hj',by rw[afB,ep ho,ep h1]; exact h2,hj⟩)
   | false =>
    rw[if_neg (by have h':(s.taken.any fun y=>decide (y=(j:Int)))=false:=hj; rw[h']; decide),Bool.and_eq_true,Bool.and_eq_true,decide_eq_true_eq]at h2
    obtain⟨h3,h4,h5⟩:=h2
    cases hq:mayB q n with
    | true=>exact .inr (.inr ⟨j,df.2 ⟨q,h1,by omega,hq⟩,by rw[ahB,ep ho,ep h1,h4,h5]; rfl,by rw[hj]; rfl⟩)
    | false=>exact .inl ⟨j,mz.2 ⟨q,h1,by omega,h4,hq⟩,by rw[ep h1]; exact h5⟩
  ·rintro (⟨j,hj,h1⟩ | ⟨j,hj,h1,h2⟩ | ⟨j,hj,h1,h2⟩)
   ·obtain⟨q,a,b,c,d⟩:=mz.1 hj
    refine⟨j,q,a,?_⟩
    rw[ep a]at h1
    have hnt:hasB s.taken (j:Int)=false:=by
     rw[Bool.eq_false_iff]
     intro hj2
     obtain⟨j',q',e1,e2,e3,e4⟩:=(S.zin e0 h.era).1 (h.tz hj2)
     have:j'=j:=by omega
     subst this
     rw[a]at e2; cases e2
     rw[d]at e4; cases e4
    rw[hitB,if_neg (by have h':(s.taken.any fun y=>decide (y=(j:Int)))=false:=hnt; rw[h']; decide),dT (by omega),c,h1]; rfl
   ·obtain⟨q,a,b,c⟩:=df.1 hj
    rw[afB,ep ho,ep a]at h1
    exact⟨j,q,a,by rw[hitB,if_pos h2]; exact h1⟩
   ·obtain⟨q,a,b,c⟩:=df.1 hj
    rw[ahB,ep ho,ep a,Bool.and_eq_true]at h1
    rw[Bool.not_eq_true']at h2
    exact⟨j,q,a,by rw[hitB,if_neg (by have h':(s.taken.any fun y=>decide (y=(j:Int)))=false:=h2; rw[h']; decide),dT (by omega),h1.1,h1.2]; rfl⟩
 rw[takB,dT he,h.ok.al,hm,hL,im]
 show (true&&(true&&(!hasB s.taken (i:Int)&&_)))=_
 rw[←ht.1]
 simp only[encS]
 cases (getA p.st (i:Int)).getD false <;> cases tkB (tkE (zOf p s.era) s.taken) (k:Int) <;> rfl
theorem Bv {z T:List Int} {k:Nat} {i:Int} (hn:z.Nodup) (h:z[k]?=some i):il (tkE z T) k=tkE z (cf T i):=by
 have hlt:=(List.getElem?_eq_some_iff.1 h).1
 have hz:z=z.take k++i::z.drop (k+1):=by
  have:=List.take_append_drop k z
  rw[List.drop_eq_getElem_cons hlt,(List.getElem?_eq_some_iff.1 h).2]at this
  exact this.symm
 have hni:i ∉ z.take k∧i ∉ z.drop (k+1):=by
  rw[hz,List.nodup_append,List.nodup_cons]at hn
  exact⟨fun h=>hn.2.2 i h i List.mem_cons_self rfl,hn.2.1.1⟩
 unfold il tkE
 rw[←List.map_take,←List.map_drop]
 conv=>rhs; rw[hz]
 rw[List.map_append,List.map_cons,cM,dT rfl,Bool.or_true,if_pos rfl,List.append_assoc]
 have hc:∀m,m≠i→hasB (cf T i) m=hasB T m:=fun m hm=>by rw[cM,dF fun e=>hm e.symm,Bool.or_false]
 congr 1
 ·exact List.map_congr_left fun m hm=>by rw[hc m fun e=>hni.1 (e ▸ hm)]
 ·show 1::_=1::_
  congr 1
  exact List.map_congr_left fun m hm=>by rw[hc m fun e=>hni.2 (e ▸ hm)]
theorem Sc.kin (S:Sc l n e p ks kv) {i:Nat} {o:HOp} (h0:0≤o.era) (h1:o.era<e) (ho:l[i]?=some o) (hm:mayB o n=true):o.op.kind≠3→o.op.index∈ks∧numB o∈kv:=by
 have:=S.F.kin o.era.toNat (by omega) i (df.2 ⟨o,ho,by omega,hm⟩)
 rwa [ep ho]at this
theorem Sc.take (S:Sc l n e p ks kv) {s:RS} (h:RG l n e p ks kv s) {k i:Nat} {o:HOp} (hk:(zOf p s.era)[k]?=some (i:Int)) (ho:l[i]?=some o) (he:o.era=s.era) (hm:mayB o n=true) (ht:takB s l i o=true) :
  (aL s l i o).2=(hapS p (encS p ks s) o).2∧encS p ks (aL s l i o).1 = { (hapS p (encS p ks s) o).1 with taken:=il (encS p ks s).taken k }∧RG l n e p ks kv (aL s l i o).1:=by
 have e0:=h.ok.e0
 have e1:=h.era
 obtain⟨q1,q2,q3,q4,q5⟩:=S.hap h hm (S.kin (by omega) (by omega) ho hm)
 have hs:=S.zsorted e0 e1
 have hnt:hasB s.taken (i:Int)=false:=by
  unfold takB at ht
  simp only[Bool.and_eq_true,Bool.not_eq_true']at ht
  exact ht.2.2.1
 have hap:=(h.ok.hap (by have:=S.nl; omega) hm).2
 rw[aL,if_pos ht]
 refine⟨q1.symm,?_,⟨⟨hap.al,hap.dl,hap.ap,hap.dp,hap.e0,hap.e1⟩,by show (hapR s o).1.era<_; rw[q5]; exact e1,?_,q3,q4⟩⟩
 ·rw[q2]
  simp only[encS,q5]
  rw[Bv (hs.imp fun h=>by omega) hk]
 ·show cf s.taken i=(zOf p (hapR s o).1.era).filter (hasB (cf s.taken i))
  rw[q5]
  have h2:((zOf p s.era).filter (hasB (cf s.taken i)))=(zOf p s.era).filter fun j=>hasB s.taken j||decide ((i:Int)=j):=List.filter_congr fun x _=>cM _ _ _
  rw[h2,←nj (hasB s.taken) i _ hs (List.mem_of_getElem? hk) hnt,←h.tk]
theorem Sc.full (S:Sc l n e p ks kv) {s:RS} (h:RG l n e p ks kv s):jH l p.lo (zOf p s.era) (encS p ks s)=bp s l 0:=by
 have e0:=h.ok.e0
 have e1:=h.era
 obtain⟨E,hE⟩:∃E:Nat,s.era=E:=⟨s.era.toNat,by omega⟩
 have hR:∀(l:List HOp) (k:Nat),bp s l k=true ↔ ∀(j:Nat) (q:HOp),l[j]?=some q→q.era=s.era→bf q=true→hasB s.taken ((k+j:Nat):Int)=true:=by
  intro l
  induction l with
  | nil=>intro k; simp[bp]
  | cons a l ih =>
   intro k
   rw[bp,Bool.and_eq_true,ih]
   constructor
   ·rintro⟨h1,h2⟩ j q hj hq hm
    cases j with
    | zero =>
     simp at hj; subst hj
     rw[hm,dT hq]at h1
     simpa using h1
    | succ j=>rw[show k+(j+1)=k+1+j by omega]; exact h2 j q (by simpa using hj) hq hm
   ·intro h1
    refine⟨?_,fun j q hj hq hm=>by rw[show k+1+j=k+(j+1) by omega]; exact h1 (j+1) q (by simpa using hj) hq hm⟩
    cases ha:decide (a.era=s.era) with
    | false=>rfl
    | true =>
     cases hb:bf a with
     | false=>rfl
     | true =>
      have:=h1 0 a rfl (of_decide_eq_true ha) hb
      rw[Nat.add_zero]at this
      have h2:s.taken.any (fun y=>decide (y=(k:Int)))=true:=this
      rw[h2]; rfl
 have hG:∀(z:List Int),kY l z (tkE z s.taken)=true ↔ ∀i∈z,bf (opN l i.toNat)=true→hasB s.taken i=true:=by
  intro z
  induction z with
  | nil=>simp[kY,tkE]
  | cons a z ih =>
   show kY l (a::z) ((if hasB s.taken a then 1 else 0)::tkE z s.taken)=true↔_
   rw[kY]
   cases hb:bf (opN l a.toNat) with
   | false =>
    rw[Bool.false_and,if_neg (by decide),ih]
    simp only[List.mem_cons,forall_eq_or_imp,hb]
    simp
   | true =>
    cases ht:hasB s.taken a with
    | true =>
     have h1:(true&&decide ((((if (true:Bool)=true then 1 else 0:UInt8)).toNat:Int)=0))=false:=rfl
     rw[h1,if_neg (by decide),ih]
     simp only[List.mem_cons,forall_eq_or_imp,ht]
     simp
    | false =>
     have h1:(true&&decide ((((if (false:Bool)=true then 1 else 0:UInt8)).toNat:Int)=0))=true:=rfl
     rw[h1,if_pos rfl]
     simp only[List.mem_cons,forall_eq_or_imp,hb,ht]
     simp
 rw[Bool.eq_iff_iff,hR]
 have hlo:=S.F.lo E
 simp only[Nat.zero_add]
 unfold jH
 have hx:(encS p ks s).era=(E:Int):=hE
 rw[hx,hlo,dT (by omega),Bool.true_and]
 have hb0:(badI l n E).isEmpty=true ↔ ∀(j:Nat) (q:HOp),l[j]?=some q→q.era=s.era→bf q=true→mayB q n=true:=by
  rw[List.isEmpty_iff]
  constructor
  ·intro h0 j q hj hq hm
   cases hq2:mayB q n with
   | true=>rfl
   | false =>
    have:j∈badI l n E:=mz.2 ⟨q,hj,by omega,hm,hq2⟩
    rw[h0]at this; cases this
  ·intro h0
   rw[List.eq_nil_iff_forall_not_mem]
   intro j hj
   obtain⟨q,a,b,c,d⟩:=mz.1 hj
   rw[h0 j q a (by omega) c]at d
   cases d
 constructor
 ·intro h1 j q hj hq hm
  split at h1
  ·cases h1
  ·rename_i h2
   simp only[Bool.not_eq_true',Bool.not_eq_false']at h2
   have h2:(badI l n E).isEmpty=true:=by simpa using h2
   have hmay:=hb0.1 h2 j q hj hq hm
   refine (hG (zOf p s.era)).1 h1 j ((S.zin e0 e1).2 ⟨j,q,rfl,hj,hq,hmay⟩) ?_
   rw[Int.toNat_natCast,ep hj]; exact hm
 ·intro h1
  have h2:(badI l n E).isEmpty=true:=hb0.2 fun j q hj hq hm=>by
   obtain⟨j',q',a,b,c,d⟩:=(S.zin e0 e1).1 (h.tz (h1 j q hj hq hm))
   have:j'=j:=by omega
   subst this
   rw[hj]at b; cases b
   exact d
  rw[h2,if_neg (by decide)]
  refine (hG (zOf p s.era)).2 fun i hi hm=>?_
  obtain⟨j,q,rfl,b,c,d⟩:=(S.zin e0 e1).1 hi
  rw[Int.toNat_natCast,ep b]at hm
  exact h1 j q b c hm
end
end Go.Proofs.Ytmdgmolbamlicaa
