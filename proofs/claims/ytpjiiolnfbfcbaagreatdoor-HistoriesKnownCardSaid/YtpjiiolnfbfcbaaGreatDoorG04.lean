/- Texts of the proof: P11, Eng75, P12, Eng76, P13, P1, P2, P8, Eng77, P14, PX, P15, P16, P17, P18, P21, P22, P23, HDat, P24, P19, P20, P25, P26, P27, P28, PY, P29, P30, Eng78, P31, P32, P33, P34, PZ, P35, P36, P37, P42, Eng80, Eng81, Eng82, P43, PM, PN, P40, P41, PV0, P44, Eng86, Eng83, Eng84, Eng85, H1, H2, H3, H4, H5, HR, H6. -/
import Derived.Test.YtpjiiolnfbfcbaaGreatDoorG03
import Derived.Test.YtpjiiolnfbfcbaaGreatDoorG02
import Derived.Sort.Row
import Derived.Sort.Grow
import Derived.Lib.SlicesCompact

set_option linter.unusedVariables false
set_option linter.unusedSimpArgs false
set_option linter.unusedSectionVars false
set_option maxRecDepth 10000

namespace Go.Proofs.YtpjiiolnfbfcbaaGreatDoor
open Go.Eng Go.Plain
set_option maxHeartbeats 32000000
set_option maxRecDepth 20000
attribute [local irreducible] WC RegS RegD SeqQ BlkQ ScoQ RegK CutK Sat SatN FnIs LoopQ an OpIs
theorem kY (ls:List (List (List UInt8))) (m:List (List UInt8)) (he:ls.flatten=m) (hp:0<m.length) (hL:m.length≤1048576) (hn:ls.length≤1000000):FnIs Tryz.prog 104 [.d (.arr 1 lD ls)] [] (.d (.arr 1 strD m)) []:=by
 have:=uW ls (by rw[he]; exact hp) (by rw[he]; exact hL) hn
 rw[he]at this
 exact this.freeze_out 64 _ rfl (Frz.own rfl) trivial
theorem rF (w:List (List UInt8)) (hw:∀x∈w,x.length≤1048576) (hl:w.length≤1048573):FnIs Tryz.prog 102 [.d (.arr 1 strD w)] [] (opR (opW ([49]::(w++[[45]]))).1 (opW ([49]::(w++[[45]]))).2) []:=by
 have hc:=kY [[[49]],w,[[45]]] ([49]::(w++[[45]])) (by simp) (by simp) (by simp; omega) (by simp)
 have ho:=fj ([49]::(w++[[45]])) (by
  intro x hx
  rcases List.mem_cons.1 hx with rfl | hx
  ·decide
  ·rcases List.mem_append.1 hx with hx | hx
   ·exact hw x hx
   ·rw[List.mem_singleton.1 hx]; decide)
 refine au aa Tryz.func102 rfl rfl rfl ?_;refine sR<|rN ?_;refine rC<|nR ?_;refine aJ (aC (s:=1) aa rfl rfl rfl rfl rfl rfl rfl rfl) rfl ?_;refine rC ?_;refine aJ (aC (s:=1) aa rfl rfl rfl rfl rfl rfl rfl rfl) rfl ?_;refine bT (env':=[(4,_),(2,_),(5,_),(6,_)]) (h':=[(64,some _),(96,some _)]) 80 _ rfl ⟨⟨_,rfl,Frz.lits1 (enc:=strD) [49] rfl rfl⟩,zE,zE,zE,trivial⟩ ⟨⟨rfl,_,rfl,.refl _⟩,⟨rfl,_,rfl,.refl _⟩,trivial⟩ ?_;refine bT (env':=[(6,_),(2,_),(4,_),(5,_)]) (h':=[(64,some _)]) 96 _ rfl ⟨⟨_,rfl,Frz.lits1 (enc:=strD) [45] rfl rfl⟩,zE,zE,zE,trivial⟩ ⟨⟨rfl,_,rfl,.refl _⟩,trivial⟩ ?_;refine aJ (aC (s:=1) aa rfl rfl rfl rfl rfl rfl rfl rfl) rfl ?_;refine bT (env':=[(7,_),(2,_)]) (h':=[(64,some _)]) 104 _ rfl ⟨⟨_,rfl,Frz.litsN (t:=94) (s:=1) (m:=3) (ex:=true) (enc:=lD) [[[49]],w,[[45]]] rfl (fun _ _=>rfl)⟩,zE,trivial⟩ ⟨⟨rfl,_,rfl,.refl _⟩,trivial⟩ ?_;refine rQ (ak hc rfl rfl (aj ab) (.inl rfl) (fun _=>rfl)) ?_;refine rQ (ak ho rfl rfl (aj ab) (.inl rfl) (fun _=>rfl)) ?_;refine zD ?_;refine rW ?_;refine rC<|zT ?_
 exact⟨trivial,_,rfl,[],lf⟩
theorem rE (w:List (List UInt8)) (hw:∀x∈w,x.length≤1048576) (hl:w.length≤1048573):FnIs Tryz.prog 105 [.d (.arr 1 strD w)] [] (opR (opW ([50]::w)).1 (opW ([50]::w)).2) []:=by
 have hc:=kY [[[50]],w] ([50]::w) (by simp) (by simp) (by simp; omega) (by simp)
 have ho:=fj ([50]::w) (by
  intro x hx
  simp only[List.mem_cons]at hx
  rcases hx with rfl | hx
  ·decide
  ·exact hw x hx)
 refine au aa Tryz.func105 rfl rfl rfl ?_;refine sR<|rN ?_;refine rC<|nR ?_;refine aJ (aC (s:=1) aa rfl rfl rfl rfl rfl rfl rfl rfl) rfl ?_;refine rC ?_;refine bT (env':=[(4,_),(2,_),(5,_)]) (h':=[(64,some _)]) 80 _ rfl ⟨⟨_,rfl,Frz.lits1 (enc:=strD) [50] rfl rfl⟩,zE,zE,trivial⟩ ⟨⟨rfl,_,rfl,.refl _⟩,trivial⟩ ?_;refine aJ (aC (s:=1) aa rfl rfl rfl rfl rfl rfl rfl rfl) rfl ?_;refine bT (env':=[(6,_),(2,_)]) (h':=[(64,some _)]) 96 _ rfl ⟨⟨_,rfl,Frz.lits2 (enc:=lD) [[50]] w rfl rfl rfl rfl⟩,zE,trivial⟩ ⟨⟨rfl,_,rfl,.refl _⟩,trivial⟩ ?_;refine rQ (ak hc rfl rfl (aj ab) (.inl rfl) (fun _=>rfl)) ?_;refine rQ (ak ho rfl rfl (aj ab) (.inl rfl) (fun _=>rfl)) ?_;refine zD ?_;refine rW ?_;refine rC<|zT ?_
 exact⟨trivial,_,rfl,[],lf⟩
theorem rD (w:List (List UInt8)) (hw:∀x∈w,x.length≤1048576) (hl:w.length≤1048573):FnIs Tryz.prog 106 [.d (.arr 1 strD w)] [] (opR (opW ([51]::[48]::[45]::w)).1 (opW ([51]::[48]::[45]::w)).2) []:=by
 have hc:=kY [[[51],[48],[45]],w] ([51]::[48]::[45]::w) (by simp) (by simp) (by simp; omega) (by simp)
 have ho:=fj ([51]::[48]::[45]::w) (by
  intro x hx
  simp only[List.mem_cons]at hx
  rcases hx with rfl | rfl | rfl | hx
  ·decide
  ·decide
  ·decide
  ·exact hw x hx)
 refine au aa Tryz.func106 rfl rfl rfl ?_;refine sR<|rN ?_;refine rC<|nR ?_;refine aJ (aC (s:=1) aa rfl rfl rfl rfl rfl rfl rfl rfl) rfl ?_;refine rC ?_;refine bT (env':=[(4,_),(2,_),(5,_)]) (h':=[(64,some _)]) 80 _ rfl ⟨⟨_,rfl,Frz.litsN (t:=9) (s:=1) (m:=3) (ex:=true) (enc:=strD) [[51],[48],[45]] rfl (fun _ _=>rfl)⟩,zE,zE,trivial⟩ ⟨⟨rfl,_,rfl,.refl _⟩,trivial⟩ ?_;refine aJ (aC (s:=1) aa rfl rfl rfl rfl rfl rfl rfl rfl) rfl ?_;refine bT (env':=[(6,_),(2,_)]) (h':=[(64,some _)]) 96 _ rfl ⟨⟨_,rfl,Frz.lits2 (enc:=lD) [[51],[48],[45]] w rfl rfl rfl rfl⟩,zE,trivial⟩ ⟨⟨rfl,_,rfl,.refl _⟩,trivial⟩ ?_;refine rQ (ak hc rfl rfl (aj ab) (.inl rfl) (fun _=>rfl)) ?_;refine rQ (ak ho rfl rfl (aj ab) (.inl rfl) (fun _=>rfl)) ?_;refine zD ?_;refine rW ?_;refine rC<|zT ?_
 exact⟨trivial,_,rfl,[],lf⟩
end Go.Proofs.YtpjiiolnfbfcbaaGreatDoor
namespace Go.Eng
open Go.RowKit
section
variable {P : Program} {T : Tab} {env : Env} {h : Upds} {n : Nat}
theorem dI {t kt et:TypeId} {κ:Type} [DecidableEq κ] {enc:κ→D} {m r:Nat} {x y z:Operand} {k:κ} {l:List (κ×AV)} {v:AV} (K:fT P kt enc m) (ht:P.underlying t=some (.map kt et))
  (hx:ay env x=some (.mapr r)) (hy:ay env y=some (.d (enc k))) (hz:ay env z=some v) (hr:bp h r=some (.mo (mapC enc l))) (hf:dK k l 0=none) :
  an P (.insert t x y z) env h n none [(r,some (.mo (mapC enc (l++[(k,v)]))))]:=.of_comes fun C G st σ w a o ho hA hd hst hn=>by
 have h1:=(ao hst (hA.ev hx)).1
 have h2:=(ao hst (hA.ev hy)).1
 obtain⟨h3,h4⟩:=ao hst (hA.ev hz)
 have hrow:=hA.row _ _ hr
 obtain⟨b,c,hs,hux⟩:=RelV.mapr.1 h1
 obtain⟨b',es,hb1,hb2,hb3,hb4⟩:=hst.rows r _ hrow
 rw[hs]at hb2
 cases hb2
 have hl:=(cQ l _).1 hb4
 have hin:(mapC enc l).within G:=(hst.rowsG r _ hrow).2
 have hfd:=K.found h2 hl
 rw[hf]at hfd
 have hst':=hst.writeObj (o' :=.map (es.push { key:=a.eval y,val:=a.eval z,born:=es.size }) (es.size+1)) (row :=.mo (mapC enc (l++[(k,v)]))) hrow hs hb3 rfl
  ((dH _).2 fun p hp=>by
   rcases List.mem_append.1 hp with hp | hp
   ·exact (dH l).1 hin p hp
   ·rw[List.mem_singleton.1 hp]; exact h4)
  (fun w' ht' hh'=>⟨b,es.push { key:=a.eval y,val:=a.eval z,born:=es.size },fun i e he=>by
   rw[Array.getElem?_push]at he
   split at he
   ·rename_i hi; subst hi; cases he; rfl
   ·exact hb1 i e he,hs,by rw[Array.size_push]; exact hh',(cQ _ _).2 (by
    rw[Array.toList_push]
    exact ct.snoc (RelV.carry (G:=G) ht' trivial h2) (RelV.carry (G:=G) ht' h4 h3) l _ (ct.mono ht' hin hl))⟩)
 refine⟨none,_,.skip,undef, { w with heap:=w.heap.setIfInBounds b (.map (es.push { key:=a.eval y,val:=a.eval z,born:=es.size }) (es.size+1)) },σ,G,⟨rfl,rfl⟩,?_,.inr ⟨rfl,rfl⟩,?_,fun _ h=>h,fun _ h=>.inl h⟩
 ·have hget:(getObj b).run P w=.ok (.map es es.size) w:=by simp[getObj,Sem.run,hb3]
  have hset:=rf P w b (.map (es.push { key:=a.eval y,val:=a.eval z,born:=es.size }) (es.size+1)) hb3
  simp only[execOp,ho,Instr.mapUpdate,hux,Sem.run_bind,run_underlying ht,hget,Result.andThen_ok,K.check h2,hfd,hset,Sem.run_pure]
 ·rw[St.put_upd]
  exact hst'.set hd (v:=none) (ga _ _ _) trivial
end
end Go.Eng
namespace Go.Proofs.YtpjiiolnfbfcbaaGreatDoor
open Go.Eng Go.Plain
set_option maxHeartbeats 32000000
set_option maxRecDepth 20000
attribute [local irreducible] WC RegS RegD SeqQ BlkQ ScoQ RegK CutK Sat SatN FnIs LoopQ an OpIs
abbrev fnA (f:Nat):AV :=.fn (.func f) .anil .anil
def co:List (List UInt8×AV):=[(ei,fnA 102),(cn,fnA 105),(ej,fnA 106),(sOp,fnA 103)]
theorem dN:fT Tryz.prog 9 (fun l:List UInt8=>strD l) 1:=oV Tryz.underlying9
theorem rB:FnIs Tryz.prog 72 [] [] (.mapr 64) [(64,.mo (mapC strD co))]:=by
 refine au aa Tryz.func72 rfl rfl rfl ?_;refine sR<|rC<|nR ?_;refine aJ (qb) rfl ?_;refine bB rfl (dI (κ:=List UInt8) (enc:=strD) (l:=co.take 0) (k:=ei) dN Tryz.underlying134 rfl rfl rfl rfl rfl) rfl rfl ?_;refine bB rfl (dI (κ:=List UInt8) (enc:=strD) (l:=co.take 1) (k:=cn) dN Tryz.underlying134 rfl rfl rfl rfl rfl) rfl rfl ?_;refine bB rfl (dI (κ:=List UInt8) (enc:=strD) (l:=co.take 2) (k:=ej) dN Tryz.underlying134 rfl rfl rfl rfl rfl) rfl rfl ?_;refine bB rfl (dI (κ:=List UInt8) (enc:=strD) (l:=co.take 3) (k:=sOp) dN Tryz.underlying134 rfl rfl rfl rfl rfl) rfl rfl ?_;refine zD<|zT ?_
 exact⟨trivial,[(64,some 72)],lg zV ⟨zR,trivial⟩⟩
end Go.Proofs.YtpjiiolnfbfcbaaGreatDoor
namespace Go.Eng
open Go.RowKit
section
variable {P : Program} {T : Tab} {env : Env} {h : Upds} {n : Nat}
theorem ib (hT:aq P T) {t e:Nat} {re:TyR} {x i j:Operand} {α:Type} {s:Nat} {enc:α→D} {xs:List α} {k k':IntKind} (ht:bh T t=some (.slice e)) (he:lk T e=some re)
  (hx:ay env x=some (.d (.arr s enc xs))) (hi:ay env i=some (.int k xs.length)) (hj:ay env j=some (.int k' xs.length)):an P (.slice t x none (some i) (some j)) env h n (some (.d (.arx s enc xs))) []:=.of_comes fun C G st σ w a o ho hA hdst hst hn=>by
 obtain⟨ud,hud,hdd⟩:=aS hT ht
 cases hdd
 obtain⟨hx1,_⟩:=ao hst (hA.ev hx)
 obtain⟨hi1,_⟩:=RelV.sc.1 (ao hst (hA.ev hi)).1
 obtain⟨hj1,_⟩:=RelV.sc.1 (ao hst (hA.ev hj)).1
 have hsz:=(hT e re he).run_size (P:=P)
 rcases RelV.arr.1 hx1 with ⟨rfl,hv⟩ | ⟨ad,c,hv,hc1,hc2,f,hf⟩
 ·refine .quiet (u :=.slice none 0 0) hst hdst ⟨rfl,rfl⟩ ?_ (RelV.arx.2 (.inl ⟨rfl,_,rfl⟩)) trivial
  simp[execOp,ho,Instr.sliceAt,Instr.slice,hv,hi1,hj1,run_underlying hud,Instr.sliceBounds,Instr.sliceBound,asIntOf,hsz,Sem.run_bind,Sem.run_pure,Result.andThen_ok]
 ·refine .quiet (u :=.slice (some ad) xs.length xs.length) hst hdst ⟨rfl,rfl⟩ ?_ (RelV.arx.2 (.inr ⟨ad,rfl,by omega,f,hf⟩)) trivial
  have hle:(xs.length:Int)≤(c:Int):=by omega
  simp[execOp,ho,Instr.sliceAt,Instr.slice,hv,hi1,hj1,run_underlying hud,Instr.sliceBounds,Instr.sliceBound,asIntOf,hsz,Sem.run_bind,Sem.run_pure,Result.andThen_ok,hc1,Addr.add_zero']
end
end Go.Eng
namespace Go.Proofs.YtpjiiolnfbfcbaaGreatDoor
open Go.Eng Go.Plain
set_option maxHeartbeats 32000000
set_option maxRecDepth 20000
attribute [local irreducible] WC RegS RegD SeqQ BlkQ ScoQ RegK CutK Sat SatN FnIs LoopQ an OpIs
theorem xk (l:List POp) (hp:0<l.length) (hlen:l.length≤1048576):FnIs Tryz.prog 77 [.d (encP l)] [] (.own 64 0 l.length 3 none) [(64,.ds 27 3 false bu l)]:=by
 refine au aa Tryz.func77 rfl rfl rfl ?_;refine sR<|rC<|zW ?_;refine rC ?_;refine rQ (tj aa rfl rfl rfl hp)<|nS ?_;refine wG<|kS<|sR ?_;refine rQ (fS aa rfl rfl) ?_;refine rC ?_;refine aJ (gy aa rfl rfl rfl rfl rfl (.inl rfl) rfl hp hlen rfl) rfl ?_;refine rC<|zT ?_
 exact⟨trivial,[(64,some 104)],lg zV ⟨zR,trivial⟩⟩
theorem yL:FnIs Tryz.prog 77 [.d (encP [])] [] (.d (encP [])) []:=by
 refine FnIs.split_arr ?_ ?_
 ·refine au aa Tryz.func77 rfl rfl rfl ?_;refine sR<|rC<|zW ?_;refine rC ?_;refine rQ (wZ aa rfl rfl rfl)<|nS ?_;refine wV<|sR ?_;refine rC<|zT<|aP ?_
  exact⟨trivial,[],lg ⟨⟨_,rfl,gQ _ _⟩,rfl,trivial⟩ trivial⟩
 ·rintro⟨a,c⟩
  refine au aa Tryz.func77 rfl rfl rfl ?_;refine sR<|rC<|zW ?_;refine rC ?_;refine rQ (qA aa rfl rfl rfl)<|nS ?_;refine wG<|kS<|sR ?_;refine rQ (fS aa rfl rfl) ?_;refine rC ?_;refine rQ (nt aa rfl rfl rfl rfl) ?_;refine rC<|nS<|bR ?_
  exact⟨trivial,[],lg ⟨⟨_,rfl,AVLe.empty_arr _ _⟩,rfl,trivial⟩ trivial⟩
theorem xl (l:List POp) (hlen:l.length≤1048576):FnIs Tryz.prog 77 [.d (encP l)] [] (.d (encP l)) []:=by
 cases l with
 | nil=>exact yL
 | cons a l=>exact (xk (a::l) (by simp) hlen).freeze_out 64 _ rfl (Frz.own rfl) trivial
abbrev jA (p:List POp):D :=.arx 3 bu p
abbrev n4 (l:List (List POp)):D :=.arr 1 jA l
theorem u7 (l:List (List POp)) (hp:0<l.length) (hlen:l.length≤1048576):FnIs Tryz.prog 79 [.d (n4 l)] [] (.own 64 0 l.length 1 none) [(64,.ds 111 1 false jA l)]:=by
 refine au aa Tryz.func79 rfl rfl rfl ?_;refine sR<|rC<|zW ?_;refine rC ?_;refine rQ (tj aa rfl rfl rfl hp)<|nS ?_;refine wG<|kS<|sR ?_;refine rQ (fS aa rfl rfl) ?_;refine rC ?_;refine aJ (gy aa rfl rfl rfl rfl rfl (.inl rfl) rfl hp hlen rfl) rfl ?_;refine rC<|zT ?_
 exact⟨trivial,[(64,some 104)],lg zV ⟨zR,trivial⟩⟩
theorem xj:FnIs Tryz.prog 79 [.d (n4 [])] [] (.d (n4 [])) []:=by
 refine FnIs.split_arr ?_ ?_
 ·refine au aa Tryz.func79 rfl rfl rfl ?_;refine sR<|rC<|zW ?_;refine rC ?_;refine rQ (wZ aa rfl rfl rfl)<|nS ?_;refine wV<|sR ?_;refine rC<|zT<|aP ?_
  exact⟨trivial,[],lg ⟨⟨_,rfl,gQ _ _⟩,rfl,trivial⟩ trivial⟩
 ·rintro⟨a,c⟩
  refine au aa Tryz.func79 rfl rfl rfl ?_;refine sR<|rC<|zW ?_;refine rC ?_;refine rQ (qA aa rfl rfl rfl)<|nS ?_;refine wG<|kS<|sR ?_;refine rQ (fS aa rfl rfl) ?_;refine rC ?_;refine rQ (nt aa rfl rfl rfl rfl) ?_;refine rC<|nS<|bR ?_
  exact⟨trivial,[],lg ⟨⟨_,rfl,AVLe.empty_arr _ _⟩,rfl,trivial⟩ trivial⟩
theorem og (l:List (List POp)) (hlen:l.length≤1048576):FnIs Tryz.prog 79 [.d (n4 l)] [] (.d (n4 l)) []:=by
 cases l with
 | nil=>exact xj
 | cons a l=>exact (u7 (a::l) (by simp) hlen).freeze_out 64 _ rfl (Frz.own rfl) trivial
theorem yM (l:List POp):FnIs Tryz.prog 76 [.d (encP l)] [] (.d (jA l)) []:=by
 refine au aa Tryz.func76 rfl rfl rfl ?_;refine sR<|rC<|nR ?_;refine zD ?_;refine rQ iE ?_;refine rC ?_;refine rQ iE ?_;refine rQ (ib aa rfl rfl rfl rfl rfl) ?_;refine rC<|zT ?_
 exact⟨trivial,[],lf⟩
theorem qC (l:List (List POp)):FnIs Tryz.prog 78 [.d (n4 l)] [] (.d (.arx 1 jA l)) []:=by
 refine au aa Tryz.func78 rfl rfl rfl ?_;refine sR<|rC<|nR ?_;refine zD ?_;refine rQ iE ?_;refine rC ?_;refine rQ iE ?_;refine rQ (ib aa rfl rfl rfl rfl rfl) ?_;refine rC<|zT ?_
 exact⟨trivial,[],lf⟩
theorem yg {α:Type} (enc:α→D) (hsz:∀x,bK tab 27 (.d (enc x))=true) (p:α→Bool) (g:FuncId) (xs:List α) (hL:xs.length≤1000000000) (hg:∀x∈xs,FnIs Tryz.prog g [.d (enc x)] [] (.bool (p x)) []):FnIs Tryz.prog 135 [.d (.arr 3 enc xs),.fn (.func g) .anil .anil] [] (.int .i64 (idxF p xs)) []:=by
 refine au aa Tryz.func135 rfl rfl rfl ?_;refine sR<|rC<|zW ?_;refine rC ?_;refine rQ iE ?_;refine rC<|zP ?_
 refine wc_inv (fun i:Nat=>⟨[(8,.int .i64 i),(7,.int .i64 xs.length),(1,.fn (.func g) .anil .anil),(0,.d (.arr 3 enc xs))],[],72,Tryz.f135.ntmps,64⟩) (fun i=>i≤xs.length∧∀j,j<i→∀y,xs[j]?=some y→p y=false) (fun i=>xs.length-i) 0 [] ⟨Nat.zero_le _,fun j hj=>absurd hj (Nat.not_lt_zero _)⟩
  (lg zi trivial) ?_
 rintro i ⟨hi,hno⟩
 refine bG<|sR ?_;refine rC<|nQ ?_
 refine bO rfl (fun h2=>?_) (fun h2=>?_)
 ·have hlt:i<xs.length:=by have:=of_decide_eq_true h2; omega
  obtain⟨x,hx⟩:∃u,xs[i]?=some u:=⟨_,List.getElem?_eq_getElem hlt⟩
  have hx':xs[((i:Int)).toNat]?=some x:=by rw[Int.toNat_natCast]; exact hx
  have hpx:=hg x (List.mem_of_getElem? hx)
  have hs:=hsz x
  cases hp:p x with
  | true =>
   refine zQ<|zS<|zD<|nR ?_;refine zU ?_;refine rQ (aF aa rfl rfl rfl rfl rfl (by omega) hx') ?_;refine rQ (cT aa rfl hs) ?_;refine rQ (ak hpx rfl rfl (aj ab) (.inl rfl) (fun _=>rfl)) ?_;refine zI<|sR ?_;refine zD<|zT<|zB<|ce<|zB ?_
   exact⟨trivial,[],lg ⟨⟨_,rfl,AVLe.of_eq (by rw[kH hx hp hno]; rfl)⟩,rfl,trivial⟩ trivial⟩
  | false =>
   refine zQ<|zS<|zD<|nR ?_;refine zU ?_;refine rQ (aF aa rfl rfl rfl rfl rfl (by omega) hx') ?_;refine rQ (cT aa rfl hs) ?_;refine rQ (ak hpx rfl rfl (aj ab) (.inl rfl) (fun _=>rfl)) ?_
   refine zG<|aL<|zC<|am ?_;refine rQ iD ?_;refine rC<|aA ?_;refine aN (i+1) [] ⟨hlt,fun j hj y hy=>?_⟩ (by omega) ?_
   ·by_cases e:j=i
    ·subst e
     rw[hx]at hy
     cases hy
     exact hp
    ·exact hno j (by omega) y hy
   ·exact lg zi trivial
 ·have he:i=xs.length:=by have:=of_decide_eq_false h2; omega
  refine zX<|sR<|rC<|zT ?_
  exact⟨trivial,[],lg ⟨⟨_,rfl,AVLe.of_eq (by
   rw[kI fun j y hy=>hno j (by have:=(List.getElem?_eq_some_iff.1 hy).1; omega) y hy]
   rfl)⟩,rfl,trivial⟩ trivial⟩
theorem wE {α:Type} (enc:α→D) (hsz:∀x,bK tab 27 (.d (enc x))=true) (p:α→Bool) (g:FuncId) (xs:List α) (hL:xs.length≤1000000000) (hg:∀x∈xs,FnIs Tryz.prog g [.d (enc x)] [] (.bool (p x)) []):FnIs Tryz.prog 114 [.d (.arr 3 enc xs),.fn (.func g) .anil .anil] [] (.bool (xs.any p)) []:=by
 refine au aa Tryz.func114 rfl rfl rfl ?_;refine sR<|rC<|nR ?_;refine zD ?_;refine rQ (ak (yg enc hsz p g xs hL hg) rfl rfl (aj (k7 ab)) (.inl rfl) (fun _=>rfl)) ?_;refine zD<|zT ?_
 exact⟨trivial,[],lg ⟨⟨_,rfl,AVLe.of_eq (by rw[←mV]; rfl)⟩,rfl,trivial⟩ trivial⟩
theorem zA {α:Type} (enc:α→D) (hsz:∀x,bK tab 111 (.d (enc x))=true) (p:α→Bool) (g:FuncId) (xs:List α) (hL:xs.length≤1000000000) (hg:∀x∈xs,FnIs Tryz.prog g [.d (enc x)] [] (.bool (p x)) []):FnIs Tryz.prog 136 [.d (.arr 1 enc xs),.fn (.func g) .anil .anil] [] (.int .i64 (idxF p xs)) []:=by
 refine au aa Tryz.func136 rfl rfl rfl ?_;refine sR<|rC<|zW ?_;refine rC ?_;refine rQ iE ?_;refine rC<|zP ?_
 refine wc_inv (fun i:Nat=>⟨[(8,.int .i64 i),(7,.int .i64 xs.length),(1,.fn (.func g) .anil .anil),(0,.d (.arr 1 enc xs))],[],72,Tryz.f136.ntmps,64⟩) (fun i=>i≤xs.length∧∀j,j<i→∀y,xs[j]?=some y→p y=false) (fun i=>xs.length-i) 0 [] ⟨Nat.zero_le _,fun j hj=>absurd hj (Nat.not_lt_zero _)⟩
  (lg zi trivial) ?_
 rintro i ⟨hi,hno⟩
 refine bG<|sR ?_;refine rC<|nQ ?_
 refine bO rfl (fun h2=>?_) (fun h2=>?_)
 ·have hlt:i<xs.length:=by have:=of_decide_eq_true h2; omega
  obtain⟨x,hx⟩:∃u,xs[i]?=some u:=⟨_,List.getElem?_eq_getElem hlt⟩
  have hx':xs[((i:Int)).toNat]?=some x:=by rw[Int.toNat_natCast]; exact hx
  have hpx:=hg x (List.mem_of_getElem? hx)
  have hs:=hsz x
  cases hp:p x with
  | true =>
   refine zQ<|zS<|zD<|nR ?_;refine zU ?_;refine rQ (aF aa rfl rfl rfl rfl rfl (by omega) hx') ?_;refine rQ (cT aa rfl hs) ?_;refine rQ (ak hpx rfl rfl (aj ab) (.inl rfl) (fun _=>rfl)) ?_;refine zI<|sR ?_;refine zD<|zT<|zB<|ce<|zB ?_
   exact⟨trivial,[],lg ⟨⟨_,rfl,AVLe.of_eq (by rw[kH hx hp hno]; rfl)⟩,rfl,trivial⟩ trivial⟩
  | false =>
   refine zQ<|zS<|zD<|nR ?_;refine zU ?_;refine rQ (aF aa rfl rfl rfl rfl rfl (by omega) hx') ?_;refine rQ (cT aa rfl hs) ?_;refine rQ (ak hpx rfl rfl (aj ab) (.inl rfl) (fun _=>rfl)) ?_
   refine zG<|aL<|zC<|am ?_;refine rQ iD ?_;refine rC<|aA ?_;refine aN (i+1) [] ⟨hlt,fun j hj y hy=>?_⟩ (by omega) ?_
   ·by_cases e:j=i
    ·subst e
     rw[hx]at hy
     cases hy
     exact hp
    ·exact hno j (by omega) y hy
   ·exact lg zi trivial
 ·have he:i=xs.length:=by have:=of_decide_eq_false h2; omega
  refine zX<|sR<|rC<|zT ?_
  exact⟨trivial,[],lg ⟨⟨_,rfl,AVLe.of_eq (by
   rw[kI fun j y hy=>hno j (by have:=(List.getElem?_eq_some_iff.1 hy).1; omega) y hy]
   rfl)⟩,rfl,trivial⟩ trivial⟩
theorem s7 {α:Type} (enc:α→D) (hsz:∀x,bK tab 111 (.d (enc x))=true) (p:α→Bool) (g:FuncId) (xs:List α) (hL:xs.length≤1000000000) (hg:∀x∈xs,FnIs Tryz.prog g [.d (enc x)] [] (.bool (p x)) []):FnIs Tryz.prog 116 [.d (.arr 1 enc xs),.fn (.func g) .anil .anil] [] (.bool (xs.any p)) []:=by
 refine au aa Tryz.func116 rfl rfl rfl ?_;refine sR<|rC<|nR ?_;refine zD ?_;refine rQ (ak (zA enc hsz p g xs hL hg) rfl rfl (aj (k7 ab)) (.inl rfl) (fun _=>rfl)) ?_;refine zD<|zT ?_
 exact⟨trivial,[],lg ⟨⟨_,rfl,AVLe.of_eq (by rw[←mV]; rfl)⟩,rfl,trivial⟩ trivial⟩
theorem yb (o:POp):FnIs Tryz.prog 115 [.d (bu o)] [] (.bool (decide (64<o.data.length))) []:=by
 have e:decide ((64:Int)<((byI o.data).length:Int))=decide (64<o.data.length):=by rw[b6]; exact decide_eq_decide.2 (by omega)
 refine au aa Tryz.func115 rfl rfl rfl ?_;refine sR<|rN ?_;refine rC<|nR ?_;refine rC ?_;refine rQ iB ?_;refine rQ iE ?_;refine zD<|zT ?_
 exact⟨trivial,[],lg ⟨⟨_,rfl,AVLe.of_eq (congrArg (fun b=>AV.bool b) e)⟩,rfl,trivial⟩ trivial⟩
theorem wu (p:List POp) (hL:p.length≤1000000000):FnIs Tryz.prog 113 [.d (encP p)] [] (.bool (badP p)) []:=by
 have e:decide ((64:Int)<(p.length:Int))=decide (64<p.length):=decide_eq_decide.2 (by omega)
 refine au aa Tryz.func113 rfl rfl rfl ?_
 cases h:decide ((64:Int)<(p.length:Int)) with
 | true =>
  rw[h]at e
  refine sR<|rC<|nR ?_;refine rC ?_;refine rQ iE ?_;refine zD ?_
  iterate 2 refine rS ?_
  refine rQ iT ?_;refine rC<|zT ?_
  exact⟨trivial,[],lg ⟨⟨_,rfl,AVLe.of_eq (by rw[badP,←e]; rfl)⟩,rfl,trivial⟩ trivial⟩
 | false =>
  rw[h]at e
  refine sR<|rC<|nR ?_;refine rC ?_;refine rQ iE ?_;refine zD ?_;refine rO ?_;refine rC ?_;refine rO ?_;refine rQ (ak (wE bu (fun _=>rfl) (fun o=>decide (64<o.data.length)) _ p hL (fun o _=>yb o)) rfl rfl (aj (k7 ab)) (.inl rfl) (fun _=>rfl)) ?_;refine rQ iF ?_;refine rC<|zT ?_
  exact⟨trivial,[],lg ⟨⟨_,rfl,AVLe.of_eq (by rw[badP,←e]; rfl)⟩,rfl,trivial⟩ trivial⟩
theorem nj (l:List (List POp)) (hL:l.length≤1000000000) (hP:∀p∈l,p.length≤1000000000):FnIs Tryz.prog 90 [.d (lF l)] [] (.int .i64 (chkP l)) []:=by
 refine au aa Tryz.func90 rfl rfl rfl ?_
 cases h:decide ((8:Int)<(l.length:Int)) with
 | true =>
  have h8:8<l.length:=by have:=of_decide_eq_true h; omega
  refine sR<|rC<|nR ?_;refine rC<|zW ?_;refine rC ?_;refine rQ iE ?_;refine zD ?_
  iterate 3 refine rS ?_
  refine rQ iT ?_;refine zO<|sR ?_;refine rC<|zT<|aP ?_
  exact⟨trivial,[],lg ⟨⟨_,rfl,AVLe.of_eq (by rw[chkP,if_pos h8]; rfl)⟩,rfl,trivial⟩ trivial⟩
 | false =>
  have h8:¬8<l.length:=by have:=of_decide_eq_false h; omega
  cases hb:l.any badP with
  | true =>
   refine sR<|rC<|nR ?_;refine rC<|zW ?_;refine rC ?_;refine rQ iE ?_;refine zD ?_;refine rO ?_;refine rC ?_;refine rO ?_;refine rC ?_;refine rO ?_;refine rQ (ak (s7 encP (fun _=>rfl) badP _ l hL (fun p hp=>wu p (hP p hp))) rfl rfl (aj (k7 ab)) (.inl rfl) (fun _=>rfl)) ?_;refine rQ iF ?_;refine zI<|sR ?_;refine rC<|zT<|aP ?_
   exact⟨trivial,[],lg ⟨⟨_,rfl,AVLe.of_eq (by rw[chkP,if_neg h8,if_pos hb]; rfl)⟩,rfl,trivial⟩ trivial⟩
  | false =>
   refine sR<|rC<|nR ?_;refine rC<|zW ?_;refine rC ?_;refine rQ iE ?_;refine zD ?_;refine rO ?_;refine rC ?_;refine rO ?_;refine rC ?_;refine rO ?_;refine rQ (ak (s7 encP (fun _=>rfl) badP _ l hL (fun p hp=>wu p (hP p hp))) rfl rfl (aj (k7 ab)) (.inl rfl) (fun _=>rfl)) ?_;refine rQ iF ?_;refine zG<|kS<|sR ?_;refine rC<|zT ?_
   exact⟨trivial,[],lg ⟨⟨_,rfl,AVLe.of_eq (by rw[chkP,if_neg h8,if_neg (by rw[hb]; simp)]; rfl)⟩,rfl,trivial⟩ trivial⟩
def Bd (l:List (List POp)):Prop:=l.length≤1000000000∧∀p∈l,p.length≤1000000000
theorem Ap {l:List (List POp)} (h:chkP l=0):Bd l:=by
 obtain⟨h1,h2⟩:=dV.1 h
 refine⟨by omega,fun p hp=>?_⟩
 have:=h2 p hp
 simp only[badP,Bool.or_eq_false_iff,decide_eq_false_iff_not]at this
 omega
def ey (l:List (List POp)) (i:Nat) (p:List POp) (j:Nat):List UInt8:=bX (l.take i)++(aI++10::opsT (p.take j))
theorem rK (l:List (List POp)) (i:Nat) (p:List POp):ey l i p 0=bX (l.take i)++(aI++[10]):=by simp[ey,opsT]
theorem wg {l:List (List POp)} {i j:Nat} {p:List POp} {o:POp} (ho:p[j]?=some o):ey l i p j++(bd o++[10])=ey l i p (j+1):=by
 rw[ey,ey,List.take_add_one,ho,Option.toList_some,nM]
 simp
theorem kz {l:List (List POp)} {i:Nat} {p:List POp} (hp:l[i]?=some p):ey l i p p.length=bX (l.take (i+1)):=by
 rw[ey,List.take_length,List.take_add_one,hp,Option.toList_some,gE]
theorem tZ (a b:List (List POp)):bX (a++b)=bX a++bX b:=by simp[bX]
theorem vt (l:List (List POp)) (i:Nat):(bX (l.take i)).length≤(bX l).length:=by
 have:=congrArg List.length (tZ (l.take i) (l.drop i))
 rw[List.take_append_drop,List.length_append]at this
 omega
theorem wk (a b:List POp):opsT (a++b)=opsT a++opsT b:=by simp[opsT]
theorem xZ (l:List POp) (i:Nat):(opsT (l.take i)).length≤(opsT l).length:=by
 have:=congrArg List.length (wk (l.take i) (l.drop i))
 rw[List.take_append_drop,List.length_append]at this
 omega
theorem p4 {l:List (List POp)} {i j:Nat} {p:List POp} (hp:l[i]?=some p):(ey l i p j).length≤(bX l).length:=by
 have h1:=vt l (i+1)
 rw[←kz hp]at h1
 have h2:=xZ p j
 simp only[ey,List.length_append,List.length_cons,List.take_length]at h1 ⊢
 omega
theorem vq {l:List (List POp)} (hok:OkL l) (hc:chkP l=0):(bX l).length≤1048576∧∀p∈l,∀o∈p,o.data.length≤64:=by
 obtain⟨h1,h2⟩:=dV.1 hc
 have hb:∀p∈l,p.length≤64∧∀o∈p,o.Ok∧o.data.length≤64:=fun p hp=>by
  have:=h2 p hp
  simp only[badP,Bool.or_eq_false_iff,decide_eq_false_iff_not,List.any_eq_false,decide_eq_true_eq]at this
  exact⟨by omega,fun o ho=>⟨hok p hp o ho,by have:=this.2 o ho; omega⟩⟩
 have:=pv (D:=64) (N:=64) l hb
 have h3:(7+(51+2*64)*64)*l.length≤(7+(51+2*64)*64)*8:=Nat.mul_le_mul_left _ h1
 exact⟨by omega,fun p hp o ho=>((hb p hp).2 o ho).2⟩
theorem vr (l:List (List POp)) (hB:Bd l) (h0:chkP l≠0):FnIs Tryz.prog 64 [.d (lF l)] [] (.tup (.acons (.d (strD [])) (.acons (.d (i6 (chkP l))) .anil))) []:=by
 have hC:=nj l hB.1 hB.2
 have hn:(!decide (chkP l=0))=true:=by rw[dF h0]; rfl
 refine au aa Tryz.func64 rfl rfl rfl ?_;refine sR<|zD<|zW ?_;refine rC ?_;refine rQ (ak hC rfl rfl (aj ab) (.inl rfl) (fun _=>rfl)) ?_;refine rC<|nR ?_;refine zD ?_;refine zI<|sR ?_;refine zU<|zT<|aP ?_
 exact⟨trivial,[],lf⟩
theorem tX:FnIs Tryz.prog 64 [.d (lF [])] [] (.tup (.acons (.d (strD [])) (.acons (.d (i6 0)) .anil))) []:=by
 have hC:=nj [] (by decide) (by simp)
 have h0:chkP []=0:=rfl
 rw[h0]at hC
 refine au aa Tryz.func64 rfl rfl rfl ?_;refine sR<|zD<|zW ?_;refine rC ?_;refine rQ (ak hC rfl rfl (aj ab) (.inl rfl) (fun _=>rfl)) ?_;refine rC<|nR ?_;refine zD ?_;refine zJ<|kS<|sR ?_;refine rN<|zW ?_;refine rC ?_;refine rQ iE ?_;refine rC<|zP ?_;refine jN<|sR ?_;refine rC<|nQ ?_;refine wG<|zX<|sR ?_;refine aJ (bJ [(0,some 120)] km rfl rfl rfl (bC rfl rfl ab) ⟨zH,trivial⟩ rfl rfl (.inl rfl) rfl rfl) rfl ?_;refine zD<|zT ?_
 exact⟨trivial,[],lf⟩
theorem tY (l:List (List POp)) (hB:Bd l) (hne:l≠[]) (h0:chkP l=0) (hok:OkL l):FnIs Tryz.prog 64 [.d (lF l)] [] (.tup (.acons (.d (strD (bX l))) (.acons (.d (i6 0)) .anil))) []:=by
 have hC:=nj l hB.1 hB.2
 obtain⟨htm,hdm⟩:=vq hok h0
 rw[h0]at hC
 have hl8:l.length≤8:=(dV.1 h0).1
 refine au aa Tryz.func64 rfl rfl rfl ?_;refine sR<|zD<|zW ?_;refine rC ?_;refine rQ (ak hC rfl rfl (aj ab) (.inl rfl) (fun _=>rfl)) ?_;refine rC<|nR ?_;refine zD ?_;refine zJ<|kS<|sR ?_;refine rN<|zW ?_;refine rC ?_;refine rQ iE ?_;refine rC<|zP ?_
 refine wc_inv (fun i:Nat=>⟨[(17,.int .i64 i),(16,.int .i64 l.length),(15,.d (lF l)),(5,.ptr 65 [])],[(65,some (cY (Nat.beq i 0) 65 66 (bX (l.take i)).length)),(66,some (rowT (bX (l.take i))))],72,Tryz.f64.ntmps,64⟩) (fun i=>i≤l.length) (fun i=>l.length-i) 0 [(65,some 120),(66,none)] (Nat.zero_le _)
  (lg zi ⟨⟨rfl,rfl,_,rfl,bj.split2⟩,⟨rfl,rfl,rfl⟩,trivial⟩) ?_
 intro i hi
 refine bG<|sR ?_;refine rC<|nQ ?_
 refine bO rfl (fun h3=>?_) (fun h3=>?_)
 ·have hlt:i<l.length:=by have:=of_decide_eq_true h3; omega
  obtain⟨p,hp⟩:∃p,l[i]?=some p:=⟨_,List.getElem?_eq_getElem hlt⟩
  have hp':l[((i:Int)).toNat]?=some p:=by rw[Int.toNat_natCast]; exact hp
  have hpm:=List.mem_of_getElem? hp
  have hpB:p.length≤1000000000:=hB.2 p hpm
  have hz:=p4 (j:=0) hp
  have hpz:=rK l i p
  have hpn:(ey l i p 0).length=(bX (l.take i)).length+(aI++[10]).length:=by rw[hpz,List.length_append]
  have hq1:(bX (l.take i)).length+(aI++[10]).length≤1048576:=by rw[hpz,List.length_append]at hz; omega
  refine zQ<|zS<|rQ iA ?_;refine rQ iL ?_;refine rC<|nR ?_;refine bB rfl (bJ [(0,some 65),(1,some 66)] (ia (Nat.beq i 0) (bX (l.take i)) (aI++[10]) (bX (l.take i)).length rfl (by decide) hq1) rfl rfl rfl (bC rfl rfl (aj ab)) ⟨⟨rfl,(by cases Nat.beq i 0 <;> rfl),_,_,rfl,rfl,(by cases Nat.beq i 0 <;> exact .refl _)⟩,zH,trivial⟩ rfl rfl (.inl rfl) rfl rfl) rfl rfl<|nR ?_;refine rC ?_;refine rQ iE ?_;refine rC<|zP ?_
  refine wc_inv (fun j:Nat=>⟨[(24,.int .i64 j),(23,.int .i64 p.length),(22,.d (encP p)),(17,.int .i64 i),(16,.int .i64 l.length),(15,.d (lF l)),(5,.ptr 65 [])],[(65,some (cY false 65 66 (ey l i p j).length)),(66,some (rowT (ey l i p j)))],72,Tryz.f64.ntmps,64⟩) (fun j=>j≤p.length) (fun j=>p.length-j) 0 [(66,some 104)] (Nat.zero_le _)
   (lg zf ⟨⟨rfl,rfl,_,rfl,bj.of_eq (by rw[hpn]; rfl)⟩,⟨rfl,rfl,_,rfl,bj.of_eq (by rw[hpz]; rfl)⟩,trivial⟩) ?_
  intro j hj
  refine bG<|sR ?_;refine rC<|nQ ?_
  refine bO rfl (fun h4=>?_) (fun h4=>?_)
  ·have hjl:j<p.length:=by have:=of_decide_eq_true h4; omega
   obtain⟨o,ho⟩:∃o,p[j]?=some o:=⟨_,List.getElem?_eq_getElem hjl⟩
   have ho':p[((j:Int)).toNat]?=some o:=by rw[Int.toNat_natCast]; exact ho
   have hom:=List.mem_of_getElem? ho
   have ho1:=hok p hpm o hom
   have ho2:o.data.length≤524288:=by have:=hdm p hpm o hom; omega
   have hgo:=wg (l:=l) (i:=i) ho
   have hpl:=p4 (j:=j+1) hp
   have hgn:(ey l i p (j+1)).length=(ey l i p j).length+(bd o++[10]).length:=by rw[←hgo,List.length_append]
   have hq2:(ey l i p j).length+(bd o++[10]).length≤1048576:=by rw[←hgo,List.length_append]at hpl; omega
   have hq3:(bd o).length+[(10:UInt8)].length≤9223372036854775807:=by simp only[List.length_append]at hq2; omega
   have hq4:0<(bd o++[10]).length:=by simp
   refine zQ<|zS<|rQ iA ?_;refine rQ iL ?_;refine rN ?_;refine rW<|nS<|am ?_;refine rQ iM ?_;refine rQ (ak (oS o ho1 ho2) rfl rfl (aj ab) (.inl rfl) (fun _=>rfl)) ?_;refine rQ (aG (a:=bd o) (b:=[10]) rfl rfl hq3 rfl) ?_;refine bB rfl (bJ [(0,some 65),(1,some 66)] (ia false (ey l i p j) (bd o++[10]) (ey l i p j).length rfl hq4 hq2) rfl rfl rfl (bC rfl rfl (aj ab)) ⟨zH,zH,trivial⟩ rfl rfl (.inl rfl) rfl rfl) rfl rfl<|aA<|zC<|am ?_;refine rQ iD ?_;refine rC<|aA ?_
   exact aN (j+1) [(66,some 136)] hjl (by omega) (lg zf ⟨⟨rfl,rfl,_,rfl,bj.of_eq (by rw[hgn]; rfl)⟩,⟨rfl,rfl,_,rfl,bj.of_eq (congrArg rowT hgo)⟩,trivial⟩)
  ·have he:j=p.length:=by have:=of_decide_eq_false h4; omega
   subst he
   refine cv<|ew<|fe<|eD<|zC<|am<|rQ iD ?_;refine rC<|aA ?_
   exact aN (i+1) [] hlt (by omega) (lg zi ⟨⟨rfl,rfl,_,rfl,bj.of_eq (by rw[kz hp]; rfl)⟩,⟨rfl,rfl,_,rfl,bj.of_eq (congrArg rowT (kz hp))⟩,trivial⟩)
 ·have he:i=l.length:=by have:=of_decide_eq_false h3; omega
  subst he
  have hpos:0<l.length:=List.length_pos_iff.2 hne
  have hne2:bX l≠[]:=fun e=>by
   cases l with
   | nil=>exact hne rfl
   | cons p l=>simp[bX,aI]at e
  have hbz:Nat.beq l.length 0=false:=by
   cases hz:Nat.beq l.length 0 with
   | false=>rfl
   | true=>have:=Nat.eq_of_beq_eq_true hz; omega
  rw[hbz,List.take_length]
  refine zX<|sR<|aT (bJ [(0,some 65),(1,some 66)] (gY (bX l) (bX l).length rfl hne2 htm) rfl rfl rfl (bC rfl rfl ab) ⟨zH,zH,trivial⟩ rfl rfl (.inl rfl) rfl rfl) rfl ?_;refine zD<|zT ?_
  exact⟨trivial,[],lf⟩
theorem xO (l:List (List POp)) (hB:Bd l) (hok:OkL l):FnIs Tryz.prog 64 [.d (lF l)] [] (.tup (.acons (.d (strD (if chkP l=0 then bX l else[]))) (.acons (.d (i6 (chkP l))) .anil))) []:=by
 by_cases h0:chkP l=0
 ·rw[if_pos h0,h0]
  by_cases hn:l=[]
  ·subst hn; exact tX
  ·exact tY l hB hn h0 hok
 ·rw[if_neg h0]
  exact vr l hB h0
end Go.Proofs.YtpjiiolnfbfcbaaGreatDoor
namespace Go.Eng
open Go.RowKit
def chM (A:AV):List D→AV
 | []=>.acons A .anil
 | d::l=>.acons (.d d) (chM A l)
theorem sI {A:AV} {s:Nat}:∀(l:List D),(∀d∈l,d.size=s)→(chM A l).chainAt l.length (l.length*s)=some A
 | [],_=>by simp[chM,AV.chainAt]
 | d::l,h=>by
  have hd:=h d (by simp)
  simp only[chM,List.length_cons,AV.chainAt,AV.size,hd]
  have e:Nat.ble s ((l.length+1)*s)=true:=Nat.ble_eq_true_of_le (by rw[Nat.add_mul]; omega)
  rw[e,show (l.length+1)*s-s=l.length*s by rw[Nat.add_mul]; omega]
  exact sI l fun x hx=>h x (by simp[hx])
theorem tC {A x:AV}:∀(l:List D),AV.chainSet x l.length (chM A l)=chM x l
 | []=>rfl
 | d::l=>by
  simp only[chM,List.length_cons,AV.chainSet,tC l]
theorem qE {A:AV} (hA:A.flat=true):∀(l:List D),(chM A l).flat=true
 | []=>by simp[chM,AV.flat,hA]
 | d::l=>by simp[chM,AV.flat,qE hA l]
theorem dq {A:AV} {n:Nat} (hA:A.lt n=true):∀(l:List D),(chM A l).lt n=true
 | []=>by simp[chM,AV.lt,hA]
 | _::l=>by simp[chM,AV.lt,dq hA l]
theorem kk {A:AV} {ρ:Nat→Option Nat}:∀(l:List D),(chM A l).ren ρ=chM (A.ren ρ) l
 | []=>rfl
 | d::l=>by simp only[chM,AV.ren,kk l]
theorem iX {t:TypeId} {s:Nat} {ex:Bool} {A:AV} {l:List D} {m i:Nat} (hl:∀d∈l,d.size=s) (hm:m=l.length+1) (hi:i=l.length):RSub (.lits t s m ex (chM A l)) [.idx i s] A:=by
 subst hm hi
 refine⟨rfl,Nat.lt_succ_self _,?_⟩
 rw[sI l hl]
 rfl
theorem iW {t:TypeId} {s:Nat} {ex:Bool} {A y:AV} {l:List D} {m i:Nat} (hl:∀d∈l,d.size=s) (hm:m=l.length+1) (hi:i=l.length) (h1:A.size=y.size) (h2:A.isAgg=y.isAgg):RUpd (.lits t s m ex (chM A l)) [.idx i s] y (.lits t s m ex (chM y l)):=by
 subst hm hi
 refine⟨rfl,Nat.lt_succ_self _,?_⟩
 rw[sI l hl]
 exact⟨y,⟨h1,h2,rfl⟩,by rw[tC]⟩
theorem jr {σ:Place} {w:World} {X:Nat→Prop} {A:AV}:∀(l:List D) (cs:List Value),Rel σ w X (chM A l) false cs ↔ ∃c1 c2,cs=c1++c2∧Rel σ w X (dsAV l) false c1∧Rel σ w X A false c2
 | [],cs=>by
  constructor
  ·rintro⟨c1,c2,rfl,h1,h2⟩
   rw[show c2=[] from h2,List.append_nil]
   exact⟨[],c1,rfl,rfl,h1⟩
  ·rintro⟨c1,c2,rfl,h1,h2⟩
   rw[show c1=[] from h1]
   exact⟨c2,[],by simp,h2,rfl⟩
 | d::l,cs=>by
  constructor
  ·rintro⟨c1,c2,rfl,h1,h2⟩
   obtain⟨c3,c4,rfl,h3,h4⟩:=(jr l c2).1 h2
   exact⟨c1++c3,c4,by simp,⟨c1,c3,rfl,h1,h3⟩,h4⟩
  ·rintro⟨c1,c2,rfl,⟨c3,c4,rfl,h3,h4⟩,h2⟩
   exact⟨c3,c4++c2,by simp,h3,(jr l _).2 ⟨c4,c2,rfl,h4,h2⟩⟩
theorem ng {σ:Place} {w:World} {X:Nat→Prop}:∀(l m:List D) (cs:List Value),Rel σ w X (dsAV (l++m)) false cs ↔ ∃c1 c2,cs=c1++c2∧Rel σ w X (dsAV l) false c1∧Rel σ w X (dsAV m) false c2
 | [],m,cs=>by
  constructor
  ·intro h; exact⟨[],cs,rfl,rfl,h⟩
  ·rintro⟨c1,c2,rfl,h1,h2⟩
   rw[show c1=[] from h1]; exact h2
 | d::l,m,cs=>by
  constructor
  ·rintro⟨c1,c2,rfl,h1,h2⟩
   obtain⟨c3,c4,rfl,h3,h4⟩:=(ng l m c2).1 h2
   exact⟨c1++c3,c4,by simp,⟨c1,c3,rfl,h1,h3⟩,h4⟩
  ·rintro⟨c1,c2,rfl,⟨c3,c4,rfl,h3,h4⟩,h2⟩
   exact⟨c3,c4++c2,by simp,h3,(ng l m _).2 ⟨c4,c2,rfl,h4,h2⟩⟩
theorem tm {σ:Place} {w:World} {X:Nat→Prop} {α:Type} {enc:α→D}:∀(xs:List α) (f:Nat→List Value),(∀i (h:i<xs.length),Enc w X (enc xs[i]) (f i))→Rel σ w X (dsAV (xs.map enc)) false (cat f xs.length)
 | [],f,_=>rfl
 | x::xs,f,h=>by
  rw[List.length_cons,Nat.add_comm xs.length 1,fQ 1]
  refine⟨f 0,cat (fun i=>f (1+i)) xs.length,by simp only[cat,List.nil_append],h 0 (by simp),?_⟩
  exact tm xs (fun i=>f (1+i)) fun i hi=>by
   show Enc w X (enc xs[i]) (f (1+i))
   rw[Nat.add_comm 1 i]
   exact h (i+1) (by simpa using hi)
theorem bj.ds_chM {t:TypeId} {s m:Nat} {ex:Bool} {α:Type} {enc:α→D} {xs:List α} {y:α} {z:D} (hm:m=xs.length+1) (hz:z=enc y):bj (.ds t s ex enc (xs++[y])) (.lits t s m ex (chM (.d z) (xs.map enc))):=by
 subst hm hz
 intro σ w X r h
 refine⟨qE rfl _,?_⟩
 rcases h with ⟨h0,h1⟩ | ⟨b,c,cur,hb,hex,hh,hsz,hlen,hmax,f,hf,htake⟩
 ·simp at h1
 ·have hn:(xs++[y]).length=xs.length+1:=by simp
  rw[hn]at hlen htake hex
  have hfl:∀i,i<xs.length+1→(f i).length=s:=fun i hi=>(hf i (by rw[hn]; exact hi)).2
  refine .inr ⟨b,c,cur,cat f (xs.length+1),hb,hex,hh,hsz,hlen,hmax,cf _ hfl,?_,htake⟩
  have:=tm (σ:=σ) (w:=w) (X:=X) (xs++[y]) f fun i hi=>(hf i hi).1
  rw[hn,List.map_append]at this
  obtain⟨c1,c2,e,h1,h2⟩:=(ng _ _ _).1 this
  rw[e]
  refine (jr _ _).2 ⟨c1,c2,rfl,h1,?_⟩
  obtain⟨c3,c4,rfl,h3,h4⟩:=h2
  rw[show c4=[] from h4,List.append_nil]
  exact h3
theorem FrzR.last {r t te s s2 m:Nat} {ex ex2:Bool} {α β:Type} {enc:α→D} {enc2:β→D} {xs:List α} {y:α} {ys:List β} {len:Nat} {l:List D} (hl:len=ys.length) (hy:enc y=.arr s2 enc2 ys) (hm:m=xs.length+1) (hs:∀x,(enc x).size=s) (hmap:l=xs.map enc) :
  FrzR r (.ds te s2 ex2 enc2 ys) (.lits t s m ex (chM (.own r 0 len s2 none) l)) (.ds t s ex enc (xs++[y])):=by
 subst hm hmap
 refine⟨fun G h=>trivial,fun σ w X X' q hx hn hr hq=>?_⟩
 have hn1:(xs++[y]).length=xs.length+1:=by simp
 rcases hq with ⟨_,⟨_,h1⟩ | ⟨b',c',cur,cs',hb',hex,hh,hsz,hlen,hmax,hcl,hrel,htake⟩⟩
 ·omega
 ·obtain⟨c1,c2,rfl,h1,h2⟩:=(jr _ _).1 hrel
  have h3:=(Frz.own (te:=te) (ex:=ex2) (cap:=none) hl).2.2.2 σ w X X' hx hn hr c2 h2
  rw[←hy]at h3
  obtain⟨f,hf,rfl⟩:=kj xs _ h1
  have hfl:∀i,i<xs.length→(f i).length=s:=fun i hi=>by rw[←hs xs[i]]; exact Enc.len _ _ (hf i hi)
  have hc2:c2.length=s:=by rw[←hs y]; exact Enc.len _ _ h3
  refine .inr ⟨b',c',cur,hb',by rw[hn1]; exact hex,hh,hsz,by rw[hn1]; exact hlen,hmax,fun i=>if i<xs.length then f i else c2,fun i hi=>?_,?_⟩
  ·by_cases hi2:i<xs.length
   ·simp only[if_pos hi2,List.getElem_append_left hi2]
    exact⟨Enc.sub hx _ _ (hf i hi2),hfl i hi2⟩
   ·have:i=xs.length:=by rw[hn1]at hi; omega
    subst this
    simp only[if_neg hi2,List.getElem_concat_length]
    exact⟨h3,hc2⟩
  ·rw[hn1,htake]
   have e:cat (fun i=>if i<xs.length then f i else c2) xs.length=cat f xs.length:=di _ fun i hi=>by simp only[if_pos hi]
   simp only[cat,Nat.lt_irrefl,if_false,e]
end Go.Eng
namespace Go.Proofs.YtpjiiolnfbfcbaaGreatDoor
open Go.Eng Go.Plain
set_option maxHeartbeats 32000000
set_option maxRecDepth 20000
attribute [local irreducible] WC RegS RegD SeqQ BlkQ ScoQ RegK CutK Sat SatN FnIs LoopQ an OpIs
def encO:Option (List POp)→D
 | none=>.sc nil_
 | some p=>encP p
theorem kU (o:Option (List POp)):(encO o).size=1:=by cases o <;> rfl
theorem mapO (l:List (List POp)):l.map encP=(l.map some).map encO:=by simp[encO]
abbrev rowL (p:List POp) (l:List (List POp)) (m r:Nat):Row :=.lits 111 1 m false (chM (.own r 0 p.length 3 none) (l.map encP))
abbrev rowP (p:List POp):Row :=.ds 27 3 false bu p
abbrev S0:List (Nat×Row):=[(0,.box 108 (.own 3 0 0 1 none)),(1,.box 134 (.mapr 2)),(2,.mo (mapC strD co)),(3,.ds 111 1 false encO [])]
abbrev S1 (a b:Nat) (l:List (List POp)) (p:List POp):List (Nat×Row):=[(0,.box 108 (.own a 0 (l.length+1) 1 none)),(1,.box 134 (.mapr 2)),(2,.mo (mapC strD co)),(a,rowL p l (l.length+1) b),(b,rowP p)]
theorem mN {b:Nat} {l:List (List POp)} {m:Nat} {ρ:Nat→Option Nat} {xs:List (Option (List POp))} (hm:m=l.length+1) (hx:xs=l.map some) (hρ:ρ b=none):bj (.ds 111 1 false encO (xs++[none])) (Row.ren ρ (rowL [] l m b)):=by
 subst hx
 show bj _ (.lits _ _ _ _ (AV.ren ρ (chM _ _)))
 rw[kk,mapO]
 have e:AV.ren ρ (.own b 0 ([]:List POp).length 3 none)=.d (.sc nil_):=by simp[AV.ren,hρ]
 rw[e]
 exact bj.ds_chM (by simpa using hm) rfl
theorem qO (t:List UInt8) (ht:t=aI):FnIs Tryz.prog 73 [.d (strD t),.ptr 0 [],.ptr 1 []] S0 (.d (i6 0)) (S1 64 65 [] []):=by
 have h0:decide (t=aI)=true:=dT ht
 refine au aa Tryz.func73 rfl rfl rfl ?_;refine sR<|rC<|zW ?_;refine rC ?_;refine rQ (bV (a:=t) (b:=aI) aa rfl rfl rfl) ?_;refine zI<|sR ?_;refine rQ iM ?_;refine aJ (aC (s:=1) aa rfl rfl rfl rfl rfl rfl rfl rfl) rfl ?_;refine aT (aR (xs:=([]:List (Option (List POp)))) (s:=1) (enc:=encO) aa none rfl rfl rfl rfl rfl rfl rfl rfl rfl (by decide) rfl) rfl ?_;refine rW<|zW ?_;refine rQ iM ?_;refine rQ (bP aa rfl rfl) ?_;refine rC ?_;refine zJ<|kS<|sR ?_;refine rC<|zT<|aP ?_
 exact⟨trivial,[(64,some 104),(65,none)],lg zV ⟨zR,zR,zR,⟨rfl,rfl,_,rfl,mN (l:=[]) (xs:=[]) rfl rfl rfl⟩,⟨rfl,rfl,rfl⟩,trivial⟩⟩
theorem qN (t:List UInt8) (ht:t=aI) (l:List (List POp)) (p:List POp) (hl:l.length≤1000):FnIs Tryz.prog 73 [.d (strD t),.ptr 0 [],.ptr 1 []] (S1 3 4 l p) (.d (i6 (if 8<l.length+2 then 3 else 0))) (S1 64 65 (l++[p]) []):=by
 have h0:decide (t=aI)=true:=dT ht
 have hL:l.length+1=(l.map some++[some p]).length:=by simp
 have hlen:(l.map some++[some p]).length+[(none:Option (List POp))].length≤1048576:=by simp; omega
 have e1:(l.map some++[some p]).length+[(none:Option (List POp))].length=(l++[p]).length+1:=by simp
 have e2:l.map some++[some p]=(l++[p]).map some:=by simp
 refine au aa Tryz.func73 rfl rfl rfl ?_;refine sR<|rC<|zW ?_;refine rC ?_;refine rQ (bV (a:=t) (b:=aI) aa rfl rfl rfl) ?_;refine zI<|sR ?_;refine rQ iM ?_;refine aJ (aC (s:=1) aa rfl rfl rfl rfl rfl rfl rfl rfl) rfl ?_;refine bT (env':=[(12,_),(13,_),(0,_),(1,_),(2,_)]) (h':=[(0,some _),(1,some _),(2,some _),(96,some _),(3,some _)]) 4 _ rfl ⟨zE,zE,zE,zE,zE,trivial⟩ ⟨⟨rfl,_,rfl,.refl _⟩,⟨rfl,_,rfl,.refl _⟩,⟨rfl,_,rfl,.refl _⟩,⟨rfl,_,rfl,.refl _⟩,⟨rfl,_,rfl,FrzR.last (enc:=encO) (xs:=l.map some) (y:=some p) rfl rfl (by simp) kU (mapO l)⟩,trivial⟩ ?_
 by_cases hg:8<l.length+2
 ·have hgt:decide (8<(((l.map some++[some p]).length+[(none:Option (List POp))].length:Nat):Int))=true:=dT (by simp; omega)
  rw[if_pos hg]
  refine aT (fp (α:=Option (List POp)) (s:=1) (enc:=encO) (xs:=l.map some++[some p]) aa [none] rfl rfl rfl rfl rfl hL rfl rfl rfl rfl (fun _ _=>kU _) (by decide) hlen rfl) rfl ?_;refine rW<|zW ?_;refine rQ iM ?_;refine rQ (bP aa rfl rfl) ?_;refine rC ?_;refine zI<|sR ?_;refine rC<|nS<|bR ?_;iterate 2 refine aP ?_
  rw[e1,e2]
  exact⟨trivial,[(64,some 104),(65,none)],lg zV ⟨zR,zR,zR,⟨rfl,dq rfl _,_,rfl,mN rfl rfl rfl⟩,⟨rfl,rfl,rfl⟩,trivial⟩⟩
 ·have hgt:decide (8<(((l.map some++[some p]).length+[(none:Option (List POp))].length:Nat):Int))=false:=dF (by simp; omega)
  rw[if_neg hg]
  refine aT (fp (α:=Option (List POp)) (s:=1) (enc:=encO) (xs:=l.map some++[some p]) aa [none] rfl rfl rfl rfl rfl hL rfl rfl rfl rfl (fun _ _=>kU _) (by decide) hlen rfl) rfl ?_;refine rW<|zW ?_;refine rQ iM ?_;refine rQ (bP aa rfl rfl) ?_;refine rC ?_;refine zG<|kS<|sR ?_;refine rC<|zT<|aP ?_
  rw[e1,e2]
  exact⟨trivial,[(64,some 104),(65,none)],lg zV ⟨zR,zR,zR,⟨rfl,dq rfl _,_,rfl,mN rfl rfl rfl⟩,⟨rfl,rfl,rfl⟩,trivial⟩⟩
end Go.Proofs.YtpjiiolnfbfcbaaGreatDoor
namespace Go.Plain
open Go.Eng Go.Lib
theorem eh:∀(l:List UInt8) (c:UInt8) (w:List UInt8),w∈bS l c→w.length≤l.length
 | [],_,w,h=>by simp[bS]at h; subst h; simp
 | b::l,c,w,h=>by
  simp only[bS]at h
  split at h
  ·rcases List.mem_cons.1 h with rfl | h
   ·simp
   ·have:=eh l c w h
    simp only[List.length_cons]; omega
  ·split at h
   ·rw[List.mem_singleton.1 h]; simp
   ·rename_i w' ws hs
    rcases List.mem_cons.1 h with rfl | h
    ·have:=eh l c w' (by rw[hs]; simp)
     simp only[List.length_cons]; omega
    ·have:=eh l c w (by rw[hs]; simp[h])
     simp only[List.length_cons]; omega
theorem kA:∀(s t:List UInt8),eG s=some t→s.length=2*t.length
 | [],t,h=>by cases h; rfl
 | [_],_,h=>by cases h
 | a::b::l,t,h=>by
  simp only[eG]at h
  split at h
  ·rename_i x y r _ _ hr
   cases h
   have:=kA l r hr
   simp only[List.length_cons]; omega
  ·cases h
theorem tU {s t:List UInt8} (h:cL s=some t):2*t.length≤s.length:=by
 rw[cL]at h
 split at h
 ·cases h; simp
 ·split at h
  ·cases h
  ·rw[kA _ _ h]; exact Nat.le_refl _
theorem mn {t a:List UInt8} {c:UInt8} {r:List (List UInt8)} (h:bS t c=a::r):a.length+r.length≤t.length:=by
 rw[nD]at h
 cases hc:cutL t c with
 | none=>rw[hc]at h; simp only at h; cases h; simp
 | some pq =>
  obtain⟨p,q⟩:=pq
  rw[hc]at h
  simp only[List.cons.injEq]at h
  obtain⟨rfl,rfl⟩:=h
  have:=jB q c
  rw[(cM hc).1]
  simp
  omega
end Go.Plain
namespace Go.Proofs.YtpjiiolnfbfcbaaGreatDoor
open Go.Eng Go.Plain
set_option maxHeartbeats 32000000
set_option maxRecDepth 20000
attribute [local irreducible] WC RegS RegD SeqQ BlkQ ScoQ RegK CutK Sat SatN FnIs LoopQ an OpIs
theorem td:jL Tryz.prog 137 (.sc .nilFunc):=sT (by kernel_rfl) rfl
theorem dM {b b':Nat} {p:List POp} {l:List (List POp)} {m m':Nat} {ρ:Nat→Option Nat} (hm:m=m') (hρ:ρ b'=some b):bj (rowL p l m b) (Row.ren ρ (rowL p l m' b')):=by
 subst hm
 show bj _ (.lits _ _ _ _ (AV.ren ρ (chM _ _)))
 rw[kk]
 have e:AV.ren ρ (.own b' 0 p.length 3 none)=.own b 0 p.length 3 none:=by simp[AV.ren,hρ]
 rw[e]
 exact .refl _
theorem xE (t a:List UInt8) (r:List (List UInt8)) (ht:t≠aI) (hl:t.length≤1048576) (hsp:bS t 32=a::r) (hf:dK a co 0=none):FnIs Tryz.prog 73 [.d (strD t),.ptr 0 [],.ptr 1 []] S0 (.d (i6 5)) S0:=by
 have h0:decide (t=aI)=false:=dF ht
 have hs:=gb (l:=t) (c:=32) (by omega)
 rw[hsp]at hs
 have g0:(a::r)[((0:Int)).toNat]?=some a:=rfl
 refine au aa Tryz.func73 rfl rfl rfl ?_;refine sR<|rC<|zW ?_;refine rC ?_;refine rQ (bV (a:=t) (b:=aI) aa rfl rfl rfl) ?_;refine zG<|kS<|sR ?_;refine rC ?_;refine rQ (ak hs rfl rfl (aj (aj ab)) (.inl rfl) (fun _=>rfl)) ?_;refine rC<|nQ ?_;refine aE (by kernel_rfl) ?_;refine dQ [2] [1] iM ?_;refine dC [5] [] ?_;refine dQ [22] [] iA ?_;refine dQ [23] [] iL ?_;refine dQ [21,24] [2] (jV (κ:=List UInt8) (enc:=strD) (l:=co) (k:=a) dN Tryz.underlying134 td rfl rfl rfl hf) ?_;refine dC [25] [] ?_;iterate 2 refine dC [20] [] ?_
 refine dC [26] [] ?_;refine dC [27] [] ?_;refine aB (by kernel_rfl)<|aM<|qR ?_;refine zU ?_
 iterate 3 refine rT ?_
 refine rQ iU ?_;refine zO<|sR ?_;refine rC<|zT<|aP ?_
 exact⟨trivial,[],lg zV ⟨zR,zR,zR,zR,trivial⟩⟩
theorem xD (t a:List UInt8) (r:List (List UInt8)) (ht:t≠aI) (hl:t.length≤1048576) (hsp:bS t 32=a::r) (hf:dK a co 0=none) (l:List (List POp)) (p:List POp):FnIs Tryz.prog 73 [.d (strD t),.ptr 0 [],.ptr 1 []] (S1 3 4 l p) (.d (i6 5)) (S1 3 4 l p):=by
 have h0:decide (t=aI)=false:=dF ht
 have hs:=gb (l:=t) (c:=32) (by omega)
 rw[hsp]at hs
 have g0:(a::r)[((0:Int)).toNat]?=some a:=rfl
 refine au aa Tryz.func73 rfl rfl rfl ?_;refine sR<|rC<|zW ?_;refine rC ?_;refine rQ (bV (a:=t) (b:=aI) aa rfl rfl rfl) ?_;refine zG<|kS<|sR ?_;refine rC ?_;refine rQ (ak hs rfl rfl (aj (aj ab)) (.inl rfl) (fun _=>rfl)) ?_;refine rC<|nQ ?_;refine aE (by kernel_rfl) ?_;refine dQ [2] [1] iM ?_;refine dC [5] [] ?_;refine dQ [22] [] iA ?_;refine dQ [23] [] iL ?_;refine dQ [21,24] [2] (jV (κ:=List UInt8) (enc:=strD) (l:=co) (k:=a) dN Tryz.underlying134 td rfl rfl rfl hf) ?_;refine dC [25] [] ?_;iterate 2 refine dC [20] [] ?_
 refine dC [26] [] ?_;refine dC [27] [] ?_;refine aB (by kernel_rfl)<|aM<|qR ?_;refine zU ?_
 iterate 3 refine rT ?_
 refine rQ iU ?_;refine zO<|sR ?_;refine rC<|zT<|aP ?_
 exact⟨trivial,[],lg zV ⟨zR,zR,zR,⟨rfl,dq rfl _,_,rfl,dM rfl rfl⟩,zR,trivial⟩⟩
theorem sP (t a:List UInt8) (r:List (List UInt8)) (ht:t≠aI) (hl:t.length≤1048576) (hsp:bS t 32=a::r) (f j:Nat) (hf:dK a co 0=some (j,fnA f)):FnIs Tryz.prog 73 [.d (strD t),.ptr 0 [],.ptr 1 []] S0 (.d (i6 5)) S0:=by
 have h0:decide (t=aI)=false:=dF ht
 have hs:=gb (l:=t) (c:=32) (by omega)
 rw[hsp]at hs
 have g0:(a::r)[((0:Int)).toNat]?=some a:=rfl
 refine au aa Tryz.func73 rfl rfl rfl ?_;refine sR<|rC<|zW ?_;refine rC ?_;refine rQ (bV (a:=t) (b:=aI) aa rfl rfl rfl) ?_;refine zG<|kS<|sR ?_;refine rC ?_;refine rQ (ak hs rfl rfl (aj (aj ab)) (.inl rfl) (fun _=>rfl)) ?_;refine rC<|nQ ?_;refine aE (by kernel_rfl) ?_;refine dQ [2] [1] iM ?_;refine dC [5] [] ?_;refine dQ [22] [] iA ?_;refine dQ [23] [] iL ?_;refine dQ [21,24] [2] (cX (κ:=List UInt8) (enc:=strD) (l:=co) (k:=a) dN Tryz.underlying134 rfl rfl rfl hf) ?_;refine dC [25] [] ?_;iterate 2 refine dC [20] [] ?_
 refine dC [26] [] ?_;refine dC [27] [] ?_;refine aB (by kernel_rfl)<|aM<|qR ?_;refine zU ?_;refine rP ?_;refine rQ iM ?_;refine rP ?_;refine rQ (bP aa rfl rfl) ?_;refine rP ?_;refine rC ?_;refine rQ iG ?_;refine zO<|sR ?_;refine rC<|zT<|aP ?_
 exact⟨trivial,[],lg zV ⟨zR,zR,zR,zR,trivial⟩⟩
theorem xJ (t a:List UInt8) (r:List (List UInt8)) (ht:t≠aI) (hl:t.length≤1048576) (hsp:bS t 32=a::r) (f j:Nat) (hf:dK a co 0=some (j,fnA f)) (o:POp) (hread:FnIs Tryz.prog f [.d (.arr 1 strD r)] [] (opR o false) []) (l:List (List POp)) (p:List POp) (hll:l.length≤1000):FnIs Tryz.prog 73 [.d (strD t),.ptr 0 [],.ptr 1 []] (S1 3 4 l p) (.d (i6 5)) (S1 3 4 l p):=by
 have h0:decide (t=aI)=false:=dF ht
 have hs:=gb (l:=t) (c:=32) (by omega)
 rw[hsp]at hs
 have g0:(a::r)[((0:Int)).toNat]?=some a:=rfl
 have hz:decide (((l.length+1:Nat):Int)=0)=false:=dF (by omega)
 refine au aa Tryz.func73 rfl rfl rfl ?_;refine sR<|rC<|zW ?_;refine rC ?_;refine rQ (bV (a:=t) (b:=aI) aa rfl rfl rfl) ?_;refine zG<|kS<|sR ?_;refine rC ?_;refine rQ (ak hs rfl rfl (aj (aj ab)) (.inl rfl) (fun _=>rfl)) ?_;refine rC<|nQ ?_;refine aE (by kernel_rfl) ?_;refine dQ [2] [1] iM ?_;refine dC [5] [] ?_;refine dQ [22] [] iA ?_;refine dQ [23] [] iL ?_;refine dQ [21,24] [2] (cX (κ:=List UInt8) (enc:=strD) (l:=co) (k:=a) dN Tryz.underlying134 rfl rfl rfl hf) ?_;refine dC [25] [] ?_;iterate 2 refine dC [20] [] ?_
 refine dC [26] [] ?_;refine dC [27] [] ?_;refine aB (by kernel_rfl)<|aM<|qR ?_;refine zU ?_;refine rP ?_;refine rQ iM ?_;refine rP ?_;refine rQ (bP aa rfl rfl) ?_;refine rP ?_;refine rC ?_;refine rQ iG ?_;refine zJ<|kS<|sR ?_;refine zD ?_;refine rQ (dY (m:=1) aa rfl rfl rfl rfl rfl (Nat.succ_le_succ (Nat.zero_le _))) ?_;refine rQ (ak hread rfl rfl (aj ab) (.inl rfl) (fun _=>rfl)) ?_;refine zU ?_;refine rN ?_;refine rW ?_;refine rC<|zW ?_;refine zU ?_
 iterate 4 refine rT ?_
 refine rQ iU ?_;refine zO<|sR ?_;refine rC<|zT<|aP ?_
 exact⟨trivial,[],lg zV ⟨zR,zR,zR,⟨rfl,dq rfl _,_,rfl,dM rfl rfl⟩,zR,trivial⟩⟩
theorem yV (t a:List UInt8) (r:List (List UInt8)) (ht:t≠aI) (hl:t.length≤1048576) (hsp:bS t 32=a::r) (f j:Nat) (hf:dK a co 0=some (j,fnA f)) (o:POp) (hok:o.Ok) (hdl:o.data.length≤524288) (hread:FnIs Tryz.prog f [.d (.arr 1 strD r)] [] (opR o true) []) (l:List (List POp)) (p:List POp) (hll:l.length≤1000) (hne:bd o≠t):FnIs Tryz.prog 73 [.d (strD t),.ptr 0 [],.ptr 1 []] (S1 3 4 l p) (.d (i6 5)) (S1 3 4 l p):=by
 have h0:decide (t=aI)=false:=dF ht
 have hs:=gb (l:=t) (c:=32) (by omega)
 rw[hsp]at hs
 have g0:(a::r)[((0:Int)).toNat]?=some a:=rfl
 have hz:decide (((l.length+1:Nat):Int)=0)=false:=dF (by omega)
 have hline:=oS o hok hdl
 have hn:(!decide (bd o=t))=true:=by rw[dF hne]; rfl
 refine au aa Tryz.func73 rfl rfl rfl ?_;refine sR<|rC<|zW ?_;refine rC ?_;refine rQ (bV (a:=t) (b:=aI) aa rfl rfl rfl) ?_;refine zG<|kS<|sR ?_;refine rC ?_;refine rQ (ak hs rfl rfl (aj (aj ab)) (.inl rfl) (fun _=>rfl)) ?_;refine rC<|nQ ?_;refine aE (by kernel_rfl) ?_;refine dQ [2] [1] iM ?_;refine dC [5] [] ?_;refine dQ [22] [] iA ?_;refine dQ [23] [] iL ?_;refine dQ [21,24] [2] (cX (κ:=List UInt8) (enc:=strD) (l:=co) (k:=a) dN Tryz.underlying134 rfl rfl rfl hf) ?_;refine dC [25] [] ?_;iterate 2 refine dC [20] [] ?_
 refine dC [26] [] ?_;refine dC [27] [] ?_;refine aB (by kernel_rfl)<|aM<|qR ?_;refine zU ?_;refine rP ?_;refine rQ iM ?_;refine rP ?_;refine rQ (bP aa rfl rfl) ?_;refine rP ?_;refine rC ?_;refine rQ iG ?_;refine zJ<|kS<|sR ?_;refine zD ?_;refine rQ (dY (m:=1) aa rfl rfl rfl rfl rfl (Nat.succ_le_succ (Nat.zero_le _))) ?_;refine rQ (ak hread rfl rfl (aj ab) (.inl rfl) (fun _=>rfl)) ?_;refine zU ?_;refine rN ?_;refine rW ?_;refine rC<|zW ?_;refine zU ?_;refine rP ?_;refine rQ iM ?_;refine rP ?_;refine rQ (ak hline rfl rfl (aj ab) (.inl rfl) (fun _=>rfl)) ?_;refine rP ?_;refine rC ?_;refine rP ?_;refine rQ (dB (a:=bd o) (b:=t) aa rfl rfl rfl) ?_;refine rQ iG ?_;refine zI<|sR ?_;refine rC<|zT<|aP ?_
 exact⟨trivial,[],lg zV ⟨zR,zR,zR,⟨rfl,dq rfl _,_,rfl,dM rfl rfl⟩,zR,trivial⟩⟩
theorem j0 {b b' n:Nat} {p:List POp} {l:List (List POp)} {m m':Nat} {ρ:Nat→Option Nat} (hm:m=m') (hn:n=p.length) (hρ:ρ b'=some b):bj (.lits 111 1 m false (chM (.own b 0 n 3 none) (l.map encP))) (Row.ren ρ (rowL p l m' b')):=by
 subst hn
 exact dM hm hρ
theorem yU (t a:List UInt8) (r:List (List UInt8)) (ht:t≠aI) (hl:t.length≤1048576) (hsp:bS t 32=a::r) (f j:Nat) (hf:dK a co 0=some (j,fnA f)) (o:POp) (hok:o.Ok) (hdl:o.data.length≤524288) (hread:FnIs Tryz.prog f [.d (.arr 1 strD r)] [] (opR o true) []) (l:List (List POp)) (p:List POp) (hll:l.length≤1000) (hpp:p.length≤1000) (heq:bd o=t) (b1 b2:Bool) (hb1:decide (64<((p.length+1:Nat):Int))=b1) (hb2:decide (64<((byI o.data).length:Int))=b2):FnIs Tryz.prog 73 [.d (strD t),.ptr 0 [],.ptr 1 []] (S1 3 4 l p) (.d (i6 (if b1||b2 then 3 else 0))) (S1 3 65 l (p++[o])):=by
 have h0:decide (t=aI)=false:=dF ht
 have hs:=gb (l:=t) (c:=32) (by omega)
 rw[hsp]at hs
 have g0:(a::r)[((0:Int)).toNat]?=some a:=rfl
 have hz:decide (((l.length+1:Nat):Int)=0)=false:=dF (by omega)
 have hline:=oS o hok hdl
 have hn:(!decide (bd o=t))=false:=by rw[dT heq]; rfl
 have hw:IntKind.i64.wrap (((l.length+1:Nat):Int)-1)=(l.length:Int):=by rw[aO (by omega) (by omega)]; omega
 have hsz:∀d∈l.map encP,d.size=1:=fun d hd=>by
  obtain⟨x,_,rfl⟩:=List.mem_map.1 hd
  rfl
 have hmm:l.length+1=(l.map encP).length+1:=by simp
 have hml:(l.map encP).length=l.length:=by simp
 have hpn:p.length+1=(p++[o]).length:=by simp
 have hpl:p.length+1≤1048576:=by omega
 refine au aa Tryz.func73 rfl rfl rfl ?_
 cases b1 <;> cases b2
 ·refine sR<|rC<|zW ?_;refine rC ?_;refine rQ (bV (a:=t) (b:=aI) aa rfl rfl rfl) ?_;refine zG<|kS<|sR ?_;refine rC ?_;refine rQ (ak hs rfl rfl (aj (aj ab)) (.inl rfl) (fun _=>rfl)) ?_;refine rC<|nQ ?_;refine aE (by kernel_rfl) ?_;refine dQ [2] [1] iM ?_;refine dC [5] [] ?_;refine dQ [22] [] iA ?_;refine dQ [23] [] iL ?_;refine dQ [21,24] [2] (cX (κ:=List UInt8) (enc:=strD) (l:=co) (k:=a) dN Tryz.underlying134 rfl rfl rfl hf) ?_;refine dC [25] [] ?_;iterate 2 refine dC [20] [] ?_
  refine dC [26] [] ?_;refine dC [27] [] ?_;refine aB (by kernel_rfl)<|aM<|qR ?_;refine zU ?_;refine rP ?_;refine rQ iM ?_;refine rP ?_;refine rQ (bP aa rfl rfl) ?_;refine rP ?_;refine rC ?_;refine rQ iG ?_;refine zJ<|kS<|sR ?_;refine zD ?_;refine rQ (dY (m:=1) aa rfl rfl rfl rfl rfl (Nat.succ_le_succ (Nat.zero_le _))) ?_;refine rQ (ak hread rfl rfl (aj ab) (.inl rfl) (fun _=>rfl)) ?_;refine zU ?_;refine rN ?_;refine rW ?_;refine rC<|zW ?_;refine zU ?_;refine rP ?_;refine rQ iM ?_;refine rP ?_;refine rQ (ak hline rfl rfl (aj ab) (.inl rfl) (fun _=>rfl)) ?_;refine rP ?_;refine rC ?_;refine rP ?_;refine rQ (dB (a:=bd o) (b:=t) aa rfl rfl rfl) ?_;refine rQ iG ?_;refine zG<|zQ ?_;refine aE (by kernel_rfl) ?_;iterate 2 refine dQ [1] [0] iM ?_
  refine dQ [51] [3] (bP aa rfl rfl) ?_;refine dQ [52] [] (cH (m:=(l.length:Int)) aa rfl rfl hw) ?_;refine dQ [50,53] [] (br aa rfl rfl rfl rfl rfl (by omega) (by omega)) ?_;refine dQ [54] [3] (bU aa rfl rfl (iX (s:=1) (A :=.own 4 0 p.length 3 none) hsz hmm ((Int.toNat_natCast _).trans hml.symm)) rfl) ?_;refine dQ [8] [304] iM ?_;refine fD [56] [] rfl (aC (s:=3) aa rfl rfl rfl rfl rfl rfl rfl rfl) ?_;refine jm [55,57] [4,448] rfl (aR (xs:=p) (s:=3) (enc:=bu) aa o rfl rfl rfl rfl rfl rfl rfl rfl rfl hpl rfl) ?_;refine dC [58] [] ?_;refine aB (by kernel_rfl)<|aM<|sR ?_;iterate 2 refine rQ iM ?_
  refine rQ (bP aa rfl rfl) ?_;refine rQ (cH (m:=(l.length:Int)) aa rfl rfl hw) ?_;refine rC ?_;refine rQ (br aa rfl rfl rfl rfl rfl (by omega) (by omega)) ?_;refine bg (aD aa rfl rfl rfl (iW (s:=1) hsz hmm ((Int.toNat_natCast _).trans hml.symm) rfl rfl) rfl)<|zW ?_;refine rC ?_;refine rQ (bP aa rfl rfl) ?_;refine zD ?_;refine rO ?_;refine rC ?_;refine rO ?_;refine rQ iB ?_;refine rO ?_;refine rQ iE ?_;refine rO ?_;refine rC ?_;refine rQ iF ?_;refine zG<|kS<|sR ?_;refine rC<|zT ?_
  exact⟨trivial,[(65,some 456)],lg zV ⟨zR,zR,zR,⟨rfl,dq rfl _,_,rfl,j0 rfl hpn rfl⟩,zR,trivial⟩⟩
 ·refine sR<|rC<|zW ?_;refine rC ?_;refine rQ (bV (a:=t) (b:=aI) aa rfl rfl rfl) ?_;refine zG<|kS<|sR ?_;refine rC ?_;refine rQ (ak hs rfl rfl (aj (aj ab)) (.inl rfl) (fun _=>rfl)) ?_;refine rC<|nQ ?_;refine aE (by kernel_rfl) ?_;refine dQ [2] [1] iM ?_;refine dC [5] [] ?_;refine dQ [22] [] iA ?_;refine dQ [23] [] iL ?_;refine dQ [21,24] [2] (cX (κ:=List UInt8) (enc:=strD) (l:=co) (k:=a) dN Tryz.underlying134 rfl rfl rfl hf) ?_;refine dC [25] [] ?_;iterate 2 refine dC [20] [] ?_
  refine dC [26] [] ?_;refine dC [27] [] ?_;refine aB (by kernel_rfl)<|aM<|qR ?_;refine zU ?_;refine rP ?_;refine rQ iM ?_;refine rP ?_;refine rQ (bP aa rfl rfl) ?_;refine rP ?_;refine rC ?_;refine rQ iG ?_;refine zJ<|kS<|sR ?_;refine zD ?_;refine rQ (dY (m:=1) aa rfl rfl rfl rfl rfl (Nat.succ_le_succ (Nat.zero_le _))) ?_;refine rQ (ak hread rfl rfl (aj ab) (.inl rfl) (fun _=>rfl)) ?_;refine zU ?_;refine rN ?_;refine rW ?_;refine rC<|zW ?_;refine zU ?_;refine rP ?_;refine rQ iM ?_;refine rP ?_;refine rQ (ak hline rfl rfl (aj ab) (.inl rfl) (fun _=>rfl)) ?_;refine rP ?_;refine rC ?_;refine rP ?_;refine rQ (dB (a:=bd o) (b:=t) aa rfl rfl rfl) ?_;refine rQ iG ?_;refine zG<|zQ ?_;refine aE (by kernel_rfl) ?_;iterate 2 refine dQ [1] [0] iM ?_
  refine dQ [51] [3] (bP aa rfl rfl) ?_;refine dQ [52] [] (cH (m:=(l.length:Int)) aa rfl rfl hw) ?_;refine dQ [50,53] [] (br aa rfl rfl rfl rfl rfl (by omega) (by omega)) ?_;refine dQ [54] [3] (bU aa rfl rfl (iX (s:=1) (A :=.own 4 0 p.length 3 none) hsz hmm ((Int.toNat_natCast _).trans hml.symm)) rfl) ?_;refine dQ [8] [304] iM ?_;refine fD [56] [] rfl (aC (s:=3) aa rfl rfl rfl rfl rfl rfl rfl rfl) ?_;refine jm [55,57] [4,448] rfl (aR (xs:=p) (s:=3) (enc:=bu) aa o rfl rfl rfl rfl rfl rfl rfl rfl rfl hpl rfl) ?_;refine dC [58] [] ?_;refine aB (by kernel_rfl)<|aM<|sR ?_;iterate 2 refine rQ iM ?_
  refine rQ (bP aa rfl rfl) ?_;refine rQ (cH (m:=(l.length:Int)) aa rfl rfl hw) ?_;refine rC ?_;refine rQ (br aa rfl rfl rfl rfl rfl (by omega) (by omega)) ?_;refine bg (aD aa rfl rfl rfl (iW (s:=1) hsz hmm ((Int.toNat_natCast _).trans hml.symm) rfl rfl) rfl)<|zW ?_;refine rC ?_;refine rQ (bP aa rfl rfl) ?_;refine zD ?_;refine rO ?_;refine rC ?_;refine rO ?_;refine rQ iB ?_;refine rO ?_;refine rQ iE ?_;refine rO ?_;refine rC ?_;refine rQ iF ?_;refine zI<|sR ?_;refine rC<|zT<|aP ?_
  exact⟨trivial,[(65,some 456)],lg zV ⟨zR,zR,zR,⟨rfl,dq rfl _,_,rfl,j0 rfl hpn rfl⟩,zR,trivial⟩⟩
 ·refine sR<|rC<|zW ?_;refine rC ?_;refine rQ (bV (a:=t) (b:=aI) aa rfl rfl rfl) ?_;refine zG<|kS<|sR ?_;refine rC ?_;refine rQ (ak hs rfl rfl (aj (aj ab)) (.inl rfl) (fun _=>rfl)) ?_;refine rC<|nQ ?_;refine aE (by kernel_rfl) ?_;refine dQ [2] [1] iM ?_;refine dC [5] [] ?_;refine dQ [22] [] iA ?_;refine dQ [23] [] iL ?_;refine dQ [21,24] [2] (cX (κ:=List UInt8) (enc:=strD) (l:=co) (k:=a) dN Tryz.underlying134 rfl rfl rfl hf) ?_;refine dC [25] [] ?_;iterate 2 refine dC [20] [] ?_
  refine dC [26] [] ?_;refine dC [27] [] ?_;refine aB (by kernel_rfl)<|aM<|qR ?_;refine zU ?_;refine rP ?_;refine rQ iM ?_;refine rP ?_;refine rQ (bP aa rfl rfl) ?_;refine rP ?_;refine rC ?_;refine rQ iG ?_;refine zJ<|kS<|sR ?_;refine zD ?_;refine rQ (dY (m:=1) aa rfl rfl rfl rfl rfl (Nat.succ_le_succ (Nat.zero_le _))) ?_;refine rQ (ak hread rfl rfl (aj ab) (.inl rfl) (fun _=>rfl)) ?_;refine zU ?_;refine rN ?_;refine rW ?_;refine rC<|zW ?_;refine zU ?_;refine rP ?_;refine rQ iM ?_;refine rP ?_;refine rQ (ak hline rfl rfl (aj ab) (.inl rfl) (fun _=>rfl)) ?_;refine rP ?_;refine rC ?_;refine rP ?_;refine rQ (dB (a:=bd o) (b:=t) aa rfl rfl rfl) ?_;refine rQ iG ?_;refine zG<|zQ ?_;refine aE (by kernel_rfl) ?_;iterate 2 refine dQ [1] [0] iM ?_
  refine dQ [51] [3] (bP aa rfl rfl) ?_;refine dQ [52] [] (cH (m:=(l.length:Int)) aa rfl rfl hw) ?_;refine dQ [50,53] [] (br aa rfl rfl rfl rfl rfl (by omega) (by omega)) ?_;refine dQ [54] [3] (bU aa rfl rfl (iX (s:=1) (A :=.own 4 0 p.length 3 none) hsz hmm ((Int.toNat_natCast _).trans hml.symm)) rfl) ?_;refine dQ [8] [304] iM ?_;refine fD [56] [] rfl (aC (s:=3) aa rfl rfl rfl rfl rfl rfl rfl rfl) ?_;refine jm [55,57] [4,448] rfl (aR (xs:=p) (s:=3) (enc:=bu) aa o rfl rfl rfl rfl rfl rfl rfl rfl rfl hpl rfl) ?_;refine dC [58] [] ?_;refine aB (by kernel_rfl)<|aM<|sR ?_;iterate 2 refine rQ iM ?_
  refine rQ (bP aa rfl rfl) ?_;refine rQ (cH (m:=(l.length:Int)) aa rfl rfl hw) ?_;refine rC ?_;refine rQ (br aa rfl rfl rfl rfl rfl (by omega) (by omega)) ?_;refine bg (aD aa rfl rfl rfl (iW (s:=1) hsz hmm ((Int.toNat_natCast _).trans hml.symm) rfl rfl) rfl)<|zW ?_;refine rC ?_;refine rQ (bP aa rfl rfl) ?_;refine zD ?_
  iterate 4 refine rS ?_
  refine rQ iT ?_;refine zO<|sR ?_;refine rC<|zT<|aP ?_
  exact⟨trivial,[(65,some 456)],lg zV ⟨zR,zR,zR,⟨rfl,dq rfl _,_,rfl,j0 rfl hpn rfl⟩,zR,trivial⟩⟩
 ·refine sR<|rC<|zW ?_;refine rC ?_;refine rQ (bV (a:=t) (b:=aI) aa rfl rfl rfl) ?_;refine zG<|kS<|sR ?_;refine rC ?_;refine rQ (ak hs rfl rfl (aj (aj ab)) (.inl rfl) (fun _=>rfl)) ?_;refine rC<|nQ ?_;refine aE (by kernel_rfl) ?_;refine dQ [2] [1] iM ?_;refine dC [5] [] ?_;refine dQ [22] [] iA ?_;refine dQ [23] [] iL ?_;refine dQ [21,24] [2] (cX (κ:=List UInt8) (enc:=strD) (l:=co) (k:=a) dN Tryz.underlying134 rfl rfl rfl hf) ?_;refine dC [25] [] ?_;iterate 2 refine dC [20] [] ?_
  refine dC [26] [] ?_;refine dC [27] [] ?_;refine aB (by kernel_rfl)<|aM<|qR ?_;refine zU ?_;refine rP ?_;refine rQ iM ?_;refine rP ?_;refine rQ (bP aa rfl rfl) ?_;refine rP ?_;refine rC ?_;refine rQ iG ?_;refine zJ<|kS<|sR ?_;refine zD ?_;refine rQ (dY (m:=1) aa rfl rfl rfl rfl rfl (Nat.succ_le_succ (Nat.zero_le _))) ?_;refine rQ (ak hread rfl rfl (aj ab) (.inl rfl) (fun _=>rfl)) ?_;refine zU ?_;refine rN ?_;refine rW ?_;refine rC<|zW ?_;refine zU ?_;refine rP ?_;refine rQ iM ?_;refine rP ?_;refine rQ (ak hline rfl rfl (aj ab) (.inl rfl) (fun _=>rfl)) ?_;refine rP ?_;refine rC ?_;refine rP ?_;refine rQ (dB (a:=bd o) (b:=t) aa rfl rfl rfl) ?_;refine rQ iG ?_;refine zG<|zQ ?_;refine aE (by kernel_rfl) ?_;iterate 2 refine dQ [1] [0] iM ?_
  refine dQ [51] [3] (bP aa rfl rfl) ?_;refine dQ [52] [] (cH (m:=(l.length:Int)) aa rfl rfl hw) ?_;refine dQ [50,53] [] (br aa rfl rfl rfl rfl rfl (by omega) (by omega)) ?_;refine dQ [54] [3] (bU aa rfl rfl (iX (s:=1) (A :=.own 4 0 p.length 3 none) hsz hmm ((Int.toNat_natCast _).trans hml.symm)) rfl) ?_;refine dQ [8] [304] iM ?_;refine fD [56] [] rfl (aC (s:=3) aa rfl rfl rfl rfl rfl rfl rfl rfl) ?_;refine jm [55,57] [4,448] rfl (aR (xs:=p) (s:=3) (enc:=bu) aa o rfl rfl rfl rfl rfl rfl rfl rfl rfl hpl rfl) ?_;refine dC [58] [] ?_;refine aB (by kernel_rfl)<|aM<|sR ?_;iterate 2 refine rQ iM ?_
  refine rQ (bP aa rfl rfl) ?_;refine rQ (cH (m:=(l.length:Int)) aa rfl rfl hw) ?_;refine rC ?_;refine rQ (br aa rfl rfl rfl rfl rfl (by omega) (by omega)) ?_;refine bg (aD aa rfl rfl rfl (iW (s:=1) hsz hmm ((Int.toNat_natCast _).trans hml.symm) rfl rfl) rfl)<|zW ?_;refine rC ?_;refine rQ (bP aa rfl rfl) ?_;refine zD ?_
  iterate 4 refine rS ?_
  refine rQ iT ?_;refine zO<|sR ?_;refine rC<|zT<|aP ?_
  exact⟨trivial,[(65,some 456)],lg zV ⟨zR,zR,zR,⟨rfl,dq rfl _,_,rfl,j0 rfl hpn rfl⟩,zR,trivial⟩⟩
end Go.Proofs.YtpjiiolnfbfcbaaGreatDoor
namespace Go.Proofs.YtpjiiolnfbfcbaaGreatDoor
open Go.Eng Go.Plain
set_option maxHeartbeats 32000000
set_option maxRecDepth 20000
theorem wo {w:List (List UInt8)} (h:(opW w).2=true):∃k i d,w=[k,i,d]∧opF k i d=some (opW w).1:=by
 unfold opW at h ⊢
 split
 ·rename_i k i d
  exact⟨k,i,d,rfl,by rw[wr,if_pos h]⟩
 ·rename_i hn
  split at h
  ·rename_i k i d
   exact absurd rfl (hn k i d)
  ·cases h
theorem wq {k i d:List UInt8} (h:(opW [k,i,d]).2=false):opF k i d=none:=by
 rw[wr,if_neg]
 intro hc
 rw[show (opW [k,i,d]).2=opOk k i d from rfl,hc]at h
 cases h
theorem x3 {k i d:List UInt8} {o:POp} (h:opF k i d=some o) (hd:d.length≤1048576):o.data.length≤524288:=by
 simp only[opF]at h
 split at h
 ·rename_i d' _ _ h3
  cases h
  have:=tU h3
  simp only
  omega
 ·cases h
theorem nH (a:List UInt8) (r:List (List UInt8)) (hw:∀x∈r,x.length≤1048576) (hl:a.length+r.length≤1048576) :
  (dK a co 0=none∧cC (a::r)=none)∨∃j f o b,dK a co 0=some (j,fnA f)∧FnIs Tryz.prog f [.d (.arr 1 strD r)] [] (opR o b) []∧(b=true→cC (a::r)=some o∧o.Ok∧o.data.length≤524288)∧(b=false→cC (a::r)=none):=by
 have fin:∀(ws:List (List UInt8)),(∀x∈ws,x.length≤1048576)→(∀o,cC (a::r)=some o→o.Ok)→(∀k i d,ws=[k,i,d]→cC (a::r)=opF k i d)→((∀k i d,ws≠[k,i,d])→cC (a::r)=none) →
   ((opW ws).2=true→cC (a::r)=some (opW ws).1∧(opW ws).1.Ok∧(opW ws).1.data.length≤524288)∧((opW ws).2=false→cC (a::r)=none):=by
  intro ws hx hk h1 h2
  constructor
  ·intro h
   obtain⟨k,i,d,e,h3⟩:=wo h
   have h4:cC (a::r)=some (opW ws).1:=(h1 k i d e).trans h3
   exact⟨h4,hk _ h4,x3 h3 (hx d (by rw[e]; simp))⟩
  ·intro h
   by_cases hs:∃k i d,ws=[k,i,d]
   ·obtain⟨k,i,d,rfl⟩:=hs
    exact (h1 k i d rfl).trans (wq h)
   ·exact h2 fun k i d e=>hs ⟨k,i,d,e⟩
 have hok:∀o,cC (a::r)=some o→o.Ok:=fun o h=>pV h
 by_cases h1:a=ei
 ·subst h1
  refine .inr ⟨0,102,_,_,rfl,rF r hw (by simp[ei,cn,ej]at hl; omega),?_⟩
  refine fin _ ?_ hok ?_ ?_
  ·intro x hx
   rcases List.mem_cons.1 hx with rfl | hx
   ·decide
   ·rcases List.mem_append.1 hx with hx | hx
    ·exact hw x hx
    ·rw[List.mem_singleton.1 hx]; decide
  ·intro k i d e
   match r,e with
   | [x],e=>cases e; simp[cC]
   | [],e=>cases e
   | _::_::_,e=>simp at e
  ·intro hn
   match r,hn with
   | [x],hn=>exact absurd rfl (hn [49] x [45])
   | [],_=>simp[cC]
   | _::_::_,_=>simp[cC]
 by_cases h2:a=cn
 ·subst h2
  refine .inr ⟨1,105,_,_,rfl,rE r hw (by simp[ei,cn,ej]at hl; omega),?_⟩
  refine fin _ ?_ hok ?_ ?_
  ·intro x hx
   rcases List.mem_cons.1 hx with rfl | hx
   ·decide
   ·exact hw x hx
  ·intro k i d e
   match r,e with
   | [x,y],e=>cases e; simp[cC,h1]
   | [],e=>cases e
   | [_],e=>cases e
   | _::_::_::_,e=>simp at e
  ·intro hn
   match r,hn with
   | [x,y],hn=>exact absurd rfl (hn [50] x y)
   | [],_=>simp[cC,h1]
   | [_],_=>simp[cC,h1]
   | _::_::_::_,_=>simp[cC,h1]
 by_cases h3:a=ej
 ·subst h3
  refine .inr ⟨2,106,_,_,rfl,rD r hw (by simp[ei,cn,ej]at hl; omega),?_⟩
  refine fin _ ?_ hok ?_ ?_
  ·intro x hx
   simp only[List.mem_cons]at hx
   rcases hx with rfl | rfl | rfl | hx
   ·decide
   ·decide
   ·decide
   ·exact hw x hx
  ·intro k i d e
   match r,e with
   | [],e=>cases e; simp[cC,h1,h2]
   | _::_,e=>simp at e
  ·intro hn
   match r,hn with
   | [],hn=>exact absurd rfl (hn [51] [48] [45])
   | _::_,_=>simp[cC,h1,h2]
 by_cases h4:a=sOp
 ·subst h4
  refine .inr ⟨3,103,_,_,rfl,fj r hw,?_⟩
  refine fin _ hw hok ?_ ?_
  ·intro k i d e
   subst e
   simp[cC,h1,h2,h3]
  ·intro hn
   match r,hn with
   | [k,i,d],hn=>exact absurd rfl (hn k i d)
   | [],_=>simp[cC,h1,h2,h3]
   | [_],_=>simp[cC,h1,h2,h3]
   | [_,_],_=>simp[cC,h1,h2,h3]
   | _::_::_::_::_,_=>simp[cC,h1,h2,h3]
 ·refine .inl ⟨?_,by simp[cC,h1,h2,h3,h4]⟩
  simp[co,dK,Ne.symm h1,Ne.symm h2,Ne.symm h3,Ne.symm h4,h1,h2,h3,h4]
abbrev addC:FuncId:=73
abbrev addA (t:List UInt8):List AV:=[.d (strD t),.ptr 0 [],.ptr 1 []]
theorem xH {t:List UInt8} (ht:t≠aI) (hl:t.length≤1048575):(addP [] t).2=5∧FnIs Tryz.prog addC (addA t) S0 (.d (i6 5)) S0:=by
 have h5:(addP [] t).2=5:=by
  simp only[addP,if_neg ht]
  cases fz t <;> rfl
 refine⟨h5,?_⟩
 cases hs:bS t 32 with
 | nil=>exact absurd hs (nE t 32)
 | cons a r =>
  have hh:=mn hs
  have hw:∀x∈r,x.length≤1048576:=fun x hx=>by
   have:=eh t 32 x (by rw[hs]; simp[hx])
   omega
  rcases nH a r hw (by omega)with ⟨hf,_⟩ | ⟨j,f,o,b,hf,_⟩
  ·exact xE t a r ht (by omega) hs hf
  ·exact sP t a r ht (by omega) hs f j hf
theorem xG {t:List UInt8} (ht:t≠aI) (hl:t.length≤1048575) (l:List (List POp)) (p:List POp) (hll:l.length≤1000) (hpp:p.length≤1000) :
  (∃e:Int,e≠0∧(addP (l++[p]) t).2=e∧(FnIs Tryz.prog addC (addA t) (S1 3 4 l p) (.d (i6 e)) (S1 3 4 l p)∨∃o,FnIs Tryz.prog addC (addA t) (S1 3 4 l p) (.d (i6 e)) (S1 3 65 l (p++[o])))) ∨
  ∃o,addP (l++[p]) t=(l++[p++[o]],0)∧FnIs Tryz.prog addC (addA t) (S1 3 4 l p) (.d (i6 0)) (S1 3 65 l (p++[o])):=by
 cases hs:bS t 32 with
 | nil=>exact absurd hs (nE t 32)
 | cons a r =>
  have hh:=mn hs
  have hw:∀x∈r,x.length≤1048576:=fun x hx=>by
   have:=eh t 32 x (by rw[hs]; simp[hx])
   omega
  have hno:fz t=none→(addP (l++[p]) t).2=5:=fun h=>by simp only[addP,if_neg ht,h]
  rcases nH a r hw (by omega)with ⟨hf,hr⟩ | ⟨j,f,o,b,hf,hread,hb1,hb2⟩
  ·exact .inl ⟨5,by decide,hno (by simp only[fz,hs,hr]),.inl (xD t a r ht (by omega) hs hf l p)⟩
  ·cases b with
   | false=>exact .inl ⟨5,by decide,hno (by simp only[fz,hs,hb2 rfl]),.inl (xJ t a r ht (by omega) hs f j hf o hread l p hll)⟩
   | true =>
    obtain⟨h1,h2,h3⟩:=hb1 rfl
    by_cases he:bd o=t
    ·have hr:fz t=some o:=by simp only[fz,hs,h1,if_pos he]
     have hok:=yU t a r ht (by omega) hs f j hf o h2 h3 hread l p hll hpp he _ _ rfl rfl
     have hne:¬(l++[p]=[]):=by simp
     have hg:(l++[p]).getLast?.getD []=p:=by simp
     have hbl:(byI o.data).length=o.data.length:=b6 _
     by_cases hbig:64<p.length+1∨64<o.data.length
     ·have hb:(decide (64<((p.length+1:Nat):Int))||decide (64<((byI o.data).length:Int)))=true:=by
       rw[Bool.or_eq_true,decide_eq_true_eq,decide_eq_true_eq,hbl]
       rcases hbig with h | h
       ·exact .inl (by omega)
       ·exact .inr (by omega)
      rw[hb]at hok
      refine .inl ⟨3,by decide,?_,.inr ⟨o,hok⟩⟩
      simp only[addP,if_neg ht,hr,if_neg hne,hg,if_pos hbig]
     ·have hb:(decide (64<((p.length+1:Nat):Int))||decide (64<((byI o.data).length:Int)))=false:=by
       rw[Bool.or_eq_false_iff,decide_eq_false_iff_not,decide_eq_false_iff_not,hbl]
       exact⟨by omega,by omega⟩
      rw[hb]at hok
      refine .inr ⟨o,?_,hok⟩
      simp only[addP,if_neg ht,hr,if_neg hne,hg,if_neg hbig,eo]
    ·exact .inl ⟨5,by decide,hno (by simp only[fz,hs,h1,if_neg he]),.inl (yV t a r ht (by omega) hs f j hf o h2 h3 hread l p hll he)⟩
end Go.Proofs.YtpjiiolnfbfcbaaGreatDoor
namespace Go.Proofs.YtpjiiolnfbfcbaaGreatDoor
open Go.Eng Go.Plain
set_option maxHeartbeats 32000000
set_option maxRecDepth 20000
attribute [local irreducible] WC RegS RegD SeqQ BlkQ ScoQ RegK CutK Sat SatN FnIs LoopQ an OpIs
abbrev parR (l:List (List POp)) (n:Nat) (e:Int):AV :=.tup (.acons (.d (.arx 1 jA l)) (.acons (.int .i64 n) (.acons (.d (i6 e)) .anil)))
theorem cB {α:Type} (s:Nat) (enc:α→D):AVLe (.d (.sc nil_)) (.d (.arx s enc [])):=fun σ w X v h=>AVLe.empty_arx s enc σ w X v (AVLe.nil_empty σ w X v h)
def toL:Option (List (List POp)×List POp)→List (List POp)
 | none=>[]
 | some (l,p)=>l++[p]
abbrev addF:AV :=.fn (.func 73) .anil (.acons (.ptr 65 []) (.acons (.ptr 66 []) .anil))
@[reducible] noncomputable def pSt:Option (List (List POp)×List POp)×List UInt8×Nat→St
 | (none,s,n)=>⟨[(6,addF),(3,.int .i64 n),(2,.ptr 65 []),(0,.d (strD s))],[(65,some (.box 108 (.own 68 0 0 1 none))),(66,some (.box 134 (.mapr 67))),(67,some (.mo (mapC strD co))),(68,some (.ds 111 1 false encO []))],72,Tryz.f47.ntmps,64⟩
 | (some (l,p),s,n)=>⟨[(6,addF),(3,.int .i64 n),(2,.ptr 65 []),(0,.d (strD s))],[(65,some (.box 108 (.own 68 0 (l.length+1) 1 none))),(66,some (.box 134 (.mapr 67))),(67,some (.mo (mapC strD co))),(68,some (rowL p l (l.length+1) 69)),(69,some (rowP p))],72,Tryz.f47.ntmps,64⟩
theorem mM {b b' c:Nat} {p:List POp} {l:List (List POp)} {m m':Nat} {ρ ρ':Nat→Option Nat} (hm:m=m') (h1:ρ b=some c) (h2:ρ' b'=some c):bj (Row.ren ρ (rowL p l m b)) (Row.ren ρ' (rowL p l m' b')):=by
 subst hm
 show bj (.lits _ _ _ _ (AV.ren ρ (chM _ _))) (.lits _ _ _ _ (AV.ren ρ' (chM _ _)))
 rw[kk,kk]
 have e1:AV.ren ρ (.own b 0 p.length 3 none)=.own c 0 p.length 3 none:=by simp[AV.ren,h1]
 have e2:AV.ren ρ' (.own b' 0 p.length 3 none)=.own c 0 p.length 3 none:=by simp[AV.ren,h2]
 rw[e1,e2]
 exact .refl _
theorem yS {α β:Type} {s:Nat} {enc:α→D} {enc':β→D} {g:β→α} {xs:List β} {ys:List α} (hy:ys=xs.map g) (h:∀x,enc (g x)=enc' x):∀(σ:Eng.Place) (w:World) (X:Nat→Prop) (cs:List Value),Rel σ w X (.d (.arr s enc ys)) false cs→Rel σ w X (.d (.arr s enc' xs)) false cs:=by
 subst hy
 intro σ w X v hv
 rcases hv with ⟨h1,rfl⟩ | ⟨a,c,rfl,h2,h3,f,hf⟩
 ·exact .inl ⟨by simpa using h1,rfl⟩
 ·refine .inr ⟨a,c,by rw[List.length_map],by rw[List.length_map]at h2; exact h2,h3,f,fun i hi=>?_⟩
  have:=hf i (by rw[List.length_map]; exact hi)
  rw[List.getElem_map,h]at this
  exact this
theorem xB {α β:Type} {s:Nat} (enc:α→D) (enc':β→D):∀(σ:Eng.Place) (w:World) (X:Nat→Prop) (cs:List Value),Rel σ w X (.d (.arr s enc [])) false cs→Rel σ w X (.d (.arr s enc' [])) false cs:=by
 intro σ w X v hv
 rcases hv with ⟨_,rfl⟩ | ⟨a,c,rfl,h2,h3,f,_⟩
 ·exact .inl ⟨rfl,rfl⟩
 ·exact .inr ⟨a,c,rfl,h2,h3,f,fun i hi=>absurd hi (Nat.not_lt_zero _)⟩
def enc2:Bool×List POp→D
 | (true,p)=>jA p
 | (false,p)=>encP p
theorem uU (x:Bool×List POp):(enc2 x).size=1:=by obtain⟨b,p⟩:=x; cases b <;> rfl
def mkL (L:List (List POp)) (i:Nat):List (Bool×List POp):=(L.take i).map (fun p=>(true,p))++(L.drop i).map (fun p=>(false,p))
theorem x9 (L:List (List POp)) (i:Nat):(mkL L i).length=L.length:=by simp[mkL]; omega
theorem ya {L:List (List POp)} {i:Nat} {x:List POp} (h:L[i]?=some x):(mkL L i)[i]?=some (false,x):=by
 have hi:i<L.length:=(List.getElem?_eq_some_iff.1 h).1
 rw[mkL,List.getElem?_append_right (by simp; omega)]
 simp only[List.length_map,List.length_take,Nat.min_eq_left (Nat.le_of_lt hi),Nat.sub_self,List.getElem?_map,List.getElem?_drop,Nat.add_zero,h,Option.map_some]
theorem x8 {L:List (List POp)} {i:Nat} {x:List POp} (h:L[i]?=some x):(mkL L i).set i (true,x)=mkL L (i+1):=by
 have hi:i<L.length:=(List.getElem?_eq_some_iff.1 h).1
 have hx:L[i]=x:=(List.getElem?_eq_some_iff.1 h).2
 rw[mkL,mkL,List.set_append_right _ _ (by simp; omega),List.drop_eq_getElem_cons hi,hx,List.take_add_one,h]
 simp[Nat.min_eq_left (Nat.le_of_lt hi)]
def PInv (s0:List UInt8):Option (List (List POp)×List POp)×List UInt8×Nat→Prop
 | (q,s,n)=>bM s (toL q) n=bM s0 [] 1∧chkP (toL q)=0∧OkL (toL q)∧s.length+n≤s0.length+1∧1≤n
theorem yI {s t r:List UInt8} {c:UInt8} (h:cutL s c=some (t,r)):t.length+r.length+1=s.length:=by
 rw[(cM h).1]; simp; omega
theorem rL (s0:List UInt8) (hl:s0.length≤1048576):FnIs Tryz.prog 47 [.d (strD s0)] [] (parR (bM s0 [] 1).1 (bM s0 [] 1).2.1 (bM s0 [] 1).2.2) []:=by
 have hd:decide (1048576<(s0.length:Int))=false:=dF (by omega)
 refine au aa Tryz.func47 rfl rfl rfl ?_;refine sR<|rN ?_;refine zD<|zW ?_;refine rC ?_;refine rQ (ek aa rfl rfl) ?_;refine rC ?_;refine zG<|kS<|sR ?_;refine aJ (qH rB rfl rfl ab (.inl rfl) rfl rfl) rfl ?_;refine rN ?_;refine rW<|nR ?_;refine zD<|zW ?_;refine rC<|zP ?_
 refine wc_inv pSt (PInv s0) (fun a=>a.2.1.length) (none,s0,1) [(65,some 64),(66,some 120),(67,some 112),(68,none)] ⟨rfl,rfl,by intro p hp; simp[toL]at hp,Nat.le_refl _,Nat.le_refl _⟩
  (lg zi ⟨zR,zR,zR,⟨rfl,rfl,rfl⟩,trivial⟩) ?_
 rintro⟨q,s,n⟩ ⟨hp,hc0,hok,hn,hn1⟩
 by_cases hs:s=[]
 ·have hR:bM s0 [] 1=(toL q,0,0):=by rw[←hp,hs,gM]
  rw[hR]
  have hs1:(!decide (s=[]))=false:=by rw[hs]; rfl
  cases q with
  | none =>
   have hcl:=og [] (by decide)
   have hcp:=qC []
   refine bG<|qR ?_;refine rC ?_;refine rQ (dB (a:=s) (b:=[]) aa rfl rfl rfl) ?_;refine zG<|cv<|ew<|fe<|eD<|aM<|qR ?_;refine rQ iM ?_;refine rQ (bP aa rfl rfl) ?_;refine rC<|zP ?_;refine jN<|sR ?_;refine rC<|nQ ?_;refine wG<|zX<|sR ?_;refine rQ iM ?_;refine bT (env':=[(53,_),(2,_)]) (h':=[(65,some _)]) 68 _ rfl ⟨⟨_,rfl,Frz.le (y :=.d (.arr 1 jA [])) (Frz.own rfl) rfl (fun _=>rfl) (fun _ _=>trivial) (xB encO jA)⟩,zE,trivial⟩ ⟨⟨rfl,_,rfl,.refl _⟩,trivial⟩ ?_;refine rQ (ak hcl rfl rfl (aj ab) (.inl rfl) (fun _=>rfl)) ?_;refine rQ (ak hcp rfl rfl (aj ab) (.inl rfl) (fun _=>rfl)) ?_;refine rW ?_;refine zD<|zT ?_
   exact⟨trivial,_,rfl,[],lf⟩
  | some lp =>
   obtain⟨l,p⟩:=lp
   obtain⟨c1,c2⟩:=dV.1 hc0
   have hl8:l.length+1≤8:=by simpa[toL]using c1
   have hLl:(l++[p]).length=l.length+1:=by simp
   have hcl:=og (l++[p]) (by rw[hLl]; omega)
   have hcp:=qC (l++[p])
   refine bG<|qR ?_;refine rC ?_;refine rQ (dB (a:=s) (b:=[]) aa rfl rfl rfl) ?_;refine zG<|cv<|ew<|fe<|eD<|aM<|qR ?_;refine bT (env':=[(2,_)]) (h':=[(65,some _),(68,some _)]) 69 _ rfl ⟨zE,trivial⟩ ⟨⟨rfl,_,rfl,.refl _⟩,⟨rfl,_,rfl,FrzR.last (enc:=enc2) (xs:=l.map (fun p=>(false,p))) (y:=(false,p)) rfl rfl (by simp) uU (by simp[enc2])⟩,trivial⟩ ?_;refine rQ iM ?_;refine rQ (bP aa rfl rfl) ?_;refine rC<|zP ?_
   refine wc_inv (fun i:Nat=>⟨[(40,.int .i64 i),(39,.int .i64 ((l.length+1:Nat):Int)),(2,.ptr 65 [])],[(65,some (.box 108 (.own 68 0 (l.length+1) 1 none))),(68,some (.ds 111 1 false enc2 (mkL (l++[p]) i)))],72,Tryz.f47.ntmps,64⟩) (fun i=>i≤l.length+1) (fun i=>l.length+1-i) 0 [] (Nat.zero_le _)
    (lg zj ⟨zR,⟨rfl,rfl,_,rfl,bj.of_eq (by simp[mkL]; rfl)⟩,trivial⟩) ?_
   intro i hi
   refine bG<|sR ?_;refine rC<|nQ ?_
   refine bO rfl (fun h3=>?_) (fun h3=>?_)
   ·have hlt:i<l.length+1:=by have:=of_decide_eq_true h3; omega
    obtain⟨x,hx⟩:∃x,(l++[p])[i]?=some x:=⟨_,List.getElem?_eq_getElem (by rw[hLl]; exact hlt)⟩
    have hxl:x.length≤1048576:=by
     have:=c2 x (List.mem_of_getElem? hx)
     simp only[badP,Bool.or_eq_false_iff,decide_eq_false_iff_not]at this
     omega
    have hgx:(mkL (l++[p]) i)[((i:Int)).toNat]?=some (false,x):=by rw[Int.toNat_natCast]; exact ya hx
    have hset:=x8 hx
    have hc1:=xl x hxl
    have hc2:=yM x
    refine zQ<|zS<|zD<|nS ?_;refine aE (by kernel_rfl) ?_;refine dQ [2] [65] iM ?_;refine dC [11] [] ?_;refine dQ [2] [65] iM ?_;refine dC [11] [] ?_;refine dQ [45,46] [] (br aa rfl rfl rfl rfl rfl (by omega) (by omega)) ?_;refine dQ [47] [68] (bU aa rfl rfl ⟨rfl,(false,x),hgx,_,rfl,rfl⟩ rfl) ?_;refine dQ [48] [] (ak hc1 rfl rfl (aj ab) (.inl rfl) (fun _=>rfl)) ?_;refine dQ [49] [] (ak hc2 rfl rfl (aj ab) (.inl rfl) (fun _=>rfl)) ?_;refine dQ [43,44] [] (br aa rfl rfl rfl rfl rfl (by omega) (by omega)) ?_;refine bI [51,50] [68] (aD aa rfl rfl rfl ⟨rfl,(false,x),(true,x),hgx,⟨rfl,rfl,rfl⟩,rfl⟩ rfl) ?_;refine aB (by kernel_rfl)<|gw<|aM<|am ?_;refine rQ iD ?_;refine rC<|aA ?_
    exact aN (i+1) [] hlt (by omega) (lg zj ⟨zR,⟨rfl,rfl,_,rfl,bj.of_eq (congrArg (Row.ds 111 1 false enc2) hset)⟩,trivial⟩)
   ·have he:i=l.length+1:=by have:=of_decide_eq_false h3; omega
    subst he
    have hml:l.length+1=(mkL (l++[p]) (l.length+1)).length:=by rw[x9,hLl]
    have hmk:mkL (l++[p]) (l.length+1)=(l++[p]).map (fun p=>(true,p)):=by rw[mkL,←hLl,List.take_length,List.drop_length]; simp
    refine zX<|sR<|rQ iM ?_;refine bT (env':=[(53,_),(2,_)]) (h':=[(65,some _)]) 68 _ rfl ⟨⟨_,rfl,Frz.le (y :=.d (.arr 1 jA (l++[p]))) (Frz.own hml) rfl (fun _=>rfl) (fun _ _=>trivial) (yS (enc':=jA) (xs:=l++[p]) (g:=fun p=>(true,p)) hmk (fun _=>rfl))⟩,zE,trivial⟩ ⟨⟨rfl,_,rfl,.refl _⟩,trivial⟩ ?_
    refine rQ (ak hcl rfl rfl (aj ab) (.inl rfl) (fun _=>rfl)) ?_;refine rQ (ak hcp rfl rfl (aj ab) (.inl rfl) (fun _=>rfl)) ?_;refine rW ?_;refine zD<|zT ?_
    exact⟨trivial,_,rfl,[],lf⟩
 have hs1:(!decide (s=[]))=true:=by rw[dF hs]; rfl
 cases hcut:cutL s 10 with
 | none =>
  have hR:bM s0 [] 1=([],n,5):=by rw[←hp,lv _ _ hs hcut]
  have hc:=kX (l:=s) (c:=10) (by omega)
  rw[show cutA s 10=(s,[],false) by simp only[cutA,hcut]]at hc
  rw[hR]
  cases q with
  | none =>
   refine bG<|qR ?_;refine rC ?_;refine rQ (dB (a:=s) (b:=[]) aa rfl rfl rfl) ?_;refine zI<|zQ<|aZ<|sR ?_;refine rC ?_;refine rQ (ak hc rfl rfl (aj (aj ab)) (.inl rfl) (fun _=>rfl)) ?_;iterate 7 refine rC ?_
   refine zW<|zD ?_;refine zO<|sR ?_;refine rC ?_;refine rW ?_;refine zD<|zT<|aP<|zB<|ce<|zB ?_
   exact⟨trivial,_,rfl,[],lg ⟨⟨_,rfl,AVLe.tup1 (cB _ _) rfl⟩,rfl,trivial⟩ trivial⟩
  | some lp =>
   obtain⟨l,p⟩:=lp
   refine bG<|qR ?_;refine rC ?_;refine rQ (dB (a:=s) (b:=[]) aa rfl rfl rfl) ?_;refine zI<|zQ<|aZ<|sR ?_;refine rC ?_;refine rQ (ak hc rfl rfl (aj (aj ab)) (.inl rfl) (fun _=>rfl)) ?_;iterate 7 refine rC ?_
   refine zW<|zD ?_;refine zO<|sR ?_;refine rC ?_;refine rW ?_;refine zD<|zT<|aP<|zB<|ce<|zB ?_
   exact⟨trivial,_,rfl,[],lg ⟨⟨_,rfl,AVLe.tup1 (cB _ _) rfl⟩,rfl,trivial⟩ trivial⟩
 | some tr =>
  obtain⟨tx,rest⟩:=tr
  have hlen:=yI hcut
  have hc:=kX (l:=s) (c:=10) (by omega)
  rw[show cutA s 10=(tx,rest,true) by simp only[cutA,hcut]]at hc
  have hP:=fM (toL q) n hs hcut
  rw[hp]at hP
  cases q with
  | none =>
   by_cases ht:tx=aI
   ·have hadd0:=qO tx ht
    have hA:addP (toL none) tx=([[]],0):=by simp[addP,ht,toL]
    have hR:bM s0 [] 1=bM rest (toL (some ([],[]))) (n+1):=by rw[hP,hA]; rfl
    refine bG<|qR ?_;refine rC ?_;refine rQ (dB (a:=s) (b:=[]) aa rfl rfl rfl) ?_;refine zI<|zQ<|aZ<|sR ?_;refine rC ?_;refine rQ (ak hc rfl rfl (aj (aj ab)) (.inl rfl) (fun _=>rfl)) ?_;iterate 7 refine rC ?_
    refine zW<|zD ?_;refine zJ<|kS<|qR ?_;refine zD ?_;refine bB rfl (bJ [(0,some 65),(1,some 66),(2,some 67),(3,some 68)] hadd0 rfl rfl rfl (aj (bC rfl rfl (bC rfl rfl ab))) ⟨zH,zH,zH,zH,trivial⟩ rfl rfl (.inl rfl) rfl rfl) rfl rfl ?_;refine rC<|nR ?_;refine zD ?_;refine zJ<|kS<|am ?_;refine zD<|aA<|zC<|am ?_;refine rC ?_;refine rQ iD ?_;refine rC<|aA ?_
    exact aN (some ([],[]),rest,n+1) [(68,some 192),(69,some 193)] ⟨by rw[←hR],mb hc0 hA,ph hok hA,by omega,by omega⟩ (by show rest.length<s.length; omega) (lg zi ⟨zR,zR,zR,⟨rfl,dq rfl _,_,rfl,mM rfl rfl rfl⟩,zR,trivial⟩)
   ·obtain⟨h5,hadd0⟩:=xH ht (by omega)
    have hR:bM s0 [] 1=([],n,5):=by
     rw[hP,show toL none=[] from rfl,h5]
     rfl
    rw[hR]
    refine bG<|qR ?_;refine rC ?_;refine rQ (dB (a:=s) (b:=[]) aa rfl rfl rfl) ?_;refine zI<|zQ<|aZ<|sR ?_;refine rC ?_;refine rQ (ak hc rfl rfl (aj (aj ab)) (.inl rfl) (fun _=>rfl)) ?_;iterate 7 refine rC ?_
    refine zW<|zD ?_;refine zJ<|kS<|qR ?_;refine zD ?_;refine bB rfl (bJ [(0,some 65),(1,some 66),(2,some 67),(3,some 68)] hadd0 rfl rfl rfl (aj (bC rfl rfl (bC rfl rfl ab))) ⟨zH,zH,zH,zH,trivial⟩ rfl rfl (.inl rfl) rfl rfl) rfl rfl ?_;refine rC<|nR ?_;refine zD ?_;refine zO<|sR ?_;refine zD ?_;refine rW ?_;refine zD<|zT<|aP<|zB<|ce<|zB ?_
    exact⟨trivial,_,rfl,[],lg ⟨⟨_,rfl,AVLe.tup1 (cB _ _) rfl⟩,rfl,trivial⟩ trivial⟩
  | some lp =>
   obtain⟨l,p⟩:=lp
   obtain⟨c1,c2⟩:=dV.1 hc0
   have hl8:l.length+1≤8:=by simpa[toL]using c1
   have hp64:p.length≤64:=by
    have:=c2 p (by simp[toL])
    simp only[badP,Bool.or_eq_false_iff,decide_eq_false_iff_not]at this
    omega
   by_cases ht:tx=aI
   ·have hadd1:=qN tx ht l p (by omega)
    by_cases hg:8<l.length+2
    ·rw[if_pos hg]at hadd1
     have hR:bM s0 [] 1=([],n,3):=by
      have h3:(addP (toL (some (l,p))) tx).2=3:=by
       rw[show toL (some (l,p))=l++[p] from rfl,addP,if_pos ht,if_pos (by simp; omega)]
      rw[hP,h3]
      rfl
     rw[hR]
     refine bG<|qR ?_;refine rC ?_;refine rQ (dB (a:=s) (b:=[]) aa rfl rfl rfl) ?_;refine zI<|zQ<|aZ<|sR ?_;refine rC ?_;refine rQ (ak hc rfl rfl (aj (aj ab)) (.inl rfl) (fun _=>rfl)) ?_;iterate 7 refine rC ?_
     refine zW<|zD ?_;refine zJ<|kS<|qR ?_;refine zD ?_;refine bB rfl (bJ [(0,some 65),(1,some 66),(2,some 67),(3,some 68),(4,some 69)] hadd1 rfl rfl rfl (aj (bC rfl rfl (bC rfl rfl ab))) ⟨zH,zH,zH,⟨rfl,dq rfl _,_,_,rfl,rfl,dM rfl rfl⟩,zH,trivial⟩ rfl rfl (.inl rfl) rfl rfl) rfl rfl ?_;refine rC<|nR ?_;refine zD ?_;refine zO<|sR ?_;refine zD ?_;refine rW ?_;refine zD<|zT<|aP<|zB<|ce<|zB ?_
     exact⟨trivial,_,rfl,[],lg ⟨⟨_,rfl,AVLe.tup1 (cB _ _) rfl⟩,rfl,trivial⟩ trivial⟩
    ·rw[if_neg hg]at hadd1
     have hA:addP (toL (some (l,p))) tx=(toL (some (l++[p],[])),0):=by
      rw[show toL (some (l,p))=l++[p] from rfl,addP,if_pos ht,if_neg (by simp; omega)]
      rfl
     have hR:bM s0 [] 1=bM rest (toL (some (l++[p],[]))) (n+1):=by rw[hP,hA]; rfl
     refine bG<|qR ?_;refine rC ?_;refine rQ (dB (a:=s) (b:=[]) aa rfl rfl rfl) ?_;refine zI<|zQ<|aZ<|sR ?_;refine rC ?_;refine rQ (ak hc rfl rfl (aj (aj ab)) (.inl rfl) (fun _=>rfl)) ?_;iterate 7 refine rC ?_
     refine zW<|zD ?_;refine zJ<|kS<|qR ?_;refine zD ?_;refine bB rfl (bJ [(0,some 65),(1,some 66),(2,some 67),(3,some 68),(4,some 69)] hadd1 rfl rfl rfl (aj (bC rfl rfl (bC rfl rfl ab))) ⟨zH,zH,zH,⟨rfl,dq rfl _,_,_,rfl,rfl,dM rfl rfl⟩,zH,trivial⟩ rfl rfl (.inl rfl) rfl rfl) rfl rfl ?_;refine rC<|nR ?_;refine zD ?_;refine zJ<|kS<|am ?_;refine zD<|aA<|zC<|am ?_;refine rC ?_;refine rQ iD ?_;refine rC<|aA ?_
     exact aN (some (l++[p],[]),rest,n+1) [(68,some 192),(69,some 193)] ⟨by rw[←hR],mb hc0 hA,ph hok hA,by omega,by omega⟩ (by show rest.length<s.length; omega) (lg zi ⟨zR,zR,zR,⟨rfl,dq rfl _,_,rfl,mM rfl rfl rfl⟩,zR,trivial⟩)
   ·rcases xG ht (by omega) l p (by omega) (by omega)with ⟨e,he,h5,hadd1 | ⟨o,hadd1⟩⟩ | ⟨o,hA,hadd1⟩
    ·have hne:(!decide (e=0))=true:=by rw[dF he]; rfl
     have hR:bM s0 [] 1=([],n,e):=by
      rw[hP,show toL (some (l,p))=l++[p] from rfl,h5,if_neg he]
     rw[hR]
     refine bG<|qR ?_;refine rC ?_;refine rQ (dB (a:=s) (b:=[]) aa rfl rfl rfl) ?_;refine zI<|zQ<|aZ<|sR ?_;refine rC ?_;refine rQ (ak hc rfl rfl (aj (aj ab)) (.inl rfl) (fun _=>rfl)) ?_;iterate 7 refine rC ?_
     refine zW<|zD ?_;refine zJ<|kS<|qR ?_;refine zD ?_;refine bB rfl (bJ [(0,some 65),(1,some 66),(2,some 67),(3,some 68),(4,some 69)] hadd1 rfl rfl rfl (aj (bC rfl rfl (bC rfl rfl ab))) ⟨zH,zH,zH,⟨rfl,dq rfl _,_,_,rfl,rfl,dM rfl rfl⟩,zH,trivial⟩ rfl rfl (.inl rfl) rfl rfl) rfl rfl ?_;refine rC<|nR ?_;refine zD ?_;refine zI<|sR ?_;refine zD ?_;refine rW ?_;refine zD<|zT<|aP<|zB<|ce<|zB ?_
     exact⟨trivial,_,rfl,[],lg ⟨⟨_,rfl,AVLe.tup1 (cB _ _) rfl⟩,rfl,trivial⟩ trivial⟩
    ·have hne:(!decide (e=0))=true:=by rw[dF he]; rfl
     have hR:bM s0 [] 1=([],n,e):=by
      rw[hP,show toL (some (l,p))=l++[p] from rfl,h5,if_neg he]
     rw[hR]
     refine bG<|qR ?_;refine rC ?_;refine rQ (dB (a:=s) (b:=[]) aa rfl rfl rfl) ?_;refine zI<|zQ<|aZ<|sR ?_;refine rC ?_;refine rQ (ak hc rfl rfl (aj (aj ab)) (.inl rfl) (fun _=>rfl)) ?_;iterate 7 refine rC ?_
     refine zW<|zD ?_;refine zJ<|kS<|qR ?_;refine zD ?_;refine bB rfl (bJ [(0,some 65),(1,some 66),(2,some 67),(3,some 68),(4,some 69)] hadd1 rfl rfl rfl (aj (bC rfl rfl (bC rfl rfl ab))) ⟨zH,zH,zH,⟨rfl,dq rfl _,_,_,rfl,rfl,dM rfl rfl⟩,zH,trivial⟩ rfl rfl (.inl rfl) rfl rfl) rfl rfl ?_;refine rC<|nR ?_;refine zD ?_;refine zI<|sR ?_;refine zD ?_;refine rW ?_;refine zD<|zT<|aP<|zB<|ce<|zB ?_
     exact⟨trivial,_,rfl,[],lg ⟨⟨_,rfl,AVLe.tup1 (cB _ _) rfl⟩,rfl,trivial⟩ trivial⟩
    ·replace hA:addP (toL (some (l,p))) tx=(toL (some (l,p++[o])),0):=hA
     have hR:bM s0 [] 1=bM rest (toL (some (l,p++[o]))) (n+1):=by rw[hP,hA]; rfl
     refine bG<|qR ?_;refine rC ?_;refine rQ (dB (a:=s) (b:=[]) aa rfl rfl rfl) ?_;refine zI<|zQ<|aZ<|sR ?_;refine rC ?_;refine rQ (ak hc rfl rfl (aj (aj ab)) (.inl rfl) (fun _=>rfl)) ?_;iterate 7 refine rC ?_
     refine zW<|zD ?_;refine zJ<|kS<|qR ?_;refine zD ?_;refine bB rfl (bJ [(0,some 65),(1,some 66),(2,some 67),(3,some 68),(4,some 69)] hadd1 rfl rfl rfl (aj (bC rfl rfl (bC rfl rfl ab))) ⟨zH,zH,zH,⟨rfl,dq rfl _,_,_,rfl,rfl,dM rfl rfl⟩,zH,trivial⟩ rfl rfl (.inl rfl) rfl rfl) rfl rfl ?_;refine rC<|nR ?_;refine zD ?_;refine zJ<|kS<|am ?_;refine zD<|aA<|zC<|am ?_;refine rC ?_;refine rQ iD ?_;refine rC<|aA ?_
     exact aN (some (l,p++[o]),rest,n+1) [(69,some 193)] ⟨by rw[←hR],mb hc0 hA,ph hok hA,by omega,by omega⟩ (by show rest.length<s.length; omega) (lg zi ⟨zR,zR,zR,⟨rfl,dq rfl _,_,rfl,mM rfl rfl rfl⟩,zR,trivial⟩)
theorem wh (s:List UInt8) (hl:s.length≤1048576):FnIs Tryz.prog 47 [.d (strD s)] [] (parR (bM s [] 1).1 (bM s [] 1).2.1 (bM s [] 1).2.2) []:=rL s hl
theorem Ao (a b:List UInt8):FnIs Tryz.prog 61 [.d (encB a),.d (encB b)] [] (.bool (decide (a=b))) []:=by
 refine au aa Tryz.func61 rfl rfl rfl ?_;refine sR<|rC<|nR ?_;refine rC ?_;refine rQ (eL aa rfl rfl rfl rfl) ?_;refine rC ?_;refine rQ (eL aa rfl rfl rfl rfl) ?_;refine rQ (th aa rfl rfl rfl) ?_;refine rC<|zT ?_
 rw[←jg,←iR,←iR]
 exact⟨trivial,[],lf⟩
theorem zr (x y:POp):decide (x=y)=(decide (x.kind=y.kind)&&decide (x.index=y.index)&&decide (x.data=y.data)):=by
 obtain⟨a,b,c⟩:=x
 obtain⟨d,e,f⟩:=y
 by_cases h1:a=d <;> by_cases h2:b=e <;> by_cases h3:c=f <;> simp[h1,h2,h3]
theorem xQ (a b:List UInt8):decide (lj (byI a)=lj (byI b))=decide (a=b):=by rw[iR,iR,jg]
theorem vP (x y:POp) (c1 c2 c3:Bool) (h1:(!decide (x.kind=y.kind)) = !c1) (h2:(!decide (x.index=y.index)) = !c2) (h3:(!decide (lj (byI x.data)=lj (byI y.data))) = !c3):FnIs Tryz.prog 56 [.d (bu x),.d (bu y)] [] (.d (i6 (if (c1&&c2&&c3)=true then 1 else 0))) []:=by
 refine au aa Tryz.func56 rfl rfl rfl ?_
 cases c1 <;> cases c2 <;> cases c3
 ·refine sR ?_;iterate 2 refine rN ?_
  refine rC<|zW ?_;refine rC ?_;refine rQ iB ?_;refine rC ?_;refine rQ iB ?_;refine zD ?_
  iterate 5 refine rS ?_
  refine rQ iT ?_;refine rC ?_;iterate 7 refine rT ?_
  refine rQ iU ?_;refine zO<|sR ?_;refine rC<|zT<|aP ?_
  exact⟨trivial,[],lf⟩
 ·refine sR ?_;iterate 2 refine rN ?_
  refine rC<|zW ?_;refine rC ?_;refine rQ iB ?_;refine rC ?_;refine rQ iB ?_;refine zD ?_
  iterate 5 refine rS ?_
  refine rQ iT ?_;refine rC ?_;iterate 7 refine rT ?_
  refine rQ iU ?_;refine zO<|sR ?_;refine rC<|zT<|aP ?_
  exact⟨trivial,[],lf⟩
 ·refine sR ?_;iterate 2 refine rN ?_
  refine rC<|zW ?_;refine rC ?_;refine rQ iB ?_;refine rC ?_;refine rQ iB ?_;refine zD ?_
  iterate 5 refine rS ?_
  refine rQ iT ?_;refine rC ?_;iterate 7 refine rT ?_
  refine rQ iU ?_;refine zO<|sR ?_;refine rC<|zT<|aP ?_
  exact⟨trivial,[],lf⟩
 ·refine sR ?_;iterate 2 refine rN ?_
  refine rC<|zW ?_;refine rC ?_;refine rQ iB ?_;refine rC ?_;refine rQ iB ?_;refine zD ?_
  iterate 5 refine rS ?_
  refine rQ iT ?_;refine rC ?_;iterate 7 refine rT ?_
  refine rQ iU ?_;refine zO<|sR ?_;refine rC<|zT<|aP ?_
  exact⟨trivial,[],lf⟩
 ·refine sR ?_;iterate 2 refine rN ?_
  refine rC<|zW ?_;refine rC ?_;refine rQ iB ?_;refine rC ?_;refine rQ iB ?_;refine zD ?_;refine rO ?_;refine rC ?_;refine rO ?_;refine rQ iB ?_;refine rO ?_;refine rC ?_;refine rO ?_;refine rQ iB ?_;refine rO ?_;refine rC ?_;refine rQ iF ?_;refine rC ?_
  iterate 7 refine rS ?_
  refine rQ iT ?_;refine zO<|sR ?_;refine rC<|zT<|aP ?_
  exact⟨trivial,[],lf⟩
 ·refine sR ?_;iterate 2 refine rN ?_
  refine rC<|zW ?_;refine rC ?_;refine rQ iB ?_;refine rC ?_;refine rQ iB ?_;refine zD ?_;refine rO ?_;refine rC ?_;refine rO ?_;refine rQ iB ?_;refine rO ?_;refine rC ?_;refine rO ?_;refine rQ iB ?_;refine rO ?_;refine rC ?_;refine rQ iF ?_;refine rC ?_
  iterate 7 refine rS ?_
  refine rQ iT ?_;refine zO<|sR ?_;refine rC<|zT<|aP ?_
  exact⟨trivial,[],lf⟩
 ·refine sR ?_;iterate 2 refine rN ?_
  refine rC<|zW ?_;refine rC ?_;refine rQ iB ?_;refine rC ?_;refine rQ iB ?_;refine zD ?_;refine rO ?_;refine rC ?_;refine rO ?_;refine rQ iB ?_;refine rO ?_;refine rC ?_;refine rO ?_;refine rQ iB ?_;refine rO ?_;refine rC ?_;refine rQ iF ?_;refine rC ?_;refine rO ?_;refine rC ?_;refine rO ?_;refine rQ iB ?_;refine rO ?_;refine rQ (eL aa rfl rfl rfl rfl) ?_;refine rO ?_;refine rC ?_;refine rO ?_;refine rQ iB ?_;refine rO ?_;refine rQ (eL aa rfl rfl rfl rfl) ?_;refine rO ?_;refine rQ (oQ aa rfl rfl rfl) ?_;refine rQ iF ?_;refine zI<|sR ?_;refine rC<|zT<|aP ?_
  exact⟨trivial,[],lf⟩
 ·refine sR ?_;iterate 2 refine rN ?_
  refine rC<|zW ?_;refine rC ?_;refine rQ iB ?_;refine rC ?_;refine rQ iB ?_;refine zD ?_;refine rO ?_;refine rC ?_;refine rO ?_;refine rQ iB ?_;refine rO ?_;refine rC ?_;refine rO ?_;refine rQ iB ?_;refine rO ?_;refine rC ?_;refine rQ iF ?_;refine rC ?_;refine rO ?_;refine rC ?_;refine rO ?_;refine rQ iB ?_;refine rO ?_;refine rQ (eL aa rfl rfl rfl rfl) ?_;refine rO ?_;refine rC ?_;refine rO ?_;refine rQ iB ?_;refine rO ?_;refine rQ (eL aa rfl rfl rfl rfl) ?_;refine rO ?_;refine rQ (oQ aa rfl rfl rfl) ?_;refine rQ iF ?_;refine zG<|kS<|sR ?_;refine rC<|zT ?_
  exact⟨trivial,[],lf⟩
theorem ky (x y:POp):FnIs Tryz.prog 56 [.d (bu x),.d (bu y)] [] (.d (i6 (if x=y then 1 else 0))) []:=by
 have:=vP x y (decide (x.kind=y.kind)) (decide (x.index=y.index)) (decide (x.data=y.data)) rfl rfl (by rw[xQ])
 rw[←zr]at this
 simpa using this
end Go.Proofs.YtpjiiolnfbfcbaaGreatDoor
namespace Go.Proofs.YtpjiiolnfbfcbaaGreatDoor
open Go.Eng Go.Plain
set_option maxHeartbeats 32000000
set_option maxRecDepth 20000
abbrev fg (l:List UInt8):D :=.vec 32 1 bE (byI l)
structure HEv where
 kind:Int
 client:Int
 op:POp
 value:List UInt8
 err:Int
 deriving DecidableEq
structure HEv.Ok (x:HEv):Prop where
 kind:0≤x.kind∧x.kind≤255
 client : -9223372036854775808≤x.client∧x.client≤9223372036854775807
 op:x.op.Ok
 value:x.value.length=32
 err : -9223372036854775808≤x.err∧x.err≤9223372036854775807
def aY (x:HEv):D :=.cons (u8s x.kind) (.cons (i6 x.client) (.cons (bu x.op) (.cons (fg x.value) (.cons (i6 x.err) .nil))))
abbrev encH (l:List HEv):D :=.arr 38 aY l
abbrev encHL (l:List (List HEv)):D :=.arr 1 encH l
def zBk:List UInt8:=[0,0,0,0,0,0,0,0,0,0,0,0,0,0,0,0,0,0,0,0,0,0,0,0,0,0,0,0,0,0,0,0]
def zOp:POp:=⟨0,0,[]⟩
structure HOp where
 client:Int
 number:Int
 era:Int
 op:POp
 invoked:Int
 returned:Int
 value:List UInt8
 err:Int
 deriving DecidableEq
def b8 (x:HOp):D :=.cons (i6 x.client) (.cons (i6 x.number) (.cons (i6 x.era) (.cons (bu x.op) (.cons (i6 x.invoked) (.cons (i6 x.returned) (.cons (fg x.value) (.cons (i6 x.err) .nil)))))))
abbrev eu (l:List HOp):D :=.arr 41 b8 l
theorem yO {a b:List UInt8}:byI a=byI b↔a=b:=by
 constructor
 ·intro h
  induction a generalizing b with
  | nil=>cases b with
   | nil=>rfl
   | cons y b=>simp[byI]at h
  | cons x a ih=>cases b with
   | nil=>simp[byI]at h
   | cons y b =>
    simp only[byI,List.map_cons,List.cons.injEq]at h
    rw[ih h.2,UInt8.toNat_inj.1 (Int.ofNat.inj h.1)]
 ·rintro rfl; rfl
theorem bq (a b:List UInt8):EqOk Tryz.prog 2 29 (fg a) (fg b) (decide (a=b)):=
 (Ai aa (P:=Tryz.prog) Tryz.underlying29 rfl (fun _=>rfl) rfl (fun _ _=>w8 (P:=Tryz.prog) Tryz.underlying5)).cast (decide_eq_decide.2 yO)
end Go.Proofs.YtpjiiolnfbfcbaaGreatDoor
namespace Go.Proofs.YtpjiiolnfbfcbaaGreatDoor
open Go.Eng Go.Plain
set_option maxHeartbeats 32000000
set_option maxRecDepth 20000
attribute [local irreducible] WC RegS RegD SeqQ BlkQ ScoQ RegK CutK Sat SatN FnIs LoopQ an OpIs
def outO (o:POp) (b:Int):Bool:=decide (o.index<0)||decide (b≤o.index)
def badO (o:POp) (b:Int):Bool:=if o.kind=1 then outO o b else if o.kind=2 then outO o b || !decide (o.data.length=32) else !decide (o.kind=3)
theorem Cf (o:POp):decide (((byI o.data).length:Int)=32)=decide (o.data.length=32):=by
 rw[b6]
 by_cases h:o.data.length=32
 ·rw[dT h,dT (by omega)]
 ·rw[dF h,dF (by omega)]
def preO (l:List (List POp)) (i:Nat) (p:List POp) (j:Nat):List POp:=(l.take i).flatten++p.take j
def cK (k:Int) (l:List POp):Nat:=l.countP fun o=>decide (o.kind=k)
def cO (l:List POp):Nat:=l.countP fun o => !decide (o.kind=1) && !decide (o.kind=2) && !decide (o.kind=3)
def CG (l:List (List POp)):Prop:=l.length≤12∧l.flatten.length≤200∧∀p∈l,p.length≤66∧∀o∈p,o.data.length≤70
def Cz (l:List (List POp)):Bool:=decide (l.length≤12)&&decide (l.flatten.length≤200)&&l.all fun p=>decide (p.length≤66)&&p.all fun o=>decide (o.data.length≤70)
abbrev r01 (b:Bool):AV :=.d (i6 (if b=true then 1 else 0))
theorem ur (o:POp) (b:Int) (hk:o.kind=1) (c1 c2 c3:Bool) (h1:decide (0≤o.index) = !c1) (h2:decide (o.index<b) = !c2) (h3:decide (((byI o.data).length:Int)=32)=c3):FnIs Tryz.prog 54 [.d (bu o),.int .i64 b] [] (r01 (c1||c2)) []:=by
 have hk3:decide (o.kind=3)=false:=dF (by omega)
 have hk1:decide (o.kind=1)=true:=dT (by omega)
 refine au aa Tryz.func54 rfl rfl rfl ?_
 cases c1 <;> cases c2 <;> cases c3
 ·refine sR<|rN ?_;refine rC<|zW ?_;refine rC ?_;refine rQ iB<|zP<|sR ?_;refine zD ?_;refine zG<|qR ?_;refine zD ?_;refine zI<|kS ?_;refine wT<|sR ?_;refine rC ?_;refine rQ iB ?_;refine zD ?_;refine rO ?_;refine rC ?_;refine rO ?_;refine rQ iB ?_;refine rO ?_;refine rC ?_;refine rO ?_;refine rC ?_;refine rQ iT ?_;refine rC ?_;refine rO ?_;refine rC ?_;refine rO ?_;refine rQ iB ?_;refine rO ?_;refine rC ?_;refine rO ?_;refine rC ?_;iterate 4 refine rS ?_
  refine rO ?_;iterate 2 refine rQ iT ?_
  refine zO<|sR ?_;refine rC<|zT<|zB ?_
  exact⟨trivial,[],lf⟩
 ·refine sR<|rN ?_;refine rC<|zW ?_;refine rC ?_;refine rQ iB<|zP<|sR ?_;refine zD ?_;refine zG<|qR ?_;refine zD ?_;refine zI<|kS ?_;refine wT<|sR ?_;refine rC ?_;refine rQ iB ?_;refine zD ?_;refine rO ?_;refine rC ?_;refine rO ?_;refine rQ iB ?_;refine rO ?_;refine rC ?_;refine rO ?_;refine rC ?_;refine rQ iT ?_;refine rC ?_;refine rO ?_;refine rC ?_;refine rO ?_;refine rQ iB ?_;refine rO ?_;refine rC ?_;refine rO ?_;refine rC ?_;iterate 4 refine rS ?_
  refine rO ?_;iterate 2 refine rQ iT ?_
  refine zO<|sR ?_;refine rC<|zT<|zB ?_
  exact⟨trivial,[],lf⟩
 ·refine sR<|rN ?_;refine rC<|zW ?_;refine rC ?_;refine rQ iB<|zP<|sR ?_;refine zD ?_;refine zG<|qR ?_;refine zD ?_;refine zI<|kS ?_;refine wT<|sR ?_;refine rC ?_;refine rQ iB ?_;refine zD ?_;refine rO ?_;refine rC ?_;refine rO ?_;refine rQ iB ?_;refine rO ?_;refine rC ?_;refine rO ?_;refine rC ?_;refine rQ iT ?_;refine rC ?_;iterate 4 refine rS ?_
  iterate 4 refine rU ?_
  refine rS ?_;refine rQ iF ?_;refine zJ<|aL<|zC<|sR ?_;refine rC<|zT ?_
  exact⟨trivial,[],lf⟩
 ·refine sR<|rN ?_;refine rC<|zW ?_;refine rC ?_;refine rQ iB<|zP<|sR ?_;refine zD ?_;refine zG<|qR ?_;refine zD ?_;refine zI<|kS ?_;refine wT<|sR ?_;refine rC ?_;refine rQ iB ?_;refine zD ?_;refine rO ?_;refine rC ?_;refine rO ?_;refine rQ iB ?_;refine rO ?_;refine rC ?_;refine rO ?_;refine rC ?_;refine rQ iT ?_;refine rC ?_;iterate 4 refine rS ?_
  iterate 4 refine rU ?_
  refine rS ?_;refine rQ iF ?_;refine zJ<|aL<|zC<|sR ?_;refine rC<|zT ?_
  exact⟨trivial,[],lf⟩
 ·refine sR<|rN ?_;refine rC<|zW ?_;refine rC ?_;refine rQ iB<|zP<|sR ?_;refine zD ?_;refine zG<|qR ?_;refine zD ?_;refine zI<|kS ?_;refine wT<|sR ?_;refine rC ?_;refine rQ iB ?_;refine zD ?_
  iterate 4 refine rS ?_
  refine rQ iF ?_;refine rC ?_;iterate 4 refine rT ?_
  iterate 4 refine rU ?_
  refine rT ?_;refine rQ iG ?_;refine zJ<|aL<|zC<|sR ?_;refine rC<|zT ?_
  exact⟨trivial,[],lf⟩
 ·refine sR<|rN ?_;refine rC<|zW ?_;refine rC ?_;refine rQ iB<|zP<|sR ?_;refine zD ?_;refine zG<|qR ?_;refine zD ?_;refine zI<|kS ?_;refine wT<|sR ?_;refine rC ?_;refine rQ iB ?_;refine zD ?_
  iterate 4 refine rS ?_
  refine rQ iF ?_;refine rC ?_;iterate 4 refine rT ?_
  iterate 4 refine rU ?_
  refine rT ?_;refine rQ iG ?_;refine zJ<|aL<|zC<|sR ?_;refine rC<|zT ?_
  exact⟨trivial,[],lf⟩
 ·refine sR<|rN ?_;refine rC<|zW ?_;refine rC ?_;refine rQ iB<|zP<|sR ?_;refine zD ?_;refine zG<|qR ?_;refine zD ?_;refine zI<|kS ?_;refine wT<|sR ?_;refine rC ?_;refine rQ iB ?_;refine zD ?_
  iterate 4 refine rS ?_
  refine rQ iF ?_;refine rC ?_;iterate 4 refine rT ?_
  iterate 4 refine rU ?_
  refine rT ?_;refine rQ iG ?_;refine zJ<|aL<|zC<|sR ?_;refine rC<|zT ?_
  exact⟨trivial,[],lf⟩
 ·refine sR<|rN ?_;refine rC<|zW ?_;refine rC ?_;refine rQ iB<|zP<|sR ?_;refine zD ?_;refine zG<|qR ?_;refine zD ?_;refine zI<|kS ?_;refine wT<|sR ?_;refine rC ?_;refine rQ iB ?_;refine zD ?_
  iterate 4 refine rS ?_
  refine rQ iF ?_;refine rC ?_;iterate 4 refine rT ?_
  iterate 4 refine rU ?_
  refine rT ?_;refine rQ iG ?_;refine zJ<|aL<|zC<|sR ?_;refine rC<|zT ?_
  exact⟨trivial,[],lf⟩
theorem rG (o:POp) (b:Int) (hk:o.kind=2) (c1 c2 c3:Bool) (h1:decide (0≤o.index) = !c1) (h2:decide (o.index<b) = !c2) (h3:decide (((byI o.data).length:Int)=32)=c3):FnIs Tryz.prog 54 [.d (bu o),.int .i64 b] [] (r01 (c1||c2 || !c3)) []:=by
 have hk3:decide (o.kind=3)=false:=dF (by omega)
 have hk1:decide (o.kind=1)=false:=dF (by omega)
 have hk2:decide (o.kind=2)=true:=dT (by omega)
 refine au aa Tryz.func54 rfl rfl rfl ?_
 cases c1 <;> cases c2 <;> cases c3
 ·refine sR<|rN ?_;refine rC<|zW ?_;refine rC ?_;refine rQ iB<|zP<|sR ?_;refine zD ?_;refine zG<|qR ?_;refine zD ?_;refine zG<|am ?_;refine zD ?_;refine zI<|sR ?_;refine rC ?_;refine rQ iB ?_;refine zD ?_;refine rO ?_;refine rC ?_;refine rO ?_;refine rQ iB ?_;refine rO ?_;refine rC ?_;refine rO ?_;refine rC ?_;refine rQ iT ?_;refine rC ?_;refine rO ?_;refine rC ?_;refine rO ?_;refine rQ iB ?_;refine rO ?_;refine rC ?_;refine rO ?_;refine rC ?_;refine rO ?_;refine rC ?_;refine rO ?_;refine rQ iB ?_;refine rO ?_;refine rQ iE ?_;refine rO ?_;refine rC ?_;refine rO ?_;refine rQ iF ?_;refine rQ iT ?_;refine zG<|aL<|zC<|sR ?_;refine rC<|zT ?_
  exact⟨trivial,[],lf⟩
 ·refine sR<|rN ?_;refine rC<|zW ?_;refine rC ?_;refine rQ iB<|zP<|sR ?_;refine zD ?_;refine zG<|qR ?_;refine zD ?_;refine zG<|am ?_;refine zD ?_;refine zI<|sR ?_;refine rC ?_;refine rQ iB ?_;refine zD ?_;refine rO ?_;refine rC ?_;refine rO ?_;refine rQ iB ?_;refine rO ?_;refine rC ?_;refine rO ?_;refine rC ?_;refine rQ iT ?_;refine rC ?_;refine rO ?_;refine rC ?_;refine rO ?_;refine rQ iB ?_;refine rO ?_;refine rC ?_;refine rO ?_;refine rC ?_;refine rO ?_;refine rC ?_;refine rO ?_;refine rQ iB ?_;refine rO ?_;refine rQ iE ?_;refine rO ?_;refine rC ?_;refine rO ?_;refine rQ iF ?_;refine rQ iT ?_;refine zI<|sR ?_;refine rC<|zT<|iH<|aP ?_
  exact⟨trivial,[],lf⟩
 ·refine sR<|rN ?_;refine rC<|zW ?_;refine rC ?_;refine rQ iB<|zP<|sR ?_;refine zD ?_;refine zG<|qR ?_;refine zD ?_;refine zG<|am ?_;refine zD ?_;refine zI<|sR ?_;refine rC ?_;refine rQ iB ?_;refine zD ?_;refine rO ?_;refine rC ?_;refine rO ?_;refine rQ iB ?_;refine rO ?_;refine rC ?_;refine rO ?_;refine rC ?_;refine rQ iT ?_;refine rC ?_;iterate 4 refine rS ?_
  iterate 4 refine rU ?_
  refine rS ?_;refine rQ iF ?_;refine zJ<|aL<|zC<|sR ?_;refine rC<|zT ?_
  exact⟨trivial,[],lf⟩
 ·refine sR<|rN ?_;refine rC<|zW ?_;refine rC ?_;refine rQ iB<|zP<|sR ?_;refine zD ?_;refine zG<|qR ?_;refine zD ?_;refine zG<|am ?_;refine zD ?_;refine zI<|sR ?_;refine rC ?_;refine rQ iB ?_;refine zD ?_;refine rO ?_;refine rC ?_;refine rO ?_;refine rQ iB ?_;refine rO ?_;refine rC ?_;refine rO ?_;refine rC ?_;refine rQ iT ?_;refine rC ?_;iterate 4 refine rS ?_
  iterate 4 refine rU ?_
  refine rS ?_;refine rQ iF ?_;refine zJ<|aL<|zC<|sR ?_;refine rC<|zT ?_
  exact⟨trivial,[],lf⟩
 ·refine sR<|rN ?_;refine rC<|zW ?_;refine rC ?_;refine rQ iB<|zP<|sR ?_;refine zD ?_;refine zG<|qR ?_;refine zD ?_;refine zG<|am ?_;refine zD ?_;refine zI<|sR ?_;refine rC ?_;refine rQ iB ?_;refine zD ?_
  iterate 4 refine rS ?_
  refine rQ iF ?_;refine rC ?_;iterate 4 refine rT ?_
  iterate 4 refine rU ?_
  refine rT ?_;refine rQ iG ?_;refine zJ<|aL<|zC<|sR ?_;refine rC<|zT ?_
  exact⟨trivial,[],lf⟩
 ·refine sR<|rN ?_;refine rC<|zW ?_;refine rC ?_;refine rQ iB<|zP<|sR ?_;refine zD ?_;refine zG<|qR ?_;refine zD ?_;refine zG<|am ?_;refine zD ?_;refine zI<|sR ?_;refine rC ?_;refine rQ iB ?_;refine zD ?_
  iterate 4 refine rS ?_
  refine rQ iF ?_;refine rC ?_;iterate 4 refine rT ?_
  iterate 4 refine rU ?_
  refine rT ?_;refine rQ iG ?_;refine zJ<|aL<|zC<|sR ?_;refine rC<|zT ?_
  exact⟨trivial,[],lf⟩
 ·refine sR<|rN ?_;refine rC<|zW ?_;refine rC ?_;refine rQ iB<|zP<|sR ?_;refine zD ?_;refine zG<|qR ?_;refine zD ?_;refine zG<|am ?_;refine zD ?_;refine zI<|sR ?_;refine rC ?_;refine rQ iB ?_;refine zD ?_
  iterate 4 refine rS ?_
  refine rQ iF ?_;refine rC ?_;iterate 4 refine rT ?_
  iterate 4 refine rU ?_
  refine rT ?_;refine rQ iG ?_;refine zJ<|aL<|zC<|sR ?_;refine rC<|zT ?_
  exact⟨trivial,[],lf⟩
 ·refine sR<|rN ?_;refine rC<|zW ?_;refine rC ?_;refine rQ iB<|zP<|sR ?_;refine zD ?_;refine zG<|qR ?_;refine zD ?_;refine zG<|am ?_;refine zD ?_;refine zI<|sR ?_;refine rC ?_;refine rQ iB ?_;refine zD ?_
  iterate 4 refine rS ?_
  refine rQ iF ?_;refine rC ?_;iterate 4 refine rT ?_
  iterate 4 refine rU ?_
  refine rT ?_;refine rQ iG ?_;refine zJ<|aL<|zC<|sR ?_;refine rC<|zT ?_
  exact⟨trivial,[],lf⟩
theorem rI (o:POp) (b:Int) (hk:o.kind=3):FnIs Tryz.prog 54 [.d (bu o),.int .i64 b] [] (r01 false) []:=by
 have hk3:decide (o.kind=3)=true:=dT (by omega)
 refine au aa Tryz.func54 rfl rfl rfl ?_;refine sR<|rN ?_;refine rC<|zW ?_;refine rC ?_;refine rQ iB<|zP<|sR ?_;refine zD ?_;refine zI<|sR ?_;refine rC<|zT<|zB ?_
 exact⟨trivial,[],lf⟩
theorem rH (o:POp) (b:Int) (hk1:¬o.kind=1) (hk2:¬o.kind=2) (hk3:¬o.kind=3):FnIs Tryz.prog 54 [.d (bu o),.int .i64 b] [] (r01 true) []:=by
 have hk3:decide (o.kind=3)=false:=dF (by omega)
 have hk1:decide (o.kind=1)=false:=dF (by omega)
 have hk2:decide (o.kind=2)=false:=dF (by omega)
 refine au aa Tryz.func54 rfl rfl rfl ?_;refine sR<|rN ?_;refine rC<|zW ?_;refine rC ?_;refine rQ iB<|zP<|sR ?_;refine zD ?_;refine zG<|qR ?_;refine zD ?_;refine zG<|am ?_;refine zD ?_;refine zG<|aL<|zC<|sR ?_;refine rC<|zT ?_
 exact⟨trivial,[],lf⟩
theorem sZ (o:POp) (b:Int):FnIs Tryz.prog 54 [.d (bu o),.int .i64 b] [] (r01 (badO o b)) []:=by
 have n1:decide (0≤o.index) = !decide (o.index<0):=by
  by_cases h:o.index<0
  ·rw[dT h,dF (by omega)]; rfl
  ·rw[dF h,dT (by omega)]; rfl
 have n2:decide (o.index<b) = !decide (b≤o.index):=by
  by_cases h:b≤o.index
  ·rw[dT h,dF (by omega)]; rfl
  ·rw[dF h,dT (by omega)]; rfl
 by_cases k1:o.kind=1
 ·have:=ur o b k1 _ _ _ n1 n2 rfl
  rwa [show badO o b=(decide (o.index<0)||decide (b≤o.index)) by rw[badO,if_pos k1,outO]]
 ·by_cases k2:o.kind=2
  ·have:=rG o b k2 _ _ _ n1 n2 rfl
   rwa [show badO o b=(decide (o.index<0)||decide (b≤o.index) || !decide (((byI o.data).length:Int)=32)) by rw[badO,if_neg k1,if_pos k2,outO,Cf]]
  ·by_cases k3:o.kind=3
   ·have:=rI o b k3
    rwa [show badO o b=false by rw[badO,if_neg k1,if_neg k2,dT k3]; rfl]
   ·have:=rH o b k1 k2 k3
    rwa [show badO o b=true by rw[badO,if_neg k1,if_neg k2,dF k3]; rfl]
abbrev k4 (l:List POp):D :=.cons (i6 (cK 1 l)) (.cons (i6 (cK 2 l)) (.cons (i6 (cK 3 l)) (.cons (i6 (cO l)) .nil)))
def As (n:Int) (s:List Int×Bool) (x:Int):List Int×Bool :=
 let t:=if s.2=false∧n≤x then (s.1++[n],true) else s
 (if x=n then t.1 else t.1++[x],t.2)
def wPre (n:Int) (l:List Int):List Int×Bool:=l.foldl (As n) ([],false)
def Ar (l:List Int) (n:Int):List Int:=if (wPre n l).2=true then (wPre n l).1 else (wPre n l).1++[n]
def bi (b:Bool):Int:=if b then 1 else 0
abbrev rowI (l:List Int):Row :=.ds 3 1 false i6 l
end Go.Proofs.YtpjiiolnfbfcbaaGreatDoor
namespace Go.Proofs.YtpjiiolnfbfcbaaGreatDoor
open Go.Eng Go.Plain
set_option maxHeartbeats 32000000
set_option maxRecDepth 20000
def uB:Bool→Nat
 | true=>0
 | false=>1
def touB (b:Int) (o:POp):Bool := !decide (o.kind=3) && !badO o b
def touS (b:Int) (acc:List Int) (o:POp):List Int:=if touB b o=true then Ar acc o.index else acc
def touL (b:Int) (l:List POp):List Int:=l.foldl (touS b) []
end Go.Proofs.YtpjiiolnfbfcbaaGreatDoor
namespace Go.Proofs.YtpjiiolnfbfcbaaGreatDoor
open Go.Eng Go.Plain
set_option maxHeartbeats 32000000
set_option maxRecDepth 20000
attribute [local irreducible] WC RegS RegD SeqQ BlkQ ScoQ RegK CutK Sat SatN FnIs LoopQ an OpIs
end Go.Proofs.YtpjiiolnfbfcbaaGreatDoor
namespace Go.Eng
open Go.RowKit
end Go.Eng
namespace Go.Proofs.YtpjiiolnfbfcbaaGreatDoor
open Go.Eng Go.Plain
set_option maxHeartbeats 32000000
set_option maxRecDepth 20000
attribute [local irreducible] WC RegS RegD SeqQ BlkQ ScoQ RegK CutK Sat SatN FnIs LoopQ an OpIs
def decD:List UInt8:=[48,49,50,51,52,53,54,55,56,57]
theorem xg {d:Nat} (h:d<10):(decD.drop d).take (d+1-d)=[UInt8.ofNat (48+d)]:=by
 have:∀d,d<10→(decD.drop d).take (d+1-d)=[UInt8.ofNat (48+d)]:=by decide
 exact this d h
theorem s5:∀(u:Nat),u≤9223372036854775807→FnIs Tryz.prog 85 [.int .i64 u] [] (.d (strD (Lib.decDigits u))) []:=by
 intro u
 induction u using Nat.strongRecOn with
 | ind u ih =>
  intro hu
  have hmin:decide ((u:Int) = -9223372036854775808)=false:=dF (by omega)
  have hneg:decide ((u:Int)<0)=false:=dF (by omega)
  have hw1:IntKind.i64.wrap (((u % 10:Nat):Int)+1)=((u % 10+1:Nat):Int):=by rw[aO (by omega) (by omega)]; rfl
  have hle:u % 10+1≤decD.length:=by show u % 10+1≤10; omega
  have hcut:=xg (d:=u % 10) (by omega)
  refine au aa Tryz.func85 rfl rfl rfl ?_
  by_cases h9:9<u
  ·have hd:decide (9<(u:Int))=true:=dT (by omega)
   have hrec:=ih (u/10) (by omega) (by omega)
   have hw2:IntKind.i64.wrap ((u/10:Nat):Int)=((u/10:Nat):Int):=aO (by omega) (by omega)
   have hlen:(Lib.decDigits (u/10)).length+[UInt8.ofNat (48+u % 10)].length≤9223372036854775807:=by
    have:=tu (u:=u/10) (by omega)
    simp; omega
   rw[show Lib.decDigits u=Lib.decDigits (u/10)++[UInt8.ofNat (48+u % 10)] by rw[Lib.decDigits,dif_neg (by omega)]]
   refine sR<|rC<|zW ?_;refine zD ?_;refine zJ<|kS<|qR ?_;refine zD ?_;refine zJ<|kS<|sR ?_;refine rC ?_;refine rQ (bH (a:=u) (b:=10) aa rfl rfl rfl (by decide)) ?_;refine rC ?_;refine rQ (bH (a:=u) (b:=10) aa rfl rfl rfl (by decide)) ?_;refine rQ (cJ (m:=((u % 10+1:Nat):Int)) aa rfl rfl hw1) ?_;refine rQ (lY (l:=decD) (lo:=u % 10) (hi:=u % 10+1) aa rfl rfl rfl rfl hle (by omega) hcut) ?_;refine rC<|zW ?_;refine zD ?_;refine zI<|am ?_;refine rC ?_;refine rQ (dL (a:=u) (b:=10) aa rfl rfl rfl (by decide) hw2) ?_;refine rQ (ak hrec rfl rfl (aj ab) (.inl rfl) (fun _=>rfl)) ?_;refine rC ?_;refine rQ (aG (a:=Lib.decDigits (u/10)) (b:=[UInt8.ofNat (48+u % 10)]) rfl rfl hlen rfl) ?_;refine rC<|nR ?_;refine zD<|zT ?_
   exact⟨trivial,[],lf⟩
  ·have hd:decide (9<(u:Int))=false:=dF (by omega)
   rw[show Lib.decDigits u=[UInt8.ofNat (48+u % 10)] by rw[Lib.decDigits,dif_pos (by omega),Nat.mod_eq_of_lt (by omega)]]
   refine sR<|rC<|zW ?_;refine zD ?_;refine zJ<|kS<|qR ?_;refine zD ?_;refine zJ<|kS<|sR ?_;refine rC ?_;refine rQ (bH (a:=u) (b:=10) aa rfl rfl rfl (by decide)) ?_;refine rC ?_;refine rQ (bH (a:=u) (b:=10) aa rfl rfl rfl (by decide)) ?_;refine rQ (cJ (m:=((u % 10+1:Nat):Int)) aa rfl rfl hw1) ?_;refine rQ (lY (l:=decD) (lo:=u % 10) (hi:=u % 10+1) aa rfl rfl rfl rfl hle (by omega) hcut) ?_;refine rC<|zW ?_;refine zD ?_;refine zG<|kS<|sR ?_;refine zD<|zT ?_
   exact⟨trivial,[],lf⟩
theorem cD (n:Int) (h0 : -9223372036854775808≤n) (h1:n≤9223372036854775807):FnIs Tryz.prog 85 [.int .i64 n] [] (.d (strD (Lib.itoa n))) []:=by
 by_cases hn:n<0
 ·by_cases hm:n = -9223372036854775808
  ·subst hm
   rw[show Lib.itoa (-9223372036854775808)=[45,57,50,50,51,51,55,50,48,51,54,56,53,52,55,55,53,56,48,56] by decide+kernel]
   refine au aa Tryz.func85 rfl rfl rfl ?_;refine sR<|rC<|zW ?_;refine zD ?_;refine zO<|sR ?_;refine rC<|zT<|aP ?_
   exact⟨trivial,[],lf⟩
  ·have hmin:decide (n = -9223372036854775808)=false:=dF hm
   have hneg:decide (n<0)=true:=dT hn
   have hrec:=s5 n.natAbs (by omega)
   have hlen:[(45:UInt8)].length+(Lib.decDigits n.natAbs).length≤9223372036854775807:=by
    have:=tu (u:=n.natAbs) (by omega)
    simp; omega
   have hwn:IntKind.i64.wrap (-n)=(n.natAbs:Int):=by rw[aO (by omega) (by omega)]; omega
   rw[show Lib.itoa n=[45]++Lib.decDigits n.natAbs by rw[Lib.itoa,if_pos hn]; rfl]
   refine au aa Tryz.func85 rfl rfl rfl ?_;refine sR<|rC<|zW ?_;refine zD ?_;refine zG<|kS<|qR ?_;refine zD ?_;refine zI<|sR ?_;refine rC ?_;refine rQ (aw aa (fun K hk=>⟨_,hwn,hk⟩)) ?_;refine rQ (ak hrec rfl rfl (aj ab) (.inl rfl) (fun _=>rfl)) ?_;refine rQ (aG (a:=[45]) (b:=Lib.decDigits n.natAbs) rfl rfl hlen rfl) ?_;refine rC<|zT<|aP ?_
   exact⟨trivial,[],lf⟩
 ·have:=s5 n.toNat (by omega)
  rw[show ((n.toNat:Nat):Int)=n by omega]at this
  rwa [show Lib.itoa n=Lib.decDigits n.toNat by rw[Lib.itoa,if_neg hn]]
theorem qo {d:Nat} (h:d<16):(hexD.drop d).take (d+1-d)=[hexC d]:=by
 have:∀d,d<16→(hexD.drop d).take (d+1-d)=[hexC d]:=by decide
 exact this d h
theorem iY (l:List UInt8) (hL:l.length≤1000000000):FnIs Tryz.prog 88 [.d (encB l)] [] (.d (strD (hexP l))) []:=by
 have hbl:(byI l).length=l.length:=b6 l
 refine au aa Tryz.func88 rfl rfl rfl ?_;refine sR<|rC<|nR ?_;refine rC<|zW ?_;refine rC<|zP ?_
 refine wc_inv (fun i:Nat=>⟨[(4,.int .i64 i),(3,.d (strD ((l.take i).flatMap hexB))),(0,.d (encB l))],[],72,Tryz.f88.ntmps,64⟩) (fun i=>i≤l.length) (fun i=>l.length-i) 0 [] (Nat.zero_le _)
  (lg zj trivial) ?_
 intro i hi
 refine bG<|qR ?_;refine zD ?_;refine rQ iE ?_;refine rC<|nS ?_
 refine bO rfl (fun h3=>?_) (fun h3=>?_)
 ·have hlt:i<l.length:=by have:=of_decide_eq_true h3; omega
  obtain⟨b,hb⟩:∃b,l[i]?=some b:=⟨_,List.getElem?_eq_getElem hlt⟩
  have hb':(byI l)[((i:Int)).toNat]?=some (b.toNat:Int):=by rw[Int.toNat_natCast]; exact o9 hb
  have hb8:b.toNat<256:=b.toNat_lt
  have hw1:IntKind.u8.wrap (((b.toNat/16:Nat):Int)+1)=((b.toNat/16+1:Nat):Int):=ci (a:=b.toNat/16+1) (by omega)
  have hw2:IntKind.u8.wrap (((b.toNat % 16:Nat):Int)+1)=((b.toNat % 16+1:Nat):Int):=ci (a:=b.toNat % 16+1) (by omega)
  have hle1:b.toNat/16+1≤hexD.length:=by show _≤16; omega
  have hle2:b.toNat % 16+1≤hexD.length:=by show _≤16; omega
  have hcut1:=qo (d:=b.toNat/16) (by omega)
  have hcut2:=qo (d:=b.toNat % 16) (by omega)
  have hpl:((l.take i).flatMap hexB).length=2*i:=by rw[da,List.length_take,Nat.min_eq_left hi]
  have hlen1:((l.take i).flatMap hexB).length+[hexC (b.toNat/16)].length≤9223372036854775807:=by rw[hpl]; simp; omega
  have hlen2:((l.take i).flatMap hexB++[hexC (b.toNat/16)]).length+[hexC (b.toNat % 16)].length≤9223372036854775807:=by rw[List.length_append,hpl]; simp; omega
  have hgo:=mY hb
  refine zQ<|aZ<|bk<|aE (by kernel_rfl) ?_;refine dC [0] [] ?_;refine dC [4] [] ?_;refine dQ [13,14] [] iA ?_;refine dQ [15] [] iL ?_;refine dQ [16] [] (gG (a:=b.toNat) (s:=4) (m:=b.toNat/16) rfl rfl (by decide) rfl) ?_;refine dC [0] [] ?_;refine dC [4] [] ?_;refine dQ [18,19] [] iA ?_;refine dQ [20] [] iL ?_;refine dQ [21] [] (yT (a:=b.toNat) (b:=15) (m:=b.toNat % 16) rfl rfl rfl hb8 (by decide) (Nat.and_two_pow_sub_one_eq_mod b.toNat 4)) ?_;refine dC [17] [] ?_;refine dC [22] [] ?_;refine aB (by kernel_rfl)<|aM ?_;refine aE (by kernel_rfl) ?_;refine dC [3] [] ?_;iterate 2 refine dC [5] [] ?_
  refine dQ [25] [] (cJ (m:=((b.toNat/16+1:Nat):Int)) aa rfl rfl hw1) ?_;refine dQ [24,26] [] (lY (l:=hexD) (lo:=b.toNat/16) (hi:=b.toNat/16+1) aa rfl rfl rfl rfl hle1 (by omega) hcut1) ?_;refine dQ [23,27] [] (aG (a:=(l.take i).flatMap hexB) (b:=[hexC (b.toNat/16)]) rfl rfl hlen1 rfl) ?_;iterate 2 refine dC [6] [] ?_
  refine dQ [30] [] (cJ (m:=((b.toNat % 16+1:Nat):Int)) aa rfl rfl hw2) ?_;refine dQ [29,31] [] (lY (l:=hexD) (lo:=b.toNat % 16) (hi:=b.toNat % 16+1) aa rfl rfl rfl rfl hle2 (by omega) hcut2) ?_;refine dQ [28,32] [] (aG (a:=(l.take i).flatMap hexB++[hexC (b.toNat/16)]) (b:=[hexC (b.toNat % 16)]) rfl rfl hlen2 rfl) ?_;refine dC [33] [] ?_;refine aB (by kernel_rfl)<|zC<|am ?_;refine rC ?_;refine rQ iD ?_;refine rC<|aA ?_
  exact aN (i+1) [] hlt (by omega) (lg ⟨zE,rfl,⟨_,rfl,AVLe.of_eq (by rw[hgo]; rfl)⟩,rfl,zE,rfl,trivial⟩ trivial)
 ·have he:i=l.length:=by have:=of_decide_eq_false h3; omega
  subst he
  rw[List.take_length]
  by_cases hn:l=[]
  ·have hd:decide (l.flatMap hexB=[])=true:=by rw[hn]; rfl
   rw[show hexP l=[45] from if_pos hn]
   refine zX<|qR<|rC ?_;refine rQ (bV (a:=l.flatMap hexB) (b:=[]) aa rfl rfl rfl) ?_;refine zI<|am ?_;refine rC<|nR ?_;refine zD<|zT ?_
   exact⟨trivial,[],lf⟩
  ·have hd:decide (l.flatMap hexB=[])=false:=dF fun e=>hn (by
    have:=da l
    rw[e]at this
    exact List.eq_nil_of_length_eq_zero (by simp at this; omega))
   rw[show hexP l=l.flatMap hexB from if_neg hn]
   refine zX<|qR<|rC ?_;refine rQ (bV (a:=l.flatMap hexB) (b:=[]) aa rfl rfl rfl) ?_;refine zG<|kS<|sR ?_;refine zD<|zT ?_
   exact⟨trivial,[],lf⟩
theorem rr (o:POp) (hok:o.Ok) (hL:o.data.length≤1000000000) (hk:o.kind=1) (hd0:o.data=[]):FnIs Tryz.prog 86 [.d (bu o)] [] (.d (strD (bd o))) []:=by
 obtain⟨⟨kk0,kk1⟩,h0,h1⟩:=hok
 have k0 : -9223372036854775808≤o.kind:=by omega
 have k1:o.kind≤9223372036854775807:=by omega
 have hwk:IntKind.i64.wrap o.kind=o.kind:=aO (by omega) (by omega)
 have l1:=bA h0 h1
 have l2:=bA k0 k1
 have l3:=cm o.data
 have hk1:decide (o.kind=1)=true:=dT (by omega)
 have hd:=eX o.data true (dT hd0)
 rw[show bd o=ei++[32]++Lib.itoa o.index by rw[bd,if_pos ⟨hk,hd0⟩]; simp]
 refine au aa Tryz.func86 rfl rfl rfl ?_;refine sR<|rN ?_;refine rC<|zW ?_;refine rC ?_;refine rQ iB ?_;refine zD ?_;refine rO ?_;refine rC ?_;refine rO ?_;refine rQ iB ?_;refine rO ?_;refine rQ iE ?_;refine rO ?_;refine rC ?_;refine rQ iT ?_;refine zI<|sR ?_;refine rC ?_;refine rQ iB ?_;refine rQ (ak (cD _ h0 h1) rfl rfl (aj ab) (.inl rfl) (fun _=>rfl)) ?_;refine rQ (aG (a:=ei++[32]) (b:=Lib.itoa o.index) rfl rfl (by simp[ei]; omega) rfl) ?_;refine rC<|zT<|aP ?_
 exact⟨trivial,[],lf⟩
theorem pQ (o:POp) (hok:o.Ok) (hL:o.data.length≤1000000000) (hk:o.kind=2):FnIs Tryz.prog 86 [.d (bu o)] [] (.d (strD (bd o))) []:=by
 obtain⟨⟨kk0,kk1⟩,h0,h1⟩:=hok
 have k0 : -9223372036854775808≤o.kind:=by omega
 have k1:o.kind≤9223372036854775807:=by omega
 have hwk:IntKind.i64.wrap o.kind=o.kind:=aO (by omega) (by omega)
 have l1:=bA h0 h1
 have l2:=bA k0 k1
 have l3:=cm o.data
 have hk1:decide (o.kind=1)=false:=dF (by omega)
 have hk2:decide (o.kind=2)=true:=dT (by omega)
 rw[show bd o=cn++[32]++Lib.itoa o.index++[32]++hexP o.data by rw[bd,if_neg (fun h=>by have:=h.1; omega),if_pos hk]; simp]
 refine au aa Tryz.func86 rfl rfl rfl ?_;refine sR<|rN ?_;refine rC<|zW ?_;refine rC ?_;refine rQ iB ?_;refine zD ?_
 iterate 4 refine rS ?_
 refine rQ iF ?_;refine zJ<|kS<|qR ?_;refine rC ?_;refine rQ iB ?_;refine rC ?_;refine zI<|bk ?_;refine aE (by kernel_rfl) ?_;refine dC [1] [] ?_;refine dQ [19] [64] iB ?_;refine dQ [20] [] (ak (cD _ h0 h1) rfl rfl (aj ab) (.inl rfl) (fun _=>rfl)) ?_;refine dQ [21] [] (aG (a:=cn++[32]) (b:=Lib.itoa o.index) rfl rfl (by simp[cn]; omega) rfl) ?_;refine dQ [22] [] (aG (a:=cn++[32]++Lib.itoa o.index) (b:=[32]) rfl rfl (by simp[cn]; omega) rfl) ?_;refine dC [1] [] ?_;refine dQ [24] [64] iB ?_;refine dQ [25] [] (ak (iY o.data hL) rfl rfl (aj ab) (.inl rfl) (fun _=>rfl)) ?_;refine dQ [23,26] [] (aG (a:=cn++[32]++Lib.itoa o.index++[32]) (b:=hexP o.data) rfl rfl (by simp[cn]; omega) rfl) ?_;refine dC [27] [] ?_;refine aB (by kernel_rfl)<|aM<|bR<|aP ?_
 exact⟨trivial,[],lf⟩
theorem pR (o:POp) (hok:o.Ok) (hL:o.data.length≤1000000000) (hk:o.kind=3) (hi0:o.index=0) (hd0:o.data=[]):FnIs Tryz.prog 86 [.d (bu o)] [] (.d (strD (bd o))) []:=by
 obtain⟨⟨kk0,kk1⟩,h0,h1⟩:=hok
 have k0 : -9223372036854775808≤o.kind:=by omega
 have k1:o.kind≤9223372036854775807:=by omega
 have hwk:IntKind.i64.wrap o.kind=o.kind:=aO (by omega) (by omega)
 have l1:=bA h0 h1
 have l2:=bA k0 k1
 have l3:=cm o.data
 have hk1:decide (o.kind=1)=false:=dF (by omega)
 have hk2:decide (o.kind=2)=false:=dF (by omega)
 have hk3:decide (o.kind=3)=true:=dT (by omega)
 have hd:=eX o.data true (dT hd0)
 have hi:decide (o.index=0)=true:=dT hi0
 rw[show bd o=ej by rw[bd,if_neg (fun h=>by have:=h.1; omega),if_neg (by omega),if_pos ⟨hk,hi0,hd0⟩]]
 refine au aa Tryz.func86 rfl rfl rfl ?_;refine sR<|rN ?_;refine rC<|zW ?_;refine rC ?_;refine rQ iB ?_;refine zD ?_
 iterate 4 refine rS ?_
 refine rQ iF ?_;refine zJ<|kS<|qR ?_;refine rC ?_;refine rQ iB ?_;refine rC ?_;refine zG<|kS<|qR ?_;refine rC ?_;refine rQ iB ?_;refine zD ?_;refine rO ?_;refine rC ?_;refine rO ?_;refine rQ iB ?_;refine rO ?_;refine rC ?_;refine rQ iT ?_;refine rC ?_;refine rO ?_;refine rC ?_;refine rO ?_;refine rQ iB ?_;refine rO ?_;refine rQ iE ?_;refine rO ?_;refine rC ?_;refine rQ iT ?_;refine zI<|sR ?_;refine rC<|zT<|aP ?_
 exact⟨trivial,[],lf⟩
theorem um (o:POp) (hok:o.Ok) (hL:o.data.length≤1000000000) (hk:o.kind=1) (hd0:¬o.data=[]):FnIs Tryz.prog 86 [.d (bu o)] [] (.d (strD (bd o))) []:=by
 obtain⟨⟨kk0,kk1⟩,h0,h1⟩:=hok
 have k0 : -9223372036854775808≤o.kind:=by omega
 have k1:o.kind≤9223372036854775807:=by omega
 have hwk:IntKind.i64.wrap o.kind=o.kind:=aO (by omega) (by omega)
 have l1:=bA h0 h1
 have l2:=bA k0 k1
 have l3:=cm o.data
 have hk1:decide (o.kind=1)=true:=dT (by omega)
 have hk2:decide (o.kind=2)=false:=dF (by omega)
 have hk3:decide (o.kind=3)=false:=dF (by omega)
 have hd:=eX o.data false (dF hd0)
 rw[show bd o=sOp++[32]++Lib.itoa o.kind++[32]++Lib.itoa o.index++[32]++hexP o.data by rw[bd,if_neg (fun h=>hd0 h.2),if_neg (by omega),if_neg (fun h=>by have:=h.1; omega)]; simp]
 refine au aa Tryz.func86 rfl rfl rfl ?_;refine sR<|rN ?_;refine rC<|zW ?_;refine rC ?_;refine rQ iB ?_;refine zD ?_;refine rO ?_;refine rC ?_;refine rO ?_;refine rQ iB ?_;refine rO ?_;refine rQ iE ?_;refine rO ?_;refine rC ?_;refine rQ iT ?_;refine zG<|kS<|qR ?_;refine rC ?_;refine rQ iB ?_;refine rC ?_;refine zG<|kS<|qR ?_;refine rC ?_;refine rQ iB ?_;refine zD ?_
 iterate 3 refine rS ?_
 refine rQ iF ?_;refine rC ?_;iterate 4 refine rT ?_
 refine rQ iG ?_;refine zJ<|zQ ?_;refine aE (by kernel_rfl) ?_;refine dC [1] [] ?_;refine dQ [42] [64] iB ?_;refine dQ [43] [] (bf (m:=o.kind) aa rfl rfl rfl hwk) ?_;refine dQ [44] [] (ak (cD _ k0 k1) rfl rfl (aj ab) (.inl rfl) (fun _=>rfl)) ?_;refine dQ [45] [] (aG (a:=sOp++[32]) (b:=Lib.itoa o.kind) rfl rfl (by simp[sOp]; omega) rfl) ?_;refine dQ [46] [] (aG (a:=sOp++[32]++Lib.itoa o.kind) (b:=[32]) rfl rfl (by simp[sOp]; omega) rfl) ?_;refine dC [1] [] ?_;refine dQ [48] [64] iB ?_;refine dQ [49] [] (ak (cD _ h0 h1) rfl rfl (aj ab) (.inl rfl) (fun _=>rfl)) ?_;refine dQ [47,50] [] (aG (a:=sOp++[32]++Lib.itoa o.kind++[32]) (b:=Lib.itoa o.index) rfl rfl (by simp[sOp]; omega) rfl) ?_;refine dQ [51] [] (aG (a:=sOp++[32]++Lib.itoa o.kind++[32]++Lib.itoa o.index) (b:=[32]) rfl rfl (by simp[sOp]; omega) rfl) ?_;refine dC [1] [] ?_;refine dQ [53] [64] iB ?_;refine dQ [54] [] (ak (iY o.data hL) rfl rfl (aj ab) (.inl rfl) (fun _=>rfl)) ?_;refine dQ [52,55] [] (aG (a:=sOp++[32]++Lib.itoa o.kind++[32]++Lib.itoa o.index++[32]) (b:=hexP o.data) rfl rfl (by simp[sOp]; omega) rfl) ?_;refine dC [56] [] ?_;refine aB (by kernel_rfl)<|aM<|bR ?_
 exact⟨trivial,[],lf⟩
theorem ul (o:POp) (hok:o.Ok) (hL:o.data.length≤1000000000) (hk1:¬o.kind=1) (hk2:¬o.kind=2) (hk3:¬o.kind=3):FnIs Tryz.prog 86 [.d (bu o)] [] (.d (strD (bd o))) []:=by
 obtain⟨⟨kk0,kk1⟩,h0,h1⟩:=hok
 have k0 : -9223372036854775808≤o.kind:=by omega
 have k1:o.kind≤9223372036854775807:=by omega
 have hwk:IntKind.i64.wrap o.kind=o.kind:=aO (by omega) (by omega)
 have l1:=bA h0 h1
 have l2:=bA k0 k1
 have l3:=cm o.data
 have hk1:decide (o.kind=1)=false:=dF (by omega)
 have hk2:decide (o.kind=2)=false:=dF (by omega)
 have hk3:decide (o.kind=3)=false:=dF (by omega)
 rw[show bd o=sOp++[32]++Lib.itoa o.kind++[32]++Lib.itoa o.index++[32]++hexP o.data by rw[bd,if_neg (fun h=>by have:=h.1; omega),if_neg (by omega),if_neg (fun h=>by have:=h.1; omega)]; simp]
 refine au aa Tryz.func86 rfl rfl rfl ?_;refine sR<|rN ?_;refine rC<|zW ?_;refine rC ?_;refine rQ iB ?_;refine zD ?_
 iterate 4 refine rS ?_
 refine rQ iF ?_;refine zJ<|kS<|qR ?_;refine rC ?_;refine rQ iB ?_;refine rC ?_;refine zG<|kS<|qR ?_;refine rC ?_;refine rQ iB ?_;refine zD ?_
 iterate 3 refine rS ?_
 refine rQ iF ?_;refine rC ?_;iterate 4 refine rT ?_
 refine rQ iG ?_;refine zJ<|zQ ?_;refine aE (by kernel_rfl) ?_;refine dC [1] [] ?_;refine dQ [42] [64] iB ?_;refine dQ [43] [] (bf (m:=o.kind) aa rfl rfl rfl hwk) ?_;refine dQ [44] [] (ak (cD _ k0 k1) rfl rfl (aj ab) (.inl rfl) (fun _=>rfl)) ?_;refine dQ [45] [] (aG (a:=sOp++[32]) (b:=Lib.itoa o.kind) rfl rfl (by simp[sOp]; omega) rfl) ?_;refine dQ [46] [] (aG (a:=sOp++[32]++Lib.itoa o.kind) (b:=[32]) rfl rfl (by simp[sOp]; omega) rfl) ?_;refine dC [1] [] ?_;refine dQ [48] [64] iB ?_;refine dQ [49] [] (ak (cD _ h0 h1) rfl rfl (aj ab) (.inl rfl) (fun _=>rfl)) ?_;refine dQ [47,50] [] (aG (a:=sOp++[32]++Lib.itoa o.kind++[32]) (b:=Lib.itoa o.index) rfl rfl (by simp[sOp]; omega) rfl) ?_;refine dQ [51] [] (aG (a:=sOp++[32]++Lib.itoa o.kind++[32]++Lib.itoa o.index) (b:=[32]) rfl rfl (by simp[sOp]; omega) rfl) ?_;refine dC [1] [] ?_;refine dQ [53] [64] iB ?_;refine dQ [54] [] (ak (iY o.data hL) rfl rfl (aj ab) (.inl rfl) (fun _=>rfl)) ?_;refine dQ [52,55] [] (aG (a:=sOp++[32]++Lib.itoa o.kind++[32]++Lib.itoa o.index++[32]) (b:=hexP o.data) rfl rfl (by simp[sOp]; omega) rfl) ?_;refine dC [56] [] ?_;refine aB (by kernel_rfl)<|aM<|bR ?_
 exact⟨trivial,[],lf⟩
theorem uk (o:POp) (hok:o.Ok) (hL:o.data.length≤1000000000) (hk:o.kind=3) (hi0:¬o.index=0):FnIs Tryz.prog 86 [.d (bu o)] [] (.d (strD (bd o))) []:=by
 obtain⟨⟨kk0,kk1⟩,h0,h1⟩:=hok
 have k0 : -9223372036854775808≤o.kind:=by omega
 have k1:o.kind≤9223372036854775807:=by omega
 have hwk:IntKind.i64.wrap o.kind=o.kind:=aO (by omega) (by omega)
 have l1:=bA h0 h1
 have l2:=bA k0 k1
 have l3:=cm o.data
 have hk1:decide (o.kind=1)=false:=dF (by omega)
 have hk2:decide (o.kind=2)=false:=dF (by omega)
 have hk3:decide (o.kind=3)=true:=dT (by omega)
 have hi:decide (o.index=0)=false:=dF hi0
 rw[show bd o=sOp++[32]++Lib.itoa o.kind++[32]++Lib.itoa o.index++[32]++hexP o.data by rw[bd,if_neg (fun h=>by have:=h.1; omega),if_neg (by omega),if_neg (fun h=>hi0 h.2.1)]; simp]
 refine au aa Tryz.func86 rfl rfl rfl ?_;refine sR<|rN ?_;refine rC<|zW ?_;refine rC ?_;refine rQ iB ?_;refine zD ?_
 iterate 4 refine rS ?_
 refine rQ iF ?_;refine zJ<|kS<|qR ?_;refine rC ?_;refine rQ iB ?_;refine rC ?_;refine zG<|kS<|qR ?_;refine rC ?_;refine rQ iB ?_;refine zD ?_;refine rO ?_;refine rC ?_;refine rO ?_;refine rQ iB ?_;refine rO ?_;refine rC ?_;refine rQ iT ?_;refine rC ?_;iterate 4 refine rS ?_
 refine rQ iF ?_;refine zJ<|zQ ?_;refine aE (by kernel_rfl) ?_;refine dC [1] [] ?_;refine dQ [42] [64] iB ?_;refine dQ [43] [] (bf (m:=o.kind) aa rfl rfl rfl hwk) ?_;refine dQ [44] [] (ak (cD _ k0 k1) rfl rfl (aj ab) (.inl rfl) (fun _=>rfl)) ?_;refine dQ [45] [] (aG (a:=sOp++[32]) (b:=Lib.itoa o.kind) rfl rfl (by simp[sOp]; omega) rfl) ?_;refine dQ [46] [] (aG (a:=sOp++[32]++Lib.itoa o.kind) (b:=[32]) rfl rfl (by simp[sOp]; omega) rfl) ?_;refine dC [1] [] ?_;refine dQ [48] [64] iB ?_;refine dQ [49] [] (ak (cD _ h0 h1) rfl rfl (aj ab) (.inl rfl) (fun _=>rfl)) ?_;refine dQ [47,50] [] (aG (a:=sOp++[32]++Lib.itoa o.kind++[32]) (b:=Lib.itoa o.index) rfl rfl (by simp[sOp]; omega) rfl) ?_;refine dQ [51] [] (aG (a:=sOp++[32]++Lib.itoa o.kind++[32]++Lib.itoa o.index) (b:=[32]) rfl rfl (by simp[sOp]; omega) rfl) ?_;refine dC [1] [] ?_;refine dQ [53] [64] iB ?_;refine dQ [54] [] (ak (iY o.data hL) rfl rfl (aj ab) (.inl rfl) (fun _=>rfl)) ?_;refine dQ [52,55] [] (aG (a:=sOp++[32]++Lib.itoa o.kind++[32]++Lib.itoa o.index++[32]) (b:=hexP o.data) rfl rfl (by simp[sOp]; omega) rfl) ?_;refine dC [56] [] ?_;refine aB (by kernel_rfl)<|aM<|bR ?_
 exact⟨trivial,[],lf⟩
theorem uj (o:POp) (hok:o.Ok) (hL:o.data.length≤1000000000) (hk:o.kind=3) (hi0:o.index=0) (hd0:¬o.data=[]):FnIs Tryz.prog 86 [.d (bu o)] [] (.d (strD (bd o))) []:=by
 obtain⟨⟨kk0,kk1⟩,h0,h1⟩:=hok
 have k0 : -9223372036854775808≤o.kind:=by omega
 have k1:o.kind≤9223372036854775807:=by omega
 have hwk:IntKind.i64.wrap o.kind=o.kind:=aO (by omega) (by omega)
 have l1:=bA h0 h1
 have l2:=bA k0 k1
 have l3:=cm o.data
 have hk1:decide (o.kind=1)=false:=dF (by omega)
 have hk2:decide (o.kind=2)=false:=dF (by omega)
 have hk3:decide (o.kind=3)=true:=dT (by omega)
 have hi:decide (o.index=0)=true:=dT hi0
 have hd:=eX o.data false (dF hd0)
 rw[show bd o=sOp++[32]++Lib.itoa o.kind++[32]++Lib.itoa o.index++[32]++hexP o.data by rw[bd,if_neg (fun h=>by have:=h.1; omega),if_neg (by omega),if_neg (fun h=>hd0 h.2.2)]; simp]
 refine au aa Tryz.func86 rfl rfl rfl ?_;refine sR<|rN ?_;refine rC<|zW ?_;refine rC ?_;refine rQ iB ?_;refine zD ?_
 iterate 4 refine rS ?_
 refine rQ iF ?_;refine zJ<|kS<|qR ?_;refine rC ?_;refine rQ iB ?_;refine rC ?_;refine zG<|kS<|qR ?_;refine rC ?_;refine rQ iB ?_;refine zD ?_;refine rO ?_;refine rC ?_;refine rO ?_;refine rQ iB ?_;refine rO ?_;refine rC ?_;refine rQ iT ?_;refine rC ?_;refine rO ?_;refine rC ?_;refine rO ?_;refine rQ iB ?_;refine rO ?_;refine rQ iE ?_;refine rO ?_;refine rC ?_;refine rQ iT ?_;refine zG<|zQ ?_;refine aE (by kernel_rfl) ?_;refine dC [1] [] ?_;refine dQ [42] [64] iB ?_;refine dQ [43] [] (bf (m:=o.kind) aa rfl rfl rfl hwk) ?_;refine dQ [44] [] (ak (cD _ k0 k1) rfl rfl (aj ab) (.inl rfl) (fun _=>rfl)) ?_;refine dQ [45] [] (aG (a:=sOp++[32]) (b:=Lib.itoa o.kind) rfl rfl (by simp[sOp]; omega) rfl) ?_;refine dQ [46] [] (aG (a:=sOp++[32]++Lib.itoa o.kind) (b:=[32]) rfl rfl (by simp[sOp]; omega) rfl) ?_;refine dC [1] [] ?_;refine dQ [48] [64] iB ?_;refine dQ [49] [] (ak (cD _ h0 h1) rfl rfl (aj ab) (.inl rfl) (fun _=>rfl)) ?_;refine dQ [47,50] [] (aG (a:=sOp++[32]++Lib.itoa o.kind++[32]) (b:=Lib.itoa o.index) rfl rfl (by simp[sOp]; omega) rfl) ?_;refine dQ [51] [] (aG (a:=sOp++[32]++Lib.itoa o.kind++[32]++Lib.itoa o.index) (b:=[32]) rfl rfl (by simp[sOp]; omega) rfl) ?_;refine dC [1] [] ?_;refine dQ [53] [64] iB ?_;refine dQ [54] [] (ak (iY o.data hL) rfl rfl (aj ab) (.inl rfl) (fun _=>rfl)) ?_;refine dQ [52,55] [] (aG (a:=sOp++[32]++Lib.itoa o.kind++[32]++Lib.itoa o.index++[32]) (b:=hexP o.data) rfl rfl (by simp[sOp]; omega) rfl) ?_;refine dC [56] [] ?_;refine aB (by kernel_rfl)<|aM<|bR ?_
 exact⟨trivial,[],lf⟩
theorem vO (o:POp) (hok:o.Ok) (hL:o.data.length≤1000000000):FnIs Tryz.prog 86 [.d (bu o)] [] (.d (strD (bd o))) []:=by
 by_cases k1:o.kind=1
 ·by_cases hd:o.data=[]
  ·exact rr o hok hL k1 hd
  ·exact um o hok hL k1 hd
 by_cases k2:o.kind=2
 ·exact pQ o hok hL k2
 by_cases k3:o.kind=3
 ·by_cases hi:o.index=0
  ·by_cases hd:o.data=[]
   ·exact pR o hok hL k3 hi hd
   ·exact uj o hok hL k3 hi hd
  ·exact uk o hok hL k3 hi
 ·exact ul o hok hL k1 k2 k3
end Go.Proofs.YtpjiiolnfbfcbaaGreatDoor
namespace Go.Plain
open Go.Eng Go.Lib
end Go.Plain
namespace Go.Proofs.YtpjiiolnfbfcbaaGreatDoor
open Go.Eng Go.Plain
set_option maxHeartbeats 32000000
set_option maxRecDepth 20000
attribute [local irreducible] WC RegS RegD SeqQ BlkQ ScoQ RegK CutK Sat SatN FnIs LoopQ an OpIs
def o1 {α:Type} (o:Option α):Int:=match o with
 | some _=>1
 | none=>0
abbrev CD (o:Option Int):AV :=.tup (.acons (.int .i64 (o.getD 0)) (.acons (.int .i64 (o1 o)) .anil))
def nV (l:List UInt8):Nat:=l.foldl (fun n c=>n*16+nibV c) 0
abbrev byR (o:Option (List UInt8)):AV :=.tup (.acons (.d (encB (o.getD []))) (.acons (.int .i64 (o1 o)) .anil))
end Go.Proofs.YtpjiiolnfbfcbaaGreatDoor
namespace Go.Proofs.YtpjiiolnfbfcbaaGreatDoor
open Go.Eng Go.Plain
set_option maxHeartbeats 32000000
set_option maxRecDepth 20000
set_option linter.unusedVariables false
set_option linter.unusedSimpArgs false
attribute [local irreducible] WC RegS RegD SeqQ BlkQ ScoQ RegK CutK Sat SatN FnIs LoopQ an OpIs
abbrev readA (o:Option POp):AV :=.tup (.acons (.d (bu (o.getD nN))) (.acons (.int .i64 (o1 o)) .anil))
def finR (s:List UInt8) (o:Option POp):Option POp:=match o with
 | some o=>if bd o=s then some o else none
 | none=>none
def op4 (o:Option Int) (x y:List UInt8):Option POp:=match o with
 | some k=>Plain.opR k x y
 | none=>none
end Go.Proofs.YtpjiiolnfbfcbaaGreatDoor
namespace Go.Eng
open Go.RowKit Go.Sort
abbrev CF (n:Int):D :=.sc (.int .i64 n)
variable {P : Program}
end Go.Eng
namespace Go.Eng
open Go.RowKit
variable {P : Program} {f : FuncId} {avs avs' : List AV} {h0 : List (Nat × Row)} {res : AV}
def Tells (avs:List AV) (h0:List (Nat×Row)) (avs':List AV) (h0':List (Nat×Row)):Prop :=
 ∀(C:Ctx) (G:Nat→Prop) (σ:Place) (w:World) (a:Act),aH C G (inSt avs h0) σ w a→aH C G (inSt avs' h0') σ w a
def Cy (res:AV):Prop:=(∀(σ σ':Place) (w w':World) (X X':Nat→Prop) (v:Value),RelV σ w X res v→RelV σ' w' X' res v)∧∀G:Nat→Prop,res.within G
end Go.Eng
namespace Go.Eng
open Go.RowKit
theorem Frz.row_le {r:Nat} {row row':Row} {a a':AV} (h:bj row row') (hf:Frz r row' a a'):Frz r row a a' :=
 ⟨hf.1,hf.2.1,hf.2.2.1,fun σ w X X' hx hn hr cs hc=>hf.2.2.2 σ w X X' hx hn (h σ w X r hr) cs hc⟩
end Go.Eng
namespace Go.Proofs.YtpjiiolnfbfcbaaGreatDoor
open Go.Eng Go.Plain
set_option maxHeartbeats 32000000
set_option maxRecDepth 20000
set_option linter.unusedVariables false
attribute [local irreducible] WC RegS RegD SeqQ BlkQ ScoQ RegK CutK Sat SatN FnIs LoopQ an OpIs
abbrev rpR (x:List (List POp)×Nat×Int):AV :=.tup (.acons (.d (lF x.1)) (.acons (.int .i64 (x.2.1:Nat)) (.acons (.int .i64 x.2.2) .anil)))
def QInv (W:List (List UInt8)):Option (List (List POp)×List POp)×Nat→Prop
 | (q,i)=>i≤W.length∧oK (W.drop i) i (toL q)=oK W 0 []∧chkP (toL q)=0
end Go.Proofs.YtpjiiolnfbfcbaaGreatDoor
namespace Go.Plain
open Go.Lib
abbrev sortI (l:List Int):List Int:=l.mergeSort fun x y=>decide (x≤y)
end Go.Plain
namespace Go.Proofs.YtpjiiolnfbfcbaaGreatDoor
open Go.Eng Go.Plain Go.Lib
set_option maxHeartbeats 32000000
set_option maxRecDepth 20000
def insL (n:Int):List Int→List Int
 | []=>[n]
 | x::l=>if n≤x then n::(x::l).filter (fun y=>decide (y≠n)) else x::insL n l
def wOut (n:Int) (s:List Int×Bool):List Int:=if s.2=true then s.1 else s.1++[n]
def idxL (b:Int) (l:List POp):List Int:=(l.filter (touB b)).map POp.index
end Go.Proofs.YtpjiiolnfbfcbaaGreatDoor
namespace Go.Proofs.YtpjiiolnfbfcbaaGreatDoor
open Go.Eng Go.Plain Go.RowKit
set_option maxHeartbeats 32000000
set_option maxRecDepth 20000
attribute [local irreducible] WC RegS RegD SeqQ BlkQ ScoQ RegK CutK Sat SatN FnIs LoopQ an OpIs
end Go.Proofs.YtpjiiolnfbfcbaaGreatDoor
namespace Go.Proofs.YtpjiiolnfbfcbaaGreatDoor
open Go.Eng Go.Plain
set_option maxHeartbeats 32000000
set_option maxRecDepth 20000
attribute [local irreducible] WC RegS RegD SeqQ BlkQ ScoQ RegK CutK Sat SatN FnIs LoopQ an OpIs
@[reducible] def accA:List Int→AV
 | []=>.d (.sc nil_)
 | x::xs=>.own 65 0 (xs.length+1) 1 none
@[reducible] def accH:List Int→Upds
 | []=>[]
 | x::xs=>[(65,some (rowI (x::xs)))]
end Go.Proofs.YtpjiiolnfbfcbaaGreatDoor
namespace Go.Proofs.YtpjiiolnfbfcbaaGreatDoor
open Go.Eng Go.Plain
set_option maxHeartbeats 32000000
set_option maxRecDepth 20000
def encV:Bool×POp→D
 | (true,o)=>.cons (u8s o.kind) (.cons (i6 o.index) (.cons (.sc nil_) .nil))
 | (false,o)=>bu o
def VOk (x:Bool×POp):Prop:=x.1=true→x.2.data=[]
theorem yE {w:World} {X:Nat→Prop} {x:Bool×POp} (hx:VOk x) {cs:List Value} (h:Enc w X (encV x) cs):Enc w X (bu x.2) cs:=by
 obtain⟨b,o⟩:=x
 cases b with
 | false=>exact h
 | true =>
  have hd:o.data=[]:=hx rfl
  obtain⟨c1,r1,rfl,h1,c2,r2,rfl,h2,c3,r3,rfl,h3,h4⟩:=h
  exact⟨c1,_,rfl,h1,c2,_,rfl,h2,c3,r3,rfl,.inl ⟨by rw[hd]; rfl,h3.1⟩,h4⟩
theorem jo {α β:Type} {s:Nat} {enc:α→D} {enc':β→D} {g:α→β} {xs:List α} {ys:List β} (hy:ys=xs.map g) (h:∀x∈xs,DLe (enc x) (enc' (g x))):DLe (.arr s enc xs) (.arr s enc' ys):=by
 subst hy
 rintro w X cs (⟨rfl,rfl⟩ | ⟨a,c,rfl,h1,h2,f,hf⟩)
 ·exact .inl ⟨rfl,rfl⟩
 ·refine .inr ⟨a,c,by rw[List.length_map],by rw[List.length_map]; exact h1,h2,f,fun i hi=>?_⟩
  rw[List.length_map]at hi
  obtain⟨g1,g2,g3⟩:=hf i hi
  refine⟨?_,g2,g3⟩
  rw[List.getElem_map]
  exact h _ (List.getElem_mem _) _ _ _ g1
abbrev encPV (l:List (Bool×POp)):D :=.arr 3 encV l
end Go.Proofs.YtpjiiolnfbfcbaaGreatDoor
namespace Go.Proofs.YtpjiiolnfbfcbaaGreatDoor
open Go.Eng Go.Plain
set_option maxHeartbeats 32000000
set_option maxRecDepth 20000
attribute [local irreducible] WC RegS RegD SeqQ BlkQ ScoQ RegK CutK Sat SatN FnIs LoopQ an OpIs
def pairV:List (List (Bool×POp)):=[[(true,⟨1,3,[]⟩),(false,⟨2,1,[0,255]⟩)],[(true,⟨3,0,[]⟩)]]
def Cc:List (List POp):=[[⟨1,3,[]⟩,⟨2,1,[0,255]⟩],[⟨3,0,[]⟩]]
abbrev vA:Bool×POp:=(true,⟨1,3,[]⟩)
abbrev vB:Bool×POp:=(false,⟨2,1,[0,255]⟩)
abbrev vC:Bool×POp:=(true,⟨3,0,[]⟩)
abbrev vAB:List (Bool×POp):=[vA,vB]
abbrev vC1:List (Bool×POp):=[vC]
end Go.Proofs.YtpjiiolnfbfcbaaGreatDoor
namespace Go.Eng
open Go.RowKit
section
variable {P : Program} {T : Tab} {env : Env} {h : Upds} {n : Nat}
theorem jq (hT:aq P T) {t e r L cap:Nat} {re:TyR} {s:Nat} {α:Type} {enc:α→D} (z:α) {x:Operand} {p:List Step} {row row':Row} (ht:bh T t=some (.slice e)) (he:lk T e=some re) (hs:Nat.beq re.size s=true) (hs0:Nat.blt 0 s=true) (hz:re.zero=enc z)
  (hx:ay env x=some (.asl r p L cap)) (hrow:bp h r=some row) (hL:Nat.blt 0 L=true) (hu:RUpd row p (.d (.vec L s enc (List.replicate L z))) row') :
  an P (.call { callee :=.builtin .clear,args := #[x],argTypes := #[t] }) env h n none [(r,some row')]:=.of_comes fun C G st σ w a o ho hA hd hst hn=>by
 have hs0:=Nat.le_of_ble_eq_true hs0
 have hL:=Nat.le_of_ble_eq_true hL
 have hs:=Nat.eq_of_beq_eq_true hs
 obtain⟨ud,hud,hdd⟩:=aS hT ht
 cases hdd
 obtain⟨hx1,hx2⟩:=ao hst (hA.ev hx)
 have hrow:=hA.row _ _ hrow
 obtain⟨b,c,hb,hux⟩:=RelV.asl.1 hx1
 obtain⟨zv,hzr,hzv⟩:=(hT e re he).run_zero w
 have hzl:zv.cells.toList.length=s:=by
  have h1:=Enc.len _ _ (Enc.closed w (fun _=>False) _ (hT e re he).zero)
  rw[hzv,(hT e re he).zsize,hs]at h1
  exact h1
 have henc:Enc w (st.X C.X0 σ) (enc z) zv.cells.toList:=by rw[←hz,←hzv]; exact Enc.closed _ _ _ (hT e re he).zero
 have hm':Rel σ w (st.X C.X0 σ) (.d (.vec L s enc (List.replicate L z))) false (cat (fun _=>zv.cells.toList) L):=
  ⟨by simp,fun _=>zv.cells.toList,fun i hi=>⟨by simpa using henc,hzl⟩,rfl⟩
 obtain⟨b',c',cur,t2,A,m,C',hb',hh,⟨hcur,hA2⟩,hml,hnew⟩:=RUpd.cells hu (hst.rows r row hrow) rfl hm' (hst.rowsG r row hrow).2 trivial
 rw[hb]at hb'
 cases hb'
 have hw:=hst.write (new:=(A++cat (fun _=>zv.cells.toList) L++C').toArray) hrow hb hh (RUpd.within (hst.rowsG r row hrow).2 (show (AV.d (.vec L s enc (List.replicate L z))).within G from trivial) hu) (fun w' ht hd' hh'=>hnew w' ht hd' hh')
 have hfl:(cat (fun _=>zv.cells.toList) L).length=L*s:=cf _ fun _ _=>hzl
 have hone:∀u∈cat (fun _=>zv.cells.toList) L,u.oneCell'=true:=fun u hu=>by
  obtain⟨k,hk,hu⟩:=js _ hu
  exact Enc.one _ _ henc u hu
 have hmade:(Builtin.zeroCells zv.cells L).toList=cat (fun _=>zv.cells.toList) L:=by
  have:=jF zv.cells.toList (by omega) L
  rw[kZ,←this]
  simp[Builtin.zeroCells]
 have hst1:(storeCells ⟨b,aW p,none⟩ (cat (fun _=>zv.cells.toList) L) 0).run P w=.ok () (w.setRow b (A++cat (fun _=>zv.cells.toList) L++C').toArray):=by
  have hcl:cur.size=A.length+m.length+C'.length:=by
   have:=congrArg List.length hcur
   simp at this; omega
  rw[run_storeCells_at P b (aW p) t2 _ 0 cur w hh (by omega) hone]
  congr 3
  rw[hcur]
  have e1:List.take (aW p+0) (A++m++C')=A:=by rw[←hA2]; simp
  have e2:List.drop (aW p+0+(cat (fun _=>zv.cells.toList) L).length) (A++m++C')=C':=by
   rw[←hml,←hA2,Nat.add_zero,←List.length_append,List.drop_left]
  rw[e1,e2]
 have hrun:(Builtin.clear_ #[t] o.type #[a.eval x]).run P w=.ok (.tuple #[]) (w.setRow b (A++cat (fun _=>zv.cells.toList) L++C').toArray):=by
  obtain⟨k,rfl⟩:∃k,L=k+1:=⟨L-1,by omega⟩
  simp[Builtin.clear_,hux,run_underlying hud,hzr,hmade,hst1]
 refine⟨none,_,.value (.tuple #[]),undef,w.setRow b (A++cat (fun _=>zv.cells.toList) L++C').toArray,σ,G,⟨rfl,rfl⟩,?_,.inl rfl,?_,fun _ h=>h,fun _ h=>.inl h⟩
 ·simp[execOp,ho,resolve,invoke,builtin,hrun]
 ·rw[St.put_upd]
  exact hw.set hd (v:=none) (ga _ _ _) trivial
theorem o7 {f:Operand} {args:Array Operand} {ts:Array TypeId} {g:FuncId} {first caps:AV} {bs9 avs:List AV} {h0 rows:List (Nat×Row)} {res v:AV} {u:Upds} (l:cp)
  (hfn:FnIs P g avs h0 res rows) (hf:ay env f=some (.fn (.func g) first caps)) (hl:evL (ay env) args.toList=some bs9) (hc1:first.chain=true) (hc2:caps.chain=true)
  (ha:cw (bp h) (rho l) (b9 first++(bs9++b9 caps)) avs) (hr:RowsIn (bp h) l h0) (hi:gn (rho l) (bZ h0)=true) (hk:jG l h0=true)
  (hm:cE (b9 first++(bs9++b9 caps)) avs=true∨h0=[]∧cG res rows) (hv:res.ren (eH l n)=v) (hu:cI l n h0 rows=u) :
  an P (.call { callee :=.value f,args:=args,argTypes:=ts }) env h n (some v) u:=by
 have:=an.call (n:=n) (ts:=ts) (h0:=h0) (rows:=rows) (res:=res) l hfn hf hl hc1 hc2 ha hr hi hk hm
 rw[hv,hu]at this
 exact this
theorem ma {look:Nat→Option Row} {ρ:Nat→Option Nat} {f:Fn} {r k:Nat} {p:List Step} {bs9 avs:List AV} (hr:ρ r=some k) (h64:Nat.blt r 64=true) (h:cw look ρ bs9 avs) :
  cw look ρ (.fn f (.acons (.ptr k p) .anil) .anil::bs9) (.fn f (.acons (.ptr r p) .anil) .anil::avs):=
 ⟨_,avs,rfl,⟨rfl,by simp[AV.lt,h64]⟩,AVLe.of_eq (by simp only[AV.ren,hr]),h⟩
end
theorem bj.ds_map {t:TypeId} {s:Nat} {ex:Bool} {α β:Type} {enc:α→D} {enc':β→D} (g:α→β) {xs:List α} {ys:List β} (hy:ys=xs.map g) (hg:∀x∈xs,DLe (enc x) (enc' (g x))):bj (.ds t s ex enc xs) (.ds t s ex enc' ys):=by
 subst hy
 intro σ w X r h
 rcases h with ⟨h1,rfl⟩ | ⟨b,c,cur,h1,h0,h2,h3,h4,h5,f,hf,h6⟩
 ·exact .inl ⟨h1,rfl⟩
 ·refine .inr ⟨b,c,cur,h1,by rw[List.length_map]; exact h0,h2,h3,by rw[List.length_map]; exact h4,h5,f,fun i hi=>?_,by rw[List.length_map]; exact h6⟩
  rw[List.length_map]at hi
  refine⟨?_,(hf i hi).2⟩
  rw[List.getElem_map]
  exact hg _ (List.getElem_mem _) _ _ _ (hf i hi).1
end Go.Eng
namespace Go.Eng
open Go.RowKit
variable {P : Program} {op : Op} {env : Env} {h : Upds} {n : Nat} {av av' : AV} {row : Row}
theorem an.frozen (hs:an P op env h n (some av) [(n,some row)]) (hf:Frz n row av av'):an P op env h n (some av') []:=by
 intro C G st σ w a o ho hA hd hst hn hb next Q hnext
 refine hs C G st σ w a o ho hA hd hst hn hb next Q fun x w' σ' G' hst' h1 h2=>?_
 have hnr:∀q row',st.row q=some row'→q≠n:=fun q row' hq e=>by
  subst e
  exact hn q (Nat.le_refl _) (by omega) (hst.rowsG _ _ hq).1
 have hrow:(st.put o.dst (some av) [(n,some row)]).row n=some row:=by
  simp[St.put,St.row,aQ]
 have hrow2:∀q row',q≠n→st.row q=some row'→(st.put o.dst (some av) [(n,some row)]).row q=some row':=fun q row' hq hr=>by
  simp only[St.put,St.row,List.cons_append,List.nil_append,aQ,if_neg (Ne.symm hq)]
  exact hr
 refine hnext x w' σ' G' (hst'.freeze (st':=st.put o.dst (some av') []) n row hrow (fun i v' hi=>?_) (fun q x' hq=>?_) rfl rfl) h1 h2
 ·cases hdst:o.dst with
  | none =>
   simp only[St.put,hdst]at hi ⊢
   exact⟨v',hi,.refl _⟩
  | some d =>
   simp only[St.put,hdst,aQ]at hi ⊢
   split at hi
   ·rename_i e
    rw[if_pos e]
    simp only[Option.some.injEq]at hi
    exact⟨av,rfl,by rw[←hi]; exact hf⟩
   ·rename_i e
    rw[if_neg e]
    exact⟨v',hi,.refl _⟩
 ·have hq':st.row q=some x':=hq
  exact⟨hnr q x' hq',x',hrow2 q x' (hnr q x' hq') hq',.refl _⟩
end Go.Eng
namespace Go.Eng
open Go.RowKit
variable {P : Program} {T : Tab} {env : Env} {h : Upds} {n : Nat}
def mI (e s:Nat):Nat→List (Nat×Nat)
 | 0=>[]
 | k+1=>mI e s k++[(k*s,e)]
theorem je (e s:Nat):∀k,(mI e s k).length=k
 | 0=>rfl
 | k+1=>by rw[mI,List.length_append,je e s k]; rfl
theorem nP {e s:Nat}:∀(m k o t:Nat),(mI e s m)[k]?=some (o,t)→t=e∧o=k*s
 | 0,k,o,t,h=>by simp[mI]at h
 | m+1,k,o,t,h=>by
  rw[mI]at h
  rcases Nat.lt_or_ge k m with hk | hk
  ·rw[List.getElem?_append_left (by rw[je]; exact hk)]at h
   exact nP m k o t h
  ·rw[List.getElem?_append_right (by rw[je]; exact hk),je]at h
   have:k-m=0:=by
    rcases Nat.eq_zero_or_pos (k-m)with e | e
    ·exact e
    ·rw[List.getElem?_eq_none (by simp; omega)]at h; cases h
   rw[this]at h
   simp only[List.getElem?_cons_zero,Option.some.injEq,Prod.mk.injEq]at h
   have e:k=m:=by omega
   subst e
   exact⟨h.2.symm,h.1.symm⟩
theorem k5 (hT:aq P T) {t e len:Nat} {r re:TyR} {parts:Array (Nat×Operand)} {q:AV} (ht:lk T t=some r) (hd:r.desc=.array len e) (he:lk T e=some re) (hq:iC T (mI e re.size len) (ay env) parts.toList (.d r.zero)=some q) (hag:q.isAgg=true) :
  an P (.build t parts) env h n (some q) []:=.of_comes fun C G st σ w a o ho hA hdst hst hn=>by
 obtain⟨u,hu,hdu⟩:=(hT t r ht).und
 rw[hd]at hdu
 cases hdu
 obtain⟨z,hz,hzc⟩:=(hT t r ht).run_zero w
 have henc:Rel σ w (st.X C.X0 σ) (.d r.zero) false z.cells.toList:=by rw[←hzc]; exact Enc.closed _ _ _ (hT t r ht).zero
 obtain⟨cs',hfill,h1,h2,h3⟩:=fo hT hst hA (pl:=fun k=>some (k*re.size,re.size)) (fun k o t' r' ho hr'=>by
  obtain⟨rfl,rfl⟩:=nP _ _ _ _ ho
  rw[he]at hr'
  cases hr'
  rfl) parts.toList (.d r.zero) q z.cells.toList hq rfl trivial henc
 refine .quiet (u :=.agg cs'.toArray) hst hdst ⟨rfl,rfl⟩ ?_ (by unfold RelV; rw[if_pos hag]; exact⟨cs',rfl,h1⟩) h3
 have hcs:z.cells.toList.toArray=z.cells:=by simp
 have hpt:(parts.map fun x=>(x.1,a.eval x.2)).toList=parts.toList.map fun x=>(x.1,a.eval x.2):=by simp
 rw[hcs,←hpt]at hfill
 have hb:(Instr.build t (parts.map fun x=>(x.1,a.eval x.2))).run P w=.ok (.agg cs'.toArray) w:=by
  simp only[Instr.build,Sem.run_bind,hz,Result.andThen_ok,run_underlying hu,(hT e re he).run_size,hfill,Sem.run_pure]
 simp only[execOp,ho,Sem.run_bind]
 rw[show (parts.map fun (x:Nat×Operand)=>match x with | (i,x)=>(i,a.eval x))=parts.map fun x=>(x.1,a.eval x.2) from rfl,hb]
 rfl
end Go.Eng
namespace Go.Eng
open Go.RowKit
theorem Frz.ownxe {r te s:Nat} {α:Type} {enc:α→D} {xs:List α} {len:Nat} (hl:len=xs.length):Frz r (.ds te s true enc xs) (.own r 0 len s none) (.d (.arx s enc xs)):=by
 subst hl
 refine⟨rfl,fun _=>rfl,fun _ _=>trivial,fun σ w X X' hx hn hr cs h=>?_⟩
 rcases h with ⟨h0,_,hl,_,rfl⟩ | ⟨b,c,ad,hb,rfl,hle1,hle2,hle3,had⟩
 ·exact .inl ⟨List.eq_nil_of_length_eq_zero hl,none,rfl⟩
 ·rcases hr with ⟨h0,rfl⟩ | ⟨b',c',cur,hb',hex,hh,hsz,hlen,hmax,f,hf,htake⟩
  ·rw[hb]at h0; cases h0
  ·rw[hb]at hb'
   cases hb'
   have hc:c=xs.length:=hex rfl
   subst hc
   refine .inr ⟨ad,by simp,hmax,f,fun i hi=>?_⟩
   obtain⟨h1,h2⟩:=hf i hi
   have hoff:ad=⟨b,0*s,none⟩:=had (by omega)
   subst hoff
   refine⟨Enc.sub hx _ _ h1,h2,fun j u hj=>⟨?_,hn b _ hb⟩⟩
   rw[dr,cell_of_row w b _ cur te (0,0) hh]
   have hjs:j<s:=by rw[←h2]; exact (List.getElem?_eq_some_iff.1 hj).1
   have hcg:=dW (f:=f) (s:=s) xs.length (fun i hi=>(hf i hi).2) i j hi hjs
   rw[←htake,hj,List.getElem?_take]at hcg
   have hlt2:i*s+j<xs.length*s:=by
    have:(i+1)*s≤xs.length*s:=Nat.mul_le_mul_right s hi
    rw[Nat.add_mul]at this; omega
   rw[if_pos hlt2]at hcg
   rw[←Array.getElem?_toList,Nat.zero_mul,Nat.zero_add]
   exact hcg
section
variable {P : Program} {T : Tab} {env : Env} {h : Upds} {n : Nat}
end
end Go.Eng
namespace Go.Proofs.YtpjiiolnfbfcbaaGreatDoor
open Go.Eng Go.Plain
set_option maxHeartbeats 32000000
set_option maxRecDepth 20000
attribute [local irreducible] WC RegS RegD SeqQ BlkQ ScoQ RegK CutK Sat SatN FnIs LoopQ an OpIs
theorem tg (l:List Int) (hp:0<l.length) (hlen:l.length≤1048576):FnIs Tryz.prog 42 [.d (.arr 1 bE l)] [] (.own 64 0 l.length 1 none) [(64,.ds 5 1 true bE l)]:=by
 have hd:decide ((l.length:Int)=0)=false:=dF (by omega)
 have hcp:l.take (List.replicate l.length (0:Int)).length++(List.replicate l.length (0:Int)).drop l.length=l:=by simp
 have hmin:min l.length (List.replicate l.length (0:Int)).length=l.length:=by simp
 refine au aa Tryz.func42 rfl rfl rfl ?_;refine sR<|rC<|zW ?_;refine rC ?_;refine rQ iE ?_;refine rC ?_;refine zG<|kS<|sR ?_;refine rC ?_;refine rQ iE ?_;refine aJ (de (enc:=bE) (s:=1) (N:=l.length) aa 0 rfl rfl rfl rfl rfl rfl rfl hlen rfl) rfl ?_;refine rC<|nR ?_;refine zD ?_;refine aJ (iz (r:=64+8+8+8+8+8+8) (xs:=List.replicate l.length (0:Int)) (ys:=l) (enc:=bE) (zs:=l) (m:=l.length) aa rfl rfl rfl rfl (by rw[List.length_replicate]; rfl) rfl rfl hcp hmin) rfl<|nR ?_;refine zD<|zT ?_
 exact⟨trivial,[(64,some _)],lg zV ⟨zR,trivial⟩⟩
theorem wU (l:List UInt8) (hlen:l.length≤1048576):FnIs Tryz.prog 42 [.d (encB l)] [] (.d (encB l)) []:=by
 cases l with
 | nil =>
  have hd:decide ((0:Int)=0)=true:=rfl
  refine au aa Tryz.func42 rfl rfl rfl ?_;refine sR<|rC<|zW ?_;refine rC ?_;refine rQ iE ?_;refine rC ?_;refine zO<|sR ?_;refine rC<|zT<|aP ?_
  exact⟨trivial,[],lg ⟨⟨_,rfl,gQ _ _⟩,rfl,trivial⟩ trivial⟩
 | cons a l=>exact (tg (byI (a::l)) (by simp[byI]) (by rw[b6]; exact hlen)).freeze_out 64 _ rfl (Frz.own rfl) trivial
def zPOp:D :=.cons (u8s 0) (.cons (i6 0) (.cons (.sc (.slice none 0 0)) .nil))
def n5:Option HOp→D
 | none=>.cons (i6 0) (.cons (i6 0) (.cons (i6 0) (.cons zPOp (.cons (i6 0) (.cons (i6 0) (.cons (.vec 32 1 bE (List.replicate 32 0)) (.cons (i6 0) .nil)))))))
 | some x=>b8 x
def n6:Option HEv→D
 | none=>.cons (u8s 0) (.cons (i6 0) (.cons zPOp (.cons (.vec 32 1 bE (List.replicate 32 0)) (.cons (i6 0) .nil))))
 | some x=>aY x
abbrev lG (l:List HOp):D :=.arx 41 b8 l
abbrev fO (l:List HEv):D :=.arx 38 aY l
def kT:Option (List HEv)→D
 | none=>.sc (.slice none 0 0)
 | some x=>fO x
theorem zq (l:List HOp):dP [.d (eu l)] [.d (.arr 41 n5 (l.map some))]:=⟨⟨AVLe.d (jo rfl fun _ _ _ _ _ h=>h) rfl,fun _ _=>trivial⟩,trivial⟩
theorem Cm (l:List HEv):dP [.d (encH l)] [.d (.arr 38 n6 (l.map some))]:=⟨⟨AVLe.d (jo rfl fun _ _ _ _ _ h=>h) rfl,fun _ _=>trivial⟩,trivial⟩
theorem Cl (l:List (List HEv)):dP [.d (.arr 1 fO l)] [.d (.arr 1 kT (l.map some))]:=⟨⟨AVLe.d (jo rfl fun _ _ _ _ _ h=>h) rfl,fun _ _=>trivial⟩,trivial⟩
theorem x1 (l:List HOp):bj (.ds 43 41 true n5 (l.map some)) (.ds 43 41 true b8 l):=
 bj.ds_map (fun o=>match o with | some x=>x | none=>⟨0,0,0,zOp,0,0,[],0⟩) (by rw[List.map_map]; exact (List.map_id _).symm) fun x hx=>by
  obtain⟨y,_,rfl⟩:=List.mem_map.1 hx
  exact fun _ _ _ h=>h
theorem Af (l:List HEv):bj (.ds 32 38 true n6 (l.map some)) (.ds 32 38 true aY l):=
 bj.ds_map (fun o=>match o with | some x=>x | none=>⟨0,0,zOp,[],0⟩) (by rw[List.map_map]; exact (List.map_id _).symm) fun x hx=>by
  obtain⟨y,_,rfl⟩:=List.mem_map.1 hx
  exact fun _ _ _ h=>h
theorem z1 (l:List (List HEv)):bj (.ds 22 1 true kT (l.map some)) (.ds 22 1 true fO l):=
 bj.ds_map (fun o=>match o with | some x=>x | none=>[]) (by rw[List.map_map]; exact (List.map_id _).symm) fun x hx=>by
  obtain⟨y,_,rfl⟩:=List.mem_map.1 hx
  exact fun _ _ _ h=>h
theorem yx (l:List (Option HOp)) (hp:0<l.length) (hlen:l.length≤1048576):FnIs Tryz.prog 23 [.d (.arr 41 n5 l)] [] (.own 64 0 l.length 41 none) [(64,.ds 43 41 true n5 l)]:=by
 have hd:decide ((l.length:Int)=0)=false:=dF (by omega)
 have hcp:l.take (List.replicate l.length (none:Option HOp)).length++(List.replicate l.length (none:Option HOp)).drop l.length=l:=by simp
 have hmin:min l.length (List.replicate l.length (none:Option HOp)).length=l.length:=by simp
 refine au aa Tryz.func23 rfl rfl rfl ?_;refine sR<|rC<|zW ?_;refine rC ?_;refine rQ iE ?_;refine rC ?_;refine zG<|kS<|sR ?_;refine rC ?_;refine rQ iE ?_;refine aJ (de (enc:=n5) (s:=41) (N:=l.length) aa none rfl rfl rfl rfl rfl rfl rfl hlen rfl) rfl ?_;refine rC<|nR ?_;refine zD ?_;refine aJ (iz (r:=64+8+8+8+8+8+8) (xs:=List.replicate l.length none) (ys:=l) (enc:=n5) (zs:=l) (m:=l.length) aa rfl rfl rfl rfl (by rw[List.length_replicate]; rfl) rfl rfl hcp hmin) rfl<|nR ?_;refine zD<|zT ?_
 exact⟨trivial,[(64,some _)],lg zV ⟨zR,trivial⟩⟩
theorem Ac (l:List HOp) (hlen:l.length≤1048576):FnIs Tryz.prog 23 [.d (.arr 41 b8 l)] [] (.d (.arx 41 b8 l)) []:=by
 cases l with
 | nil =>
  have hd:decide ((0:Int)=0)=true:=rfl
  refine au aa Tryz.func23 rfl rfl rfl ?_;refine sR<|rC<|zW ?_;refine rC ?_;refine rQ iE ?_;refine rC ?_;refine zO<|sR ?_;refine rC<|zT<|aP ?_
  exact⟨trivial,[],lg ⟨⟨_,rfl,cB _ _⟩,rfl,trivial⟩ trivial⟩
 | cons a l=>exact FnIs.args_le (zq (a::l)) ((yx ((a::l).map some) (by simp) (by rw[List.length_map]; exact hlen)).freeze_out 64 _ rfl (Frz.row_le (x1 (a::l)) (Frz.ownxe (by simp))) trivial)
theorem yz (l:List (Option HEv)) (hp:0<l.length) (hlen:l.length≤1048576):FnIs Tryz.prog 21 [.d (.arr 38 n6 l)] [] (.own 64 0 l.length 38 none) [(64,.ds 32 38 true n6 l)]:=by
 have hd:decide ((l.length:Int)=0)=false:=dF (by omega)
 have hcp:l.take (List.replicate l.length (none:Option HEv)).length++(List.replicate l.length (none:Option HEv)).drop l.length=l:=by simp
 have hmin:min l.length (List.replicate l.length (none:Option HEv)).length=l.length:=by simp
 refine au aa Tryz.func21 rfl rfl rfl ?_;refine sR<|rC<|zW ?_;refine rC ?_;refine rQ iE ?_;refine rC ?_;refine zG<|kS<|sR ?_;refine rC ?_;refine rQ iE ?_;refine aJ (de (enc:=n6) (s:=38) (N:=l.length) aa none rfl rfl rfl rfl rfl rfl rfl hlen rfl) rfl ?_;refine rC<|nR ?_;refine zD ?_;refine aJ (iz (r:=64+8+8+8+8+8+8) (xs:=List.replicate l.length none) (ys:=l) (enc:=n6) (zs:=l) (m:=l.length) aa rfl rfl rfl rfl (by rw[List.length_replicate]; rfl) rfl rfl hcp hmin) rfl<|nR ?_;refine zD<|zT ?_
 exact⟨trivial,[(64,some _)],lg zV ⟨zR,trivial⟩⟩
theorem oX (l:List HEv) (hlen:l.length≤1048576):FnIs Tryz.prog 21 [.d (.arr 38 aY l)] [] (.d (.arx 38 aY l)) []:=by
 cases l with
 | nil =>
  have hd:decide ((0:Int)=0)=true:=rfl
  refine au aa Tryz.func21 rfl rfl rfl ?_;refine sR<|rC<|zW ?_;refine rC ?_;refine rQ iE ?_;refine rC ?_;refine zO<|sR ?_;refine rC<|zT<|aP ?_
  exact⟨trivial,[],lg ⟨⟨_,rfl,cB _ _⟩,rfl,trivial⟩ trivial⟩
 | cons a l=>exact FnIs.args_le (Cm (a::l)) ((yz ((a::l).map some) (by simp) (by rw[List.length_map]; exact hlen)).freeze_out 64 _ rfl (Frz.row_le (Af (a::l)) (Frz.ownxe (by simp))) trivial)
theorem yy (l:List (Option (List HEv))) (hp:0<l.length) (hlen:l.length≤1048576):FnIs Tryz.prog 51 [.d (.arr 1 kT l)] [] (.own 64 0 l.length 1 none) [(64,.ds 22 1 true kT l)]:=by
 have hd:decide ((l.length:Int)=0)=false:=dF (by omega)
 have hcp:l.take (List.replicate l.length (none:Option (List HEv))).length++(List.replicate l.length (none:Option (List HEv))).drop l.length=l:=by simp
 have hmin:min l.length (List.replicate l.length (none:Option (List HEv))).length=l.length:=by simp
 refine au aa Tryz.func51 rfl rfl rfl ?_;refine sR<|rC<|zW ?_;refine rC ?_;refine rQ iE ?_;refine rC ?_;refine zG<|kS<|sR ?_;refine rC ?_;refine rQ iE ?_;refine aJ (de (enc:=kT) (s:=1) (N:=l.length) aa none rfl rfl rfl rfl rfl rfl rfl hlen rfl) rfl ?_;refine rC<|nR ?_;refine zD ?_;refine aJ (iz (r:=64+8+8+8+8+8+8) (xs:=List.replicate l.length none) (ys:=l) (enc:=kT) (zs:=l) (m:=l.length) aa rfl rfl rfl rfl (by rw[List.length_replicate]; rfl) rfl rfl hcp hmin) rfl<|nR ?_;refine zD<|zT ?_
 exact⟨trivial,[(64,some _)],lg zV ⟨zR,trivial⟩⟩
theorem Ad (l:List (List HEv)) (hlen:l.length≤1048576):FnIs Tryz.prog 51 [.d (.arr 1 fO l)] [] (.d (.arx 1 fO l)) []:=by
 cases l with
 | nil =>
  have hd:decide ((0:Int)=0)=true:=rfl
  refine au aa Tryz.func51 rfl rfl rfl ?_;refine sR<|rC<|zW ?_;refine rC ?_;refine rQ iE ?_;refine rC ?_;refine zO<|sR ?_;refine rC<|zT<|aP ?_
  exact⟨trivial,[],lg ⟨⟨_,rfl,cB _ _⟩,rfl,trivial⟩ trivial⟩
 | cons a l=>exact FnIs.args_le (Cl (a::l)) ((yy ((a::l).map some) (by simp) (by rw[List.length_map]; exact hlen)).freeze_out 64 _ rfl (Frz.row_le (z1 (a::l)) (Frz.ownxe (by simp))) trivial)
theorem yP (x:POp) (c1 c2:Bool) (h1:decide (x.kind=0)=c1) (h2:decide (x.index=0)=c2):FnIs Tryz.prog 43 [.d (bu x)] [] (.bool (c1&&c2&&decide (((byI x.data).length:Int)=0))) []:=by
 refine au aa Tryz.func43 rfl rfl rfl ?_;refine sR<|rN ?_;refine rC<|nR ?_;refine rC ?_;refine rQ iB ?_;refine zD ?_
 cases c1 with
 | false =>
  iterate 3 refine rS ?_
  refine rQ iF ?_;refine rC ?_;iterate 4 refine rT ?_
  refine rQ iG ?_;refine rC<|zT ?_
  exact⟨trivial,[],lf⟩
 | true =>
  refine rO ?_;refine rC ?_;refine rO ?_;refine rQ iB ?_;refine rO ?_;refine rC ?_;refine rQ iT ?_;refine rC ?_
  cases c2 with
  | false =>
   iterate 4 refine rS ?_
   refine rQ iF ?_;refine rC<|zT ?_
   exact⟨trivial,[],lf⟩
  | true =>
   refine rO ?_;refine rC ?_;refine rO ?_;refine rQ iB ?_;refine rO ?_;refine rQ iE ?_;refine rO ?_;refine rC ?_;refine rQ iT ?_;refine rC<|zT ?_
   exact⟨trivial,[],lf⟩
theorem xK (x:POp):(decide (x.kind=0)&&decide (x.index=0)&&decide (((byI x.data).length:Int)=0))=decide (x=zOp):=by
 obtain⟨k,i,d⟩:=x
 rw[b6]
 have:decide (((d.length:Nat):Int)=0)=decide (d=[]):=decide_eq_decide.2 (by rw[←List.length_eq_zero_iff]; omega)
 simp only[this,zOp,POp.mk.injEq]
 by_cases h1:k=0 <;> by_cases h2:i=0 <;> by_cases h3:d=[] <;> simp[h1,h2,h3]
theorem gx (x:POp):FnIs Tryz.prog 43 [.d (bu x)] [] (.bool (decide (x=zOp))) []:=by
 have:=yP x _ _ rfl rfl
 rwa [xK]at this
theorem hY:DLe (.cons (.sc (.int .u8 0)) (.cons (.sc (.int .i64 0)) (.cons (.sc nil_) .nil))) (bu zOp):=by
 rintro w X cs ⟨c1,r1,rfl,h1,c2,r2,rfl,h2,c3,r3,rfl,h3,h4⟩
 exact⟨c1,_,rfl,h1,c2,_,rfl,h2,c3,r3,rfl,.inl ⟨rfl,h3.1⟩,h4⟩
theorem sU (x:POp):FnIs Tryz.prog 83 [.d (bu x)] [] (.d (i6 (if x=zOp then 1 else 0))) []:=by
 refine au aa Tryz.func83 rfl rfl rfl ?_;refine sR<|rN ?_;refine rC<|nR ?_;refine rQ iM ?_;refine rQ iS ?_;refine rQ (ak (ky x zOp) rfl rfl (aj (hJ rfl trivial hY ab)) (.inl rfl) (fun _=>rfl)) ?_;refine rC<|zT ?_
 exact⟨trivial,[],lf⟩
theorem wL (x y:HEv) (c1 c2 c3 c4:Bool) (h1:(!decide (x.kind=y.kind))=c1) (h2:(!decide (x.client=y.client))=c2) (h3:(!decide (x.value=y.value))=c3) (h4:(!decide (x.err=y.err))=c4):FnIs Tryz.prog 57 [.d (aY x),.d (aY y)] [] (.d (i6 (if c1||c2||c3||c4 then 0 else if x.op=y.op then 1 else 0))) []:=by
 refine au aa Tryz.func57 rfl rfl rfl ?_;refine sR ?_;iterate 2 refine rN ?_
 refine rC<|zW ?_;refine rC ?_;refine rQ iB ?_;refine rC ?_;refine rQ iB ?_;refine zD ?_
 cases c1 with
 | true =>
  iterate 5 refine rS ?_
  refine rQ iT ?_;refine rC ?_;iterate 5 refine rT ?_
  refine rQ iU ?_;refine rC ?_;iterate 5 refine rT ?_
  refine rQ iU ?_;refine zO<|sR ?_;refine rC<|zT<|aP ?_
  exact⟨trivial,[],lf⟩
 | false =>
  refine rO ?_;refine rC ?_;refine rO ?_;refine rQ iB ?_;refine rO ?_;refine rC ?_;refine rO ?_;refine rQ iB ?_;refine rO ?_;refine rC ?_;refine rQ iF ?_;refine rC ?_
  cases c2 with
  | true =>
   iterate 5 refine rS ?_
   refine rQ iT ?_;refine rC ?_;iterate 5 refine rT ?_
   refine rQ iU ?_;refine zO<|sR ?_;refine rC<|zT<|aP ?_
   exact⟨trivial,[],lf⟩
  | false =>
   refine rO ?_;refine rC ?_;refine rO ?_;refine rQ iB ?_;refine rO ?_;refine rC ?_;refine rO ?_;refine rQ iB ?_;refine rO ?_;refine rQ (im rfl rfl rfl rfl (by kernel_rfl) (by decide) (bq x.value y.value)) ?_;refine rQ iF ?_;refine rC ?_
   cases c3 with
   | true =>
    iterate 5 refine rS ?_
    refine rQ iT ?_;refine zO<|sR ?_;refine rC<|zT<|aP ?_
    exact⟨trivial,[],lf⟩
   | false =>
    refine rO ?_;refine rC ?_;refine rO ?_;refine rQ iB ?_;refine rO ?_;refine rC ?_;refine rO ?_;refine rQ iB ?_;refine rO ?_;refine rC ?_;refine rQ iF<|nS ?_
    cases c4 with
    | true =>
     refine wT<|sR ?_;refine rC<|zT<|aP ?_
     exact⟨trivial,[],lf⟩
    | false =>
     refine wF<|kS<|sR ?_;refine rC ?_;refine rQ iB ?_;refine rC ?_;refine rQ iB ?_;refine rQ (ak (ky x.op y.op) rfl rfl (aj (aj ab)) (.inl rfl) (fun _=>rfl)) ?_;refine rC<|zT ?_
     exact⟨trivial,[],lf⟩
theorem Ag (x y:HEv):(if (!decide (x.kind=y.kind))||(!decide (x.client=y.client))||(!decide (x.value=y.value))||(!decide (x.err=y.err)) then (0:Int) else if x.op=y.op then 1 else 0)=if x=y then 1 else 0:=by
 obtain⟨k,c,o,v,e⟩:=x
 obtain⟨k',c',o',v',e'⟩:=y
 simp only[HEv.mk.injEq]
 by_cases h1:k=k' <;> by_cases h2:c=c' <;> by_cases h3:v=v' <;> by_cases h4:e=e' <;> by_cases h5:o=o' <;> simp[h1,h2,h3,h4,h5]
theorem uK (x y:HEv):FnIs Tryz.prog 57 [.d (aY x),.d (aY y)] [] (.d (i6 (if x=y then 1 else 0))) []:=by
 have:=wL x y _ _ _ _ rfl rfl rfl rfl
 rwa [Ag]at this
theorem wJ (x y:HEv) (c1 c2 c3 c4 c5 c6:Bool) (h1:decide (x.kind=y.kind)=c1) (h2:decide (x.client=y.client)=c2) (h3:decide (x.value=y.value)=c3) (h4:decide (x.err=y.err)=c4) (h5:decide (x.op.kind=y.op.kind)=c5) (h6:decide (x.op.index=y.op.index)=c6) :
  FnIs Tryz.prog 60 [.d (aY x),.d (aY y)] [] (.bool (c1&&c2&&c3&&c4&&c5&&c6&&decide (x.op.data=y.op.data))) []:=by
 refine au aa Tryz.func60 rfl rfl rfl ?_;refine sR ?_;iterate 2 refine rN ?_
 refine rC<|nQ ?_;refine aE (by kernel_rfl) ?_;refine dC [2] [] ?_;refine dQ [7] [64] iB ?_;refine dC [3] [] ?_;refine dQ [9] [72] iB ?_;iterate 2 refine fD [] [] rfl (aw aa (fun K hk=>hk)) ?_
 refine bI [5,8] [120] (aD aa rfl rfl rfl ⟨_,⟨rfl,rfl,rfl⟩,rfl⟩ rfl) ?_;refine bI [6,10] [128] (aD aa rfl rfl rfl ⟨_,⟨rfl,rfl,rfl⟩,rfl⟩ rfl) ?_;refine aB (by kernel_rfl)<|aM<|sR ?_;refine rC ?_;refine rQ iB ?_;refine rC ?_;refine rQ iB ?_;refine zD ?_
 cases c1 with
 | false =>
  iterate 5 refine rS ?_
  refine rQ iF ?_;refine rC ?_;iterate 5 refine rT ?_
  refine rQ iG ?_;refine rC ?_;iterate 5 refine rT ?_
  refine rQ iG ?_;refine rC ?_;iterate 5 refine rT ?_
  refine rQ iG ?_;refine rC ?_;iterate 5 refine rT ?_
  refine rQ iG ?_;refine rC ?_;iterate 5 refine rT ?_
  refine rQ iG ?_;refine rC<|zT ?_
  exact⟨trivial,[],lf⟩
 | true =>
  refine rO ?_;refine rC ?_;refine rO ?_;refine rQ iB ?_;refine rO ?_;refine rC ?_;refine rO ?_;refine rQ iB ?_;refine rO ?_;refine rC ?_;refine rQ iT ?_;refine rC ?_
  cases c2 with
  | false =>
   iterate 5 refine rS ?_
   refine rQ iF ?_;refine rC ?_;iterate 5 refine rT ?_
   refine rQ iG ?_;refine rC ?_;iterate 5 refine rT ?_
   refine rQ iG ?_;refine rC ?_;iterate 5 refine rT ?_
   refine rQ iG ?_;refine rC ?_;iterate 5 refine rT ?_
   refine rQ iG ?_;refine rC<|zT ?_
   exact⟨trivial,[],lf⟩
  | true =>
   refine rO ?_;refine rC ?_;refine rO ?_;refine rQ iB ?_;refine rO ?_;refine rC ?_;refine rO ?_;refine rQ iB ?_;refine rO ?_;refine rQ (bD rfl rfl rfl rfl (by kernel_rfl) (by decide) (bq x.value y.value)) ?_;refine rQ iT ?_;refine rC ?_
   cases c3 with
   | false =>
    iterate 5 refine rS ?_
    refine rQ iF ?_;refine rC ?_;iterate 5 refine rT ?_
    refine rQ iG ?_;refine rC ?_;iterate 5 refine rT ?_
    refine rQ iG ?_;refine rC ?_;iterate 5 refine rT ?_
    refine rQ iG ?_;refine rC<|zT ?_
    exact⟨trivial,[],lf⟩
   | true =>
    refine rO ?_;refine rC ?_;refine rO ?_;refine rQ iB ?_;refine rO ?_;refine rC ?_;refine rO ?_;refine rQ iB ?_;refine rO ?_;refine rC ?_;refine rQ iT ?_;refine rC ?_
    cases c4 with
    | false =>
     iterate 5 refine rS ?_
     refine rQ iF ?_;refine rC ?_;iterate 5 refine rT ?_
     refine rQ iG ?_;refine rC ?_;iterate 5 refine rT ?_
     refine rQ iG ?_;refine rC<|zT ?_
     exact⟨trivial,[],lf⟩
    | true =>
     refine rO ?_;refine rC ?_;refine rO ?_;refine rQ iB ?_;refine rO ?_;refine rC ?_;refine rO ?_;refine rQ iB ?_;refine rO ?_;refine rC ?_;refine rQ iT ?_;refine rC ?_
     cases c5 with
     | false =>
      iterate 5 refine rS ?_
      refine rQ iF ?_;refine rC ?_;iterate 5 refine rT ?_
      refine rQ iG ?_;refine rC<|zT ?_
      exact⟨trivial,[],lf⟩
     | true =>
      refine rO ?_;refine rC ?_;refine rO ?_;refine rQ iB ?_;refine rO ?_;refine rC ?_;refine rO ?_;refine rQ iB ?_;refine rO ?_;refine rC ?_;refine rQ iT ?_;refine rC ?_
      cases c6 with
      | false =>
       iterate 5 refine rS ?_
       refine rQ iF ?_;refine rC<|zT ?_
       exact⟨trivial,[],lf⟩
      | true =>
       refine rO ?_;refine rC ?_;refine rO ?_;refine rQ iB ?_;refine rO ?_;refine rC ?_;refine rO ?_;refine rQ iB ?_;refine rO ?_;refine rQ (ak (Ao x.op.data y.op.data) rfl rfl (aj (aj ab)) (.inl rfl) (fun _=>rfl)) ?_;refine rQ iT ?_;refine rC<|zT ?_
       exact⟨trivial,[],lf⟩
theorem yA (x y:HEv):(decide (x.kind=y.kind)&&decide (x.client=y.client)&&decide (x.value=y.value)&&decide (x.err=y.err)&&decide (x.op.kind=y.op.kind)&&decide (x.op.index=y.op.index)&&decide (x.op.data=y.op.data))=decide (x=y):=by
 obtain⟨k,c,⟨o,i,d⟩,v,e⟩:=x
 obtain⟨k',c',⟨o',i',d'⟩,v',e'⟩:=y
 simp only[HEv.mk.injEq,POp.mk.injEq]
 by_cases h1:k=k' <;> by_cases h2:c=c' <;> by_cases h3:v=v' <;> by_cases h4:e=e' <;> by_cases h5:o=o' <;> by_cases h6:i=i' <;> by_cases h7:d=d' <;> simp[h1,h2,h3,h4,h5,h6,h7]
theorem nU (x y:HEv):FnIs Tryz.prog 60 [.d (aY x),.d (aY y)] [] (.bool (decide (x=y))) []:=by
 have:=wJ x y _ _ _ _ _ _ rfl rfl rfl rfl rfl rfl
 rwa [yA]at this
theorem yD (p q:List HEv) (hL:p.length≤1000000000):FnIs Tryz.prog 59 [.d (encH p),.d (encH q),fnA 60] [] (.bool (decide (p=q))) []:=by
 refine au aa Tryz.func59 rfl rfl rfl ?_
 by_cases hlen:p.length=q.length
 ·have hd:(!decide ((p.length:Int)=(q.length:Int)))=false:=by rw[dT (by omega)]; rfl
  refine sR<|rC<|zW ?_;refine rC ?_;refine rQ iE ?_;refine rC ?_;refine rQ iE ?_;refine rC ?_;refine zG<|kS<|qR ?_;refine rC ?_;refine rQ iE ?_;refine rC<|zP ?_
  refine wc_inv (fun i:Nat=>⟨[(17,.int .i64 i),(16,.int .i64 p.length),(15,.d (encH p)),(2,fnA 60),(1,.d (encH q))],[],72,Tryz.f59.ntmps,64⟩) (fun i=>i≤p.length∧p.take i=q.take i) (fun i=>p.length-i) 0 [] ⟨Nat.zero_le _,by simp⟩
   (lg zh trivial) ?_
  intro i hi
  obtain⟨hi,hsame⟩:=hi
  refine bG<|sR ?_;refine rC<|nQ ?_
  refine bO rfl (fun h3=>?_) (fun h3=>?_)
  ·have hlt:i<p.length:=by have:=of_decide_eq_true h3; omega
   obtain⟨x,hx⟩:∃x,p[i]?=some x:=⟨_,List.getElem?_eq_getElem hlt⟩
   obtain⟨y,hy⟩:∃y,q[i]?=some y:=⟨_,List.getElem?_eq_getElem (by omega)⟩
   have hx':p[((i:Int)).toNat]?=some x:=by rw[Int.toNat_natCast]; exact hx
   have hy':q[((i:Int)).toNat]?=some y:=by rw[Int.toNat_natCast]; exact hy
   by_cases he:x=y
   ·have hn:(!decide (x=y))=false:=by rw[dT he]; rfl
    refine zQ<|zS<|rC ?_;refine rQ iA ?_;refine rQ iL ?_;refine rN ?_;refine rC ?_;refine rW<|nR ?_;refine zD ?_;refine rQ iA ?_;refine rQ iL ?_;refine rN ?_;refine rW<|nR ?_;refine rC ?_;iterate 2 refine rQ iM ?_
    refine rQ (ak (nU x y) rfl rfl (aj (aj ab)) (.inl rfl) (fun _=>rfl)) ?_;refine rC ?_;refine zG<|aL<|gw<|aM<|am ?_;refine rQ iD ?_;refine rC<|aA ?_
    exact aN (i+1) [] ⟨hlt,by rw[List.take_add_one,List.take_add_one,hx,hy,hsame,he]⟩ (by omega) (lg zh trivial)
   ·have hn:(!decide (x=y))=true:=by rw[dF he]; rfl
    have hne:decide (p=q)=false:=dF fun e=>he (by rw[e,hy]at hx; cases hx; rfl)
    rw[hne]
    refine zQ<|zS<|rC ?_;refine rQ iA ?_;refine rQ iL ?_;refine rN ?_;refine rC ?_;refine rW<|nR ?_;refine zD ?_;refine rQ iA ?_;refine rQ iL ?_;refine rN ?_;refine rW<|nR ?_;refine rC ?_;iterate 2 refine rQ iM ?_
    refine rQ (ak (nU x y) rfl rfl (aj (aj ab)) (.inl rfl) (fun _=>rfl)) ?_;refine rC ?_;refine zI<|sR ?_;refine rC<|zT<|zB<|ce<|zB ?_
    exact⟨trivial,[],lf⟩
  ·have he:i=p.length:=by have:=of_decide_eq_false h3; omega
   subst he
   have hpq:decide (p=q)=true:=dT (by rw[List.take_length]at hsame; rw[hsame,hlen,List.take_length])
   rw[hpq]
   refine zX<|sR<|rC<|zT ?_
   exact⟨trivial,[],lf⟩
 ·have hd:(!decide ((p.length:Int)=(q.length:Int)))=true:=by rw[dF (by omega)]; rfl
  have hne:decide (p=q)=false:=dF fun e=>hlen (by rw[e])
  rw[hne]
  refine sR<|rC<|zW ?_;refine rC ?_;refine rQ iE ?_;refine rC ?_;refine rQ iE ?_;refine rC ?_;refine zI<|sR ?_;refine rC<|zT<|aP ?_
  exact⟨trivial,[],lf⟩
theorem qm (p q:List HEv) (hL:p.length≤1000000000):FnIs Tryz.prog 33 [.d (encH p),.d (encH q)] [] (.bool (decide (p=q))) []:=by
 refine au aa Tryz.func33 rfl rfl rfl ?_;refine sR<|rC<|nR ?_;refine zD ?_;refine rQ (ak (yD p q hL) rfl rfl (aj (aj (k7 ab))) (.inl rfl) (fun _=>rfl)) ?_;refine rC<|zT ?_
 exact⟨trivial,[],lf⟩
theorem gp (p q:List HEv) (hL:p.length≤1000000000):FnIs Tryz.prog 31 [.d (encH p),.d (encH q)] [] (.d (i6 (if p=q then 1 else 0))) []:=by
 refine au aa Tryz.func31 rfl rfl rfl ?_
 by_cases hlen:p.length=q.length
 ·have hd:(!decide ((p.length:Int)=(q.length:Int)))=false:=by rw[dT (by omega)]; rfl
  refine sR<|rC<|zW ?_;refine rC ?_;refine rQ iE ?_;refine rC ?_;refine rQ iE ?_;refine rC ?_;refine zG<|kS<|qR ?_;refine rC<|zP ?_
  refine wc_inv (fun i:Nat=>⟨[(5,.int .i64 i),(1,.d (encH q)),(0,.d (encH p))],[],72,Tryz.f31.ntmps,64⟩) (fun i=>i≤p.length∧p.take i=q.take i) (fun i=>p.length-i) 0 [] ⟨Nat.zero_le _,by simp⟩
   (lg zj trivial) ?_
  intro i hi
  obtain⟨hi,hsame⟩:=hi
  refine bG<|qR ?_;refine zD ?_;refine rQ iE ?_;refine rC<|nS ?_
  refine bO rfl (fun h3=>?_) (fun h3=>?_)
  ·have hlt:i<p.length:=by have:=of_decide_eq_true h3; omega
   obtain⟨x,hx⟩:∃x,p[i]?=some x:=⟨_,List.getElem?_eq_getElem hlt⟩
   obtain⟨y,hy⟩:∃y,q[i]?=some y:=⟨_,List.getElem?_eq_getElem (by omega)⟩
   have hx':p[((i:Int)).toNat]?=some x:=by rw[Int.toNat_natCast]; exact hx
   have hy':q[((i:Int)).toNat]?=some y:=by rw[Int.toNat_natCast]; exact hy
   have hreq:=uK x y
   by_cases he:x=y
   ·rw[if_pos he]at hreq
    refine zQ<|aZ<|bk<|aE (by kernel_rfl) ?_;refine dC [0] [] ?_;refine dC [5] [] ?_;refine dQ [17,18] [] iA ?_;refine dQ [19] [] iL ?_;refine dC [1] [] ?_;refine dC [5] [] ?_;refine dQ [21,22] [] iA ?_;refine dQ [23] [] iL ?_;refine dQ [20,24] [] (ak hreq rfl rfl (aj (aj ab)) (.inl rfl) (fun _=>rfl)) ?_;refine dC [25] [] ?_;refine aB (by kernel_rfl)<|aM ?_;refine wG<|aL<|zC<|am ?_;refine rC ?_;refine rQ iD ?_;refine rC<|aA ?_
    exact aN (i+1) [] ⟨hlt,by rw[List.take_add_one,List.take_add_one,hx,hy,hsame,he]⟩ (by omega) (lg zj trivial)
   ·rw[if_neg he]at hreq
    rw[if_neg (fun e=>he (by rw[e,hy]at hx; cases hx; rfl))]
    refine zQ<|aZ<|bk<|aE (by kernel_rfl) ?_;refine dC [0] [] ?_;refine dC [5] [] ?_;refine dQ [17,18] [] iA ?_;refine dQ [19] [] iL ?_;refine dC [1] [] ?_;refine dC [5] [] ?_;refine dQ [21,22] [] iA ?_;refine dQ [23] [] iL ?_;refine dQ [20,24] [] (ak hreq rfl rfl (aj (aj ab)) (.inl rfl) (fun _=>rfl)) ?_;refine dC [25] [] ?_;refine aB (by kernel_rfl)<|aM ?_;refine wV<|sR ?_;refine rC<|zT<|zB<|ce<|zB ?_
    exact⟨trivial,[],lf⟩
  ·have he:i=p.length:=by have:=of_decide_eq_false h3; omega
   subst he
   rw[if_pos (by rw[List.take_length]at hsame; rw[hsame,hlen,List.take_length])]
   refine zX<|sR<|rC<|zT ?_
   exact⟨trivial,[],lf⟩
 ·have hd:(!decide ((p.length:Int)=(q.length:Int)))=true:=by rw[dF (by omega)]; rfl
  rw[if_neg (fun e=>hlen (by rw[e]))]
  refine sR<|rC<|zW ?_;refine rC ?_;refine rQ iE ?_;refine rC ?_;refine rQ iE ?_;refine rC ?_;refine zI<|sR ?_;refine rC<|zT<|aP ?_
  exact⟨trivial,[],lf⟩
def befB (a b:HOp):Bool:=if a.era=b.era then decide (0≤a.returned)&&decide (a.returned<b.invoked) else decide (a.era<b.era)
theorem eN (a b:HOp):FnIs Tryz.prog 34 [.d (b8 a),.d (b8 b)] [] (.bool (befB a b)) []:=by
 refine au aa Tryz.func34 rfl rfl rfl ?_
 unfold befB
 refine sR ?_;iterate 2 refine rN ?_
 refine rC<|zW ?_;refine rC ?_;refine rQ iB ?_;refine rC ?_;refine rQ iB ?_;refine rC<|nS ?_
 by_cases h:a.era=b.era
 ·have hd:(!decide (a.era=b.era))=false:=by rw[dT h]; rfl
  rw[if_pos h]
  obtain⟨c,hc⟩:∃c,decide (0≤a.returned)=c:=⟨_,rfl⟩
  rw[hc]
  refine wF<|kS<|sR ?_;refine rC ?_;refine rQ iB ?_;refine zD ?_
  cases c with
  | true =>
   refine rO ?_;refine rC ?_;refine rO ?_;refine rQ iB ?_;refine rO ?_;refine rC ?_;refine rO ?_;refine rQ iB ?_;refine rO ?_;refine rC ?_;refine rQ iT ?_;refine rC<|zT ?_
   exact⟨trivial,[],lf⟩
  | false =>
   iterate 5 refine rS ?_
   refine rQ iF ?_;refine rC<|zT ?_
   exact⟨trivial,[],lf⟩
 ·have hd:(!decide (a.era=b.era))=true:=by rw[dF h]; rfl
  rw[if_neg h]
  refine wT<|sR ?_;refine rC ?_;refine rQ iB ?_;refine rC ?_;refine rQ iB ?_;refine zD<|zT<|aP ?_
  exact⟨trivial,[],lf⟩
theorem uo (a b:HOp) (c1 c2 c3 c4:Bool) (h1:decide (a.era<b.era)=c1) (h2:decide (a.era=b.era)=c2) (h3:decide (-1<a.returned)=c3) (h4:decide (a.returned<b.invoked)=c4):FnIs Tryz.prog 35 [.d (b8 a),.d (b8 b)] [] (.d (i6 (if c1||c2&&c3&&c4 then 1 else 0))) []:=by
 refine au aa Tryz.func35 rfl rfl rfl ?_;refine sR ?_;iterate 2 refine rN ?_
 refine rC<|zW ?_;refine rC ?_;refine rQ iB ?_;refine rC ?_;refine rQ iB ?_;refine zD ?_
 cases c1 with
 | true =>
  iterate 6 refine rS ?_
  iterate 3 refine rU ?_
  iterate 2 refine rS ?_
  iterate 5 refine rU ?_
  refine rS ?_;refine rQ iT ?_;refine zO<|sR ?_;refine rC<|zT<|aP ?_
  exact⟨trivial,[],lf⟩
 | false =>
  refine rO ?_;refine rC ?_;refine rO ?_;refine rQ iB ?_;refine rO ?_;refine rC ?_;refine rO ?_;refine rQ iB ?_;refine rO ?_;refine rC ?_;refine rO ?_;refine rC ?_
  cases c2 with
  | false =>
   iterate 3 refine rS ?_
   refine rO ?_;refine rQ iF ?_;refine rO ?_;refine rC ?_;iterate 5 refine rT ?_
   refine rO ?_;refine rQ iG ?_;refine rQ iF ?_;refine zJ<|kS<|sR ?_;refine rC<|zT ?_
   exact⟨trivial,[],lf⟩
  | true =>
   refine rO ?_;refine rC ?_;refine rO ?_;refine rQ iB ?_;refine rO ?_;refine rC ?_;refine rO ?_;refine rQ iT ?_;refine rO ?_;refine rC ?_
   cases c3 with
   | false =>
    iterate 5 refine rS ?_
    refine rO ?_;iterate 2 refine rQ iF ?_
    refine zJ<|kS<|sR ?_;refine rC<|zT ?_
    exact⟨trivial,[],lf⟩
   | true =>
    refine rO ?_;refine rC ?_;refine rO ?_;refine rQ iB ?_;refine rO ?_;refine rC ?_;refine rO ?_;refine rQ iB ?_;refine rO ?_;refine rC ?_;refine rO ?_;refine rQ iT ?_;refine rQ iF<|nS ?_
    cases c4 with
    | false =>
     refine wF<|kS<|sR ?_;refine rC<|zT ?_
     exact⟨trivial,[],lf⟩
    | true =>
     refine wT<|sR ?_;refine rC<|zT<|aP ?_
     exact⟨trivial,[],lf⟩
theorem mz (a b:HOp):FnIs Tryz.prog 35 [.d (b8 a),.d (b8 b)] [] (.d (i6 (if befB a b then 1 else 0))) []:=by
 have:=uo a b _ _ _ _ rfl rfl rfl rfl
 have e:(decide (a.era<b.era)||decide (a.era=b.era)&&decide (-1<a.returned)&&decide (a.returned<b.invoked))=befB a b:=by
  unfold befB
  have e1:decide (-1<a.returned)=decide (0≤a.returned):=decide_eq_decide.2 (by omega)
  rw[e1]
  by_cases h:a.era=b.era
  ·rw[if_pos h,dT h,dF (by omega:¬a.era<b.era)]; simp
  ·rw[if_neg h,dF h]; simp
 rwa [e]at this
theorem mx (p q:List HOp) (hL:p.length≤1000000000):FnIs Tryz.prog 29 [.d (eu p),.d (eu q)] [] (.d (i6 (if p=q then 1 else 0))) []:=by
 refine au aa Tryz.func29 rfl rfl rfl ?_;refine sR<|rC<|zW ?_;refine rC ?_;refine rQ iE ?_;refine rC ?_;refine rQ iE ?_;refine rC<|nS ?_
 by_cases hlen:p.length=q.length
 ·have hd:(!decide ((p.length:Int)=(q.length:Int)))=false:=by rw[dT (by omega)]; rfl
  refine wF<|kS<|qR ?_;refine rC<|zP ?_
  refine wc_inv (fun i:Nat=>⟨[(5,.int .i64 i),(1,.d (eu q)),(0,.d (eu p))],[],72,Tryz.f29.ntmps,64⟩) (fun i=>i≤p.length∧p.take i=q.take i) (fun i=>p.length-i) 0 [] ⟨Nat.zero_le _,by simp⟩
   (lg zj trivial) ?_
  intro i hi
  obtain⟨hi,hsame⟩:=hi
  refine bG<|qR ?_;refine zD ?_;refine rQ iE ?_;refine rC<|nS ?_
  refine bO rfl (fun h3=>?_) (fun h3=>?_)
  ·have hlt:i<p.length:=by have:=of_decide_eq_true h3; omega
   obtain⟨x,hx⟩:∃x,p[i]?=some x:=⟨_,List.getElem?_eq_getElem hlt⟩
   obtain⟨y,hy⟩:∃y,q[i]?=some y:=⟨_,List.getElem?_eq_getElem (by omega)⟩
   have hx':p[((i:Int)).toNat]?=some x:=by rw[Int.toNat_natCast]; exact hx
   have hy':q[((i:Int)).toNat]?=some y:=by rw[Int.toNat_natCast]; exact hy
   have hreq:=ky x.op y.op
   obtain⟨q7,hq7⟩:∃q:Int,(if x.op=y.op then (1:Int) else 0)=q:=⟨_,rfl⟩
   rw[hq7]at hreq
   have hne:x≠y→¬p=q:=fun h e=>h (by rw[e,hy]at hx; cases hx; rfl)
   refine zQ<|aZ<|bk<|aE (by kernel_rfl) ?_;refine dC [0] [] ?_;refine dC [5] [] ?_;refine dQ [19,20] [] iA ?_;refine dQ [21] [] iL ?_;refine dC [1] [] ?_;refine dC [5] [] ?_;refine dQ [23,24] [] iA ?_;refine dQ [25] [] iL ?_;iterate 2 refine fD [] [] rfl (aw aa (fun K hk=>hk)) ?_
   refine bI [6,22] [168] (aD aa rfl rfl rfl ⟨_,⟨rfl,rfl,rfl⟩,rfl⟩ rfl) ?_;refine bI [7,26] [176] (aD aa rfl rfl rfl ⟨_,⟨rfl,rfl,rfl⟩,rfl⟩ rfl) ?_;refine aB (by kernel_rfl)<|aM<|sR ?_;refine rC ?_;refine rQ iB ?_;refine rC ?_;refine rQ iB ?_;refine zD ?_
   by_cases e0:x.client=y.client
   ·have d0:(!decide (x.client=y.client))=false:=by rw[dT e0]; rfl
    refine rO ?_;refine rC ?_;refine rO ?_;refine rQ iB ?_;refine rO ?_;refine rC ?_;refine rO ?_;refine rQ iB ?_;refine rO ?_;refine rC ?_;refine rQ iF ?_;refine rC ?_
    by_cases e1:x.number=y.number
    ·have d1:(!decide (x.number=y.number))=false:=by rw[dT e1]; rfl
     refine rO ?_;refine rC ?_;refine rO ?_;refine rQ iB ?_;refine rO ?_;refine rC ?_;refine rO ?_;refine rQ iB ?_;refine rO ?_;refine rC ?_;refine rQ iF ?_;refine rC ?_
     by_cases e2:x.era=y.era
     ·have d2:(!decide (x.era=y.era))=false:=by rw[dT e2]; rfl
      refine rO ?_;refine rC ?_;refine rO ?_;refine rQ iB ?_;refine rO ?_;refine rC ?_;refine rO ?_;refine rQ iB ?_;refine rO ?_;refine rC ?_;refine rQ iF ?_;refine rC ?_
      by_cases e3:x.invoked=y.invoked
      ·have d3:(!decide (x.invoked=y.invoked))=false:=by rw[dT e3]; rfl
       refine rO ?_;refine rC ?_;refine rO ?_;refine rQ iB ?_;refine rO ?_;refine rC ?_;refine rO ?_;refine rQ iB ?_;refine rO ?_;refine rC ?_;refine rQ iF ?_;refine rC ?_
       by_cases e4:x.returned=y.returned
       ·have d4:(!decide (x.returned=y.returned))=false:=by rw[dT e4]; rfl
        refine rO ?_;refine rC ?_;refine rO ?_;refine rQ iB ?_;refine rO ?_;refine rC ?_;refine rO ?_;refine rQ iB ?_;refine rO ?_;refine rQ (im rfl rfl rfl rfl (by kernel_rfl) (by decide) (bq x.value y.value)) ?_;refine rQ iF ?_;refine rC ?_
        by_cases e5:x.value=y.value
        ·have d5:(!decide (x.value=y.value))=false:=by rw[dT e5]; rfl
         refine rO ?_;refine rC ?_;refine rO ?_;refine rQ iB ?_;refine rO ?_;refine rC ?_;refine rO ?_;refine rQ iB ?_;refine rO ?_;refine rC ?_;refine rQ iF ?_;refine rC ?_
         by_cases e6:x.err=y.err
         ·have d6:(!decide (x.err=y.err))=false:=by rw[dT e6]; rfl
          refine rO ?_;refine rC ?_;refine rO ?_;refine rQ iB ?_;refine rO ?_;refine rC ?_;refine rO ?_;refine rQ iB ?_;refine rO ?_;refine rQ (ak hreq rfl rfl (aj (aj ab)) (.inl rfl) (fun _=>rfl)) ?_;refine rO ?_;refine rC ?_;refine rQ iF<|nS ?_
          by_cases e7:x.op=y.op
          ·rw[if_pos e7]at hq7
           subst hq7
           have hxy:x=y:=by
            cases x; cases y
            simp only[HOp.mk.injEq]
            exact⟨e0,e1,e2,e7,e3,e4,e5,e6⟩
           refine wG<|aL<|zC<|am ?_;refine rC ?_;refine rQ iD ?_;refine rC<|aA ?_
           exact aN (i+1) [] ⟨hlt,by rw[List.take_add_one,List.take_add_one,hx,hy,hsame,hxy]⟩ (by omega) (lg zj trivial)
          ·rw[if_neg e7]at hq7
           subst hq7
           rw[if_neg (hne fun h=>e7 (by rw[h]))]
           refine wV<|sR ?_;refine rC<|zT<|zB<|ce<|zB ?_
           exact⟨trivial,[],lf⟩
         ·have d6:(!decide (x.err=y.err))=true:=by rw[dF e6]; rfl
          rw[if_neg (hne fun h=>e6 (by rw[h]))]
          iterate 6 refine rS ?_
          refine rQ iT ?_;refine zO<|sR ?_;refine rC<|zT<|zB<|ce<|iH<|aP ?_
          exact⟨trivial,[],lf⟩
        ·have d5:(!decide (x.value=y.value))=true:=by rw[dF e5]; rfl
         rw[if_neg (hne fun h=>e5 (by rw[h]))]
         iterate 5 refine rS ?_
         refine rQ iT ?_;refine rC ?_;iterate 6 refine rT ?_
         refine rQ iU ?_;refine zO<|sR ?_;refine rC<|zT<|zB<|ce<|iH<|aP ?_
         exact⟨trivial,[],lf⟩
       ·have d4:(!decide (x.returned=y.returned))=true:=by rw[dF e4]; rfl
        rw[if_neg (hne fun h=>e4 (by rw[h]))]
        iterate 5 refine rS ?_
        refine rQ iT ?_;refine rC ?_;iterate 5 refine rT ?_
        refine rQ iU ?_;refine rC ?_;iterate 6 refine rT ?_
        refine rQ iU ?_;refine zO<|sR ?_;refine rC<|zT<|zB<|ce<|iH<|aP ?_
        exact⟨trivial,[],lf⟩
      ·have d3:(!decide (x.invoked=y.invoked))=true:=by rw[dF e3]; rfl
       rw[if_neg (hne fun h=>e3 (by rw[h]))]
       iterate 5 refine rS ?_
       refine rQ iT ?_;refine rC ?_;iterate 5 refine rT ?_
       refine rQ iU ?_;refine rC ?_;iterate 5 refine rT ?_
       refine rQ iU ?_;refine rC ?_;iterate 6 refine rT ?_
       refine rQ iU ?_;refine zO<|sR ?_;refine rC<|zT<|zB<|ce<|iH<|aP ?_
       exact⟨trivial,[],lf⟩
     ·have d2:(!decide (x.era=y.era))=true:=by rw[dF e2]; rfl
      rw[if_neg (hne fun h=>e2 (by rw[h]))]
      iterate 5 refine rS ?_
      refine rQ iT ?_;refine rC ?_;iterate 5 refine rT ?_
      refine rQ iU ?_;refine rC ?_;iterate 5 refine rT ?_
      refine rQ iU ?_;refine rC ?_;iterate 5 refine rT ?_
      refine rQ iU ?_;refine rC ?_;iterate 6 refine rT ?_
      refine rQ iU ?_;refine zO<|sR ?_;refine rC<|zT<|zB<|ce<|iH<|aP ?_
      exact⟨trivial,[],lf⟩
    ·have d1:(!decide (x.number=y.number))=true:=by rw[dF e1]; rfl
     rw[if_neg (hne fun h=>e1 (by rw[h]))]
     iterate 5 refine rS ?_
     refine rQ iT ?_;refine rC ?_;iterate 5 refine rT ?_
     refine rQ iU ?_;refine rC ?_;iterate 5 refine rT ?_
     refine rQ iU ?_;refine rC ?_;iterate 5 refine rT ?_
     refine rQ iU ?_;refine rC ?_;iterate 5 refine rT ?_
     refine rQ iU ?_;refine rC ?_;iterate 6 refine rT ?_
     refine rQ iU ?_;refine zO<|sR ?_;refine rC<|zT<|zB<|ce<|iH<|aP ?_
     exact⟨trivial,[],lf⟩
   ·have d0:(!decide (x.client=y.client))=true:=by rw[dF e0]; rfl
    rw[if_neg (hne fun h=>e0 (by rw[h]))]
    iterate 5 refine rS ?_
    refine rQ iT ?_;refine rC ?_;iterate 5 refine rT ?_
    refine rQ iU ?_;refine rC ?_;iterate 5 refine rT ?_
    refine rQ iU ?_;refine rC ?_;iterate 5 refine rT ?_
    refine rQ iU ?_;refine rC ?_;iterate 5 refine rT ?_
    refine rQ iU ?_;refine rC ?_;iterate 5 refine rT ?_
    refine rQ iU ?_;refine rC ?_;iterate 6 refine rT ?_
    refine rQ iU ?_;refine zO<|sR ?_;refine rC<|zT<|zB<|ce<|iH<|aP ?_
    exact⟨trivial,[],lf⟩
  ·have he:i=p.length:=by have:=of_decide_eq_false h3; omega
   subst he
   rw[if_pos (by rw[List.take_length]at hsame; rw[hsame,hlen,List.take_length])]
   refine zX<|sR<|rC<|zT ?_
   exact⟨trivial,[],lf⟩
 ·have hd:(!decide ((p.length:Int)=(q.length:Int)))=true:=by rw[dF (by omega)]; rfl
  rw[if_neg (fun e=>hlen (by rw[e]))]
  refine wT<|sR ?_;refine rC<|zT<|aP ?_
  exact⟨trivial,[],lf⟩
theorem zY (n:Int) (xs:List Int) (hL:xs.length≤1000000000):FnIs Tryz.prog 68 [.d (.arr 1 i6 xs),.int .i64 n] [] (.int .i64 (idxF (fun y=>decide (n=y)) xs)) []:=by
 refine au aa Tryz.func68 rfl rfl rfl ?_;refine sR<|rC<|zW ?_;refine rC ?_;refine rQ iE ?_;refine rC<|zP ?_
 refine wc_inv (fun i:Nat=>⟨[(8,.int .i64 i),(7,.int .i64 xs.length),(1,.int .i64 n),(0,.d (.arr 1 i6 xs))],[],72,Tryz.f68.ntmps,64⟩) (fun i=>i≤xs.length∧∀j,j<i→∀y,xs[j]?=some y→decide (n=y)=false) (fun i=>xs.length-i) 0 [] ⟨Nat.zero_le _,fun j hj=>absurd hj (Nat.not_lt_zero _)⟩
  (lg zi trivial) ?_
 rintro i ⟨hi,hno⟩
 refine bG<|sR ?_;refine rC<|nQ ?_
 refine bO rfl (fun h2=>?_) (fun h2=>?_)
 ·have hlt:i<xs.length:=by have:=of_decide_eq_true h2; omega
  obtain⟨x,hx⟩:∃u,xs[i]?=some u:=⟨_,List.getElem?_eq_getElem hlt⟩
  have hx':xs[((i:Int)).toNat]?=some x:=by rw[Int.toNat_natCast]; exact hx
  cases hp:decide (n=x) with
  | true =>
   refine zQ<|zS<|zD<|nR ?_;refine zU ?_;refine rQ (aF aa rfl rfl rfl rfl rfl (by omega) hx') ?_;refine rQ iL ?_;refine rC ?_;refine zI<|sR ?_;refine zD<|zT<|zB<|ce<|zB ?_
   exact⟨trivial,[],lg ⟨⟨_,rfl,AVLe.of_eq (by rw[kH (p:=fun y=>decide (n=y)) hx hp hno]; rfl)⟩,rfl,trivial⟩ trivial⟩
  | false =>
   refine zQ<|zS<|zD<|nR ?_;refine zU ?_;refine rQ (aF aa rfl rfl rfl rfl rfl (by omega) hx') ?_;refine rQ iL ?_;refine rC ?_;refine zG<|aL<|zC ?_
   refine am<|rQ iD ?_;refine rC<|aA ?_;refine aN (i+1) [] ⟨hlt,fun j hj y hy=>?_⟩ (by omega) ?_
   ·by_cases e:j=i
    ·subst e
     rw[hx]at hy
     cases hy
     exact hp
    ·exact hno j (by omega) y hy
   ·exact lg zi trivial
 ·have he:i=xs.length:=by have:=of_decide_eq_false h2; omega
  refine zX<|sR<|rC<|zT ?_
  exact⟨trivial,[],lg ⟨⟨_,rfl,AVLe.of_eq (by
   rw[kI (p:=fun y=>decide (n=y)) fun j y hy=>hno j (by have:=(List.getElem?_eq_some_iff.1 hy).1; omega) y hy]
   rfl)⟩,rfl,trivial⟩ trivial⟩
theorem o5 (n:Int) (xs:List Int) (hL:xs.length≤1000000000):FnIs Tryz.prog 44 [.d (.arr 1 i6 xs),.int .i64 n] [] (.bool (xs.any fun y=>decide (n=y))) []:=by
 refine au aa Tryz.func44 rfl rfl rfl ?_;refine sR<|rC<|nR ?_;refine zD ?_;refine rQ (ak (zY n xs hL) rfl rfl (aj (aj ab)) (.inl rfl) (fun _=>rfl)) ?_;refine zD<|zT ?_
 exact⟨trivial,[],lg ⟨⟨_,rfl,AVLe.of_eq (by rw[←mV]; rfl)⟩,rfl,trivial⟩ trivial⟩
theorem oL (x:HEv) (hlen:x.op.data.length≤1048576):FnIs Tryz.prog 20 [.d (aY x)] [] (.d (aY x)) []:=by
 refine au aa Tryz.func20 rfl rfl rfl ?_;refine sR ?_;iterate 2 refine rN ?_
 refine nR<|zD ?_;refine rQ iB ?_;refine rQ (ak (wU x.op.data hlen) rfl rfl (aj ab) (.inl rfl) (fun _=>rfl)) ?_;refine zD ?_;refine bg (aD aa rfl rfl rfl ⟨_,⟨_,⟨_,⟨_,⟨rfl,rfl,rfl⟩,rfl⟩,rfl⟩,rfl⟩,rfl⟩ rfl)<|nR ?_;refine rQ iM ?_;refine rW<|nS<|bR ?_
 exact⟨trivial,_,rfl,[],lf⟩
end Go.Proofs.YtpjiiolnfbfcbaaGreatDoor
namespace Go.Proofs.YtpjiiolnfbfcbaaGreatDoor
open Go.Eng Go.Plain
set_option maxHeartbeats 32000000
set_option maxRecDepth 20000
structure RdS where
 busy:List Int
 number:List Int
 era:Int
 read:Int
 all:List HOp
def cu:List Int:=[0,0,0,0,0,0,0,0]
def rd0:RdS:=⟨cu,cu,0,0,[]⟩
def kn4 (e:Int):Bool:=decide (e=0)||decide (e=1)||decide (e=8)||decide (e=9)
def inv1 (s:RdS) (x:HEv):Bool:=decide (0≤x.client)&&decide (x.client<8)&&decide (s.busy[x.client.toNat]?=some 0)&&decide (x.op.data.length≤64)&&decide (x.value=zBk)&&decide (x.err=0)
def opOf (s:RdS) (x:HEv):Option HOp:=match s.busy[x.client.toNat]? with
 | some b=>s.all[(b-1).toNat]?
 | none=>none
def ret1 (s:RdS) (x:HEv):Bool:=decide (0≤x.client)&&decide (x.client<8) && !decide (s.busy[x.client.toNat]?=some 0)&&decide (x.op=zOp)&&kn4 x.err&&(decide (x.value=zBk)||(match opOf s x with | some o=>decide (o.op.kind=1)&&decide (x.err=0) | none=>false))
def gX (x:HEv):Bool:=decide (x.client=0)&&decide (x.op=zOp)&&decide (x.value=zBk)&&decide (x.err=0)
def ba (s:RdS) (x:HEv):RdS×Bool :=
 let c:=x.client.toNat
 if x.kind=1 then
  if inv1 s x then (⟨s.busy.set c (s.all.length+1),s.number.set c ((s.number[c]?.getD 0)+1),s.era,s.read+1,s.all++[⟨x.client,s.number[c]?.getD 0,s.era,x.op,s.read,-1,zBk,0⟩]⟩,true)
  else ({ s with read:=s.read+1 },false)
 else if x.kind=2 then
  if ret1 s x then (⟨s.busy.set c 0,s.number,s.era,s.read+1,match opOf s x with | some o=>s.all.set ((s.busy[c]?.getD 0)-1).toNat { o with returned:=s.read,value:=x.value,err:=x.err } | none=>s.all⟩,true)
  else ({ s with read:=s.read+1 },false)
 else if x.kind=3 then (⟨cu,s.number,s.era+1,s.read+1,s.all⟩,gX x)
 else ({ s with read:=s.read+1 },false)
structure RdS.Ok (s:RdS) (n:Nat):Prop where
 blen:s.busy.length=8
 nlen:s.number.length=8
 busy:∀b∈s.busy,0≤b∧b≤s.all.length
 number:∀b∈s.number,0≤b∧b≤n
 era:0≤s.era∧s.era≤n
 read:s.read=n
 all:s.all.length≤n
theorem gL:rd0.Ok 0:=⟨rfl,rfl,by decide,by decide,by decide,rfl,by decide⟩
theorem RdS.Ok.next {s:RdS} {n:Nat} (h:s.Ok n) (x:HEv):(ba s x).1.Ok (n+1):=by
 have mset:∀ {l:List Int} {c:Nat} {v b:Int},b∈l.set c v→b=v∨b∈l:=fun hb=>by
  rcases List.mem_or_eq_of_mem_set hb with h | h
  ·exact .inr h
  ·exact .inl h
 have hnum:∀c:Nat,0≤s.number[c]?.getD 0∧s.number[c]?.getD 0≤n:=fun c=>by
  cases hc:s.number[c]? with
  | none=>simp
  | some b=>exact h.number b (List.mem_of_getElem? hc)
 have hbase:({ s with read:=s.read+1 }:RdS).Ok (n+1):=⟨h.blen,h.nlen,h.busy,fun b hb=>by have:=h.number b hb; omega,by have:=h.era; constructor <;> simp only <;> omega,by have:=h.read; simp only; omega,by have:=h.all; simp only; omega⟩
 have h1:=h.era
 have h2:=h.read
 have h3:=h.all
 unfold ba
 simp only
 by_cases k1:x.kind=1
 ·rw[if_pos k1]
  cases hi:inv1 s x with
  | false=>simpa using hbase
  | true =>
   simp only[if_pos]
   refine⟨by simp[h.blen],by simp[h.nlen],fun b hb=>?_,fun b hb=>?_,by constructor <;> simp only <;> omega,by simp only; omega,by simp; omega⟩
   ·rcases mset hb with rfl | hb
    ·constructor
     ·omega
     ·simp
    ·have:=h.busy b hb
     simp; omega
   ·rcases mset hb with rfl | hb
    ·have:=hnum x.client.toNat
     omega
    ·have:=h.number b hb; omega
 ·rw[if_neg k1]
  by_cases k2:x.kind=2
  ·rw[if_pos k2]
   cases hi:ret1 s x with
   | false=>simpa using hbase
   | true =>
    simp only[if_pos]
    have hl:(match opOf s x with | some o=>s.all.set ((s.busy[x.client.toNat]?.getD 0)-1).toNat { o with returned:=s.read,value:=x.value,err:=x.err } | none=>s.all).length=s.all.length:=by
     cases opOf s x <;> simp
    refine⟨by simp[h.blen],h.nlen,fun b hb=>?_,fun b hb=>by have:=h.number b hb; omega,by constructor <;> simp only <;> omega,by simp only; omega,by simp only[hl]; omega⟩
    simp only[hl]
    rcases mset hb with rfl | hb
    ·omega
    ·exact h.busy b hb
  ·rw[if_neg k2]
   by_cases k3:x.kind=3
   ·rw[if_pos k3]
    refine⟨rfl,h.nlen,fun b hb=>?_,fun b hb=>by have:=h.number b hb; omega,by constructor <;> simp only <;> omega,by simp only; omega,by simp only; omega⟩
    have:b=0:=by simpa[cu]using hb
    simp only
    omega
   ·rw[if_neg k3]; exact hbase
end Go.Proofs.YtpjiiolnfbfcbaaGreatDoor
namespace Go.Proofs.YtpjiiolnfbfcbaaGreatDoor
open Go.Eng Go.Plain
set_option maxHeartbeats 32000000
set_option maxRecDepth 20000
attribute [local irreducible] WC RegS RegD SeqQ BlkQ ScoQ RegK CutK Sat SatN FnIs LoopQ an OpIs
abbrev cP (s:RdS) (r:Nat):Row :=.box 68 (.acons (.d (.vec 8 1 i6 s.busy)) (.acons (.d (.vec 8 1 i6 s.number)) (.acons (.d (i6 s.era)) (.acons (.d (i6 s.read)) (.acons (.own r 0 s.all.length 41 none) .anil)))))
abbrev dA (l:List HOp):Row :=.ds 43 41 false b8 l
abbrev g7 (s:RdS) (x:HEv) (s':RdS) (b:Bool):Prop:=FnIs Tryz.prog 17 [.ptr 0 [],.d (aY x)] [(0,cP s 1),(1,dA s.all)] (.bool b) [(0,cP s' 64),(64,dA s'.all)]
theorem q6 (s:RdS) (x:HEv) (n:Nat) (hs:s.Ok n) (hn:n≤1000000) (k1:x.kind≠1) (k2:x.kind≠2) (k3:x.kind≠3) (c0:Bool) (h0:decide (0≤x.client)=c0):g7 s x { s with read:=s.read+1 } false:=by
 have hr:=hs.read
 have d1:decide (x.kind=1)=false:=dF k1
 have d2:decide (x.kind=2)=false:=dF k2
 have d3:decide (x.kind=3)=false:=dF k3
 have hw:IntKind.i64.wrap (s.read+1)=s.read+1:=aO (by omega) (by omega)
 refine au aa Tryz.func17 rfl rfl rfl ?_;refine sR<|rN ?_;refine rC<|nR ?_;refine zU ?_;refine rQ iM ?_;refine rC<|nR ?_;refine zU ?_;refine rQ iM ?_;refine rQ iD ?_;refine zD ?_;refine bg (aD aa rfl rfl rfl ⟨_,⟨_,⟨rfl,rfl,rfl⟩,rfl⟩,rfl⟩ rfl)<|nR ?_;refine rC ?_;refine rQ iB ?_;refine zD ?_
 cases c0 with
 | false =>
  iterate 3 refine rS ?_
  refine rQ iF ?_;refine rC<|nR ?_;refine rC ?_;refine rQ iB ?_;refine rQ (aV aa rfl rfl rfl) ?_;refine rQ (bD rfl rfl rfl rfl (by kernel_rfl) (by decide) (bq x.value zBk)) ?_;refine rC<|nQ<|zS ?_;refine rC ?_;refine rQ iB ?_;refine zD ?_;refine zG<|sR ?_;refine rC ?_;refine rQ iB ?_;refine zD ?_;refine zG<|sR ?_;refine rC ?_;refine rQ iB ?_;refine zD ?_;refine zG<|sR ?_;refine rC<|zT<|zB ?_
  exact⟨trivial,[(64,some 1)],lg zV ⟨zR,zR,trivial⟩⟩
 | true =>
  refine rO ?_;refine rC ?_;refine rO ?_;refine rQ iB ?_;refine rO ?_;refine rC ?_;refine rQ iT ?_;refine rC<|nR ?_;refine rC ?_;refine rQ iB ?_;refine rQ (aV aa rfl rfl rfl) ?_;refine rQ (bD rfl rfl rfl rfl (by kernel_rfl) (by decide) (bq x.value zBk)) ?_;refine rC<|nQ<|zS ?_;refine rC ?_;refine rQ iB ?_;refine zD ?_;refine zG<|sR ?_;refine rC ?_;refine rQ iB ?_;refine zD ?_;refine zG<|sR ?_;refine rC ?_;refine rQ iB ?_;refine zD ?_;refine zG<|sR ?_;refine rC<|zT<|zB ?_
  exact⟨trivial,[(64,some 1)],lg zV ⟨zR,zR,trivial⟩⟩
theorem ra (s:RdS) (x:HEv) (n:Nat) (hs:s.Ok n) (hn:n≤1000000) (k3:x.kind=3) (c0 c1 c2 c3:Bool) (h0:decide (0≤x.client)=c0) (h1:decide (x.client=0)=c1) (h2:decide (x.op=zOp)=c2) (h3:decide (x.value=zBk)=c3):g7 s x ⟨cu,s.number,s.era+1,s.read+1,s.all⟩ (c1&&c2&&c3&&decide (x.err=0)):=by
 have hr:=hs.read
 have he:=hs.era
 have d1:decide (x.kind=1)=false:=dF (by omega)
 have d2:decide (x.kind=2)=false:=dF (by omega)
 have d3:decide (x.kind=3)=true:=dT k3
 have hw:IntKind.i64.wrap (s.read+1)=s.read+1:=aO (by omega) (by omega)
 have hw2:IntKind.i64.wrap (s.era+1)=s.era+1:=aO (by omega) (by omega)
 refine au aa Tryz.func17 rfl rfl rfl ?_;refine sR<|rN ?_;refine rC<|nR ?_;refine zU ?_;refine rQ iM ?_;refine rC<|nR ?_;refine zU ?_;refine rQ iM ?_;refine rQ iD ?_;refine zD ?_;refine bg (aD aa rfl rfl rfl ⟨_,⟨_,⟨rfl,rfl,rfl⟩,rfl⟩,rfl⟩ rfl)<|nR ?_;refine rC ?_;refine rQ iB ?_;refine zD ?_
 cases c0 with
 | false =>
  have e1:c1=false:=by rw[←h1]; exact dF (by have:=of_decide_eq_false h0; omega)
  subst e1
  iterate 3 refine rS ?_
  refine rQ iF ?_;refine rC<|nR ?_;refine rC ?_;refine rQ iB ?_;refine rQ (aV aa rfl rfl rfl) ?_;refine rQ (bD rfl rfl rfl rfl (by kernel_rfl) (by decide) (bq x.value zBk)) ?_;refine rC<|nQ<|zS ?_;refine rC ?_;refine rQ iB ?_;refine zD ?_;refine zG<|sR ?_;refine rC ?_;refine rQ iB ?_;refine zD ?_;refine zG<|sR ?_;refine rC ?_;refine rQ iB ?_;refine zD ?_;refine zI<|sR ?_;refine zU ?_;refine rQ (iV aa rfl rfl rfl) ?_;refine bB rfl (jq (enc:=i6) (s:=1) (L:=8) aa (0:Int) rfl rfl rfl rfl rfl rfl rfl rfl ⟨_,⟨_,⟨rfl,rfl,rfl⟩,rfl⟩,rfl⟩) rfl rfl<|nR ?_;refine zU ?_;refine rQ iM ?_;refine rQ iD ?_;refine zD ?_;refine bg (aD aa rfl rfl rfl ⟨_,⟨_,⟨rfl,rfl,rfl⟩,rfl⟩,rfl⟩ rfl)<|nR ?_;refine rC ?_;refine rQ iB ?_;refine zD ?_
  iterate 3 refine rS ?_
  refine rQ iF ?_;refine rC ?_;refine rT ?_;refine rQ iG ?_;refine rC ?_;iterate 3 refine rT ?_
  refine rQ iG ?_;refine rC<|zT<|zB ?_
  exact⟨trivial,[(64,some 1)],lg zV ⟨zR,zR,trivial⟩⟩
 | true =>
  refine rO ?_;refine rC ?_;refine rO ?_;refine rQ iB ?_;refine rO ?_;refine rC ?_;refine rQ iT ?_;refine rC<|nR ?_;refine rC ?_;refine rQ iB ?_;refine rQ (aV aa rfl rfl rfl) ?_;refine rQ (bD rfl rfl rfl rfl (by kernel_rfl) (by decide) (bq x.value zBk)) ?_;refine rC<|nQ<|zS ?_;refine rC ?_;refine rQ iB ?_;refine zD ?_;refine zG<|sR ?_;refine rC ?_;refine rQ iB ?_;refine zD ?_;refine zG<|sR ?_;refine rC ?_;refine rQ iB ?_;refine zD ?_;refine zI<|sR ?_;refine zU ?_;refine rQ (iV aa rfl rfl rfl) ?_;refine bB rfl (jq (enc:=i6) (s:=1) (L:=8) aa (0:Int) rfl rfl rfl rfl rfl rfl rfl rfl ⟨_,⟨_,⟨rfl,rfl,rfl⟩,rfl⟩,rfl⟩) rfl rfl<|nR ?_;refine zU ?_;refine rQ iM ?_;refine rQ iD ?_;refine zD ?_;refine bg (aD aa rfl rfl rfl ⟨_,⟨_,⟨rfl,rfl,rfl⟩,rfl⟩,rfl⟩ rfl)<|nR ?_;refine rC ?_;refine rQ iB ?_;refine zD ?_
  cases c1 with
  | false =>
   iterate 3 refine rS ?_
   refine rQ iF ?_;refine rC ?_;refine rT ?_;refine rQ iG ?_;refine rC ?_;iterate 3 refine rT ?_
   refine rQ iG ?_;refine rC<|zT<|zB ?_
   exact⟨trivial,[(64,some 1)],lg zV ⟨zR,zR,trivial⟩⟩
  | true =>
   refine rO ?_;refine rC ?_;refine rO ?_;refine rQ iB ?_;refine rO ?_;refine rQ (ak (gx x.op) rfl rfl (aj ab) (.inl rfl) (fun _=>rfl)) ?_;refine rQ iT ?_;refine rC ?_
   cases c2 with
   | false =>
    refine rS ?_;refine rQ iF ?_;refine rC ?_;iterate 3 refine rT ?_
    refine rQ iG ?_;refine rC<|zT<|zB ?_
    exact⟨trivial,[(64,some 1)],lg zV ⟨zR,zR,trivial⟩⟩
   | true =>
    refine rO ?_;refine rC ?_;refine rQ iT ?_;refine rC ?_
    cases c3 with
    | false =>
     iterate 3 refine rS ?_
     refine rQ iF ?_;refine rC<|zT<|zB ?_
     exact⟨trivial,[(64,some 1)],lg zV ⟨zR,zR,trivial⟩⟩
    | true =>
     refine rO ?_;refine rC ?_;refine rO ?_;refine rQ iB ?_;refine rO ?_;refine rC ?_;refine rQ iT ?_;refine rC<|zT<|zB ?_
     exact⟨trivial,[(64,some 1)],lg zV ⟨zR,zR,trivial⟩⟩
end Go.Proofs.YtpjiiolnfbfcbaaGreatDoor
