/- Texts of the proof: P11, Eng75, P12, Eng76, P13, P1, P2, P8, Eng77, P14, PX, P15, P16, P17, P18, P21, P22, P23, HDat, P24, P19, P20, P25, P26, P27, P28, PY, P29, P30, Eng78, P31, P32, P33, P34, PZ, P35, P36, P37, P42, Eng80, Eng81, Eng82, P43, PM, PN, P40, P41, PV0, P44, Eng86, Eng83, Eng84, Eng85, H1, H2, H3, H4, H5, HR, H6, H7, H8. -/
import Derived.Test.YtjfkhlamjdbfkaaGreatDoorG03
import Derived.Test.YtjfkhlamjdbfkaaGreatDoorG02
import Derived.Sort.Row
import Derived.Sort.Grow
import Derived.Lib.SlicesCompact

set_option linter.unusedVariables false
set_option linter.unusedSimpArgs false
set_option linter.unusedSectionVars false
set_option maxRecDepth 10000

namespace Go.Proofs.YtjfkhlamjdbfkaaGreatDoor
open Go.Eng Go.Plain
set_option maxHeartbeats 32000000
set_option maxRecDepth 20000
attribute [local irreducible] WC RegS RegD SeqQ BlkQ ScoQ RegK CutK Sat SatN FnIs LoopQ aq OpIs
theorem jR (ls:List (List (List UInt8))) (m:List (List UInt8)) (he:ls.flatten=m) (hp:0<m.length) (hL:m.length≤1048576) (hn:ls.length≤1000000):FnIs Tryz.prog 84 [.d (.arr 1 kk ls)] [] (.d (.arr 1 strD m)) []:=by
 have:=sI ls (by rw[he]; exact hp) (by rw[he]; exact hL) hn
 rw[he]at this
 exact this.freeze_out 64 _ rfl (Frz.own rfl) trivial
theorem pU (w:List (List UInt8)) (hw:∀x∈w,x.length≤1048576) (hl:w.length≤1048573):FnIs Tryz.prog 82 [.d (.arr 1 strD w)] [] (opR (opW ([49]::(w++[[45]]))).1 (opW ([49]::(w++[[45]]))).2) []:=by
 have hc:=jR [[[49]],w,[[45]]] ([49]::(w++[[45]])) (by simp) (by simp) (by simp; omega) (by simp)
 have ho:=eG ([49]::(w++[[45]])) (by
  intro x hx
  rcases List.mem_cons.1 hx with rfl | hx
  ·decide
  ·rcases List.mem_append.1 hx with hx | hx
   ·exact hw x hx
   ·rw[List.mem_singleton.1 hx]; decide)
 refine aw aa Tryz.func82 rfl rfl rfl ?_;refine sR<|rN ?_;refine rC<|nR ?_;refine aG (aD (s:=1) aa rfl rfl rfl rfl rfl rfl rfl rfl) rfl ?_;refine rC ?_;refine aG (aD (s:=1) aa rfl rfl rfl rfl rfl rfl rfl rfl) rfl ?_;refine bE (env':=[(4,_),(2,_),(5,_),(6,_)]) (h':=[(64,some _),(96,some _)]) 80 _ rfl ⟨⟨_,rfl,Frz.lits1 (enc:=strD) [49] rfl rfl⟩,zE,zE,zE,trivial⟩ ⟨⟨rfl,_,rfl,.refl _⟩,⟨rfl,_,rfl,.refl _⟩,trivial⟩ ?_;refine bE (env':=[(6,_),(2,_),(4,_),(5,_)]) (h':=[(64,some _)]) 96 _ rfl ⟨⟨_,rfl,Frz.lits1 (enc:=strD) [45] rfl rfl⟩,zE,zE,zE,trivial⟩ ⟨⟨rfl,_,rfl,.refl _⟩,trivial⟩ ?_;refine aG (aD (s:=1) aa rfl rfl rfl rfl rfl rfl rfl rfl) rfl ?_;refine bE (env':=[(7,_),(2,_)]) (h':=[(64,some _)]) 104 _ rfl ⟨⟨_,rfl,Frz.litsN (t:=73) (s:=1) (m:=3) (ex:=true) (enc:=kk) [[[49]],w,[[45]]] rfl (fun _ _=>rfl)⟩,zE,trivial⟩ ⟨⟨rfl,_,rfl,.refl _⟩,trivial⟩ ?_;refine rQ (am hc rfl rfl (aj ab) (.inl rfl) (fun _=>rfl)) ?_;refine rQ (am ho rfl rfl (aj ab) (.inl rfl) (fun _=>rfl)) ?_;refine zD ?_;refine rW ?_;refine rC<|zT ?_
 exact⟨trivial,_,rfl,[],lf⟩
theorem pT (w:List (List UInt8)) (hw:∀x∈w,x.length≤1048576) (hl:w.length≤1048573):FnIs Tryz.prog 85 [.d (.arr 1 strD w)] [] (opR (opW ([50]::w)).1 (opW ([50]::w)).2) []:=by
 have hc:=jR [[[50]],w] ([50]::w) (by simp) (by simp) (by simp; omega) (by simp)
 have ho:=eG ([50]::w) (by
  intro x hx
  simp only[List.mem_cons]at hx
  rcases hx with rfl | hx
  ·decide
  ·exact hw x hx)
 refine aw aa Tryz.func85 rfl rfl rfl ?_;refine sR<|rN ?_;refine rC<|nR ?_;refine aG (aD (s:=1) aa rfl rfl rfl rfl rfl rfl rfl rfl) rfl ?_;refine rC ?_;refine bE (env':=[(4,_),(2,_),(5,_)]) (h':=[(64,some _)]) 80 _ rfl ⟨⟨_,rfl,Frz.lits1 (enc:=strD) [50] rfl rfl⟩,zE,zE,trivial⟩ ⟨⟨rfl,_,rfl,.refl _⟩,trivial⟩ ?_;refine aG (aD (s:=1) aa rfl rfl rfl rfl rfl rfl rfl rfl) rfl ?_;refine bE (env':=[(6,_),(2,_)]) (h':=[(64,some _)]) 96 _ rfl ⟨⟨_,rfl,Frz.lits2 (enc:=kk) [[50]] w rfl rfl rfl rfl⟩,zE,trivial⟩ ⟨⟨rfl,_,rfl,.refl _⟩,trivial⟩ ?_;refine rQ (am hc rfl rfl (aj ab) (.inl rfl) (fun _=>rfl)) ?_;refine rQ (am ho rfl rfl (aj ab) (.inl rfl) (fun _=>rfl)) ?_;refine zD ?_;refine rW ?_;refine rC<|zT ?_
 exact⟨trivial,_,rfl,[],lf⟩
theorem pS (w:List (List UInt8)) (hw:∀x∈w,x.length≤1048576) (hl:w.length≤1048573):FnIs Tryz.prog 86 [.d (.arr 1 strD w)] [] (opR (opW ([51]::[48]::[45]::w)).1 (opW ([51]::[48]::[45]::w)).2) []:=by
 have hc:=jR [[[51],[48],[45]],w] ([51]::[48]::[45]::w) (by simp) (by simp) (by simp; omega) (by simp)
 have ho:=eG ([51]::[48]::[45]::w) (by
  intro x hx
  simp only[List.mem_cons]at hx
  rcases hx with rfl | rfl | rfl | hx
  ·decide
  ·decide
  ·decide
  ·exact hw x hx)
 refine aw aa Tryz.func86 rfl rfl rfl ?_;refine sR<|rN ?_;refine rC<|nR ?_;refine aG (aD (s:=1) aa rfl rfl rfl rfl rfl rfl rfl rfl) rfl ?_;refine rC ?_;refine bE (env':=[(4,_),(2,_),(5,_)]) (h':=[(64,some _)]) 80 _ rfl ⟨⟨_,rfl,Frz.litsN (t:=9) (s:=1) (m:=3) (ex:=true) (enc:=strD) [[51],[48],[45]] rfl (fun _ _=>rfl)⟩,zE,zE,trivial⟩ ⟨⟨rfl,_,rfl,.refl _⟩,trivial⟩ ?_;refine aG (aD (s:=1) aa rfl rfl rfl rfl rfl rfl rfl rfl) rfl ?_;refine bE (env':=[(6,_),(2,_)]) (h':=[(64,some _)]) 96 _ rfl ⟨⟨_,rfl,Frz.lits2 (enc:=kk) [[51],[48],[45]] w rfl rfl rfl rfl⟩,zE,trivial⟩ ⟨⟨rfl,_,rfl,.refl _⟩,trivial⟩ ?_;refine rQ (am hc rfl rfl (aj ab) (.inl rfl) (fun _=>rfl)) ?_;refine rQ (am ho rfl rfl (aj ab) (.inl rfl) (fun _=>rfl)) ?_;refine zD ?_;refine rW ?_;refine rC<|zT ?_
 exact⟨trivial,_,rfl,[],lf⟩
end Go.Proofs.YtjfkhlamjdbfkaaGreatDoor
namespace Go.Eng
open Go.RowKit
section
variable {P : Program} {T : Tab} {env : Env} {h : Upds} {n : Nat}
theorem cW {t kt et:TypeId} {κ:Type} [DecidableEq κ] {enc:κ→D} {m r:Nat} {x y z:Operand} {k:κ} {l:List (κ×AV)} {v:AV} (K:fk P kt enc m) (ht:P.underlying t=some (.map kt et))
  (hx:au env x=some (.mapr r)) (hy:au env y=some (.d (enc k))) (hz:au env z=some v) (hr:bd h r=some (.mo (mapC enc l))) (hf:cY k l 0=none) :
  aq P (.insert t x y z) env h n none [(r,some (.mo (mapC enc (l++[(k,v)]))))]:=.of_comes fun C G st σ w a o ho hA hd hst hn=>by
 have h1:=(an hst (hA.ev hx)).1
 have h2:=(an hst (hA.ev hy)).1
 obtain⟨h3,h4⟩:=an hst (hA.ev hz)
 have hrow:=hA.row _ _ hr
 obtain⟨b,c,hs,hux⟩:=RelV.mapr.1 h1
 obtain⟨b',es,hb1,hb2,hb3,hb4⟩:=hst.rows r _ hrow
 rw[hs]at hb2
 cases hb2
 have hl:=(cv l _).1 hb4
 have hin:(mapC enc l).within G:=(hst.rowsG r _ hrow).2
 have hfd:=K.found h2 hl
 rw[hf]at hfd
 have hst':=hst.writeObj (o' :=.map (es.push { key:=a.eval y,val:=a.eval z,born:=es.size }) (es.size+1)) (row :=.mo (mapC enc (l++[(k,v)]))) hrow hs hb3 rfl
  ((cV _).2 fun p hp=>by
   rcases List.mem_append.1 hp with hp | hp
   ·exact (cV l).1 hin p hp
   ·rw[List.mem_singleton.1 hp]; exact h4)
  (fun w' ht' hh'=>⟨b,es.push { key:=a.eval y,val:=a.eval z,born:=es.size },fun i e he=>by
   rw[Array.getElem?_push]at he
   split at he
   ·rename_i hi; subst hi; cases he; rfl
   ·exact hb1 i e he,hs,by rw[Array.size_push]; exact hh',(cv _ _).2 (by
    rw[Array.toList_push]
    exact cd.snoc (RelV.carry (G:=G) ht' trivial h2) (RelV.carry (G:=G) ht' h4 h3) l _ (cd.mono ht' hin hl))⟩)
 refine⟨none,_,.skip,undef, { w with heap:=w.heap.setIfInBounds b (.map (es.push { key:=a.eval y,val:=a.eval z,born:=es.size }) (es.size+1)) },σ,G,⟨rfl,rfl⟩,?_,.inr ⟨rfl,rfl⟩,?_,fun _ h=>h,fun _ h=>.inl h⟩
 ·have hget:(getObj b).run P w=.ok (.map es es.size) w:=by simp[getObj,Sem.run,hb3]
  have hset:=pE P w b (.map (es.push { key:=a.eval y,val:=a.eval z,born:=es.size }) (es.size+1)) hb3
  simp only[execOp,ho,Instr.mapUpdate,hux,Sem.run_bind,run_underlying ht,hget,Result.andThen_ok,K.check h2,hfd,hset,Sem.run_pure]
 ·rw[St.put_upd]
  exact hst'.set hd (v:=none) (fq _ _ _) trivial
end
end Go.Eng
namespace Go.Proofs.YtjfkhlamjdbfkaaGreatDoor
open Go.Eng Go.Plain
set_option maxHeartbeats 32000000
set_option maxRecDepth 20000
attribute [local irreducible] WC RegS RegD SeqQ BlkQ ScoQ RegK CutK Sat SatN FnIs LoopQ aq OpIs
abbrev fnA (f:Nat):AV :=.fn (.func f) .anil .anil
def bZ:List (List UInt8×AV):=[(eC,fnA 82),(cB,fnA 85),(dX,fnA 86),(sOp,fnA 83)]
theorem da:fk Tryz.prog 9 (fun l:List UInt8=>strD l) 1:=ny Tryz.underlying9
theorem pR:FnIs Tryz.prog 60 [] [] (.mapr 64) [(64,.mo (mapC strD bZ))]:=by
 refine aw aa Tryz.func60 rfl rfl rfl ?_;refine sR<|rC<|nR ?_;refine aG (oD) rfl ?_;refine bh rfl (cW (κ:=List UInt8) (enc:=strD) (l:=bZ.take 0) (k:=eC) da Tryz.underlying124 rfl rfl rfl rfl rfl) rfl rfl ?_;refine bh rfl (cW (κ:=List UInt8) (enc:=strD) (l:=bZ.take 1) (k:=cB) da Tryz.underlying124 rfl rfl rfl rfl rfl) rfl rfl ?_;refine bh rfl (cW (κ:=List UInt8) (enc:=strD) (l:=bZ.take 2) (k:=dX) da Tryz.underlying124 rfl rfl rfl rfl rfl) rfl rfl ?_;refine bh rfl (cW (κ:=List UInt8) (enc:=strD) (l:=bZ.take 3) (k:=sOp) da Tryz.underlying124 rfl rfl rfl rfl rfl) rfl rfl ?_;refine zD<|zT ?_
 exact⟨trivial,[(64,some 72)],lg zV ⟨zR,trivial⟩⟩
end Go.Proofs.YtjfkhlamjdbfkaaGreatDoor
namespace Go.Eng
open Go.RowKit
section
variable {P : Program} {T : Tab} {env : Env} {h : Upds} {n : Nat}
theorem gk (hT:ao P T) {t e:Nat} {re:TyR} {x i j:Operand} {α:Type} {s:Nat} {enc:α→D} {xs:List α} {k k':IntKind} (ht:aW T t=some (.slice e)) (he:lk T e=some re)
  (hx:au env x=some (.d (.arr s enc xs))) (hi:au env i=some (.int k xs.length)) (hj:au env j=some (.int k' xs.length)):aq P (.slice t x none (some i) (some j)) env h n (some (.d (.arx s enc xs))) []:=.of_comes fun C G st σ w a o ho hA hdst hst hn=>by
 obtain⟨ud,hud,hdd⟩:=aQ hT ht
 cases hdd
 obtain⟨hx1,_⟩:=an hst (hA.ev hx)
 obtain⟨hi1,_⟩:=RelV.sc.1 (an hst (hA.ev hi)).1
 obtain⟨hj1,_⟩:=RelV.sc.1 (an hst (hA.ev hj)).1
 have hsz:=(hT e re he).run_size (P:=P)
 rcases RelV.arr.1 hx1 with ⟨rfl,hv⟩ | ⟨ad,c,hv,hc1,hc2,f,hf⟩
 ·refine .quiet (u :=.slice none 0 0) hst hdst ⟨rfl,rfl⟩ ?_ (RelV.arx.2 (.inl ⟨rfl,_,rfl⟩)) trivial
  simp[execOp,ho,Instr.sliceAt,Instr.slice,hv,hi1,hj1,run_underlying hud,Instr.sliceBounds,Instr.sliceBound,asIntOf,hsz,Sem.run_bind,Sem.run_pure,Result.andThen_ok]
 ·refine .quiet (u :=.slice (some ad) xs.length xs.length) hst hdst ⟨rfl,rfl⟩ ?_ (RelV.arx.2 (.inr ⟨ad,rfl,by omega,f,hf⟩)) trivial
  have hle:(xs.length:Int)≤(c:Int):=by omega
  simp[execOp,ho,Instr.sliceAt,Instr.slice,hv,hi1,hj1,run_underlying hud,Instr.sliceBounds,Instr.sliceBound,asIntOf,hsz,Sem.run_bind,Sem.run_pure,Result.andThen_ok,hc1,Addr.add_zero']
end
end Go.Eng
namespace Go.Proofs.YtjfkhlamjdbfkaaGreatDoor
open Go.Eng Go.Plain
set_option maxHeartbeats 32000000
set_option maxRecDepth 20000
attribute [local irreducible] WC RegS RegD SeqQ BlkQ ScoQ RegK CutK Sat SatN FnIs LoopQ aq OpIs
theorem uO (l:List POp) (hp:0<l.length) (hlen:l.length≤1048576):FnIs Tryz.prog 65 [.d (encP l)] [] (.own 64 0 l.length 3 none) [(64,.ds 36 3 false bv l)]:=by
 refine aw aa Tryz.func65 rfl rfl rfl ?_;refine sR<|rC<|zW ?_;refine rC ?_;refine rQ (q5 aa rfl rfl rfl hp)<|nS ?_;refine wG<|kS<|sR ?_;refine rQ (fi aa rfl rfl) ?_;refine rC ?_;refine aG (fE aa rfl rfl rfl rfl rfl (.inl rfl) rfl hp hlen rfl) rfl ?_;refine rC<|zT ?_
 exact⟨trivial,[(64,some 104)],lg zV ⟨zR,trivial⟩⟩
theorem wt:FnIs Tryz.prog 65 [.d (encP [])] [] (.d (encP [])) []:=by
 refine FnIs.split_arr ?_ ?_
 ·refine aw aa Tryz.func65 rfl rfl rfl ?_;refine sR<|rC<|zW ?_;refine rC ?_;refine rQ (uD aa rfl rfl rfl)<|nS ?_;refine wV<|sR ?_;refine rC<|zT<|aN ?_
  exact⟨trivial,[],lg ⟨⟨_,rfl,fQ _ _⟩,rfl,trivial⟩ trivial⟩
 ·rintro⟨a,c⟩
  refine aw aa Tryz.func65 rfl rfl rfl ?_;refine sR<|rC<|zW ?_;refine rC ?_;refine rQ (oZ aa rfl rfl rfl)<|nS ?_;refine wG<|kS<|sR ?_;refine rQ (fi aa rfl rfl) ?_;refine rC ?_;refine rQ (l8 aa rfl rfl rfl rfl) ?_;refine rC<|nS<|bO ?_
  exact⟨trivial,[],lg ⟨⟨_,rfl,AVLe.empty_arr _ _⟩,rfl,trivial⟩ trivial⟩
theorem uP (l:List POp) (hlen:l.length≤1048576):FnIs Tryz.prog 65 [.d (encP l)] [] (.d (encP l)) []:=by
 cases l with
 | nil=>exact wt
 | cons a l=>exact (uO (a::l) (by simp) hlen).freeze_out 64 _ rfl (Frz.own rfl) trivial
abbrev ii (p:List POp):D :=.arx 3 bv p
abbrev mM (l:List (List POp)):D :=.arr 1 ii l
theorem sL (l:List (List POp)) (hp:0<l.length) (hlen:l.length≤1048576):FnIs Tryz.prog 67 [.d (mM l)] [] (.own 64 0 l.length 1 none) [(64,.ds 113 1 false ii l)]:=by
 refine aw aa Tryz.func67 rfl rfl rfl ?_;refine sR<|rC<|zW ?_;refine rC ?_;refine rQ (q5 aa rfl rfl rfl hp)<|nS ?_;refine wG<|kS<|sR ?_;refine rQ (fi aa rfl rfl) ?_;refine rC ?_;refine aG (fE aa rfl rfl rfl rfl rfl (.inl rfl) rfl hp hlen rfl) rfl ?_;refine rC<|zT ?_
 exact⟨trivial,[(64,some 104)],lg zV ⟨zR,trivial⟩⟩
theorem uN:FnIs Tryz.prog 67 [.d (mM [])] [] (.d (mM [])) []:=by
 refine FnIs.split_arr ?_ ?_
 ·refine aw aa Tryz.func67 rfl rfl rfl ?_;refine sR<|rC<|zW ?_;refine rC ?_;refine rQ (uD aa rfl rfl rfl)<|nS ?_;refine wV<|sR ?_;refine rC<|zT<|aN ?_
  exact⟨trivial,[],lg ⟨⟨_,rfl,fQ _ _⟩,rfl,trivial⟩ trivial⟩
 ·rintro⟨a,c⟩
  refine aw aa Tryz.func67 rfl rfl rfl ?_;refine sR<|rC<|zW ?_;refine rC ?_;refine rQ (oZ aa rfl rfl rfl)<|nS ?_;refine wG<|kS<|sR ?_;refine rQ (fi aa rfl rfl) ?_;refine rC ?_;refine rQ (l8 aa rfl rfl rfl rfl) ?_;refine rC<|nS<|bO ?_
  exact⟨trivial,[],lg ⟨⟨_,rfl,AVLe.empty_arr _ _⟩,rfl,trivial⟩ trivial⟩
theorem mV (l:List (List POp)) (hlen:l.length≤1048576):FnIs Tryz.prog 67 [.d (mM l)] [] (.d (mM l)) []:=by
 cases l with
 | nil=>exact uN
 | cons a l=>exact (sL (a::l) (by simp) hlen).freeze_out 64 _ rfl (Frz.own rfl) trivial
theorem wu (l:List POp):FnIs Tryz.prog 64 [.d (encP l)] [] (.d (ii l)) []:=by
 refine aw aa Tryz.func64 rfl rfl rfl ?_;refine sR<|rC<|nR ?_;refine zD ?_;refine rQ iE ?_;refine rC ?_;refine rQ iE ?_;refine rQ (gk aa rfl rfl rfl rfl rfl) ?_;refine rC<|zT ?_
 exact⟨trivial,[],lf⟩
theorem o5 (l:List (List POp)):FnIs Tryz.prog 66 [.d (mM l)] [] (.d (.arx 1 ii l)) []:=by
 refine aw aa Tryz.func66 rfl rfl rfl ?_;refine sR<|rC<|nR ?_;refine zD ?_;refine rQ iE ?_;refine rC ?_;refine rQ iE ?_;refine rQ (gk aa rfl rfl rfl rfl rfl) ?_;refine rC<|zT ?_
 exact⟨trivial,[],lf⟩
theorem vU {α:Type} (enc:α→D) (hsz:∀x,bn tab 36 (.d (enc x))=true) (p:α→Bool) (g:FuncId) (xs:List α) (hL:xs.length≤1000000000) (hg:∀x∈xs,FnIs Tryz.prog g [.d (enc x)] [] (.bool (p x)) []):FnIs Tryz.prog 115 [.d (.arr 3 enc xs),.fn (.func g) .anil .anil] [] (.int .i64 (idxF p xs)) []:=by
 refine aw aa Tryz.func115 rfl rfl rfl ?_;refine sR<|rC<|zW ?_;refine rC ?_;refine rQ iE ?_;refine rC<|zP ?_
 refine wc_inv (fun i:Nat=>⟨[(8,.int .i64 i),(7,.int .i64 xs.length),(1,.fn (.func g) .anil .anil),(0,.d (.arr 3 enc xs))],[],72,Tryz.f115.ntmps,64⟩) (fun i=>i≤xs.length∧∀j,j<i→∀y,xs[j]?=some y→p y=false) (fun i=>xs.length-i) 0 [] ⟨Nat.zero_le _,fun j hj=>absurd hj (Nat.not_lt_zero _)⟩
  (lg zi trivial) ?_
 rintro i ⟨hi,hno⟩
 refine bH<|sR ?_;refine rC<|nQ ?_
 refine bW rfl (fun h2=>?_) (fun h2=>?_)
 ·have hlt:i<xs.length:=by have:=of_decide_eq_true h2; omega
  obtain⟨x,hx⟩:∃u,xs[i]?=some u:=⟨_,List.getElem?_eq_getElem hlt⟩
  have hx':xs[((i:Int)).toNat]?=some x:=by rw[Int.toNat_natCast]; exact hx
  have hpx:=hg x (List.mem_of_getElem? hx)
  have hs:=hsz x
  cases hp:p x with
  | true =>
   refine zQ<|zS<|zD<|nR ?_;refine zU ?_;refine rQ (aI aa rfl rfl rfl rfl rfl (by omega) hx') ?_;refine rQ (fR aa rfl hs) ?_;refine rQ (am hpx rfl rfl (aj ab) (.inl rfl) (fun _=>rfl)) ?_;refine zI<|sR ?_;refine zD<|zT<|zB<|b8<|zB ?_
   exact⟨trivial,[],lg ⟨⟨_,rfl,AVLe.of_eq (by rw[jB hx hp hno]; rfl)⟩,rfl,trivial⟩ trivial⟩
  | false =>
   refine zQ<|zS<|zD<|nR ?_;refine zU ?_;refine rQ (aI aa rfl rfl rfl rfl rfl (by omega) hx') ?_;refine rQ (fR aa rfl hs) ?_;refine rQ (am hpx rfl rfl (aj ab) (.inl rfl) (fun _=>rfl)) ?_
   refine zG<|aS<|zC<|ai ?_;refine rQ iD ?_;refine rC<|ay ?_;refine aL (i+1) [] ⟨hlt,fun j hj y hy=>?_⟩ (by omega) ?_
   ·by_cases e:j=i
    ·subst e
     rw[hx]at hy
     cases hy
     exact hp
    ·exact hno j (by omega) y hy
   ·exact lg zi trivial
 ·have he:i=xs.length:=by have:=of_decide_eq_false h2; omega
  refine zX<|sR<|rC<|zT ?_
  exact⟨trivial,[],lg ⟨⟨_,rfl,AVLe.of_eq (by
   rw[jC fun j y hy=>hno j (by have:=(List.getElem?_eq_some_iff.1 hy).1; omega) y hy]
   rfl)⟩,rfl,trivial⟩ trivial⟩
theorem uf {α:Type} (enc:α→D) (hsz:∀x,bn tab 36 (.d (enc x))=true) (p:α→Bool) (g:FuncId) (xs:List α) (hL:xs.length≤1000000000) (hg:∀x∈xs,FnIs Tryz.prog g [.d (enc x)] [] (.bool (p x)) []):FnIs Tryz.prog 94 [.d (.arr 3 enc xs),.fn (.func g) .anil .anil] [] (.bool (xs.any p)) []:=by
 refine aw aa Tryz.func94 rfl rfl rfl ?_;refine sR<|rC<|nR ?_;refine zD ?_;refine rQ (am (vU enc hsz p g xs hL hg) rfl rfl (aj (l5 ab)) (.inl rfl) (fun _=>rfl)) ?_;refine zD<|zT ?_
 exact⟨trivial,[],lg ⟨⟨_,rfl,AVLe.of_eq (by rw[←lL]; rfl)⟩,rfl,trivial⟩ trivial⟩
theorem xb {α:Type} (enc:α→D) (hsz:∀x,bn tab 113 (.d (enc x))=true) (p:α→Bool) (g:FuncId) (xs:List α) (hL:xs.length≤1000000000) (hg:∀x∈xs,FnIs Tryz.prog g [.d (enc x)] [] (.bool (p x)) []):FnIs Tryz.prog 116 [.d (.arr 1 enc xs),.fn (.func g) .anil .anil] [] (.int .i64 (idxF p xs)) []:=by
 refine aw aa Tryz.func116 rfl rfl rfl ?_;refine sR<|rC<|zW ?_;refine rC ?_;refine rQ iE ?_;refine rC<|zP ?_
 refine wc_inv (fun i:Nat=>⟨[(8,.int .i64 i),(7,.int .i64 xs.length),(1,.fn (.func g) .anil .anil),(0,.d (.arr 1 enc xs))],[],72,Tryz.f116.ntmps,64⟩) (fun i=>i≤xs.length∧∀j,j<i→∀y,xs[j]?=some y→p y=false) (fun i=>xs.length-i) 0 [] ⟨Nat.zero_le _,fun j hj=>absurd hj (Nat.not_lt_zero _)⟩
  (lg zi trivial) ?_
 rintro i ⟨hi,hno⟩
 refine bH<|sR ?_;refine rC<|nQ ?_
 refine bW rfl (fun h2=>?_) (fun h2=>?_)
 ·have hlt:i<xs.length:=by have:=of_decide_eq_true h2; omega
  obtain⟨x,hx⟩:∃u,xs[i]?=some u:=⟨_,List.getElem?_eq_getElem hlt⟩
  have hx':xs[((i:Int)).toNat]?=some x:=by rw[Int.toNat_natCast]; exact hx
  have hpx:=hg x (List.mem_of_getElem? hx)
  have hs:=hsz x
  cases hp:p x with
  | true =>
   refine zQ<|zS<|zD<|nR ?_;refine zU ?_;refine rQ (aI aa rfl rfl rfl rfl rfl (by omega) hx') ?_;refine rQ (fR aa rfl hs) ?_;refine rQ (am hpx rfl rfl (aj ab) (.inl rfl) (fun _=>rfl)) ?_;refine zI<|sR ?_;refine zD<|zT<|zB<|b8<|zB ?_
   exact⟨trivial,[],lg ⟨⟨_,rfl,AVLe.of_eq (by rw[jB hx hp hno]; rfl)⟩,rfl,trivial⟩ trivial⟩
  | false =>
   refine zQ<|zS<|zD<|nR ?_;refine zU ?_;refine rQ (aI aa rfl rfl rfl rfl rfl (by omega) hx') ?_;refine rQ (fR aa rfl hs) ?_;refine rQ (am hpx rfl rfl (aj ab) (.inl rfl) (fun _=>rfl)) ?_
   refine zG<|aS<|zC<|ai ?_;refine rQ iD ?_;refine rC<|ay ?_;refine aL (i+1) [] ⟨hlt,fun j hj y hy=>?_⟩ (by omega) ?_
   ·by_cases e:j=i
    ·subst e
     rw[hx]at hy
     cases hy
     exact hp
    ·exact hno j (by omega) y hy
   ·exact lg zi trivial
 ·have he:i=xs.length:=by have:=of_decide_eq_false h2; omega
  refine zX<|sR<|rC<|zT ?_
  exact⟨trivial,[],lg ⟨⟨_,rfl,AVLe.of_eq (by
   rw[jC fun j y hy=>hno j (by have:=(List.getElem?_eq_some_iff.1 hy).1; omega) y hy]
   rfl)⟩,rfl,trivial⟩ trivial⟩
theorem qT {α:Type} (enc:α→D) (hsz:∀x,bn tab 113 (.d (enc x))=true) (p:α→Bool) (g:FuncId) (xs:List α) (hL:xs.length≤1000000000) (hg:∀x∈xs,FnIs Tryz.prog g [.d (enc x)] [] (.bool (p x)) []):FnIs Tryz.prog 96 [.d (.arr 1 enc xs),.fn (.func g) .anil .anil] [] (.bool (xs.any p)) []:=by
 refine aw aa Tryz.func96 rfl rfl rfl ?_;refine sR<|rC<|nR ?_;refine zD ?_;refine rQ (am (xb enc hsz p g xs hL hg) rfl rfl (aj (l5 ab)) (.inl rfl) (fun _=>rfl)) ?_;refine zD<|zT ?_
 exact⟨trivial,[],lg ⟨⟨_,rfl,AVLe.of_eq (by rw[←lL]; rfl)⟩,rfl,trivial⟩ trivial⟩
theorem vR (o:POp):FnIs Tryz.prog 95 [.d (bv o)] [] (.bool (decide (64<o.data.length))) []:=by
 have e:decide ((64:Int)<((byI o.data).length:Int))=decide (64<o.data.length):=by rw[b5]; exact decide_eq_decide.2 (by omega)
 refine aw aa Tryz.func95 rfl rfl rfl ?_;refine sR<|rN ?_;refine rC<|nR ?_;refine rC ?_;refine rQ iB ?_;refine rQ iE ?_;refine zD<|zT ?_
 exact⟨trivial,[],lg ⟨⟨_,rfl,AVLe.of_eq (congrArg (fun b=>AV.bool b) e)⟩,rfl,trivial⟩ trivial⟩
theorem tW (p:List POp) (hL:p.length≤1000000000):FnIs Tryz.prog 93 [.d (encP p)] [] (.bool (badP p)) []:=by
 have e:decide ((64:Int)<(p.length:Int))=decide (64<p.length):=decide_eq_decide.2 (by omega)
 refine aw aa Tryz.func93 rfl rfl rfl ?_
 cases h:decide ((64:Int)<(p.length:Int)) with
 | true =>
  rw[h]at e
  refine sR<|rC<|nR ?_;refine rC ?_;refine rQ iE ?_;refine zD ?_
  iterate 2 refine rS ?_
  refine rQ iT ?_;refine rC<|zT ?_
  exact⟨trivial,[],lg ⟨⟨_,rfl,AVLe.of_eq (by rw[badP,←e]; rfl)⟩,rfl,trivial⟩ trivial⟩
 | false =>
  rw[h]at e
  refine sR<|rC<|nR ?_;refine rC ?_;refine rQ iE ?_;refine zD ?_;refine rO ?_;refine rC ?_;refine rO ?_;refine rQ (am (uf bv (fun _=>rfl) (fun o=>decide (64<o.data.length)) _ p hL (fun o _=>vR o)) rfl rfl (aj (l5 ab)) (.inl rfl) (fun _=>rfl)) ?_;refine rQ iF ?_;refine rC<|zT ?_
  exact⟨trivial,[],lg ⟨⟨_,rfl,AVLe.of_eq (by rw[badP,←e]; rfl)⟩,rfl,trivial⟩ trivial⟩
theorem lX (l:List (List POp)) (hL:l.length≤1000000000) (hP:∀p∈l,p.length≤1000000000):FnIs Tryz.prog 70 [.d (km l)] [] (.int .i64 (chkP l)) []:=by
 refine aw aa Tryz.func70 rfl rfl rfl ?_
 cases h:decide ((8:Int)<(l.length:Int)) with
 | true =>
  have h8:8<l.length:=by have:=of_decide_eq_true h; omega
  refine sR<|rC<|nR ?_;refine rC<|zW ?_;refine rC ?_;refine rQ iE ?_;refine zD ?_
  iterate 3 refine rS ?_
  refine rQ iT ?_;refine zO<|sR ?_;refine rC<|zT<|aN ?_
  exact⟨trivial,[],lg ⟨⟨_,rfl,AVLe.of_eq (by rw[chkP,if_pos h8]; rfl)⟩,rfl,trivial⟩ trivial⟩
 | false =>
  have h8:¬8<l.length:=by have:=of_decide_eq_false h; omega
  cases hb:l.any badP with
  | true =>
   refine sR<|rC<|nR ?_;refine rC<|zW ?_;refine rC ?_;refine rQ iE ?_;refine zD ?_;refine rO ?_;refine rC ?_;refine rO ?_;refine rC ?_;refine rO ?_;refine rQ (am (qT encP (fun _=>rfl) badP _ l hL (fun p hp=>tW p (hP p hp))) rfl rfl (aj (l5 ab)) (.inl rfl) (fun _=>rfl)) ?_;refine rQ iF ?_;refine zI<|sR ?_;refine rC<|zT<|aN ?_
   exact⟨trivial,[],lg ⟨⟨_,rfl,AVLe.of_eq (by rw[chkP,if_neg h8,if_pos hb]; rfl)⟩,rfl,trivial⟩ trivial⟩
  | false =>
   refine sR<|rC<|nR ?_;refine rC<|zW ?_;refine rC ?_;refine rQ iE ?_;refine zD ?_;refine rO ?_;refine rC ?_;refine rO ?_;refine rC ?_;refine rO ?_;refine rQ (am (qT encP (fun _=>rfl) badP _ l hL (fun p hp=>tW p (hP p hp))) rfl rfl (aj (l5 ab)) (.inl rfl) (fun _=>rfl)) ?_;refine rQ iF ?_;refine zG<|kS<|sR ?_;refine rC<|zT ?_
   exact⟨trivial,[],lg ⟨⟨_,rfl,AVLe.of_eq (by rw[chkP,if_neg h8,if_neg (by rw[hb]; simp)]; rfl)⟩,rfl,trivial⟩ trivial⟩
def Bd (l:List (List POp)):Prop:=l.length≤1000000000∧∀p∈l,p.length≤1000000000
theorem xy {l:List (List POp)} (h:chkP l=0):Bd l:=by
 obtain⟨h1,h2⟩:=dA.1 h
 refine⟨by omega,fun p hp=>?_⟩
 have:=h2 p hp
 simp only[badP,Bool.or_eq_false_iff,decide_eq_false_iff_not]at this
 omega
def dR (l:List (List POp)) (i:Nat) (p:List POp) (j:Nat):List UInt8:=bL (l.take i)++(aF++10::opsT (p.take j))
theorem p4 (l:List (List POp)) (i:Nat) (p:List POp):dR l i p 0=bL (l.take i)++(aF++[10]):=by simp[dR,opsT]
theorem tK {l:List (List POp)} {i j:Nat} {p:List POp} {o:POp} (ho:p[j]?=some o):dR l i p j++(bg o++[10])=dR l i p (j+1):=by
 rw[dR,dR,List.take_add_one,ho,Option.toList_some,mB]
 simp
theorem js {l:List (List POp)} {i:Nat} {p:List POp} (hp:l[i]?=some p):dR l i p p.length=bL (l.take (i+1)):=by
 rw[dR,List.take_length,List.take_add_one,hp,Option.toList_some,fI]
theorem rH (a b:List (List POp)):bL (a++b)=bL a++bL b:=by simp[bL]
theorem s4 (l:List (List POp)) (i:Nat):(bL (l.take i)).length≤(bL l).length:=by
 have:=congrArg List.length (rH (l.take i) (l.drop i))
 rw[List.take_append_drop,List.length_append]at this
 omega
theorem tO (a b:List POp):opsT (a++b)=opsT a++opsT b:=by simp[opsT]
theorem vy (l:List POp) (i:Nat):(opsT (l.take i)).length≤(opsT l).length:=by
 have:=congrArg List.length (tO (l.take i) (l.drop i))
 rw[List.take_append_drop,List.length_append]at this
 omega
theorem ox {l:List (List POp)} {i j:Nat} {p:List POp} (hp:l[i]?=some p):(dR l i p j).length≤(bL l).length:=by
 have h1:=s4 l (i+1)
 rw[←js hp]at h1
 have h2:=vy p j
 simp only[dR,List.length_append,List.length_cons,List.take_length]at h1 ⊢
 omega
theorem s1 {l:List (List POp)} (hok:OkL l) (hc:chkP l=0):(bL l).length≤1048576∧∀p∈l,∀o∈p,o.data.length≤64:=by
 obtain⟨h1,h2⟩:=dA.1 hc
 have hb:∀p∈l,p.length≤64∧∀o∈p,o.Ok∧o.data.length≤64:=fun p hp=>by
  have:=h2 p hp
  simp only[badP,Bool.or_eq_false_iff,decide_eq_false_iff_not,List.any_eq_false,decide_eq_true_eq]at this
  exact⟨by omega,fun o ho=>⟨hok p hp o ho,by have:=this.2 o ho; omega⟩⟩
 have:=nY (D:=64) (N:=64) l hb
 have h3:(7+(51+2*64)*64)*l.length≤(7+(51+2*64)*64)*8:=Nat.mul_le_mul_left _ h1
 exact⟨by omega,fun p hp o ho=>((hb p hp).2 o ho).2⟩
theorem s3 (l:List (List POp)) (hB:Bd l) (h0:chkP l≠0):FnIs Tryz.prog 53 [.d (km l)] [] (.tup (.acons (.d (strD [])) (.acons (.d (i6 (chkP l))) .anil))) []:=by
 have hC:=lX l hB.1 hB.2
 have hn:(!decide (chkP l=0))=true:=by rw[dF h0]; rfl
 refine aw aa Tryz.func53 rfl rfl rfl ?_;refine sR<|zD<|zW ?_;refine rC ?_;refine rQ (am hC rfl rfl (aj ab) (.inl rfl) (fun _=>rfl)) ?_;refine rC<|nR ?_;refine zD ?_;refine zI<|sR ?_;refine zU<|zT<|aN ?_
 exact⟨trivial,[],lf⟩
theorem rF:FnIs Tryz.prog 53 [.d (km [])] [] (.tup (.acons (.d (strD [])) (.acons (.d (i6 0)) .anil))) []:=by
 have hC:=lX [] (by decide) (by simp)
 have h0:chkP []=0:=rfl
 rw[h0]at hC
 refine aw aa Tryz.func53 rfl rfl rfl ?_;refine sR<|zD<|zW ?_;refine rC ?_;refine rQ (am hC rfl rfl (aj ab) (.inl rfl) (fun _=>rfl)) ?_;refine rC<|nR ?_;refine zD ?_;refine zJ<|kS<|sR ?_;refine rN<|zW ?_;refine rC ?_;refine rQ iE ?_;refine rC<|zP ?_;refine m7<|sR ?_;refine rC<|nQ ?_;refine wG<|zX<|sR ?_;refine aG (bq [(0,some 120)] jj rfl rfl rfl (bj rfl rfl ab) ⟨zH,trivial⟩ rfl rfl (.inl rfl) rfl rfl) rfl ?_;refine zD<|zT ?_
 exact⟨trivial,[],lf⟩
theorem rG (l:List (List POp)) (hB:Bd l) (hne:l≠[]) (h0:chkP l=0) (hok:OkL l):FnIs Tryz.prog 53 [.d (km l)] [] (.tup (.acons (.d (strD (bL l))) (.acons (.d (i6 0)) .anil))) []:=by
 have hC:=lX l hB.1 hB.2
 obtain⟨htm,hdm⟩:=s1 hok h0
 rw[h0]at hC
 have hl8:l.length≤8:=(dA.1 h0).1
 refine aw aa Tryz.func53 rfl rfl rfl ?_;refine sR<|zD<|zW ?_;refine rC ?_;refine rQ (am hC rfl rfl (aj ab) (.inl rfl) (fun _=>rfl)) ?_;refine rC<|nR ?_;refine zD ?_;refine zJ<|kS<|sR ?_;refine rN<|zW ?_;refine rC ?_;refine rQ iE ?_;refine rC<|zP ?_
 refine wc_inv (fun i:Nat=>⟨[(17,.int .i64 i),(16,.int .i64 l.length),(15,.d (km l)),(5,.ptr 65 [])],[(65,some (cF (Nat.beq i 0) 65 66 (bL (l.take i)).length)),(66,some (rowT (bL (l.take i))))],72,Tryz.f53.ntmps,64⟩) (fun i=>i≤l.length) (fun i=>l.length-i) 0 [(65,some 120),(66,none)] (Nat.zero_le _)
  (lg zi ⟨⟨rfl,rfl,_,rfl,aY.split2⟩,⟨rfl,rfl,rfl⟩,trivial⟩) ?_
 intro i hi
 refine bH<|sR ?_;refine rC<|nQ ?_
 refine bW rfl (fun h3=>?_) (fun h3=>?_)
 ·have hlt:i<l.length:=by have:=of_decide_eq_true h3; omega
  obtain⟨p,hp⟩:∃p,l[i]?=some p:=⟨_,List.getElem?_eq_getElem hlt⟩
  have hp':l[((i:Int)).toNat]?=some p:=by rw[Int.toNat_natCast]; exact hp
  have hpm:=List.mem_of_getElem? hp
  have hpB:p.length≤1000000000:=hB.2 p hpm
  have hz:=ox (j:=0) hp
  have hpz:=p4 l i p
  have hpn:(dR l i p 0).length=(bL (l.take i)).length+(aF++[10]).length:=by rw[hpz,List.length_append]
  have hq1:(bL (l.take i)).length+(aF++[10]).length≤1048576:=by rw[hpz,List.length_append]at hz; omega
  refine zQ<|zS<|rQ iA ?_;refine rQ iL ?_;refine rC<|nR ?_;refine bh rfl (bq [(0,some 65),(1,some 66)] (gj (Nat.beq i 0) (bL (l.take i)) (aF++[10]) (bL (l.take i)).length rfl (by decide) hq1) rfl rfl rfl (bj rfl rfl (aj ab)) ⟨⟨rfl,(by cases Nat.beq i 0 <;> rfl),_,_,rfl,rfl,(by cases Nat.beq i 0 <;> exact .refl _)⟩,zH,trivial⟩ rfl rfl (.inl rfl) rfl rfl) rfl rfl<|nR ?_;refine rC ?_;refine rQ iE ?_;refine rC<|zP ?_
  refine wc_inv (fun j:Nat=>⟨[(24,.int .i64 j),(23,.int .i64 p.length),(22,.d (encP p)),(17,.int .i64 i),(16,.int .i64 l.length),(15,.d (km l)),(5,.ptr 65 [])],[(65,some (cF false 65 66 (dR l i p j).length)),(66,some (rowT (dR l i p j)))],72,Tryz.f53.ntmps,64⟩) (fun j=>j≤p.length) (fun j=>p.length-j) 0 [(66,some 104)] (Nat.zero_le _)
   (lg zf ⟨⟨rfl,rfl,_,rfl,aY.of_eq (by rw[hpn]; rfl)⟩,⟨rfl,rfl,_,rfl,aY.of_eq (by rw[hpz]; rfl)⟩,trivial⟩) ?_
  intro j hj
  refine bH<|sR ?_;refine rC<|nQ ?_
  refine bW rfl (fun h4=>?_) (fun h4=>?_)
  ·have hjl:j<p.length:=by have:=of_decide_eq_true h4; omega
   obtain⟨o,ho⟩:∃o,p[j]?=some o:=⟨_,List.getElem?_eq_getElem hjl⟩
   have ho':p[((j:Int)).toNat]?=some o:=by rw[Int.toNat_natCast]; exact ho
   have hom:=List.mem_of_getElem? ho
   have ho1:=hok p hpm o hom
   have ho2:o.data.length≤524288:=by have:=hdm p hpm o hom; omega
   have hgo:=tK (l:=l) (i:=i) ho
   have hpl:=ox (j:=j+1) hp
   have hgn:(dR l i p (j+1)).length=(dR l i p j).length+(bg o++[10]).length:=by rw[←hgo,List.length_append]
   have hq2:(dR l i p j).length+(bg o++[10]).length≤1048576:=by rw[←hgo,List.length_append]at hpl; omega
   have hq3:(bg o).length+[(10:UInt8)].length≤9223372036854775807:=by simp only[List.length_append]at hq2; omega
   have hq4:0<(bg o++[10]).length:=by simp
   refine zQ<|zS<|rQ iA ?_;refine rQ iL ?_;refine rN ?_;refine rW<|nS<|ai ?_;refine rQ iM ?_;refine rQ (am (nv o ho1 ho2) rfl rfl (aj ab) (.inl rfl) (fun _=>rfl)) ?_;refine rQ (aT (a:=bg o) (b:=[10]) rfl rfl hq3 rfl) ?_;refine bh rfl (bq [(0,some 65),(1,some 66)] (gj false (dR l i p j) (bg o++[10]) (dR l i p j).length rfl hq4 hq2) rfl rfl rfl (bj rfl rfl (aj ab)) ⟨zH,zH,trivial⟩ rfl rfl (.inl rfl) rfl rfl) rfl rfl<|ay<|zC<|ai ?_;refine rQ iD ?_;refine rC<|ay ?_
   exact aL (j+1) [(66,some 136)] hjl (by omega) (lg zf ⟨⟨rfl,rfl,_,rfl,aY.of_eq (by rw[hgn]; rfl)⟩,⟨rfl,rfl,_,rfl,aY.of_eq (congrArg rowT hgo)⟩,trivial⟩)
  ·have he:j=p.length:=by have:=of_decide_eq_false h4; omega
   subst he
   refine cz<|eZ<|gq<|fj<|zC<|ai<|rQ iD ?_;refine rC<|ay ?_
   exact aL (i+1) [] hlt (by omega) (lg zi ⟨⟨rfl,rfl,_,rfl,aY.of_eq (by rw[js hp]; rfl)⟩,⟨rfl,rfl,_,rfl,aY.of_eq (congrArg rowT (js hp))⟩,trivial⟩)
 ·have he:i=l.length:=by have:=of_decide_eq_false h3; omega
  subst he
  have hpos:0<l.length:=List.length_pos_iff.2 hne
  have hne2:bL l≠[]:=fun e=>by
   cases l with
   | nil=>exact hne rfl
   | cons p l=>simp[bL,aF]at e
  have hbz:Nat.beq l.length 0=false:=by
   cases hz:Nat.beq l.length 0 with
   | false=>rfl
   | true=>have:=Nat.eq_of_beq_eq_true hz; omega
  rw[hbz,List.take_length]
  refine zX<|sR<|aU (bq [(0,some 65),(1,some 66)] (fY (bL l) (bL l).length rfl hne2 htm) rfl rfl rfl (bj rfl rfl ab) ⟨zH,zH,trivial⟩ rfl rfl (.inl rfl) rfl rfl) rfl ?_;refine zD<|zT ?_
  exact⟨trivial,[],lf⟩
theorem vo (l:List (List POp)) (hB:Bd l) (hok:OkL l):FnIs Tryz.prog 53 [.d (km l)] [] (.tup (.acons (.d (strD (if chkP l=0 then bL l else[]))) (.acons (.d (i6 (chkP l))) .anil))) []:=by
 by_cases h0:chkP l=0
 ·rw[if_pos h0,h0]
  by_cases hn:l=[]
  ·subst hn; exact rF
  ·exact rG l hB hn h0 hok
 ·rw[if_neg h0]
  exact s3 l hB h0
end Go.Proofs.YtjfkhlamjdbfkaaGreatDoor
namespace Go.Eng
open Go.RowKit
def chM (A:AV):List D→AV
 | []=>.acons A .anil
 | d::l=>.acons (.d d) (chM A l)
theorem qv {A:AV} {s:Nat}:∀(l:List D),(∀d∈l,d.size=s)→(chM A l).chainAt l.length (l.length*s)=some A
 | [],_=>by simp[chM,AV.chainAt]
 | d::l,h=>by
  have hd:=h d (by simp)
  simp only[chM,List.length_cons,AV.chainAt,AV.size,hd]
  have e:Nat.ble s ((l.length+1)*s)=true:=Nat.ble_eq_true_of_le (by rw[Nat.add_mul]; omega)
  rw[e,show (l.length+1)*s-s=l.length*s by rw[Nat.add_mul]; omega]
  exact qv l fun x hx=>h x (by simp[hx])
theorem rh {A x:AV}:∀(l:List D),AV.chainSet x l.length (chM A l)=chM x l
 | []=>rfl
 | d::l=>by
  simp only[chM,List.length_cons,AV.chainSet,rh l]
theorem o6 {A:AV} (hA:A.flat=true):∀(l:List D),(chM A l).flat=true
 | []=>by simp[chM,AV.flat,hA]
 | d::l=>by simp[chM,AV.flat,o6 hA l]
theorem cQ {A:AV} {n:Nat} (hA:A.lt n=true):∀(l:List D),(chM A l).lt n=true
 | []=>by simp[chM,AV.lt,hA]
 | _::l=>by simp[chM,AV.lt,cQ hA l]
theorem jh {A:AV} {ρ:Nat→Option Nat}:∀(l:List D),(chM A l).ren ρ=chM (A.ren ρ) l
 | []=>rfl
 | d::l=>by simp only[chM,AV.ren,jh l]
theorem gL {t:TypeId} {s:Nat} {ex:Bool} {A:AV} {l:List D} {m i:Nat} (hl:∀d∈l,d.size=s) (hm:m=l.length+1) (hi:i=l.length):RSub (.lits t s m ex (chM A l)) [.idx i s] A:=by
 subst hm hi
 refine⟨rfl,Nat.lt_succ_self _,?_⟩
 rw[qv l hl]
 rfl
theorem gK {t:TypeId} {s:Nat} {ex:Bool} {A y:AV} {l:List D} {m i:Nat} (hl:∀d∈l,d.size=s) (hm:m=l.length+1) (hi:i=l.length) (h1:A.size=y.size) (h2:A.isAgg=y.isAgg):RUpd (.lits t s m ex (chM A l)) [.idx i s] y (.lits t s m ex (chM y l)):=by
 subst hm hi
 refine⟨rfl,Nat.lt_succ_self _,?_⟩
 rw[qv l hl]
 exact⟨y,⟨h1,h2,rfl⟩,by rw[rh]⟩
theorem g9 {σ:Place} {w:World} {X:Nat→Prop} {A:AV}:∀(l:List D) (cs:List Value),Rel σ w X (chM A l) false cs ↔ ∃c1 c2,cs=c1++c2∧Rel σ w X (dsAV l) false c1∧Rel σ w X A false c2
 | [],cs=>by
  constructor
  ·rintro⟨c1,c2,rfl,h1,h2⟩
   rw[show c2=[] from h2,List.append_nil]
   exact⟨[],c1,rfl,rfl,h1⟩
  ·rintro⟨c1,c2,rfl,h1,h2⟩
   rw[show c1=[] from h1]
   exact⟨c2,[],by simp,h2,rfl⟩
 | d::l,cs=>by
  constructor
  ·rintro⟨c1,c2,rfl,h1,h2⟩
   obtain⟨c3,c4,rfl,h3,h4⟩:=(g9 l c2).1 h2
   exact⟨c1++c3,c4,by simp,⟨c1,c3,rfl,h1,h3⟩,h4⟩
  ·rintro⟨c1,c2,rfl,⟨c3,c4,rfl,h3,h4⟩,h2⟩
   exact⟨c3,c4++c2,by simp,h3,(g9 l _).2 ⟨c4,c2,rfl,h4,h2⟩⟩
theorem lU {σ:Place} {w:World} {X:Nat→Prop}:∀(l m:List D) (cs:List Value),Rel σ w X (dsAV (l++m)) false cs ↔ ∃c1 c2,cs=c1++c2∧Rel σ w X (dsAV l) false c1∧Rel σ w X (dsAV m) false c2
 | [],m,cs=>by
  constructor
  ·intro h; exact⟨[],cs,rfl,rfl,h⟩
  ·rintro⟨c1,c2,rfl,h1,h2⟩
   rw[show c1=[] from h1]; exact h2
 | d::l,m,cs=>by
  constructor
  ·rintro⟨c1,c2,rfl,h1,h2⟩
   obtain⟨c3,c4,rfl,h3,h4⟩:=(lU l m c2).1 h2
   exact⟨c1++c3,c4,by simp,⟨c1,c3,rfl,h1,h3⟩,h4⟩
  ·rintro⟨c1,c2,rfl,⟨c3,c4,rfl,h3,h4⟩,h2⟩
   exact⟨c3,c4++c2,by simp,h3,(lU l m _).2 ⟨c4,c2,rfl,h4,h2⟩⟩
theorem q9 {σ:Place} {w:World} {X:Nat→Prop} {α:Type} {enc:α→D}:∀(xs:List α) (f:Nat→List Value),(∀i (h:i<xs.length),Enc w X (enc xs[i]) (f i))→Rel σ w X (dsAV (xs.map enc)) false (cat f xs.length)
 | [],f,_=>rfl
 | x::xs,f,h=>by
  rw[List.length_cons,Nat.add_comm xs.length 1,fh 1]
  refine⟨f 0,cat (fun i=>f (1+i)) xs.length,by simp only[cat,List.nil_append],h 0 (by simp),?_⟩
  exact q9 xs (fun i=>f (1+i)) fun i hi=>by
   show Enc w X (enc xs[i]) (f (1+i))
   rw[Nat.add_comm 1 i]
   exact h (i+1) (by simpa using hi)
theorem aY.ds_chM {t:TypeId} {s m:Nat} {ex:Bool} {α:Type} {enc:α→D} {xs:List α} {y:α} {z:D} (hm:m=xs.length+1) (hz:z=enc y):aY (.ds t s ex enc (xs++[y])) (.lits t s m ex (chM (.d z) (xs.map enc))):=by
 subst hm hz
 intro σ w X r h
 refine⟨o6 rfl _,?_⟩
 rcases h with ⟨h0,h1⟩ | ⟨b,c,cur,hb,hex,hh,hsz,hlen,hmax,f,hf,htake⟩
 ·simp at h1
 ·have hn:(xs++[y]).length=xs.length+1:=by simp
  rw[hn]at hlen htake hex
  have hfl:∀i,i<xs.length+1→(f i).length=s:=fun i hi=>(hf i (by rw[hn]; exact hi)).2
  refine .inr ⟨b,c,cur,cat f (xs.length+1),hb,hex,hh,hsz,hlen,hmax,ce _ hfl,?_,htake⟩
  have:=q9 (σ:=σ) (w:=w) (X:=X) (xs++[y]) f fun i hi=>(hf i hi).1
  rw[hn,List.map_append]at this
  obtain⟨c1,c2,e,h1,h2⟩:=(lU _ _ _).1 this
  rw[e]
  refine (g9 _ _).2 ⟨c1,c2,rfl,h1,?_⟩
  obtain⟨c3,c4,rfl,h3,h4⟩:=h2
  rw[show c4=[] from h4,List.append_nil]
  exact h3
theorem FrzR.last {r t te s s2 m:Nat} {ex ex2:Bool} {α β:Type} {enc:α→D} {enc2:β→D} {xs:List α} {y:α} {ys:List β} {len:Nat} {l:List D} (hl:len=ys.length) (hy:enc y=.arr s2 enc2 ys) (hm:m=xs.length+1) (hs:∀x,(enc x).size=s) (hmap:l=xs.map enc) :
  FrzR r (.ds te s2 ex2 enc2 ys) (.lits t s m ex (chM (.own r 0 len s2 none) l)) (.ds t s ex enc (xs++[y])):=by
 subst hm hmap
 refine⟨fun G h=>trivial,fun σ w X X' q hx hn hr hq=>?_⟩
 have hn1:(xs++[y]).length=xs.length+1:=by simp
 rcases hq with ⟨_,⟨_,h1⟩ | ⟨b',c',cur,cs',hb',hex,hh,hsz,hlen,hmax,hcl,hrel,htake⟩⟩
 ·omega
 ·obtain⟨c1,c2,rfl,h1,h2⟩:=(g9 _ _).1 hrel
  have h3:=(Frz.own (te:=te) (ex:=ex2) (cap:=none) hl).2.2.2 σ w X X' hx hn hr c2 h2
  rw[←hy]at h3
  obtain⟨f,hf,rfl⟩:=jg xs _ h1
  have hfl:∀i,i<xs.length→(f i).length=s:=fun i hi=>by rw[←hs xs[i]]; exact Enc.len _ _ (hf i hi)
  have hc2:c2.length=s:=by rw[←hs y]; exact Enc.len _ _ h3
  refine .inr ⟨b',c',cur,hb',by rw[hn1]; exact hex,hh,hsz,by rw[hn1]; exact hlen,hmax,fun i=>if i<xs.length then f i else c2,fun i hi=>?_,?_⟩
  ·by_cases hi2:i<xs.length
   ·simp only[if_pos hi2,List.getElem_append_left hi2]
    exact⟨Enc.sub hx _ _ (hf i hi2),hfl i hi2⟩
   ·have:i=xs.length:=by rw[hn1]at hi; omega
    subst this
    simp only[if_neg hi2,List.getElem_concat_length]
    exact⟨h3,hc2⟩
  ·rw[hn1,htake]
   have e:cat (fun i=>if i<xs.length then f i else c2) xs.length=cat f xs.length:=cM _ fun i hi=>by simp only[if_pos hi]
   simp only[cat,Nat.lt_irrefl,if_false,e]
end Go.Eng
namespace Go.Proofs.YtjfkhlamjdbfkaaGreatDoor
open Go.Eng Go.Plain
set_option maxHeartbeats 32000000
set_option maxRecDepth 20000
attribute [local irreducible] WC RegS RegD SeqQ BlkQ ScoQ RegK CutK Sat SatN FnIs LoopQ aq OpIs
def encO:Option (List POp)→D
 | none=>.sc nil_
 | some p=>encP p
theorem jM (o:Option (List POp)):(encO o).size=1:=by cases o <;> rfl
theorem mapO (l:List (List POp)):l.map encP=(l.map some).map encO:=by simp[encO]
abbrev rowL (p:List POp) (l:List (List POp)) (m r:Nat):Row :=.lits 113 1 m false (chM (.own r 0 p.length 3 none) (l.map encP))
abbrev rowP (p:List POp):Row :=.ds 36 3 false bv p
abbrev S0:List (Nat×Row):=[(0,.box 110 (.own 3 0 0 1 none)),(1,.box 124 (.mapr 2)),(2,.mo (mapC strD bZ)),(3,.ds 113 1 false encO [])]
abbrev S1 (a b:Nat) (l:List (List POp)) (p:List POp):List (Nat×Row):=[(0,.box 110 (.own a 0 (l.length+1) 1 none)),(1,.box 124 (.mapr 2)),(2,.mo (mapC strD bZ)),(a,rowL p l (l.length+1) b),(b,rowP p)]
theorem lB {b:Nat} {l:List (List POp)} {m:Nat} {ρ:Nat→Option Nat} {xs:List (Option (List POp))} (hm:m=l.length+1) (hx:xs=l.map some) (hρ:ρ b=none):aY (.ds 113 1 false encO (xs++[none])) (Row.ren ρ (rowL [] l m b)):=by
 subst hx
 show aY _ (.lits _ _ _ _ (AV.ren ρ (chM _ _)))
 rw[jh,mapO]
 have e:AV.ren ρ (.own b 0 ([]:List POp).length 3 none)=.d (.sc nil_):=by simp[AV.ren,hρ]
 rw[e]
 exact aY.ds_chM (by simpa using hm) rfl
theorem pj (t:List UInt8) (ht:t=aF):FnIs Tryz.prog 61 [.d (strD t),.ptr 0 [],.ptr 1 []] S0 (.d (i6 0)) (S1 64 65 [] []):=by
 have h0:decide (t=aF)=true:=dT ht
 refine aw aa Tryz.func61 rfl rfl rfl ?_;refine sR<|rC<|zW ?_;refine rC ?_;refine rQ (bK (a:=t) (b:=aF) aa rfl rfl rfl) ?_;refine zI<|sR ?_;refine rQ iM ?_;refine aG (aD (s:=1) aa rfl rfl rfl rfl rfl rfl rfl rfl) rfl ?_;refine aU (aM (xs:=([]:List (Option (List POp)))) (s:=1) (enc:=encO) aa none rfl rfl rfl rfl rfl rfl rfl rfl rfl (by decide) rfl) rfl ?_;refine rW<|zW ?_;refine rQ iM ?_;refine rQ (bB aa rfl rfl) ?_;refine rC ?_;refine zJ<|kS<|sR ?_;refine rC<|zT<|aN ?_
 exact⟨trivial,[(64,some 104),(65,none)],lg zV ⟨zR,zR,zR,⟨rfl,rfl,_,rfl,lB (l:=[]) (xs:=[]) rfl rfl rfl⟩,⟨rfl,rfl,rfl⟩,trivial⟩⟩
theorem pi (t:List UInt8) (ht:t=aF) (l:List (List POp)) (p:List POp) (hl:l.length≤1000):FnIs Tryz.prog 61 [.d (strD t),.ptr 0 [],.ptr 1 []] (S1 3 4 l p) (.d (i6 (if 8<l.length+2 then 3 else 0))) (S1 64 65 (l++[p]) []):=by
 have h0:decide (t=aF)=true:=dT ht
 have hL:l.length+1=(l.map some++[some p]).length:=by simp
 have hlen:(l.map some++[some p]).length+[(none:Option (List POp))].length≤1048576:=by simp; omega
 have e1:(l.map some++[some p]).length+[(none:Option (List POp))].length=(l++[p]).length+1:=by simp
 have e2:l.map some++[some p]=(l++[p]).map some:=by simp
 refine aw aa Tryz.func61 rfl rfl rfl ?_;refine sR<|rC<|zW ?_;refine rC ?_;refine rQ (bK (a:=t) (b:=aF) aa rfl rfl rfl) ?_;refine zI<|sR ?_;refine rQ iM ?_;refine aG (aD (s:=1) aa rfl rfl rfl rfl rfl rfl rfl rfl) rfl ?_;refine bE (env':=[(12,_),(13,_),(0,_),(1,_),(2,_)]) (h':=[(0,some _),(1,some _),(2,some _),(96,some _),(3,some _)]) 4 _ rfl ⟨zE,zE,zE,zE,zE,trivial⟩ ⟨⟨rfl,_,rfl,.refl _⟩,⟨rfl,_,rfl,.refl _⟩,⟨rfl,_,rfl,.refl _⟩,⟨rfl,_,rfl,.refl _⟩,⟨rfl,_,rfl,FrzR.last (enc:=encO) (xs:=l.map some) (y:=some p) rfl rfl (by simp) jM (mapO l)⟩,trivial⟩ ?_
 by_cases hg:8<l.length+2
 ·have hgt:decide (8<(((l.map some++[some p]).length+[(none:Option (List POp))].length:Nat):Int))=true:=dT (by simp; omega)
  rw[if_pos hg]
  refine aU (jm (α:=Option (List POp)) (s:=1) (enc:=encO) (xs:=l.map some++[some p]) aa [none] rfl rfl rfl rfl rfl hL rfl rfl rfl rfl (fun _ _=>jM _) (by decide) hlen rfl) rfl ?_;refine rW<|zW ?_;refine rQ iM ?_;refine rQ (bB aa rfl rfl) ?_;refine rC ?_;refine zI<|sR ?_;refine rC<|nS<|bO ?_;iterate 2 refine aN ?_
  rw[e1,e2]
  exact⟨trivial,[(64,some 104),(65,none)],lg zV ⟨zR,zR,zR,⟨rfl,cQ rfl _,_,rfl,lB rfl rfl rfl⟩,⟨rfl,rfl,rfl⟩,trivial⟩⟩
 ·have hgt:decide (8<(((l.map some++[some p]).length+[(none:Option (List POp))].length:Nat):Int))=false:=dF (by simp; omega)
  rw[if_neg hg]
  refine aU (jm (α:=Option (List POp)) (s:=1) (enc:=encO) (xs:=l.map some++[some p]) aa [none] rfl rfl rfl rfl rfl hL rfl rfl rfl rfl (fun _ _=>jM _) (by decide) hlen rfl) rfl ?_;refine rW<|zW ?_;refine rQ iM ?_;refine rQ (bB aa rfl rfl) ?_;refine rC ?_;refine zG<|kS<|sR ?_;refine rC<|zT<|aN ?_
  rw[e1,e2]
  exact⟨trivial,[(64,some 104),(65,none)],lg zV ⟨zR,zR,zR,⟨rfl,cQ rfl _,_,rfl,lB rfl rfl rfl⟩,⟨rfl,rfl,rfl⟩,trivial⟩⟩
end Go.Proofs.YtjfkhlamjdbfkaaGreatDoor
namespace Go.Plain
open Go.Eng Go.Lib
theorem dJ:∀(l:List UInt8) (c:UInt8) (w:List UInt8),w∈bC l c→w.length≤l.length
 | [],_,w,h=>by simp[bC]at h; subst h; simp
 | b::l,c,w,h=>by
  simp only[bC]at h
  split at h
  ·rcases List.mem_cons.1 h with rfl | h
   ·simp
   ·have:=dJ l c w h
    simp only[List.length_cons]; omega
  ·split at h
   ·rw[List.mem_singleton.1 h]; simp
   ·rename_i w' ws hs
    rcases List.mem_cons.1 h with rfl | h
    ·have:=dJ l c w' (by rw[hs]; simp)
     simp only[List.length_cons]; omega
    ·have:=dJ l c w (by rw[hs]; simp[h])
     simp only[List.length_cons]; omega
theorem jt:∀(s t:List UInt8),dY s=some t→s.length=2*t.length
 | [],t,h=>by cases h; rfl
 | [_],_,h=>by cases h
 | a::b::l,t,h=>by
  simp only[dY]at h
  split at h
  ·rename_i x y r _ _ hr
   cases h
   have:=jt l r hr
   simp only[List.length_cons]; omega
  ·cases h
theorem rB {s t:List UInt8} (h:cr s=some t):2*t.length≤s.length:=by
 rw[cr]at h
 split at h
 ·cases h; simp
 ·split at h
  ·cases h
  ·rw[jt _ _ h]; exact Nat.le_refl _
theorem k5 {t a:List UInt8} {c:UInt8} {r:List (List UInt8)} (h:bC t c=a::r):a.length+r.length≤t.length:=by
 rw[ml]at h
 cases hc:cutL t c with
 | none=>rw[hc]at h; simp only at h; cases h; simp
 | some pq =>
  obtain⟨p,q⟩:=pq
  rw[hc]at h
  simp only[List.cons.injEq]at h
  obtain⟨rfl,rfl⟩:=h
  have:=ij q c
  rw[(ct hc).1]
  simp
  omega
end Go.Plain
namespace Go.Proofs.YtjfkhlamjdbfkaaGreatDoor
open Go.Eng Go.Plain
set_option maxHeartbeats 32000000
set_option maxRecDepth 20000
attribute [local irreducible] WC RegS RegD SeqQ BlkQ ScoQ RegK CutK Sat SatN FnIs LoopQ aq OpIs
theorem qX:it Tryz.prog 127 (.sc .nilFunc):=qF (by kernel_rfl) rfl
theorem c6 {b b':Nat} {p:List POp} {l:List (List POp)} {m m':Nat} {ρ:Nat→Option Nat} (hm:m=m') (hρ:ρ b'=some b):aY (rowL p l m b) (Row.ren ρ (rowL p l m' b')):=by
 subst hm
 show aY _ (.lits _ _ _ _ (AV.ren ρ (chM _ _)))
 rw[jh]
 have e:AV.ren ρ (.own b' 0 p.length 3 none)=.own b 0 p.length 3 none:=by simp[AV.ren,hρ]
 rw[e]
 exact .refl _
theorem vc (t a:List UInt8) (r:List (List UInt8)) (ht:t≠aF) (hl:t.length≤1048576) (hsp:bC t 32=a::r) (hf:cY a bZ 0=none):FnIs Tryz.prog 61 [.d (strD t),.ptr 0 [],.ptr 1 []] S0 (.d (i6 5)) S0:=by
 have h0:decide (t=aF)=false:=dF ht
 have hs:=ft (l:=t) (c:=32) (by omega)
 rw[hsp]at hs
 have g0:(a::r)[((0:Int)).toNat]?=some a:=rfl
 refine aw aa Tryz.func61 rfl rfl rfl ?_;refine sR<|rC<|zW ?_;refine rC ?_;refine rQ (bK (a:=t) (b:=aF) aa rfl rfl rfl) ?_;refine zG<|kS<|sR ?_;refine rC ?_;refine rQ (am hs rfl rfl (aj (aj ab)) (.inl rfl) (fun _=>rfl)) ?_;refine rC<|nQ ?_;refine aH (by kernel_rfl) ?_;refine dQ [2] [1] iM ?_;refine dC [5] [] ?_;refine dQ [22] [] iA ?_;refine dQ [23] [] iL ?_;refine dQ [21,24] [2] (iK (κ:=List UInt8) (enc:=strD) (l:=bZ) (k:=a) da Tryz.underlying124 qX rfl rfl rfl hf) ?_;refine dC [25] [] ?_;iterate 2 refine dC [20] [] ?_
 refine dC [26] [] ?_;refine dC [27] [] ?_;refine aB (by kernel_rfl)<|aK<|qR ?_;refine zU ?_
 iterate 3 refine rT ?_
 refine rQ iU ?_;refine zO<|sR ?_;refine rC<|zT<|aN ?_
 exact⟨trivial,[],lg zV ⟨zR,zR,zR,zR,trivial⟩⟩
theorem va (t a:List UInt8) (r:List (List UInt8)) (ht:t≠aF) (hl:t.length≤1048576) (hsp:bC t 32=a::r) (hf:cY a bZ 0=none) (l:List (List POp)) (p:List POp):FnIs Tryz.prog 61 [.d (strD t),.ptr 0 [],.ptr 1 []] (S1 3 4 l p) (.d (i6 5)) (S1 3 4 l p):=by
 have h0:decide (t=aF)=false:=dF ht
 have hs:=ft (l:=t) (c:=32) (by omega)
 rw[hsp]at hs
 have g0:(a::r)[((0:Int)).toNat]?=some a:=rfl
 refine aw aa Tryz.func61 rfl rfl rfl ?_;refine sR<|rC<|zW ?_;refine rC ?_;refine rQ (bK (a:=t) (b:=aF) aa rfl rfl rfl) ?_;refine zG<|kS<|sR ?_;refine rC ?_;refine rQ (am hs rfl rfl (aj (aj ab)) (.inl rfl) (fun _=>rfl)) ?_;refine rC<|nQ ?_;refine aH (by kernel_rfl) ?_;refine dQ [2] [1] iM ?_;refine dC [5] [] ?_;refine dQ [22] [] iA ?_;refine dQ [23] [] iL ?_;refine dQ [21,24] [2] (iK (κ:=List UInt8) (enc:=strD) (l:=bZ) (k:=a) da Tryz.underlying124 qX rfl rfl rfl hf) ?_;refine dC [25] [] ?_;iterate 2 refine dC [20] [] ?_
 refine dC [26] [] ?_;refine dC [27] [] ?_;refine aB (by kernel_rfl)<|aK<|qR ?_;refine zU ?_
 iterate 3 refine rT ?_
 refine rQ iU ?_;refine zO<|sR ?_;refine rC<|zT<|aN ?_
 exact⟨trivial,[],lg zV ⟨zR,zR,zR,⟨rfl,cQ rfl _,_,rfl,c6 rfl rfl⟩,zR,trivial⟩⟩
theorem qC (t a:List UInt8) (r:List (List UInt8)) (ht:t≠aF) (hl:t.length≤1048576) (hsp:bC t 32=a::r) (f j:Nat) (hf:cY a bZ 0=some (j,fnA f)):FnIs Tryz.prog 61 [.d (strD t),.ptr 0 [],.ptr 1 []] S0 (.d (i6 5)) S0:=by
 have h0:decide (t=aF)=false:=dF ht
 have hs:=ft (l:=t) (c:=32) (by omega)
 rw[hsp]at hs
 have g0:(a::r)[((0:Int)).toNat]?=some a:=rfl
 refine aw aa Tryz.func61 rfl rfl rfl ?_;refine sR<|rC<|zW ?_;refine rC ?_;refine rQ (bK (a:=t) (b:=aF) aa rfl rfl rfl) ?_;refine zG<|kS<|sR ?_;refine rC ?_;refine rQ (am hs rfl rfl (aj (aj ab)) (.inl rfl) (fun _=>rfl)) ?_;refine rC<|nQ ?_;refine aH (by kernel_rfl) ?_;refine dQ [2] [1] iM ?_;refine dC [5] [] ?_;refine dQ [22] [] iA ?_;refine dQ [23] [] iL ?_;refine dQ [21,24] [2] (cE (κ:=List UInt8) (enc:=strD) (l:=bZ) (k:=a) da Tryz.underlying124 rfl rfl rfl hf) ?_;refine dC [25] [] ?_;iterate 2 refine dC [20] [] ?_
 refine dC [26] [] ?_;refine dC [27] [] ?_;refine aB (by kernel_rfl)<|aK<|qR ?_;refine zU ?_;refine rP ?_;refine rQ iM ?_;refine rP ?_;refine rQ (bB aa rfl rfl) ?_;refine rP ?_;refine rC ?_;refine rQ iG ?_;refine zO<|sR ?_;refine rC<|zT<|aN ?_
 exact⟨trivial,[],lg zV ⟨zR,zR,zR,zR,trivial⟩⟩
theorem vh (t a:List UInt8) (r:List (List UInt8)) (ht:t≠aF) (hl:t.length≤1048576) (hsp:bC t 32=a::r) (f j:Nat) (hf:cY a bZ 0=some (j,fnA f)) (o:POp) (hread:FnIs Tryz.prog f [.d (.arr 1 strD r)] [] (opR o false) []) (l:List (List POp)) (p:List POp) (hll:l.length≤1000):FnIs Tryz.prog 61 [.d (strD t),.ptr 0 [],.ptr 1 []] (S1 3 4 l p) (.d (i6 5)) (S1 3 4 l p):=by
 have h0:decide (t=aF)=false:=dF ht
 have hs:=ft (l:=t) (c:=32) (by omega)
 rw[hsp]at hs
 have g0:(a::r)[((0:Int)).toNat]?=some a:=rfl
 have hz:decide (((l.length+1:Nat):Int)=0)=false:=dF (by omega)
 refine aw aa Tryz.func61 rfl rfl rfl ?_;refine sR<|rC<|zW ?_;refine rC ?_;refine rQ (bK (a:=t) (b:=aF) aa rfl rfl rfl) ?_;refine zG<|kS<|sR ?_;refine rC ?_;refine rQ (am hs rfl rfl (aj (aj ab)) (.inl rfl) (fun _=>rfl)) ?_;refine rC<|nQ ?_;refine aH (by kernel_rfl) ?_;refine dQ [2] [1] iM ?_;refine dC [5] [] ?_;refine dQ [22] [] iA ?_;refine dQ [23] [] iL ?_;refine dQ [21,24] [2] (cE (κ:=List UInt8) (enc:=strD) (l:=bZ) (k:=a) da Tryz.underlying124 rfl rfl rfl hf) ?_;refine dC [25] [] ?_;iterate 2 refine dC [20] [] ?_
 refine dC [26] [] ?_;refine dC [27] [] ?_;refine aB (by kernel_rfl)<|aK<|qR ?_;refine zU ?_;refine rP ?_;refine rQ iM ?_;refine rP ?_;refine rQ (bB aa rfl rfl) ?_;refine rP ?_;refine rC ?_;refine rQ iG ?_;refine zJ<|kS<|sR ?_;refine zD ?_;refine rQ (dD (m:=1) aa rfl rfl rfl rfl rfl (Nat.succ_le_succ (Nat.zero_le _))) ?_;refine rQ (am hread rfl rfl (aj ab) (.inl rfl) (fun _=>rfl)) ?_;refine zU ?_;refine rN ?_;refine rW ?_;refine rC<|zW ?_;refine zU ?_
 iterate 4 refine rT ?_
 refine rQ iU ?_;refine zO<|sR ?_;refine rC<|zT<|aN ?_
 exact⟨trivial,[],lg zV ⟨zR,zR,zR,⟨rfl,cQ rfl _,_,rfl,c6 rfl rfl⟩,zR,trivial⟩⟩
theorem wC (t a:List UInt8) (r:List (List UInt8)) (ht:t≠aF) (hl:t.length≤1048576) (hsp:bC t 32=a::r) (f j:Nat) (hf:cY a bZ 0=some (j,fnA f)) (o:POp) (hok:o.Ok) (hdl:o.data.length≤524288) (hread:FnIs Tryz.prog f [.d (.arr 1 strD r)] [] (opR o true) []) (l:List (List POp)) (p:List POp) (hll:l.length≤1000) (hne:bg o≠t):FnIs Tryz.prog 61 [.d (strD t),.ptr 0 [],.ptr 1 []] (S1 3 4 l p) (.d (i6 5)) (S1 3 4 l p):=by
 have h0:decide (t=aF)=false:=dF ht
 have hs:=ft (l:=t) (c:=32) (by omega)
 rw[hsp]at hs
 have g0:(a::r)[((0:Int)).toNat]?=some a:=rfl
 have hz:decide (((l.length+1:Nat):Int)=0)=false:=dF (by omega)
 have hline:=nv o hok hdl
 have hn:(!decide (bg o=t))=true:=by rw[dF hne]; rfl
 refine aw aa Tryz.func61 rfl rfl rfl ?_;refine sR<|rC<|zW ?_;refine rC ?_;refine rQ (bK (a:=t) (b:=aF) aa rfl rfl rfl) ?_;refine zG<|kS<|sR ?_;refine rC ?_;refine rQ (am hs rfl rfl (aj (aj ab)) (.inl rfl) (fun _=>rfl)) ?_;refine rC<|nQ ?_;refine aH (by kernel_rfl) ?_;refine dQ [2] [1] iM ?_;refine dC [5] [] ?_;refine dQ [22] [] iA ?_;refine dQ [23] [] iL ?_;refine dQ [21,24] [2] (cE (κ:=List UInt8) (enc:=strD) (l:=bZ) (k:=a) da Tryz.underlying124 rfl rfl rfl hf) ?_;refine dC [25] [] ?_;iterate 2 refine dC [20] [] ?_
 refine dC [26] [] ?_;refine dC [27] [] ?_;refine aB (by kernel_rfl)<|aK<|qR ?_;refine zU ?_;refine rP ?_;refine rQ iM ?_;refine rP ?_;refine rQ (bB aa rfl rfl) ?_;refine rP ?_;refine rC ?_;refine rQ iG ?_;refine zJ<|kS<|sR ?_;refine zD ?_;refine rQ (dD (m:=1) aa rfl rfl rfl rfl rfl (Nat.succ_le_succ (Nat.zero_le _))) ?_;refine rQ (am hread rfl rfl (aj ab) (.inl rfl) (fun _=>rfl)) ?_;refine zU ?_;refine rN ?_;refine rW ?_;refine rC<|zW ?_;refine zU ?_;refine rP ?_;refine rQ iM ?_;refine rP ?_;refine rQ (am hline rfl rfl (aj ab) (.inl rfl) (fun _=>rfl)) ?_;refine rP ?_;refine rC ?_;refine rP ?_;refine rQ (de (a:=bg o) (b:=t) aa rfl rfl rfl) ?_;refine rQ iG ?_;refine zI<|sR ?_;refine rC<|zT<|aN ?_
 exact⟨trivial,[],lg zV ⟨zR,zR,zR,⟨rfl,cQ rfl _,_,rfl,c6 rfl rfl⟩,zR,trivial⟩⟩
theorem iV {b b' n:Nat} {p:List POp} {l:List (List POp)} {m m':Nat} {ρ:Nat→Option Nat} (hm:m=m') (hn:n=p.length) (hρ:ρ b'=some b):aY (.lits 113 1 m false (chM (.own b 0 n 3 none) (l.map encP))) (Row.ren ρ (rowL p l m' b')):=by
 subst hn
 exact c6 hm hρ
theorem wB (t a:List UInt8) (r:List (List UInt8)) (ht:t≠aF) (hl:t.length≤1048576) (hsp:bC t 32=a::r) (f j:Nat) (hf:cY a bZ 0=some (j,fnA f)) (o:POp) (hok:o.Ok) (hdl:o.data.length≤524288) (hread:FnIs Tryz.prog f [.d (.arr 1 strD r)] [] (opR o true) []) (l:List (List POp)) (p:List POp) (hll:l.length≤1000) (hpp:p.length≤1000) (heq:bg o=t) (b1 b2:Bool) (hb1:decide (64<((p.length+1:Nat):Int))=b1) (hb2:decide (64<((byI o.data).length:Int))=b2):FnIs Tryz.prog 61 [.d (strD t),.ptr 0 [],.ptr 1 []] (S1 3 4 l p) (.d (i6 (if b1||b2 then 3 else 0))) (S1 3 65 l (p++[o])):=by
 have h0:decide (t=aF)=false:=dF ht
 have hs:=ft (l:=t) (c:=32) (by omega)
 rw[hsp]at hs
 have g0:(a::r)[((0:Int)).toNat]?=some a:=rfl
 have hz:decide (((l.length+1:Nat):Int)=0)=false:=dF (by omega)
 have hline:=nv o hok hdl
 have hn:(!decide (bg o=t))=false:=by rw[dT heq]; rfl
 have hw:IntKind.i64.wrap (((l.length+1:Nat):Int)-1)=(l.length:Int):=by rw[aP (by omega) (by omega)]; omega
 have hsz:∀d∈l.map encP,d.size=1:=fun d hd=>by
  obtain⟨x,_,rfl⟩:=List.mem_map.1 hd
  rfl
 have hmm:l.length+1=(l.map encP).length+1:=by simp
 have hml:(l.map encP).length=l.length:=by simp
 have hpn:p.length+1=(p++[o]).length:=by simp
 have hpl:p.length+1≤1048576:=by omega
 refine aw aa Tryz.func61 rfl rfl rfl ?_
 cases b1 <;> cases b2
 ·refine sR<|rC<|zW ?_;refine rC ?_;refine rQ (bK (a:=t) (b:=aF) aa rfl rfl rfl) ?_;refine zG<|kS<|sR ?_;refine rC ?_;refine rQ (am hs rfl rfl (aj (aj ab)) (.inl rfl) (fun _=>rfl)) ?_;refine rC<|nQ ?_;refine aH (by kernel_rfl) ?_;refine dQ [2] [1] iM ?_;refine dC [5] [] ?_;refine dQ [22] [] iA ?_;refine dQ [23] [] iL ?_;refine dQ [21,24] [2] (cE (κ:=List UInt8) (enc:=strD) (l:=bZ) (k:=a) da Tryz.underlying124 rfl rfl rfl hf) ?_;refine dC [25] [] ?_;iterate 2 refine dC [20] [] ?_
  refine dC [26] [] ?_;refine dC [27] [] ?_;refine aB (by kernel_rfl)<|aK<|qR ?_;refine zU ?_;refine rP ?_;refine rQ iM ?_;refine rP ?_;refine rQ (bB aa rfl rfl) ?_;refine rP ?_;refine rC ?_;refine rQ iG ?_;refine zJ<|kS<|sR ?_;refine zD ?_;refine rQ (dD (m:=1) aa rfl rfl rfl rfl rfl (Nat.succ_le_succ (Nat.zero_le _))) ?_;refine rQ (am hread rfl rfl (aj ab) (.inl rfl) (fun _=>rfl)) ?_;refine zU ?_;refine rN ?_;refine rW ?_;refine rC<|zW ?_;refine zU ?_;refine rP ?_;refine rQ iM ?_;refine rP ?_;refine rQ (am hline rfl rfl (aj ab) (.inl rfl) (fun _=>rfl)) ?_;refine rP ?_;refine rC ?_;refine rP ?_;refine rQ (de (a:=bg o) (b:=t) aa rfl rfl rfl) ?_;refine rQ iG ?_;refine zG<|zQ ?_;refine aH (by kernel_rfl) ?_;iterate 2 refine dQ [1] [0] iM ?_
  refine dQ [51] [3] (bB aa rfl rfl) ?_;refine dQ [52] [] (cu (m:=(l.length:Int)) aa rfl rfl hw) ?_;refine dQ [50,53] [] (bc aa rfl rfl rfl rfl rfl (by omega) (by omega)) ?_;refine dQ [54] [3] (bF aa rfl rfl (gL (s:=1) (A :=.own 4 0 p.length 3 none) hsz hmm ((Int.toNat_natCast _).trans hml.symm)) rfl) ?_;refine dQ [8] [304] iM ?_;refine fp [56] [] rfl (aD (s:=3) aa rfl rfl rfl rfl rfl rfl rfl rfl) ?_;refine gX [55,57] [4,448] rfl (aM (xs:=p) (s:=3) (enc:=bv) aa o rfl rfl rfl rfl rfl rfl rfl rfl rfl hpl rfl) ?_;refine dC [58] [] ?_;refine aB (by kernel_rfl)<|aK<|sR ?_;iterate 2 refine rQ iM ?_
  refine rQ (bB aa rfl rfl) ?_;refine rQ (cu (m:=(l.length:Int)) aa rfl rfl hw) ?_;refine rC ?_;refine rQ (bc aa rfl rfl rfl rfl rfl (by omega) (by omega)) ?_;refine aR (aA aa rfl rfl rfl (gK (s:=1) hsz hmm ((Int.toNat_natCast _).trans hml.symm) rfl rfl) rfl)<|zW ?_;refine rC ?_;refine rQ (bB aa rfl rfl) ?_;refine zD ?_;refine rO ?_;refine rC ?_;refine rO ?_;refine rQ iB ?_;refine rO ?_;refine rQ iE ?_;refine rO ?_;refine rC ?_;refine rQ iF ?_;refine zG<|kS<|sR ?_;refine rC<|zT ?_
  exact⟨trivial,[(65,some 456)],lg zV ⟨zR,zR,zR,⟨rfl,cQ rfl _,_,rfl,iV rfl hpn rfl⟩,zR,trivial⟩⟩
 ·refine sR<|rC<|zW ?_;refine rC ?_;refine rQ (bK (a:=t) (b:=aF) aa rfl rfl rfl) ?_;refine zG<|kS<|sR ?_;refine rC ?_;refine rQ (am hs rfl rfl (aj (aj ab)) (.inl rfl) (fun _=>rfl)) ?_;refine rC<|nQ ?_;refine aH (by kernel_rfl) ?_;refine dQ [2] [1] iM ?_;refine dC [5] [] ?_;refine dQ [22] [] iA ?_;refine dQ [23] [] iL ?_;refine dQ [21,24] [2] (cE (κ:=List UInt8) (enc:=strD) (l:=bZ) (k:=a) da Tryz.underlying124 rfl rfl rfl hf) ?_;refine dC [25] [] ?_;iterate 2 refine dC [20] [] ?_
  refine dC [26] [] ?_;refine dC [27] [] ?_;refine aB (by kernel_rfl)<|aK<|qR ?_;refine zU ?_;refine rP ?_;refine rQ iM ?_;refine rP ?_;refine rQ (bB aa rfl rfl) ?_;refine rP ?_;refine rC ?_;refine rQ iG ?_;refine zJ<|kS<|sR ?_;refine zD ?_;refine rQ (dD (m:=1) aa rfl rfl rfl rfl rfl (Nat.succ_le_succ (Nat.zero_le _))) ?_;refine rQ (am hread rfl rfl (aj ab) (.inl rfl) (fun _=>rfl)) ?_;refine zU ?_;refine rN ?_;refine rW ?_;refine rC<|zW ?_;refine zU ?_;refine rP ?_;refine rQ iM ?_;refine rP ?_;refine rQ (am hline rfl rfl (aj ab) (.inl rfl) (fun _=>rfl)) ?_;refine rP ?_;refine rC ?_;refine rP ?_;refine rQ (de (a:=bg o) (b:=t) aa rfl rfl rfl) ?_;refine rQ iG ?_;refine zG<|zQ ?_;refine aH (by kernel_rfl) ?_;iterate 2 refine dQ [1] [0] iM ?_
  refine dQ [51] [3] (bB aa rfl rfl) ?_;refine dQ [52] [] (cu (m:=(l.length:Int)) aa rfl rfl hw) ?_;refine dQ [50,53] [] (bc aa rfl rfl rfl rfl rfl (by omega) (by omega)) ?_;refine dQ [54] [3] (bF aa rfl rfl (gL (s:=1) (A :=.own 4 0 p.length 3 none) hsz hmm ((Int.toNat_natCast _).trans hml.symm)) rfl) ?_;refine dQ [8] [304] iM ?_;refine fp [56] [] rfl (aD (s:=3) aa rfl rfl rfl rfl rfl rfl rfl rfl) ?_;refine gX [55,57] [4,448] rfl (aM (xs:=p) (s:=3) (enc:=bv) aa o rfl rfl rfl rfl rfl rfl rfl rfl rfl hpl rfl) ?_;refine dC [58] [] ?_;refine aB (by kernel_rfl)<|aK<|sR ?_;iterate 2 refine rQ iM ?_
  refine rQ (bB aa rfl rfl) ?_;refine rQ (cu (m:=(l.length:Int)) aa rfl rfl hw) ?_;refine rC ?_;refine rQ (bc aa rfl rfl rfl rfl rfl (by omega) (by omega)) ?_;refine aR (aA aa rfl rfl rfl (gK (s:=1) hsz hmm ((Int.toNat_natCast _).trans hml.symm) rfl rfl) rfl)<|zW ?_;refine rC ?_;refine rQ (bB aa rfl rfl) ?_;refine zD ?_;refine rO ?_;refine rC ?_;refine rO ?_;refine rQ iB ?_;refine rO ?_;refine rQ iE ?_;refine rO ?_;refine rC ?_;refine rQ iF ?_;refine zI<|sR ?_;refine rC<|zT<|aN ?_
  exact⟨trivial,[(65,some 456)],lg zV ⟨zR,zR,zR,⟨rfl,cQ rfl _,_,rfl,iV rfl hpn rfl⟩,zR,trivial⟩⟩
 ·refine sR<|rC<|zW ?_;refine rC ?_;refine rQ (bK (a:=t) (b:=aF) aa rfl rfl rfl) ?_;refine zG<|kS<|sR ?_;refine rC ?_;refine rQ (am hs rfl rfl (aj (aj ab)) (.inl rfl) (fun _=>rfl)) ?_;refine rC<|nQ ?_;refine aH (by kernel_rfl) ?_;refine dQ [2] [1] iM ?_;refine dC [5] [] ?_;refine dQ [22] [] iA ?_;refine dQ [23] [] iL ?_;refine dQ [21,24] [2] (cE (κ:=List UInt8) (enc:=strD) (l:=bZ) (k:=a) da Tryz.underlying124 rfl rfl rfl hf) ?_;refine dC [25] [] ?_;iterate 2 refine dC [20] [] ?_
  refine dC [26] [] ?_;refine dC [27] [] ?_;refine aB (by kernel_rfl)<|aK<|qR ?_;refine zU ?_;refine rP ?_;refine rQ iM ?_;refine rP ?_;refine rQ (bB aa rfl rfl) ?_;refine rP ?_;refine rC ?_;refine rQ iG ?_;refine zJ<|kS<|sR ?_;refine zD ?_;refine rQ (dD (m:=1) aa rfl rfl rfl rfl rfl (Nat.succ_le_succ (Nat.zero_le _))) ?_;refine rQ (am hread rfl rfl (aj ab) (.inl rfl) (fun _=>rfl)) ?_;refine zU ?_;refine rN ?_;refine rW ?_;refine rC<|zW ?_;refine zU ?_;refine rP ?_;refine rQ iM ?_;refine rP ?_;refine rQ (am hline rfl rfl (aj ab) (.inl rfl) (fun _=>rfl)) ?_;refine rP ?_;refine rC ?_;refine rP ?_;refine rQ (de (a:=bg o) (b:=t) aa rfl rfl rfl) ?_;refine rQ iG ?_;refine zG<|zQ ?_;refine aH (by kernel_rfl) ?_;iterate 2 refine dQ [1] [0] iM ?_
  refine dQ [51] [3] (bB aa rfl rfl) ?_;refine dQ [52] [] (cu (m:=(l.length:Int)) aa rfl rfl hw) ?_;refine dQ [50,53] [] (bc aa rfl rfl rfl rfl rfl (by omega) (by omega)) ?_;refine dQ [54] [3] (bF aa rfl rfl (gL (s:=1) (A :=.own 4 0 p.length 3 none) hsz hmm ((Int.toNat_natCast _).trans hml.symm)) rfl) ?_;refine dQ [8] [304] iM ?_;refine fp [56] [] rfl (aD (s:=3) aa rfl rfl rfl rfl rfl rfl rfl rfl) ?_;refine gX [55,57] [4,448] rfl (aM (xs:=p) (s:=3) (enc:=bv) aa o rfl rfl rfl rfl rfl rfl rfl rfl rfl hpl rfl) ?_;refine dC [58] [] ?_;refine aB (by kernel_rfl)<|aK<|sR ?_;iterate 2 refine rQ iM ?_
  refine rQ (bB aa rfl rfl) ?_;refine rQ (cu (m:=(l.length:Int)) aa rfl rfl hw) ?_;refine rC ?_;refine rQ (bc aa rfl rfl rfl rfl rfl (by omega) (by omega)) ?_;refine aR (aA aa rfl rfl rfl (gK (s:=1) hsz hmm ((Int.toNat_natCast _).trans hml.symm) rfl rfl) rfl)<|zW ?_;refine rC ?_;refine rQ (bB aa rfl rfl) ?_;refine zD ?_
  iterate 4 refine rS ?_
  refine rQ iT ?_;refine zO<|sR ?_;refine rC<|zT<|aN ?_
  exact⟨trivial,[(65,some 456)],lg zV ⟨zR,zR,zR,⟨rfl,cQ rfl _,_,rfl,iV rfl hpn rfl⟩,zR,trivial⟩⟩
 ·refine sR<|rC<|zW ?_;refine rC ?_;refine rQ (bK (a:=t) (b:=aF) aa rfl rfl rfl) ?_;refine zG<|kS<|sR ?_;refine rC ?_;refine rQ (am hs rfl rfl (aj (aj ab)) (.inl rfl) (fun _=>rfl)) ?_;refine rC<|nQ ?_;refine aH (by kernel_rfl) ?_;refine dQ [2] [1] iM ?_;refine dC [5] [] ?_;refine dQ [22] [] iA ?_;refine dQ [23] [] iL ?_;refine dQ [21,24] [2] (cE (κ:=List UInt8) (enc:=strD) (l:=bZ) (k:=a) da Tryz.underlying124 rfl rfl rfl hf) ?_;refine dC [25] [] ?_;iterate 2 refine dC [20] [] ?_
  refine dC [26] [] ?_;refine dC [27] [] ?_;refine aB (by kernel_rfl)<|aK<|qR ?_;refine zU ?_;refine rP ?_;refine rQ iM ?_;refine rP ?_;refine rQ (bB aa rfl rfl) ?_;refine rP ?_;refine rC ?_;refine rQ iG ?_;refine zJ<|kS<|sR ?_;refine zD ?_;refine rQ (dD (m:=1) aa rfl rfl rfl rfl rfl (Nat.succ_le_succ (Nat.zero_le _))) ?_;refine rQ (am hread rfl rfl (aj ab) (.inl rfl) (fun _=>rfl)) ?_;refine zU ?_;refine rN ?_;refine rW ?_;refine rC<|zW ?_;refine zU ?_;refine rP ?_;refine rQ iM ?_;refine rP ?_;refine rQ (am hline rfl rfl (aj ab) (.inl rfl) (fun _=>rfl)) ?_;refine rP ?_;refine rC ?_;refine rP ?_;refine rQ (de (a:=bg o) (b:=t) aa rfl rfl rfl) ?_;refine rQ iG ?_;refine zG<|zQ ?_;refine aH (by kernel_rfl) ?_;iterate 2 refine dQ [1] [0] iM ?_
  refine dQ [51] [3] (bB aa rfl rfl) ?_;refine dQ [52] [] (cu (m:=(l.length:Int)) aa rfl rfl hw) ?_;refine dQ [50,53] [] (bc aa rfl rfl rfl rfl rfl (by omega) (by omega)) ?_;refine dQ [54] [3] (bF aa rfl rfl (gL (s:=1) (A :=.own 4 0 p.length 3 none) hsz hmm ((Int.toNat_natCast _).trans hml.symm)) rfl) ?_;refine dQ [8] [304] iM ?_;refine fp [56] [] rfl (aD (s:=3) aa rfl rfl rfl rfl rfl rfl rfl rfl) ?_;refine gX [55,57] [4,448] rfl (aM (xs:=p) (s:=3) (enc:=bv) aa o rfl rfl rfl rfl rfl rfl rfl rfl rfl hpl rfl) ?_;refine dC [58] [] ?_;refine aB (by kernel_rfl)<|aK<|sR ?_;iterate 2 refine rQ iM ?_
  refine rQ (bB aa rfl rfl) ?_;refine rQ (cu (m:=(l.length:Int)) aa rfl rfl hw) ?_;refine rC ?_;refine rQ (bc aa rfl rfl rfl rfl rfl (by omega) (by omega)) ?_;refine aR (aA aa rfl rfl rfl (gK (s:=1) hsz hmm ((Int.toNat_natCast _).trans hml.symm) rfl rfl) rfl)<|zW ?_;refine rC ?_;refine rQ (bB aa rfl rfl) ?_;refine zD ?_
  iterate 4 refine rS ?_
  refine rQ iT ?_;refine zO<|sR ?_;refine rC<|zT<|aN ?_
  exact⟨trivial,[(65,some 456)],lg zV ⟨zR,zR,zR,⟨rfl,cQ rfl _,_,rfl,iV rfl hpn rfl⟩,zR,trivial⟩⟩
end Go.Proofs.YtjfkhlamjdbfkaaGreatDoor
namespace Go.Proofs.YtjfkhlamjdbfkaaGreatDoor
open Go.Eng Go.Plain
set_option maxHeartbeats 32000000
set_option maxRecDepth 20000
theorem tS {w:List (List UInt8)} (h:(opW w).2=true):∃k i d,w=[k,i,d]∧opF k i d=some (opW w).1:=by
 unfold opW at h ⊢
 split
 ·rename_i k i d
  exact⟨k,i,d,rfl,by rw[tU,if_pos h]⟩
 ·rename_i hn
  split at h
  ·rename_i k i d
   exact absurd rfl (hn k i d)
  ·cases h
theorem tT {k i d:List UInt8} (h:(opW [k,i,d]).2=false):opF k i d=none:=by
 rw[tU,if_neg]
 intro hc
 rw[show (opW [k,i,d]).2=opOk k i d from rfl,hc]at h
 cases h
theorem vJ {k i d:List UInt8} {o:POp} (h:opF k i d=some o) (hd:d.length≤1048576):o.data.length≤524288:=by
 simp only[opF]at h
 split at h
 ·rename_i d' _ _ h3
  cases h
  have:=rB h3
  simp only
  omega
 ·cases h
theorem mv (a:List UInt8) (r:List (List UInt8)) (hw:∀x∈r,x.length≤1048576) (hl:a.length+r.length≤1048576) :
  (cY a bZ 0=none∧ch (a::r)=none)∨∃j f o b,cY a bZ 0=some (j,fnA f)∧FnIs Tryz.prog f [.d (.arr 1 strD r)] [] (opR o b) []∧(b=true→ch (a::r)=some o∧o.Ok∧o.data.length≤524288)∧(b=false→ch (a::r)=none):=by
 have fin:∀(ws:List (List UInt8)),(∀x∈ws,x.length≤1048576)→(∀o,ch (a::r)=some o→o.Ok)→(∀k i d,ws=[k,i,d]→ch (a::r)=opF k i d)→((∀k i d,ws≠[k,i,d])→ch (a::r)=none) →
   ((opW ws).2=true→ch (a::r)=some (opW ws).1∧(opW ws).1.Ok∧(opW ws).1.data.length≤524288)∧((opW ws).2=false→ch (a::r)=none):=by
  intro ws hx hk h1 h2
  constructor
  ·intro h
   obtain⟨k,i,d,e,h3⟩:=tS h
   have h4:ch (a::r)=some (opW ws).1:=(h1 k i d e).trans h3
   exact⟨h4,hk _ h4,vJ h3 (hx d (by rw[e]; simp))⟩
  ·intro h
   by_cases hs:∃k i d,ws=[k,i,d]
   ·obtain⟨k,i,d,rfl⟩:=hs
    exact (h1 k i d rfl).trans (tT h)
   ·exact h2 fun k i d e=>hs ⟨k,i,d,e⟩
 have hok:∀o,ch (a::r)=some o→o.Ok:=fun o h=>ot h
 by_cases h1:a=eC
 ·subst h1
  refine .inr ⟨0,82,_,_,rfl,pU r hw (by simp[eC,cB,dX]at hl; omega),?_⟩
  refine fin _ ?_ hok ?_ ?_
  ·intro x hx
   rcases List.mem_cons.1 hx with rfl | hx
   ·decide
   ·rcases List.mem_append.1 hx with hx | hx
    ·exact hw x hx
    ·rw[List.mem_singleton.1 hx]; decide
  ·intro k i d e
   match r,e with
   | [x],e=>cases e; simp[ch]
   | [],e=>cases e
   | _::_::_,e=>simp at e
  ·intro hn
   match r,hn with
   | [x],hn=>exact absurd rfl (hn [49] x [45])
   | [],_=>simp[ch]
   | _::_::_,_=>simp[ch]
 by_cases h2:a=cB
 ·subst h2
  refine .inr ⟨1,85,_,_,rfl,pT r hw (by simp[eC,cB,dX]at hl; omega),?_⟩
  refine fin _ ?_ hok ?_ ?_
  ·intro x hx
   rcases List.mem_cons.1 hx with rfl | hx
   ·decide
   ·exact hw x hx
  ·intro k i d e
   match r,e with
   | [x,y],e=>cases e; simp[ch,h1]
   | [],e=>cases e
   | [_],e=>cases e
   | _::_::_::_,e=>simp at e
  ·intro hn
   match r,hn with
   | [x,y],hn=>exact absurd rfl (hn [50] x y)
   | [],_=>simp[ch,h1]
   | [_],_=>simp[ch,h1]
   | _::_::_::_,_=>simp[ch,h1]
 by_cases h3:a=dX
 ·subst h3
  refine .inr ⟨2,86,_,_,rfl,pS r hw (by simp[eC,cB,dX]at hl; omega),?_⟩
  refine fin _ ?_ hok ?_ ?_
  ·intro x hx
   simp only[List.mem_cons]at hx
   rcases hx with rfl | rfl | rfl | hx
   ·decide
   ·decide
   ·decide
   ·exact hw x hx
  ·intro k i d e
   match r,e with
   | [],e=>cases e; simp[ch,h1,h2]
   | _::_,e=>simp at e
  ·intro hn
   match r,hn with
   | [],hn=>exact absurd rfl (hn [51] [48] [45])
   | _::_,_=>simp[ch,h1,h2]
 by_cases h4:a=sOp
 ·subst h4
  refine .inr ⟨3,83,_,_,rfl,eG r hw,?_⟩
  refine fin _ hw hok ?_ ?_
  ·intro k i d e
   subst e
   simp[ch,h1,h2,h3]
  ·intro hn
   match r,hn with
   | [k,i,d],hn=>exact absurd rfl (hn k i d)
   | [],_=>simp[ch,h1,h2,h3]
   | [_],_=>simp[ch,h1,h2,h3]
   | [_,_],_=>simp[ch,h1,h2,h3]
   | _::_::_::_::_,_=>simp[ch,h1,h2,h3]
 ·refine .inl ⟨?_,by simp[ch,h1,h2,h3,h4]⟩
  simp[bZ,cY,Ne.symm h1,Ne.symm h2,Ne.symm h3,Ne.symm h4,h1,h2,h3,h4]
abbrev addC:FuncId:=61
abbrev addA (t:List UInt8):List AV:=[.d (strD t),.ptr 0 [],.ptr 1 []]
theorem vf {t:List UInt8} (ht:t≠aF) (hl:t.length≤1048575):(addP [] t).2=5∧FnIs Tryz.prog addC (addA t) S0 (.d (i6 5)) S0:=by
 have h5:(addP [] t).2=5:=by
  simp only[addP,if_neg ht]
  cases eR t <;> rfl
 refine⟨h5,?_⟩
 cases hs:bC t 32 with
 | nil=>exact absurd hs (mm t 32)
 | cons a r =>
  have hh:=k5 hs
  have hw:∀x∈r,x.length≤1048576:=fun x hx=>by
   have:=dJ t 32 x (by rw[hs]; simp[hx])
   omega
  rcases mv a r hw (by omega)with ⟨hf,_⟩ | ⟨j,f,o,b,hf,_⟩
  ·exact vc t a r ht (by omega) hs hf
  ·exact qC t a r ht (by omega) hs f j hf
theorem ve {t:List UInt8} (ht:t≠aF) (hl:t.length≤1048575) (l:List (List POp)) (p:List POp) (hll:l.length≤1000) (hpp:p.length≤1000) :
  (∃e:Int,e≠0∧(addP (l++[p]) t).2=e∧(FnIs Tryz.prog addC (addA t) (S1 3 4 l p) (.d (i6 e)) (S1 3 4 l p)∨∃o,FnIs Tryz.prog addC (addA t) (S1 3 4 l p) (.d (i6 e)) (S1 3 65 l (p++[o])))) ∨
  ∃o,addP (l++[p]) t=(l++[p++[o]],0)∧FnIs Tryz.prog addC (addA t) (S1 3 4 l p) (.d (i6 0)) (S1 3 65 l (p++[o])):=by
 cases hs:bC t 32 with
 | nil=>exact absurd hs (mm t 32)
 | cons a r =>
  have hh:=k5 hs
  have hw:∀x∈r,x.length≤1048576:=fun x hx=>by
   have:=dJ t 32 x (by rw[hs]; simp[hx])
   omega
  have hno:eR t=none→(addP (l++[p]) t).2=5:=fun h=>by simp only[addP,if_neg ht,h]
  rcases mv a r hw (by omega)with ⟨hf,hr⟩ | ⟨j,f,o,b,hf,hread,hb1,hb2⟩
  ·exact .inl ⟨5,by decide,hno (by simp only[eR,hs,hr]),.inl (va t a r ht (by omega) hs hf l p)⟩
  ·cases b with
   | false=>exact .inl ⟨5,by decide,hno (by simp only[eR,hs,hb2 rfl]),.inl (vh t a r ht (by omega) hs f j hf o hread l p hll)⟩
   | true =>
    obtain⟨h1,h2,h3⟩:=hb1 rfl
    by_cases he:bg o=t
    ·have hr:eR t=some o:=by simp only[eR,hs,h1,if_pos he]
     have hok:=wB t a r ht (by omega) hs f j hf o h2 h3 hread l p hll hpp he _ _ rfl rfl
     have hne:¬(l++[p]=[]):=by simp
     have hg:(l++[p]).getLast?.getD []=p:=by simp
     have hbl:(byI o.data).length=o.data.length:=b5 _
     by_cases hbig:64<p.length+1∨64<o.data.length
     ·have hb:(decide (64<((p.length+1:Nat):Int))||decide (64<((byI o.data).length:Int)))=true:=by
       rw[Bool.or_eq_true,decide_eq_true_eq,decide_eq_true_eq,hbl]
       rcases hbig with h | h
       ·exact .inl (by omega)
       ·exact .inr (by omega)
      rw[hb]at hok
      refine .inl ⟨3,by decide,?_,.inr ⟨o,hok⟩⟩
      simp only[addP,if_neg ht,hr,if_neg hne,hg,if_pos hbig]
     ·have hb:(decide (64<((p.length+1:Nat):Int))||decide (64<((byI o.data).length:Int)))=false:=by
       rw[Bool.or_eq_false_iff,decide_eq_false_iff_not,decide_eq_false_iff_not,hbl]
       exact⟨by omega,by omega⟩
      rw[hb]at hok
      refine .inr ⟨o,?_,hok⟩
      simp only[addP,if_neg ht,hr,if_neg hne,hg,if_neg hbig,dK]
    ·exact .inl ⟨5,by decide,hno (by simp only[eR,hs,h1,if_neg he]),.inl (wC t a r ht (by omega) hs f j hf o h2 h3 hread l p hll he)⟩
end Go.Proofs.YtjfkhlamjdbfkaaGreatDoor
namespace Go.Proofs.YtjfkhlamjdbfkaaGreatDoor
open Go.Eng Go.Plain
set_option maxHeartbeats 32000000
set_option maxRecDepth 20000
attribute [local irreducible] WC RegS RegD SeqQ BlkQ ScoQ RegK CutK Sat SatN FnIs LoopQ aq OpIs
abbrev parR (l:List (List POp)) (n:Nat) (e:Int):AV :=.tup (.acons (.d (.arx 1 ii l)) (.acons (.int .i64 n) (.acons (.d (i6 e)) .anil)))
theorem cp {α:Type} (s:Nat) (enc:α→D):AVLe (.d (.sc nil_)) (.d (.arx s enc [])):=fun σ w X v h=>AVLe.empty_arx s enc σ w X v (AVLe.nil_empty σ w X v h)
def toL:Option (List (List POp)×List POp)→List (List POp)
 | none=>[]
 | some (l,p)=>l++[p]
abbrev addF:AV :=.fn (.func 61) .anil (.acons (.ptr 65 []) (.acons (.ptr 66 []) .anil))
@[reducible] noncomputable def pSt:Option (List (List POp)×List POp)×List UInt8×Nat→St
 | (none,s,n)=>⟨[(6,addF),(3,.int .i64 n),(2,.ptr 65 []),(0,.d (strD s))],[(65,some (.box 110 (.own 68 0 0 1 none))),(66,some (.box 124 (.mapr 67))),(67,some (.mo (mapC strD bZ))),(68,some (.ds 113 1 false encO []))],72,Tryz.f48.ntmps,64⟩
 | (some (l,p),s,n)=>⟨[(6,addF),(3,.int .i64 n),(2,.ptr 65 []),(0,.d (strD s))],[(65,some (.box 110 (.own 68 0 (l.length+1) 1 none))),(66,some (.box 124 (.mapr 67))),(67,some (.mo (mapC strD bZ))),(68,some (rowL p l (l.length+1) 69)),(69,some (rowP p))],72,Tryz.f48.ntmps,64⟩
theorem lA {b b' c:Nat} {p:List POp} {l:List (List POp)} {m m':Nat} {ρ ρ':Nat→Option Nat} (hm:m=m') (h1:ρ b=some c) (h2:ρ' b'=some c):aY (Row.ren ρ (rowL p l m b)) (Row.ren ρ' (rowL p l m' b')):=by
 subst hm
 show aY (.lits _ _ _ _ (AV.ren ρ (chM _ _))) (.lits _ _ _ _ (AV.ren ρ' (chM _ _)))
 rw[jh,jh]
 have e1:AV.ren ρ (.own b 0 p.length 3 none)=.own c 0 p.length 3 none:=by simp[AV.ren,h1]
 have e2:AV.ren ρ' (.own b' 0 p.length 3 none)=.own c 0 p.length 3 none:=by simp[AV.ren,h2]
 rw[e1,e2]
 exact .refl _
theorem wA {α β:Type} {s:Nat} {enc:α→D} {enc':β→D} {g:β→α} {xs:List β} {ys:List α} (hy:ys=xs.map g) (h:∀x,enc (g x)=enc' x):∀(σ:Eng.Place) (w:World) (X:Nat→Prop) (cs:List Value),Rel σ w X (.d (.arr s enc ys)) false cs→Rel σ w X (.d (.arr s enc' xs)) false cs:=by
 subst hy
 intro σ w X v hv
 rcases hv with ⟨h1,rfl⟩ | ⟨a,c,rfl,h2,h3,f,hf⟩
 ·exact .inl ⟨by simpa using h1,rfl⟩
 ·refine .inr ⟨a,c,by rw[List.length_map],by rw[List.length_map]at h2; exact h2,h3,f,fun i hi=>?_⟩
  have:=hf i (by rw[List.length_map]; exact hi)
  rw[List.getElem_map,h]at this
  exact this
theorem u9 {α β:Type} {s:Nat} (enc:α→D) (enc':β→D):∀(σ:Eng.Place) (w:World) (X:Nat→Prop) (cs:List Value),Rel σ w X (.d (.arr s enc [])) false cs→Rel σ w X (.d (.arr s enc' [])) false cs:=by
 intro σ w X v hv
 rcases hv with ⟨_,rfl⟩ | ⟨a,c,rfl,h2,h3,f,_⟩
 ·exact .inl ⟨rfl,rfl⟩
 ·exact .inr ⟨a,c,rfl,h2,h3,f,fun i hi=>absurd hi (Nat.not_lt_zero _)⟩
def enc2:Bool×List POp→D
 | (true,p)=>ii p
 | (false,p)=>encP p
theorem sF (x:Bool×List POp):(enc2 x).size=1:=by obtain⟨b,p⟩:=x; cases b <;> rfl
def mkL (L:List (List POp)) (i:Nat):List (Bool×List POp):=(L.take i).map (fun p=>(true,p))++(L.drop i).map (fun p=>(false,p))
theorem vP (L:List (List POp)) (i:Nat):(mkL L i).length=L.length:=by simp[mkL]; omega
theorem vQ {L:List (List POp)} {i:Nat} {x:List POp} (h:L[i]?=some x):(mkL L i)[i]?=some (false,x):=by
 have hi:i<L.length:=(List.getElem?_eq_some_iff.1 h).1
 rw[mkL,List.getElem?_append_right (by simp; omega)]
 simp only[List.length_map,List.length_take,Nat.min_eq_left (Nat.le_of_lt hi),Nat.sub_self,List.getElem?_map,List.getElem?_drop,Nat.add_zero,h,Option.map_some]
theorem vO {L:List (List POp)} {i:Nat} {x:List POp} (h:L[i]?=some x):(mkL L i).set i (true,x)=mkL L (i+1):=by
 have hi:i<L.length:=(List.getElem?_eq_some_iff.1 h).1
 have hx:L[i]=x:=(List.getElem?_eq_some_iff.1 h).2
 rw[mkL,mkL,List.set_append_right _ _ (by simp; omega),List.drop_eq_getElem_cons hi,hx,List.take_add_one,h]
 simp[Nat.min_eq_left (Nat.le_of_lt hi)]
def PInv (s0:List UInt8):Option (List (List POp)×List POp)×List UInt8×Nat→Prop
 | (q,s,n)=>bz s (toL q) n=bz s0 [] 1∧chkP (toL q)=0∧OkL (toL q)∧s.length+n≤s0.length+1∧1≤n
theorem wo {s t r:List UInt8} {c:UInt8} (h:cutL s c=some (t,r)):t.length+r.length+1=s.length:=by
 rw[(ct h).1]; simp; omega
theorem p5 (s0:List UInt8) (hl:s0.length≤1048576):FnIs Tryz.prog 48 [.d (strD s0)] [] (parR (bz s0 [] 1).1 (bz s0 [] 1).2.1 (bz s0 [] 1).2.2) []:=by
 have hd:decide (1048576<(s0.length:Int))=false:=dF (by omega)
 refine aw aa Tryz.func48 rfl rfl rfl ?_;refine sR<|rN ?_;refine zD<|zW ?_;refine rC ?_;refine rQ (eD aa rfl rfl) ?_;refine rC ?_;refine zG<|kS<|sR ?_;refine aG (pa pR rfl rfl ab (.inl rfl) rfl rfl) rfl ?_;refine rN ?_;refine rW<|nR ?_;refine zD<|zW ?_;refine rC<|zP ?_
 refine wc_inv pSt (PInv s0) (fun a=>a.2.1.length) (none,s0,1) [(65,some 64),(66,some 120),(67,some 112),(68,none)] ⟨rfl,rfl,by intro p hp; simp[toL]at hp,Nat.le_refl _,Nat.le_refl _⟩
  (lg zi ⟨zR,zR,zR,⟨rfl,rfl,rfl⟩,trivial⟩) ?_
 rintro⟨q,s,n⟩ ⟨hp,hc0,hok,hn,hn1⟩
 by_cases hs:s=[]
 ·have hR:bz s0 [] 1=(toL q,0,0):=by rw[←hp,hs,fN]
  rw[hR]
  have hs1:(!decide (s=[]))=false:=by rw[hs]; rfl
  cases q with
  | none =>
   have hcl:=mV [] (by decide)
   have hcp:=o5 []
   refine bH<|qR ?_;refine rC ?_;refine rQ (de (a:=s) (b:=[]) aa rfl rfl rfl) ?_;refine zG<|cz<|eZ<|gq<|fj<|aK<|qR ?_;refine rQ iM ?_;refine rQ (bB aa rfl rfl) ?_;refine rC<|zP ?_;refine m7<|sR ?_;refine rC<|nQ ?_;refine wG<|zX<|sR ?_;refine rQ iM ?_;refine bE (env':=[(53,_),(2,_)]) (h':=[(65,some _)]) 68 _ rfl ⟨⟨_,rfl,Frz.le (y :=.d (.arr 1 ii [])) (Frz.own rfl) rfl (fun _=>rfl) (fun _ _=>trivial) (u9 encO ii)⟩,zE,trivial⟩ ⟨⟨rfl,_,rfl,.refl _⟩,trivial⟩ ?_;refine rQ (am hcl rfl rfl (aj ab) (.inl rfl) (fun _=>rfl)) ?_;refine rQ (am hcp rfl rfl (aj ab) (.inl rfl) (fun _=>rfl)) ?_;refine rW ?_;refine zD<|zT ?_
   exact⟨trivial,_,rfl,[],lf⟩
  | some lp =>
   obtain⟨l,p⟩:=lp
   obtain⟨c1,c2⟩:=dA.1 hc0
   have hl8:l.length+1≤8:=by simpa[toL]using c1
   have hLl:(l++[p]).length=l.length+1:=by simp
   have hcl:=mV (l++[p]) (by rw[hLl]; omega)
   have hcp:=o5 (l++[p])
   refine bH<|qR ?_;refine rC ?_;refine rQ (de (a:=s) (b:=[]) aa rfl rfl rfl) ?_;refine zG<|cz<|eZ<|gq<|fj<|aK<|qR ?_;refine bE (env':=[(2,_)]) (h':=[(65,some _),(68,some _)]) 69 _ rfl ⟨zE,trivial⟩ ⟨⟨rfl,_,rfl,.refl _⟩,⟨rfl,_,rfl,FrzR.last (enc:=enc2) (xs:=l.map (fun p=>(false,p))) (y:=(false,p)) rfl rfl (by simp) sF (by simp[enc2])⟩,trivial⟩ ?_;refine rQ iM ?_;refine rQ (bB aa rfl rfl) ?_;refine rC<|zP ?_
   refine wc_inv (fun i:Nat=>⟨[(40,.int .i64 i),(39,.int .i64 ((l.length+1:Nat):Int)),(2,.ptr 65 [])],[(65,some (.box 110 (.own 68 0 (l.length+1) 1 none))),(68,some (.ds 113 1 false enc2 (mkL (l++[p]) i)))],72,Tryz.f48.ntmps,64⟩) (fun i=>i≤l.length+1) (fun i=>l.length+1-i) 0 [] (Nat.zero_le _)
    (lg zj ⟨zR,⟨rfl,rfl,_,rfl,aY.of_eq (by simp[mkL]; rfl)⟩,trivial⟩) ?_
   intro i hi
   refine bH<|sR ?_;refine rC<|nQ ?_
   refine bW rfl (fun h3=>?_) (fun h3=>?_)
   ·have hlt:i<l.length+1:=by have:=of_decide_eq_true h3; omega
    obtain⟨x,hx⟩:∃x,(l++[p])[i]?=some x:=⟨_,List.getElem?_eq_getElem (by rw[hLl]; exact hlt)⟩
    have hxl:x.length≤1048576:=by
     have:=c2 x (List.mem_of_getElem? hx)
     simp only[badP,Bool.or_eq_false_iff,decide_eq_false_iff_not]at this
     omega
    have hgx:(mkL (l++[p]) i)[((i:Int)).toNat]?=some (false,x):=by rw[Int.toNat_natCast]; exact vQ hx
    have hset:=vO hx
    have hc1:=uP x hxl
    have hc2:=wu x
    refine zQ<|zS<|zD<|nS ?_;refine aH (by kernel_rfl) ?_;refine dQ [2] [65] iM ?_;refine dC [11] [] ?_;refine dQ [2] [65] iM ?_;refine dC [11] [] ?_;refine dQ [45,46] [] (bc aa rfl rfl rfl rfl rfl (by omega) (by omega)) ?_;refine dQ [47] [68] (bF aa rfl rfl ⟨rfl,(false,x),hgx,_,rfl,rfl⟩ rfl) ?_;refine dQ [48] [] (am hc1 rfl rfl (aj ab) (.inl rfl) (fun _=>rfl)) ?_;refine dQ [49] [] (am hc2 rfl rfl (aj ab) (.inl rfl) (fun _=>rfl)) ?_;refine dQ [43,44] [] (bc aa rfl rfl rfl rfl rfl (by omega) (by omega)) ?_;refine bp [51,50] [68] (aA aa rfl rfl rfl ⟨rfl,(false,x),(true,x),hgx,⟨rfl,rfl,rfl⟩,rfl⟩ rfl) ?_;refine aB (by kernel_rfl)<|gh<|aK<|ai ?_;refine rQ iD ?_;refine rC<|ay ?_
    exact aL (i+1) [] hlt (by omega) (lg zj ⟨zR,⟨rfl,rfl,_,rfl,aY.of_eq (congrArg (Row.ds 113 1 false enc2) hset)⟩,trivial⟩)
   ·have he:i=l.length+1:=by have:=of_decide_eq_false h3; omega
    subst he
    have hml:l.length+1=(mkL (l++[p]) (l.length+1)).length:=by rw[vP,hLl]
    have hmk:mkL (l++[p]) (l.length+1)=(l++[p]).map (fun p=>(true,p)):=by rw[mkL,←hLl,List.take_length,List.drop_length]; simp
    refine zX<|sR<|rQ iM ?_;refine bE (env':=[(53,_),(2,_)]) (h':=[(65,some _)]) 68 _ rfl ⟨⟨_,rfl,Frz.le (y :=.d (.arr 1 ii (l++[p]))) (Frz.own hml) rfl (fun _=>rfl) (fun _ _=>trivial) (wA (enc':=ii) (xs:=l++[p]) (g:=fun p=>(true,p)) hmk (fun _=>rfl))⟩,zE,trivial⟩ ⟨⟨rfl,_,rfl,.refl _⟩,trivial⟩ ?_
    refine rQ (am hcl rfl rfl (aj ab) (.inl rfl) (fun _=>rfl)) ?_;refine rQ (am hcp rfl rfl (aj ab) (.inl rfl) (fun _=>rfl)) ?_;refine rW ?_;refine zD<|zT ?_
    exact⟨trivial,_,rfl,[],lf⟩
 have hs1:(!decide (s=[]))=true:=by rw[dF hs]; rfl
 cases hcut:cutL s 10 with
 | none =>
  have hR:bz s0 [] 1=([],n,5):=by rw[←hp,j9 _ _ hs hcut]
  have hc:=jP (l:=s) (c:=10) (by omega)
  rw[show cutA s 10=(s,[],false) by simp only[cutA,hcut]]at hc
  rw[hR]
  cases q with
  | none =>
   refine bH<|qR ?_;refine rC ?_;refine rQ (de (a:=s) (b:=[]) aa rfl rfl rfl) ?_;refine zI<|zQ<|br<|sR ?_;refine rC ?_;refine rQ (am hc rfl rfl (aj (aj ab)) (.inl rfl) (fun _=>rfl)) ?_;iterate 7 refine rC ?_
   refine zW<|zD ?_;refine zO<|sR ?_;refine rC ?_;refine rW ?_;refine zD<|zT<|aN<|zB<|b8<|zB ?_
   exact⟨trivial,_,rfl,[],lg ⟨⟨_,rfl,AVLe.tup1 (cp _ _) rfl⟩,rfl,trivial⟩ trivial⟩
  | some lp =>
   obtain⟨l,p⟩:=lp
   refine bH<|qR ?_;refine rC ?_;refine rQ (de (a:=s) (b:=[]) aa rfl rfl rfl) ?_;refine zI<|zQ<|br<|sR ?_;refine rC ?_;refine rQ (am hc rfl rfl (aj (aj ab)) (.inl rfl) (fun _=>rfl)) ?_;iterate 7 refine rC ?_
   refine zW<|zD ?_;refine zO<|sR ?_;refine rC ?_;refine rW ?_;refine zD<|zT<|aN<|zB<|b8<|zB ?_
   exact⟨trivial,_,rfl,[],lg ⟨⟨_,rfl,AVLe.tup1 (cp _ _) rfl⟩,rfl,trivial⟩ trivial⟩
 | some tr =>
  obtain⟨tx,rest⟩:=tr
  have hlen:=wo hcut
  have hc:=jP (l:=s) (c:=10) (by omega)
  rw[show cutA s 10=(tx,rest,true) by simp only[cutA,hcut]]at hc
  have hP:=fa (toL q) n hs hcut
  rw[hp]at hP
  cases q with
  | none =>
   by_cases ht:tx=aF
   ·have hadd0:=pj tx ht
    have hA:addP (toL none) tx=([[]],0):=by simp[addP,ht,toL]
    have hR:bz s0 [] 1=bz rest (toL (some ([],[]))) (n+1):=by rw[hP,hA]; rfl
    refine bH<|qR ?_;refine rC ?_;refine rQ (de (a:=s) (b:=[]) aa rfl rfl rfl) ?_;refine zI<|zQ<|br<|sR ?_;refine rC ?_;refine rQ (am hc rfl rfl (aj (aj ab)) (.inl rfl) (fun _=>rfl)) ?_;iterate 7 refine rC ?_
    refine zW<|zD ?_;refine zJ<|kS<|qR ?_;refine zD ?_;refine bh rfl (bq [(0,some 65),(1,some 66),(2,some 67),(3,some 68)] hadd0 rfl rfl rfl (aj (bj rfl rfl (bj rfl rfl ab))) ⟨zH,zH,zH,zH,trivial⟩ rfl rfl (.inl rfl) rfl rfl) rfl rfl ?_;refine rC<|nR ?_;refine zD ?_;refine zJ<|kS<|ai ?_;refine zD<|ay<|zC<|ai ?_;refine rC ?_;refine rQ iD ?_;refine rC<|ay ?_
    exact aL (some ([],[]),rest,n+1) [(68,some 192),(69,some 193)] ⟨by rw[←hR],kT hc0 hA,nL hok hA,by omega,by omega⟩ (by show rest.length<s.length; omega) (lg zi ⟨zR,zR,zR,⟨rfl,cQ rfl _,_,rfl,lA rfl rfl rfl⟩,zR,trivial⟩)
   ·obtain⟨h5,hadd0⟩:=vf ht (by omega)
    have hR:bz s0 [] 1=([],n,5):=by
     rw[hP,show toL none=[] from rfl,h5]
     rfl
    rw[hR]
    refine bH<|qR ?_;refine rC ?_;refine rQ (de (a:=s) (b:=[]) aa rfl rfl rfl) ?_;refine zI<|zQ<|br<|sR ?_;refine rC ?_;refine rQ (am hc rfl rfl (aj (aj ab)) (.inl rfl) (fun _=>rfl)) ?_;iterate 7 refine rC ?_
    refine zW<|zD ?_;refine zJ<|kS<|qR ?_;refine zD ?_;refine bh rfl (bq [(0,some 65),(1,some 66),(2,some 67),(3,some 68)] hadd0 rfl rfl rfl (aj (bj rfl rfl (bj rfl rfl ab))) ⟨zH,zH,zH,zH,trivial⟩ rfl rfl (.inl rfl) rfl rfl) rfl rfl ?_;refine rC<|nR ?_;refine zD ?_;refine zO<|sR ?_;refine zD ?_;refine rW ?_;refine zD<|zT<|aN<|zB<|b8<|zB ?_
    exact⟨trivial,_,rfl,[],lg ⟨⟨_,rfl,AVLe.tup1 (cp _ _) rfl⟩,rfl,trivial⟩ trivial⟩
  | some lp =>
   obtain⟨l,p⟩:=lp
   obtain⟨c1,c2⟩:=dA.1 hc0
   have hl8:l.length+1≤8:=by simpa[toL]using c1
   have hp64:p.length≤64:=by
    have:=c2 p (by simp[toL])
    simp only[badP,Bool.or_eq_false_iff,decide_eq_false_iff_not]at this
    omega
   by_cases ht:tx=aF
   ·have hadd1:=pi tx ht l p (by omega)
    by_cases hg:8<l.length+2
    ·rw[if_pos hg]at hadd1
     have hR:bz s0 [] 1=([],n,3):=by
      have h3:(addP (toL (some (l,p))) tx).2=3:=by
       rw[show toL (some (l,p))=l++[p] from rfl,addP,if_pos ht,if_pos (by simp; omega)]
      rw[hP,h3]
      rfl
     rw[hR]
     refine bH<|qR ?_;refine rC ?_;refine rQ (de (a:=s) (b:=[]) aa rfl rfl rfl) ?_;refine zI<|zQ<|br<|sR ?_;refine rC ?_;refine rQ (am hc rfl rfl (aj (aj ab)) (.inl rfl) (fun _=>rfl)) ?_;iterate 7 refine rC ?_
     refine zW<|zD ?_;refine zJ<|kS<|qR ?_;refine zD ?_;refine bh rfl (bq [(0,some 65),(1,some 66),(2,some 67),(3,some 68),(4,some 69)] hadd1 rfl rfl rfl (aj (bj rfl rfl (bj rfl rfl ab))) ⟨zH,zH,zH,⟨rfl,cQ rfl _,_,_,rfl,rfl,c6 rfl rfl⟩,zH,trivial⟩ rfl rfl (.inl rfl) rfl rfl) rfl rfl ?_;refine rC<|nR ?_;refine zD ?_;refine zO<|sR ?_;refine zD ?_;refine rW ?_;refine zD<|zT<|aN<|zB<|b8<|zB ?_
     exact⟨trivial,_,rfl,[],lg ⟨⟨_,rfl,AVLe.tup1 (cp _ _) rfl⟩,rfl,trivial⟩ trivial⟩
    ·rw[if_neg hg]at hadd1
     have hA:addP (toL (some (l,p))) tx=(toL (some (l++[p],[])),0):=by
      rw[show toL (some (l,p))=l++[p] from rfl,addP,if_pos ht,if_neg (by simp; omega)]
      rfl
     have hR:bz s0 [] 1=bz rest (toL (some (l++[p],[]))) (n+1):=by rw[hP,hA]; rfl
     refine bH<|qR ?_;refine rC ?_;refine rQ (de (a:=s) (b:=[]) aa rfl rfl rfl) ?_;refine zI<|zQ<|br<|sR ?_;refine rC ?_;refine rQ (am hc rfl rfl (aj (aj ab)) (.inl rfl) (fun _=>rfl)) ?_;iterate 7 refine rC ?_
     refine zW<|zD ?_;refine zJ<|kS<|qR ?_;refine zD ?_;refine bh rfl (bq [(0,some 65),(1,some 66),(2,some 67),(3,some 68),(4,some 69)] hadd1 rfl rfl rfl (aj (bj rfl rfl (bj rfl rfl ab))) ⟨zH,zH,zH,⟨rfl,cQ rfl _,_,_,rfl,rfl,c6 rfl rfl⟩,zH,trivial⟩ rfl rfl (.inl rfl) rfl rfl) rfl rfl ?_;refine rC<|nR ?_;refine zD ?_;refine zJ<|kS<|ai ?_;refine zD<|ay<|zC<|ai ?_;refine rC ?_;refine rQ iD ?_;refine rC<|ay ?_
     exact aL (some (l++[p],[]),rest,n+1) [(68,some 192),(69,some 193)] ⟨by rw[←hR],kT hc0 hA,nL hok hA,by omega,by omega⟩ (by show rest.length<s.length; omega) (lg zi ⟨zR,zR,zR,⟨rfl,cQ rfl _,_,rfl,lA rfl rfl rfl⟩,zR,trivial⟩)
   ·rcases ve ht (by omega) l p (by omega) (by omega)with ⟨e,he,h5,hadd1 | ⟨o,hadd1⟩⟩ | ⟨o,hA,hadd1⟩
    ·have hne:(!decide (e=0))=true:=by rw[dF he]; rfl
     have hR:bz s0 [] 1=([],n,e):=by
      rw[hP,show toL (some (l,p))=l++[p] from rfl,h5,if_neg he]
     rw[hR]
     refine bH<|qR ?_;refine rC ?_;refine rQ (de (a:=s) (b:=[]) aa rfl rfl rfl) ?_;refine zI<|zQ<|br<|sR ?_;refine rC ?_;refine rQ (am hc rfl rfl (aj (aj ab)) (.inl rfl) (fun _=>rfl)) ?_;iterate 7 refine rC ?_
     refine zW<|zD ?_;refine zJ<|kS<|qR ?_;refine zD ?_;refine bh rfl (bq [(0,some 65),(1,some 66),(2,some 67),(3,some 68),(4,some 69)] hadd1 rfl rfl rfl (aj (bj rfl rfl (bj rfl rfl ab))) ⟨zH,zH,zH,⟨rfl,cQ rfl _,_,_,rfl,rfl,c6 rfl rfl⟩,zH,trivial⟩ rfl rfl (.inl rfl) rfl rfl) rfl rfl ?_;refine rC<|nR ?_;refine zD ?_;refine zI<|sR ?_;refine zD ?_;refine rW ?_;refine zD<|zT<|aN<|zB<|b8<|zB ?_
     exact⟨trivial,_,rfl,[],lg ⟨⟨_,rfl,AVLe.tup1 (cp _ _) rfl⟩,rfl,trivial⟩ trivial⟩
    ·have hne:(!decide (e=0))=true:=by rw[dF he]; rfl
     have hR:bz s0 [] 1=([],n,e):=by
      rw[hP,show toL (some (l,p))=l++[p] from rfl,h5,if_neg he]
     rw[hR]
     refine bH<|qR ?_;refine rC ?_;refine rQ (de (a:=s) (b:=[]) aa rfl rfl rfl) ?_;refine zI<|zQ<|br<|sR ?_;refine rC ?_;refine rQ (am hc rfl rfl (aj (aj ab)) (.inl rfl) (fun _=>rfl)) ?_;iterate 7 refine rC ?_
     refine zW<|zD ?_;refine zJ<|kS<|qR ?_;refine zD ?_;refine bh rfl (bq [(0,some 65),(1,some 66),(2,some 67),(3,some 68),(4,some 69)] hadd1 rfl rfl rfl (aj (bj rfl rfl (bj rfl rfl ab))) ⟨zH,zH,zH,⟨rfl,cQ rfl _,_,_,rfl,rfl,c6 rfl rfl⟩,zH,trivial⟩ rfl rfl (.inl rfl) rfl rfl) rfl rfl ?_;refine rC<|nR ?_;refine zD ?_;refine zI<|sR ?_;refine zD ?_;refine rW ?_;refine zD<|zT<|aN<|zB<|b8<|zB ?_
     exact⟨trivial,_,rfl,[],lg ⟨⟨_,rfl,AVLe.tup1 (cp _ _) rfl⟩,rfl,trivial⟩ trivial⟩
    ·replace hA:addP (toL (some (l,p))) tx=(toL (some (l,p++[o])),0):=hA
     have hR:bz s0 [] 1=bz rest (toL (some (l,p++[o]))) (n+1):=by rw[hP,hA]; rfl
     refine bH<|qR ?_;refine rC ?_;refine rQ (de (a:=s) (b:=[]) aa rfl rfl rfl) ?_;refine zI<|zQ<|br<|sR ?_;refine rC ?_;refine rQ (am hc rfl rfl (aj (aj ab)) (.inl rfl) (fun _=>rfl)) ?_;iterate 7 refine rC ?_
     refine zW<|zD ?_;refine zJ<|kS<|qR ?_;refine zD ?_;refine bh rfl (bq [(0,some 65),(1,some 66),(2,some 67),(3,some 68),(4,some 69)] hadd1 rfl rfl rfl (aj (bj rfl rfl (bj rfl rfl ab))) ⟨zH,zH,zH,⟨rfl,cQ rfl _,_,_,rfl,rfl,c6 rfl rfl⟩,zH,trivial⟩ rfl rfl (.inl rfl) rfl rfl) rfl rfl ?_;refine rC<|nR ?_;refine zD ?_;refine zJ<|kS<|ai ?_;refine zD<|ay<|zC<|ai ?_;refine rC ?_;refine rQ iD ?_;refine rC<|ay ?_
     exact aL (some (l,p++[o]),rest,n+1) [(69,some 193)] ⟨by rw[←hR],kT hc0 hA,nL hok hA,by omega,by omega⟩ (by show rest.length<s.length; omega) (lg zi ⟨zR,zR,zR,⟨rfl,cQ rfl _,_,rfl,lA rfl rfl rfl⟩,zR,trivial⟩)
theorem tL (s:List UInt8) (hl:s.length≤1048576):FnIs Tryz.prog 48 [.d (strD s)] [] (parR (bz s [] 1).1 (bz s [] 1).2.1 (bz s [] 1).2.2) []:=p5 s hl
theorem wY (x y:POp):decide (x=y)=(decide (x.kind=y.kind)&&decide (x.index=y.index)&&decide (x.data=y.data)):=by
 obtain⟨a,b,c⟩:=x
 obtain⟨d,e,f⟩:=y
 by_cases h1:a=d <;> by_cases h2:b=e <;> by_cases h3:c=f <;> simp[h1,h2,h3]
theorem vq (a b:List UInt8):decide (j2 (byI a)=j2 (byI b))=decide (a=b):=by rw[mh,mh,iJ]
theorem tl (x y:POp) (c1 c2 c3:Bool) (h1:(!decide (x.kind=y.kind)) = !c1) (h2:(!decide (x.index=y.index)) = !c2) (h3:(!decide (j2 (byI x.data)=j2 (byI y.data))) = !c3):FnIs Tryz.prog 16 [.d (bv x),.d (bv y)] [] (.d (i6 (if (c1&&c2&&c3)=true then 1 else 0))) []:=by
 refine aw aa Tryz.func16 rfl rfl rfl ?_
 cases c1 <;> cases c2 <;> cases c3
 ·refine sR ?_;iterate 2 refine rN ?_
  refine rC<|zW ?_;refine rC ?_;refine rQ iB ?_;refine rC ?_;refine rQ iB ?_;refine zD ?_
  iterate 5 refine rS ?_
  refine rQ iT ?_;refine rC ?_;iterate 7 refine rT ?_
  refine rQ iU ?_;refine zO<|sR ?_;refine rC<|zT<|aN ?_
  exact⟨trivial,[],lf⟩
 ·refine sR ?_;iterate 2 refine rN ?_
  refine rC<|zW ?_;refine rC ?_;refine rQ iB ?_;refine rC ?_;refine rQ iB ?_;refine zD ?_
  iterate 5 refine rS ?_
  refine rQ iT ?_;refine rC ?_;iterate 7 refine rT ?_
  refine rQ iU ?_;refine zO<|sR ?_;refine rC<|zT<|aN ?_
  exact⟨trivial,[],lf⟩
 ·refine sR ?_;iterate 2 refine rN ?_
  refine rC<|zW ?_;refine rC ?_;refine rQ iB ?_;refine rC ?_;refine rQ iB ?_;refine zD ?_
  iterate 5 refine rS ?_
  refine rQ iT ?_;refine rC ?_;iterate 7 refine rT ?_
  refine rQ iU ?_;refine zO<|sR ?_;refine rC<|zT<|aN ?_
  exact⟨trivial,[],lf⟩
 ·refine sR ?_;iterate 2 refine rN ?_
  refine rC<|zW ?_;refine rC ?_;refine rQ iB ?_;refine rC ?_;refine rQ iB ?_;refine zD ?_
  iterate 5 refine rS ?_
  refine rQ iT ?_;refine rC ?_;iterate 7 refine rT ?_
  refine rQ iU ?_;refine zO<|sR ?_;refine rC<|zT<|aN ?_
  exact⟨trivial,[],lf⟩
 ·refine sR ?_;iterate 2 refine rN ?_
  refine rC<|zW ?_;refine rC ?_;refine rQ iB ?_;refine rC ?_;refine rQ iB ?_;refine zD ?_;refine rO ?_;refine rC ?_;refine rO ?_;refine rQ iB ?_;refine rO ?_;refine rC ?_;refine rO ?_;refine rQ iB ?_;refine rO ?_;refine rC ?_;refine rQ iF ?_;refine rC ?_
  iterate 7 refine rS ?_
  refine rQ iT ?_;refine zO<|sR ?_;refine rC<|zT<|aN ?_
  exact⟨trivial,[],lf⟩
 ·refine sR ?_;iterate 2 refine rN ?_
  refine rC<|zW ?_;refine rC ?_;refine rQ iB ?_;refine rC ?_;refine rQ iB ?_;refine zD ?_;refine rO ?_;refine rC ?_;refine rO ?_;refine rQ iB ?_;refine rO ?_;refine rC ?_;refine rO ?_;refine rQ iB ?_;refine rO ?_;refine rC ?_;refine rQ iF ?_;refine rC ?_
  iterate 7 refine rS ?_
  refine rQ iT ?_;refine zO<|sR ?_;refine rC<|zT<|aN ?_
  exact⟨trivial,[],lf⟩
 ·refine sR ?_;iterate 2 refine rN ?_
  refine rC<|zW ?_;refine rC ?_;refine rQ iB ?_;refine rC ?_;refine rQ iB ?_;refine zD ?_;refine rO ?_;refine rC ?_;refine rO ?_;refine rQ iB ?_;refine rO ?_;refine rC ?_;refine rO ?_;refine rQ iB ?_;refine rO ?_;refine rC ?_;refine rQ iF ?_;refine rC ?_;refine rO ?_;refine rC ?_;refine rO ?_;refine rQ iB ?_;refine rO ?_;refine rQ (fX aa rfl rfl rfl rfl) ?_;refine rO ?_;refine rC ?_;refine rO ?_;refine rQ iB ?_;refine rO ?_;refine rQ (fX aa rfl rfl rfl rfl) ?_;refine rO ?_;refine rQ (nt aa rfl rfl rfl) ?_;refine rQ iF ?_;refine zI<|sR ?_;refine rC<|zT<|aN ?_
  exact⟨trivial,[],lf⟩
 ·refine sR ?_;iterate 2 refine rN ?_
  refine rC<|zW ?_;refine rC ?_;refine rQ iB ?_;refine rC ?_;refine rQ iB ?_;refine zD ?_;refine rO ?_;refine rC ?_;refine rO ?_;refine rQ iB ?_;refine rO ?_;refine rC ?_;refine rO ?_;refine rQ iB ?_;refine rO ?_;refine rC ?_;refine rQ iF ?_;refine rC ?_;refine rO ?_;refine rC ?_;refine rO ?_;refine rQ iB ?_;refine rO ?_;refine rQ (fX aa rfl rfl rfl rfl) ?_;refine rO ?_;refine rC ?_;refine rO ?_;refine rQ iB ?_;refine rO ?_;refine rQ (fX aa rfl rfl rfl rfl) ?_;refine rO ?_;refine rQ (nt aa rfl rfl rfl) ?_;refine rQ iF ?_;refine zG<|kS<|sR ?_;refine rC<|zT ?_
  exact⟨trivial,[],lf⟩
theorem mn (x y:POp):FnIs Tryz.prog 16 [.d (bv x),.d (bv y)] [] (.d (i6 (if x=y then 1 else 0))) []:=by
 have:=tl x y (decide (x.kind=y.kind)) (decide (x.index=y.index)) (decide (x.data=y.data)) rfl rfl (by rw[vq])
 rw[←wY]at this
 simpa using this
end Go.Proofs.YtjfkhlamjdbfkaaGreatDoor
namespace Go.Proofs.YtjfkhlamjdbfkaaGreatDoor
open Go.Eng Go.Plain
set_option maxHeartbeats 32000000
set_option maxRecDepth 20000
abbrev ff (l:List UInt8):D :=.vec 32 1 bt (byI l)
structure HEv where
 kind:Int
 client:Int
 op:POp
 value:List UInt8
 err:Int
 deriving DecidableEq
structure HEv.Ok (x:HEv):Prop where
 kind:0≤x.kind∧x.kind≤255
 client : -9223372036854775808≤x.client∧x.client≤9223372036854775807
 op:x.op.Ok
 value:x.value.length=32
 err : -9223372036854775808≤x.err∧x.err≤9223372036854775807
def bx (x:HEv):D :=.cons (u8s x.kind) (.cons (i6 x.client) (.cons (bv x.op) (.cons (ff x.value) (.cons (i6 x.err) .nil))))
abbrev encH (l:List HEv):D :=.arr 38 bx l
abbrev encHL (l:List (List HEv)):D :=.arr 1 encH l
def zBk:List UInt8:=[0,0,0,0,0,0,0,0,0,0,0,0,0,0,0,0,0,0,0,0,0,0,0,0,0,0,0,0,0,0,0,0]
def zOp:POp:=⟨0,0,[]⟩
structure HOp where
 client:Int
 number:Int
 era:Int
 op:POp
 invoked:Int
 returned:Int
 value:List UInt8
 err:Int
 deriving DecidableEq
def cg (x:HOp):D :=.cons (i6 x.client) (.cons (i6 x.number) (.cons (i6 x.era) (.cons (bv x.op) (.cons (i6 x.invoked) (.cons (i6 x.returned) (.cons (ff x.value) (.cons (i6 x.err) .nil)))))))
abbrev dO (l:List HOp):D :=.arr 41 cg l
theorem ww {a b:List UInt8}:byI a=byI b↔a=b:=by
 constructor
 ·intro h
  induction a generalizing b with
  | nil=>cases b with
   | nil=>rfl
   | cons y b=>simp[byI]at h
  | cons x a ih=>cases b with
   | nil=>simp[byI]at h
   | cons y b =>
    simp only[byI,List.map_cons,List.cons.injEq]at h
    rw[ih h.2,UInt8.toNat_inj.1 (Int.ofNat.inj h.1)]
 ·rintro rfl; rfl
theorem bG (a b:List UInt8):EqOk Tryz.prog 2 38 (ff a) (ff b) (decide (a=b)):=
 (xp aa (P:=Tryz.prog) Tryz.underlying38 rfl (fun _=>rfl) rfl (fun _ _=>uE (P:=Tryz.prog) Tryz.underlying5)).cast (decide_eq_decide.2 ww)
end Go.Proofs.YtjfkhlamjdbfkaaGreatDoor
namespace Go.Proofs.YtjfkhlamjdbfkaaGreatDoor
open Go.Eng Go.Plain
set_option maxHeartbeats 32000000
set_option maxRecDepth 20000
attribute [local irreducible] WC RegS RegD SeqQ BlkQ ScoQ RegK CutK Sat SatN FnIs LoopQ aq OpIs
def outO (o:POp) (b:Int):Bool:=decide (o.index<0)||decide (b≤o.index)
def badO (o:POp) (b:Int):Bool:=if o.kind=1 then outO o b else if o.kind=2 then outO o b || !decide (o.data.length=32) else !decide (o.kind=3)
theorem y9 (o:POp):decide (((byI o.data).length:Int)=32)=decide (o.data.length=32):=by
 rw[b5]
 by_cases h:o.data.length=32
 ·rw[dT h,dT (by omega)]
 ·rw[dF h,dF (by omega)]
def preO (l:List (List POp)) (i:Nat) (p:List POp) (j:Nat):List POp:=(l.take i).flatten++p.take j
def cK (k:Int) (l:List POp):Nat:=l.countP fun o=>decide (o.kind=k)
def cO (l:List POp):Nat:=l.countP fun o => !decide (o.kind=1) && !decide (o.kind=2) && !decide (o.kind=3)
def Ai (l:List (List POp)):Prop:=l.length≤12∧l.flatten.length≤200∧∀p∈l,p.length≤66∧∀o∈p,o.data.length≤70
def Aa (l:List (List POp)):Bool:=decide (l.length≤12)&&decide (l.flatten.length≤200)&&l.all fun p=>decide (p.length≤66)&&p.all fun o=>decide (o.data.length≤70)
abbrev r01 (b:Bool):AV :=.d (i6 (if b=true then 1 else 0))
theorem rR (o:POp) (b:Int) (hk:o.kind=1) (c1 c2 c3:Bool) (h1:decide (0≤o.index) = !c1) (h2:decide (o.index<b) = !c2) (h3:decide (((byI o.data).length:Int)=32)=c3):FnIs Tryz.prog 12 [.d (bv o),.int .i64 b] [] (r01 (c1||c2)) []:=by
 have hk3:decide (o.kind=3)=false:=dF (by omega)
 have hk1:decide (o.kind=1)=true:=dT (by omega)
 refine aw aa Tryz.func12 rfl rfl rfl ?_
 cases c1 <;> cases c2 <;> cases c3
 ·refine sR<|rN ?_;refine rC<|zW ?_;refine rC ?_;refine rQ iB<|zP<|sR ?_;refine zD ?_;refine zG<|qR ?_;refine zD ?_;refine zI<|kS ?_;refine wT<|sR ?_;refine rC ?_;refine rQ iB ?_;refine zD ?_;refine rO ?_;refine rC ?_;refine rO ?_;refine rQ iB ?_;refine rO ?_;refine rC ?_;refine rO ?_;refine rC ?_;refine rQ iT ?_;refine rC ?_;refine rO ?_;refine rC ?_;refine rO ?_;refine rQ iB ?_;refine rO ?_;refine rC ?_;refine rO ?_;refine rC ?_;iterate 4 refine rS ?_
  refine rO ?_;iterate 2 refine rQ iT ?_
  refine zO<|sR ?_;refine rC<|zT<|zB ?_
  exact⟨trivial,[],lf⟩
 ·refine sR<|rN ?_;refine rC<|zW ?_;refine rC ?_;refine rQ iB<|zP<|sR ?_;refine zD ?_;refine zG<|qR ?_;refine zD ?_;refine zI<|kS ?_;refine wT<|sR ?_;refine rC ?_;refine rQ iB ?_;refine zD ?_;refine rO ?_;refine rC ?_;refine rO ?_;refine rQ iB ?_;refine rO ?_;refine rC ?_;refine rO ?_;refine rC ?_;refine rQ iT ?_;refine rC ?_;refine rO ?_;refine rC ?_;refine rO ?_;refine rQ iB ?_;refine rO ?_;refine rC ?_;refine rO ?_;refine rC ?_;iterate 4 refine rS ?_
  refine rO ?_;iterate 2 refine rQ iT ?_
  refine zO<|sR ?_;refine rC<|zT<|zB ?_
  exact⟨trivial,[],lf⟩
 ·refine sR<|rN ?_;refine rC<|zW ?_;refine rC ?_;refine rQ iB<|zP<|sR ?_;refine zD ?_;refine zG<|qR ?_;refine zD ?_;refine zI<|kS ?_;refine wT<|sR ?_;refine rC ?_;refine rQ iB ?_;refine zD ?_;refine rO ?_;refine rC ?_;refine rO ?_;refine rQ iB ?_;refine rO ?_;refine rC ?_;refine rO ?_;refine rC ?_;refine rQ iT ?_;refine rC ?_;iterate 4 refine rS ?_
  iterate 4 refine rU ?_
  refine rS ?_;refine rQ iF ?_;refine zJ<|aS<|zC<|sR ?_;refine rC<|zT ?_
  exact⟨trivial,[],lf⟩
 ·refine sR<|rN ?_;refine rC<|zW ?_;refine rC ?_;refine rQ iB<|zP<|sR ?_;refine zD ?_;refine zG<|qR ?_;refine zD ?_;refine zI<|kS ?_;refine wT<|sR ?_;refine rC ?_;refine rQ iB ?_;refine zD ?_;refine rO ?_;refine rC ?_;refine rO ?_;refine rQ iB ?_;refine rO ?_;refine rC ?_;refine rO ?_;refine rC ?_;refine rQ iT ?_;refine rC ?_;iterate 4 refine rS ?_
  iterate 4 refine rU ?_
  refine rS ?_;refine rQ iF ?_;refine zJ<|aS<|zC<|sR ?_;refine rC<|zT ?_
  exact⟨trivial,[],lf⟩
 ·refine sR<|rN ?_;refine rC<|zW ?_;refine rC ?_;refine rQ iB<|zP<|sR ?_;refine zD ?_;refine zG<|qR ?_;refine zD ?_;refine zI<|kS ?_;refine wT<|sR ?_;refine rC ?_;refine rQ iB ?_;refine zD ?_
  iterate 4 refine rS ?_
  refine rQ iF ?_;refine rC ?_;iterate 4 refine rT ?_
  iterate 4 refine rU ?_
  refine rT ?_;refine rQ iG ?_;refine zJ<|aS<|zC<|sR ?_;refine rC<|zT ?_
  exact⟨trivial,[],lf⟩
 ·refine sR<|rN ?_;refine rC<|zW ?_;refine rC ?_;refine rQ iB<|zP<|sR ?_;refine zD ?_;refine zG<|qR ?_;refine zD ?_;refine zI<|kS ?_;refine wT<|sR ?_;refine rC ?_;refine rQ iB ?_;refine zD ?_
  iterate 4 refine rS ?_
  refine rQ iF ?_;refine rC ?_;iterate 4 refine rT ?_
  iterate 4 refine rU ?_
  refine rT ?_;refine rQ iG ?_;refine zJ<|aS<|zC<|sR ?_;refine rC<|zT ?_
  exact⟨trivial,[],lf⟩
 ·refine sR<|rN ?_;refine rC<|zW ?_;refine rC ?_;refine rQ iB<|zP<|sR ?_;refine zD ?_;refine zG<|qR ?_;refine zD ?_;refine zI<|kS ?_;refine wT<|sR ?_;refine rC ?_;refine rQ iB ?_;refine zD ?_
  iterate 4 refine rS ?_
  refine rQ iF ?_;refine rC ?_;iterate 4 refine rT ?_
  iterate 4 refine rU ?_
  refine rT ?_;refine rQ iG ?_;refine zJ<|aS<|zC<|sR ?_;refine rC<|zT ?_
  exact⟨trivial,[],lf⟩
 ·refine sR<|rN ?_;refine rC<|zW ?_;refine rC ?_;refine rQ iB<|zP<|sR ?_;refine zD ?_;refine zG<|qR ?_;refine zD ?_;refine zI<|kS ?_;refine wT<|sR ?_;refine rC ?_;refine rQ iB ?_;refine zD ?_
  iterate 4 refine rS ?_
  refine rQ iF ?_;refine rC ?_;iterate 4 refine rT ?_
  iterate 4 refine rU ?_
  refine rT ?_;refine rQ iG ?_;refine zJ<|aS<|zC<|sR ?_;refine rC<|zT ?_
  exact⟨trivial,[],lf⟩
theorem pW (o:POp) (b:Int) (hk:o.kind=2) (c1 c2 c3:Bool) (h1:decide (0≤o.index) = !c1) (h2:decide (o.index<b) = !c2) (h3:decide (((byI o.data).length:Int)=32)=c3):FnIs Tryz.prog 12 [.d (bv o),.int .i64 b] [] (r01 (c1||c2 || !c3)) []:=by
 have hk3:decide (o.kind=3)=false:=dF (by omega)
 have hk1:decide (o.kind=1)=false:=dF (by omega)
 have hk2:decide (o.kind=2)=true:=dT (by omega)
 refine aw aa Tryz.func12 rfl rfl rfl ?_
 cases c1 <;> cases c2 <;> cases c3
 ·refine sR<|rN ?_;refine rC<|zW ?_;refine rC ?_;refine rQ iB<|zP<|sR ?_;refine zD ?_;refine zG<|qR ?_;refine zD ?_;refine zG<|ai ?_;refine zD ?_;refine zI<|sR ?_;refine rC ?_;refine rQ iB ?_;refine zD ?_;refine rO ?_;refine rC ?_;refine rO ?_;refine rQ iB ?_;refine rO ?_;refine rC ?_;refine rO ?_;refine rC ?_;refine rQ iT ?_;refine rC ?_;refine rO ?_;refine rC ?_;refine rO ?_;refine rQ iB ?_;refine rO ?_;refine rC ?_;refine rO ?_;refine rC ?_;refine rO ?_;refine rC ?_;refine rO ?_;refine rQ iB ?_;refine rO ?_;refine rQ iE ?_;refine rO ?_;refine rC ?_;refine rO ?_;refine rQ iF ?_;refine rQ iT ?_;refine zG<|aS<|zC<|sR ?_;refine rC<|zT ?_
  exact⟨trivial,[],lf⟩
 ·refine sR<|rN ?_;refine rC<|zW ?_;refine rC ?_;refine rQ iB<|zP<|sR ?_;refine zD ?_;refine zG<|qR ?_;refine zD ?_;refine zG<|ai ?_;refine zD ?_;refine zI<|sR ?_;refine rC ?_;refine rQ iB ?_;refine zD ?_;refine rO ?_;refine rC ?_;refine rO ?_;refine rQ iB ?_;refine rO ?_;refine rC ?_;refine rO ?_;refine rC ?_;refine rQ iT ?_;refine rC ?_;refine rO ?_;refine rC ?_;refine rO ?_;refine rQ iB ?_;refine rO ?_;refine rC ?_;refine rO ?_;refine rC ?_;refine rO ?_;refine rC ?_;refine rO ?_;refine rQ iB ?_;refine rO ?_;refine rQ iE ?_;refine rO ?_;refine rC ?_;refine rO ?_;refine rQ iF ?_;refine rQ iT ?_;refine zI<|sR ?_;refine rC<|zT<|gB<|aN ?_
  exact⟨trivial,[],lf⟩
 ·refine sR<|rN ?_;refine rC<|zW ?_;refine rC ?_;refine rQ iB<|zP<|sR ?_;refine zD ?_;refine zG<|qR ?_;refine zD ?_;refine zG<|ai ?_;refine zD ?_;refine zI<|sR ?_;refine rC ?_;refine rQ iB ?_;refine zD ?_;refine rO ?_;refine rC ?_;refine rO ?_;refine rQ iB ?_;refine rO ?_;refine rC ?_;refine rO ?_;refine rC ?_;refine rQ iT ?_;refine rC ?_;iterate 4 refine rS ?_
  iterate 4 refine rU ?_
  refine rS ?_;refine rQ iF ?_;refine zJ<|aS<|zC<|sR ?_;refine rC<|zT ?_
  exact⟨trivial,[],lf⟩
 ·refine sR<|rN ?_;refine rC<|zW ?_;refine rC ?_;refine rQ iB<|zP<|sR ?_;refine zD ?_;refine zG<|qR ?_;refine zD ?_;refine zG<|ai ?_;refine zD ?_;refine zI<|sR ?_;refine rC ?_;refine rQ iB ?_;refine zD ?_;refine rO ?_;refine rC ?_;refine rO ?_;refine rQ iB ?_;refine rO ?_;refine rC ?_;refine rO ?_;refine rC ?_;refine rQ iT ?_;refine rC ?_;iterate 4 refine rS ?_
  iterate 4 refine rU ?_
  refine rS ?_;refine rQ iF ?_;refine zJ<|aS<|zC<|sR ?_;refine rC<|zT ?_
  exact⟨trivial,[],lf⟩
 ·refine sR<|rN ?_;refine rC<|zW ?_;refine rC ?_;refine rQ iB<|zP<|sR ?_;refine zD ?_;refine zG<|qR ?_;refine zD ?_;refine zG<|ai ?_;refine zD ?_;refine zI<|sR ?_;refine rC ?_;refine rQ iB ?_;refine zD ?_
  iterate 4 refine rS ?_
  refine rQ iF ?_;refine rC ?_;iterate 4 refine rT ?_
  iterate 4 refine rU ?_
  refine rT ?_;refine rQ iG ?_;refine zJ<|aS<|zC<|sR ?_;refine rC<|zT ?_
  exact⟨trivial,[],lf⟩
 ·refine sR<|rN ?_;refine rC<|zW ?_;refine rC ?_;refine rQ iB<|zP<|sR ?_;refine zD ?_;refine zG<|qR ?_;refine zD ?_;refine zG<|ai ?_;refine zD ?_;refine zI<|sR ?_;refine rC ?_;refine rQ iB ?_;refine zD ?_
  iterate 4 refine rS ?_
  refine rQ iF ?_;refine rC ?_;iterate 4 refine rT ?_
  iterate 4 refine rU ?_
  refine rT ?_;refine rQ iG ?_;refine zJ<|aS<|zC<|sR ?_;refine rC<|zT ?_
  exact⟨trivial,[],lf⟩
 ·refine sR<|rN ?_;refine rC<|zW ?_;refine rC ?_;refine rQ iB<|zP<|sR ?_;refine zD ?_;refine zG<|qR ?_;refine zD ?_;refine zG<|ai ?_;refine zD ?_;refine zI<|sR ?_;refine rC ?_;refine rQ iB ?_;refine zD ?_
  iterate 4 refine rS ?_
  refine rQ iF ?_;refine rC ?_;iterate 4 refine rT ?_
  iterate 4 refine rU ?_
  refine rT ?_;refine rQ iG ?_;refine zJ<|aS<|zC<|sR ?_;refine rC<|zT ?_
  exact⟨trivial,[],lf⟩
 ·refine sR<|rN ?_;refine rC<|zW ?_;refine rC ?_;refine rQ iB<|zP<|sR ?_;refine zD ?_;refine zG<|qR ?_;refine zD ?_;refine zG<|ai ?_;refine zD ?_;refine zI<|sR ?_;refine rC ?_;refine rQ iB ?_;refine zD ?_
  iterate 4 refine rS ?_
  refine rQ iF ?_;refine rC ?_;iterate 4 refine rT ?_
  iterate 4 refine rU ?_
  refine rT ?_;refine rQ iG ?_;refine zJ<|aS<|zC<|sR ?_;refine rC<|zT ?_
  exact⟨trivial,[],lf⟩
theorem pY (o:POp) (b:Int) (hk:o.kind=3):FnIs Tryz.prog 12 [.d (bv o),.int .i64 b] [] (r01 false) []:=by
 have hk3:decide (o.kind=3)=true:=dT (by omega)
 refine aw aa Tryz.func12 rfl rfl rfl ?_;refine sR<|rN ?_;refine rC<|zW ?_;refine rC ?_;refine rQ iB<|zP<|sR ?_;refine zD ?_;refine zI<|sR ?_;refine rC<|zT<|zB ?_
 exact⟨trivial,[],lf⟩
theorem pX (o:POp) (b:Int) (hk1:¬o.kind=1) (hk2:¬o.kind=2) (hk3:¬o.kind=3):FnIs Tryz.prog 12 [.d (bv o),.int .i64 b] [] (r01 true) []:=by
 have hk3:decide (o.kind=3)=false:=dF (by omega)
 have hk1:decide (o.kind=1)=false:=dF (by omega)
 have hk2:decide (o.kind=2)=false:=dF (by omega)
 refine aw aa Tryz.func12 rfl rfl rfl ?_;refine sR<|rN ?_;refine rC<|zW ?_;refine rC ?_;refine rQ iB<|zP<|sR ?_;refine zD ?_;refine zG<|qR ?_;refine zD ?_;refine zG<|ai ?_;refine zD ?_;refine zG<|aS<|zC<|sR ?_;refine rC<|zT ?_
 exact⟨trivial,[],lf⟩
theorem qK (o:POp) (b:Int):FnIs Tryz.prog 12 [.d (bv o),.int .i64 b] [] (r01 (badO o b)) []:=by
 have n1:decide (0≤o.index) = !decide (o.index<0):=by
  by_cases h:o.index<0
  ·rw[dT h,dF (by omega)]; rfl
  ·rw[dF h,dT (by omega)]; rfl
 have n2:decide (o.index<b) = !decide (b≤o.index):=by
  by_cases h:b≤o.index
  ·rw[dT h,dF (by omega)]; rfl
  ·rw[dF h,dT (by omega)]; rfl
 by_cases k1:o.kind=1
 ·have:=rR o b k1 _ _ _ n1 n2 rfl
  rwa [show badO o b=(decide (o.index<0)||decide (b≤o.index)) by rw[badO,if_pos k1,outO]]
 ·by_cases k2:o.kind=2
  ·have:=pW o b k2 _ _ _ n1 n2 rfl
   rwa [show badO o b=(decide (o.index<0)||decide (b≤o.index) || !decide (((byI o.data).length:Int)=32)) by rw[badO,if_neg k1,if_pos k2,outO,y9]]
  ·by_cases k3:o.kind=3
   ·have:=pY o b k3
    rwa [show badO o b=false by rw[badO,if_neg k1,if_neg k2,dT k3]; rfl]
   ·have:=pX o b k1 k2 k3
    rwa [show badO o b=true by rw[badO,if_neg k1,if_neg k2,dF k3]; rfl]
abbrev k4 (l:List POp):D :=.cons (i6 (cK 1 l)) (.cons (i6 (cK 2 l)) (.cons (i6 (cK 3 l)) (.cons (i6 (cO l)) .nil)))
def xB (n:Int) (s:List Int×Bool) (x:Int):List Int×Bool :=
 let t:=if s.2=false∧n≤x then (s.1++[n],true) else s
 (if x=n then t.1 else t.1++[x],t.2)
def wPre (n:Int) (l:List Int):List Int×Bool:=l.foldl (xB n) ([],false)
def xA (l:List Int) (n:Int):List Int:=if (wPre n l).2=true then (wPre n l).1 else (wPre n l).1++[n]
def bi (b:Bool):Int:=if b then 1 else 0
abbrev rowI (l:List Int):Row :=.ds 3 1 false i6 l
end Go.Proofs.YtjfkhlamjdbfkaaGreatDoor
namespace Go.Proofs.YtjfkhlamjdbfkaaGreatDoor
open Go.Eng Go.Plain
set_option maxHeartbeats 32000000
set_option maxRecDepth 20000
def uB:Bool→Nat
 | true=>0
 | false=>1
def touB (b:Int) (o:POp):Bool := !decide (o.kind=3) && !badO o b
def touS (b:Int) (acc:List Int) (o:POp):List Int:=if touB b o=true then xA acc o.index else acc
def touL (b:Int) (l:List POp):List Int:=l.foldl (touS b) []
end Go.Proofs.YtjfkhlamjdbfkaaGreatDoor
namespace Go.Proofs.YtjfkhlamjdbfkaaGreatDoor
open Go.Eng Go.Plain
set_option maxHeartbeats 32000000
set_option maxRecDepth 20000
attribute [local irreducible] WC RegS RegD SeqQ BlkQ ScoQ RegK CutK Sat SatN FnIs LoopQ aq OpIs
end Go.Proofs.YtjfkhlamjdbfkaaGreatDoor
namespace Go.Eng
open Go.RowKit
end Go.Eng
namespace Go.Proofs.YtjfkhlamjdbfkaaGreatDoor
open Go.Eng Go.Plain
set_option maxHeartbeats 32000000
set_option maxRecDepth 20000
attribute [local irreducible] WC RegS RegD SeqQ BlkQ ScoQ RegK CutK Sat SatN FnIs LoopQ aq OpIs
def decD:List UInt8:=[48,49,50,51,52,53,54,55,56,57]
end Go.Proofs.YtjfkhlamjdbfkaaGreatDoor
namespace Go.Plain
open Go.Eng Go.Lib
end Go.Plain
namespace Go.Proofs.YtjfkhlamjdbfkaaGreatDoor
open Go.Eng Go.Plain
set_option maxHeartbeats 32000000
set_option maxRecDepth 20000
attribute [local irreducible] WC RegS RegD SeqQ BlkQ ScoQ RegK CutK Sat SatN FnIs LoopQ aq OpIs
def o1 {α:Type} (o:Option α):Int:=match o with
 | some _=>1
 | none=>0
abbrev Af (o:Option Int):AV :=.tup (.acons (.int .i64 (o.getD 0)) (.acons (.int .i64 (o1 o)) .anil))
def nV (l:List UInt8):Nat:=l.foldl (fun n c=>n*16+nibV c) 0
abbrev byR (o:Option (List UInt8)):AV :=.tup (.acons (.d (encB (o.getD []))) (.acons (.int .i64 (o1 o)) .anil))
end Go.Proofs.YtjfkhlamjdbfkaaGreatDoor
namespace Go.Proofs.YtjfkhlamjdbfkaaGreatDoor
open Go.Eng Go.Plain
set_option maxHeartbeats 32000000
set_option maxRecDepth 20000
set_option linter.unusedVariables false
set_option linter.unusedSimpArgs false
attribute [local irreducible] WC RegS RegD SeqQ BlkQ ScoQ RegK CutK Sat SatN FnIs LoopQ aq OpIs
abbrev readA (o:Option POp):AV :=.tup (.acons (.d (bv (o.getD mC))) (.acons (.int .i64 (o1 o)) .anil))
def finR (s:List UInt8) (o:Option POp):Option POp:=match o with
 | some o=>if bg o=s then some o else none
 | none=>none
def op4 (o:Option Int) (x y:List UInt8):Option POp:=match o with
 | some k=>Plain.opR k x y
 | none=>none
end Go.Proofs.YtjfkhlamjdbfkaaGreatDoor
namespace Go.Eng
open Go.RowKit Go.Sort
abbrev Ah (n:Int):D :=.sc (.int .i64 n)
variable {P : Program}
end Go.Eng
namespace Go.Eng
open Go.RowKit
variable {P : Program} {f : FuncId} {avs avs' : List AV} {h0 : List (Nat × Row)} {res : AV}
def Tells (avs:List AV) (h0:List (Nat×Row)) (avs':List AV) (h0':List (Nat×Row)):Prop :=
 ∀(C:Ctx) (G:Nat→Prop) (σ:Place) (w:World) (a:Act),aE C G (inSt avs h0) σ w a→aE C G (inSt avs' h0') σ w a
def z8 (res:AV):Prop:=(∀(σ σ':Place) (w w':World) (X X':Nat→Prop) (v:Value),RelV σ w X res v→RelV σ' w' X' res v)∧∀G:Nat→Prop,res.within G
end Go.Eng
namespace Go.Eng
open Go.RowKit
theorem Frz.row_le {r:Nat} {row row':Row} {a a':AV} (h:aY row row') (hf:Frz r row' a a'):Frz r row a a' :=
 ⟨hf.1,hf.2.1,hf.2.2.1,fun σ w X X' hx hn hr cs hc=>hf.2.2.2 σ w X X' hx hn (h σ w X r hr) cs hc⟩
end Go.Eng
namespace Go.Proofs.YtjfkhlamjdbfkaaGreatDoor
open Go.Eng Go.Plain
set_option maxHeartbeats 32000000
set_option maxRecDepth 20000
set_option linter.unusedVariables false
attribute [local irreducible] WC RegS RegD SeqQ BlkQ ScoQ RegK CutK Sat SatN FnIs LoopQ aq OpIs
abbrev rpR (x:List (List POp)×Nat×Int):AV :=.tup (.acons (.d (km x.1)) (.acons (.int .i64 (x.2.1:Nat)) (.acons (.int .i64 x.2.2) .anil)))
def QInv (W:List (List UInt8)):Option (List (List POp)×List POp)×Nat→Prop
 | (q,i)=>i≤W.length∧np (W.drop i) i (toL q)=np W 0 []∧chkP (toL q)=0
end Go.Proofs.YtjfkhlamjdbfkaaGreatDoor
namespace Go.Plain
open Go.Lib
abbrev sortI (l:List Int):List Int:=l.mergeSort fun x y=>decide (x≤y)
end Go.Plain
namespace Go.Proofs.YtjfkhlamjdbfkaaGreatDoor
open Go.Eng Go.Plain Go.Lib
set_option maxHeartbeats 32000000
set_option maxRecDepth 20000
def insL (n:Int):List Int→List Int
 | []=>[n]
 | x::l=>if n≤x then n::(x::l).filter (fun y=>decide (y≠n)) else x::insL n l
def wOut (n:Int) (s:List Int×Bool):List Int:=if s.2=true then s.1 else s.1++[n]
def idxL (b:Int) (l:List POp):List Int:=(l.filter (touB b)).map POp.index
end Go.Proofs.YtjfkhlamjdbfkaaGreatDoor
namespace Go.Proofs.YtjfkhlamjdbfkaaGreatDoor
open Go.Eng Go.Plain Go.RowKit
set_option maxHeartbeats 32000000
set_option maxRecDepth 20000
attribute [local irreducible] WC RegS RegD SeqQ BlkQ ScoQ RegK CutK Sat SatN FnIs LoopQ aq OpIs
end Go.Proofs.YtjfkhlamjdbfkaaGreatDoor
namespace Go.Proofs.YtjfkhlamjdbfkaaGreatDoor
open Go.Eng Go.Plain
set_option maxHeartbeats 32000000
set_option maxRecDepth 20000
attribute [local irreducible] WC RegS RegD SeqQ BlkQ ScoQ RegK CutK Sat SatN FnIs LoopQ aq OpIs
@[reducible] def accA:List Int→AV
 | []=>.d (.sc nil_)
 | x::xs=>.own 65 0 (xs.length+1) 1 none
@[reducible] def accH:List Int→Upds
 | []=>[]
 | x::xs=>[(65,some (rowI (x::xs)))]
end Go.Proofs.YtjfkhlamjdbfkaaGreatDoor
namespace Go.Proofs.YtjfkhlamjdbfkaaGreatDoor
open Go.Eng Go.Plain
set_option maxHeartbeats 32000000
set_option maxRecDepth 20000
def encV:Bool×POp→D
 | (true,o)=>.cons (u8s o.kind) (.cons (i6 o.index) (.cons (.sc nil_) .nil))
 | (false,o)=>bv o
def VOk (x:Bool×POp):Prop:=x.1=true→x.2.data=[]
theorem wk {w:World} {X:Nat→Prop} {x:Bool×POp} (hx:VOk x) {cs:List Value} (h:Enc w X (encV x) cs):Enc w X (bv x.2) cs:=by
 obtain⟨b,o⟩:=x
 cases b with
 | false=>exact h
 | true =>
  have hd:o.data=[]:=hx rfl
  obtain⟨c1,r1,rfl,h1,c2,r2,rfl,h2,c3,r3,rfl,h3,h4⟩:=h
  exact⟨c1,_,rfl,h1,c2,_,rfl,h2,c3,r3,rfl,.inl ⟨by rw[hd]; rfl,h3.1⟩,h4⟩
theorem gZ {α β:Type} {s:Nat} {enc:α→D} {enc':β→D} {g:α→β} {xs:List α} {ys:List β} (hy:ys=xs.map g) (h:∀x∈xs,DLe (enc x) (enc' (g x))):DLe (.arr s enc xs) (.arr s enc' ys):=by
 subst hy
 rintro w X cs (⟨rfl,rfl⟩ | ⟨a,c,rfl,h1,h2,f,hf⟩)
 ·exact .inl ⟨rfl,rfl⟩
 ·refine .inr ⟨a,c,by rw[List.length_map],by rw[List.length_map]; exact h1,h2,f,fun i hi=>?_⟩
  rw[List.length_map]at hi
  obtain⟨g1,g2,g3⟩:=hf i hi
  refine⟨?_,g2,g3⟩
  rw[List.getElem_map]
  exact h _ (List.getElem_mem _) _ _ _ g1
abbrev encPV (l:List (Bool×POp)):D :=.arr 3 encV l
end Go.Proofs.YtjfkhlamjdbfkaaGreatDoor
namespace Go.Proofs.YtjfkhlamjdbfkaaGreatDoor
open Go.Eng Go.Plain
set_option maxHeartbeats 32000000
set_option maxRecDepth 20000
attribute [local irreducible] WC RegS RegD SeqQ BlkQ ScoQ RegK CutK Sat SatN FnIs LoopQ aq OpIs
def pairV:List (List (Bool×POp)):=[[(true,⟨1,3,[]⟩),(false,⟨2,1,[0,255]⟩)],[(true,⟨3,0,[]⟩)]]
def y6:List (List POp):=[[⟨1,3,[]⟩,⟨2,1,[0,255]⟩],[⟨3,0,[]⟩]]
abbrev vA:Bool×POp:=(true,⟨1,3,[]⟩)
abbrev vB:Bool×POp:=(false,⟨2,1,[0,255]⟩)
abbrev vC:Bool×POp:=(true,⟨3,0,[]⟩)
abbrev vAB:List (Bool×POp):=[vA,vB]
abbrev vC1:List (Bool×POp):=[vC]
end Go.Proofs.YtjfkhlamjdbfkaaGreatDoor
namespace Go.Eng
open Go.RowKit
section
variable {P : Program} {T : Tab} {env : Env} {h : Upds} {n : Nat}
theorem g8 (hT:ao P T) {t e r L cap:Nat} {re:TyR} {s:Nat} {α:Type} {enc:α→D} (z:α) {x:Operand} {p:List Step} {row row':Row} (ht:aW T t=some (.slice e)) (he:lk T e=some re) (hs:Nat.beq re.size s=true) (hs0:Nat.blt 0 s=true) (hz:re.zero=enc z)
  (hx:au env x=some (.asl r p L cap)) (hrow:bd h r=some row) (hL:Nat.blt 0 L=true) (hu:RUpd row p (.d (.vec L s enc (List.replicate L z))) row') :
  aq P (.call { callee :=.builtin .clear,args := #[x],argTypes := #[t] }) env h n none [(r,some row')]:=.of_comes fun C G st σ w a o ho hA hd hst hn=>by
 have hs0:=Nat.le_of_ble_eq_true hs0
 have hL:=Nat.le_of_ble_eq_true hL
 have hs:=Nat.eq_of_beq_eq_true hs
 obtain⟨ud,hud,hdd⟩:=aQ hT ht
 cases hdd
 obtain⟨hx1,hx2⟩:=an hst (hA.ev hx)
 have hrow:=hA.row _ _ hrow
 obtain⟨b,c,hb,hux⟩:=RelV.asl.1 hx1
 obtain⟨zv,hzr,hzv⟩:=(hT e re he).run_zero w
 have hzl:zv.cells.toList.length=s:=by
  have h1:=Enc.len _ _ (Enc.closed w (fun _=>False) _ (hT e re he).zero)
  rw[hzv,(hT e re he).zsize,hs]at h1
  exact h1
 have henc:Enc w (st.X C.X0 σ) (enc z) zv.cells.toList:=by rw[←hz,←hzv]; exact Enc.closed _ _ _ (hT e re he).zero
 have hm':Rel σ w (st.X C.X0 σ) (.d (.vec L s enc (List.replicate L z))) false (cat (fun _=>zv.cells.toList) L):=
  ⟨by simp,fun _=>zv.cells.toList,fun i hi=>⟨by simpa using henc,hzl⟩,rfl⟩
 obtain⟨b',c',cur,t2,A,m,C',hb',hh,⟨hcur,hA2⟩,hml,hnew⟩:=RUpd.cells hu (hst.rows r row hrow) rfl hm' (hst.rowsG r row hrow).2 trivial
 rw[hb]at hb'
 cases hb'
 have hw:=hst.write (new:=(A++cat (fun _=>zv.cells.toList) L++C').toArray) hrow hb hh (RUpd.within (hst.rowsG r row hrow).2 (show (AV.d (.vec L s enc (List.replicate L z))).within G from trivial) hu) (fun w' ht hd' hh'=>hnew w' ht hd' hh')
 have hfl:(cat (fun _=>zv.cells.toList) L).length=L*s:=ce _ fun _ _=>hzl
 have hone:∀u∈cat (fun _=>zv.cells.toList) L,u.oneCell'=true:=fun u hu=>by
  obtain⟨k,hk,hu⟩:=ji _ hu
  exact Enc.one _ _ henc u hu
 have hmade:(Builtin.zeroCells zv.cells L).toList=cat (fun _=>zv.cells.toList) L:=by
  have:=io zv.cells.toList (by omega) L
  rw[jS,←this]
  simp[Builtin.zeroCells]
 have hst1:(storeCells ⟨b,aO p,none⟩ (cat (fun _=>zv.cells.toList) L) 0).run P w=.ok () (w.setRow b (A++cat (fun _=>zv.cells.toList) L++C').toArray):=by
  have hcl:cur.size=A.length+m.length+C'.length:=by
   have:=congrArg List.length hcur
   simp at this; omega
  rw[run_storeCells_at P b (aO p) t2 _ 0 cur w hh (by omega) hone]
  congr 3
  rw[hcur]
  have e1:List.take (aO p+0) (A++m++C')=A:=by rw[←hA2]; simp
  have e2:List.drop (aO p+0+(cat (fun _=>zv.cells.toList) L).length) (A++m++C')=C':=by
   rw[←hml,←hA2,Nat.add_zero,←List.length_append,List.drop_left]
  rw[e1,e2]
 have hrun:(Builtin.clear_ #[t] o.type #[a.eval x]).run P w=.ok (.tuple #[]) (w.setRow b (A++cat (fun _=>zv.cells.toList) L++C').toArray):=by
  obtain⟨k,rfl⟩:∃k,L=k+1:=⟨L-1,by omega⟩
  simp[Builtin.clear_,hux,run_underlying hud,hzr,hmade,hst1]
 refine⟨none,_,.value (.tuple #[]),undef,w.setRow b (A++cat (fun _=>zv.cells.toList) L++C').toArray,σ,G,⟨rfl,rfl⟩,?_,.inl rfl,?_,fun _ h=>h,fun _ h=>.inl h⟩
 ·simp[execOp,ho,resolve,invoke,builtin,hrun]
 ·rw[St.put_upd]
  exact hw.set hd (v:=none) (fq _ _ _) trivial
theorem nF {f:Operand} {args:Array Operand} {ts:Array TypeId} {g:FuncId} {first caps:AV} {bs9 avs:List AV} {h0 rows:List (Nat×Row)} {res v:AV} {u:Upds} (l:b4)
  (hfn:FnIs P g avs h0 res rows) (hf:au env f=some (.fn (.func g) first caps)) (hl:evL (au env) args.toList=some bs9) (hc1:first.chain=true) (hc2:caps.chain=true)
  (ha:ci (bd h) (rho l) (bQ first++(bs9++bQ caps)) avs) (hr:cb (bd h) l h0) (hi:fy (rho l) (bP h0)=true) (hk:iq l h0=true)
  (hm:cn (bQ first++(bs9++bQ caps)) avs=true∨h0=[]∧cJ res rows) (hv:res.ren (dZ l n)=v) (hu:cq l n h0 rows=u) :
  aq P (.call { callee :=.value f,args:=args,argTypes:=ts }) env h n (some v) u:=by
 have:=aq.call (n:=n) (ts:=ts) (h0:=h0) (rows:=rows) (res:=res) l hfn hf hl hc1 hc2 ha hr hi hk hm
 rw[hv,hu]at this
 exact this
theorem kR {look:Nat→Option Row} {ρ:Nat→Option Nat} {f:Fn} {r k:Nat} {p:List Step} {bs9 avs:List AV} (hr:ρ r=some k) (h64:Nat.blt r 64=true) (h:ci look ρ bs9 avs) :
  ci look ρ (.fn f (.acons (.ptr k p) .anil) .anil::bs9) (.fn f (.acons (.ptr r p) .anil) .anil::avs):=
 ⟨_,avs,rfl,⟨rfl,by simp[AV.lt,h64]⟩,AVLe.of_eq (by simp only[AV.ren,hr]),h⟩
end
theorem aY.ds_map {t:TypeId} {s:Nat} {ex:Bool} {α β:Type} {enc:α→D} {enc':β→D} (g:α→β) {xs:List α} {ys:List β} (hy:ys=xs.map g) (hg:∀x∈xs,DLe (enc x) (enc' (g x))):aY (.ds t s ex enc xs) (.ds t s ex enc' ys):=by
 subst hy
 intro σ w X r h
 rcases h with ⟨h1,rfl⟩ | ⟨b,c,cur,h1,h0,h2,h3,h4,h5,f,hf,h6⟩
 ·exact .inl ⟨h1,rfl⟩
 ·refine .inr ⟨b,c,cur,h1,by rw[List.length_map]; exact h0,h2,h3,by rw[List.length_map]; exact h4,h5,f,fun i hi=>?_,by rw[List.length_map]; exact h6⟩
  rw[List.length_map]at hi
  refine⟨?_,(hf i hi).2⟩
  rw[List.getElem_map]
  exact hg _ (List.getElem_mem _) _ _ _ (hf i hi).1
end Go.Eng
namespace Go.Eng
open Go.RowKit
variable {P : Program} {op : Op} {env : Env} {h : Upds} {n : Nat} {av av' : AV} {row : Row}
theorem aq.frozen (hs:aq P op env h n (some av) [(n,some row)]) (hf:Frz n row av av'):aq P op env h n (some av') []:=by
 intro C G st σ w a o ho hA hd hst hn hb next Q hnext
 refine hs C G st σ w a o ho hA hd hst hn hb next Q fun x w' σ' G' hst' h1 h2=>?_
 have hnr:∀q row',st.row q=some row'→q≠n:=fun q row' hq e=>by
  subst e
  exact hn q (Nat.le_refl _) (by omega) (hst.rowsG _ _ hq).1
 have hrow:(st.put o.dst (some av) [(n,some row)]).row n=some row:=by
  simp[St.put,St.row,aJ]
 have hrow2:∀q row',q≠n→st.row q=some row'→(st.put o.dst (some av) [(n,some row)]).row q=some row':=fun q row' hq hr=>by
  simp only[St.put,St.row,List.cons_append,List.nil_append,aJ,if_neg (Ne.symm hq)]
  exact hr
 refine hnext x w' σ' G' (hst'.freeze (st':=st.put o.dst (some av') []) n row hrow (fun i v' hi=>?_) (fun q x' hq=>?_) rfl rfl) h1 h2
 ·cases hdst:o.dst with
  | none =>
   simp only[St.put,hdst]at hi ⊢
   exact⟨v',hi,.refl _⟩
  | some d =>
   simp only[St.put,hdst,aJ]at hi ⊢
   split at hi
   ·rename_i e
    rw[if_pos e]
    simp only[Option.some.injEq]at hi
    exact⟨av,rfl,by rw[←hi]; exact hf⟩
   ·rename_i e
    rw[if_neg e]
    exact⟨v',hi,.refl _⟩
 ·have hq':st.row q=some x':=hq
  exact⟨hnr q x' hq',x',hrow2 q x' (hnr q x' hq') hq',.refl _⟩
end Go.Eng
namespace Go.Eng
open Go.RowKit
variable {P : Program} {T : Tab} {env : Env} {h : Upds} {n : Nat}
def lv (e s:Nat):Nat→List (Nat×Nat)
 | 0=>[]
 | k+1=>lv e s k++[(k*s,e)]
theorem gS (e s:Nat):∀k,(lv e s k).length=k
 | 0=>rfl
 | k+1=>by rw[lv,List.length_append,gS e s k]; rfl
theorem mE {e s:Nat}:∀(m k o t:Nat),(lv e s m)[k]?=some (o,t)→t=e∧o=k*s
 | 0,k,o,t,h=>by simp[lv]at h
 | m+1,k,o,t,h=>by
  rw[lv]at h
  rcases Nat.lt_or_ge k m with hk | hk
  ·rw[List.getElem?_append_left (by rw[gS]; exact hk)]at h
   exact mE m k o t h
  ·rw[List.getElem?_append_right (by rw[gS]; exact hk),gS]at h
   have:k-m=0:=by
    rcases Nat.eq_zero_or_pos (k-m)with e | e
    ·exact e
    ·rw[List.getElem?_eq_none (by simp; omega)]at h; cases h
   rw[this]at h
   simp only[List.getElem?_cons_zero,Option.some.injEq,Prod.mk.injEq]at h
   have e:k=m:=by omega
   subst e
   exact⟨h.2.symm,h.1.symm⟩
theorem jT (hT:ao P T) {t e len:Nat} {r re:TyR} {parts:Array (Nat×Operand)} {q:AV} (ht:lk T t=some r) (hd:r.desc=.array len e) (he:lk T e=some re) (hq:gz T (lv e re.size len) (au env) parts.toList (.d r.zero)=some q) (hag:q.isAgg=true) :
  aq P (.build t parts) env h n (some q) []:=.of_comes fun C G st σ w a o ho hA hdst hst hn=>by
 obtain⟨u,hu,hdu⟩:=(hT t r ht).und
 rw[hd]at hdu
 cases hdu
 obtain⟨z,hz,hzc⟩:=(hT t r ht).run_zero w
 have henc:Rel σ w (st.X C.X0 σ) (.d r.zero) false z.cells.toList:=by rw[←hzc]; exact Enc.closed _ _ _ (hT t r ht).zero
 obtain⟨cs',hfill,h1,h2,h3⟩:=eJ hT hst hA (pl:=fun k=>some (k*re.size,re.size)) (fun k o t' r' ho hr'=>by
  obtain⟨rfl,rfl⟩:=mE _ _ _ _ ho
  rw[he]at hr'
  cases hr'
  rfl) parts.toList (.d r.zero) q z.cells.toList hq rfl trivial henc
 refine .quiet (u :=.agg cs'.toArray) hst hdst ⟨rfl,rfl⟩ ?_ (by unfold RelV; rw[if_pos hag]; exact⟨cs',rfl,h1⟩) h3
 have hcs:z.cells.toList.toArray=z.cells:=by simp
 have hpt:(parts.map fun x=>(x.1,a.eval x.2)).toList=parts.toList.map fun x=>(x.1,a.eval x.2):=by simp
 rw[hcs,←hpt]at hfill
 have hb:(Instr.build t (parts.map fun x=>(x.1,a.eval x.2))).run P w=.ok (.agg cs'.toArray) w:=by
  simp only[Instr.build,Sem.run_bind,hz,Result.andThen_ok,run_underlying hu,(hT e re he).run_size,hfill,Sem.run_pure]
 simp only[execOp,ho,Sem.run_bind]
 rw[show (parts.map fun (x:Nat×Operand)=>match x with | (i,x)=>(i,a.eval x))=parts.map fun x=>(x.1,a.eval x.2) from rfl,hb]
 rfl
end Go.Eng
namespace Go.Eng
open Go.RowKit
theorem Frz.ownxe {r te s:Nat} {α:Type} {enc:α→D} {xs:List α} {len:Nat} (hl:len=xs.length):Frz r (.ds te s true enc xs) (.own r 0 len s none) (.d (.arx s enc xs)):=by
 subst hl
 refine⟨rfl,fun _=>rfl,fun _ _=>trivial,fun σ w X X' hx hn hr cs h=>?_⟩
 rcases h with ⟨h0,_,hl,_,rfl⟩ | ⟨b,c,ad,hb,rfl,hle1,hle2,hle3,had⟩
 ·exact .inl ⟨List.eq_nil_of_length_eq_zero hl,none,rfl⟩
 ·rcases hr with ⟨h0,rfl⟩ | ⟨b',c',cur,hb',hex,hh,hsz,hlen,hmax,f,hf,htake⟩
  ·rw[hb]at h0; cases h0
  ·rw[hb]at hb'
   cases hb'
   have hc:c=xs.length:=hex rfl
   subst hc
   refine .inr ⟨ad,by simp,hmax,f,fun i hi=>?_⟩
   obtain⟨h1,h2⟩:=hf i hi
   have hoff:ad=⟨b,0*s,none⟩:=had (by omega)
   subst hoff
   refine⟨Enc.sub hx _ _ h1,h2,fun j u hj=>⟨?_,hn b _ hb⟩⟩
   rw[cZ,cell_of_row w b _ cur te (0,0) hh]
   have hjs:j<s:=by rw[←h2]; exact (List.getElem?_eq_some_iff.1 hj).1
   have hcg:=dP (f:=f) (s:=s) xs.length (fun i hi=>(hf i hi).2) i j hi hjs
   rw[←htake,hj,List.getElem?_take]at hcg
   have hlt2:i*s+j<xs.length*s:=by
    have:(i+1)*s≤xs.length*s:=Nat.mul_le_mul_right s hi
    rw[Nat.add_mul]at this; omega
   rw[if_pos hlt2]at hcg
   rw[←Array.getElem?_toList,Nat.zero_mul,Nat.zero_add]
   exact hcg
section
variable {P : Program} {T : Tab} {env : Env} {h : Upds} {n : Nat}
end
end Go.Eng
namespace Go.Proofs.YtjfkhlamjdbfkaaGreatDoor
open Go.Eng Go.Plain
set_option maxHeartbeats 32000000
set_option maxRecDepth 20000
attribute [local irreducible] WC RegS RegD SeqQ BlkQ ScoQ RegK CutK Sat SatN FnIs LoopQ aq OpIs
theorem qZ (l:List Int) (hp:0<l.length) (hlen:l.length≤1048576):FnIs Tryz.prog 38 [.d (.arr 1 bt l)] [] (.own 64 0 l.length 1 none) [(64,.ds 5 1 true bt l)]:=by
 have hd:decide ((l.length:Int)=0)=false:=dF (by omega)
 have hcp:l.take (List.replicate l.length (0:Int)).length++(List.replicate l.length (0:Int)).drop l.length=l:=by simp
 have hmin:min l.length (List.replicate l.length (0:Int)).length=l.length:=by simp
 refine aw aa Tryz.func38 rfl rfl rfl ?_;refine sR<|rC<|zW ?_;refine rC ?_;refine rQ iE ?_;refine rC ?_;refine zG<|kS<|sR ?_;refine rC ?_;refine rQ iE ?_;refine aG (dH (enc:=bt) (s:=1) (N:=l.length) aa 0 rfl rfl rfl rfl rfl rfl rfl hlen rfl) rfl ?_;refine rC<|nR ?_;refine zD ?_;refine aG (gy (r:=64+8+8+8+8+8+8) (xs:=List.replicate l.length (0:Int)) (ys:=l) (enc:=bt) (zs:=l) (m:=l.length) aa rfl rfl rfl rfl (by rw[List.length_replicate]; rfl) rfl rfl hcp hmin) rfl<|nR ?_;refine zD<|zT ?_
 exact⟨trivial,[(64,some _)],lg zV ⟨zR,trivial⟩⟩
theorem uz (l:List UInt8) (hlen:l.length≤1048576):FnIs Tryz.prog 38 [.d (encB l)] [] (.d (encB l)) []:=by
 cases l with
 | nil =>
  have hd:decide ((0:Int)=0)=true:=rfl
  refine aw aa Tryz.func38 rfl rfl rfl ?_;refine sR<|rC<|zW ?_;refine rC ?_;refine rQ iE ?_;refine rC ?_;refine zO<|sR ?_;refine rC<|zT<|aN ?_
  exact⟨trivial,[],lg ⟨⟨_,rfl,fQ _ _⟩,rfl,trivial⟩ trivial⟩
 | cons a l=>exact (qZ (byI (a::l)) (by simp[byI]) (by rw[b5]; exact hlen)).freeze_out 64 _ rfl (Frz.own rfl) trivial
def zPOp:D :=.cons (u8s 0) (.cons (i6 0) (.cons (.sc (.slice none 0 0)) .nil))
def mN:Option HOp→D
 | none=>.cons (i6 0) (.cons (i6 0) (.cons (i6 0) (.cons zPOp (.cons (i6 0) (.cons (i6 0) (.cons (.vec 32 1 bt (List.replicate 32 0)) (.cons (i6 0) .nil)))))))
 | some x=>cg x
def mO:Option HEv→D
 | none=>.cons (u8s 0) (.cons (i6 0) (.cons zPOp (.cons (.vec 32 1 bt (List.replicate 32 0)) (.cons (i6 0) .nil))))
 | some x=>bx x
abbrev wL (l:List HOp):D :=.arx 41 cg l
abbrev fB (l:List HEv):D :=.arx 38 bx l
def jL:Option (List HEv)→D
 | none=>.sc (.slice none 0 0)
 | some x=>fB x
theorem wX (l:List HOp):di [.d (dO l)] [.d (.arr 41 mN (l.map some))]:=⟨⟨AVLe.d (gZ rfl fun _ _ _ _ _ h=>h) rfl,fun _ _=>trivial⟩,trivial⟩
theorem zu (l:List HEv):di [.d (encH l)] [.d (.arr 38 mO (l.map some))]:=⟨⟨AVLe.d (gZ rfl fun _ _ _ _ _ h=>h) rfl,fun _ _=>trivial⟩,trivial⟩
theorem zt (l:List (List HEv)):di [.d (.arr 1 fB l)] [.d (.arr 1 jL (l.map some))]:=⟨⟨AVLe.d (gZ rfl fun _ _ _ _ _ h=>h) rfl,fun _ _=>trivial⟩,trivial⟩
theorem vG (l:List HOp):aY (.ds 40 41 true mN (l.map some)) (.ds 40 41 true cg l):=
 aY.ds_map (fun o=>match o with | some x=>x | none=>⟨0,0,0,zOp,0,0,[],0⟩) (by rw[List.map_map]; exact (List.map_id _).symm) fun x hx=>by
  obtain⟨y,_,rfl⟩:=List.mem_map.1 hx
  exact fun _ _ _ h=>h
theorem xm (l:List HEv):aY (.ds 48 38 true mO (l.map some)) (.ds 48 38 true bx l):=
 aY.ds_map (fun o=>match o with | some x=>x | none=>⟨0,0,zOp,[],0⟩) (by rw[List.map_map]; exact (List.map_id _).symm) fun x hx=>by
  obtain⟨y,_,rfl⟩:=List.mem_map.1 hx
  exact fun _ _ _ h=>h
theorem xg (l:List (List HEv)):aY (.ds 25 1 true jL (l.map some)) (.ds 25 1 true fB l):=
 aY.ds_map (fun o=>match o with | some x=>x | none=>[]) (by rw[List.map_map]; exact (List.map_id _).symm) fun x hx=>by
  obtain⟨y,_,rfl⟩:=List.mem_map.1 hx
  exact fun _ _ _ h=>h
theorem wc (l:List (Option HOp)) (hp:0<l.length) (hlen:l.length≤1048576):FnIs Tryz.prog 15 [.d (.arr 41 mN l)] [] (.own 64 0 l.length 41 none) [(64,.ds 40 41 true mN l)]:=by
 have hd:decide ((l.length:Int)=0)=false:=dF (by omega)
 have hcp:l.take (List.replicate l.length (none:Option HOp)).length++(List.replicate l.length (none:Option HOp)).drop l.length=l:=by simp
 have hmin:min l.length (List.replicate l.length (none:Option HOp)).length=l.length:=by simp
 refine aw aa Tryz.func15 rfl rfl rfl ?_;refine sR<|rC<|zW ?_;refine rC ?_;refine rQ iE ?_;refine rC ?_;refine zG<|kS<|sR ?_;refine rC ?_;refine rQ iE ?_;refine aG (dH (enc:=mN) (s:=41) (N:=l.length) aa none rfl rfl rfl rfl rfl rfl rfl hlen rfl) rfl ?_;refine rC<|nR ?_;refine zD ?_;refine aG (gy (r:=64+8+8+8+8+8+8) (xs:=List.replicate l.length none) (ys:=l) (enc:=mN) (zs:=l) (m:=l.length) aa rfl rfl rfl rfl (by rw[List.length_replicate]; rfl) rfl rfl hcp hmin) rfl<|nR ?_;refine zD<|zT ?_
 exact⟨trivial,[(64,some _)],lg zV ⟨zR,trivial⟩⟩
theorem xj (l:List HOp) (hlen:l.length≤1048576):FnIs Tryz.prog 15 [.d (.arr 41 cg l)] [] (.d (.arx 41 cg l)) []:=by
 cases l with
 | nil =>
  have hd:decide ((0:Int)=0)=true:=rfl
  refine aw aa Tryz.func15 rfl rfl rfl ?_;refine sR<|rC<|zW ?_;refine rC ?_;refine rQ iE ?_;refine rC ?_;refine zO<|sR ?_;refine rC<|zT<|aN ?_
  exact⟨trivial,[],lg ⟨⟨_,rfl,cp _ _⟩,rfl,trivial⟩ trivial⟩
 | cons a l=>exact FnIs.args_le (wX (a::l)) ((wc ((a::l).map some) (by simp) (by rw[List.length_map]; exact hlen)).freeze_out 64 _ rfl (Frz.row_le (vG (a::l)) (Frz.ownxe (by simp))) trivial)
theorem wg (l:List (Option HEv)) (hp:0<l.length) (hlen:l.length≤1048576):FnIs Tryz.prog 28 [.d (.arr 38 mO l)] [] (.own 64 0 l.length 38 none) [(64,.ds 48 38 true mO l)]:=by
 have hd:decide ((l.length:Int)=0)=false:=dF (by omega)
 have hcp:l.take (List.replicate l.length (none:Option HEv)).length++(List.replicate l.length (none:Option HEv)).drop l.length=l:=by simp
 have hmin:min l.length (List.replicate l.length (none:Option HEv)).length=l.length:=by simp
 refine aw aa Tryz.func28 rfl rfl rfl ?_;refine sR<|rC<|zW ?_;refine rC ?_;refine rQ iE ?_;refine rC ?_;refine zG<|kS<|sR ?_;refine rC ?_;refine rQ iE ?_;refine aG (dH (enc:=mO) (s:=38) (N:=l.length) aa none rfl rfl rfl rfl rfl rfl rfl hlen rfl) rfl ?_;refine rC<|nR ?_;refine zD ?_;refine aG (gy (r:=64+8+8+8+8+8+8) (xs:=List.replicate l.length none) (ys:=l) (enc:=mO) (zs:=l) (m:=l.length) aa rfl rfl rfl rfl (by rw[List.length_replicate]; rfl) rfl rfl hcp hmin) rfl<|nR ?_;refine zD<|zT ?_
 exact⟨trivial,[(64,some _)],lg zV ⟨zR,trivial⟩⟩
theorem nA (l:List HEv) (hlen:l.length≤1048576):FnIs Tryz.prog 28 [.d (.arr 38 bx l)] [] (.d (.arx 38 bx l)) []:=by
 cases l with
 | nil =>
  have hd:decide ((0:Int)=0)=true:=rfl
  refine aw aa Tryz.func28 rfl rfl rfl ?_;refine sR<|rC<|zW ?_;refine rC ?_;refine rQ iE ?_;refine rC ?_;refine zO<|sR ?_;refine rC<|zT<|aN ?_
  exact⟨trivial,[],lg ⟨⟨_,rfl,cp _ _⟩,rfl,trivial⟩ trivial⟩
 | cons a l=>exact FnIs.args_le (zu (a::l)) ((wg ((a::l).map some) (by simp) (by rw[List.length_map]; exact hlen)).freeze_out 64 _ rfl (Frz.row_le (xm (a::l)) (Frz.ownxe (by simp))) trivial)
theorem we (l:List (Option (List HEv))) (hp:0<l.length) (hlen:l.length≤1048576):FnIs Tryz.prog 30 [.d (.arr 1 jL l)] [] (.own 64 0 l.length 1 none) [(64,.ds 25 1 true jL l)]:=by
 have hd:decide ((l.length:Int)=0)=false:=dF (by omega)
 have hcp:l.take (List.replicate l.length (none:Option (List HEv))).length++(List.replicate l.length (none:Option (List HEv))).drop l.length=l:=by simp
 have hmin:min l.length (List.replicate l.length (none:Option (List HEv))).length=l.length:=by simp
 refine aw aa Tryz.func30 rfl rfl rfl ?_;refine sR<|rC<|zW ?_;refine rC ?_;refine rQ iE ?_;refine rC ?_;refine zG<|kS<|sR ?_;refine rC ?_;refine rQ iE ?_;refine aG (dH (enc:=jL) (s:=1) (N:=l.length) aa none rfl rfl rfl rfl rfl rfl rfl hlen rfl) rfl ?_;refine rC<|nR ?_;refine zD ?_;refine aG (gy (r:=64+8+8+8+8+8+8) (xs:=List.replicate l.length none) (ys:=l) (enc:=jL) (zs:=l) (m:=l.length) aa rfl rfl rfl rfl (by rw[List.length_replicate]; rfl) rfl rfl hcp hmin) rfl<|nR ?_;refine zD<|zT ?_
 exact⟨trivial,[(64,some _)],lg zV ⟨zR,trivial⟩⟩
theorem xk (l:List (List HEv)) (hlen:l.length≤1048576):FnIs Tryz.prog 30 [.d (.arr 1 fB l)] [] (.d (.arx 1 fB l)) []:=by
 cases l with
 | nil =>
  have hd:decide ((0:Int)=0)=true:=rfl
  refine aw aa Tryz.func30 rfl rfl rfl ?_;refine sR<|rC<|zW ?_;refine rC ?_;refine rQ iE ?_;refine rC ?_;refine zO<|sR ?_;refine rC<|zT<|aN ?_
  exact⟨trivial,[],lg ⟨⟨_,rfl,cp _ _⟩,rfl,trivial⟩ trivial⟩
 | cons a l=>exact FnIs.args_le (zt (a::l)) ((we ((a::l).map some) (by simp) (by rw[List.length_map]; exact hlen)).freeze_out 64 _ rfl (Frz.row_le (xg (a::l)) (Frz.ownxe (by simp))) trivial)
theorem wx (x:POp) (c1 c2:Bool) (h1:decide (x.kind=0)=c1) (h2:decide (x.index=0)=c2):FnIs Tryz.prog 39 [.d (bv x)] [] (.bool (c1&&c2&&decide (((byI x.data).length:Int)=0))) []:=by
 refine aw aa Tryz.func39 rfl rfl rfl ?_;refine sR<|rN ?_;refine rC<|nR ?_;refine rC ?_;refine rQ iB ?_;refine zD ?_
 cases c1 with
 | false =>
  iterate 3 refine rS ?_
  refine rQ iF ?_;refine rC ?_;iterate 4 refine rT ?_
  refine rQ iG ?_;refine rC<|zT ?_
  exact⟨trivial,[],lf⟩
 | true =>
  refine rO ?_;refine rC ?_;refine rO ?_;refine rQ iB ?_;refine rO ?_;refine rC ?_;refine rQ iT ?_;refine rC ?_
  cases c2 with
  | false =>
   iterate 4 refine rS ?_
   refine rQ iF ?_;refine rC<|zT ?_
   exact⟨trivial,[],lf⟩
  | true =>
   refine rO ?_;refine rC ?_;refine rO ?_;refine rQ iB ?_;refine rO ?_;refine rQ iE ?_;refine rO ?_;refine rC ?_;refine rQ iT ?_;refine rC<|zT ?_
   exact⟨trivial,[],lf⟩
theorem vi (x:POp):(decide (x.kind=0)&&decide (x.index=0)&&decide (((byI x.data).length:Int)=0))=decide (x=zOp):=by
 obtain⟨k,i,d⟩:=x
 rw[b5]
 have:decide (((d.length:Nat):Int)=0)=decide (d=[]):=decide_eq_decide.2 (by rw[←List.length_eq_zero_iff]; omega)
 simp only[this,zOp,POp.mk.injEq]
 by_cases h1:k=0 <;> by_cases h2:i=0 <;> by_cases h3:d=[] <;> simp[h1,h2,h3]
theorem fD (x:POp):FnIs Tryz.prog 39 [.d (bv x)] [] (.bool (decide (x=zOp))) []:=by
 have:=wx x _ _ rfl rfl
 rwa [vi]at this
theorem pp:DLe (.cons (.sc (.int .u8 0)) (.cons (.sc (.int .i64 0)) (.cons (.sc nil_) .nil))) (bv zOp):=by
 rintro w X cs ⟨c1,r1,rfl,h1,c2,r2,rfl,h2,c3,r3,rfl,h3,h4⟩
 exact⟨c1,_,rfl,h1,c2,_,rfl,h2,c3,r3,rfl,.inl ⟨rfl,h3.1⟩,h4⟩
theorem un (x y:HEv) (c1 c2 c3 c4:Bool) (h1:(!decide (x.kind=y.kind))=c1) (h2:(!decide (x.client=y.client))=c2) (h3:(!decide (x.value=y.value))=c3) (h4:(!decide (x.err=y.err))=c4):FnIs Tryz.prog 17 [.d (bx x),.d (bx y)] [] (.d (i6 (if c1||c2||c3||c4 then 0 else if x.op=y.op then 1 else 0))) []:=by
 refine aw aa Tryz.func17 rfl rfl rfl ?_;refine sR ?_;iterate 2 refine rN ?_
 refine rC<|zW ?_;refine rC ?_;refine rQ iB ?_;refine rC ?_;refine rQ iB ?_;refine zD ?_
 cases c1 with
 | true =>
  iterate 5 refine rS ?_
  refine rQ iT ?_;refine rC ?_;iterate 5 refine rT ?_
  refine rQ iU ?_;refine rC ?_;iterate 5 refine rT ?_
  refine rQ iU ?_;refine zO<|sR ?_;refine rC<|zT<|aN ?_
  exact⟨trivial,[],lf⟩
 | false =>
  refine rO ?_;refine rC ?_;refine rO ?_;refine rQ iB ?_;refine rO ?_;refine rC ?_;refine rO ?_;refine rQ iB ?_;refine rO ?_;refine rC ?_;refine rQ iF ?_;refine rC ?_
  cases c2 with
  | true =>
   iterate 5 refine rS ?_
   refine rQ iT ?_;refine rC ?_;iterate 5 refine rT ?_
   refine rQ iU ?_;refine zO<|sR ?_;refine rC<|zT<|aN ?_
   exact⟨trivial,[],lf⟩
  | false =>
   refine rO ?_;refine rC ?_;refine rO ?_;refine rQ iB ?_;refine rO ?_;refine rC ?_;refine rO ?_;refine rQ iB ?_;refine rO ?_;refine rQ (lw rfl rfl rfl rfl (by kernel_rfl) (by decide) (bG x.value y.value)) ?_;refine rQ iF ?_;refine rC ?_
   cases c3 with
   | true =>
    iterate 5 refine rS ?_
    refine rQ iT ?_;refine zO<|sR ?_;refine rC<|zT<|aN ?_
    exact⟨trivial,[],lf⟩
   | false =>
    refine rO ?_;refine rC ?_;refine rO ?_;refine rQ iB ?_;refine rO ?_;refine rC ?_;refine rO ?_;refine rQ iB ?_;refine rO ?_;refine rC ?_;refine rQ iF<|nS ?_
    cases c4 with
    | true =>
     refine wT<|sR ?_;refine rC<|zT<|aN ?_
     exact⟨trivial,[],lf⟩
    | false =>
     refine wF<|kS<|sR ?_;refine rC ?_;refine rQ iB ?_;refine rC ?_;refine rQ iB ?_;refine rQ (am (mn x.op y.op) rfl rfl (aj (aj ab)) (.inl rfl) (fun _=>rfl)) ?_;refine rC<|zT ?_
     exact⟨trivial,[],lf⟩
theorem xn (x y:HEv):(if (!decide (x.kind=y.kind))||(!decide (x.client=y.client))||(!decide (x.value=y.value))||(!decide (x.err=y.err)) then (0:Int) else if x.op=y.op then 1 else 0)=if x=y then 1 else 0:=by
 obtain⟨k,c,o,v,e⟩:=x
 obtain⟨k',c',o',v',e'⟩:=y
 simp only[HEv.mk.injEq]
 by_cases h1:k=k' <;> by_cases h2:c=c' <;> by_cases h3:v=v' <;> by_cases h4:e=e' <;> by_cases h5:o=o' <;> simp[h1,h2,h3,h4,h5]
theorem su (x y:HEv):FnIs Tryz.prog 17 [.d (bx x),.d (bx y)] [] (.d (i6 (if x=y then 1 else 0))) []:=by
 have:=un x y _ _ _ _ rfl rfl rfl rfl
 rwa [xn]at this
theorem ss (p q:List HEv) (hL:p.length≤1000000000):FnIs Tryz.prog 8 [.d (encH p),.d (encH q)] [] (.d (i6 (if p=q then 1 else 0))) []:=by
 refine aw aa Tryz.func8 rfl rfl rfl ?_
 by_cases hlen:p.length=q.length
 ·have hd:(!decide ((p.length:Int)=(q.length:Int)))=false:=by rw[dT (by omega)]; rfl
  refine sR<|rC<|zW ?_;refine rC ?_;refine rQ iE ?_;refine rC ?_;refine rQ iE ?_;refine rC ?_;refine zG<|kS<|qR ?_;refine rC<|zP ?_
  refine wc_inv (fun i:Nat=>⟨[(5,.int .i64 i),(1,.d (encH q)),(0,.d (encH p))],[],72,Tryz.f8.ntmps,64⟩) (fun i=>i≤p.length∧p.take i=q.take i) (fun i=>p.length-i) 0 [] ⟨Nat.zero_le _,by simp⟩
   (lg zj trivial) ?_
  intro i hi
  obtain⟨hi,hsame⟩:=hi
  refine bH<|qR ?_;refine zD ?_;refine rQ iE ?_;refine rC<|nS ?_
  refine bW rfl (fun h3=>?_) (fun h3=>?_)
  ·have hlt:i<p.length:=by have:=of_decide_eq_true h3; omega
   obtain⟨x,hx⟩:∃x,p[i]?=some x:=⟨_,List.getElem?_eq_getElem hlt⟩
   obtain⟨y,hy⟩:∃y,q[i]?=some y:=⟨_,List.getElem?_eq_getElem (by omega)⟩
   have hx':p[((i:Int)).toNat]?=some x:=by rw[Int.toNat_natCast]; exact hx
   have hy':q[((i:Int)).toNat]?=some y:=by rw[Int.toNat_natCast]; exact hy
   have hreq:=su x y
   by_cases he:x=y
   ·rw[if_pos he]at hreq
    refine zQ<|br<|bD<|aH (by kernel_rfl) ?_;refine dC [0] [] ?_;refine dC [5] [] ?_;refine dQ [17,18] [] iA ?_;refine dQ [19] [] iL ?_;refine dC [1] [] ?_;refine dC [5] [] ?_;refine dQ [21,22] [] iA ?_;refine dQ [23] [] iL ?_;refine dQ [20,24] [] (am hreq rfl rfl (aj (aj ab)) (.inl rfl) (fun _=>rfl)) ?_;refine dC [25] [] ?_;refine aB (by kernel_rfl)<|aK ?_;refine wG<|aS<|zC<|ai ?_;refine rC ?_;refine rQ iD ?_;refine rC<|ay ?_
    exact aL (i+1) [] ⟨hlt,by rw[List.take_add_one,List.take_add_one,hx,hy,hsame,he]⟩ (by omega) (lg zj trivial)
   ·rw[if_neg he]at hreq
    rw[if_neg (fun e=>he (by rw[e,hy]at hx; cases hx; rfl))]
    refine zQ<|br<|bD<|aH (by kernel_rfl) ?_;refine dC [0] [] ?_;refine dC [5] [] ?_;refine dQ [17,18] [] iA ?_;refine dQ [19] [] iL ?_;refine dC [1] [] ?_;refine dC [5] [] ?_;refine dQ [21,22] [] iA ?_;refine dQ [23] [] iL ?_;refine dQ [20,24] [] (am hreq rfl rfl (aj (aj ab)) (.inl rfl) (fun _=>rfl)) ?_;refine dC [25] [] ?_;refine aB (by kernel_rfl)<|aK ?_;refine wV<|sR ?_;refine rC<|zT<|zB<|b8<|zB ?_
    exact⟨trivial,[],lf⟩
  ·have he:i=p.length:=by have:=of_decide_eq_false h3; omega
   subst he
   rw[if_pos (by rw[List.take_length]at hsame; rw[hsame,hlen,List.take_length])]
   refine zX<|sR<|rC<|zT ?_
   exact⟨trivial,[],lf⟩
 ·have hd:(!decide ((p.length:Int)=(q.length:Int)))=true:=by rw[dF (by omega)]; rfl
  rw[if_neg (fun e=>hlen (by rw[e]))]
  refine sR<|rC<|zW ?_;refine rC ?_;refine rQ iE ?_;refine rC ?_;refine rQ iE ?_;refine rC ?_;refine zI<|sR ?_;refine rC<|zT<|aN ?_
  exact⟨trivial,[],lf⟩
def befB (a b:HOp):Bool:=if a.era=b.era then decide (0≤a.returned)&&decide (a.returned<b.invoked) else decide (a.era<b.era)
theorem jU (a b:HOp):FnIs Tryz.prog 23 [.d (cg a),.d (cg b)] [] (.bool (befB a b)) []:=by
 refine aw aa Tryz.func23 rfl rfl rfl ?_
 unfold befB
 refine sR ?_;iterate 2 refine rN ?_
 refine rC<|zW ?_;refine rC ?_;refine rQ iB ?_;refine rC ?_;refine rQ iB ?_;refine rC<|nS ?_
 by_cases h:a.era=b.era
 ·have hd:(!decide (a.era=b.era))=false:=by rw[dT h]; rfl
  rw[if_pos h]
  obtain⟨c,hc⟩:∃c,decide (0≤a.returned)=c:=⟨_,rfl⟩
  rw[hc]
  refine wF<|kS<|sR ?_;refine rC ?_;refine rQ iB ?_;refine zD ?_
  cases c with
  | true =>
   refine rO ?_;refine rC ?_;refine rO ?_;refine rQ iB ?_;refine rO ?_;refine rC ?_;refine rO ?_;refine rQ iB ?_;refine rO ?_;refine rC ?_;refine rQ iT ?_;refine rC<|zT ?_
   exact⟨trivial,[],lf⟩
  | false =>
   iterate 5 refine rS ?_
   refine rQ iF ?_;refine rC<|zT ?_
   exact⟨trivial,[],lf⟩
 ·have hd:(!decide (a.era=b.era))=true:=by rw[dF h]; rfl
  rw[if_neg h]
  refine wT<|sR ?_;refine rC ?_;refine rQ iB ?_;refine rC ?_;refine rQ iB ?_;refine zD<|zT<|aN ?_
  exact⟨trivial,[],lf⟩
theorem k9 (p q:List HOp) (hL:p.length≤1000000000):FnIs Tryz.prog 6 [.d (dO p),.d (dO q)] [] (.d (i6 (if p=q then 1 else 0))) []:=by
 refine aw aa Tryz.func6 rfl rfl rfl ?_;refine sR<|rC<|zW ?_;refine rC ?_;refine rQ iE ?_;refine rC ?_;refine rQ iE ?_;refine rC<|nS ?_
 by_cases hlen:p.length=q.length
 ·have hd:(!decide ((p.length:Int)=(q.length:Int)))=false:=by rw[dT (by omega)]; rfl
  refine wF<|kS<|qR ?_;refine rC<|zP ?_
  refine wc_inv (fun i:Nat=>⟨[(5,.int .i64 i),(1,.d (dO q)),(0,.d (dO p))],[],72,Tryz.f6.ntmps,64⟩) (fun i=>i≤p.length∧p.take i=q.take i) (fun i=>p.length-i) 0 [] ⟨Nat.zero_le _,by simp⟩
   (lg zj trivial) ?_
  intro i hi
  obtain⟨hi,hsame⟩:=hi
  refine bH<|qR ?_;refine zD ?_;refine rQ iE ?_;refine rC<|nS ?_
  refine bW rfl (fun h3=>?_) (fun h3=>?_)
  ·have hlt:i<p.length:=by have:=of_decide_eq_true h3; omega
   obtain⟨x,hx⟩:∃x,p[i]?=some x:=⟨_,List.getElem?_eq_getElem hlt⟩
   obtain⟨y,hy⟩:∃y,q[i]?=some y:=⟨_,List.getElem?_eq_getElem (by omega)⟩
   have hx':p[((i:Int)).toNat]?=some x:=by rw[Int.toNat_natCast]; exact hx
   have hy':q[((i:Int)).toNat]?=some y:=by rw[Int.toNat_natCast]; exact hy
   have hreq:=mn x.op y.op
   obtain⟨q7,hq7⟩:∃q:Int,(if x.op=y.op then (1:Int) else 0)=q:=⟨_,rfl⟩
   rw[hq7]at hreq
   have hne:x≠y→¬p=q:=fun h e=>h (by rw[e,hy]at hx; cases hx; rfl)
   refine zQ<|br<|bD<|aH (by kernel_rfl) ?_;refine dC [0] [] ?_;refine dC [5] [] ?_;refine dQ [19,20] [] iA ?_;refine dQ [21] [] iL ?_;refine dC [1] [] ?_;refine dC [5] [] ?_;refine dQ [23,24] [] iA ?_;refine dQ [25] [] iL ?_;iterate 2 refine fp [] [] rfl (aC aa (fun K hk=>hk)) ?_
   refine bp [6,22] [168] (aA aa rfl rfl rfl ⟨_,⟨rfl,rfl,rfl⟩,rfl⟩ rfl) ?_;refine bp [7,26] [176] (aA aa rfl rfl rfl ⟨_,⟨rfl,rfl,rfl⟩,rfl⟩ rfl) ?_;refine aB (by kernel_rfl)<|aK<|sR ?_;refine rC ?_;refine rQ iB ?_;refine rC ?_;refine rQ iB ?_;refine zD ?_
   by_cases e0:x.client=y.client
   ·have d0:(!decide (x.client=y.client))=false:=by rw[dT e0]; rfl
    refine rO ?_;refine rC ?_;refine rO ?_;refine rQ iB ?_;refine rO ?_;refine rC ?_;refine rO ?_;refine rQ iB ?_;refine rO ?_;refine rC ?_;refine rQ iF ?_;refine rC ?_
    by_cases e1:x.number=y.number
    ·have d1:(!decide (x.number=y.number))=false:=by rw[dT e1]; rfl
     refine rO ?_;refine rC ?_;refine rO ?_;refine rQ iB ?_;refine rO ?_;refine rC ?_;refine rO ?_;refine rQ iB ?_;refine rO ?_;refine rC ?_;refine rQ iF ?_;refine rC ?_
     by_cases e2:x.era=y.era
     ·have d2:(!decide (x.era=y.era))=false:=by rw[dT e2]; rfl
      refine rO ?_;refine rC ?_;refine rO ?_;refine rQ iB ?_;refine rO ?_;refine rC ?_;refine rO ?_;refine rQ iB ?_;refine rO ?_;refine rC ?_;refine rQ iF ?_;refine rC ?_
      by_cases e3:x.invoked=y.invoked
      ·have d3:(!decide (x.invoked=y.invoked))=false:=by rw[dT e3]; rfl
       refine rO ?_;refine rC ?_;refine rO ?_;refine rQ iB ?_;refine rO ?_;refine rC ?_;refine rO ?_;refine rQ iB ?_;refine rO ?_;refine rC ?_;refine rQ iF ?_;refine rC ?_
       by_cases e4:x.returned=y.returned
       ·have d4:(!decide (x.returned=y.returned))=false:=by rw[dT e4]; rfl
        refine rO ?_;refine rC ?_;refine rO ?_;refine rQ iB ?_;refine rO ?_;refine rC ?_;refine rO ?_;refine rQ iB ?_;refine rO ?_;refine rQ (lw rfl rfl rfl rfl (by kernel_rfl) (by decide) (bG x.value y.value)) ?_;refine rQ iF ?_;refine rC ?_
        by_cases e5:x.value=y.value
        ·have d5:(!decide (x.value=y.value))=false:=by rw[dT e5]; rfl
         refine rO ?_;refine rC ?_;refine rO ?_;refine rQ iB ?_;refine rO ?_;refine rC ?_;refine rO ?_;refine rQ iB ?_;refine rO ?_;refine rC ?_;refine rQ iF ?_;refine rC ?_
         by_cases e6:x.err=y.err
         ·have d6:(!decide (x.err=y.err))=false:=by rw[dT e6]; rfl
          refine rO ?_;refine rC ?_;refine rO ?_;refine rQ iB ?_;refine rO ?_;refine rC ?_;refine rO ?_;refine rQ iB ?_;refine rO ?_;refine rQ (am hreq rfl rfl (aj (aj ab)) (.inl rfl) (fun _=>rfl)) ?_;refine rO ?_;refine rC ?_;refine rQ iF<|nS ?_
          by_cases e7:x.op=y.op
          ·rw[if_pos e7]at hq7
           subst hq7
           have hxy:x=y:=by
            cases x; cases y
            simp only[HOp.mk.injEq]
            exact⟨e0,e1,e2,e7,e3,e4,e5,e6⟩
           refine wG<|aS<|zC<|ai ?_;refine rC ?_;refine rQ iD ?_;refine rC<|ay ?_
           exact aL (i+1) [] ⟨hlt,by rw[List.take_add_one,List.take_add_one,hx,hy,hsame,hxy]⟩ (by omega) (lg zj trivial)
          ·rw[if_neg e7]at hq7
           subst hq7
           rw[if_neg (hne fun h=>e7 (by rw[h]))]
           refine wV<|sR ?_;refine rC<|zT<|zB<|b8<|zB ?_
           exact⟨trivial,[],lf⟩
         ·have d6:(!decide (x.err=y.err))=true:=by rw[dF e6]; rfl
          rw[if_neg (hne fun h=>e6 (by rw[h]))]
          iterate 6 refine rS ?_
          refine rQ iT ?_;refine zO<|sR ?_;refine rC<|zT<|zB<|b8<|gB<|aN ?_
          exact⟨trivial,[],lf⟩
        ·have d5:(!decide (x.value=y.value))=true:=by rw[dF e5]; rfl
         rw[if_neg (hne fun h=>e5 (by rw[h]))]
         iterate 5 refine rS ?_
         refine rQ iT ?_;refine rC ?_;iterate 6 refine rT ?_
         refine rQ iU ?_;refine zO<|sR ?_;refine rC<|zT<|zB<|b8<|gB<|aN ?_
         exact⟨trivial,[],lf⟩
       ·have d4:(!decide (x.returned=y.returned))=true:=by rw[dF e4]; rfl
        rw[if_neg (hne fun h=>e4 (by rw[h]))]
        iterate 5 refine rS ?_
        refine rQ iT ?_;refine rC ?_;iterate 5 refine rT ?_
        refine rQ iU ?_;refine rC ?_;iterate 6 refine rT ?_
        refine rQ iU ?_;refine zO<|sR ?_;refine rC<|zT<|zB<|b8<|gB<|aN ?_
        exact⟨trivial,[],lf⟩
      ·have d3:(!decide (x.invoked=y.invoked))=true:=by rw[dF e3]; rfl
       rw[if_neg (hne fun h=>e3 (by rw[h]))]
       iterate 5 refine rS ?_
       refine rQ iT ?_;refine rC ?_;iterate 5 refine rT ?_
       refine rQ iU ?_;refine rC ?_;iterate 5 refine rT ?_
       refine rQ iU ?_;refine rC ?_;iterate 6 refine rT ?_
       refine rQ iU ?_;refine zO<|sR ?_;refine rC<|zT<|zB<|b8<|gB<|aN ?_
       exact⟨trivial,[],lf⟩
     ·have d2:(!decide (x.era=y.era))=true:=by rw[dF e2]; rfl
      rw[if_neg (hne fun h=>e2 (by rw[h]))]
      iterate 5 refine rS ?_
      refine rQ iT ?_;refine rC ?_;iterate 5 refine rT ?_
      refine rQ iU ?_;refine rC ?_;iterate 5 refine rT ?_
      refine rQ iU ?_;refine rC ?_;iterate 5 refine rT ?_
      refine rQ iU ?_;refine rC ?_;iterate 6 refine rT ?_
      refine rQ iU ?_;refine zO<|sR ?_;refine rC<|zT<|zB<|b8<|gB<|aN ?_
      exact⟨trivial,[],lf⟩
    ·have d1:(!decide (x.number=y.number))=true:=by rw[dF e1]; rfl
     rw[if_neg (hne fun h=>e1 (by rw[h]))]
     iterate 5 refine rS ?_
     refine rQ iT ?_;refine rC ?_;iterate 5 refine rT ?_
     refine rQ iU ?_;refine rC ?_;iterate 5 refine rT ?_
     refine rQ iU ?_;refine rC ?_;iterate 5 refine rT ?_
     refine rQ iU ?_;refine rC ?_;iterate 5 refine rT ?_
     refine rQ iU ?_;refine rC ?_;iterate 6 refine rT ?_
     refine rQ iU ?_;refine zO<|sR ?_;refine rC<|zT<|zB<|b8<|gB<|aN ?_
     exact⟨trivial,[],lf⟩
   ·have d0:(!decide (x.client=y.client))=true:=by rw[dF e0]; rfl
    rw[if_neg (hne fun h=>e0 (by rw[h]))]
    iterate 5 refine rS ?_
    refine rQ iT ?_;refine rC ?_;iterate 5 refine rT ?_
    refine rQ iU ?_;refine rC ?_;iterate 5 refine rT ?_
    refine rQ iU ?_;refine rC ?_;iterate 5 refine rT ?_
    refine rQ iU ?_;refine rC ?_;iterate 5 refine rT ?_
    refine rQ iU ?_;refine rC ?_;iterate 5 refine rT ?_
    refine rQ iU ?_;refine rC ?_;iterate 6 refine rT ?_
    refine rQ iU ?_;refine zO<|sR ?_;refine rC<|zT<|zB<|b8<|gB<|aN ?_
    exact⟨trivial,[],lf⟩
  ·have he:i=p.length:=by have:=of_decide_eq_false h3; omega
   subst he
   rw[if_pos (by rw[List.take_length]at hsame; rw[hsame,hlen,List.take_length])]
   refine zX<|sR<|rC<|zT ?_
   exact⟨trivial,[],lf⟩
 ·have hd:(!decide ((p.length:Int)=(q.length:Int)))=true:=by rw[dF (by omega)]; rfl
  rw[if_neg (fun e=>hlen (by rw[e]))]
  refine wT<|sR ?_;refine rC<|zT<|aN ?_
  exact⟨trivial,[],lf⟩
theorem xd (n:Int) (xs:List Int) (hL:xs.length≤1000000000):FnIs Tryz.prog 50 [.d (.arr 1 i6 xs),.int .i64 n] [] (.int .i64 (idxF (fun y=>decide (n=y)) xs)) []:=by
 refine aw aa Tryz.func50 rfl rfl rfl ?_;refine sR<|rC<|zW ?_;refine rC ?_;refine rQ iE ?_;refine rC<|zP ?_
 refine wc_inv (fun i:Nat=>⟨[(8,.int .i64 i),(7,.int .i64 xs.length),(1,.int .i64 n),(0,.d (.arr 1 i6 xs))],[],72,Tryz.f50.ntmps,64⟩) (fun i=>i≤xs.length∧∀j,j<i→∀y,xs[j]?=some y→decide (n=y)=false) (fun i=>xs.length-i) 0 [] ⟨Nat.zero_le _,fun j hj=>absurd hj (Nat.not_lt_zero _)⟩
  (lg zi trivial) ?_
 rintro i ⟨hi,hno⟩
 refine bH<|sR ?_;refine rC<|nQ ?_
 refine bW rfl (fun h2=>?_) (fun h2=>?_)
 ·have hlt:i<xs.length:=by have:=of_decide_eq_true h2; omega
  obtain⟨x,hx⟩:∃u,xs[i]?=some u:=⟨_,List.getElem?_eq_getElem hlt⟩
  have hx':xs[((i:Int)).toNat]?=some x:=by rw[Int.toNat_natCast]; exact hx
  cases hp:decide (n=x) with
  | true =>
   refine zQ<|zS<|zD<|nR ?_;refine zU ?_;refine rQ (aI aa rfl rfl rfl rfl rfl (by omega) hx') ?_;refine rQ iL ?_;refine rC ?_;refine zI<|sR ?_;refine zD<|zT<|zB<|b8<|zB ?_
   exact⟨trivial,[],lg ⟨⟨_,rfl,AVLe.of_eq (by rw[jB (p:=fun y=>decide (n=y)) hx hp hno]; rfl)⟩,rfl,trivial⟩ trivial⟩
  | false =>
   refine zQ<|zS<|zD<|nR ?_;refine zU ?_;refine rQ (aI aa rfl rfl rfl rfl rfl (by omega) hx') ?_;refine rQ iL ?_;refine rC ?_;refine zG<|aS<|zC ?_
   refine ai<|rQ iD ?_;refine rC<|ay ?_;refine aL (i+1) [] ⟨hlt,fun j hj y hy=>?_⟩ (by omega) ?_
   ·by_cases e:j=i
    ·subst e
     rw[hx]at hy
     cases hy
     exact hp
    ·exact hno j (by omega) y hy
   ·exact lg zi trivial
 ·have he:i=xs.length:=by have:=of_decide_eq_false h2; omega
  refine zX<|sR<|rC<|zT ?_
  exact⟨trivial,[],lg ⟨⟨_,rfl,AVLe.of_eq (by
   rw[jC (p:=fun y=>decide (n=y)) fun j y hy=>hno j (by have:=(List.getElem?_eq_some_iff.1 hy).1; omega) y hy]
   rfl)⟩,rfl,trivial⟩ trivial⟩
theorem nE (n:Int) (xs:List Int) (hL:xs.length≤1000000000):FnIs Tryz.prog 40 [.d (.arr 1 i6 xs),.int .i64 n] [] (.bool (xs.any fun y=>decide (n=y))) []:=by
 refine aw aa Tryz.func40 rfl rfl rfl ?_;refine sR<|rC<|nR ?_;refine zD ?_;refine rQ (am (xd n xs hL) rfl rfl (aj (aj ab)) (.inl rfl) (fun _=>rfl)) ?_;refine zD<|zT ?_
 exact⟨trivial,[],lg ⟨⟨_,rfl,AVLe.of_eq (by rw[←lL]; rfl)⟩,rfl,trivial⟩ trivial⟩
theorem nq (x:HEv) (hlen:x.op.data.length≤1048576):FnIs Tryz.prog 29 [.d (bx x)] [] (.d (bx x)) []:=by
 refine aw aa Tryz.func29 rfl rfl rfl ?_;refine sR ?_;iterate 2 refine rN ?_
 refine nR<|zD ?_;refine rQ iB ?_;refine rQ (am (uz x.op.data hlen) rfl rfl (aj ab) (.inl rfl) (fun _=>rfl)) ?_;refine zD ?_;refine aR (aA aa rfl rfl rfl ⟨_,⟨_,⟨_,⟨_,⟨rfl,rfl,rfl⟩,rfl⟩,rfl⟩,rfl⟩,rfl⟩ rfl)<|nR ?_;refine rQ iM ?_;refine rW<|nS<|bO ?_
 exact⟨trivial,_,rfl,[],lf⟩
end Go.Proofs.YtjfkhlamjdbfkaaGreatDoor
namespace Go.Proofs.YtjfkhlamjdbfkaaGreatDoor
open Go.Eng Go.Plain
set_option maxHeartbeats 32000000
set_option maxRecDepth 20000
structure RdS where
 busy:List Int
 number:List Int
 era:Int
 read:Int
 all:List HOp
def dj:List Int:=[0,0,0,0,0,0,0,0]
def rd0:RdS:=⟨dj,dj,0,0,[]⟩
def kn4 (e:Int):Bool:=decide (e=0)||decide (e=1)||decide (e=8)||decide (e=9)
def inv1 (s:RdS) (x:HEv):Bool:=decide (0≤x.client)&&decide (x.client<8)&&decide (s.busy[x.client.toNat]?=some 0)&&decide (x.op.data.length≤64)&&decide (x.value=zBk)&&decide (x.err=0)
def opOf (s:RdS) (x:HEv):Option HOp:=match s.busy[x.client.toNat]? with
 | some b=>s.all[(b-1).toNat]?
 | none=>none
def ret1 (s:RdS) (x:HEv):Bool:=decide (0≤x.client)&&decide (x.client<8) && !decide (s.busy[x.client.toNat]?=some 0)&&decide (x.op=zOp)&&kn4 x.err&&(decide (x.value=zBk)||(match opOf s x with | some o=>decide (o.op.kind=1)&&decide (x.err=0) | none=>false))
def jQ (x:HEv):Bool:=decide (x.client=0)&&decide (x.op=zOp)&&decide (x.value=zBk)&&decide (x.err=0)
def aZ (s:RdS) (x:HEv):RdS×Bool :=
 let c:=x.client.toNat
 if x.kind=1 then
  if inv1 s x then (⟨s.busy.set c (s.all.length+1),s.number.set c ((s.number[c]?.getD 0)+1),s.era,s.read+1,s.all++[⟨x.client,s.number[c]?.getD 0,s.era,x.op,s.read,-1,zBk,0⟩]⟩,true)
  else ({ s with read:=s.read+1 },false)
 else if x.kind=2 then
  if ret1 s x then (⟨s.busy.set c 0,s.number,s.era,s.read+1,match opOf s x with | some o=>s.all.set ((s.busy[c]?.getD 0)-1).toNat { o with returned:=s.read,value:=x.value,err:=x.err } | none=>s.all⟩,true)
  else ({ s with read:=s.read+1 },false)
 else if x.kind=3 then (⟨dj,s.number,s.era+1,s.read+1,s.all⟩,jQ x)
 else ({ s with read:=s.read+1 },false)
structure RdS.Ok (s:RdS) (n:Nat):Prop where
 blen:s.busy.length=8
 nlen:s.number.length=8
 busy:∀b∈s.busy,0≤b∧b≤s.all.length
 number:∀b∈s.number,0≤b∧b≤n
 era:0≤s.era∧s.era≤n
 read:s.read=n
 all:s.all.length≤n
theorem gm:rd0.Ok 0:=⟨rfl,rfl,by decide,by decide,by decide,rfl,by decide⟩
theorem RdS.Ok.next {s:RdS} {n:Nat} (h:s.Ok n) (x:HEv):(aZ s x).1.Ok (n+1):=by
 have mset:∀ {l:List Int} {c:Nat} {v b:Int},b∈l.set c v→b=v∨b∈l:=fun hb=>by
  rcases List.mem_or_eq_of_mem_set hb with h | h
  ·exact .inr h
  ·exact .inl h
 have hnum:∀c:Nat,0≤s.number[c]?.getD 0∧s.number[c]?.getD 0≤n:=fun c=>by
  cases hc:s.number[c]? with
  | none=>simp
  | some b=>exact h.number b (List.mem_of_getElem? hc)
 have hbase:({ s with read:=s.read+1 }:RdS).Ok (n+1):=⟨h.blen,h.nlen,h.busy,fun b hb=>by have:=h.number b hb; omega,by have:=h.era; constructor <;> simp only <;> omega,by have:=h.read; simp only; omega,by have:=h.all; simp only; omega⟩
 have h1:=h.era
 have h2:=h.read
 have h3:=h.all
 unfold aZ
 simp only
 by_cases k1:x.kind=1
 ·rw[if_pos k1]
  cases hi:inv1 s x with
  | false=>simpa using hbase
  | true =>
   simp only[if_pos]
   refine⟨by simp[h.blen],by simp[h.nlen],fun b hb=>?_,fun b hb=>?_,by constructor <;> simp only <;> omega,by simp only; omega,by simp; omega⟩
   ·rcases mset hb with rfl | hb
    ·constructor
     ·omega
     ·simp
    ·have:=h.busy b hb
     simp; omega
   ·rcases mset hb with rfl | hb
    ·have:=hnum x.client.toNat
     omega
    ·have:=h.number b hb; omega
 ·rw[if_neg k1]
  by_cases k2:x.kind=2
  ·rw[if_pos k2]
   cases hi:ret1 s x with
   | false=>simpa using hbase
   | true =>
    simp only[if_pos]
    have hl:(match opOf s x with | some o=>s.all.set ((s.busy[x.client.toNat]?.getD 0)-1).toNat { o with returned:=s.read,value:=x.value,err:=x.err } | none=>s.all).length=s.all.length:=by
     cases opOf s x <;> simp
    refine⟨by simp[h.blen],h.nlen,fun b hb=>?_,fun b hb=>by have:=h.number b hb; omega,by constructor <;> simp only <;> omega,by simp only; omega,by simp only[hl]; omega⟩
    simp only[hl]
    rcases mset hb with rfl | hb
    ·omega
    ·exact h.busy b hb
  ·rw[if_neg k2]
   by_cases k3:x.kind=3
   ·rw[if_pos k3]
    refine⟨rfl,h.nlen,fun b hb=>?_,fun b hb=>by have:=h.number b hb; omega,by constructor <;> simp only <;> omega,by simp only; omega,by simp only; omega⟩
    have:b=0:=by simpa[dj]using hb
    simp only
    omega
   ·rw[if_neg k3]; exact hbase
end Go.Proofs.YtjfkhlamjdbfkaaGreatDoor
namespace Go.Proofs.YtjfkhlamjdbfkaaGreatDoor
open Go.Eng Go.Plain
set_option maxHeartbeats 32000000
set_option maxRecDepth 20000
attribute [local irreducible] WC RegS RegD SeqQ BlkQ ScoQ RegK CutK Sat SatN FnIs LoopQ aq OpIs
abbrev cC (s:RdS) (r:Nat):Row :=.box 60 (.acons (.d (.vec 8 1 i6 s.busy)) (.acons (.d (.vec 8 1 i6 s.number)) (.acons (.d (i6 s.era)) (.acons (.d (i6 s.read)) (.acons (.own r 0 s.all.length 41 none) .anil)))))
abbrev db (l:List HOp):Row :=.ds 40 41 false cg l
abbrev ga (s:RdS) (x:HEv) (s':RdS) (b:Bool):Prop:=FnIs Tryz.prog 27 [.ptr 0 [],.d (bx x)] [(0,cC s 1),(1,db s.all)] (.bool b) [(0,cC s' 64),(64,db s'.all)]
theorem pA (s:RdS) (x:HEv) (n:Nat) (hs:s.Ok n) (hn:n≤1000000) (k1:x.kind≠1) (k2:x.kind≠2) (k3:x.kind≠3) (c0:Bool) (h0:decide (0≤x.client)=c0):ga s x { s with read:=s.read+1 } false:=by
 have hr:=hs.read
 have d1:decide (x.kind=1)=false:=dF k1
 have d2:decide (x.kind=2)=false:=dF k2
 have d3:decide (x.kind=3)=false:=dF k3
 have hw:IntKind.i64.wrap (s.read+1)=s.read+1:=aP (by omega) (by omega)
 refine aw aa Tryz.func27 rfl rfl rfl ?_;refine sR<|rN ?_;refine rC<|nR ?_;refine zU ?_;refine rQ iM ?_;refine rC<|nR ?_;refine zU ?_;refine rQ iM ?_;refine rQ iD ?_;refine zD ?_;refine aR (aA aa rfl rfl rfl ⟨_,⟨_,⟨rfl,rfl,rfl⟩,rfl⟩,rfl⟩ rfl)<|nR ?_;refine rC ?_;refine rQ iB ?_;refine zD ?_
 cases c0 with
 | false =>
  iterate 3 refine rS ?_
  refine rQ iF ?_;refine rC<|nR ?_;refine rC ?_;refine rQ iB ?_;refine rQ (bk aa rfl rfl rfl) ?_;refine rQ (bT rfl rfl rfl rfl (by kernel_rfl) (by decide) (bG x.value zBk)) ?_;refine rC<|nQ<|zS ?_;refine rC ?_;refine rQ iB ?_;refine zD ?_;refine zG<|sR ?_;refine rC ?_;refine rQ iB ?_;refine zD ?_;refine zG<|sR ?_;refine rC ?_;refine rQ iB ?_;refine zD ?_;refine zG<|sR ?_;refine rC<|zT<|zB ?_
  exact⟨trivial,[(64,some 1)],lg zV ⟨zR,zR,trivial⟩⟩
 | true =>
  refine rO ?_;refine rC ?_;refine rO ?_;refine rQ iB ?_;refine rO ?_;refine rC ?_;refine rQ iT ?_;refine rC<|nR ?_;refine rC ?_;refine rQ iB ?_;refine rQ (bk aa rfl rfl rfl) ?_;refine rQ (bT rfl rfl rfl rfl (by kernel_rfl) (by decide) (bG x.value zBk)) ?_;refine rC<|nQ<|zS ?_;refine rC ?_;refine rQ iB ?_;refine zD ?_;refine zG<|sR ?_;refine rC ?_;refine rQ iB ?_;refine zD ?_;refine zG<|sR ?_;refine rC ?_;refine rQ iB ?_;refine zD ?_;refine zG<|sR ?_;refine rC<|zT<|zB ?_
  exact⟨trivial,[(64,some 1)],lg zV ⟨zR,zR,trivial⟩⟩
theorem pB (s:RdS) (x:HEv) (n:Nat) (hs:s.Ok n) (hn:n≤1000000) (k3:x.kind=3) (c0 c1 c2 c3:Bool) (h0:decide (0≤x.client)=c0) (h1:decide (x.client=0)=c1) (h2:decide (x.op=zOp)=c2) (h3:decide (x.value=zBk)=c3):ga s x ⟨dj,s.number,s.era+1,s.read+1,s.all⟩ (c1&&c2&&c3&&decide (x.err=0)):=by
 have hr:=hs.read
 have he:=hs.era
 have d1:decide (x.kind=1)=false:=dF (by omega)
 have d2:decide (x.kind=2)=false:=dF (by omega)
 have d3:decide (x.kind=3)=true:=dT k3
 have hw:IntKind.i64.wrap (s.read+1)=s.read+1:=aP (by omega) (by omega)
 have hw2:IntKind.i64.wrap (s.era+1)=s.era+1:=aP (by omega) (by omega)
 refine aw aa Tryz.func27 rfl rfl rfl ?_;refine sR<|rN ?_;refine rC<|nR ?_;refine zU ?_;refine rQ iM ?_;refine rC<|nR ?_;refine zU ?_;refine rQ iM ?_;refine rQ iD ?_;refine zD ?_;refine aR (aA aa rfl rfl rfl ⟨_,⟨_,⟨rfl,rfl,rfl⟩,rfl⟩,rfl⟩ rfl)<|nR ?_;refine rC ?_;refine rQ iB ?_;refine zD ?_
 cases c0 with
 | false =>
  have e1:c1=false:=by rw[←h1]; exact dF (by have:=of_decide_eq_false h0; omega)
  subst e1
  iterate 3 refine rS ?_
  refine rQ iF ?_;refine rC<|nR ?_;refine rC ?_;refine rQ iB ?_;refine rQ (bk aa rfl rfl rfl) ?_;refine rQ (bT rfl rfl rfl rfl (by kernel_rfl) (by decide) (bG x.value zBk)) ?_;refine rC<|nQ<|zS ?_;refine rC ?_;refine rQ iB ?_;refine zD ?_;refine zG<|sR ?_;refine rC ?_;refine rQ iB ?_;refine zD ?_;refine zG<|sR ?_;refine rC ?_;refine rQ iB ?_;refine zD ?_;refine zI<|sR ?_;refine zU ?_;refine rQ (gI aa rfl rfl rfl) ?_;refine bh rfl (g8 (enc:=i6) (s:=1) (L:=8) aa (0:Int) rfl rfl rfl rfl rfl rfl rfl rfl ⟨_,⟨_,⟨rfl,rfl,rfl⟩,rfl⟩,rfl⟩) rfl rfl<|nR ?_;refine zU ?_;refine rQ iM ?_;refine rQ iD ?_;refine zD ?_;refine aR (aA aa rfl rfl rfl ⟨_,⟨_,⟨rfl,rfl,rfl⟩,rfl⟩,rfl⟩ rfl)<|nR ?_;refine rC ?_;refine rQ iB ?_;refine zD ?_
  iterate 3 refine rS ?_
  refine rQ iF ?_;refine rC ?_;refine rT ?_;refine rQ iG ?_;refine rC ?_;iterate 3 refine rT ?_
  refine rQ iG ?_;refine rC<|zT<|zB ?_
  exact⟨trivial,[(64,some 1)],lg zV ⟨zR,zR,trivial⟩⟩
 | true =>
  refine rO ?_;refine rC ?_;refine rO ?_;refine rQ iB ?_;refine rO ?_;refine rC ?_;refine rQ iT ?_;refine rC<|nR ?_;refine rC ?_;refine rQ iB ?_;refine rQ (bk aa rfl rfl rfl) ?_;refine rQ (bT rfl rfl rfl rfl (by kernel_rfl) (by decide) (bG x.value zBk)) ?_;refine rC<|nQ<|zS ?_;refine rC ?_;refine rQ iB ?_;refine zD ?_;refine zG<|sR ?_;refine rC ?_;refine rQ iB ?_;refine zD ?_;refine zG<|sR ?_;refine rC ?_;refine rQ iB ?_;refine zD ?_;refine zI<|sR ?_;refine zU ?_;refine rQ (gI aa rfl rfl rfl) ?_;refine bh rfl (g8 (enc:=i6) (s:=1) (L:=8) aa (0:Int) rfl rfl rfl rfl rfl rfl rfl rfl ⟨_,⟨_,⟨rfl,rfl,rfl⟩,rfl⟩,rfl⟩) rfl rfl<|nR ?_;refine zU ?_;refine rQ iM ?_;refine rQ iD ?_;refine zD ?_;refine aR (aA aa rfl rfl rfl ⟨_,⟨_,⟨rfl,rfl,rfl⟩,rfl⟩,rfl⟩ rfl)<|nR ?_;refine rC ?_;refine rQ iB ?_;refine zD ?_
  cases c1 with
  | false =>
   iterate 3 refine rS ?_
   refine rQ iF ?_;refine rC ?_;refine rT ?_;refine rQ iG ?_;refine rC ?_;iterate 3 refine rT ?_
   refine rQ iG ?_;refine rC<|zT<|zB ?_
   exact⟨trivial,[(64,some 1)],lg zV ⟨zR,zR,trivial⟩⟩
  | true =>
   refine rO ?_;refine rC ?_;refine rO ?_;refine rQ iB ?_;refine rO ?_;refine rQ (am (fD x.op) rfl rfl (aj ab) (.inl rfl) (fun _=>rfl)) ?_;refine rQ iT ?_;refine rC ?_
   cases c2 with
   | false =>
    refine rS ?_;refine rQ iF ?_;refine rC ?_;iterate 3 refine rT ?_
    refine rQ iG ?_;refine rC<|zT<|zB ?_
    exact⟨trivial,[(64,some 1)],lg zV ⟨zR,zR,trivial⟩⟩
   | true =>
    refine rO ?_;refine rC ?_;refine rQ iT ?_;refine rC ?_
    cases c3 with
    | false =>
     iterate 3 refine rS ?_
     refine rQ iF ?_;refine rC<|zT<|zB ?_
     exact⟨trivial,[(64,some 1)],lg zV ⟨zR,zR,trivial⟩⟩
    | true =>
     refine rO ?_;refine rC ?_;refine rO ?_;refine rQ iB ?_;refine rO ?_;refine rC ?_;refine rQ iT ?_;refine rC<|zT<|zB ?_
     exact⟨trivial,[(64,some 1)],lg zV ⟨zR,zR,trivial⟩⟩
theorem s7 (s:RdS) (x:HEv) (n:Nat) (hs:s.Ok n) (hn:n≤1000000) (k1:x.kind=1) (m:Int) (hc0:0≤x.client) (hc8:x.client<8) (hbg:s.busy[x.client.toNat]?=some 0) (hng:s.number[x.client.toNat]?=some m) (hd64:x.op.data.length≤64) (hval:x.value=zBk) (herr:x.err=0) :
  ga s x ⟨s.busy.set x.client.toNat ((s.all.length+1:Nat):Int),s.number.set x.client.toNat (m+1),s.era,s.read+1,s.all++[⟨x.client,m,s.era,x.op,s.read,-1,zBk,0⟩]⟩ true:=by
 have hr:=hs.read
 have ha:=hs.all
 have hm:=hs.number m (List.mem_of_getElem? hng)
 have d1:decide (x.kind=1)=true:=dT k1
 have c0:decide (0≤x.client)=true:=dT hc0
 have c8:decide (x.client<8)=true:=dT hc8
 have n8:(!decide (x.client<8))=false:=by rw[c8]; rfl
 have b0:decide ((0:Int)<0)=false:=rfl
 have l64:decide ((64:Int)<((byI x.op.data).length:Int))=false:=dF (by rw[b5]; omega)
 have v0:(!decide (x.value=zBk))=false:=by rw[dT hval]; rfl
 have e0:(!decide (x.err=0))=false:=by rw[dT herr]; rfl
 have hw:IntKind.i64.wrap (s.read+1)=s.read+1:=aP (by omega) (by omega)
 have hwm:IntKind.i64.wrap (m+1)=m+1:=aP (by omega) (by omega)
 have hlen:x.op.data.length≤1048576:=by omega
 have hal:s.all.length+1≤1048576:=by omega
 simp only[ga,cC,List.length_append,List.length_cons,List.length_nil,Nat.zero_add]
 refine aw aa Tryz.func27 rfl rfl rfl ?_;refine sR<|rN ?_;refine rC<|nR ?_;refine zU ?_;refine rQ iM ?_;refine rC<|nR ?_;refine zU ?_;refine rQ iM ?_;refine rQ iD ?_;refine zD ?_;refine aR (aA aa rfl rfl rfl ⟨_,⟨_,⟨rfl,rfl,rfl⟩,rfl⟩,rfl⟩ rfl)<|nR ?_;refine rC ?_;refine rQ iB ?_;refine zD ?_;refine rO ?_;refine rC ?_;refine rO ?_;refine rQ iB ?_;refine rO ?_;refine rC ?_;refine rQ iT ?_;refine rC<|nR ?_;refine rC ?_;refine rQ iB ?_;refine rQ (bk aa rfl rfl rfl) ?_;refine rQ (bT rfl rfl rfl rfl (by kernel_rfl) (by decide) (bG x.value zBk)) ?_;refine rC<|nQ<|zS ?_;refine rC ?_;refine rQ iB ?_;refine zD ?_;refine zI ?_;iterate 2 refine bD ?_
 refine aH (by kernel_rfl) ?_;refine dC [6] [] ?_;refine dC [37] [] ?_;refine dC [38] [] ?_;refine ak [39,0] [] rfl rfl (by assumption) rfl (aC aa (fun K hk=>hk)) ?_;refine ak [39,3] [] rfl rfl (by assumption) rfl (aC aa (fun K hk=>hk)) ?_;refine ak [39,41] [64] rfl rfl (by assumption) rfl (aV aa rfl rfl ⟨_,rfl,rfl⟩ rfl) ?_;refine ak [39,40] [] rfl rfl (by assumption) rfl (aC aa (fun K hk=>hk)) ?_;refine ak [39,43] [] rfl rfl (by assumption) rfl (aC aa (fun K hk=>hk)) ?_;refine ak [39,44,42] [] rfl rfl (by assumption) rfl (aC aa (fun K hk=>⟨by omega,by omega,hk⟩)) ?_;refine ak [39,45] [0] rfl rfl (by assumption) rfl (aV aa rfl rfl ⟨_,⟨rfl,_,hbg,rfl⟩,rfl⟩ rfl) ?_;refine ak [39,46] [] rfl rfl (by assumption) rfl (aC aa (fun K hk=>hk)) ?_;refine dQ [39,47] [] iF ?_;refine dC [48] [] ?_;refine ak [49,3] [] rfl rfl rfl rfl (aC aa (fun K hk=>hk)) ?_;refine ak [49,50] [] rfl rfl rfl rfl (aC aa (fun K hk=>hk)) ?_;refine ak [49,51] [64] rfl rfl rfl rfl (aV aa rfl rfl ⟨_,rfl,rfl⟩ rfl) ?_;refine ak [49,52] [] rfl rfl rfl rfl (iP aa rfl rfl) ?_;refine ak [49,53] [] rfl rfl rfl rfl (aC aa (fun K hk=>hk)) ?_;refine dQ [49,54] [] iG ?_;refine dC [55] [] ?_;refine ak [56,7] [] rfl rfl (by assumption) rfl (aC aa (fun K hk=>hk)) ?_;refine ak [56,57] [] rfl rfl (by assumption) rfl (aC aa (fun K hk=>hk)) ?_;refine dQ [56,58] [] iF ?_;refine dC [59] [] ?_;refine ak [60,3] [] rfl rfl (by assumption) rfl (aC aa (fun K hk=>hk)) ?_;refine ak [60,61] [64] rfl rfl (by assumption) rfl (aV aa rfl rfl ⟨_,rfl,rfl⟩ rfl) ?_;refine ak [60,62] [] rfl rfl (by assumption) rfl (aC aa (fun K hk=>hk)) ?_;refine dQ [60,63] [] iF ?_;refine aB (by kernel_rfl)<|aK ?_;refine wF<|kS<|sR ?_;refine zD ?_;refine rQ iB ?_;refine rQ (am (uz x.op.data hlen) rfl rfl (aj ab) (.inl rfl) (fun _=>rfl)) ?_;refine zD ?_;refine aR (aA aa rfl rfl rfl ⟨_,⟨_,⟨_,⟨_,⟨rfl,rfl,rfl⟩,rfl⟩,rfl⟩,rfl⟩,rfl⟩ rfl)<|nQ ?_;refine aH (by kernel_rfl) ?_;iterate 2 refine dC [0] [] ?_
 refine dC [72] [] ?_;refine dC [73] [] ?_;refine dQ [74] [0] iM ?_;refine dC [3] [] ?_;refine dQ [76] [64] iB ?_;refine dC [0] [] ?_;refine dC [3] [] ?_;refine dQ [79] [64] iB ?_;refine dC [78] [] ?_;refine dC [81] [] ?_;refine dQ [82,80] [] (aC aa (fun K hk=>⟨by omega,by omega,hk⟩)) ?_;refine dQ [83] [0] (aV aa rfl rfl ⟨_,⟨rfl,_,hng,rfl⟩,rfl⟩ rfl) ?_;refine dC [0] [] ?_;refine dC [85] [] ?_;refine dC [86] [] ?_;refine dQ [87] [0] iM ?_;refine dC [3] [] ?_;refine dQ [89] [64] iB ?_;refine dC [5] [] ?_;refine dQ [77,84,88,90,91] [] iS ?_;refine fp [92] [] rfl (aD (s:=41) aa rfl rfl rfl rfl rfl rfl rfl rfl) ?_;refine gX [75,93] [1,784] rfl (aM (enc:=cg) (s:=41) (xs:=s.all) aa ⟨x.client,m,s.era,x.op,s.read,-1,zBk,0⟩ rfl rfl rfl rfl rfl rfl rfl rfl rfl hal rfl) ?_;refine dC [71] [] ?_;refine dC [95] [] ?_;refine bp [96,94] [0] (aA aa rfl rfl rfl ⟨_,⟨_,⟨rfl,rfl,rfl⟩,rfl⟩,rfl⟩ rfl) ?_;refine aB (by kernel_rfl)<|aK<|bD ?_;refine aH (by kernel_rfl) ?_;refine dC [0] [] ?_;refine dC [3] [] ?_;refine dQ [98] [64] iB ?_;refine dC [97] [] ?_;refine dC [100] [] ?_;refine dQ [101,99] [] (aC aa (fun K hk=>⟨by omega,by omega,hk⟩)) ?_;refine dQ [102] [0] (aV aa rfl rfl ⟨_,⟨rfl,_,hng,rfl⟩,rfl⟩ rfl) ?_;refine dQ [103] [] iD ?_;refine dC [97] [] ?_;refine dC [105] [] ?_;refine dQ [106,99] [] (aC aa (fun K hk=>⟨by omega,by omega,hk⟩)) ?_;refine bp [107,104] [0] (aA aa rfl rfl rfl ⟨_,⟨_,⟨_,⟨rfl,_,m+1,hng,⟨rfl,rfl,rfl⟩,rfl⟩,rfl⟩,rfl⟩,rfl⟩ rfl) ?_;refine aB (by kernel_rfl)<|aK ?_;refine aH (by kernel_rfl) ?_;refine dC [0] [] ?_;refine dC [3] [] ?_;refine dQ [109] [64] iB ?_;refine dC [0] [] ?_;refine dC [111] [] ?_;refine dC [112] [] ?_;refine dQ [113] [0] iM ?_;refine dQ [114] [792] (bB aa rfl rfl) ?_;refine dC [108] [] ?_;refine dC [116] [] ?_;refine dQ [117,110] [] (aC aa (fun K hk=>⟨by omega,by omega,hk⟩)) ?_;refine bp [118,115] [0] (aA aa rfl rfl rfl ⟨_,⟨_,⟨_,⟨rfl,_,((s.all.length+1:Nat):Int),hbg,⟨rfl,rfl,rfl⟩,rfl⟩,rfl⟩,rfl⟩,rfl⟩ rfl) ?_;refine aB (by kernel_rfl)<|zC<|sR ?_;refine rC<|zT ?_
 exact⟨trivial,[(64,some _)],lg zV ⟨zR,zR,trivial⟩⟩
theorem n4 (s:RdS) (x:HEv) (n:Nat) (hs:s.Ok n) (hn:n≤1000000) (k1:x.kind=1) (hno:inv1 s x=false):ga s x { s with read:=s.read+1 } false:=by
 have hr:=hs.read
 have d1:decide (x.kind=1)=true:=dT k1
 have hw:IntKind.i64.wrap (s.read+1)=s.read+1:=aP (by omega) (by omega)
 refine aw aa Tryz.func27 rfl rfl rfl ?_;refine sR<|rN ?_;refine rC<|nR ?_;refine zU ?_;refine rQ iM ?_;refine rC<|nR ?_;refine zU ?_;refine rQ iM ?_;refine rQ iD ?_;refine zD ?_;refine aR (aA aa rfl rfl rfl ⟨_,⟨_,⟨rfl,rfl,rfl⟩,rfl⟩,rfl⟩ rfl)<|nR ?_;refine rC ?_;refine rQ iB ?_;refine zD ?_
 by_cases hc0:0≤x.client
 ·have c0:decide (0≤x.client)=true:=dT hc0
  refine rO ?_;refine rC ?_;refine rO ?_;refine rQ iB ?_;refine rO ?_;refine rC ?_;refine rQ iT ?_;refine rC<|nR ?_;refine rC ?_;refine rQ iB ?_;refine rQ (bk aa rfl rfl rfl) ?_;refine rQ (bT rfl rfl rfl rfl (by kernel_rfl) (by decide) (bG x.value zBk)) ?_;refine rC<|nQ<|zS ?_;refine rC ?_;refine rQ iB ?_;refine zD ?_;refine zI ?_;iterate 2 refine bD ?_
  refine aH (by kernel_rfl) ?_;refine dC [6] [] ?_;refine dC [37] [] ?_;refine dC [38] [] ?_
  by_cases hc8:x.client<8
  ·have c8:decide (x.client<8)=true:=dT hc8
   have n8:(!decide (x.client<8))=false:=by rw[c8]; rfl
   obtain⟨b,hbg⟩:∃b,s.busy[x.client.toNat]?=some b:=⟨_,List.getElem?_eq_getElem (by rw[hs.blen]; omega)⟩
   have hb:=hs.busy b (List.mem_of_getElem? hbg)
   refine ak [39,0] [] rfl rfl (by assumption) rfl (aC aa (fun K hk=>hk)) ?_;refine ak [39,3] [] rfl rfl (by assumption) rfl (aC aa (fun K hk=>hk)) ?_;refine ak [39,41] [64] rfl rfl (by assumption) rfl (aV aa rfl rfl ⟨_,rfl,rfl⟩ rfl) ?_;refine ak [39,40] [] rfl rfl (by assumption) rfl (aC aa (fun K hk=>hk)) ?_;refine ak [39,43] [] rfl rfl (by assumption) rfl (aC aa (fun K hk=>hk)) ?_;refine ak [39,44,42] [] rfl rfl (by assumption) rfl (aC aa (fun K hk=>⟨by omega,by omega,hk⟩)) ?_;refine ak [39,45] [0] rfl rfl (by assumption) rfl (aV aa rfl rfl ⟨_,⟨rfl,_,hbg,rfl⟩,rfl⟩ rfl) ?_;refine ak [39,46] [] rfl rfl (by assumption) rfl (aC aa (fun K hk=>hk)) ?_;refine dQ [39,47] [] iF ?_;refine dC [48] [] ?_
   by_cases hb0:b=0
   ·have b0:decide (0<b)=false:=dF (by omega)
    refine ak [49,3] [] rfl rfl (by assumption) rfl (aC aa (fun K hk=>hk)) ?_;refine ak [49,50] [] rfl rfl (by assumption) rfl (aC aa (fun K hk=>hk)) ?_;refine ak [49,51] [64] rfl rfl (by assumption) rfl (aV aa rfl rfl ⟨_,rfl,rfl⟩ rfl) ?_;refine ak [49,52] [] rfl rfl (by assumption) rfl (iP aa rfl rfl) ?_;refine ak [49,53] [] rfl rfl (by assumption) rfl (aC aa (fun K hk=>hk)) ?_;refine dQ [49,54] [] iF ?_;refine dC [55] [] ?_
    by_cases hd:x.op.data.length≤64
    ·have l64:decide ((64:Int)<((byI x.op.data).length:Int))=false:=dF (by rw[b5]; omega)
     refine ak [56,7] [] rfl rfl (by assumption) rfl (aC aa (fun K hk=>hk)) ?_;refine ak [56,57] [] rfl rfl (by assumption) rfl (aC aa (fun K hk=>hk)) ?_;refine dQ [56,58] [] iF ?_;refine dC [59] [] ?_
     by_cases hv:x.value=zBk
     ·have v0:(!decide (x.value=zBk))=false:=by rw[dT hv]; rfl
      have e0:(!decide (x.err=0))=true:=by
       skip
       cases h:decide (x.err=0) with
       | false=>rfl
       | true =>
        rw[inv1,c0,c8,hbg,hb0,dT hd,dT hv,h]at hno
        cases hno
      refine ak [60,3] [] rfl rfl (by assumption) rfl (aC aa (fun K hk=>hk)) ?_;refine ak [60,61] [64] rfl rfl (by assumption) rfl (aV aa rfl rfl ⟨_,rfl,rfl⟩ rfl) ?_;refine ak [60,62] [] rfl rfl (by assumption) rfl (aC aa (fun K hk=>hk)) ?_;refine dQ [60,63] [] iF ?_;refine aB (by kernel_rfl)<|aK ?_;refine wT<|sR ?_;refine rC<|zT<|aN<|zB ?_
      exact⟨trivial,[(64,some 1)],lg zV ⟨zR,zR,trivial⟩⟩
     ·have v0:(!decide (x.value=zBk))=true:=by rw[dF hv]; rfl
      refine ae [60,3] rfl rfl (by assumption) rfl ?_;refine ae [60,61] rfl rfl (by assumption) rfl ?_;refine ae [60,62] rfl rfl (by assumption) rfl ?_;refine dQ [60,63] [] iT ?_;refine aB (by kernel_rfl)<|aK ?_;refine wV<|sR ?_;refine rC<|zT<|aN<|zB ?_
      exact⟨trivial,[(64,some 1)],lg zV ⟨zR,zR,trivial⟩⟩
    ·have l64:decide ((64:Int)<((byI x.op.data).length:Int))=true:=dT (by rw[b5]; omega)
     refine ae [56,7] rfl rfl (by assumption) rfl ?_;refine ae [56,57] rfl rfl (by assumption) rfl ?_;refine dQ [56,58] [] iT ?_;refine dC [59] [] ?_;refine ae [60,3] rfl rfl rfl rfl ?_;refine ae [60,61] rfl rfl rfl rfl ?_;refine ae [60,62] rfl rfl rfl rfl ?_;refine dQ [60,63] [] iU ?_;refine aB (by kernel_rfl)<|aK ?_;refine wV<|sR ?_;refine rC<|zT<|aN<|zB ?_
     exact⟨trivial,[(64,some 1)],lg zV ⟨zR,zR,trivial⟩⟩
   ·have b0:decide (0<b)=true:=dT (by omega)
    refine ae [49,3] rfl rfl (by assumption) rfl ?_;refine ae [49,50] rfl rfl (by assumption) rfl ?_;refine ae [49,51] rfl rfl (by assumption) rfl ?_;refine ae [49,52] rfl rfl (by assumption) rfl ?_;refine ae [49,53] rfl rfl (by assumption) rfl ?_;refine dQ [49,54] [] iT ?_;refine dC [55] [] ?_;refine ae [56,7] rfl rfl rfl rfl ?_;refine ae [56,57] rfl rfl rfl rfl ?_;refine dQ [56,58] [] iU ?_;refine dC [59] [] ?_;refine ae [60,3] rfl rfl rfl rfl ?_;refine ae [60,61] rfl rfl rfl rfl ?_;refine ae [60,62] rfl rfl rfl rfl ?_;refine dQ [60,63] [] iU ?_;refine aB (by kernel_rfl)<|aK ?_;refine wV<|sR ?_;refine rC<|zT<|aN<|zB ?_
    exact⟨trivial,[(64,some 1)],lg zV ⟨zR,zR,trivial⟩⟩
  ·have c8:decide (x.client<8)=false:=dF hc8
   have n8:(!decide (x.client<8))=true:=by rw[c8]; rfl
   refine ae [39,0] rfl rfl (by assumption) rfl ?_;refine ae [39,3] rfl rfl (by assumption) rfl ?_;refine ae [39,41] rfl rfl (by assumption) rfl ?_;refine ae [39,40] rfl rfl (by assumption) rfl ?_;refine ae [39,43] rfl rfl (by assumption) rfl ?_;refine ae [39,44,42] rfl rfl (by assumption) rfl ?_;refine ae [39,45] rfl rfl (by assumption) rfl ?_;refine ae [39,46] rfl rfl (by assumption) rfl ?_;refine dQ [39,47] [] iT ?_;refine dC [48] [] ?_;refine ae [49,3] rfl rfl rfl rfl ?_;refine ae [49,50] rfl rfl rfl rfl ?_;refine ae [49,51] rfl rfl rfl rfl ?_;refine ae [49,52] rfl rfl rfl rfl ?_;refine ae [49,53] rfl rfl rfl rfl ?_;refine dQ [49,54] [] iU ?_;refine dC [55] [] ?_;refine ae [56,7] rfl rfl rfl rfl ?_;refine ae [56,57] rfl rfl rfl rfl ?_;refine dQ [56,58] [] iU ?_;refine dC [59] [] ?_;refine ae [60,3] rfl rfl rfl rfl ?_;refine ae [60,61] rfl rfl rfl rfl ?_;refine ae [60,62] rfl rfl rfl rfl ?_;refine dQ [60,63] [] iU ?_;refine aB (by kernel_rfl)<|aK ?_;refine wV<|sR ?_;refine rC<|zT<|aN<|zB ?_
   exact⟨trivial,[(64,some 1)],lg zV ⟨zR,zR,trivial⟩⟩
 ·have c0:decide (0≤x.client)=false:=dF hc0
  iterate 3 refine rS ?_
  refine rQ iF ?_;refine rC<|nR ?_;refine rC ?_;refine rQ iB ?_;refine rQ (bk aa rfl rfl rfl) ?_;refine rQ (bT rfl rfl rfl rfl (by kernel_rfl) (by decide) (bG x.value zBk)) ?_;refine rC<|nQ<|zS ?_;refine rC ?_;refine rQ iB ?_;refine zD ?_;refine zI ?_;iterate 2 refine bD ?_
  refine aH (by kernel_rfl) ?_;refine dC [6] [] ?_;refine dC [37] [] ?_;refine dC [38] [] ?_;refine ae [39,0] rfl rfl rfl rfl ?_;refine ae [39,3] rfl rfl rfl rfl ?_;refine ae [39,41] rfl rfl rfl rfl ?_;refine ae [39,40] rfl rfl rfl rfl ?_;refine ae [39,43] rfl rfl rfl rfl ?_;refine ae [39,44,42] rfl rfl rfl rfl ?_;refine ae [39,45] rfl rfl rfl rfl ?_;refine ae [39,46] rfl rfl rfl rfl ?_;refine dQ [39,47] [] iU ?_;refine dC [48] [] ?_;refine ae [49,3] rfl rfl rfl rfl ?_;refine ae [49,50] rfl rfl rfl rfl ?_;refine ae [49,51] rfl rfl rfl rfl ?_;refine ae [49,52] rfl rfl rfl rfl ?_;refine ae [49,53] rfl rfl rfl rfl ?_;refine dQ [49,54] [] iU ?_;refine dC [55] [] ?_;refine ae [56,7] rfl rfl rfl rfl ?_;refine ae [56,57] rfl rfl rfl rfl ?_;refine dQ [56,58] [] iU ?_;refine dC [59] [] ?_;refine ae [60,3] rfl rfl rfl rfl ?_;refine ae [60,61] rfl rfl rfl rfl ?_;refine ae [60,62] rfl rfl rfl rfl ?_;refine dQ [60,63] [] iU ?_;refine aB (by kernel_rfl)<|aK ?_;refine wV<|sR ?_;refine rC<|zT<|aN<|zB ?_
  exact⟨trivial,[(64,some 1)],lg zV ⟨zR,zR,trivial⟩⟩
theorem kP (e:Int):([0,1,8,9]:List Int).any (fun y=>decide (e=y))=kn4 e:=by simp[kn4,Bool.or_assoc]
theorem pz (s:RdS) (x:HEv) (n:Nat) (hs:s.Ok n) (hn:n≤1000000) (k2:x.kind=2) (b:Int) (o:HOp) (hc0:0≤x.client) (hc8:x.client<8) (hbg:s.busy[x.client.toNat]?=some b) (hb0:b≠0) (hog:s.all[(b-1).toNat]?=some o) (hz:x.op=zOp) (c1 c2 c3:Bool) (h1:(!([0,1,8,9]:List Int).any (fun y=>decide (x.err=y)))=c1) (h2:(!decide (x.value=zBk))=c2) (h3:(!decide (o.op.kind=1))=c3) (h4:(c1||c2&&(c3 || !decide (x.err=0)))=false) :
  ga s x ⟨s.busy.set x.client.toNat 0,s.number,s.era,s.read+1,s.all.set (b-1).toNat { o with returned:=s.read,value:=x.value,err:=x.err }⟩ true:=by
 have hr:=hs.read
 have ha:=hs.all
 have hb:=hs.busy b (List.mem_of_getElem? hbg)
 have d1:decide (x.kind=1)=false:=dF (by omega)
 have d2:decide (x.kind=2)=true:=dT k2
 have c0:decide (0≤x.client)=true:=dT hc0
 have c8:decide (x.client<8)=true:=dT hc8
 have n8:(!decide (x.client<8))=false:=by rw[c8]; rfl
 have b0:decide (b=0)=false:=dF hb0
 have z0:(!decide (x.op=zOp))=false:=by rw[dT hz]; rfl
 have hw:IntKind.i64.wrap (s.read+1)=s.read+1:=aP (by omega) (by omega)
 have hwb:IntKind.i64.wrap (b-1)=b-1:=aP (by omega) (by omega)
 have hlt:b-1<(s.all.length:Int):=by omega
 have hge:0≤b-1:=by omega
 have hjl:=(List.getElem?_eq_some_iff.1 hog).1
 have hog1:(s.all.set (b-1).toNat { o with returned:=s.read })[(b-1).toNat]?=some { o with returned:=s.read }:=List.getElem?_set_self hjl
 have hog2:(s.all.set (b-1).toNat { o with returned:=s.read,value:=x.value })[(b-1).toNat]?=some { o with returned:=s.read,value:=x.value }:=List.getElem?_set_self hjl
 simp only[ga,cC,List.length_set]
 refine aw aa Tryz.func27 rfl rfl rfl ?_;refine sR<|rN ?_;refine rC<|nR ?_;refine zU ?_;refine rQ iM ?_;refine rC<|nR ?_;refine zU ?_;refine rQ iM ?_;refine rQ iD ?_;refine zD ?_;refine aR (aA aa rfl rfl rfl ⟨_,⟨_,⟨rfl,rfl,rfl⟩,rfl⟩,rfl⟩ rfl)<|nR ?_;refine rC ?_;refine rQ iB ?_;refine zD ?_;refine rO ?_;refine rC ?_;refine rO ?_;refine rQ iB ?_;refine rO ?_;refine rC ?_;refine rQ iT ?_;refine rC<|nR ?_;refine rC ?_;refine rQ iB ?_;refine rQ (bk aa rfl rfl rfl) ?_;refine rQ (bT rfl rfl rfl rfl (by kernel_rfl) (by decide) (bG x.value zBk)) ?_;refine rC<|nQ<|zS ?_;refine rC ?_;refine rQ iB ?_;refine zD ?_;refine zG<|sR ?_;refine rC ?_;refine rQ iB ?_;refine zD ?_;refine zI ?_;iterate 2 refine bD ?_
 refine aH (by kernel_rfl) ?_;refine dC [6] [] ?_;refine dC [123] [] ?_;refine dC [124] [] ?_;refine ak [125,0] [] rfl rfl (by assumption) rfl (aC aa (fun K hk=>hk)) ?_;refine ak [125,3] [] rfl rfl (by assumption) rfl (aC aa (fun K hk=>hk)) ?_;refine ak [125,127] [64] rfl rfl (by assumption) rfl (aV aa rfl rfl ⟨_,rfl,rfl⟩ rfl) ?_;refine ak [125,126] [] rfl rfl (by assumption) rfl (aC aa (fun K hk=>hk)) ?_;refine ak [125,129] [] rfl rfl (by assumption) rfl (aC aa (fun K hk=>hk)) ?_;refine ak [125,130,128] [] rfl rfl (by assumption) rfl (aC aa (fun K hk=>⟨by omega,by omega,hk⟩)) ?_;refine ak [125,131] [0] rfl rfl (by assumption) rfl (aV aa rfl rfl ⟨_,⟨rfl,_,hbg,rfl⟩,rfl⟩ rfl) ?_;refine ak [125,132] [] rfl rfl (by assumption) rfl (aC aa (fun K hk=>hk)) ?_;refine dQ [125,133] [] iF ?_;refine dC [134] [] ?_;refine ak [135,3] [] rfl rfl (by assumption) rfl (aC aa (fun K hk=>hk)) ?_;refine ak [135,136] [64] rfl rfl (by assumption) rfl (aV aa rfl rfl ⟨_,rfl,rfl⟩ rfl) ?_;refine ak [135,137] [] rfl rfl (by assumption) rfl (am (fD x.op) rfl rfl (aj ab) (.inl rfl) (fun _=>rfl)) ?_;refine ak [135,138] [] rfl rfl (by assumption) rfl (aC aa (fun K hk=>hk)) ?_;refine dQ [135,139] [] iF ?_;refine aB (by kernel_rfl)<|aK ?_;refine wF<|zQ ?_;refine aH (by kernel_rfl) ?_;refine dC [0] [] ?_;refine dC [141] [] ?_;refine dC [142] [] ?_;refine dQ [143] [0] iM ?_;refine dC [0] [] ?_;refine dC [3] [] ?_;refine dQ [146] [64] iB ?_;refine dC [145] [] ?_;refine dC [148] [] ?_;refine dQ [149,147] [] (aC aa (fun K hk=>⟨by omega,by omega,hk⟩)) ?_;refine dQ [150] [0] (aV aa rfl rfl ⟨_,⟨rfl,_,hbg,rfl⟩,rfl⟩ rfl) ?_;refine dQ [151] [] (cu aa rfl rfl hwb) ?_;refine dQ [144,152] [] (bc aa rfl rfl rfl rfl rfl (by omega) (by omega)) ?_;refine dC [153] [] ?_;refine aB (by kernel_rfl)<|aK<|sR ?_;refine rQ (aq.frozen (aD (s:=1) aa rfl rfl rfl rfl rfl rfl rfl rfl) (Frz.litsN (enc:=i6) [0,1,8,9] rfl (fun _ _=>rfl))) ?_;refine rC ?_;refine rQ iB ?_;refine rQ (am (nE x.err [0,1,8,9] (by decide)) rfl rfl (aj (aj ab)) (.inl rfl) (fun _=>rfl)) ?_;refine rC<|zW ?_;refine zU ?_
 cases c1 with
 | true=>cases h4
 | false =>
  refine rO ?_;refine rC ?_;refine rO ?_;refine rC ?_;refine rO ?_;refine rC ?_
  cases c2 with
  | false =>
   iterate 7 refine rS ?_
   iterate 3 refine rU ?_
   refine rS ?_;refine rO ?_;iterate 2 refine rQ iF ?_
   refine zJ<|zQ ?_;refine aH (by kernel_rfl) ?_;iterate 3 refine dC [8] [] ?_
   refine dC [5] [] ?_;refine dC [3] [] ?_;refine dQ [181] [64] iB ?_;refine dC [3] [] ?_;refine dQ [183] [64] iB ?_;refine dC [177] [] ?_;refine dC [185] [] ?_;refine bp [186,180] [1] (aA (row':=db (s.all.set (b-1).toNat { o with returned:=s.read })) aa rfl rfl rfl ⟨rfl,o, { o with returned:=s.read },hog,⟨_,⟨rfl,rfl,rfl⟩,rfl⟩,rfl⟩ rfl) ?_;refine dC [178] [] ?_;refine dC [187] [] ?_;refine bp [188,182] [1] (aA (row':=db (s.all.set (b-1).toNat { o with returned:=s.read,value:=x.value })) aa rfl rfl rfl ⟨rfl,_, { o with returned:=s.read,value:=x.value },hog1,⟨_,⟨rfl,rfl,rfl⟩,rfl⟩,(by rw[List.set_set])⟩ rfl) ?_;refine dC [179] [] ?_;refine dC [189] [] ?_;refine bp [190,184] [1] (aA (row':=db (s.all.set (b-1).toNat { o with returned:=s.read,value:=x.value,err:=x.err })) aa rfl rfl rfl ⟨rfl,_, { o with returned:=s.read,value:=x.value,err:=x.err },hog2,⟨_,⟨rfl,rfl,rfl⟩,rfl⟩,(by rw[List.set_set])⟩ rfl) ?_;refine aB (by kernel_rfl)<|aK ?_;refine aH (by kernel_rfl) ?_;refine dC [0] [] ?_;refine dC [3] [] ?_;refine dQ [192] [64] iB ?_;refine dC [191] [] ?_;refine dC [194] [] ?_;refine dQ [195,193] [] (aC aa (fun K hk=>⟨by omega,by omega,hk⟩)) ?_;refine bp [196] [0] (aA aa rfl rfl rfl ⟨_,⟨_,⟨_,⟨rfl,_,0,hbg,⟨rfl,rfl,rfl⟩,rfl⟩,rfl⟩,rfl⟩,rfl⟩ rfl) ?_;refine aB (by kernel_rfl)<|zC<|sR ?_;refine rC<|zT ?_
   exact⟨trivial,[(64,some 1)],lg zV ⟨zR,zR,trivial⟩⟩
  | true =>
   refine rO ?_;refine rC ?_;refine rO ?_;refine rC ?_;refine rO ?_;refine rC ?_;refine rO ?_;refine rC ?_;refine rO ?_;refine rQ (bF aa rfl rfl ⟨rfl,o,hog,_,rfl,rfl⟩ rfl) ?_;refine rO ?_;refine rC ?_;refine rO ?_;refine rC ?_
   cases c3 with
   | true=>cases h4
   | false =>
    have e0:(!decide (x.err=0))=false:=h4
    refine rO ?_;refine rC ?_;refine rO ?_;refine rQ iB ?_;refine rO ?_;refine rC ?_;refine rO ?_;refine rQ iF ?_;refine rO ?_;refine rQ iT ?_;refine rQ iF<|nS ?_;refine wF<|zQ ?_;refine aH (by kernel_rfl) ?_;iterate 3 refine dC [8] [] ?_
    refine dC [5] [] ?_;refine dC [3] [] ?_;refine dQ [181] [64] iB ?_;refine dC [3] [] ?_;refine dQ [183] [64] iB ?_;refine dC [177] [] ?_;refine dC [185] [] ?_;refine bp [186,180] [1] (aA (row':=db (s.all.set (b-1).toNat { o with returned:=s.read })) aa rfl rfl rfl ⟨rfl,o, { o with returned:=s.read },hog,⟨_,⟨rfl,rfl,rfl⟩,rfl⟩,rfl⟩ rfl) ?_;refine dC [178] [] ?_;refine dC [187] [] ?_;refine bp [188,182] [1] (aA (row':=db (s.all.set (b-1).toNat { o with returned:=s.read,value:=x.value })) aa rfl rfl rfl ⟨rfl,_, { o with returned:=s.read,value:=x.value },hog1,⟨_,⟨rfl,rfl,rfl⟩,rfl⟩,(by rw[List.set_set])⟩ rfl) ?_;refine dC [179] [] ?_;refine dC [189] [] ?_;refine bp [190,184] [1] (aA (row':=db (s.all.set (b-1).toNat { o with returned:=s.read,value:=x.value,err:=x.err })) aa rfl rfl rfl ⟨rfl,_, { o with returned:=s.read,value:=x.value,err:=x.err },hog2,⟨_,⟨rfl,rfl,rfl⟩,rfl⟩,(by rw[List.set_set])⟩ rfl) ?_;refine aB (by kernel_rfl)<|aK ?_;refine aH (by kernel_rfl) ?_;refine dC [0] [] ?_;refine dC [3] [] ?_;refine dQ [192] [64] iB ?_;refine dC [191] [] ?_;refine dC [194] [] ?_;refine dQ [195,193] [] (aC aa (fun K hk=>⟨by omega,by omega,hk⟩)) ?_;refine bp [196] [0] (aA aa rfl rfl rfl ⟨_,⟨_,⟨_,⟨rfl,_,0,hbg,⟨rfl,rfl,rfl⟩,rfl⟩,rfl⟩,rfl⟩,rfl⟩ rfl) ?_;refine aB (by kernel_rfl)<|zC<|sR ?_;refine rC<|zT ?_
    exact⟨trivial,[(64,some 1)],lg zV ⟨zR,zR,trivial⟩⟩
theorem n0 (s:RdS) (x:HEv) (n:Nat) (hs:s.Ok n) (hn:n≤1000000) (k2:x.kind=2) (hno:ret1 s x=false):ga s x { s with read:=s.read+1 } false:=by
 have hr:=hs.read
 have ha:=hs.all
 have d1:decide (x.kind=1)=false:=dF (by omega)
 have d2:decide (x.kind=2)=true:=dT k2
 have hw:IntKind.i64.wrap (s.read+1)=s.read+1:=aP (by omega) (by omega)
 refine aw aa Tryz.func27 rfl rfl rfl ?_;refine sR<|rN ?_;refine rC<|nR ?_;refine zU ?_;refine rQ iM ?_;refine rC<|nR ?_;refine zU ?_;refine rQ iM ?_;refine rQ iD ?_;refine zD ?_;refine aR (aA aa rfl rfl rfl ⟨_,⟨_,⟨rfl,rfl,rfl⟩,rfl⟩,rfl⟩ rfl)<|nR ?_;refine rC ?_;refine rQ iB ?_;refine zD ?_
 by_cases hc0:0≤x.client
 ·have c0:decide (0≤x.client)=true:=dT hc0
  refine rO ?_;refine rC ?_;refine rO ?_;refine rQ iB ?_;refine rO ?_;refine rC ?_;refine rQ iT ?_;refine rC<|nR ?_;refine rC ?_;refine rQ iB ?_;refine rQ (bk aa rfl rfl rfl) ?_;refine rQ (bT rfl rfl rfl rfl (by kernel_rfl) (by decide) (bG x.value zBk)) ?_;refine rC<|nQ<|zS ?_;refine rC ?_;refine rQ iB ?_;refine zD ?_;refine zG<|sR ?_;refine rC ?_;refine rQ iB ?_;refine zD ?_;refine zI ?_;iterate 2 refine bD ?_
  refine aH (by kernel_rfl) ?_;refine dC [6] [] ?_;refine dC [123] [] ?_;refine dC [124] [] ?_
  by_cases hc8:x.client<8
  ·have c8:decide (x.client<8)=true:=dT hc8
   have n8:(!decide (x.client<8))=false:=by rw[c8]; rfl
   obtain⟨b,hbg⟩:∃b,s.busy[x.client.toNat]?=some b:=⟨_,List.getElem?_eq_getElem (by rw[hs.blen]; omega)⟩
   have hb:=hs.busy b (List.mem_of_getElem? hbg)
   refine ak [125,0] [] rfl rfl (by assumption) rfl (aC aa (fun K hk=>hk)) ?_;refine ak [125,3] [] rfl rfl (by assumption) rfl (aC aa (fun K hk=>hk)) ?_;refine ak [125,127] [64] rfl rfl (by assumption) rfl (aV aa rfl rfl ⟨_,rfl,rfl⟩ rfl) ?_;refine ak [125,126] [] rfl rfl (by assumption) rfl (aC aa (fun K hk=>hk)) ?_;refine ak [125,129] [] rfl rfl (by assumption) rfl (aC aa (fun K hk=>hk)) ?_;refine ak [125,130,128] [] rfl rfl (by assumption) rfl (aC aa (fun K hk=>⟨by omega,by omega,hk⟩)) ?_;refine ak [125,131] [0] rfl rfl (by assumption) rfl (aV aa rfl rfl ⟨_,⟨rfl,_,hbg,rfl⟩,rfl⟩ rfl) ?_;refine ak [125,132] [] rfl rfl (by assumption) rfl (aC aa (fun K hk=>hk)) ?_;refine dQ [125,133] [] iF ?_;refine dC [134] [] ?_
   by_cases hb0:b=0
   ·have b0:decide (b=0)=true:=dT hb0
    refine ae [135,3] rfl rfl (by assumption) rfl ?_;refine ae [135,136] rfl rfl (by assumption) rfl ?_;refine ae [135,137] rfl rfl (by assumption) rfl ?_;refine ae [135,138] rfl rfl (by assumption) rfl ?_;refine dQ [135,139] [] iT ?_;refine aB (by kernel_rfl)<|aK ?_;refine wV<|sR ?_;refine rC<|zT<|aN<|zB ?_
    exact⟨trivial,[(64,some 1)],lg zV ⟨zR,zR,trivial⟩⟩
   ·have b0:decide (b=0)=false:=dF hb0
    refine ak [135,3] [] rfl rfl (by assumption) rfl (aC aa (fun K hk=>hk)) ?_;refine ak [135,136] [64] rfl rfl (by assumption) rfl (aV aa rfl rfl ⟨_,rfl,rfl⟩ rfl) ?_;refine ak [135,137] [] rfl rfl (by assumption) rfl (am (fD x.op) rfl rfl (aj ab) (.inl rfl) (fun _=>rfl)) ?_;refine ak [135,138] [] rfl rfl (by assumption) rfl (aC aa (fun K hk=>hk)) ?_;refine dQ [135,139] [] iF ?_;refine aB (by kernel_rfl)<|aK ?_
    by_cases hz:x.op=zOp
    ·have z0:(!decide (x.op=zOp))=false:=by rw[dT hz]; rfl
     have hwb:IntKind.i64.wrap (b-1)=b-1:=aP (by omega) (by omega)
     have hlt:b-1<(s.all.length:Int):=by omega
     have hge:0≤b-1:=by omega
     obtain⟨o,hog⟩:∃o,s.all[(b-1).toNat]?=some o:=⟨_,List.getElem?_eq_getElem (by omega)⟩
     obtain⟨c1,h1⟩:∃c,(!([0,1,8,9]:List Int).any (fun y=>decide (x.err=y)))=c:=⟨_,rfl⟩
     obtain⟨c2,h2⟩:∃c,(!decide (x.value=zBk))=c:=⟨_,rfl⟩
     obtain⟨c3,h3⟩:∃c,(!decide (o.op.kind=1))=c:=⟨_,rfl⟩
     obtain⟨c4,h4⟩:∃c,(!decide (x.err=0))=c:=⟨_,rfl⟩
     have hc:(c1||c2&&(c3||c4))=true:=by
      have hkn:kn4 x.err = !c1:=by rw[←h1,←kP,Bool.not_not]
      have hv2:decide (x.value=zBk) = !c2:=by rw[←h2,Bool.not_not]
      have hk3:decide (o.op.kind=1) = !c3:=by rw[←h3,Bool.not_not]
      have he4:decide (x.err=0) = !c4:=by rw[←h4,Bool.not_not]
      have hb':decide (some b=some (0:Int))=false:=dF (by simpa using hb0)
      have ho:opOf s x=some o:=by rw[opOf,hbg]; exact hog
      rw[ret1,c0,c8,hbg,hb',dT hz,hkn,hv2,ho]at hno
      simp only[hk3,he4]at hno
      revert hno
      cases c1 <;> cases c2 <;> cases c3 <;> cases c4 <;> decide
     refine wF<|zQ ?_;refine aH (by kernel_rfl) ?_;refine dC [0] [] ?_;refine dC [141] [] ?_;refine dC [142] [] ?_;refine dQ [143] [0] iM ?_;refine dC [0] [] ?_;refine dC [3] [] ?_;refine dQ [146] [64] iB ?_;refine dC [145] [] ?_;refine dC [148] [] ?_;refine dQ [149,147] [] (aC aa (fun K hk=>⟨by omega,by omega,hk⟩)) ?_;refine dQ [150] [0] (aV aa rfl rfl ⟨_,⟨rfl,_,hbg,rfl⟩,rfl⟩ rfl) ?_;refine dQ [151] [] (cu aa rfl rfl hwb) ?_;refine dQ [144,152] [] (bc aa rfl rfl rfl rfl rfl (by omega) (by omega)) ?_;refine dC [153] [] ?_;refine aB (by kernel_rfl)<|aK<|sR ?_;refine rQ (aq.frozen (aD (s:=1) aa rfl rfl rfl rfl rfl rfl rfl rfl) (Frz.litsN (enc:=i6) [0,1,8,9] rfl (fun _ _=>rfl))) ?_;refine rC ?_;refine rQ iB ?_;refine rQ (am (nE x.err [0,1,8,9] (by decide)) rfl rfl (aj (aj ab)) (.inl rfl) (fun _=>rfl)) ?_;refine rC<|zW ?_;refine zU ?_
     cases c1 with
     | true =>
      iterate 3 refine rS ?_
      iterate 11 refine rU ?_
      refine rS ?_;refine rQ iT ?_;refine zO<|sR ?_;refine rC<|zT<|aN<|zB ?_
      exact⟨trivial,[(64,some 1)],lg zV ⟨zR,zR,trivial⟩⟩
     | false =>
      refine rO ?_;refine rC ?_;refine rO ?_;refine rC ?_;refine rO ?_;refine rC ?_
      cases c2 with
      | false=>cases hc
      | true =>
       refine rO ?_;refine rC ?_;refine rO ?_;refine rC ?_;refine rO ?_;refine rC ?_;refine rO ?_;refine rC ?_;refine rO ?_;refine rQ (bF aa rfl rfl ⟨rfl,o,hog,_,rfl,rfl⟩ rfl) ?_;refine rO ?_;refine rC ?_;refine rO ?_;refine rC ?_
       cases c3 with
       | true =>
        iterate 3 refine rS ?_
        refine rO ?_;refine rQ iT ?_;refine rO ?_;refine rQ iT ?_;refine rQ iF ?_;refine zO<|sR ?_;refine rC<|zT<|aN<|zB ?_
        exact⟨trivial,[(64,some 1)],lg zV ⟨zR,zR,trivial⟩⟩
       | false =>
        refine rO ?_;refine rC ?_;refine rO ?_;refine rQ iB ?_;refine rO ?_;refine rC ?_;refine rO ?_;refine rQ iF ?_;refine rO ?_;refine rQ iT ?_;refine rQ iF<|nS ?_
        cases c4 with
        | false=>cases hc
        | true =>
         refine wT<|sR ?_;refine rC<|zT<|aN<|zB ?_
         exact⟨trivial,[(64,some 1)],lg zV ⟨zR,zR,trivial⟩⟩
    ·have z0:(!decide (x.op=zOp))=true:=by rw[dF hz]; rfl
     refine wT<|sR ?_;refine rC<|zT<|aN<|zB ?_
     exact⟨trivial,[(64,some 1)],lg zV ⟨zR,zR,trivial⟩⟩
  ·have c8:decide (x.client<8)=false:=dF hc8
   have n8:(!decide (x.client<8))=true:=by rw[c8]; rfl
   refine ae [125,0] rfl rfl (by assumption) rfl ?_;refine ae [125,3] rfl rfl (by assumption) rfl ?_;refine ae [125,127] rfl rfl (by assumption) rfl ?_;refine ae [125,126] rfl rfl (by assumption) rfl ?_;refine ae [125,129] rfl rfl (by assumption) rfl ?_;refine ae [125,130,128] rfl rfl (by assumption) rfl ?_;refine ae [125,131] rfl rfl (by assumption) rfl ?_;refine ae [125,132] rfl rfl (by assumption) rfl ?_;refine dQ [125,133] [] iT ?_;refine dC [134] [] ?_;refine ae [135,3] rfl rfl rfl rfl ?_;refine ae [135,136] rfl rfl rfl rfl ?_;refine ae [135,137] rfl rfl rfl rfl ?_;refine ae [135,138] rfl rfl rfl rfl ?_;refine dQ [135,139] [] iU ?_;refine aB (by kernel_rfl)<|aK ?_;refine wV<|sR ?_;refine rC<|zT<|aN<|zB ?_
   exact⟨trivial,[(64,some 1)],lg zV ⟨zR,zR,trivial⟩⟩
 ·have c0:decide (0≤x.client)=false:=dF hc0
  iterate 3 refine rS ?_
  refine rQ iF ?_;refine rC<|nR ?_;refine rC ?_;refine rQ iB ?_;refine rQ (bk aa rfl rfl rfl) ?_;refine rQ (bT rfl rfl rfl rfl (by kernel_rfl) (by decide) (bG x.value zBk)) ?_;refine rC<|nQ<|zS ?_;refine rC ?_;refine rQ iB ?_;refine zD ?_;refine zG<|sR ?_;refine rC ?_;refine rQ iB ?_;refine zD ?_;refine zI ?_;iterate 2 refine bD ?_
  refine aH (by kernel_rfl) ?_;refine dC [6] [] ?_;refine dC [123] [] ?_;refine dC [124] [] ?_;refine ae [125,0] rfl rfl rfl rfl ?_;refine ae [125,3] rfl rfl rfl rfl ?_;refine ae [125,127] rfl rfl rfl rfl ?_;refine ae [125,126] rfl rfl rfl rfl ?_;refine ae [125,129] rfl rfl rfl rfl ?_;refine ae [125,130,128] rfl rfl rfl rfl ?_;refine ae [125,131] rfl rfl rfl rfl ?_;refine ae [125,132] rfl rfl rfl rfl ?_;refine dQ [125,133] [] iU ?_;refine dC [134] [] ?_;refine ae [135,3] rfl rfl rfl rfl ?_;refine ae [135,136] rfl rfl rfl rfl ?_;refine ae [135,137] rfl rfl rfl rfl ?_;refine ae [135,138] rfl rfl rfl rfl ?_;refine dQ [135,139] [] iU ?_;refine aB (by kernel_rfl)<|aK ?_;refine wV<|sR ?_;refine rC<|zT<|aN<|zB ?_
  exact⟨trivial,[(64,some 1)],lg zV ⟨zR,zR,trivial⟩⟩
theorem nf (s:RdS) (x:HEv) (n:Nat) (hs:s.Ok n) (hn:n≤1000000):ga s x (aZ s x).1 (aZ s x).2:=by
 by_cases k1:x.kind=1
 ·cases hi:inv1 s x with
  | false =>
   have h:=n4 s x n hs hn k1 hi
   have e:aZ s x=({ s with read:=s.read+1 },false):=by simp[aZ,k1,hi]
   rw[e]; exact h
  | true =>
   have hi':=hi
   simp only[inv1,Bool.and_eq_true,decide_eq_true_eq]at hi'
   obtain⟨⟨⟨⟨⟨h1,h2⟩,h3⟩,h4⟩,h5⟩,h6⟩:=hi'
   obtain⟨m,hm⟩:∃m,s.number[x.client.toNat]?=some m:=⟨_,List.getElem?_eq_getElem (by rw[hs.nlen]; omega)⟩
   have h:=s7 s x n hs hn k1 m h1 h2 h3 hm h4 h5 h6
   have e:aZ s x=(⟨s.busy.set x.client.toNat ((s.all.length+1:Nat):Int),s.number.set x.client.toNat (m+1),s.era,s.read+1,s.all++[⟨x.client,m,s.era,x.op,s.read,-1,zBk,0⟩]⟩,true):=by
    simp[aZ,k1,hi,hm]
   rw[e]; exact h
 ·by_cases k2:x.kind=2
  ·cases hi:ret1 s x with
   | false =>
    have h:=n0 s x n hs hn k2 hi
    have e:aZ s x=({ s with read:=s.read+1 },false):=by simp[aZ,k2,hi]
    rw[e]; exact h
   | true =>
    have hi':=hi
    simp only[ret1,Bool.and_eq_true,decide_eq_true_eq]at hi'
    obtain⟨⟨⟨⟨⟨h1,h2⟩,h3⟩,h4⟩,h5⟩,h6⟩:=hi'
    obtain⟨b,hbg⟩:∃b,s.busy[x.client.toNat]?=some b:=⟨_,List.getElem?_eq_getElem (by rw[hs.blen]; omega)⟩
    have hb:=hs.busy b (List.mem_of_getElem? hbg)
    have hb0:b≠0:=by rw[hbg]at h3; simpa using h3
    obtain⟨o,hog⟩:∃o,s.all[(b-1).toNat]?=some o:=⟨_,List.getElem?_eq_getElem (by omega)⟩
    have ho:opOf s x=some o:=by rw[opOf,hbg]; exact hog
    rw[ho]at h6
    have h:=pz s x n hs hn k2 b o h1 h2 hbg hb0 hog h4 _ _ _ rfl rfl rfl (by
     rw[kP,h5]
     simp only at h6
     revert h6
     cases decide (x.value=zBk) <;> cases decide (o.op.kind=1) <;> cases decide (x.err=0) <;> decide)
    have e:aZ s x=(⟨s.busy.set x.client.toNat 0,s.number,s.era,s.read+1,s.all.set (b-1).toNat { o with returned:=s.read,value:=x.value,err:=x.err }⟩,true):=by
     simp[aZ,k2,hi,ho,hbg]
    rw[e]; exact h
  ·by_cases k3:x.kind=3
   ·have h:=pB s x n hs hn k3 _ _ _ _ rfl rfl rfl rfl
    have e:aZ s x=(⟨dj,s.number,s.era+1,s.read+1,s.all⟩,jQ x):=by simp[aZ,k3]
    rw[e]; exact h
   ·have h:=pA s x n hs hn k1 k2 k3 _ rfl
    have e:aZ s x=({ s with read:=s.read+1 },false):=by simp[aZ,k1,k2,k3]
    rw[e]; exact h
end Go.Proofs.YtjfkhlamjdbfkaaGreatDoor
