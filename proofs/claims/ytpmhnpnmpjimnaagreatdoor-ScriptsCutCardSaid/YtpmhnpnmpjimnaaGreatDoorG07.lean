/- Texts of the proof: W7, Eng136, W8, W6, ZO, ZO2. -/
import Derived.Test.YtpmhnpnmpjimnaaGreatDoorG06
import Derived.Test.YtpmhnpnmpjimnaaGreatDoorG02
import Derived.Test.YtpmhnpnmpjimnaaGreatDoorG04

set_option linter.unusedVariables false
set_option linter.unusedSimpArgs false
set_option linter.unusedSectionVars false
set_option maxRecDepth 10000

namespace Go.Proofs.YtpmhnpnmpjimnaaGreatDoor
open Go.Eng Go.Plain
set_option maxHeartbeats 32000000
set_option maxRecDepth 20000
attribute [local irreducible] WC RegS RegD SeqQ BlkQ ScoQ RegK CutK Sat SatN FnIs LoopQ aq OpIs
def sndC:Code→Code
 | .seq _ y=>y
 | c=>c
def yh (fn:Func):Code:=sndC (sndC (sndC (sndC (sndC (sndC (fn.body.getD .skip))))))
def wi (fn:Func):Code:=sndC (yh fn)
def retT (fn:Func):Exit→St→Prop:=Ret tab fn (.bool true) []
abbrev envR (i:Int) (fb:Bool):Env:=[(2,.int .i64 i),(7,.ptr 64 []),(8,.ptr 65 []),(11,.ptr 66 []),(14,.bool fb)]
abbrev iW (c:SCfg) (l:List (List POp)) (bs:List SAct) (B:D):Upds:=[(64,some (.box 38 (.d (bB c l bs)))),(65,some (.box 38 (.d (bB c l bs)))),(66,some (.box 38 (.d B)))]
theorem oU {c:SCfg} {l:List (List POp)} {bs:List SAct}:(if iV c c l l bs bs=true then (1:Int) else 0)=1:=if_pos (by simp[iV])
theorem gi (c:SCfg) (l:List (List POp)) (bs:List SAct) (B:D) (i:Int) (hl:Bd l) (hb:bs.length≤100000):WC Tryz.prog Tryz.f3.ntmps (wi Tryz.f3) (retT Tryz.f3) (envR i false) (iW c l bs B) 300:=by
 have hss:=gk c c l l bs bs hl hl (by omega) (by omega)
 rw[oU]at hss
 refine qR<|rC ?_;refine zJ<|kS<|sR ?_;iterate 2 refine rQ iM ?_
 refine rQ (ak hss rfl rfl (aj (aj ae)) (.inl rfl) (fun _=>rfl)) ?_;refine zD ?_;refine rP ?_;refine rQ (ak g9 rfl rfl ae (.inl rfl) (fun _=>rfl)) ?_;refine rQ iU ?_;refine rC<|zT ?_
 exact⟨trivial,[],lf⟩
abbrev scrX (c:SCfg) (l:List (List POp)) (bs:List SAct):D :=.cons (bt c) (.cons (cE l) (.cons (jn bs) .nil))
theorem x_le {c:SCfg} {l:List (List POp)} {bs:List SAct}:DLe (scrX c l bs) (bB c l bs):=DLe.cons (DLe.refl _) (DLe.cons (DLe.refl _) (DLe.cons DLe.arx_arr (DLe.refl _)))
theorem j0 (c:SCfg) (l:List (List POp)) (bs:List SAct) (j:Nat) (hj:j<bs.length) (hl:Bd l) (hb:bs.length≤100000) (h0:schk c l bs=0) (hc:c.Ok):WC Tryz.prog Tryz.f3.ntmps (wi Tryz.f3) (retT Tryz.f3) (envR j true) (iW c l bs (scrX c l (woA j bs))) 300:=by
 have hss:=gk c c l l bs bs hl hl (by omega) (by omega)
 rw[oU]at hss
 have hwl:=yj hj
 have hsw:=gk c c l l (woA j bs) (woA j bs) hl hl (by omega) (by omega)
 rw[oU]at hsw
 have hck:=dK c l (woA j bs) hc hl (by omega)
 rw[oS h0 uh (by omega)]at hck
 have hcn:=nz c l (woA j bs) (by omega)
 have hsum:=sA (woA j bs) fun a ha=>uf ((jv h0).2.2.2.2 a (uh a ha))
 have hj':(j:Int)≤bs.length:=by omega
 have hj2:j+1≤bs.length:=by omega
 have hw:IntKind.i64.wrap ((j:Int)+1)=((j+1:Nat):Int):=aI (by omega) (by omega)
 have htl:(bs.take j).length≤1048576:=by rw[List.length_take]; omega
 have hdl:(bs.drop (j+1)).length≤1048576:=by rw[List.length_drop]; omega
 have hsl:(bs.take j).length+(bs.drop (j+1)).length≤1048576:=by rw[List.length_take,List.length_drop]; omega
 have hw6:IntKind.i64.wrap ((cA isP (woA j bs):Int)+(cA isE (woA j bs):Int))=((cA isP (woA j bs)+cA isE (woA j bs):Nat):Int):=aI (by omega) (by omega)
 have hw8:IntKind.i64.wrap (((cA isP (woA j bs)+cA isE (woA j bs):Nat):Int)+(cA isF (woA j bs):Int))=((woA j bs).length:Int):=by rw[←hsum]; exact aI (by omega) (by omega)
 have hw9:IntKind.i64.wrap ((bs.length:Int)-1)=((woA j bs).length:Int):=by rw[show (bs.length:Int)-1=((woA j bs).length:Int) by omega]; exact aI (by omega) (by omega)
 have q9:(!decide (((woA j bs).length:Int)=((woA j bs).length:Int)))=false:=by rw[dT rfl]; rfl
 refine b9 ?_
 by_cases ht:bs.take j=[]
 ·have ht0:DLe (.arr 5 aX (bs.take j)) (.arr 5 aX []):=by rw[ht]; exact DLe.refl _
  by_cases hd:bs.drop (j+1)=[]
  ·have hd0:DLe (.arr 5 aX (bs.drop (j+1))) (.arr 5 aX []):=by rw[hd]; exact DLe.refl _
   have hw2:DLe (.cons (bt c) (.cons (cE l) (.cons (.sc nil_) .nil))) (bB c l (woA j bs)):=DLe.cons (DLe.refl _) (DLe.cons (DLe.refl _) (DLe.cons (by rw[woA,ht,hd]; exact DLe.nil_arr _ _) (DLe.refl _)))
   refine sR<|rC ?_;refine zO<|sR ?_;refine rQ iM ?_;refine rN ?_;refine rW<|nQ ?_;refine aH (by kernel_rfl) ?_;refine dC [7] [] ?_;refine dQ [186] [64] iB ?_;refine dC [2] [] ?_;refine dQ [187,188] [] (aq.val_le (dh (m:=(j:Int)) aa rfl rfl rfl rfl (by omega) hj') ht0 rfl) ?_;refine dQ [189] [] (gL aa rfl rfl rfl rfl) ?_;refine dC [7] [] ?_;refine dQ [191] [64] iB ?_;refine dC [2] [] ?_;refine dQ [193] [] (bk (m:=((j+1:Nat):Int)) aa rfl rfl hw) ?_;refine dQ [192,194] [] (aq.val_le (bV aa rfl rfl rfl rfl rfl hj2) hd0 rfl) ?_;refine dQ [190,195] [] (gL aa rfl rfl rfl rfl) ?_;refine dC [17] [] ?_;refine ca [197,196] [316] (aF aa rfl rfl rfl ⟨_,⟨_,⟨_,⟨rfl,rfl,rfl⟩,rfl⟩,rfl⟩,rfl⟩ rfl) ?_;refine aC (by kernel_rfl)<|aU<|sR ?_;refine rQ iM ?_;refine rQ (ak hcn rfl rfl (bu rfl trivial x_le ae) (.inl rfl) (fun _=>rfl)) ?_;iterate 7 refine rC ?_
   refine nR ?_;iterate 2 refine rQ iM ?_
   refine rQ (ak hsw rfl rfl (bu rfl trivial x_le (bu rfl trivial hw2 ae)) (.inl rfl) (fun _=>rfl)) ?_;refine zD ?_;refine rP ?_;refine rQ iM ?_;refine rP ?_;refine rQ (ak hck rfl rfl (bu rfl trivial x_le ae) (.inl rfl) (fun _=>rfl)) ?_;refine rP ?_;refine rC ?_;refine rQ iG ?_;refine rC ?_;refine rP ?_;refine rC ?_;refine rP ?_;refine rC ?_;refine rP ?_;refine rQ (bk (m:=((cA isP (woA j bs)+cA isE (woA j bs):Nat):Int)) aa rfl rfl hw6) ?_;refine rP ?_;refine rC ?_;refine rP ?_;refine rQ (bk (m:=((woA j bs).length:Int)) aa rfl rfl hw8) ?_;refine rP ?_;refine rC ?_;refine rP ?_;refine rQ iB ?_;refine rP ?_;refine rQ iE ?_;refine rP ?_;refine rQ (cq (m:=((woA j bs).length:Int)) aa rfl rfl hw9) ?_;refine rP ?_;refine rC ?_;refine rQ iG ?_;refine rC ?_;refine rO ?_;refine rC ?_;refine rO ?_;refine rQ iB ?_;refine rO ?_;refine rQ (la aa rfl rfl) ?_;refine rO ?_;refine rC ?_;refine rO ?_;refine rQ iB ?_;refine rO ?_;refine rQ (kZ aa rfl rfl) ?_;refine rO ?_;refine rC ?_;refine rQ iF ?_;refine zG<|kS<|sR ?_;iterate 2 refine rQ iM ?_
   refine rQ (ak hss rfl rfl (aj (aj ae)) (.inl rfl) (fun _=>rfl)) ?_;refine zD ?_;refine rP ?_;refine rQ (ak g9 rfl rfl ae (.inl rfl) (fun _=>rfl)) ?_;refine rQ iU ?_;refine rC<|zT ?_
   exact⟨trivial,[],lf⟩
  ·have hdp:0<(bs.drop (j+1)).length:=List.length_pos_iff.2 hd
   have hw2:DLe (.cons (bt c) (.cons (cE l) (.cons (.arr 5 aX (bs.drop (j+1))) .nil))) (bB c l (woA j bs)):=DLe.cons (DLe.refl _) (DLe.cons (DLe.refl _) (DLe.cons (by rw[woA,ht,List.nil_append]; exact DLe.refl _) (DLe.refl _)))
   refine sR<|rC ?_;refine zO<|sR ?_;refine rQ iM ?_;refine rN ?_;refine rW<|nQ ?_;refine aH (by kernel_rfl) ?_;refine dC [7] [] ?_;refine dQ [186] [64] iB ?_;refine dC [2] [] ?_;refine dQ [187,188] [] (aq.val_le (dh (m:=(j:Int)) aa rfl rfl rfl rfl (by omega) hj') ht0 rfl) ?_;refine dQ [189] [] (gL aa rfl rfl rfl rfl) ?_;refine dC [7] [] ?_;refine dQ [191] [64] iB ?_;refine dC [2] [] ?_;refine dQ [193] [] (bk (m:=((j+1:Nat):Int)) aa rfl rfl hw) ?_;refine dQ [192,194] [] (bV aa rfl rfl rfl rfl rfl hj2) ?_;refine dQ [190,195] [] (aq.frozen (cF (s:=5) (enc:=aX) (ys:=bs.drop (j+1)) aa rfl rfl rfl rfl rfl (.inr rfl) rfl hdp hdl rfl) (Frz.own rfl)) ?_;refine dC [17] [] ?_;refine ca [197,196] [316] (aF aa rfl rfl rfl ⟨_,⟨_,⟨_,⟨rfl,rfl,rfl⟩,rfl⟩,rfl⟩,rfl⟩ rfl) ?_;refine aC (by kernel_rfl)<|aU<|sR ?_;refine rQ iM ?_;refine rQ (ak hcn rfl rfl (bu rfl trivial x_le ae) (.inl rfl) (fun _=>rfl)) ?_;iterate 7 refine rC ?_
   refine nR ?_;iterate 2 refine rQ iM ?_
   refine rQ (ak hsw rfl rfl (bu rfl trivial x_le (bu rfl trivial hw2 ae)) (.inl rfl) (fun _=>rfl)) ?_;refine zD ?_;refine rP ?_;refine rQ iM ?_;refine rP ?_;refine rQ (ak hck rfl rfl (bu rfl trivial x_le ae) (.inl rfl) (fun _=>rfl)) ?_;refine rP ?_;refine rC ?_;refine rQ iG ?_;refine rC ?_;refine rP ?_;refine rC ?_;refine rP ?_;refine rC ?_;refine rP ?_;refine rQ (bk (m:=((cA isP (woA j bs)+cA isE (woA j bs):Nat):Int)) aa rfl rfl hw6) ?_;refine rP ?_;refine rC ?_;refine rP ?_;refine rQ (bk (m:=((woA j bs).length:Int)) aa rfl rfl hw8) ?_;refine rP ?_;refine rC ?_;refine rP ?_;refine rQ iB ?_;refine rP ?_;refine rQ iE ?_;refine rP ?_;refine rQ (cq (m:=((woA j bs).length:Int)) aa rfl rfl hw9) ?_;refine rP ?_;refine rC ?_;refine rQ iG ?_;refine rC ?_;refine rO ?_;refine rC ?_;refine rO ?_;refine rQ iB ?_;refine rO ?_;refine rQ (la aa rfl rfl) ?_;refine rO ?_;refine rC ?_;refine rO ?_;refine rQ iB ?_;refine rO ?_;refine rQ (kZ aa rfl rfl) ?_;refine rO ?_;refine rC ?_;refine rQ iF ?_;refine zG<|kS<|sR ?_;iterate 2 refine rQ iM ?_
   refine rQ (ak hss rfl rfl (aj (aj ae)) (.inl rfl) (fun _=>rfl)) ?_;refine zD ?_;refine rP ?_;refine rQ (ak g9 rfl rfl ae (.inl rfl) (fun _=>rfl)) ?_;refine rQ iU ?_;refine rC<|zT ?_
   exact⟨trivial,[],lf⟩
 ·have htp:0<(bs.take j).length:=List.length_pos_iff.2 ht
  by_cases hd:bs.drop (j+1)=[]
  ·have hd0:DLe (.arr 5 aX (bs.drop (j+1))) (.arr 5 aX []):=by rw[hd]; exact DLe.refl _
   have hdn:True:=trivial
   have hw2:DLe (.cons (bt c) (.cons (cE l) (.cons (.arr 5 aX (bs.take j)) .nil))) (bB c l (woA j bs)):=DLe.cons (DLe.refl _) (DLe.cons (DLe.refl _) (DLe.cons (by rw[woA,hd,List.append_nil]; exact DLe.refl _) (DLe.refl _)))
   have hfz:True→∀(r:Nat) (te:TypeId) (ex:Bool),Frz r (.ds te 5 ex aX (bs.take j)) (.own r 0 (bs.take j).length 5 none) (.d (.arr 5 aX (bs.take j))):=fun _ r te ex=>Frz.own rfl
   refine sR<|rC ?_;refine zO<|sR ?_;refine rQ iM ?_;refine rN ?_;refine rW<|nQ ?_;refine aH (by kernel_rfl) ?_;refine dC [7] [] ?_;refine dQ [186] [64] iB ?_;refine dC [2] [] ?_;refine dQ [187,188] [] (dh (m:=(j:Int)) aa rfl rfl rfl rfl (by omega) hj') ?_;refine dQ [189] [] (aq.frozen (cF (s:=5) (enc:=aX) (ys:=bs.take j) aa rfl rfl rfl rfl rfl (.inr rfl) rfl htp htl rfl) (hfz hdn _ _ _)) ?_;refine dC [7] [] ?_;refine dQ [191] [64] iB ?_;refine dC [2] [] ?_;refine dQ [193] [] (bk (m:=((j+1:Nat):Int)) aa rfl rfl hw) ?_;refine dQ [192,194] [] (aq.val_le (bV aa rfl rfl rfl rfl rfl hj2) hd0 rfl) ?_;refine dQ [190,195] [] (oB aa rfl rfl rfl rfl) ?_;refine dC [17] [] ?_;refine ca [197,196] [316] (aF aa rfl rfl rfl ⟨_,⟨_,⟨_,⟨rfl,rfl,rfl⟩,rfl⟩,rfl⟩,rfl⟩ rfl) ?_;refine aC (by kernel_rfl)<|aU<|sR ?_;refine rQ iM ?_;refine rQ (ak hcn rfl rfl (bu rfl trivial x_le ae) (.inl rfl) (fun _=>rfl)) ?_
   iterate 7 refine rC ?_
   refine nR ?_;iterate 2 refine rQ iM ?_
   refine rQ (ak hsw rfl rfl (bu rfl trivial x_le (bu rfl trivial hw2 ae)) (.inl rfl) (fun _=>rfl)) ?_;refine zD ?_;refine rP ?_;refine rQ iM ?_;refine rP ?_;refine rQ (ak hck rfl rfl (bu rfl trivial x_le ae) (.inl rfl) (fun _=>rfl)) ?_;refine rP ?_;refine rC ?_;refine rQ iG ?_;refine rC ?_;refine rP ?_;refine rC ?_;refine rP ?_;refine rC ?_;refine rP ?_;refine rQ (bk (m:=((cA isP (woA j bs)+cA isE (woA j bs):Nat):Int)) aa rfl rfl hw6) ?_;refine rP ?_;refine rC ?_;refine rP ?_;refine rQ (bk (m:=((woA j bs).length:Int)) aa rfl rfl hw8) ?_;refine rP ?_;refine rC ?_;refine rP ?_;refine rQ iB ?_;refine rP ?_;refine rQ iE ?_;refine rP ?_;refine rQ (cq (m:=((woA j bs).length:Int)) aa rfl rfl hw9) ?_;refine rP ?_;refine rC ?_;refine rQ iG ?_;refine rC ?_;refine rO ?_;refine rC ?_;refine rO ?_;refine rQ iB ?_;refine rO ?_;refine rQ (la aa rfl rfl) ?_;refine rO ?_;refine rC ?_;refine rO ?_;refine rQ iB ?_;refine rO ?_;refine rQ (kZ aa rfl rfl) ?_;refine rO ?_;refine rC ?_;refine rQ iF ?_;refine zG<|kS<|sR ?_;iterate 2 refine rQ iM ?_
   refine rQ (ak hss rfl rfl (aj (aj ae)) (.inl rfl) (fun _=>rfl)) ?_;refine zD ?_;refine rP ?_;refine rQ (ak g9 rfl rfl ae (.inl rfl) (fun _=>rfl)) ?_;refine rQ iU ?_;refine rC<|zT ?_
   exact⟨trivial,[],lf⟩
  ·have hdp:0<(bs.drop (j+1)).length:=List.length_pos_iff.2 hd
   have hw2:DLe (.cons (bt c) (.cons (cE l) (.cons (.arr 5 aX (bs.take j++bs.drop (j+1))) .nil))) (bB c l (woA j bs)):=DLe.refl _
   refine sR<|rC ?_;refine zO<|sR ?_;refine rQ iM ?_;refine rN ?_;refine rW<|nQ ?_;refine aH (by kernel_rfl) ?_;refine dC [7] [] ?_;refine dQ [186] [64] iB ?_;refine dC [2] [] ?_;refine dQ [187,188] [] (dh (m:=(j:Int)) aa rfl rfl rfl rfl (by omega) hj') ?_;refine eL [189] [] rfl (cF (s:=5) (enc:=aX) (ys:=bs.take j) aa rfl rfl rfl rfl rfl (.inr rfl) rfl htp htl rfl) ?_;refine dC [7] [] ?_;refine dQ [191] [64] iB ?_;refine dC [2] [] ?_;refine dQ [193] [] (bk (m:=((j+1:Nat):Int)) aa rfl rfl hw) ?_;refine dQ [192,194] [] (bV aa rfl rfl rfl rfl rfl hj2) ?_;refine eL [190,195] [364] rfl (aq.frozen2 (mD (xs:=bs.take j) (ys:=bs.drop (j+1)) (s:=5) (enc:=aX) aa rfl rfl rfl rfl rfl rfl rfl hdp hsl rfl) (Frz.own (by rw[List.length_append]))) ?_;refine dC [17] [] ?_;refine ca [197,196] [316] (aF aa rfl rfl rfl ⟨_,⟨_,⟨_,⟨rfl,rfl,rfl⟩,rfl⟩,rfl⟩,rfl⟩ rfl) ?_;refine aC (by kernel_rfl)<|aU<|sR ?_;refine rQ iM ?_;refine rQ (ak hcn rfl rfl (bu rfl trivial x_le ae) (.inl rfl) (fun _=>rfl)) ?_;iterate 7 refine rC ?_
   refine nR ?_;iterate 2 refine rQ iM ?_
   refine rQ (ak hsw rfl rfl (bu rfl trivial x_le (bu rfl trivial hw2 ae)) (.inl rfl) (fun _=>rfl)) ?_;refine zD ?_;refine rP ?_;refine rQ iM ?_;refine rP ?_;refine rQ (ak hck rfl rfl (bu rfl trivial x_le ae) (.inl rfl) (fun _=>rfl)) ?_;refine rP ?_;refine rC ?_;refine rQ iG ?_;refine rC ?_;refine rP ?_;refine rC ?_;refine rP ?_;refine rC ?_;refine rP ?_;refine rQ (bk (m:=((cA isP (woA j bs)+cA isE (woA j bs):Nat):Int)) aa rfl rfl hw6) ?_;refine rP ?_;refine rC ?_;refine rP ?_;refine rQ (bk (m:=((woA j bs).length:Int)) aa rfl rfl hw8) ?_;refine rP ?_;refine rC ?_;refine rP ?_;refine rQ iB ?_;refine rP ?_;refine rQ iE ?_;refine rP ?_;refine rQ (cq (m:=((woA j bs).length:Int)) aa rfl rfl hw9) ?_;refine rP ?_;refine rC ?_;refine rQ iG ?_;refine rC ?_;refine rO ?_;refine rC ?_;refine rO ?_;refine rQ iB ?_;refine rO ?_;refine rQ (la aa rfl rfl) ?_;refine rO ?_;refine rC ?_;refine rO ?_;refine rQ iB ?_;refine rO ?_;refine rQ (kZ aa rfl rfl) ?_;refine rO ?_;refine rC ?_;refine rQ iF ?_;refine zG<|kS<|sR ?_;iterate 2 refine rQ iM ?_
   refine rQ (ak hss rfl rfl (aj (aj ae)) (.inl rfl) (fun _=>rfl)) ?_;refine zD ?_;refine rP ?_;refine rQ (ak g9 rfl rfl ae (.inl rfl) (fun _=>rfl)) ?_;refine rQ iU ?_;refine rC<|zT ?_
   exact⟨trivial,[],lf⟩
end Go.Proofs.YtpmhnpnmpjimnaaGreatDoor
namespace Go.Eng
open Go.RowKit
theorem rI {Q:Exit→St→Prop} {sz:Nat} {env:Env} {h:Upds} {n:Nat} (h1:Q .normal ⟨env,h,n,sz,64⟩):RegK Q sz env h n:=h1
end Go.Eng
namespace Go.Proofs.YtpmhnpnmpjimnaaGreatDoor
open Go.Eng Go.Plain
set_option maxHeartbeats 32000000
set_option maxRecDepth 20000
attribute [local irreducible] WC RegS RegD SeqQ BlkQ ScoQ RegK CutK Sat SatN FnIs LoopQ aq OpIs
abbrev isB (u:Value):Prop:=∃z,u=.int .u8 z
def jJ (S:Nat→Prop) (x:POp):D :=.cons (u8s x.kind) (.cons (i6 x.index) (.cons (.jk S isB x.data.length) .nil))
def jK (S:Nat→Prop) (a:SAct):D :=.cons (u8s a.kind) (.cons (i6 a.thread) (.cons (i6 a.sector) (.cons (.jk S isB a.bytes.length) (.cons (i6 a.back) .nil))))
theorem pS {look:Nat→Option Row} {ρ:Nat→Option Nat} {c:SCfg} {m k q r:Nat} {bs9 avs:List AV} (hq:ρ 1=some q) (hr:ρ 3=some r) (h:cC look ρ bs9 avs):cC look ρ (fI c m k q r::bs9) (fI c m k 1 3::avs):=
 ⟨_,avs,rfl,⟨rfl,rfl⟩,AVLe.of_eq (by simp only[fI,AV.ren,hq,hr]),h⟩
theorem xi {S:Nat→Prop} {q n n1 n2 t k m:Nat} {ex:Bool} {l:List D} {te te2 s2 s3:Nat} {e2 e3:Bool} {α β:Type} {enc:α→D} {enc':β→D} {xs:List α} {ys:List β} (h:n+1=n1) (h2:n+2=n2) :
  cz [(0,some q)] n [(0,.lo S)] [(0,.lo S),(64,.lits t 1 m ex (chF (.own 65 0 k 3 none) l)),(65,.ds te s2 e2 enc xs),(66,.ds te2 s3 e3 enc' ys)]=[(q,some (.lo S)),(n,some (.lits t 1 m ex (chF (.own n1 0 k 3 none) l))),(n1,some (.ds te s2 e2 enc xs)),(n2,some (.ds te2 s3 e3 enc' ys)),(q,none)]:=by
 subst h h2
 show[(q,some (Row.lo S)),(n+(64-64),some (Row.lits t 1 m ex ((chF (.own 65 0 k 3 none) l).ren (eb [(0,some q)] n)))),(n+(65-64),some (.ds te s2 e2 enc xs)),(n+(66-64),some (.ds te2 s3 e3 enc' ys)),(q,none)]=_
 rw[gI]
 rfl
theorem popJ {S S1 A:Nat→Prop} (hA:∀b,A b ↔ ¬S b∧S1 b) (x:POp):DLe (.re false (NotS S1) (dO S x)) (jJ (NotS A) x):=
 DLe.re_cons DLe.re (DLe.re_cons DLe.re (DLe.re_cons ((DLe.re_re (T:=NotS A) fun b hb=>by
  rcases Classical.em (S b)with h | h
  ·exact .inl h
  ·exact .inr fun h1=>hb ((hA b).2 ⟨h,h1⟩)).trans (DLe.re_jk (ch _) (fun z=>⟨z,rfl⟩))) DLe.re))
theorem actJ {S S1 A:Nat→Prop} (hA:∀b,A b ↔ ¬S b∧S1 b) (x:SAct):DLe (.re false (NotS S1) (eS S x)) (jK (NotS A) x):=
 DLe.re_cons DLe.re (DLe.re_cons DLe.re (DLe.re_cons DLe.re (DLe.re_cons ((DLe.re_re (T:=NotS A) fun b hb=>by
  rcases Classical.em (S b)with h | h
  ·exact .inl h
  ·exact .inr fun h1=>hb ((hA b).2 ⟨h,h1⟩)).trans (DLe.re_jk (ch _) (fun z=>⟨z,rfl⟩))) (DLe.re_cons DLe.re DLe.re))))
def zKd (q:Nat) (l:List SAct):List SAct:=(l.take q).map (fun a => { a with kind:=0 })++l.drop q
theorem wM {q:Nat} {l:List SAct} {a:SAct} (h:l[q]?=some a):(zKd q l)[q]?=some a:=by
 have hq:=(List.getElem?_eq_some_iff.1 h).1
 have h1:((l.take q).map (fun a:SAct => { a with kind:=0 })).length=q:=by rw[List.length_map,List.length_take]; omega
 rw[zKd,List.getElem?_append_right (by omega),h1,Nat.sub_self,List.getElem?_drop,Nat.add_zero,h]
theorem rz {q:Nat} {l:List SAct} {a:SAct} (h:l[q]?=some a):(zKd q l).set q { a with kind:=0 }=zKd (q+1) l:=by
 have hq:=(List.getElem?_eq_some_iff.1 h).1
 have h1:((l.take q).map (fun a:SAct => { a with kind:=0 })).length=q:=by rw[List.length_map,List.length_take]; omega
 have hd:l.drop q=a::l.drop (q+1):=by rw[List.drop_eq_getElem_cons hq]; congr 1; exact (List.getElem?_eq_some_iff.1 h).2
 rw[zKd,List.set_append_right _ _ (by omega),h1,Nat.sub_self,hd,List.set_cons_zero,zKd,List.take_add_one,h]
 simp
theorem rV {e1:POp→D} {e2:SAct→D} {p0:List POp} {rest:List (List POp)} {bs:List SAct} {n:Nat}:cz [(1,some 69),(2,some 70),(3,some 71)] n (kT e1 e2 p0 rest bs) (kT e1 e2 p0 rest bs) =
  [(69,some (.lits 49 1 (rest.length+1) true (chF (.own 70 0 p0.length 3 none) (rest.map encP)))),(70,some (.ds 52 3 true e1 p0)),(71,some (.ds 48 5 true e2 bs)),(69,none),(70,none),(71,none)]:=by
 show[(69,some (Row.lits 49 1 (rest.length+1) true ((chF (.own 2 0 p0.length 3 none) (rest.map encP)).ren (eb [(1,some 69),(2,some 70),(3,some 71)] n)))),(70,some (.ds 52 3 true e1 p0)),(71,some (.ds 48 5 true e2 bs)),(69,none),(70,none),(71,none)]=_
 rw[gI]
 rfl
theorem ka (S A:Nat→Prop) (hAT:∀b,A b→NotS S b) (c:SCfg) (p0:List POp) (rest:List (List POp)) (bs as_:List SAct) (k:Nat) (hk:k≤bs.length) (has:bs.take k=as_) (eP:POp→D) (eA:SAct→D)
  (hP1:∀x,DLe (eP x) (br x)) (hP2:∀x,DLe (eP x) (jJ (NotS A) x)) (hA1:∀x,DLe (eA x) (aX x)) (hA2:∀x,DLe (eA x) (jK (NotS A) x))
  (h0:schk c (p0::rest) bs=0) (hc:c.Ok) (hl:Bd (p0::rest)) (hb:bs.length≤100000) (DB DB':D) (hDB:DLe DB DB') (hsafe:∀u,DB.safe (NotS A) u) (fb:Bool) (i:Int)
  (hrest:WC Tryz.prog Tryz.f3.ntmps (wi Tryz.f3) (retT Tryz.f3) (envR i fb) (iW c (p0::rest) bs DB') 300):SatC S Tryz.prog (yh Tryz.f3) (retT Tryz.f3) ⟨[(1,.int .i64 k),(2,.int .i64 i),(7,.ptr 64 []),(8,.ptr 65 []),(9,.ptr 68 []),(11,.ptr 67 []),(13,.bool true),(14,.bool fb)],[(64,some (.box 38 (.d (df (NotS S) c (p0::rest) bs)))),(65,some (.box 38 (.d (df (NotS S) c (p0::rest) bs)))),(67,some (.box 38 (.d DB))),(68,some (.box 38 (fI c (rest.length+1) as_.length 69 71))),(69,some (.lits 49 1 (rest.length+1) true (chF (.own 70 0 p0.length 3 none) (rest.map encP)))),(70,some (.ds 52 3 true eP p0)),(71,some (.ds 48 5 true eA as_))],300,Tryz.f3.ntmps,64⟩:=by
 have hk':(k:Int)≤bs.length:=by omega
 have hal:as_.length≤100000:=by rw[←has,List.length_take]; omega
 have hsl:=FnIs.lend (qf hP1 hA1 c p0 rest as_ (bB c (p0::rest) as_)) (jV.sc _) (gk c c (p0::rest) (p0::rest) as_ as_ hl hl (by omega) (by omega))
 rw[oU]at hsl
 have hcl:=FnIs.lend (sU hP1 hA1 c p0 rest as_) (jV.sc _) (dK c (p0::rest) as_ hc hl (by omega))
 rw[oS h0 (fun a ha=>List.mem_of_mem_take (has ▸ ha)) (by rw[←has,List.length_take]; omega)]at hcl
 have hw2:DLe (.cons (bt c) (.cons (.re false (NotS S) (cE (p0::rest))) (.cons (.arr 5 aX (bs.take k)) .nil))) (bB c (p0::rest) as_):=DLe.cons (DLe.refl _) (DLe.cons DLe.re (DLe.cons (by rw[has]; exact DLe.refl _) (DLe.refl _)))
 have q9:(!decide ((as_.length:Int)=(as_.length:Int)))=false:=by rw[dT rfl]; rfl
 refine uD (fun _:Unit=>⟨envR i fb,iW c (p0::rest) bs DB',300,Tryz.f3.ntmps,64⟩) (fun _=>True) ?_ (fun _ _=>bv hrest)
 refine bH<|ao ?_;refine rC<|aB ?_
 refine cj (im (b:=true) rfl (fun _=>?_) (fun h=>by cases h))
 refine bH<|ao ?_;refine rQ iM ?_;refine rN ?_;refine rW<|aB ?_
 refine cj (bH ?_)
 refine ao<|rC ?_;refine rQ (aq.val_le (cI aa rfl rfl ⟨_,rfl,rfl⟩ rfl) DLe.re rfl) ?_;refine rC ?_;refine rQ (dh (m:=(k:Int)) aa rfl rfl rfl rfl (by omega) hk') ?_;refine rC ?_;refine rX<|aB ?_
 refine cj (bH ?_)
 refine sR ?_;iterate 2 refine rQ iM ?_
 refine bz rfl (aO [(1,some 69),(2,some 70),(3,some 71)] hsl rfl rfl rfl (pS rfl rfl (bu rfl trivial hw2 ae)) ⟨⟨rfl,cL rfl _,_,_,rfl,rfl,bZ rfl⟩,zH,zH,trivial⟩ rfl rfl (.inl rfl) rfl rV) rfl rfl ?_;refine zD ?_;refine rP ?_;refine rQ iM ?_;refine rP ?_;refine bz rfl (aO [(1,some 69),(2,some 70),(3,some 71)] hcl rfl rfl rfl (pS rfl rfl ae) ⟨⟨rfl,cL rfl _,_,_,rfl,rfl,bZ rfl⟩,zH,zH,trivial⟩ rfl rfl (.inl rfl) rfl rV) rfl rfl ?_;refine rP ?_;refine rC ?_;refine rQ iG ?_;refine rC ?_;refine rP ?_;refine rC ?_;refine rP ?_;refine rQ iM ?_;refine rP ?_;refine rQ (tX aa rfl rfl rfl) ?_;refine rP ?_;refine rC ?_;refine rP ?_;refine rQ iM ?_;refine rP ?_;refine rQ (bq aa rfl rfl) ?_;refine rP ?_;refine rC ?_;refine rQ iG<|nS ?_;refine wF<|bG ?_;refine cj ?_
 have hnn:∀b,¬(NotS A) b→NotS S b:=fun b hb=>hAT b (Classical.not_not.1 hb)
 refine il (st':=⟨[(2,.int .i64 i),(7,.ptr 64 []),(8,.ptr 65 []),(9,.ptr 68 []),(11,.ptr 67 []),(14,.bool fb)],[(64,some (.box 38 (.d (df (NotS S) c (p0::rest) bs)))),(65,some (.box 38 (.d (df (NotS S) c (p0::rest) bs)))),(67,some (.box 38 (.d DB))),(68,some (.box 38 (fI c (rest.length+1) as_.length 69 71))),(69,some (.lits 49 1 (rest.length+1) true (chF (.own 70 0 p0.length 3 none) (rest.map encP)))),(70,some (.ds 52 3 true (jJ (NotS A)) p0)),(71,some (.ds 48 5 true (jK (NotS A)) as_))],600,Tryz.f3.ntmps,64⟩) [(64,some 64),(65,some 65),(67,some 67),(68,some 68),(69,some 69),(70,some 70),(71,some 71)] (lg zg ⟨zR,zR,zR,zR,⟨rfl,cL rfl _,_,rfl,bZ rfl⟩,⟨rfl,rfl,_,rfl,aE.ds_map id (List.map_id _).symm fun x _=>hP2 x⟩,⟨rfl,rfl,_,rfl,aE.ds_map id (List.map_id _).symm fun x _=>hA2 x⟩,trivial⟩) ?_
 refine qc (r:=69) (l:=rest) (enc:=br) (s':=3) rfl (fun us hus=>?_)
 refine uC (S':=NotS A) hnn ?_
 refine jw (bH ?_)
 refine ao<|rC<|aB ?_
 refine cj (lz ?_)
 refine satC_inv (fun q:Nat=>⟨[(16,.int .i64 (q:Nat)),(2,.int .i64 i),(7,.ptr 64 []),(8,.ptr 65 []),(9,.ptr 68 []),(11,.ptr 67 []),(14,.bool fb)],[(64,some (.box 38 (.d (df (NotS S) c (p0::rest) bs)))),(65,some (.box 38 (.d (df (NotS S) c (p0::rest) bs)))),(67,some (.box 38 (.d DB))),(68,some (.box 38 (fI c (rest.length+1) as_.length 69 71))),(69,some (.lits 49 1 (rest.length+1) true (chF (.own 70 0 p0.length 3 none) (us.map .sc)))),(70,some (.ds 52 3 true (jJ (NotS A)) p0)),(71,some (.ds 48 5 true (jK (NotS A)) (zKd q as_)))],500,Tryz.f3.ntmps,64⟩) (fun q=>q≤as_.length) (fun q=>as_.length-q) 0 [(64,some 64),(65,some 65),(67,some 67),(68,some 68),(69,some 69),(70,some 70),(71,some 71)] (Nat.zero_le _) (lg zf ⟨zR,zR,zR,zR,⟨rfl,cL rfl _,_,rfl,bZ rfl⟩,zR,⟨rfl,rfl,_,rfl,aE.of_eq rfl⟩,trivial⟩) ?_
 intro q hq
 by_cases hlt:q<as_.length
 ·have c1:decide ((q:Int)<(as_.length:Int))=true:=dT (by omega)
  obtain⟨a,ha⟩:∃a,as_[q]?=some a:=⟨_,List.getElem?_eq_getElem hlt⟩
  have hga:(zKd q as_)[((q:Int)).toNat]?=some a:=by rw[Int.toNat_natCast]; exact wM ha
  refine bH<|sR ?_;refine zD ?_;refine rQ iM ?_;refine rQ (bq aa rfl rfl) ?_;refine rC ?_;refine zI<|bG ?_
  refine cj (jw (lz ?_))
  by_cases hz:a.bytes.length=0
  ·have c2:decide ((0:Int)<(a.bytes.length:Int))=false:=dF (by omega)
   refine bH<|sR ?_;refine rC ?_;refine rQ iM ?_;refine rC ?_;refine rQ (aP aa rfl rfl rfl rfl rfl (by omega) (by omega)) ?_;refine rC ?_;refine rQ (bM aa rfl rfl ⟨rfl,a,hga,_,rfl,rfl⟩ rfl) ?_;refine rQ (qM aa rfl rfl) ?_;refine rC ?_;refine zG<|bG ?_
   refine cj (jd ?_)
   refine ao<|rC ?_;refine rQ iM ?_;refine rC ?_;refine rQ (aP aa rfl rfl rfl rfl rfl (by omega) (by omega)) ?_;refine rC ?_;refine aW (aF aa rfl rfl rfl ⟨rfl,a, { a with kind:=0 },hga,⟨_,⟨rfl,rfl,rfl⟩,rfl⟩,rfl⟩ rfl)<|aB<|ew ?_
   refine cj (jd ?_)
   refine ao<|rC ?_;refine rQ iD ?_;refine rC<|aB ?_
   exact aY (q+1) [(64,some 64),(65,some 65),(67,some 67),(68,some 68),(69,some 69),(70,some 70),(71,some 71)] (show q+1≤_ by omega) (by show as_.length-(q+1)<as_.length-q; omega) (lg zf ⟨zR,zR,zR,zR,⟨rfl,cL rfl _,_,rfl,bZ rfl⟩,zR,⟨rfl,rfl,_,rfl,aE.of_eq (by rw[Int.toNat_natCast,rz ha]; rfl)⟩,trivial⟩)
  ·have c2:decide ((0:Int)<(a.bytes.length:Int))=true:=dT (by omega)
   refine jw (bH ?_)
   refine ao<|rC ?_;refine rQ iM ?_;refine rC ?_;refine rQ (aP aa rfl rfl rfl rfl rfl (by omega) (by omega)) ?_;refine rC ?_;refine rQ (bM aa rfl rfl ⟨rfl,a,hga,_,rfl,rfl⟩ rfl) ?_;refine rQ (qM aa rfl rfl) ?_;refine rC<|aB ?_
   refine cj (im rfl (fun _=>kv ?_) (fun h=>by rw[c2]at h; cases h))
   ·refine oZ (l1:=[_,_,_,_,_,_]) rfl ?_;refine rC ?_;refine rQ iM ?_;refine rC ?_;refine rQ (aP aa rfl rfl rfl rfl rfl (by omega) (by omega)) ?_;refine rC ?_;refine rQ (bM aa rfl rfl ⟨rfl,a,hga,_,rfl,rfl⟩ rfl) ?_;refine kV ?_
    refine kW (p:=isB) (m:=a.bytes.length) (j:=0) (k :=.i64) aa rfl rfl rfl rfl rfl rfl (by decide) (by omega) (fun u ⟨z,e⟩=>by rw[e]; rfl) (fun u hu=>?_)
    obtain⟨z,rfl⟩:=hu
    refine gw rfl (r8 aa rfl rfl) ?_;refine gw rfl (bk aa rfl rfl rfl) ?_
    refine kW (p:=isB) (m:=a.bytes.length) (j:=0) (k :=.i64) aa rfl rfl rfl rfl rfl rfl (by decide) (by omega) (fun u ⟨z,e⟩=>by rw[e]; rfl) (fun u hu=>?_)
    refine lB (v :=.int .u8 (IntKind.u8.wrap (z+1))) aa [(16,.int .i64 (q:Nat)),(2,.int .i64 i),(7,.ptr 64 []),(8,.ptr 65 []),(9,.ptr 68 []),(11,.ptr 67 []),(14,.bool fb)] rfl rfl rfl (.cons rfl trivial (.cons rfl trivial (.cons rfl trivial (.cons rfl trivial (.cons rfl trivial (.cons rfl trivial (.cons rfl trivial .nil))))))) ⟨⟨D.cl.safe _ (fX c),hnn,hnn,trivial⟩,⟨D.cl.safe _ (fX c),hnn,hnn,trivial⟩,hsafe _,⟨D.cl.safe _ (fX c),trivial,trivial,trivial⟩,pM (A :=.own 70 0 p0.length 3 none) trivial us,fun x=>⟨trivial,trivial,⟨_,rfl⟩,trivial⟩,fun x=>⟨trivial,trivial,trivial,⟨_,rfl⟩,trivial,trivial⟩,trivial⟩ ?_
    refine o0 (rI (cj (jd ?_)))
    refine ao<|rC ?_;refine rQ iM ?_;refine rC ?_;refine rQ (aP aa rfl rfl rfl rfl rfl (by omega) (by omega)) ?_;refine rC ?_;refine aW (aF aa rfl rfl rfl ⟨rfl,a, { a with kind:=0 },hga,⟨_,⟨rfl,rfl,rfl⟩,rfl⟩,rfl⟩ rfl)<|aB<|ew ?_
    refine cj (jd ?_)
    refine ao<|rC ?_;refine rQ iD ?_;refine rC<|aB ?_
    exact aY (q+1) [(64,some 64),(65,some 65),(67,some 67),(68,some 68),(69,some 69),(70,some 70),(71,some 71)] (show q+1≤_ by omega) (by show as_.length-(q+1)<as_.length-q; omega) (lg zf ⟨zR,zR,zR,zR,⟨rfl,cL rfl _,_,rfl,bZ rfl⟩,zR,⟨rfl,rfl,_,rfl,aE.of_eq (by rw[Int.toNat_natCast,rz ha]; rfl)⟩,trivial⟩)
 ·have c1:decide ((q:Int)<(as_.length:Int))=false:=dF (by omega)
  refine bH<|sR ?_;refine zD ?_;refine rQ iM ?_;refine rQ (bq aa rfl rfl) ?_;refine rC ?_;refine zG<|dA ?_
  refine yn (loopQ_x (yS (cj ?_)))
  refine bH<|ao ?_;refine rC ?_;refine rQ iM ?_;refine rQ (aP aa rfl rfl rfl rfl rfl (by omega) (by omega)) ?_;refine rQ (bM aa rfl rfl (fu (s:=1) (Nat.succ_pos _) rfl) rfl) ?_;refine rQ (bq aa rfl rfl) ?_;refine rC<|aB ?_
  by_cases hp0:p0.length=0
  ·have c5:decide ((0:Int)<(p0.length:Int))=false:=dF (by omega)
   refine cj (jd ?_)
   refine wF<|bG ?_
   exact vr () [(64,some 64),(65,some 65),(66,some 67)] trivial (lg zh ⟨⟨rfl,rfl,_,rfl,aE.box_d bE⟩,⟨rfl,rfl,_,rfl,aE.box_d bE⟩,⟨rfl,rfl,_,rfl,aE.box_d hDB⟩,trivial⟩)
  ·have c5:decide ((0:Int)<(p0.length:Int))=true:=dT (by omega)
   refine cj (im rfl (fun _=>?_) (fun h=>by rw[c5]at h; cases h))
   obtain⟨o,ho⟩:∃o,p0[((0:Int)).toNat]?=some o:=⟨_,List.getElem?_eq_getElem (show 0<p0.length by omega)⟩
   refine bH<|ao ?_;refine rC ?_;refine rQ iM ?_;refine rQ (aP aa rfl rfl rfl rfl rfl (by omega) (by omega)) ?_;refine rQ (bM aa rfl rfl (fu (s:=1) (Nat.succ_pos _) rfl) rfl) ?_;refine rQ (aP aa rfl rfl rfl rfl rfl (by omega) (by omega)) ?_;refine rC ?_;refine rQ (bM aa rfl rfl ⟨rfl,o,ho,_,rfl,rfl⟩ rfl) ?_;refine rQ (bk aa rfl rfl rfl) ?_;refine rQ (aP aa rfl rfl rfl rfl rfl (by omega) (by omega)) ?_;refine rC ?_;refine aW (aF aa rfl rfl rfl ⟨rfl,o,⟨o.kind,IntKind.i64.wrap (o.index+1),o.data⟩,ho,⟨_,⟨rfl,rfl,rfl⟩,rfl⟩,rfl⟩ rfl)<|aB ?_
   obtain⟨o2,ho3⟩:∃o2:POp,o2=⟨o.kind,IntKind.i64.wrap (o.index+1),o.data⟩:=⟨_,rfl⟩
   have ho2:(p0.set ((0:Int)).toNat ⟨o.kind,IntKind.i64.wrap (o.index+1),o.data⟩)[((0:Int)).toNat]?=some o2:=by
    rw[ho3]; exact List.getElem?_set_self (show 0<p0.length by omega)
   refine cj (bH ?_)
   refine ao<|rC ?_;refine rQ iM ?_;refine rQ (aP aa rfl rfl rfl rfl rfl (by omega) (by omega)) ?_;refine rQ (bM aa rfl rfl (fu (s:=1) (Nat.succ_pos _) rfl) rfl) ?_;refine rQ (aP aa rfl rfl rfl rfl rfl (by omega) (by omega)) ?_;refine rC ?_;refine rQ (bM aa rfl rfl ⟨rfl,o2,ho2,_,rfl,rfl⟩ rfl) ?_;refine rQ (qM aa rfl rfl) ?_;refine rC<|aB ?_
   by_cases hz:o2.data.length=0
   ·have c6:decide ((0:Int)<(o2.data.length:Int))=false:=dF (by omega)
    refine cj (jd ?_)
    refine wF<|bG ?_
    exact vr () [(64,some 64),(65,some 65),(66,some 67)] trivial (lg zh ⟨⟨rfl,rfl,_,rfl,aE.box_d bE⟩,⟨rfl,rfl,_,rfl,aE.box_d bE⟩,⟨rfl,rfl,_,rfl,aE.box_d hDB⟩,trivial⟩)
   ·have c6:decide ((0:Int)<(o2.data.length:Int))=true:=dT (by omega)
    refine cj (im rfl (fun _=>kv ?_) (fun h=>by rw[c6]at h; cases h))
    refine oZ (l1:=[_,_,_,_,_,_,_]) rfl ?_;refine rC ?_;refine rQ iM ?_;refine rQ (aP aa rfl rfl rfl rfl rfl (by omega) (by omega)) ?_;refine rQ (bM aa rfl rfl (fu (s:=1) (Nat.succ_pos _) rfl) rfl) ?_;refine rQ (aP aa rfl rfl rfl rfl rfl (by omega) (by omega)) ?_;refine rC ?_;refine rQ (bM aa rfl rfl ⟨rfl,o2,ho2,_,rfl,rfl⟩ rfl) ?_;refine kV ?_
    refine kW (p:=isB) (m:=o2.data.length) (j:=0) (k :=.i64) aa rfl rfl rfl rfl rfl rfl (by decide) (by omega) (fun u ⟨z,e⟩=>by rw[e]; rfl) (fun u hu=>?_)
    obtain⟨z,rfl⟩:=hu
    refine gw rfl (r8 aa rfl rfl) ?_;refine gw rfl (bk aa rfl rfl rfl) ?_
    refine kW (p:=isB) (m:=o2.data.length) (j:=0) (k :=.i64) aa rfl rfl rfl rfl rfl rfl (by decide) (by omega) (fun u ⟨z,e⟩=>by rw[e]; rfl) (fun u hu=>?_)
    refine lB (v :=.int .u8 (IntKind.u8.wrap (z+1))) aa [(2,.int .i64 i),(7,.ptr 64 []),(8,.ptr 65 []),(9,.ptr 68 []),(11,.ptr 67 []),(14,.bool fb)] rfl rfl rfl (.cons rfl trivial (.cons rfl trivial (.cons rfl trivial (.cons rfl trivial (.cons rfl trivial (.cons rfl trivial .nil)))))) ⟨fun x=>⟨trivial,trivial,⟨_,rfl⟩,trivial⟩,⟨D.cl.safe _ (fX c),hnn,hnn,trivial⟩,⟨D.cl.safe _ (fX c),hnn,hnn,trivial⟩,hsafe _,⟨D.cl.safe _ (fX c),trivial,trivial,trivial⟩,pM (A :=.own 70 0 p0.length 3 none) trivial us,fun x=>⟨trivial,trivial,⟨_,rfl⟩,trivial⟩,fun x=>⟨trivial,trivial,trivial,⟨_,rfl⟩,trivial,trivial⟩,trivial⟩ ?_
    exact o0 (rI (vr () [(64,some 64),(65,some 65),(66,some 67)] trivial (lg zh ⟨⟨rfl,rfl,_,rfl,aE.box_d bE⟩,⟨rfl,rfl,_,rfl,aE.box_d bE⟩,⟨rfl,rfl,_,rfl,aE.box_d hDB⟩,trivial⟩)))
theorem je (c:SCfg) (l:List (List POp)) (bs:List SAct) (n:Int) (hn:n<0∨(bs.length:Int)≤n):FnIs Tryz.prog 6 [.d (bB c l bs),.int .i64 n] [] (.tup (.acons (.d zS0) (.acons (.d (i6 1)) .anil))) []:=by
 refine aw aa Tryz.func6 rfl rfl rfl ?_
 by_cases h0:n<0
 ·have d1:decide (n<0)=true:=dT h0
  refine sR ?_;iterate 2 refine rN ?_
  refine rC<|zW ?_;refine zU ?_
  iterate 5 refine rS ?_
  refine rQ iT ?_;refine zO<|sR ?_;refine rQ iS ?_;refine rW ?_;refine rC<|zT<|ba ?_
  exact⟨trivial,_,rfl,[],lf⟩
 ·have d1:decide (n<0)=false:=dF h0
  have d2:decide ((bs.length:Int)≤n)=true:=dT (by omega)
  refine sR ?_;iterate 2 refine rN ?_
  refine rC<|zW ?_;refine zU ?_;refine rO ?_;refine rC ?_;refine rO ?_;refine rC ?_;refine rO ?_;refine rQ iB ?_;refine rO ?_;refine rQ iE ?_;refine rO ?_;refine rC ?_;refine rQ iF<|nS ?_;refine wT<|sR ?_;refine rQ iS ?_;refine rW ?_;refine rC<|zT<|ba ?_
  exact⟨trivial,_,rfl,[],lf⟩
theorem tu (x:CX) (ps:List (List PQ)) (l:List XA) (n i:Int):FnIs Tryz.prog 3 [.d (pE x ps l),.int .i64 n,.int .i64 i] [] (.bool true) []:=by
 have hof:=ym x ps l (fun p hp=>by have:=(rR hp).1; omega) (by have:=xe ps; omega)
 have h0:=wX x ps l
 have hcw:=(wo x).ok
 have hlen:(gR x l).length≤120:=by rw[gR,List.length_map,List.length_take]; omega
 have hpl:(cv x.blocks x.clients (pOf ps)).length≤1000:=by have:=fv x.blocks x.clients (pOf ps); have:=dI x; omega
 have hpm:∀p∈cv x.blocks x.clients (pOf ps),p.length≤1000000∧∀o∈p,o.data.length≤1000000:=fun p hp=>⟨by have:=(jf hp).1; omega,fun o ho=>by have:=((jf hp).2 o ho).2; omega⟩
 obtain⟨p0,rest,hL⟩:=o6 x ps
 rw[hL]at hof h0 hpl hpm
 have hall:=(jv h0).2.2.2.2
 have hbm:∀a∈gR x l,a.bytes.length≤1000000:=fun a ha=>by have:=pZ (hall a ha); omega
 generalize gR x l=bs at *
 generalize fB x=c at *
 have hBd:=wx (jv h0).2.1
 rw[List.length_cons]at hpl
 have hB0:Bd []:=⟨Nat.zero_le _,fun p hp=>by cases hp⟩
 have hsz:=gk mR mR [] [] [] [] hB0 hB0 (Nat.zero_le _) (Nat.zero_le _)
 rw[oU]at hsz
 refine aw aa Tryz.func3 rfl rfl rfl ?_;refine sR<|rN ?_;refine rC<|nQ ?_;refine aH (by kernel_rfl) ?_;refine dQ [3] [64] iM ?_;refine dQ [21] [] (ak hof rfl rfl (aj ae) (.inl rfl) (fun _=>rfl)) ?_;refine dQ [3] [64] iM ?_;refine dQ [23] [] (ak hof rfl rfl (aj ae) (.inl rfl) (fun _=>rfl)) ?_;iterate 2 refine eL [] [] rfl (ay aa (fun K hk=>hk)) ?_
 refine ca [7,22] [112] (aF aa rfl rfl rfl ⟨_,⟨rfl,rfl,rfl⟩,rfl⟩ rfl) ?_;refine ca [8,24] [120] (aF aa rfl rfl rfl ⟨_,⟨rfl,rfl,rfl⟩,rfl⟩ rfl) ?_;refine aC (by kernel_rfl)<|aU ?_
 refine wN (r:=112) (r':=120) (fun S=>[(1,.int .i64 n),(2,.int .i64 i),(7,.ptr 112 []),(8,.ptr 120 [])]) rfl rfl rfl rfl rfl rfl (fun S=>.keep rfl (.keep rfl (.keep rfl (.keep rfl .nil)))) (fun S=>?_)
 refine il (st':=⟨[(1,.int .i64 n),(2,.int .i64 i),(7,.ptr 64 []),(8,.ptr 65 [])],[(64,some (.box 38 (.d (df (NotS S) c (p0::rest) bs)))),(65,some (.box 38 (.d (df (NotS S) c (p0::rest) bs)))),(66,some (.lo S))],100,Tryz.f3.ntmps,64⟩) [(64,some 112),(65,some 120),(66,some 144)]
  (lg zi ⟨⟨rfl,rfl,_,rfl,aE.box_d vk⟩,⟨rfl,rfl,_,rfl,aE.box_d vk⟩,zR,trivial⟩) ?_
 by_cases hg:0≤n∧n≤bs.length
 ·obtain⟨k,rfl⟩:∃k:Nat,n=k:=⟨n.toNat,by omega⟩
  have hk:k≤bs.length:=by omega
  have hcut:=fun S=>wW S c p0 rest bs k hk (by omega) (by omega) hpm hbm
  refine bH<|ao ?_;refine rQ iM ?_;refine rC ?_;refine bz rfl (aO [(0,some 66)] (hcut S) rfl rfl rfl (bu rfl trivial bE (aj ae)) ⟨zH,trivial⟩ rfl rfl (.inl rfl) rfl (xi (n1:=117) (n2:=118) rfl rfl)) rfl rfl ?_;refine zU ?_;refine rN ?_;refine rW ?_;refine rC<|aB ?_;refine cj ?_
  refine uj (r:=117) (r':=118) rfl rfl rfl rfl rfl rfl (fun S1=>?_)
  obtain⟨A,hA⟩:∃A:Nat→Prop,∀b,A b ↔ ¬S b∧S1 b:=⟨_,fun _=>Iff.rfl⟩
  have hAT:∀b,A b→NotS S b:=fun b hb=>((hA b).1 hb).1
  obtain⟨eP,heP⟩:∃e:POp→D,e=fun x=>.re false (NotS S1) (dO S x):=⟨_,rfl⟩
  obtain⟨eA,heA⟩:∃e:SAct→D,e=fun x=>.re false (NotS S1) (eS S x):=⟨_,rfl⟩
  have hP1:∀x,DLe (eP x) (br x):=fun x=>by rw[heP]; exact DLe.re.trans (n6 x)
  have hP2:∀x,DLe (eP x) (jJ (NotS A) x):=fun x=>by rw[heP]; exact popJ hA x
  have hA1:∀x,DLe (eA x) (aX x):=fun x=>by rw[heA]; exact DLe.re.trans (sH x)
  have hA2:∀x,DLe (eA x) (jK (NotS A) x):=fun x=>by rw[heA]; exact actJ hA x
  obtain⟨as_,has⟩:∃as_,bs.take k=as_:=⟨_,rfl⟩
  rw[has]
  refine il (st':=⟨[(1,.int .i64 k),(2,.int .i64 i),(7,.ptr 64 []),(8,.ptr 65 []),(9,.ptr 68 []),(10,.int .i64 0)],[(64,some (.box 38 (.d (df (NotS S) c (p0::rest) bs)))),(65,some (.box 38 (.d (df (NotS S) c (p0::rest) bs)))),(66,some (.lo S)),(67,some (.lo A)),(68,some (.box 38 (fI c (rest.length+1) as_.length 69 71))),(69,some (.lits 49 1 (rest.length+1) true (chF (.own 70 0 p0.length 3 none) (rest.map encP)))),(70,some (.ds 52 3 true eP p0)),(71,some (.ds 48 5 true eA as_))],200,Tryz.f3.ntmps,64⟩) [(64,some 64),(65,some 65),(66,some 66),(67,some 172),(68,some 148),(69,some 116),(70,some 117),(71,some 118)]
   (lg zg ⟨zR,zR,zR,⟨rfl,rfl,_,rfl,aE.lo fun b hb=>((hA b).1 hb).2⟩,zR,⟨rfl,cL rfl _,_,rfl,bZ rfl⟩,⟨rfl,rfl,_,rfl,aE.of_eq (by rw[heP]; rfl)⟩,⟨rfl,rfl,_,rfl,aE.of_eq (by rw[heA]; rfl)⟩,trivial⟩) ?_
  clear heP heA hcut
  have g1:decide ((0:Int)≤(k:Int))=true:=dT (by omega)
  have g2:decide ((k:Int)≤(bs.length:Int))=true:=dT (by omega)
  have q1:(decide ((0:Int)=0) !=decide ((k:Int)≤(bs.length:Int)))=false:=by rw[g2]; rfl
  have q2:(!decide ((k:Int)≤(bs.length:Int)))=false:=by rw[g2]; rfl
  by_cases hf:0≤i∧i<bs.length
  ·obtain⟨j,rfl⟩:∃j:Nat,i=j:=⟨i.toNat,by omega⟩
   have hj:j<bs.length:=by omega
   have hwi:=ur A S c p0 rest bs j hj (by omega) (by omega) hpm hbm
   have g3:decide ((0:Int)≤(j:Int))=true:=dT (by omega)
   have g4:decide ((j:Int)<(bs.length:Int))=true:=dT (by omega)
   have q3:(decide ((0:Int)=0) !=decide ((j:Int)<(bs.length:Int)))=false:=by rw[g4]; rfl
   have q4:(!decide ((j:Int)<(bs.length:Int)))=false:=by rw[g4]; rfl
   refine bH<|ao ?_;refine rQ iM ?_;refine rC ?_;refine bz rfl (aO [(0,some 66),(1,some 67)] hwi rfl rfl rfl (bu rfl trivial (xm hAT) (bu rfl trivial (DLe.cl_re trivial) ae)) ⟨zH,zH,trivial⟩ rfl rfl (.inl rfl) rfl rfl) rfl rfl ?_;refine zU ?_;refine rN ?_;refine rW ?_;refine rC<|aB ?_
   refine cj (bH ?_)
   refine aH (by kernel_rfl) ?_;refine dC [1] [] ?_;refine dC [37] [] ?_;refine dC [38] [] ?_;refine ab [39,1] [] rfl rfl rfl rfl (ay aa (fun K hk=>hk)) ?_;refine ab [39,7] [] rfl rfl rfl rfl (ay aa (fun K hk=>hk)) ?_;refine ab [39,41] [64] rfl rfl rfl rfl (aq.val_le (cI aa rfl rfl ⟨_,rfl,rfl⟩ rfl) DLe.re rfl) ?_;refine ab [39,42] [] rfl rfl rfl rfl (dM aa rfl rfl) ?_;refine ab [39,40,43] [] rfl rfl rfl rfl (ay aa (fun K hk=>hk)) ?_;refine dQ [39,44] [] iU ?_;refine dC [2] [] ?_;refine dC [46] [] ?_;refine dC [47] [] ?_;refine ab [48,2] [] rfl rfl rfl rfl (ay aa (fun K hk=>hk)) ?_;refine ab [48,7] [] rfl rfl rfl rfl (ay aa (fun K hk=>hk)) ?_;refine ab [48,50] [64] rfl rfl rfl rfl (aq.val_le (cI aa rfl rfl ⟨_,rfl,rfl⟩ rfl) DLe.re rfl) ?_;refine ab [48,51] [] rfl rfl rfl rfl (dM aa rfl rfl) ?_;refine ab [48,49,52] [] rfl rfl rfl rfl (ay aa (fun K hk=>hk)) ?_;refine dQ [48,53] [] iU ?_;refine dC [45] [] ?_;refine dC [54] [] ?_;refine aC (by kernel_rfl) ?_
   refine cj (bH ?_)
   refine sR ?_;iterate 5 refine rC ?_
   refine rO ?_;refine rC ?_;refine rO ?_;refine rC ?_;refine rO ?_;refine rC ?_;iterate 3 refine rS ?_
   iterate 4 refine rU ?_
   refine rS ?_;refine rO ?_;iterate 2 refine rQ iF ?_
   refine rC ?_;refine rP ?_;refine rC ?_;refine rP ?_;refine rC ?_;refine rP ?_;refine rC ?_;refine rP ?_;refine rC ?_;refine rQ iG ?_;refine rC ?_;refine rO ?_;refine rC ?_;refine rO ?_;refine rC ?_;refine rO ?_;refine rC ?_;iterate 3 refine rS ?_
   iterate 4 refine rU ?_
   refine rS ?_;refine rO ?_;iterate 2 refine rQ iF ?_
   refine zJ<|bG ?_;refine cj ?_;refine il (st':=⟨[(1,.int .i64 k),(2,.int .i64 j),(7,.ptr 64 []),(8,.ptr 65 []),(9,.ptr 68 []),(11,.ptr 67 []),(13,.bool true),(14,.bool true)],[(64,some (.box 38 (.d (df (NotS S) c (p0::rest) bs)))),(65,some (.box 38 (.d (df (NotS S) c (p0::rest) bs)))),(67,some (.box 38 (.d (kU A c (p0::rest) (woA j bs))))),(68,some (.box 38 (fI c (rest.length+1) as_.length 69 71))),(69,some (.lits 49 1 (rest.length+1) true (chF (.own 70 0 p0.length 3 none) (rest.map encP)))),(70,some (.ds 52 3 true eP p0)),(71,some (.ds 48 5 true eA as_))],300,Tryz.f3.ntmps,64⟩) [(64,some 64),(65,some 65),(67,some 248),(68,some 68),(69,some 69),(70,some 70),(71,some 71)] (lg ⟨zE,rfl,zE,rfl,zE,rfl,zE,rfl,zE,rfl,zE,rfl,⟨_,rfl,AVLe.of_eq (by rw[g2]; rfl)⟩,rfl,⟨_,rfl,AVLe.of_eq (by rw[g4]; rfl)⟩,rfl,trivial⟩ ⟨zR,zR,zR,zR,⟨rfl,cL rfl _,_,rfl,bZ rfl⟩,zR,zR,trivial⟩) ?_
   exact ka S A hAT c p0 rest bs as_ k hk has eP eA hP1 hP2 hA1 hA2 h0 hcw hBd (by omega) (kU A c (p0::rest) (woA j bs)) (scrX c (p0::rest) (woA j bs)) (DLe.cons (DLe.refl _) (DLe.cons DLe.re (DLe.cons DLe.re (DLe.refl _)))) (fun u=>⟨D.cl.safe _ (fX c),fun b hb=>Classical.not_not.1 hb,fun b hb=>Classical.not_not.1 hb,trivial⟩) true j (j0 c (p0::rest) bs j hj hBd (by omega) h0 hcw)
  ·have hwb:=je c (p0::rest) bs i (by omega)
   by_cases hi0:0≤i
   ·have g3:decide ((0:Int)≤i)=true:=dT hi0
    have g4:decide (i<(bs.length:Int))=false:=dF (by omega)
    have q3:(decide ((1:Int)=0) !=decide (i<(bs.length:Int)))=false:=by rw[g4]; rfl
    have q4:(!decide (i<(bs.length:Int)))=true:=by rw[g4]; rfl
    refine bH<|ao ?_;refine rQ iM ?_;refine rC ?_;refine rQ (ak hwb rfl rfl (bu rfl trivial bE (aj ae)) (.inl rfl) (fun _=>rfl)) ?_;refine zU ?_;refine rN ?_;refine rW ?_;refine rC<|aB ?_
    refine cj (bH ?_)
    refine aH (by kernel_rfl) ?_;refine dC [1] [] ?_;refine dC [37] [] ?_;refine dC [38] [] ?_;refine ab [39,1] [] rfl rfl rfl rfl (ay aa (fun K hk=>hk)) ?_;refine ab [39,7] [] rfl rfl rfl rfl (ay aa (fun K hk=>hk)) ?_;refine ab [39,41] [64] rfl rfl rfl rfl (aq.val_le (cI aa rfl rfl ⟨_,rfl,rfl⟩ rfl) DLe.re rfl) ?_;refine ab [39,42] [] rfl rfl rfl rfl (dM aa rfl rfl) ?_;refine ab [39,40,43] [] rfl rfl rfl rfl (ay aa (fun K hk=>hk)) ?_;refine dQ [39,44] [] iU ?_;refine dC [2] [] ?_;refine dC [46] [] ?_;refine dC [47] [] ?_;refine ab [48,2] [] rfl rfl (by assumption) rfl (ay aa (fun K hk=>hk)) ?_;refine ab [48,7] [] rfl rfl (by assumption) rfl (ay aa (fun K hk=>hk)) ?_;refine ab [48,50] [64] rfl rfl (by assumption) rfl (aq.val_le (cI aa rfl rfl ⟨_,rfl,rfl⟩ rfl) DLe.re rfl) ?_;refine ab [48,51] [] rfl rfl (by assumption) rfl (dM aa rfl rfl) ?_;refine ab [48,49,52] [] rfl rfl (by assumption) rfl (ay aa (fun K hk=>hk)) ?_;refine dQ [48,53] [] iT ?_;refine dC [45] [] ?_;refine dC [54] [] ?_;refine aC (by kernel_rfl) ?_
    refine cj (bH ?_)
    refine sR ?_;iterate 5 refine rC ?_
    refine rO ?_;refine rC ?_;refine rO ?_;refine rC ?_;refine rO ?_;refine rC ?_;iterate 3 refine rS ?_
    iterate 4 refine rU ?_
    refine rS ?_;refine rO ?_;iterate 2 refine rQ iF ?_
    refine rC ?_;refine rP ?_;refine rC ?_;refine rP ?_;refine rC ?_;refine rP ?_;refine rC ?_;refine rP ?_;refine rC ?_;refine rQ iG ?_;refine rC ?_;refine rO ?_;refine rC ?_;refine rO ?_;refine rC ?_;refine rO ?_;refine rC ?_;refine rO ?_;refine rC ?_;refine rO ?_;refine rC ?_;refine rO ?_;refine rC ?_;refine rP ?_;refine rQ iM ?_;refine rP ?_;refine rQ iS ?_;refine rP ?_;refine rQ (ak hsz rfl rfl (bu rfl trivial jW (bu rfl trivial dz ae)) (.inl rfl) (fun _=>rfl)) ?_;refine rP ?_;refine rC ?_;refine rO ?_;refine rQ iG ?_;refine rO ?_;refine rQ iT ?_;refine rQ iF ?_;refine zJ<|bG ?_;refine cj ?_;refine il (st':=⟨[(1,.int .i64 k),(2,.int .i64 i),(7,.ptr 64 []),(8,.ptr 65 []),(9,.ptr 68 []),(11,.ptr 67 []),(13,.bool true),(14,.bool false)],[(64,some (.box 38 (.d (df (NotS S) c (p0::rest) bs)))),(65,some (.box 38 (.d (df (NotS S) c (p0::rest) bs)))),(67,some (.box 38 (.d (zS0)))),(68,some (.box 38 (fI c (rest.length+1) as_.length 69 71))),(69,some (.lits 49 1 (rest.length+1) true (chF (.own 70 0 p0.length 3 none) (rest.map encP)))),(70,some (.ds 52 3 true eP p0)),(71,some (.ds 48 5 true eA as_))],300,Tryz.f3.ntmps,64⟩) [(64,some 64),(65,some 65),(67,some 248),(68,some 68),(69,some 69),(70,some 70),(71,some 71)] (lg ⟨zE,rfl,zE,rfl,zE,rfl,zE,rfl,zE,rfl,zE,rfl,⟨_,rfl,AVLe.of_eq (by rw[g2]; rfl)⟩,rfl,⟨_,rfl,AVLe.of_eq (by rw[g4]; rfl)⟩,rfl,trivial⟩ ⟨zR,zR,zR,zR,⟨rfl,cL rfl _,_,rfl,bZ rfl⟩,zR,zR,trivial⟩) ?_
    exact ka S A hAT c p0 rest bs as_ k hk has eP eA hP1 hP2 hA1 hA2 h0 hcw hBd (by omega) (zS0) (zS0) (DLe.refl _) (fun u=>⟨D.cl.safe _ (fX mR),trivial,trivial,trivial⟩) false i (gi c (p0::rest) bs zS0 i hBd (by omega))
   ·have g3:decide ((0:Int)≤i)=false:=dF hi0
    refine bH<|ao ?_;refine rQ iM ?_;refine rC ?_;refine rQ (ak hwb rfl rfl (bu rfl trivial bE (aj ae)) (.inl rfl) (fun _=>rfl)) ?_;refine zU ?_;refine rN ?_;refine rW ?_;refine rC<|aB ?_
    refine cj (bH ?_)
    refine aH (by kernel_rfl) ?_;refine dC [1] [] ?_;refine dC [37] [] ?_;refine dC [38] [] ?_;refine ab [39,1] [] rfl rfl rfl rfl (ay aa (fun K hk=>hk)) ?_;refine ab [39,7] [] rfl rfl rfl rfl (ay aa (fun K hk=>hk)) ?_;refine ab [39,41] [64] rfl rfl rfl rfl (aq.val_le (cI aa rfl rfl ⟨_,rfl,rfl⟩ rfl) DLe.re rfl) ?_;refine ab [39,42] [] rfl rfl rfl rfl (dM aa rfl rfl) ?_;refine ab [39,40,43] [] rfl rfl rfl rfl (ay aa (fun K hk=>hk)) ?_;refine dQ [39,44] [] iU ?_;refine dC [2] [] ?_;refine dC [46] [] ?_;refine dC [47] [] ?_;refine ai [48,2] rfl rfl (by assumption) rfl ?_;refine ai [48,7] rfl rfl (by assumption) rfl ?_;refine ai [48,50] rfl rfl (by assumption) rfl ?_;refine ai [48,51] rfl rfl (by assumption) rfl ?_;refine ai [48,49,52] rfl rfl (by assumption) rfl ?_;refine dQ [48,53] [] iF ?_;refine dC [45] [] ?_;refine dC [54] [] ?_;refine aC (by kernel_rfl) ?_
    refine cj (bH ?_)
    refine sR ?_;iterate 5 refine rC ?_
    refine rO ?_;refine rC ?_;refine rO ?_;refine rC ?_;refine rO ?_;refine rC ?_;iterate 3 refine rS ?_
    iterate 4 refine rU ?_
    refine rS ?_;refine rO ?_;iterate 2 refine rQ iF ?_
    refine rC ?_;refine rP ?_;refine rC ?_;refine rP ?_;refine rC ?_;refine rP ?_;refine rC ?_;refine rP ?_;refine rC ?_;refine rQ iG ?_;refine rC ?_;refine rP ?_;refine rC ?_;refine rP ?_;refine rC ?_;refine rP ?_;refine rC ?_;refine rP ?_;refine rC ?_;refine rP ?_;refine rC ?_;refine rP ?_;refine rC ?_;refine rP ?_;refine rQ iM ?_;refine rP ?_;refine rQ iS ?_;refine rP ?_;refine rQ (ak hsz rfl rfl (bu rfl trivial jW (bu rfl trivial dz ae)) (.inl rfl) (fun _=>rfl)) ?_;refine rP ?_;refine rC ?_;refine rP ?_;refine rQ iG ?_;refine rP ?_;refine rQ iU ?_;refine rQ iG ?_;refine zJ<|bG ?_;refine cj ?_;refine il (st':=⟨[(1,.int .i64 k),(2,.int .i64 i),(7,.ptr 64 []),(8,.ptr 65 []),(9,.ptr 68 []),(11,.ptr 67 []),(13,.bool true),(14,.bool false)],[(64,some (.box 38 (.d (df (NotS S) c (p0::rest) bs)))),(65,some (.box 38 (.d (df (NotS S) c (p0::rest) bs)))),(67,some (.box 38 (.d (zS0)))),(68,some (.box 38 (fI c (rest.length+1) as_.length 69 71))),(69,some (.lits 49 1 (rest.length+1) true (chF (.own 70 0 p0.length 3 none) (rest.map encP)))),(70,some (.ds 52 3 true eP p0)),(71,some (.ds 48 5 true eA as_))],300,Tryz.f3.ntmps,64⟩) [(64,some 64),(65,some 65),(67,some 248),(68,some 68),(69,some 69),(70,some 70),(71,some 71)] (lg ⟨zE,rfl,zE,rfl,zE,rfl,zE,rfl,zE,rfl,zE,rfl,⟨_,rfl,AVLe.of_eq (by rw[g2]; rfl)⟩,rfl,⟨_,rfl,AVLe.of_eq (rfl)⟩,rfl,trivial⟩ ⟨zR,zR,zR,zR,⟨rfl,cL rfl _,_,rfl,bZ rfl⟩,zR,zR,trivial⟩) ?_
    exact ka S A hAT c p0 rest bs as_ k hk has eP eA hP1 hP2 hA1 hA2 h0 hcw hBd (by omega) (zS0) (zS0) (DLe.refl _) (fun u=>⟨D.cl.safe _ (fX mR),trivial,trivial,trivial⟩) false i (gi c (p0::rest) bs zS0 i hBd (by omega))
 ·have hcb:=uy c (p0::rest) bs n (by omega)
  refine jd ?_
  by_cases hn0:0≤n
  ·have g1:decide ((0:Int)≤n)=true:=dT hn0
   have g2:decide (n≤(bs.length:Int))=false:=dF (by omega)
   have q1:(decide ((1:Int)=0) !=decide (n≤(bs.length:Int)))=false:=by rw[g2]; rfl
   have q2:(!decide (n≤(bs.length:Int)))=true:=by rw[g2]; rfl
   by_cases hf:0≤i∧i<bs.length
   ·obtain⟨j,rfl⟩:∃j:Nat,i=j:=⟨i.toNat,by omega⟩
    have hj:j<bs.length:=by omega
    have hwx:=nN S c p0 rest bs j hj (by omega) (by omega) hpm hbm
    have g3:decide ((0:Int)≤(j:Int))=true:=dT (by omega)
    have g4:decide ((j:Int)<(bs.length:Int))=true:=dT (by omega)
    have q3:(decide ((0:Int)=0) !=decide ((j:Int)<(bs.length:Int)))=false:=by rw[g4]; rfl
    have q4:(!decide ((j:Int)<(bs.length:Int)))=false:=by rw[g4]; rfl
    refine sR<|rQ iM ?_;refine rC ?_;refine rQ (ak hcb rfl rfl (bu rfl trivial bE (aj ae)) (.inl rfl) (fun _=>rfl)) ?_;refine zU ?_;refine rN ?_;refine rW ?_;refine rC<|nR ?_;refine rQ iM ?_;refine rC ?_;refine aJ (aO [(0,some 66)] hwx rfl rfl rfl (bu rfl trivial bE (aj ae)) ⟨zH,trivial⟩ rfl rfl (.inl rfl) rfl rfl) rfl ?_;refine zU ?_;refine rN ?_;refine rW ?_;refine rC<|nQ ?_;refine aH (by kernel_rfl) ?_;refine dC [1] [] ?_;refine dC [37] [] ?_;refine dC [38] [] ?_;refine ab [39,1] [] rfl rfl (by assumption) rfl (ay aa (fun K hk=>hk)) ?_;refine ab [39,7] [] rfl rfl (by assumption) rfl (ay aa (fun K hk=>hk)) ?_;refine ab [39,41] [64] rfl rfl (by assumption) rfl (aq.val_le (cI aa rfl rfl ⟨_,rfl,rfl⟩ rfl) DLe.re rfl) ?_;refine ab [39,42] [] rfl rfl (by assumption) rfl (dM aa rfl rfl) ?_;refine ab [39,40,43] [] rfl rfl (by assumption) rfl (ay aa (fun K hk=>hk)) ?_;refine dQ [39,44] [] iT ?_;refine dC [2] [] ?_;refine dC [46] [] ?_;refine dC [47] [] ?_;refine ab [48,2] [] rfl rfl rfl rfl (ay aa (fun K hk=>hk)) ?_;refine ab [48,7] [] rfl rfl rfl rfl (ay aa (fun K hk=>hk)) ?_;refine ab [48,50] [64] rfl rfl rfl rfl (aq.val_le (cI aa rfl rfl ⟨_,rfl,rfl⟩ rfl) DLe.re rfl) ?_;refine ab [48,51] [] rfl rfl rfl rfl (dM aa rfl rfl) ?_;refine ab [48,49,52] [] rfl rfl rfl rfl (ay aa (fun K hk=>hk)) ?_;refine dQ [48,53] [] iU ?_;refine dC [45] [] ?_;refine dC [54] [] ?_;refine aC (by kernel_rfl)<|aU<|qR ?_;iterate 5 refine rC ?_
    refine rO ?_;refine rC ?_;refine rO ?_;refine rC ?_;refine rO ?_;refine rC ?_;refine rO ?_;refine rC ?_;refine rO ?_;refine rC ?_;refine rO ?_;refine rC ?_;refine rP ?_;refine rQ iM ?_;refine rP ?_;refine rQ iS ?_;refine rP ?_;refine rQ (ak hsz rfl rfl (aj (bu rfl trivial dz ae)) (.inl rfl) (fun _=>rfl)) ?_;refine rP ?_;refine rC ?_;refine rO ?_;refine rQ iG ?_;refine rO ?_;refine rQ iT ?_;refine rQ iF ?_;refine rC ?_;refine rP ?_;refine rC ?_;refine rP ?_;refine rC ?_;refine rP ?_;refine rC ?_;refine rP ?_;refine rC ?_;refine rQ iG ?_;refine rC ?_;refine rO ?_;refine rC ?_;refine rO ?_;refine rC ?_;refine rO ?_;refine rC ?_;iterate 3 refine rS ?_
    iterate 4 refine rU ?_
    refine rS ?_;refine rO ?_;iterate 2 refine rQ iF ?_
    refine zJ<|kS<|qR ?_;refine rC ?_;refine zG<|kS ?_
    refine lm (env':=envR j true) (h':=iW c (p0::rest) bs (scrX c (p0::rest) (woA j bs))) 300 [(64,some 64),(65,some 65),(66,some 220)] (lg ⟨zE,rfl,zE,rfl,zE,rfl,zE,rfl,⟨_,rfl,AVLe.of_eq (by rw[g4]; rfl)⟩,rfl,trivial⟩ ⟨⟨rfl,rfl,_,rfl,aE.box_d bE⟩,⟨rfl,rfl,_,rfl,aE.box_d bE⟩,zR,trivial⟩) (j0 c (p0::rest) bs j hj hBd (by omega) h0 hcw)
   ·have hwb:=je c (p0::rest) bs i (by omega)
    by_cases hi0:0≤i
    ·have g3:decide ((0:Int)≤i)=true:=dT hi0
     have g4:decide (i<(bs.length:Int))=false:=dF (by omega)
     have q3:(decide ((1:Int)=0) !=decide (i<(bs.length:Int)))=false:=by rw[g4]; rfl
     have q4:(!decide (i<(bs.length:Int)))=true:=by rw[g4]; rfl
     refine sR<|rQ iM ?_;refine rC ?_;refine rQ (ak hcb rfl rfl (bu rfl trivial bE (aj ae)) (.inl rfl) (fun _=>rfl)) ?_;refine zU ?_;refine rN ?_;refine rW ?_;refine rC<|nR ?_;refine rQ iM ?_;refine rC ?_;refine rQ (ak hwb rfl rfl (bu rfl trivial bE (aj ae)) (.inl rfl) (fun _=>rfl)) ?_;refine zU ?_;refine rN ?_;refine rW ?_;refine rC<|nQ ?_;refine aH (by kernel_rfl) ?_;refine dC [1] [] ?_;refine dC [37] [] ?_;refine dC [38] [] ?_;refine ab [39,1] [] rfl rfl (by assumption) rfl (ay aa (fun K hk=>hk)) ?_;refine ab [39,7] [] rfl rfl (by assumption) rfl (ay aa (fun K hk=>hk)) ?_;refine ab [39,41] [64] rfl rfl (by assumption) rfl (aq.val_le (cI aa rfl rfl ⟨_,rfl,rfl⟩ rfl) DLe.re rfl) ?_;refine ab [39,42] [] rfl rfl (by assumption) rfl (dM aa rfl rfl) ?_;refine ab [39,40,43] [] rfl rfl (by assumption) rfl (ay aa (fun K hk=>hk)) ?_;refine dQ [39,44] [] iT ?_;refine dC [2] [] ?_;refine dC [46] [] ?_;refine dC [47] [] ?_;refine ab [48,2] [] rfl rfl (by assumption) rfl (ay aa (fun K hk=>hk)) ?_;refine ab [48,7] [] rfl rfl (by assumption) rfl (ay aa (fun K hk=>hk)) ?_;refine ab [48,50] [64] rfl rfl (by assumption) rfl (aq.val_le (cI aa rfl rfl ⟨_,rfl,rfl⟩ rfl) DLe.re rfl) ?_;refine ab [48,51] [] rfl rfl (by assumption) rfl (dM aa rfl rfl) ?_;refine ab [48,49,52] [] rfl rfl (by assumption) rfl (ay aa (fun K hk=>hk)) ?_;refine dQ [48,53] [] iT ?_;refine dC [45] [] ?_;refine dC [54] [] ?_;refine aC (by kernel_rfl)<|aU<|qR ?_;iterate 5 refine rC ?_
     refine rO ?_;refine rC ?_;refine rO ?_;refine rC ?_;refine rO ?_;refine rC ?_;refine rO ?_;refine rC ?_;refine rO ?_;refine rC ?_;refine rO ?_;refine rC ?_;refine rP ?_;refine rQ iM ?_;refine rP ?_;refine rQ iS ?_;refine rP ?_;refine rQ (ak hsz rfl rfl (aj (bu rfl trivial dz ae)) (.inl rfl) (fun _=>rfl)) ?_;refine rP ?_;refine rC ?_;refine rO ?_;refine rQ iG ?_;refine rO ?_;refine rQ iT ?_;refine rQ iF ?_;refine rC ?_;refine rP ?_;refine rC ?_;refine rP ?_;refine rC ?_;refine rP ?_;refine rC ?_;refine rP ?_;refine rC ?_;refine rQ iG ?_;refine rC ?_;refine rO ?_;refine rC ?_;refine rO ?_;refine rC ?_;refine rO ?_;refine rC ?_;refine rO ?_;refine rC ?_;refine rO ?_;refine rC ?_;refine rO ?_;refine rC ?_;refine rP ?_;refine rQ iM ?_;refine rP ?_;refine rQ iS ?_;refine rP ?_;refine rQ (ak hsz rfl rfl (bu rfl trivial jW (bu rfl trivial dz ae)) (.inl rfl) (fun _=>rfl)) ?_;refine rP ?_;refine rC ?_;refine rO ?_;refine rQ iG ?_;refine rO ?_;refine rQ iT ?_;refine rQ iF ?_;refine zJ<|kS<|qR ?_;refine rC ?_;refine zG<|kS ?_
     refine lm (env':=envR i false) (h':=iW c (p0::rest) bs (zS0)) 300 [(64,some 64),(65,some 65),(66,some 220)] (lg ⟨zE,rfl,zE,rfl,zE,rfl,zE,rfl,⟨_,rfl,AVLe.of_eq (by rw[g4]; rfl)⟩,rfl,trivial⟩ ⟨⟨rfl,rfl,_,rfl,aE.box_d bE⟩,⟨rfl,rfl,_,rfl,aE.box_d bE⟩,zR,trivial⟩) (gi c (p0::rest) bs zS0 i hBd (by omega))
    ·have g3:decide ((0:Int)≤i)=false:=dF hi0
     refine sR<|rQ iM ?_;refine rC ?_;refine rQ (ak hcb rfl rfl (bu rfl trivial bE (aj ae)) (.inl rfl) (fun _=>rfl)) ?_;refine zU ?_;refine rN ?_;refine rW ?_;refine rC<|nR ?_;refine rQ iM ?_;refine rC ?_;refine rQ (ak hwb rfl rfl (bu rfl trivial bE (aj ae)) (.inl rfl) (fun _=>rfl)) ?_;refine zU ?_;refine rN ?_;refine rW ?_;refine rC<|nQ ?_;refine aH (by kernel_rfl) ?_;refine dC [1] [] ?_;refine dC [37] [] ?_;refine dC [38] [] ?_;refine ab [39,1] [] rfl rfl (by assumption) rfl (ay aa (fun K hk=>hk)) ?_;refine ab [39,7] [] rfl rfl (by assumption) rfl (ay aa (fun K hk=>hk)) ?_;refine ab [39,41] [64] rfl rfl (by assumption) rfl (aq.val_le (cI aa rfl rfl ⟨_,rfl,rfl⟩ rfl) DLe.re rfl) ?_;refine ab [39,42] [] rfl rfl (by assumption) rfl (dM aa rfl rfl) ?_;refine ab [39,40,43] [] rfl rfl (by assumption) rfl (ay aa (fun K hk=>hk)) ?_;refine dQ [39,44] [] iT ?_;refine dC [2] [] ?_;refine dC [46] [] ?_;refine dC [47] [] ?_;refine ai [48,2] rfl rfl (by assumption) rfl ?_;refine ai [48,7] rfl rfl (by assumption) rfl ?_;refine ai [48,50] rfl rfl (by assumption) rfl ?_;refine ai [48,51] rfl rfl (by assumption) rfl ?_;refine ai [48,49,52] rfl rfl (by assumption) rfl ?_;refine dQ [48,53] [] iF ?_;refine dC [45] [] ?_;refine dC [54] [] ?_;refine aC (by kernel_rfl)<|aU<|qR ?_;iterate 5 refine rC ?_
     refine rO ?_;refine rC ?_;refine rO ?_;refine rC ?_;refine rO ?_;refine rC ?_;refine rO ?_;refine rC ?_;refine rO ?_;refine rC ?_;refine rO ?_;refine rC ?_;refine rP ?_;refine rQ iM ?_;refine rP ?_;refine rQ iS ?_;refine rP ?_;refine rQ (ak hsz rfl rfl (aj (bu rfl trivial dz ae)) (.inl rfl) (fun _=>rfl)) ?_;refine rP ?_;refine rC ?_;refine rO ?_;refine rQ iG ?_;refine rO ?_;refine rQ iT ?_;refine rQ iF ?_;refine rC ?_;refine rP ?_;refine rC ?_;refine rP ?_;refine rC ?_;refine rP ?_;refine rC ?_;refine rP ?_;refine rC ?_;refine rQ iG ?_;refine rC ?_;refine rP ?_;refine rC ?_;refine rP ?_;refine rC ?_;refine rP ?_;refine rC ?_;refine rP ?_;refine rC ?_;refine rP ?_;refine rC ?_;refine rP ?_;refine rC ?_;refine rP ?_;refine rQ iM ?_;refine rP ?_;refine rQ iS ?_;refine rP ?_;refine rQ (ak hsz rfl rfl (bu rfl trivial jW (bu rfl trivial dz ae)) (.inl rfl) (fun _=>rfl)) ?_;refine rP ?_;refine rC ?_;refine rP ?_;refine rQ iG ?_;refine rP ?_;refine rQ iU ?_;refine rQ iG ?_;refine zJ<|kS<|qR ?_;refine rC ?_;refine zG<|kS ?_
     refine lm (env':=envR i false) (h':=iW c (p0::rest) bs (zS0)) 300 [(64,some 64),(65,some 65),(66,some 220)] (lg ⟨zE,rfl,zE,rfl,zE,rfl,zE,rfl,⟨_,rfl,AVLe.of_eq (rfl)⟩,rfl,trivial⟩ ⟨⟨rfl,rfl,_,rfl,aE.box_d bE⟩,⟨rfl,rfl,_,rfl,aE.box_d bE⟩,zR,trivial⟩) (gi c (p0::rest) bs zS0 i hBd (by omega))
  ·have g1:decide ((0:Int)≤n)=false:=dF hn0
   by_cases hf:0≤i∧i<bs.length
   ·obtain⟨j,rfl⟩:∃j:Nat,i=j:=⟨i.toNat,by omega⟩
    have hj:j<bs.length:=by omega
    have hwx:=nN S c p0 rest bs j hj (by omega) (by omega) hpm hbm
    have g3:decide ((0:Int)≤(j:Int))=true:=dT (by omega)
    have g4:decide ((j:Int)<(bs.length:Int))=true:=dT (by omega)
    have q3:(decide ((0:Int)=0) !=decide ((j:Int)<(bs.length:Int)))=false:=by rw[g4]; rfl
    have q4:(!decide ((j:Int)<(bs.length:Int)))=false:=by rw[g4]; rfl
    refine sR<|rQ iM ?_;refine rC ?_;refine rQ (ak hcb rfl rfl (bu rfl trivial bE (aj ae)) (.inl rfl) (fun _=>rfl)) ?_;refine zU ?_;refine rN ?_;refine rW ?_;refine rC<|nR ?_;refine rQ iM ?_;refine rC ?_;refine aJ (aO [(0,some 66)] hwx rfl rfl rfl (bu rfl trivial bE (aj ae)) ⟨zH,trivial⟩ rfl rfl (.inl rfl) rfl rfl) rfl ?_;refine zU ?_;refine rN ?_;refine rW ?_;refine rC<|nQ ?_;refine aH (by kernel_rfl) ?_;refine dC [1] [] ?_;refine dC [37] [] ?_;refine dC [38] [] ?_;refine ai [39,1] rfl rfl (by assumption) rfl ?_;refine ai [39,7] rfl rfl (by assumption) rfl ?_;refine ai [39,41] rfl rfl (by assumption) rfl ?_;refine ai [39,42] rfl rfl (by assumption) rfl ?_;refine ai [39,40,43] rfl rfl (by assumption) rfl ?_;refine dQ [39,44] [] iF ?_;refine dC [2] [] ?_;refine dC [46] [] ?_;refine dC [47] [] ?_;refine ab [48,2] [] rfl rfl rfl rfl (ay aa (fun K hk=>hk)) ?_;refine ab [48,7] [] rfl rfl rfl rfl (ay aa (fun K hk=>hk)) ?_;refine ab [48,50] [64] rfl rfl rfl rfl (aq.val_le (cI aa rfl rfl ⟨_,rfl,rfl⟩ rfl) DLe.re rfl) ?_;refine ab [48,51] [] rfl rfl rfl rfl (dM aa rfl rfl) ?_;refine ab [48,49,52] [] rfl rfl rfl rfl (ay aa (fun K hk=>hk)) ?_;refine dQ [48,53] [] iU ?_;refine dC [45] [] ?_;refine dC [54] [] ?_;refine aC (by kernel_rfl)<|aU<|qR ?_;iterate 5 refine rC ?_
    refine rP ?_;refine rC ?_;refine rP ?_;refine rC ?_;refine rP ?_;refine rC ?_;refine rP ?_;refine rC ?_;refine rP ?_;refine rC ?_;refine rP ?_;refine rC ?_;refine rP ?_;refine rQ iM ?_;refine rP ?_;refine rQ iS ?_;refine rP ?_;refine rQ (ak hsz rfl rfl (aj (bu rfl trivial dz ae)) (.inl rfl) (fun _=>rfl)) ?_;refine rP ?_;refine rC ?_;refine rP ?_;refine rQ iG ?_;refine rP ?_;refine rQ iU ?_;refine rQ iG ?_;refine rC ?_;refine rP ?_;refine rC ?_;refine rP ?_;refine rC ?_;refine rP ?_;refine rC ?_;refine rP ?_;refine rC ?_;refine rQ iG ?_;refine rC ?_;refine rO ?_;refine rC ?_;refine rO ?_;refine rC ?_;refine rO ?_;refine rC ?_;iterate 3 refine rS ?_
    iterate 4 refine rU ?_
    refine rS ?_;refine rO ?_;iterate 2 refine rQ iF ?_
    refine zJ<|kS<|qR ?_;refine rC ?_;refine zJ<|kS ?_
    refine lm (env':=envR j true) (h':=iW c (p0::rest) bs (scrX c (p0::rest) (woA j bs))) 300 [(64,some 64),(65,some 65),(66,some 220)] (lg ⟨zE,rfl,zE,rfl,zE,rfl,zE,rfl,⟨_,rfl,AVLe.of_eq (by rw[g4]; rfl)⟩,rfl,trivial⟩ ⟨⟨rfl,rfl,_,rfl,aE.box_d bE⟩,⟨rfl,rfl,_,rfl,aE.box_d bE⟩,zR,trivial⟩) (j0 c (p0::rest) bs j hj hBd (by omega) h0 hcw)
   ·have hwb:=je c (p0::rest) bs i (by omega)
    by_cases hi0:0≤i
    ·have g3:decide ((0:Int)≤i)=true:=dT hi0
     have g4:decide (i<(bs.length:Int))=false:=dF (by omega)
     have q3:(decide ((1:Int)=0) !=decide (i<(bs.length:Int)))=false:=by rw[g4]; rfl
     have q4:(!decide (i<(bs.length:Int)))=true:=by rw[g4]; rfl
     refine sR<|rQ iM ?_;refine rC ?_;refine rQ (ak hcb rfl rfl (bu rfl trivial bE (aj ae)) (.inl rfl) (fun _=>rfl)) ?_;refine zU ?_;refine rN ?_;refine rW ?_;refine rC<|nR ?_;refine rQ iM ?_;refine rC ?_;refine rQ (ak hwb rfl rfl (bu rfl trivial bE (aj ae)) (.inl rfl) (fun _=>rfl)) ?_;refine zU ?_;refine rN ?_;refine rW ?_;refine rC<|nQ ?_;refine aH (by kernel_rfl) ?_;refine dC [1] [] ?_;refine dC [37] [] ?_;refine dC [38] [] ?_;refine ai [39,1] rfl rfl (by assumption) rfl ?_;refine ai [39,7] rfl rfl (by assumption) rfl ?_;refine ai [39,41] rfl rfl (by assumption) rfl ?_;refine ai [39,42] rfl rfl (by assumption) rfl ?_;refine ai [39,40,43] rfl rfl (by assumption) rfl ?_;refine dQ [39,44] [] iF ?_;refine dC [2] [] ?_;refine dC [46] [] ?_;refine dC [47] [] ?_;refine ab [48,2] [] rfl rfl (by assumption) rfl (ay aa (fun K hk=>hk)) ?_;refine ab [48,7] [] rfl rfl (by assumption) rfl (ay aa (fun K hk=>hk)) ?_;refine ab [48,50] [64] rfl rfl (by assumption) rfl (aq.val_le (cI aa rfl rfl ⟨_,rfl,rfl⟩ rfl) DLe.re rfl) ?_;refine ab [48,51] [] rfl rfl (by assumption) rfl (dM aa rfl rfl) ?_;refine ab [48,49,52] [] rfl rfl (by assumption) rfl (ay aa (fun K hk=>hk)) ?_;refine dQ [48,53] [] iT ?_;refine dC [45] [] ?_;refine dC [54] [] ?_;refine aC (by kernel_rfl)<|aU<|qR ?_;iterate 5 refine rC ?_
     refine rP ?_;refine rC ?_;refine rP ?_;refine rC ?_;refine rP ?_;refine rC ?_;refine rP ?_;refine rC ?_;refine rP ?_;refine rC ?_;refine rP ?_;refine rC ?_;refine rP ?_;refine rQ iM ?_;refine rP ?_;refine rQ iS ?_;refine rP ?_;refine rQ (ak hsz rfl rfl (aj (bu rfl trivial dz ae)) (.inl rfl) (fun _=>rfl)) ?_;refine rP ?_;refine rC ?_;refine rP ?_;refine rQ iG ?_;refine rP ?_;refine rQ iU ?_;refine rQ iG ?_;refine rC ?_;refine rP ?_;refine rC ?_;refine rP ?_;refine rC ?_;refine rP ?_;refine rC ?_;refine rP ?_;refine rC ?_;refine rQ iG ?_;refine rC ?_;refine rO ?_;refine rC ?_;refine rO ?_;refine rC ?_;refine rO ?_;refine rC ?_;refine rO ?_;refine rC ?_;refine rO ?_;refine rC ?_;refine rO ?_;refine rC ?_;refine rP ?_;refine rQ iM ?_;refine rP ?_;refine rQ iS ?_;refine rP ?_;refine rQ (ak hsz rfl rfl (bu rfl trivial jW (bu rfl trivial dz ae)) (.inl rfl) (fun _=>rfl)) ?_;refine rP ?_;refine rC ?_;refine rO ?_;refine rQ iG ?_;refine rO ?_;refine rQ iT ?_;refine rQ iF ?_;refine zJ<|kS<|qR ?_;refine rC ?_;refine zJ<|kS ?_
     refine lm (env':=envR i false) (h':=iW c (p0::rest) bs (zS0)) 300 [(64,some 64),(65,some 65),(66,some 220)] (lg ⟨zE,rfl,zE,rfl,zE,rfl,zE,rfl,⟨_,rfl,AVLe.of_eq (by rw[g4]; rfl)⟩,rfl,trivial⟩ ⟨⟨rfl,rfl,_,rfl,aE.box_d bE⟩,⟨rfl,rfl,_,rfl,aE.box_d bE⟩,zR,trivial⟩) (gi c (p0::rest) bs zS0 i hBd (by omega))
    ·have g3:decide ((0:Int)≤i)=false:=dF hi0
     refine sR<|rQ iM ?_;refine rC ?_;refine rQ (ak hcb rfl rfl (bu rfl trivial bE (aj ae)) (.inl rfl) (fun _=>rfl)) ?_;refine zU ?_;refine rN ?_;refine rW ?_;refine rC<|nR ?_;refine rQ iM ?_;refine rC ?_;refine rQ (ak hwb rfl rfl (bu rfl trivial bE (aj ae)) (.inl rfl) (fun _=>rfl)) ?_;refine zU ?_;refine rN ?_;refine rW ?_;refine rC<|nQ ?_;refine aH (by kernel_rfl) ?_;refine dC [1] [] ?_;refine dC [37] [] ?_;refine dC [38] [] ?_;refine ai [39,1] rfl rfl (by assumption) rfl ?_;refine ai [39,7] rfl rfl (by assumption) rfl ?_;refine ai [39,41] rfl rfl (by assumption) rfl ?_;refine ai [39,42] rfl rfl (by assumption) rfl ?_;refine ai [39,40,43] rfl rfl (by assumption) rfl ?_;refine dQ [39,44] [] iF ?_;refine dC [2] [] ?_;refine dC [46] [] ?_;refine dC [47] [] ?_;refine ai [48,2] rfl rfl (by assumption) rfl ?_;refine ai [48,7] rfl rfl (by assumption) rfl ?_;refine ai [48,50] rfl rfl (by assumption) rfl ?_;refine ai [48,51] rfl rfl (by assumption) rfl ?_;refine ai [48,49,52] rfl rfl (by assumption) rfl ?_;refine dQ [48,53] [] iF ?_;refine dC [45] [] ?_;refine dC [54] [] ?_;refine aC (by kernel_rfl)<|aU<|qR ?_;iterate 5 refine rC ?_
     refine rP ?_;refine rC ?_;refine rP ?_;refine rC ?_;refine rP ?_;refine rC ?_;refine rP ?_;refine rC ?_;refine rP ?_;refine rC ?_;refine rP ?_;refine rC ?_;refine rP ?_;refine rQ iM ?_;refine rP ?_;refine rQ iS ?_;refine rP ?_;refine rQ (ak hsz rfl rfl (aj (bu rfl trivial dz ae)) (.inl rfl) (fun _=>rfl)) ?_;refine rP ?_;refine rC ?_;refine rP ?_;refine rQ iG ?_;refine rP ?_;refine rQ iU ?_;refine rQ iG ?_;refine rC ?_;refine rP ?_;refine rC ?_;refine rP ?_;refine rC ?_;refine rP ?_;refine rC ?_;refine rP ?_;refine rC ?_;refine rQ iG ?_;refine rC ?_;refine rP ?_;refine rC ?_;refine rP ?_;refine rC ?_;refine rP ?_;refine rC ?_;refine rP ?_;refine rC ?_;refine rP ?_;refine rC ?_;refine rP ?_;refine rC ?_;refine rP ?_;refine rQ iM ?_;refine rP ?_;refine rQ iS ?_;refine rP ?_;refine rQ (ak hsz rfl rfl (bu rfl trivial jW (bu rfl trivial dz ae)) (.inl rfl) (fun _=>rfl)) ?_;refine rP ?_;refine rC ?_;refine rP ?_;refine rQ iG ?_;refine rP ?_;refine rQ iU ?_;refine rQ iG ?_;refine zJ<|kS<|qR ?_;refine rC ?_;refine zJ<|kS ?_
     refine lm (env':=envR i false) (h':=iW c (p0::rest) bs (zS0)) 300 [(64,some 64),(65,some 65),(66,some 220)] (lg ⟨zE,rfl,zE,rfl,zE,rfl,zE,rfl,⟨_,rfl,AVLe.of_eq (rfl)⟩,rfl,trivial⟩ ⟨⟨rfl,rfl,_,rfl,aE.box_d bE⟩,⟨rfl,rfl,_,rfl,aE.box_d bE⟩,zR,trivial⟩) (gi c (p0::rest) bs zS0 i hBd (by omega))
end Go.Proofs.YtpmhnpnmpjimnaaGreatDoor
namespace Go.Proofs.YtpmhnpnmpjimnaaGreatDoor
open Go.Eng Go.Plain
set_option maxHeartbeats 32000000
set_option maxRecDepth 20000
theorem uL {a:Int} (h:(Lit.int .u8 a).wf=true):0≤a∧a≤255:=by
 simp[Lit.wf,IntKind.min,IntKind.max,IntKind.bits,IntKind.signed]at h
 omega
def toB (l:List Int):List UInt8:=l.map fun z=>z.toNat.toUInt8
theorem wO {l:List Int} (h:∀a∈l,(Lit.int .u8 a).wf=true):byI (toB l)=l:=by
 rw[byI,toB,List.map_map]
 have:∀a∈l,((fun b:UInt8=>(b.toNat:Int)) ∘ fun z:Int=>z.toNat.toUInt8) a=a:=fun a ha=>by
  obtain⟨h1,h2⟩:=uL (h a ha)
  simp only[Function.comp_apply,Nat.toUInt8_eq,UInt8.toNat_ofNat']
  omega
 rw[List.map_congr_left this,List.map_id'']
 exact fun _=>rfl
theorem pb:ef Tryz.prog 46 1 (fun l:List UInt8=>encB l) fun _=>True :=
 ef.map (fM (P:=Tryz.prog) Tryz.underlying46 (by kernel_rfl) (cf (P:=Tryz.prog) Tryz.underlying5))
  toB (fun l h=>by show D.arr 1 bp (byI (toB l))=_; rw[wO h.2]; rfl) (fun _ _=>trivial)
abbrev encS3 (s:SScr):D:=bB s.1 s.2.1 s.2.2
abbrev encIs (l:List Int):D :=.arr 1 i6 l
theorem dJ {a:Int} (h:(Lit.int .u8 a).wf=true):((a.toNat.toUInt8.toNat:Nat):Int)=a:=by
 obtain⟨h1,h2⟩:=uL h
 simp only[Nat.toUInt8_eq,UInt8.toNat_ofNat']
 omega
theorem xk:ef Tryz.prog 119 3 encQ fun _=>True :=
 ef.map (ei (P:=Tryz.prog) Tryz.underlying119 (by kernel_rfl) (fun _=>rfl) (bC rfl (by kernel_rfl) (cf (P:=Tryz.prog) Tryz.underlying5) (bC rfl (by kernel_rfl) (cf (P:=Tryz.prog) Tryz.underlying5) (bC rfl (by kernel_rfl) (cf (P:=Tryz.prog) Tryz.underlying5) fx))))
  (fun q=>⟨q.1.toNat.toUInt8,q.2.1.toNat.toUInt8,q.2.2.1.toNat.toUInt8⟩) (fun q h=>by simp only[encQ,dJ h.1,dJ h.2.1,dJ h.2.2.1]) (fun _ _=>trivial)
theorem vd:ef Tryz.prog 24 1 kD fun _=>True :=
 ef.map (ei (P:=Tryz.prog) Tryz.underlying24 (by kernel_rfl) (fun _=>rfl) (bC rfl (by kernel_rfl)
  (fM (P:=Tryz.prog) Tryz.underlying22 (by kernel_rfl) (fM (P:=Tryz.prog) Tryz.underlying117 (by kernel_rfl) xk)) fx))
  (fun q=>q.1) (fun _ _=>rfl) (fun _ _=>trivial)
abbrev yg (q:CX×List (List PQ)):D:=me q.1 (kD q.2)
theorem ve:ef Tryz.prog 26 8 yg fun _=>True :=
 ef.map (ei (P:=Tryz.prog) Tryz.underlying26 (by kernel_rfl) (fun _=>rfl) (bC rfl (by kernel_rfl) (cf (P:=Tryz.prog) Tryz.underlying5) (bC rfl (by kernel_rfl) (cf (P:=Tryz.prog) Tryz.underlying5) (bC rfl (by kernel_rfl) (cf (P:=Tryz.prog) Tryz.underlying5) (bC rfl (by kernel_rfl) (cf (P:=Tryz.prog) Tryz.underlying5) (bC rfl (by kernel_rfl) (cf (P:=Tryz.prog) Tryz.underlying5) (bC rfl (by kernel_rfl) (cf (P:=Tryz.prog) Tryz.underlying5) (bC rfl (by kernel_rfl) (cf (P:=Tryz.prog) Tryz.underlying5) (bC rfl (by kernel_rfl) vd fx)))))))))
  (fun q=>(⟨q.1.toNat.toUInt8,q.2.1.toNat.toUInt8,q.2.2.1.toNat.toUInt8,q.2.2.2.1.toNat.toUInt8,q.2.2.2.2.1.toNat.toUInt8,q.2.2.2.2.2.1.toNat.toUInt8,q.2.2.2.2.2.2.1.toNat.toUInt8⟩,q.2.2.2.2.2.2.2.1)) (fun q h=>by simp only[yg,me,dJ h.1,dJ h.2.1,dJ h.2.2.1,dJ h.2.2.2.1,dJ h.2.2.2.2.1,dJ h.2.2.2.2.2.1,dJ h.2.2.2.2.2.2.1]) (fun _ _=>trivial)
theorem vc:ef Tryz.prog 60 4 sp fun _=>True :=
 ef.map (ei (P:=Tryz.prog) Tryz.underlying60 (by kernel_rfl) (fun _=>rfl) (bC rfl (by kernel_rfl) (cf (P:=Tryz.prog) Tryz.underlying5) (bC rfl (by kernel_rfl) (cf (P:=Tryz.prog) Tryz.underlying5) (bC rfl (by kernel_rfl) (cf (P:=Tryz.prog) Tryz.underlying5) (bC rfl (by kernel_rfl) pb fx)))))
  (fun q=>⟨q.1.toNat.toUInt8,q.2.1.toNat.toUInt8,q.2.2.1.toNat.toUInt8,q.2.2.2.1⟩) (fun q h=>by simp only[sp,dJ h.1,dJ h.2.1,dJ h.2.2.1]) (fun _ _=>trivial)
abbrev ye (q:(CX×List (List PQ))×List XA):D:=pE q.1.1 q.1.2 q.2
theorem vb:ef Tryz.prog 29 9 ye fun _=>True :=
 ef.map (ei (P:=Tryz.prog) Tryz.underlying29 (by kernel_rfl) (fun _=>rfl) (bC rfl (by kernel_rfl) ve (bC rfl (by kernel_rfl)
  (fM (P:=Tryz.prog) Tryz.underlying27 (by kernel_rfl) vc) fx)))
  (fun q=>(q.1,q.2.1)) (fun _ _=>rfl) (fun _ _=>trivial)
end Go.Proofs.YtpmhnpnmpjimnaaGreatDoor
