/- Texts of the proof: Y44, YO. -/
import Derived.Test.YtkehohfgbblokaaG07
import Derived.Test.YtkehohfgbblokaaG02

set_option linter.unusedVariables false
set_option linter.unusedSimpArgs false
set_option linter.unusedSectionVars false

namespace Go.Proofs.Ytkehohfgbblokaa
open Go.Eng Go.Plain
set_option maxHeartbeats 32000000
set_option maxRecDepth 20000
attribute [local irreducible] WC RegS RegD SeqQ BlkQ ScoQ RegK CutK Sat SatN FnIs LoopQ ak OpIs
abbrev zL (l:List HEv):Row :=.ds 63 38 false bU l
theorem kU (x:List XE) (n:UInt8) (N:Nat) (h:List HEv) (l:List HOp) (B1 B2:Bool) (hN:N=1+n.toNat % 4) (hlen:h.length≤24) (hol:l.length≤24) (hof:FnIs Try.prog 17 [.d (lb x)] [] (.d (encH h)) []) (hop:FnIs Try.prog 26 [.d (encH h)] [] (.d (fo l)) [])
  (hrest:0<h.length→x.length≤16→(∀(i:Nat) (y:HEv),h[i]?=some y→l.any (outB i)=remE y (h.drop (i+1)))∧(B1=true→B2=true)∧FnIs Try.prog 22 [.d (encH h),.int .i64 N,.int .i64 1048576] [] (.tup (.acons (.bool B1) (.acons (.int .i64 0) .anil))) []∧FnIs Try.prog 22 [.d (encH (h.take (h.length-1))),.int .i64 N,.int .i64 1048576] [] (.tup (.acons (.bool B2) (.acons (.int .i64 0) .anil))) []∧FnIs Try.prog 22 [.d (encH (filt h)),.int .i64 N,.int .i64 1048576] [] (.tup (.acons (.bool B1) (.acons (.int .i64 0) .anil))) []) :
  FnIs Try.prog 7 [.d (lb x),.int .u8 (n.toNat:Nat)] [] (.bool true) []:=by
 have hm4:n.toNat % 4<4:=Nat.mod_lt _ (by decide)
 have hwc:IntKind.i64.wrap ((n.toNat % 4:Nat):Int)=((n.toNat % 4:Nat):Int):=bh (by omega) (by omega)
 have hwa:IntKind.i64.wrap (1+((n.toNat % 4:Nat):Int))=(N:Int):=by rw[bh (by omega) (by omega)]; omega
 refine aH aa Try.func7 rfl rfl rfl ?_
 cases hc:(decide ((16:Int)<x.length)||decide ((h.length:Int)=0)) with
 | true =>
  refine sR<|rN ?_;refine rC<|nR ?_;refine rQ iM ?_;refine rQ (aE hof rfl rfl (am aj) (.inl rfl) (fun _=>rfl)) ?_;refine rC ?_;refine rQ (cm (a:=n.toNat) (b:=4) aa rfl rfl rfl (by decide)) ?_;refine rQ (cM (m:=((n.toNat % 4:Nat):Int)) aa rfl rfl rfl hwc) ?_;refine rQ (eb (m:=(N:Int)) aa rfl rfl hwa) ?_;refine zD ?_
  refine nQ ?_;refine mY 32 (.bool (decide ((16:Int)<x.length)||decide ((h.length:Int)=0))) _ rfl ?_ ?_
  ·refine rC ?_;refine rQ iB ?_;refine rQ iE ?_;refine zD ?_
   refine oL rfl rfl rfl (fun hb=>?_) (fun hb=>?_)
   refine rO ?_;refine rC ?_;refine rO ?_;refine rQ iE ?_;refine rO ?_;refine rC ?_;refine rQ iF ?_
   rotate_left
   iterate 3 refine rS ?_
   refine rQ iT ?_
   rotate_left
   all_goals refine tK 9 rfl rfl rfl rfl rfl rfl rfl rfl rfl (AVLe.of_eq ?_)
   all_goals (first | rfl | (clear q5; simp_all; done) | (simp_all; done) | (simp_all; omega))
  refine wT<|sR ?_;refine rQ (aE nE rfl rfl aj (.inl rfl) (fun _=>rfl)) ?_;refine rC<|zT<|bX ?_
  exact⟨trivial,[],lf⟩
 | false =>
 rw[Bool.or_eq_false_iff]at hc
 have hc1:=of_decide_eq_false hc.1
 have hc2:=of_decide_eq_false hc.2
 have hcc:(decide ((16:Int)<x.length)||decide ((h.length:Int)=0))=false:=by rw[hc.1,hc.2]; rfl
 clear hc
 obtain⟨hout,himp,hl1,hl2,hl3⟩:=hrest (by omega) (by omega)
 rw[show h.length-1=((h.length:Int)-1).toNat by omega]at hl2
 refine sR<|rN ?_;refine rC<|nR ?_;refine rQ iM ?_;refine rQ (aE hof rfl rfl (am aj) (.inl rfl) (fun _=>rfl)) ?_;refine rC ?_;refine rQ (cm (a:=n.toNat) (b:=4) aa rfl rfl rfl (by decide)) ?_;refine rQ (cM (m:=((n.toNat % 4:Nat):Int)) aa rfl rfl rfl hwc) ?_;refine rQ (eb (m:=(N:Int)) aa rfl rfl hwa) ?_;refine zD ?_
 refine nQ ?_;refine mY 32 (.bool (decide ((16:Int)<x.length)||decide ((h.length:Int)=0))) _ rfl ?_ ?_
 ·refine rC ?_;refine rQ iB ?_;refine rQ iE ?_;refine zD ?_
  refine oL rfl rfl rfl (fun hb=>?_) (fun hb=>?_)
  refine rO ?_;refine rC ?_;refine rO ?_;refine rQ iE ?_;refine rO ?_;refine rC ?_;refine rQ iF ?_
  rotate_left
  iterate 3 refine rS ?_
  refine rQ iT ?_
  rotate_left
  all_goals refine tK 9 rfl rfl rfl rfl rfl rfl rfl rfl rfl (AVLe.of_eq ?_)
  all_goals (first | rfl | (clear q5; simp_all; done) | (simp_all; done) | (simp_all; omega))
 refine wF<|kS<|sR ?_;refine zD ?_;refine rQ (aE hl1 rfl rfl (am (am (am aj))) (.inl rfl) (fun _=>rfl)) ?_;iterate 5 refine rC ?_
 refine nR<|zD ?_;refine rQ iE ?_;refine rQ (dh aa rfl rfl (bh (by omega) (by omega))) ?_;refine rQ (qy (m:=(h.length:Int)-1) aa rfl rfl rfl rfl (by omega) (by omega)) ?_;refine rC ?_;refine rQ (aE hl2 rfl rfl (am (am (am aj))) (.inl rfl) (fun _=>rfl)) ?_;iterate 5 refine rC ?_
 refine nR<|rC ?_;refine rQ (aE hop rfl rfl (am aj) (.inl rfl) (fun _=>rfl)) ?_;refine rC<|nR ?_;refine rC<|zW ?_;refine rC<|zP ?_
 refine wc_inv (fun q:Nat×List HEv=>⟨[(13,.int .i64 q.1),(12,.own 65 0 q.2.length 38 none),(11,.d (fo l)),(10,.int .i64 0),(9,.bool B2),(8,.int .i64 0),(7,.bool B1),(6,.int .i64 N),(5,.d (encH h))],[(65,some (zL q.2))],72,Try.f7.ntmps,64⟩) (fun q=>q.1≤h.length∧q.2.length≤q.1∧q.2=eA (h.take q.1) (h.drop q.1)) (fun q=>h.length-q.1) (0,[]) [(65,none)] ⟨Nat.zero_le _,Nat.zero_le _,by rw[List.take_zero]; rfl⟩
  (lg zd ⟨⟨rfl,rfl,rfl⟩,trivial⟩) ?_
 rintro⟨i,r⟩ ⟨hi,hrl0,hr⟩
 simp only at hi hrl0 hr
 refine cj ?_
 by_cases hlt:i<h.length
 ·have d1:decide ((i:Int)<(h.length:Int))=true:=dT (by omega)
  obtain⟨y,hx⟩:∃x,h[i]?=some x:=⟨_,List.getElem?_eq_getElem hlt⟩
  have hx2:h[((i:Int)).toNat]?=some y:=by rw[Int.toNat_natCast]; exact hx
  have hrl:r.length+1≤1048576:=by omega
  have hstep:eA (h.take (i+1)) (h.drop (i+1))=r++if l.any (outB i) then[] else[y]:=by
   have:h.drop i=y::h.drop (i+1):=by rw[List.drop_eq_getElem_cons hlt,(List.getElem?_eq_some_iff.1 hx).2]
   rw[List.take_add_one,hx,Option.toList_some,iJ,←this,←hr,hout i y hx]
  refine qR<|zD ?_;refine rQ iE ?_;refine rC ?_;refine zI<|zQ<|zS ?_;refine rC<|zW ?_;refine rC<|zP ?_
  refine wc_inv (fun q:Nat×Bool=>⟨[(15,.int .i64 q.1),(14,.bool q.2),(13,.int .i64 i),(12,.own 65 0 r.length 38 none),(11,.d (fo l)),(10,.int .i64 0),(9,.bool B2),(8,.int .i64 0),(7,.bool B1),(6,.int .i64 N),(5,.d (encH h))],[(65,some (zL r))],72,Try.f7.ntmps,64⟩) (fun q=>q.1≤l.length∧(q.2||(l.drop q.1).any (outB i))=l.any (outB i)) (fun q=>l.length-q.1) (0,false) [(65,some 65)] ⟨Nat.zero_le _,rfl⟩
   (lg zb ⟨zR,trivial⟩) ?_
  rintro⟨k,b⟩ ⟨hk,hb⟩
  simp only at hk hb
  refine cj ?_
  by_cases hlt2:k<l.length
  ·have d2:decide ((k:Int)<(l.length:Int))=true:=dT (by omega)
   obtain⟨o,ho⟩:∃x,l[k]?=some x:=⟨_,List.getElem?_eq_getElem hlt2⟩
   have ho2:l[((k:Int)).toNat]?=some o:=by rw[Int.toNat_natCast]; exact ho
   have hb2:((b||outB i o)||(l.drop (k+1)).any (outB i))=l.any (outB i):=by
    rw[List.drop_eq_getElem_cons hlt2,(List.getElem?_eq_some_iff.1 ho).2,List.any_cons,←Bool.or_assoc]at hb
    exact hb
   clear hb hout hstep hr himp
   refine qR<|zD ?_;refine rQ iE ?_;refine rC ?_;refine zI<|zQ<|bQ<|ae ?_;refine zD ?_
   cases b with
   | true =>
    iterate 7 refine rT ?_
    iterate 14 refine rU ?_
    iterate 2 refine rT ?_
    iterate 16 refine rU ?_
    refine rT ?_;refine rQ iU ?_;refine rC<|aq<|zC<|ae ?_;refine rC ?_;refine rQ iD ?_;refine rC<|aq ?_
    exact aJ (k+1,true) [(65,some 65)] ⟨hlt2,by rw[←hb2]; simp⟩ (by show l.length-(k+1)<l.length-k; omega) (lg zb ⟨zR,trivial⟩)
   | false =>
   refine rP ?_;refine rC ?_;refine rP ?_;refine rC ?_;refine rP ?_;refine rQ (aA aa rfl rfl rfl rfl rfl (by omega) ho2) ?_;refine rP ?_;refine rC ?_;refine rP ?_;refine rQ iL ?_;refine rP ?_;refine rC ?_;refine rP ?_;refine rC ?_
   cases c1:decide (o.returned≥0) with
   | false =>
    have hv:outB i o=false:=by rw[outB,c1]; rfl
    iterate 7 refine rT ?_
    iterate 6 refine rU ?_
    refine rT ?_;refine rP ?_;refine rQ iG ?_;refine rP ?_;refine rC ?_;iterate 8 refine rT ?_
    iterate 7 refine rU ?_
    refine rT ?_;refine rP ?_;iterate 2 refine rQ iG ?_
    refine rC<|aq<|zC<|ae ?_;refine rC ?_;refine rQ iD ?_;refine rC<|aq ?_
    exact aJ (k+1,false) [(65,some 65)] ⟨hlt2,by rw[←hb2,hv]; simp⟩ (by show l.length-(k+1)<l.length-k; omega) (lg zb ⟨zR,trivial⟩)
   | true =>
   refine rP ?_;refine rC ?_;refine rP ?_;refine rC ?_;refine rP ?_;refine rQ (aA aa rfl rfl rfl rfl rfl (by omega) ho2) ?_;refine rP ?_;refine rC ?_;refine rP ?_;refine rQ iL ?_;refine rP ?_;refine rC ?_;refine rP ?_;refine rC ?_
   cases c2:decide (o.err=1) with
   | true =>
    iterate 6 refine rT ?_
    refine rP ?_;refine rQ iU ?_;refine rP ?_;refine rQ iU ?_;refine rP ?_;refine rC ?_;refine rP ?_;refine rC ?_;refine rP ?_;refine rC ?_;refine rP ?_;refine rQ (aA aa rfl rfl rfl rfl rfl (by omega) ho2) ?_;refine rP ?_;refine rC ?_;refine rP ?_;refine rQ iL ?_;refine rP ?_;refine rC ?_;refine rP ?_;refine rC ?_;refine rP ?_;refine rC ?_
    cases c4:decide (o.invoked=(i:Int)) with
    | true =>
     have hv:outB i o=true:=by rw[outB,c1,c2,c4]; rfl
     iterate 7 refine rT ?_
     refine rP ?_;refine rQ iU ?_;refine rP ?_;refine rQ iU ?_;refine rQ iG ?_;refine rC<|aq<|zC<|ae ?_;refine rC ?_;refine rQ iD ?_;refine rC<|aq ?_
     exact aJ (k+1,true) [(65,some 65)] ⟨hlt2,by rw[←hb2,hv]; simp⟩ (by show l.length-(k+1)<l.length-k; omega) (lg zb ⟨zR,trivial⟩)
    | false =>
    refine rP ?_;refine rC ?_;refine rP ?_;refine rC ?_;refine rP ?_;refine rQ (aA aa rfl rfl rfl rfl rfl (by omega) ho2) ?_;refine rP ?_;refine rC ?_;refine rP ?_;refine rQ iL ?_;refine rP ?_;refine rC ?_;refine rP ?_;refine rC ?_;refine rP ?_;refine rQ iG ?_;refine rP ?_;refine rQ iU ?_;refine rQ iG ?_;refine rC<|aq<|zC<|ae ?_;refine rC ?_;refine rQ iD ?_;refine rC<|aq ?_
    cases c5:decide (o.returned=(i:Int)) with
    | true =>
     have hv:outB i o=true:=by rw[outB,c1,c2,c4,c5]; rfl
     skip
     exact aJ (k+1,true) [(65,some 65)] ⟨hlt2,by rw[←hb2,hv]; simp⟩ (by show l.length-(k+1)<l.length-k; omega) (lg zb ⟨zR,trivial⟩)
    | false =>
     have hv:outB i o=false:=by rw[outB,c1,c2,c4,c5]; rfl
     skip
     exact aJ (k+1,false) [(65,some 65)] ⟨hlt2,by rw[←hb2,hv]; simp⟩ (by show l.length-(k+1)<l.length-k; omega) (lg zb ⟨zR,trivial⟩)
   | false =>
   refine rP ?_;refine rC ?_;refine rP ?_;refine rC ?_;refine rP ?_;refine rQ (aA aa rfl rfl rfl rfl rfl (by omega) ho2) ?_;refine rP ?_;refine rC ?_;refine rP ?_;refine rQ iL ?_;refine rP ?_;refine rC ?_;refine rP ?_;refine rQ iG ?_;refine rP ?_;refine rQ iU ?_;refine rP ?_;refine rC ?_
   cases c3:decide (o.err=8) with
   | true =>
    refine rP ?_;refine rC ?_;refine rP ?_;refine rC ?_;refine rP ?_;refine rQ (aA aa rfl rfl rfl rfl rfl (by omega) ho2) ?_;refine rP ?_;refine rC ?_;refine rP ?_;refine rQ iL ?_;refine rP ?_;refine rC ?_;refine rP ?_;refine rC ?_;refine rP ?_;refine rC ?_
    cases c4:decide (o.invoked=(i:Int)) with
    | true =>
     have hv:outB i o=true:=by rw[outB,c1,c2,c3,c4]; rfl
     iterate 7 refine rT ?_
     refine rP ?_;refine rQ iU ?_;refine rP ?_;refine rQ iU ?_;refine rQ iG ?_;refine rC<|aq<|zC<|ae ?_;refine rC ?_;refine rQ iD ?_;refine rC<|aq ?_
     exact aJ (k+1,true) [(65,some 65)] ⟨hlt2,by rw[←hb2,hv]; simp⟩ (by show l.length-(k+1)<l.length-k; omega) (lg zb ⟨zR,trivial⟩)
    | false =>
    refine rP ?_;refine rC ?_;refine rP ?_;refine rC ?_;refine rP ?_;refine rQ (aA aa rfl rfl rfl rfl rfl (by omega) ho2) ?_;refine rP ?_;refine rC ?_;refine rP ?_;refine rQ iL ?_;refine rP ?_;refine rC ?_;refine rP ?_;refine rC ?_;refine rP ?_;refine rQ iG ?_;refine rP ?_;refine rQ iU ?_;refine rQ iG ?_;refine rC<|aq<|zC<|ae ?_;refine rC ?_;refine rQ iD ?_;refine rC<|aq ?_
    cases c5:decide (o.returned=(i:Int)) with
    | true =>
     have hv:outB i o=true:=by rw[outB,c1,c2,c3,c4,c5]; rfl
     skip
     exact aJ (k+1,true) [(65,some 65)] ⟨hlt2,by rw[←hb2,hv]; simp⟩ (by show l.length-(k+1)<l.length-k; omega) (lg zb ⟨zR,trivial⟩)
    | false =>
     have hv:outB i o=false:=by rw[outB,c1,c2,c3,c4,c5]; rfl
     skip
     exact aJ (k+1,false) [(65,some 65)] ⟨hlt2,by rw[←hb2,hv]; simp⟩ (by show l.length-(k+1)<l.length-k; omega) (lg zb ⟨zR,trivial⟩)
   | false =>
    have hv:outB i o=false:=by rw[outB,c1,c2,c3]; rfl
    iterate 8 refine rT ?_
    iterate 7 refine rU ?_
    refine rT ?_;refine rP ?_;iterate 2 refine rQ iG ?_
    refine rC<|aq<|zC<|ae ?_;refine rC ?_;refine rQ iD ?_;refine rC<|aq ?_
    exact aJ (k+1,false) [(65,some 65)] ⟨hlt2,by rw[←hb2,hv]; simp⟩ (by show l.length-(k+1)<l.length-k; omega) (lg zb ⟨zR,trivial⟩)
  ·have d2:decide ((k:Int)<(l.length:Int))=false:=dF (by omega)
   rw[List.drop_eq_nil_of_le (by omega),List.any_nil,Bool.or_false]at hb
   cases b with
   | true =>
    rw[←hb,if_pos rfl,List.append_nil]at hstep
    refine qR<|zD ?_;refine rQ iE ?_;refine rC ?_;refine zG<|zX<|sR ?_;refine zD ?_;refine zJ<|aS<|zC<|ae ?_;refine rC ?_;refine rQ iD ?_;refine rC<|aq ?_
    exact aJ (i+1,r) [(65,some 65)] ⟨hlt,by simp only; omega,hstep.symm⟩ (by show h.length-(i+1)<h.length-i; omega) (lg zd ⟨zR,trivial⟩)
   | false =>
    rw[←hb,if_neg Bool.false_ne_true]at hstep
    have hl4:r.length+1=(r++[y]).length:=by simp
    refine qR<|zD ?_;refine rQ iE ?_;refine rC ?_;refine zG<|zX<|sR ?_;refine zD ?_;refine zO<|ae ?_;refine zU ?_;refine rQ (aA aa rfl rfl rfl rfl rfl (by omega) hx2) ?_;refine rQ iL ?_;refine aX (ay (s:=38) aa rfl rfl rfl rfl rfl rfl rfl rfl) rfl ?_;refine aP (aR (enc:=bU) (s:=38) (xs:=r) aa y rfl rfl rfl rfl rfl rfl rfl rfl rfl hrl rfl) rfl ?_;refine rC<|aq<|gJ<|aK<|ae ?_;refine rC ?_;refine rQ iD ?_;refine rC<|aq ?_
    exact aJ (i+1,r++[y]) [(65,some _)] ⟨hlt,by simp; omega,hstep.symm⟩ (by show h.length-(i+1)<h.length-i; omega) (lg ⟨zE,rfl,⟨_,rfl,ownl hl4⟩,rfl,zE,rfl,zE,rfl,zE,rfl,zE,rfl,zE,rfl,zE,rfl,zE,rfl,trivial⟩ ⟨zR,trivial⟩)
 ·have d1:decide ((i:Int)<(h.length:Int))=false:=dF (by omega)
  obtain rfl:i=h.length:=by omega
  rw[List.take_length,List.drop_length,lQ]at hr
  rw[←hr]at hl3
  refine qR<|zD ?_;refine rQ iE ?_;refine rC ?_;refine zG<|zX ?_;refine eu (env':=[(12,_),(6,_),(7,_),(8,_),(9,_),(10,_)]) (h':=[]) 65 _ rfl ⟨⟨_,rfl,Frz.own rfl⟩,zE,zE,zE,zE,zE,trivial⟩ trivial ?_
  have hee:(B1==B1)=true:=by simp
  cases B1 with
  | true =>
   have hB2:=himp rfl
   subst hB2
   refine sR<|zD ?_;refine rQ (aE hl3 rfl rfl (am (am (am aj))) (.inl rfl) (fun _=>rfl)) ?_;iterate 5 refine rC ?_
   refine nR<|zU ?_;refine rP ?_;refine rC ?_;refine rP ?_;refine rC ?_;refine rQ iU ?_;refine rC ?_;refine rP ?_;refine rC ?_;refine rP ?_;refine rC ?_;refine rQ iU ?_;refine rC ?_;refine rP ?_;refine rC ?_;refine rP ?_;refine rC ?_;refine rP ?_;refine rC ?_;refine rP ?_;refine rC ?_;refine rP ?_;refine rQ iG ?_;refine rQ iU ?_;refine rC ?_;refine rP ?_;refine rC ?_;refine rP ?_;refine rC ?_;refine rP ?_;refine rC ?_;refine rQ iU ?_;refine rC ?_;refine rP ?_;refine rQ (aE nE rfl rfl aj (.inl rfl) (fun _=>rfl)) ?_;refine rQ iU ?_;refine rC<|zT ?_
   exact⟨trivial,[],lf⟩
  | false =>
   refine sR<|zD ?_;refine rQ (aE hl3 rfl rfl (am (am (am aj))) (.inl rfl) (fun _=>rfl)) ?_;iterate 5 refine rC ?_
   refine nR<|zU ?_;refine rP ?_;refine rC ?_;refine rP ?_;refine rC ?_;refine rQ iU ?_;refine rC ?_;refine rP ?_;refine rC ?_;refine rP ?_;refine rC ?_;refine rQ iU ?_;refine rC ?_;refine rP ?_;refine rC ?_;refine rP ?_;refine rC ?_;refine rP ?_;refine rC ?_;refine rT ?_;refine rP ?_;iterate 2 refine rQ iU ?_
   refine rC ?_;refine rP ?_;refine rC ?_;refine rP ?_;refine rC ?_;refine rP ?_;refine rC ?_;refine rQ iU ?_;refine rC ?_;refine rP ?_;refine rQ (aE nE rfl rfl aj (.inl rfl) (fun _=>rfl)) ?_;refine rQ iU ?_;refine rC<|zT ?_
   exact⟨trivial,[],lf⟩
theorem uJ {h:List HEv} (h0:0<h.length):∃y,h=h.take (h.length-1)++[y]:=by
 have hlt:h.length-1<h.length:=by omega
 refine⟨h[h.length-1],?_⟩
 have:=List.take_append_drop (h.length-1) h
 rw[List.drop_eq_getElem_cons hlt,List.drop_of_length_le (by omega)]at this
 exact this.symm
theorem lz.cut {h:List HEv} (H:lz h) (k:Nat):lz (h.take k):=
 ⟨H.fit.take k,fun x hx=>H.cl x (List.mem_of_mem_take hx),by have:=H.len; rw[List.length_take]; omega⟩
theorem je {h:List HEv} (H:lz h) {b:Nat} (h0:1≤b) (h1:b≤4096):∃B,FnIs Try.prog 22 [.d (encH h),.int .i64 b,.int .i64 1048576] [] (.tup (.acons (.bool B) (.acons (.int .i64 0) .anil))) []∧(B=true↔EndT (opsR h) (br h) (bu b)):=by
 obtain⟨hR,hF,_,_,hE⟩:=H.go h0 h1
 have:=rc hR
 rw[hF]at this
 exact⟨_,this,hE⟩
theorem vj (x:List XE) (n:UInt8):FnIs Try.prog 7 [.d (lb x),.int .u8 (n.toNat:Nat)] [] (.bool true) []:=by
 have hm4:n.toNat % 4<4:=Nat.mod_lt _ (by decide)
 have hh:=yI x
 have hol:=qS (hOf x)
 have hof:=yH x
 have hop:=yg (hOf x) (by omega)
 by_cases hx:x.length≤16
 ·have H:=vu hx
  have H2:=s9 H
  have H1:=H.cut ((hOf x).length-1)
  obtain⟨B1,f1,e1⟩:=je H (b:=1+n.toNat % 4) (by omega) (by omega)
  obtain⟨B2,f2,e2⟩:=je H1 (b:=1+n.toNat % 4) (by omega) (by omega)
  obtain⟨B3,f3,e3⟩:=je H2 (b:=1+n.toNat % 4) (by omega) (by omega)
  have h31:B3=B1:=by rw[Bool.eq_iff_iff,e3,e1,←s2 H.fit]
  rw[h31]at f3
  refine kU x n _ (hOf x) (opsR (hOf x)) B1 B2 rfl hh (by omega) hof hop fun h0 _=>⟨fun i y hy=>yp H.fit hy,fun hB=>?_,f1,f2,f3⟩
  rw[e2]
  rw[e1]at hB
  obtain⟨y,hy⟩:=uJ h0
  have hA:=H.fit
  rw[hy]at hB hA
  exact vh hA hB
 ·exact kU x n _ (hOf x) (opsR (hOf x)) true true rfl hh (by omega) hof hop fun _ h=>absurd h hx
end Go.Proofs.Ytkehohfgbblokaa
namespace Go.Proofs.Ytkehohfgbblokaa
open Go.Eng Go.Plain
set_option maxHeartbeats 32000000
set_option maxRecDepth 20000
theorem Ai {a:Int} (h:(Lit.int .u8 a).wf=true):0≤a∧a≤255:=by
 simp[Lit.wf,IntKind.min,IntKind.max,IntKind.bits,IntKind.signed]at h
 omega
def toB (l:List Int):List UInt8:=l.map fun z=>z.toNat.toUInt8
theorem mH {a:Int} (h:(Lit.int .u8 a).wf=true):((a.toNat.toUInt8.toNat:Nat):Int)=a:=by
 obtain⟨h1,h2⟩:=Ai h
 simp only[Nat.toUInt8_eq,UInt8.toNat_ofNat']
 omega
theorem yr:jb Try.prog 74 3 ul fun _=>True :=
 jb.map (kQ (P:=Try.prog) Try.underlying74 (by kernel_rfl) (fun _=>rfl) (gw rfl (by kernel_rfl) (jE (P:=Try.prog) Try.underlying5) (gw rfl (by kernel_rfl) (jE (P:=Try.prog) Try.underlying5) (gw rfl (by kernel_rfl) (jE (P:=Try.prog) Try.underlying5) nz))))
  (fun q=>⟨q.1.toNat.toUInt8,q.2.1.toNat.toUInt8,q.2.2.1.toNat.toUInt8⟩) (fun q h=>by simp only[ul,mH h.1,mH h.2.1,mH h.2.2.1]) (fun _ _=>trivial)
theorem wP:jb Try.prog 38 1 lb fun _=>True :=
 jb.map (kQ (P:=Try.prog) Try.underlying38 (by kernel_rfl) (fun _=>rfl) (gw rfl (by kernel_rfl)
  (qT (P:=Try.prog) Try.underlying36 (by kernel_rfl) yr) nz))
  (fun q=>q.1) (fun _ _=>rfl) (fun _ _=>trivial)
end Go.Proofs.Ytkehohfgbblokaa
