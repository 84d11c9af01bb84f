/- Texts of the proof: Eng69, Eng70, Eng71, PT, PP, PP2, PR, PTab, PDat, PL, Eng72, Eng73, P3, P4, Eng74, P5, PU, P6, PW, P7, P9, P10, P11, Eng75, P12, Eng76, P13, P1, P2, P8, Eng77, P14, PX, P15, P16, P17, P18, P21, P22, P23, HDat, P24, P19, P20, P25, P26, P27, P28, PY, P29, P30, Eng78, P31, P32, P33, P34, PZ, P35, P36, P37, P42, Eng80, Eng81, Eng82, P43, PM, PN, P40, P41, PV0, P44, Eng86, Eng83, Eng84, Eng85, H1, H2, H3, H4, H5, HR, H6, H7, H8, H9, H10, H11, H14, H15, H16, H17, HT. -/
import Derived.Test.YtkehohfgbblokaaG02
import Derived.Lib.AppendStr
import Derived.Lib.DecodeN
import Derived.Lib.ItoaMem
import Derived.Lib.ParseIntB
import Derived.Lib.ParseIntBCases
import Derived.Test.YtkehohfgbblokaaChecked
import Derived.Test.YtkehohfgbblokaaG01
import Derived.KernelRfl
import Derived.Lib.Split
import Derived.Lib.CountLaws
import Derived.Lib.CutLaws
import Derived.Lib.IndexBytes
import Derived.Lib.SmallJoins
import Derived.Lib.IndexLaws
import Derived.Sort.Row
import Derived.Sort.Grow
import Derived.Lib.SlicesCompact

set_option linter.unusedVariables false
set_option linter.unusedSimpArgs false
set_option linter.unusedSectionVars false

namespace Go.Eng
open Go.RowKit
section
variable {P : Program} {T : Tab} {env : Env} {h : Upds} {n : Nat}
theorem s3 {κ:Type} [DecidableEq κ] {σ:aF} {w w1:World} {X:Nat→Prop} {f:κ→Value} {kt m:Nat} {ds:TypeDesc} (hm:m≤10000) (hu:P.underlying kt=some ds) (he:∀a b,EqOk P m kt (.sc (f a)) (.sc (f b)) (decide (a=b)))
  (hs:∀a b,Instr.sameNow ds (f a) (f b)=some (decide (a=b))) {k:κ} {u:Value} (hk:RelV σ w X (.d (.sc (f k))) u) :
  ∀(l:List (κ×AV)) (es:List MapEntry) (i:Nat),bK σ w X (fun k=>.sc (f k)) l es→∃r,Instr.findNow ds u es i=some r∧(Instr.findAsking kt u es i).run P w1=.ok r w1
 | [],es,i,h=>by
  rw[show es=[] from h]
  exact⟨none,rfl,by simp[Instr.findAsking]⟩
 | (k',v)::l,es,i,h=>by
  obtain⟨e,es',rfl,h1,h2,h3⟩:=h
  have e1:=(RelV.sc.1 hk).1
  have e2:=(RelV.sc.1 h1).1
  have heq:=he k k' σ w1 X u e.key (10000-m) (RelV.sc.2 (RelV.sc.1 hk)) (RelV.sc.2 (RelV.sc.1 h1))
  rw[show 10000-m+m=10000 by omega]at heq
  have hsn:Instr.sameNow ds u e.key=some (decide (k=k')):=by rw[e1,e2]; exact hs k k'
  by_cases hkk:k=k'
  ·rw[decide_eq_true hkk]at heq hsn
   exact⟨some (i,e.val),by simp only[Instr.findNow,hsn],by simp[Instr.findAsking,Op.equal,Op.maxDepth,heq]⟩
  ·rw[decide_eq_false hkk]at heq hsn
   obtain⟨r,g1,g2⟩:=s3 hm hu he hs hk l es' (i+1) h3
   exact⟨r,by simp only[Instr.findNow,hsn]; exact g1,by simp only[Instr.findAsking,Op.equal,Op.maxDepth,Sem.run_bind,heq,Result.andThen_ok]; simpa using g2⟩
theorem vR {κ:Type} [DecidableEq κ] {f:κ→Value} {kt m:Nat} {ds:TypeDesc} (hm:m≤10000) (hu:P.underlying kt=some ds) (ho:∀k,jr P m kt (.sc (f k))) (he:∀a b,EqOk P m kt (.sc (f a)) (.sc (f b)) (decide (a=b)))
  (hs:∀a b,Instr.sameNow ds (f a) (f b)=some (decide (a=b))) (hb:∀k n,Instr.sameBits n (f k) (f k)=true):ea P kt (fun k=>.sc (f k)) m :=
 ⟨hm,ho,he,fun σ w w1 X k u l es hk hl=>by
  obtain⟨r,g1,g2⟩:=s3 (w1:=w1) hm hu he hs hk l es 0 hl
  simp only[Instr.findKey,Sem.run_bind,run_underlying hu,Result.andThen_ok,g1,Sem.run_pure,g2],fun k=>hb k⟩
theorem tW {kt:Nat} {ki:IntKind} (hu:P.underlying kt=some (.int ki)) (k:IntKind):ea P kt (fun a:Int=>.sc (.int k a)) 1:=by
 refine vR (f:=fun a=>.int k a) (by decide) hu (fun a=>pp hu) (fun a b=>sh hu) (fun a b=>?_) (fun k n=>by cases n <;> simp[Instr.sameBits])
 show (if k=k then some (a==b) else none)=_
 rw[if_pos rfl,Bool.beq_eq_decide_eq]
theorem bM {t kt et:TypeId} {κ:Type} [DecidableEq κ] {enc:κ→D} {m r j:Nat} {x y:Operand} {k:κ} {l:List (κ×AV)} {v:AV} (K:ea P kt enc m) (ht:P.underlying t=some (.map kt et))
  (hx:aq env x=some (.mapr r)) (hy:aq env y=some (.d (enc k))) (hr:aT h r=some (.mo (mapC enc l))) (hf:cJ k l 0=some (j,v)) :
  aj P (.lookup t x y true) env h n (some (.tup (.acons v (.acons (.bool true) .anil)))) []:=.of_comes fun C G st σ w a o ho hA hd hst hn=>by
 have h1:=(au hst (hA.ev hx)).1
 have h2:=(au hst (hA.ev hy)).1
 have hrow:=hA.row _ _ hr
 obtain⟨b,c,hs,hux⟩:=RelV.mapr.1 h1
 obtain⟨b',es,hb1,hb2,hb3,hb4⟩:=hst.rows r _ hrow
 rw[hs]at hb2
 cases hb2
 have hl:=(bV l _).1 hb4
 have hfd:=K.found h2 hl
 rw[hf]at hfd
 obtain⟨e,e1,e2,e3,e4,e5⟩:=hfd
 refine .quiet (u :=.tuple #[e.val,.bool true]) hst hd ⟨rfl,rfl⟩ ?_ ?_ ?_
 ·have hget:(getObj b).run P w=.ok (.map es es.size) w:=by simp[getObj,Sem.run,hb3]
  simp only[execOp,ho,Instr.lookup,Sem.run_bind,run_underlying ht,Result.andThen_ok,hux,hget,Sem.run_pure,K.check h2,e1]
  rfl
 ·unfold RelV
  rw[if_neg (by simp[AV.isAgg])]
  exact⟨[e.val,.bool true],rfl,e.val,[.bool true],rfl,e4,.bool true,[],rfl,RelV.sc.2 ⟨rfl,rfl⟩,rfl⟩
 ·exact⟨(cg l).1 (hst.rowsG r _ hrow).2 (k,v) (List.mem_of_getElem? e5),trivial,trivial⟩
theorem cb {t kt et:TypeId} {κ:Type} [DecidableEq κ] {enc:κ→D} {m r:Nat} {x y:Operand} {k:κ} {l:List (κ×AV)} {d:D} (K:ea P kt enc m) (ht:P.underlying t=some (.map kt et)) (hz:eJ P et d)
  (hx:aq env x=some (.mapr r)) (hy:aq env y=some (.d (enc k))) (hr:aT h r=some (.mo (mapC enc l))) (hf:cJ k l 0=none) :
  aj P (.lookup t x y true) env h n (some (.tup (.acons (.d d) (.acons (.bool false) .anil)))) []:=.of_comes fun C G st σ w a o ho hA hd hst hn=>by
 have h1:=(au hst (hA.ev hx)).1
 have h2:=(au hst (hA.ev hy)).1
 have hrow:=hA.row _ _ hr
 obtain⟨b,c,hs,hux⟩:=RelV.mapr.1 h1
 obtain⟨b',es,hb1,hb2,hb3,hb4⟩:=hst.rows r _ hrow
 rw[hs]at hb2
 cases hb2
 have hl:=(bV l _).1 hb4
 have hfd:=K.found h2 hl
 rw[hf]at hfd
 obtain⟨z,hz,hzr⟩:=hz.run
 refine .quiet (u :=.tuple #[z,.bool false]) hst hd ⟨rfl,rfl⟩ ?_ ?_ ⟨trivial,trivial,trivial⟩
 ·have hget:(getObj b).run P w=.ok (.map es es.size) w:=by simp[getObj,Sem.run,hb3]
  simp only[execOp,ho,Instr.lookup,Sem.run_bind,run_underlying ht,Result.andThen_ok,hux,hget,Sem.run_pure,K.check h2,hfd,hz]
  rfl
 ·unfold RelV
  rw[if_neg (by simp[AV.isAgg])]
  exact⟨[z,.bool false],rfl,z,[.bool false],rfl,hzr _ _ _,.bool false,[],rfl,RelV.sc.2 ⟨rfl,rfl⟩,rfl⟩
theorem bX {t kt et:TypeId} {κ:Type} [DecidableEq κ] {enc:κ→D} {m r:Nat} {x y z:Operand} {k:κ} {l:List (κ×AV)} {v:AV} (K:ea P kt enc m) (ht:P.underlying t=some (.map kt et))
  (hx:aq env x=some (.mapr r)) (hy:aq env y=some (.d (enc k))) (hz:aq env z=some v) (hr:aT h r=some (.mo (mapC enc l))) (hf:cJ k l 0=none) :
  aj P (.mapUpdate t x y z) env h n none [(r,some (.mo (mapC enc (l++[(k,v)]))))]:=.of_comes fun C G st σ w a o ho hA hd hst hn=>by
 have h1:=(au hst (hA.ev hx)).1
 have h2:=(au hst (hA.ev hy)).1
 obtain⟨h3,h4⟩:=au hst (hA.ev hz)
 have hrow:=hA.row _ _ hr
 obtain⟨b,c,hs,hux⟩:=RelV.mapr.1 h1
 obtain⟨b',es,hb1,hb2,hb3,hb4⟩:=hst.rows r _ hrow
 rw[hs]at hb2
 cases hb2
 have hl:=(bV l _).1 hb4
 have hin:(mapC enc l).within G:=(hst.rowsG r _ hrow).2
 have hfd:=K.found h2 hl
 rw[hf]at hfd
 have hst':=hst.writeObj (o' :=.map (es.push { key:=a.eval y,val:=a.eval z,born:=es.size }) (es.size+1)) (row :=.mo (mapC enc (l++[(k,v)]))) hrow hs hb3 rfl
  ((cg _).2 fun p hp=>by
   rcases List.mem_append.1 hp with hp | hp
   ·exact (cg l).1 hin p hp
   ·rw[List.mem_singleton.1 hp]; exact h4)
  (fun w' ht' hh'=>⟨b,es.push { key:=a.eval y,val:=a.eval z,born:=es.size },fun i e he=>by
   rw[Array.getElem?_push]at he
   split at he
   ·rename_i hi; subst hi; cases he; rfl
   ·exact hb1 i e he,hs,by rw[Array.size_push]; exact hh',(bV _ _).2 (by
    rw[Array.toList_push]
    exact bK.snoc (RelV.carry (G:=G) ht' trivial h2) (RelV.carry (G:=G) ht' h4 h3) l _ (bK.mono ht' hin hl))⟩)
 refine⟨none,_,.skip,undef, { w with heap:=w.heap.setIfInBounds b (.map (es.push { key:=a.eval y,val:=a.eval z,born:=es.size }) (es.size+1)) },σ,G,⟨rfl,rfl⟩,?_,.inr ⟨rfl,rfl⟩,?_,fun _ h=>h,fun _ h=>.inl h⟩
 ·have hget:(getObj b).run P w=.ok (.map es es.size) w:=by simp[getObj,Sem.run,hb3]
  have hset:=jW P w b (.map (es.push { key:=a.eval y,val:=a.eval z,born:=es.size }) (es.size+1)) hb3
  simp only[execOp,ho,Instr.mapUpdate,hux,Sem.run_bind,run_underlying ht,hget,Result.andThen_ok,K.check h2,hfd,hset,Sem.run_pure]
 ·rw[St.put_upd]
  exact hst'.set hd (v:=none) (ec _ _ _) trivial
theorem bK.put2 {κ:Type} {enc:κ→D} {σ:aF} {w:World} {X:Nat→Prop} {v:AV} {u uk:Value} (hv:RelV σ w X v u):∀(l:List (κ×AV)) (es:List MapEntry) (j:Nat),(∀q,l[j]?=some q→RelV σ w X (.d (enc q.1)) uk)→bK σ w X enc l es→bK σ w X enc (putC l j v) (es.modify j fun e => { e with key:=uk,val:=u })
 | [],es,j,_,h=>by
  rw[show es=[] from h]
  cases j <;> exact rfl
 | (k',v')::l,es,0,hk,h=>by
  obtain⟨e',es',rfl,h1,h2,h3⟩:=h
  exact⟨{ e' with key:=uk,val:=u },es',rfl,hk _ rfl,hv,h3⟩
 | (k',v')::l,es,j+1,hk,h=>by
  obtain⟨e',es',rfl,h1,h2,h3⟩:=h
  exact⟨e',es'.modify j _,rfl,h1,h2,bK.put2 hv l es' j (fun q hq=>hk q (by simpa using hq)) h3⟩
theorem qa {κ:Type} {v:AV}:∀(l:List (κ×AV)) (j:Nat) (p:κ×AV),p∈putC l j v→p.2=v∨∃q∈l,q.2=p.2
 | [],j,p,hp=>by simp[putC]at hp
 | q::l,0,p,hp=>by
  simp only[putC,List.mem_cons]at hp
  rcases hp with hp | hp
  ·exact .inl (by rw[hp])
  ·exact .inr ⟨p,by simp[hp],rfl⟩
 | q::l,j+1,p,hp=>by
  simp only[putC,List.mem_cons]at hp
  rcases hp with hp | hp
  ·exact .inr ⟨q,by simp,by rw[hp]⟩
  ·rcases qa l j p hp with h | ⟨q',h5,h6⟩
   ·exact .inl h
   ·exact .inr ⟨q',by simp[h5],h6⟩
theorem fD {t kt et:TypeId} {κ:Type} [DecidableEq κ] {enc:κ→D} {m r j:Nat} {x y z:Operand} {k:κ} {l:List (κ×AV)} {v v0:AV} (K:ea P kt enc m) (ht:P.underlying t=some (.map kt et))
  (hx:aq env x=some (.mapr r)) (hy:aq env y=some (.d (enc k))) (hz:aq env z=some v) (hr:aT h r=some (.mo (mapC enc l))) (hf:cJ k l 0=some (j,v0)) :
  aj P (.mapUpdate t x y z) env h n none [(r,some (.mo (mapC enc (putC l j v))))]:=.of_comes fun C G st σ w a o ho hA hd hst hn=>by
 have h1:=(au hst (hA.ev hx)).1
 have h2:=(au hst (hA.ev hy)).1
 obtain⟨h3,h4⟩:=au hst (hA.ev hz)
 have hrow:=hA.row _ _ hr
 obtain⟨b,c,hs,hux⟩:=RelV.mapr.1 h1
 obtain⟨b',es,hb1,hb2,hb3,hb4⟩:=hst.rows r _ hrow
 rw[hs]at hb2
 cases hb2
 have hl:=(bV l _).1 hb4
 have hin:(mapC enc l).within G:=(hst.rowsG r _ hrow).2
 have hfd:=K.found h2 hl
 rw[hf]at hfd
 obtain⟨e,e1,e2,e3,e4,e5⟩:=hfd
 have hej:es[j]?=some e:=by simpa using e2
 have hks:(Instr.keyThatStays e.key (a.eval y)).run P w=.ok (a.eval y) w:=(tV (P:=P) (w1:=w) (K.keyd k) e3 h2).1
 have hst':=hst.writeObj (o' :=.map (es.modify j fun e => { e with key:=a.eval y,val:=a.eval z }) (es.modify j fun e => { e with key:=a.eval y,val:=a.eval z }).size) (row :=.mo (mapC enc (putC l j v))) hrow hs hb3 rfl
  ((cg _).2 fun p hp=>by
   rcases qa l j p hp with h | ⟨q,h5,h6⟩
   ·rw[h]; exact h4
   ·rw[←h6]; exact (cg l).1 hin q h5)
  (fun w' ht' hh'=>⟨b,_,fun i e he=>by
   rw[Array.getElem?_modify]at he
   split at he
   ·cases hi:es[i]? with
    | none=>rw[hi]at he; cases he
    | some e0=>rw[hi]at he; cases he; exact hb1 i e0 hi
   ·exact hb1 i e he,hs,hh',(bV _ _).2 (by
    rw[Array.toList_modify]
    refine bK.put2 (RelV.carry (G:=G) ht' h4 h3) l _ j (fun q hq=>?_) (bK.mono ht' hin hl)
    rw[e5]at hq
    cases hq
    exact RelV.carry (G:=G) ht' trivial h2)⟩)
 refine⟨none,_,.skip,undef, { w with heap:=w.heap.setIfInBounds b (.map (es.modify j fun e => { e with key:=a.eval y,val:=a.eval z }) (es.modify j fun e => { e with key:=a.eval y,val:=a.eval z }).size) },σ,G,⟨rfl,rfl⟩,?_,.inr ⟨rfl,rfl⟩,?_,fun _ h=>h,fun _ h=>.inl h⟩
 ·have hget:(getObj b).run P w=.ok (.map es es.size) w:=by simp[getObj,Sem.run,hb3]
  have hset:=jW P w b (.map (es.modify j fun e => { e with key:=a.eval y,val:=a.eval z }) es.size) hb3
  simp only[execOp,ho,Instr.mapUpdate,hux,Sem.run_bind,run_underlying ht,hget,Result.andThen_ok,K.check h2,e1,hej,Option.map_some,Option.getD_some,hks,hset,Array.size_modify,Sem.run_pure]
 ·rw[St.put_upd]
  exact hst'.set hd (v:=none) (ec _ _ _) trivial
end
end Go.Eng
namespace Go.Eng
open Go.RowKit Go.Lib
section
variable {P : Program} {T : Tab} {env : Env} {h : Upds} {n : Nat}
end
end Go.Eng
namespace Go.Eng
open Go.RowKit
section
variable {P : Program} {T : Tab} {env : Env} {h : Upds} {n : Nat}
end
end Go.Eng
namespace Go.Plain
open Go.Eng Go.Lib
def oV:List UInt8→UInt8→List (List UInt8)
 | [],_=>[[]]
 | b::l,c=>if b=c then[]::oV l c else match oV l c with
  | []=>[[b]]
  | w::ws=>(b::w)::ws
def hexD:List UInt8:=[48,49,50,51,52,53,54,55,56,57,97,98,99,100,101,102]
def hexC (n:Nat):UInt8:=hexD.getD n 0
def hexB (b:UInt8):List UInt8:=[hexC (b.toNat/16),hexC (b.toNat % 16)]
def hexP (l:List UInt8):List UInt8:=if l=[] then[45] else l.flatMap hexB
def nibO (c:UInt8):Option Nat:=if 0≤indexByte hexD c then some (indexByte hexD c).toNat else none
def vy:List UInt8→Option (List UInt8)
 | []=>some []
 | [_]=>none
 | a::b::l=>match nibO a,nibO b,vy l with
  | some x,some y,some r=>some ((x*16+y).toUInt8::r)
  | _,_,_=>none
def oK (s:List UInt8):Option (List UInt8):=if s=[45] then some [] else if s=[] then none else vy s
/-! Numbers. -/
/-! Operations. -/
structure POp where
 kind:Int
 index:Int
 data:List UInt8
 deriving DecidableEq
structure POp.Ok (o:POp):Prop where
 kind:0≤o.kind∧o.kind≤255
 index : -9223372036854775808≤o.index∧o.index≤9223372036854775807
def u9:List UInt8:=[114,101,97,100]
def rz:List UInt8:=[119,114,105,116,101]
def rA:List UInt8:=[102,108,117,115,104]
def sOp:List UInt8:=[111,112]
def lZ:List UInt8:=[99,108,105,101,110,116]
def sT (o:POp):List UInt8 :=
 if o.kind=1∧o.data=[] then u9++32::itoa o.index
 else if o.kind=2 then rz++32::(itoa o.index++32::hexP o.data)
 else if o.kind=3∧o.index=0∧o.data=[] then rA
 else sOp++32::(itoa o.kind++32::(itoa o.index++32::hexP o.data))
def opF (k i d:List UInt8):Option POp:=match parseUintB 8 k,atoiAll i,oK d with
 | .ok k,.ok i,some d=>some ⟨k,i,d⟩
 | _,_,_=>none
def Bg (w:List (List UInt8)):Option POp:=match w with
 | []=>none
 | a::r=>if a=u9 then (match r with | [i]=>opF [49] i [45] | _=>none)
  else if a=rz then (match r with | [i,d]=>opF [50] i d | _=>none)
  else if a=rA then (match r with | []=>opF [51] [48] [45] | _=>none)
  else if a=sOp then (match r with | [k,i,d]=>opF k i d | _=>none)
  else none
def xY (t:List UInt8):Option POp:=match Bg (oV t 32) with
 | some o=>if sT o=t then some o else none
 | none=>none
def badP (p:List POp):Bool:=decide (64<p.length)||p.any fun o=>decide (64<o.data.length)
def chkP (l:List (List POp)):Int:=if 8<l.length then 3 else if l.any badP=true then 3 else 0
def pm (l:List (List POp)) (o:POp):List (List POp):=l.dropLast++[l.getLast?.getD []++[o]]
def addP (l:List (List POp)) (t:List UInt8):List (List POp)×Int :=
 if t=lZ then (if 8<l.length+1 then ([],3) else (l++[[]],0))
 else match xY t with
  | none=>([],5)
  | some o=>if l=[] then ([],5) else if 64<(l.getLast?.getD []).length+1∨64<o.data.length then ([],3) else (pm l o,0)
def cutL:List UInt8→UInt8→Option (List UInt8×List UInt8)
 | [],_=>none
 | b::l,c=>if b=c then some ([],l) else match cutL l c with
  | none=>none
  | some (p,q)=>some (b::p,q)
theorem oy:∀ {l:List UInt8} {c:UInt8} {p q:List UInt8},cutL l c=some (p,q)→l=p++c::q∧c ∉ p
 | [],_,_,_,h=>by cases h
 | b::l,c,p,q,h=>by
  simp only[cutL]at h
  split at h
  ·rename_i e
   cases h
   subst e
   exact⟨rfl,by simp⟩
  ·rename_i e
   split at h
   ·cases h
   ·rename_i p' q' h2
    cases h
    obtain⟨h3,h4⟩:=oy h2
    subst h3
    refine⟨rfl,?_⟩
    simp only[List.mem_cons,not_or]
    exact⟨Ne.symm e,h4⟩
def rI (s:List UInt8) (l:List (List POp)) (n:Nat):List (List POp)×Nat×Int :=
 if s=[] then (l,0,0) else
 match _h:cutL s 10 with
 | none=>([],n,5)
 | some (t,r)=>if (addP l t).2=0 then rI r (addP l t).1 (n+1) else ([],n,(addP l t).2)
termination_by s.length
decreasing_by
 have := (oy _h).1
 rw [this]
 simp
 omega
def pb:List (List UInt8)→Nat→List (List POp)→List (List POp)×Nat×Int
 | [],_,l=>(l,0,0)
 | [t],i,l=>if t=[] then (l,0,0) else ([],i+1,5)
 | t::u::ts,i,l=>if t=lZ then (if 0<chkP (l++[[]]) then ([],i+1,3) else pb (u::ts) (i+1) (l++[[]]))
  else match xY t with
   | none=>([],i+1,5)
   | some o=>if l=[] then ([],i+1,5) else if 0<chkP (pm l o) then ([],i+1,3) else pb (u::ts) (i+1) (pm l o)
def opsT (p:List POp):List UInt8:=p.flatMap fun o=>sT o++[10]
def A9 (l:List (List POp)):List UInt8:=l.flatMap fun p=>lZ++10::opsT p
def OkL (l:List (List POp)):Prop:=∀p∈l,∀o∈p,o.Ok
def xx (sg:Int) (acc:Int) (c:UInt8):Int:=IntKind.i64.wrap (IntKind.i64.wrap (acc*10)+IntKind.i64.wrap (sg*((c.toNat:Int)-48)))
def Bs (c:UInt8):Bool:=decide (48≤c.toNat)&&decide (c.toNat≤57)
def sgOf (s:List UInt8):Int:=if s.head?=some 45 then-1 else 1
def wn (s:List UInt8):List UInt8:=if s.head?=some 45 then s.tail else s
def intV (s:List UInt8):Int:=(wn s).foldl (xx (sgOf s)) 0
def intR (s:List UInt8):Option Int:=if 19<(wn s).length then none else if (wn s).all Bs=false then none else if itoa (intV s)=s then some (intV s) else none
def BQ (sg:Int) (acc:Int) (c:UInt8):Int:=acc*10+sg*((c.toNat:Int)-48)
def opR (k:Int) (i d:List UInt8):Option POp:=match intR i,oK d with
 | some i,some d=>some ⟨k,i,d⟩
 | _,_=>none
def Bq (k:List UInt8):Option Int:=match intR k with
 | some n=>if n<0∨255<n then none else some n
 | none=>none
def yf (w:List (List UInt8)):Option POp:=match w with
 | []=>none
 | a::r=>if a=u9∧r.length=1 then opR 1 (r.getD 0 []) [45]
  else if a=rz∧r.length=2 then opR 2 (r.getD 0 []) (r.getD 1 [])
  else if a=rA∧r.length=0 then opR 3 [48] [45]
  else if a=sOp∧r.length=3 then (match Bq (r.getD 0 []) with
   | some k=>opR k (r.getD 1 []) (r.getD 2 [])
   | none=>none)
  else none
def readR (s:List UInt8):Option POp:=match yf (oV s 32) with
 | some o=>if sT o=s then some o else none
 | none=>none
end Go.Plain
namespace Go.Proofs.Ytkehohfgbblokaa
open Go.Eng
theorem dF {p:Prop} [Decidable p] (h:¬p):decide p=false:=decide_eq_false h
theorem dT {p:Prop} [Decidable p] (h:p):decide p=true:=decide_eq_true h
abbrev u0:TyR := { desc :=.cell,size:=1,bytes:=8,zero :=.sc .nilFunc }
abbrev u1:TyR := { desc :=.cell,size:=1,bytes:=8,zero :=.sc (.map none) }
abbrev u2:TyR := { desc :=.cell,size:=1,bytes:=8,zero :=.sc (.pointer none) }
abbrev u3:TyR := { desc :=.struct [(0,5),(1,5),(2,5)],size:=3,bytes:=3,zero :=.cons (.sc (.int .u8 0)) (.cons (.sc (.int .u8 0)) (.cons (.sc (.int .u8 0)) (.nil))) }
abbrev u4:TyR := { desc :=.int .i64,size:=1,bytes:=8,zero :=.sc (.int .i64 0) }
abbrev u5:TyR := { desc :=.int .u8,size:=1,bytes:=1,zero :=.sc (.int .u8 0) }
section
variable {p : Prop}
theorem zM (h:p:=by exact⟨rfl,bn _,_,rfl,aO.of_eq (by simp only[Row.ren,ba])⟩):p:=h
theorem zN (h:p:=by exact⟨rfl,bn _,_,_,rfl,rfl,aO.of_eq (by simp only[Row.ren,ba])⟩):p:=h
theorem zK (h:p:=by exact⟨rfl,bn _,qm _,rfl⟩):p:=h
theorem zR (h:p:=by exact⟨rfl,rfl,_,rfl,.refl _⟩):p:=h
theorem zH (h:p:=by exact⟨rfl,rfl,_,_,rfl,rfl,.refl _⟩):p:=h
theorem zF (h:p:=by exact⟨rfl,_,rfl,FrzR.refl _⟩):p:=h
theorem zV (h:p:=by exact⟨⟨_,rfl,AVLe.of_eq rfl⟩,rfl,trivial⟩):p:=h
theorem za (h:p:=by exact⟨⟨_,rfl,.refl _⟩,rfl,⟨_,rfl,.refl _⟩,rfl,⟨_,rfl,.refl _⟩,rfl,⟨_,rfl,.refl _⟩,rfl,⟨_,rfl,.refl _⟩,rfl,⟨_,rfl,.refl _⟩,rfl,⟨_,rfl,.refl _⟩,rfl,⟨_,rfl,.refl _⟩,rfl,⟨_,rfl,.refl _⟩,rfl,⟨_,rfl,.refl _⟩,rfl,⟨_,rfl,.refl _⟩,rfl,⟨_,rfl,.refl _⟩,rfl,trivial⟩):p:=h
theorem zb (h:p:=by exact⟨⟨_,rfl,.refl _⟩,rfl,⟨_,rfl,.refl _⟩,rfl,⟨_,rfl,.refl _⟩,rfl,⟨_,rfl,.refl _⟩,rfl,⟨_,rfl,.refl _⟩,rfl,⟨_,rfl,.refl _⟩,rfl,⟨_,rfl,.refl _⟩,rfl,⟨_,rfl,.refl _⟩,rfl,⟨_,rfl,.refl _⟩,rfl,⟨_,rfl,.refl _⟩,rfl,⟨_,rfl,.refl _⟩,rfl,trivial⟩):p:=h
theorem zc (h:p:=by exact⟨⟨_,rfl,.refl _⟩,rfl,⟨_,rfl,.refl _⟩,rfl,⟨_,rfl,.refl _⟩,rfl,⟨_,rfl,.refl _⟩,rfl,⟨_,rfl,.refl _⟩,rfl,⟨_,rfl,.refl _⟩,rfl,⟨_,rfl,.refl _⟩,rfl,⟨_,rfl,.refl _⟩,rfl,⟨_,rfl,.refl _⟩,rfl,⟨_,rfl,.refl _⟩,rfl,trivial⟩):p:=h
theorem zd (h:p:=by exact⟨⟨_,rfl,.refl _⟩,rfl,⟨_,rfl,.refl _⟩,rfl,⟨_,rfl,.refl _⟩,rfl,⟨_,rfl,.refl _⟩,rfl,⟨_,rfl,.refl _⟩,rfl,⟨_,rfl,.refl _⟩,rfl,⟨_,rfl,.refl _⟩,rfl,⟨_,rfl,.refl _⟩,rfl,⟨_,rfl,.refl _⟩,rfl,trivial⟩):p:=h
theorem ze (h:p:=by exact⟨⟨_,rfl,.refl _⟩,rfl,⟨_,rfl,.refl _⟩,rfl,⟨_,rfl,.refl _⟩,rfl,⟨_,rfl,.refl _⟩,rfl,⟨_,rfl,.refl _⟩,rfl,⟨_,rfl,.refl _⟩,rfl,⟨_,rfl,.refl _⟩,rfl,⟨_,rfl,.refl _⟩,rfl,trivial⟩):p:=h
theorem zf (h:p:=by exact⟨⟨_,rfl,.refl _⟩,rfl,⟨_,rfl,.refl _⟩,rfl,⟨_,rfl,.refl _⟩,rfl,⟨_,rfl,.refl _⟩,rfl,⟨_,rfl,.refl _⟩,rfl,⟨_,rfl,.refl _⟩,rfl,⟨_,rfl,.refl _⟩,rfl,trivial⟩):p:=h
theorem zg (h:p:=by exact⟨⟨_,rfl,.refl _⟩,rfl,⟨_,rfl,.refl _⟩,rfl,⟨_,rfl,.refl _⟩,rfl,⟨_,rfl,.refl _⟩,rfl,⟨_,rfl,.refl _⟩,rfl,⟨_,rfl,.refl _⟩,rfl,trivial⟩):p:=h
theorem zh (h:p:=by exact⟨⟨_,rfl,.refl _⟩,rfl,⟨_,rfl,.refl _⟩,rfl,⟨_,rfl,.refl _⟩,rfl,⟨_,rfl,.refl _⟩,rfl,⟨_,rfl,.refl _⟩,rfl,trivial⟩):p:=h
theorem zi (h:p:=by exact⟨⟨_,rfl,.refl _⟩,rfl,⟨_,rfl,.refl _⟩,rfl,⟨_,rfl,.refl _⟩,rfl,⟨_,rfl,.refl _⟩,rfl,trivial⟩):p:=h
theorem zj (h:p:=by exact⟨⟨_,rfl,.refl _⟩,rfl,⟨_,rfl,.refl _⟩,rfl,⟨_,rfl,.refl _⟩,rfl,trivial⟩):p:=h
theorem zk (h:p:=by exact⟨⟨_,rfl,.refl _⟩,rfl,⟨_,rfl,.refl _⟩,rfl,trivial⟩):p:=h
theorem zl (h:p:=by exact⟨⟨_,rfl,.refl _⟩,rfl,trivial⟩):p:=h
theorem zE (h:p:=by exact⟨_,rfl,.refl _⟩):p:=h
end
theorem lg {l:bE} {st st':St} (h6:iO (rho l) st.env st'.next st'.env) (h7:fu (rho l) st st'.next st'.heap) (h1:ep (rho l) (aX st'.heap)=true:=by exact rfl) (h2:st'.sz=st.sz:=by exact rfl) (h3:st'.bs=st.bs:=by exact rfl) (h4:Nat.ble st'.bs st'.next=true:=by exact rfl) (h5:cL st'.bs l=true:=by exact rfl):Le l st st' :=.of h1 h2 h3 h4 h5 h6 h7
theorem mT {t:Nat} {r:TyR} {u:TypeDesc} (h3:Try.prog.underlying t=some u) (h1:(Try.prog.info? t).map (fun i=>(i.size,i.bytes,i.zero))=some (r.size,r.bytes,some (zval r.zero)):=by kernel_rfl) (h2:(r.zero.okC&&Nat.beq r.zero.size r.size)=true:=by kernel_rfl) (h4:ow Try.prog r.desc u=true:=by kernel_rfl) (h5:r.desc.isAgg=r.zero.isAgg:=by kernel_rfl):TyOk Try.prog t r:=TyOk.mk' h1 h2 h3 h4 h5
abbrev r1:TyR:=u0
theorem ty1:TyOk Try.prog 1 r1:=mT Try.underlying1
abbrev r2:TyR:=u4
theorem ty2:TyOk Try.prog 2 r2:=mT Try.underlying2
abbrev r3:TyR:=u4
theorem ty3:TyOk Try.prog 3 r3:=mT Try.underlying3
abbrev r4:TyR := { desc :=.bool,size:=1,bytes:=1,zero :=.sc (.bool false) }
theorem ty4:TyOk Try.prog 4 r4:=mT Try.underlying4
abbrev r5:TyR:=u5
theorem ty5:TyOk Try.prog 5 r5:=mT Try.underlying5
abbrev r9:TyR := { desc :=.string,size:=1,bytes:=16,zero :=.sc (.string ⟨#[]⟩) }
theorem ty9:TyOk Try.prog 9 r9:=mT Try.underlying9
abbrev r12:TyR := { desc :=.int .u64,size:=1,bytes:=8,zero :=.sc (.int .u64 0) }
theorem ty12:TyOk Try.prog 12 r12:=mT Try.underlying12
abbrev r13:TyR := { desc :=.struct [(0,9),(1,12)],size:=2,bytes:=24,zero :=.cons (.sc (.string ⟨#[]⟩)) (.cons (.sc (.int .u64 0)) (.nil)) }
theorem ty13:TyOk Try.prog 13 r13:=mT Try.underlying13
abbrev r20:TyR := { desc :=.cell,size:=1,bytes:=16,zero :=.sc .nilIface }
theorem ty20:TyOk Try.prog 20 r20:=mT Try.underlying20
abbrev r21:TyR := { desc :=.int .i32,size:=1,bytes:=4,zero :=.sc (.int .i32 0) }
theorem ty21:TyOk Try.prog 21 r21:=mT Try.underlying21
abbrev r22:TyR:=u5
theorem ty22:TyOk Try.prog 22 r22:=mT Try.underlying22
abbrev r23:TyR := { desc :=.slice 5,size:=1,bytes:=24,zero :=.sc (.slice none 0 0) }
theorem ty23:TyOk Try.prog 23 r23:=mT Try.underlying23
abbrev r24:TyR := { desc :=.struct [(0,22),(1,3),(2,23)],size:=3,bytes:=40,zero :=.cons (.sc (.int .u8 0)) (.cons (.sc (.int .i64 0)) (.cons (.sc (.slice none 0 0)) (.nil))) }
theorem ty24:TyOk Try.prog 24 r24:=mT Try.underlying24
abbrev r25:TyR := { desc :=.struct [(0,22),(1,3),(2,23)],size:=3,bytes:=40,zero :=.cons (.sc (.int .u8 0)) (.cons (.sc (.int .i64 0)) (.cons (.sc (.slice none 0 0)) (.nil))) }
theorem ty25:TyOk Try.prog 25 r25:=mT Try.underlying25
abbrev r26:TyR := { desc :=.array 32 5,size:=32,bytes:=32,zero :=.vec 32 1 cD (List.replicate 32 0) }
theorem ty26:TyOk Try.prog 26 r26:=mT Try.underlying26
abbrev r27:TyR := { desc :=.array 32 5,size:=32,bytes:=32,zero :=.vec 32 1 cD (List.replicate 32 0) }
theorem ty27:TyOk Try.prog 27 r27:=mT Try.underlying27
abbrev r28:TyR:=u4
theorem ty28:TyOk Try.prog 28 r28:=mT Try.underlying28
abbrev r29:TyR := { desc :=.struct [(0,3),(1,3),(2,3),(3,25),(6,3),(7,3),(8,27),(40,28)],size:=41,bytes:=120,zero :=.cons (.sc (.int .i64 0)) (.cons (.sc (.int .i64 0)) (.cons (.sc (.int .i64 0)) (.cons (.cons (.sc (.int .u8 0)) (.cons (.sc (.int .i64 0)) (.cons (.sc (.slice none 0 0)) (.nil)))) (.cons (.sc (.int .i64 0)) (.cons (.sc (.int .i64 0)) (.cons (.vec 32 1 cD (List.replicate 32 0)) (.cons (.sc (.int .i64 0)) (.nil)))))))) }
theorem ty29:TyOk Try.prog 29 r29:=mT Try.underlying29
abbrev r30:TyR := { desc :=.struct [(0,3),(1,3),(2,3),(3,25),(6,3),(7,3),(8,27),(40,28)],size:=41,bytes:=120,zero :=.cons (.sc (.int .i64 0)) (.cons (.sc (.int .i64 0)) (.cons (.sc (.int .i64 0)) (.cons (.cons (.sc (.int .u8 0)) (.cons (.sc (.int .i64 0)) (.cons (.sc (.slice none 0 0)) (.nil)))) (.cons (.sc (.int .i64 0)) (.cons (.sc (.int .i64 0)) (.cons (.vec 32 1 cD (List.replicate 32 0)) (.cons (.sc (.int .i64 0)) (.nil)))))))) }
theorem ty30:TyOk Try.prog 30 r30:=mT Try.underlying30
abbrev r31:TyR:=u0
theorem ty31:TyOk Try.prog 31 r31:=mT Try.underlying31
abbrev r32:TyR:=u0
theorem ty32:TyOk Try.prog 32 r32:=mT Try.underlying32
abbrev r33:TyR:=u0
theorem ty33:TyOk Try.prog 33 r33:=mT Try.underlying33
abbrev r34:TyR:=u0
theorem ty34:TyOk Try.prog 34 r34:=mT Try.underlying34
abbrev r35:TyR:=u0
theorem ty35:TyOk Try.prog 35 r35:=mT Try.underlying35
abbrev r36:TyR := { desc :=.slice 74,size:=1,bytes:=24,zero :=.sc (.slice none 0 0) }
theorem ty36:TyOk Try.prog 36 r36:=mT Try.underlying36
abbrev r37:TyR := { desc :=.struct [(0,36)],size:=1,bytes:=24,zero :=.cons (.sc (.slice none 0 0)) (.nil) }
theorem ty37:TyOk Try.prog 37 r37:=mT Try.underlying37
abbrev r38:TyR := { desc :=.struct [(0,36)],size:=1,bytes:=24,zero :=.cons (.sc (.slice none 0 0)) (.nil) }
theorem ty38:TyOk Try.prog 38 r38:=mT Try.underlying38
abbrev r39:TyR := { desc :=.slice 3,size:=1,bytes:=24,zero :=.sc (.slice none 0 0) }
theorem ty39:TyOk Try.prog 39 r39:=mT Try.underlying39
abbrev r40:TyR := { desc :=.slice 63,size:=1,bytes:=24,zero :=.sc (.slice none 0 0) }
theorem ty40:TyOk Try.prog 40 r40:=mT Try.underlying40
abbrev r41:TyR:=u0
theorem ty41:TyOk Try.prog 41 r41:=mT Try.underlying41
abbrev r42:TyR:=u0
theorem ty42:TyOk Try.prog 42 r42:=mT Try.underlying42
abbrev r43:TyR:=u0
theorem ty43:TyOk Try.prog 43 r43:=mT Try.underlying43
abbrev r44:TyR:=u0
theorem ty44:TyOk Try.prog 44 r44:=mT Try.underlying44
abbrev r45:TyR := { desc :=.int .i8,size:=1,bytes:=1,zero :=.sc (.int .i8 0) }
theorem ty45:TyOk Try.prog 45 r45:=mT Try.underlying45
abbrev r46:TyR := { desc :=.slice 100,size:=1,bytes:=24,zero :=.sc (.slice none 0 0) }
theorem ty46:TyOk Try.prog 46 r46:=mT Try.underlying46
abbrev r47:TyR:=u0
theorem ty47:TyOk Try.prog 47 r47:=mT Try.underlying47
abbrev r49:TyR:=u0
theorem ty49:TyOk Try.prog 49 r49:=mT Try.underlying49
abbrev r51:TyR:=u0
theorem ty51:TyOk Try.prog 51 r51:=mT Try.underlying51
abbrev r53:TyR:=u0
theorem ty53:TyOk Try.prog 53 r53:=mT Try.underlying53
abbrev r54:TyR:=u0
theorem ty54:TyOk Try.prog 54 r54:=mT Try.underlying54
abbrev r56:TyR:=u0
theorem ty56:TyOk Try.prog 56 r56:=mT Try.underlying56
abbrev r57:TyR:=u0
theorem ty57:TyOk Try.prog 57 r57:=mT Try.underlying57
abbrev r58:TyR:=u0
theorem ty58:TyOk Try.prog 58 r58:=mT Try.underlying58
abbrev r59:TyR := { desc :=.slice 30,size:=1,bytes:=24,zero :=.sc (.slice none 0 0) }
theorem ty59:TyOk Try.prog 59 r59:=mT Try.underlying59
abbrev r60:TyR:=u0
theorem ty60:TyOk Try.prog 60 r60:=mT Try.underlying60
abbrev r61:TyR:=u5
theorem ty61:TyOk Try.prog 61 r61:=mT Try.underlying61
abbrev r62:TyR := { desc :=.struct [(0,61),(1,3),(2,25),(5,27),(37,28)],size:=38,bytes:=96,zero :=.cons (.sc (.int .u8 0)) (.cons (.sc (.int .i64 0)) (.cons (.cons (.sc (.int .u8 0)) (.cons (.sc (.int .i64 0)) (.cons (.sc (.slice none 0 0)) (.nil)))) (.cons (.vec 32 1 cD (List.replicate 32 0)) (.cons (.sc (.int .i64 0)) (.nil))))) }
theorem ty62:TyOk Try.prog 62 r62:=mT Try.underlying62
abbrev r63:TyR := { desc :=.struct [(0,61),(1,3),(2,25),(5,27),(37,28)],size:=38,bytes:=96,zero :=.cons (.sc (.int .u8 0)) (.cons (.sc (.int .i64 0)) (.cons (.cons (.sc (.int .u8 0)) (.cons (.sc (.int .i64 0)) (.cons (.sc (.slice none 0 0)) (.nil)))) (.cons (.vec 32 1 cD (List.replicate 32 0)) (.cons (.sc (.int .i64 0)) (.nil))))) }
theorem ty63:TyOk Try.prog 63 r63:=mT Try.underlying63
abbrev r64:TyR:=u0
theorem ty64:TyOk Try.prog 64 r64:=mT Try.underlying64
abbrev r65:TyR:=u0
theorem ty65:TyOk Try.prog 65 r65:=mT Try.underlying65
abbrev r66:TyR:=u0
theorem ty66:TyOk Try.prog 66 r66:=mT Try.underlying66
abbrev r68:TyR:=u0
theorem ty68:TyOk Try.prog 68 r68:=mT Try.underlying68
abbrev r69:TyR:=u0
theorem ty69:TyOk Try.prog 69 r69:=mT Try.underlying69
abbrev r71:TyR:=u0
theorem ty71:TyOk Try.prog 71 r71:=mT Try.underlying71
abbrev r72:TyR:=u0
theorem ty72:TyOk Try.prog 72 r72:=mT Try.underlying72
abbrev r73:TyR:=u3
theorem ty73:TyOk Try.prog 73 r73:=mT Try.underlying73
abbrev r74:TyR:=u3
theorem ty74:TyOk Try.prog 74 r74:=mT Try.underlying74
abbrev r75:TyR:=u0
theorem ty75:TyOk Try.prog 75 r75:=mT Try.underlying75
abbrev r76:TyR:=u0
theorem ty76:TyOk Try.prog 76 r76:=mT Try.underlying76
abbrev r77:TyR:=u0
theorem ty77:TyOk Try.prog 77 r77:=mT Try.underlying77
abbrev r78:TyR:=u0
theorem ty78:TyOk Try.prog 78 r78:=mT Try.underlying78
abbrev r79:TyR:=u0
theorem ty79:TyOk Try.prog 79 r79:=mT Try.underlying79
abbrev r80:TyR := { desc :=.slice 39,size:=1,bytes:=24,zero :=.sc (.slice none 0 0) }
theorem ty80:TyOk Try.prog 80 r80:=mT Try.underlying80
abbrev r81:TyR := { desc :=.array 4 28,size:=4,bytes:=32,zero :=.cons (.sc (.int .i64 0)) (.cons (.sc (.int .i64 0)) (.cons (.sc (.int .i64 0)) (.cons (.sc (.int .i64 0)) (.nil)))) }
theorem ty81:TyOk Try.prog 81 r81:=mT Try.underlying81
abbrev r82:TyR:=u0
theorem ty82:TyOk Try.prog 82 r82:=mT Try.underlying82
abbrev r83:TyR:=u0
theorem ty83:TyOk Try.prog 83 r83:=mT Try.underlying83
abbrev r84:TyR:=u0
theorem ty84:TyOk Try.prog 84 r84:=mT Try.underlying84
abbrev r85:TyR:=u0
theorem ty85:TyOk Try.prog 85 r85:=mT Try.underlying85
abbrev r86:TyR := { desc :=.slice 28,size:=1,bytes:=24,zero :=.sc (.slice none 0 0) }
theorem ty86:TyOk Try.prog 86 r86:=mT Try.underlying86
abbrev r87:TyR:=u0
theorem ty87:TyOk Try.prog 87 r87:=mT Try.underlying87
abbrev r89:TyR:=u0
theorem ty89:TyOk Try.prog 89 r89:=mT Try.underlying89
abbrev r90:TyR:=u1
theorem ty90:TyOk Try.prog 90 r90:=mT Try.underlying90
abbrev r91:TyR := { desc :=.struct [(0,90),(1,90)],size:=2,bytes:=16,zero :=.cons (.sc (.map none)) (.cons (.sc (.map none)) (.nil)) }
theorem ty91:TyOk Try.prog 91 r91:=mT Try.underlying91
abbrev r92:TyR := { desc :=.struct [(0,90),(1,90)],size:=2,bytes:=16,zero :=.cons (.sc (.map none)) (.cons (.sc (.map none)) (.nil)) }
theorem ty92:TyOk Try.prog 92 r92:=mT Try.underlying92
abbrev r93:TyR := { desc :=.slice 4,size:=1,bytes:=24,zero :=.sc (.slice none 0 0) }
theorem ty93:TyOk Try.prog 93 r93:=mT Try.underlying93
abbrev r94:TyR:=u0
theorem ty94:TyOk Try.prog 94 r94:=mT Try.underlying94
abbrev r95:TyR:=u0
theorem ty95:TyOk Try.prog 95 r95:=mT Try.underlying95
abbrev r96:TyR:=u0
theorem ty96:TyOk Try.prog 96 r96:=mT Try.underlying96
abbrev r97:TyR:=u2
theorem ty97:TyOk Try.prog 97 r97:=mT Try.underlying97
abbrev r98:TyR := { desc :=.slice 27,size:=1,bytes:=24,zero :=.sc (.slice none 0 0) }
theorem ty98:TyOk Try.prog 98 r98:=mT Try.underlying98
abbrev r99:TyR := { desc :=.struct [(0,3),(1,39),(2,98),(3,98)],size:=4,bytes:=80,zero :=.cons (.sc (.int .i64 0)) (.cons (.sc (.slice none 0 0)) (.cons (.sc (.slice none 0 0)) (.cons (.sc (.slice none 0 0)) (.nil)))) }
theorem ty99:TyOk Try.prog 99 r99:=mT Try.underlying99
abbrev r100:TyR := { desc :=.struct [(0,3),(1,39),(2,98),(3,98)],size:=4,bytes:=80,zero :=.cons (.sc (.int .i64 0)) (.cons (.sc (.slice none 0 0)) (.cons (.sc (.slice none 0 0)) (.cons (.sc (.slice none 0 0)) (.nil)))) }
theorem A8:TyOk Try.prog 100 r100:=mT Try.underlying100
abbrev r101:TyR:=u0
theorem A7:TyOk Try.prog 101 r101:=mT Try.underlying101
abbrev r102:TyR:=u0
theorem A6:TyOk Try.prog 102 r102:=mT Try.underlying102
abbrev r103:TyR:=u0
theorem A5:TyOk Try.prog 103 r103:=mT Try.underlying103
abbrev r104:TyR:=u0
theorem A4:TyOk Try.prog 104 r104:=mT Try.underlying104
abbrev r106:TyR:=u0
theorem A3:TyOk Try.prog 106 r106:=mT Try.underlying106
abbrev r107:TyR:=u0
theorem A2:TyOk Try.prog 107 r107:=mT Try.underlying107
abbrev r108:TyR:=u0
theorem A1:TyOk Try.prog 108 r108:=mT Try.underlying108
abbrev r109:TyR:=u0
theorem A0:TyOk Try.prog 109 r109:=mT Try.underlying109
abbrev r110:TyR:=u2
theorem AZ:TyOk Try.prog 110 r110:=mT Try.underlying110
abbrev r112:TyR:=u0
theorem AY:TyOk Try.prog 112 r112:=mT Try.underlying112
abbrev r113:TyR:=u1
theorem AX:TyOk Try.prog 113 r113:=mT Try.underlying113
abbrev r114:TyR:=u1
theorem AW:TyOk Try.prog 114 r114:=mT Try.underlying114
abbrev r115:TyR:=u1
theorem AU:TyOk Try.prog 115 r115:=mT Try.underlying115
abbrev r116:TyR:=u1
theorem AT:TyOk Try.prog 116 r116:=mT Try.underlying116
abbrev r117:TyR:=u1
theorem AS:TyOk Try.prog 117 r117:=mT Try.underlying117
abbrev r118:TyR := { desc :=.slice 141,size:=1,bytes:=24,zero :=.sc (.slice none 0 0) }
theorem AR:TyOk Try.prog 118 r118:=mT Try.underlying118
abbrev r119:TyR := { desc :=.slice 142,size:=1,bytes:=24,zero :=.sc (.slice none 0 0) }
theorem AQ:TyOk Try.prog 119 r119:=mT Try.underlying119
abbrev r120:TyR := { desc :=.struct [(0,59),(1,3),(2,3),(3,113),(4,114),(5,80),(6,115),(7,115),(8,116),(9,116),(10,117),(11,118),(12,119)],size:=13,bytes:=168,zero :=.cons (.sc (.slice none 0 0)) (.cons (.sc (.int .i64 0)) (.cons (.sc (.int .i64 0)) (.cons (.sc (.map none)) (.cons (.sc (.map none)) (.cons (.sc (.slice none 0 0)) (.cons (.sc (.map none)) (.cons (.sc (.map none)) (.cons (.sc (.map none)) (.cons (.sc (.map none)) (.cons (.sc (.map none)) (.cons (.sc (.slice none 0 0)) (.cons (.sc (.slice none 0 0)) (.nil))))))))))))) }
theorem AP:TyOk Try.prog 120 r120:=mT Try.underlying120
abbrev r121:TyR := { desc :=.struct [(0,59),(1,3),(2,3),(3,113),(4,114),(5,80),(6,115),(7,115),(8,116),(9,116),(10,117),(11,118),(12,119)],size:=13,bytes:=168,zero :=.cons (.sc (.slice none 0 0)) (.cons (.sc (.int .i64 0)) (.cons (.sc (.int .i64 0)) (.cons (.sc (.map none)) (.cons (.sc (.map none)) (.cons (.sc (.slice none 0 0)) (.cons (.sc (.map none)) (.cons (.sc (.map none)) (.cons (.sc (.map none)) (.cons (.sc (.map none)) (.cons (.sc (.map none)) (.cons (.sc (.slice none 0 0)) (.cons (.sc (.slice none 0 0)) (.nil))))))))))))) }
theorem AO:TyOk Try.prog 121 r121:=mT Try.underlying121
abbrev r123:TyR:=u0
theorem AN:TyOk Try.prog 123 r123:=mT Try.underlying123
abbrev r124:TyR:=u0
theorem AM:TyOk Try.prog 124 r124:=mT Try.underlying124
abbrev r125:TyR:=u0
theorem AL:TyOk Try.prog 125 r125:=mT Try.underlying125
abbrev r127:TyR := { desc :=.int .u64,size:=1,bytes:=8,zero :=.sc (.int .u64 0) }
theorem AK:TyOk Try.prog 127 r127:=mT Try.underlying127
abbrev r128:TyR:=u0
theorem AJ:TyOk Try.prog 128 r128:=mT Try.underlying128
abbrev r129:TyR:=u3
theorem AI:TyOk Try.prog 129 r129:=mT Try.underlying129
abbrev r130:TyR:=u3
theorem AH:TyOk Try.prog 130 r130:=mT Try.underlying130
abbrev r131:TyR:=u0
theorem AF:TyOk Try.prog 131 r131:=mT Try.underlying131
abbrev r132:TyR:=u0
theorem AE:TyOk Try.prog 132 r132:=mT Try.underlying132
abbrev r133:TyR:=u2
theorem AD:TyOk Try.prog 133 r133:=mT Try.underlying133
abbrev r134:TyR:=u0
theorem AC:TyOk Try.prog 134 r134:=mT Try.underlying134
abbrev r135:TyR:=u0
theorem AB:TyOk Try.prog 135 r135:=mT Try.underlying135
abbrev r136:TyR:=u0
theorem AA:TyOk Try.prog 136 r136:=mT Try.underlying136
abbrev r137:TyR:=u0
theorem Az:TyOk Try.prog 137 r137:=mT Try.underlying137
abbrev r138:TyR:=u0
theorem Ay:TyOk Try.prog 138 r138:=mT Try.underlying138
abbrev r139:TyR:=u0
theorem Ax:TyOk Try.prog 139 r139:=mT Try.underlying139
abbrev r140:TyR := { desc :=.struct [(0,3),(1,9),(2,9),(3,9)],size:=4,bytes:=56,zero :=.cons (.sc (.int .i64 0)) (.cons (.sc (.string ⟨#[]⟩)) (.cons (.sc (.string ⟨#[]⟩)) (.cons (.sc (.string ⟨#[]⟩)) (.nil)))) }
theorem Aw:TyOk Try.prog 140 r140:=mT Try.underlying140
abbrev r141:TyR := { desc :=.struct [(0,3),(1,9),(2,9),(3,9)],size:=4,bytes:=56,zero :=.cons (.sc (.int .i64 0)) (.cons (.sc (.string ⟨#[]⟩)) (.cons (.sc (.string ⟨#[]⟩)) (.cons (.sc (.string ⟨#[]⟩)) (.nil)))) }
theorem Av:TyOk Try.prog 141 r141:=mT Try.underlying141
abbrev r142:TyR := { desc :=.slice 148,size:=1,bytes:=24,zero :=.sc (.slice none 0 0) }
theorem Au:TyOk Try.prog 142 r142:=mT Try.underlying142
abbrev r143:TyR:=u0
theorem As:TyOk Try.prog 143 r143:=mT Try.underlying143
abbrev r144:TyR:=u0
theorem Ar:TyOk Try.prog 144 r144:=mT Try.underlying144
abbrev r145:TyR:=u0
theorem Aq:TyOk Try.prog 145 r145:=mT Try.underlying145
abbrev r146:TyR:=u0
theorem Ap:TyOk Try.prog 146 r146:=mT Try.underlying146
abbrev r147:TyR := { desc :=.struct [(0,3),(1,3)],size:=2,bytes:=16,zero :=.cons (.sc (.int .i64 0)) (.cons (.sc (.int .i64 0)) (.nil)) }
theorem Ao:TyOk Try.prog 147 r147:=mT Try.underlying147
abbrev r148:TyR := { desc :=.struct [(0,3),(1,3)],size:=2,bytes:=16,zero :=.cons (.sc (.int .i64 0)) (.cons (.sc (.int .i64 0)) (.nil)) }
theorem An:TyOk Try.prog 148 r148:=mT Try.underlying148
abbrev r149:TyR:=u0
theorem Am:TyOk Try.prog 149 r149:=mT Try.underlying149
abbrev r150:TyR:=u0
theorem Al:TyOk Try.prog 150 r150:=mT Try.underlying150
abbrev r151:TyR:=u2
theorem Ak:TyOk Try.prog 151 r151:=mT Try.underlying151
abbrev r153:TyR:=u0
theorem Aj:TyOk Try.prog 153 r153:=mT Try.underlying153
abbrev r154:TyR:=u0
theorem Ai:TyOk Try.prog 154 r154:=mT Try.underlying154
abbrev r155:TyR := { desc :=.array 8 3,size:=8,bytes:=64,zero :=.cons (.sc (.int .i64 0)) (.cons (.sc (.int .i64 0)) (.cons (.sc (.int .i64 0)) (.cons (.sc (.int .i64 0)) (.cons (.sc (.int .i64 0)) (.cons (.sc (.int .i64 0)) (.cons (.sc (.int .i64 0)) (.cons (.sc (.int .i64 0)) (.nil)))))))) }
theorem Ah:TyOk Try.prog 155 r155:=mT Try.underlying155
abbrev r156:TyR := { desc :=.struct [(0,155),(8,155),(16,3),(17,3),(18,59)],size:=19,bytes:=168,zero :=.cons (.cons (.sc (.int .i64 0)) (.cons (.sc (.int .i64 0)) (.cons (.sc (.int .i64 0)) (.cons (.sc (.int .i64 0)) (.cons (.sc (.int .i64 0)) (.cons (.sc (.int .i64 0)) (.cons (.sc (.int .i64 0)) (.cons (.sc (.int .i64 0)) (.nil))))))))) (.cons (.cons (.sc (.int .i64 0)) (.cons (.sc (.int .i64 0)) (.cons (.sc (.int .i64 0)) (.cons (.sc (.int .i64 0)) (.cons (.sc (.int .i64 0)) (.cons (.sc (.int .i64 0)) (.cons (.sc (.int .i64 0)) (.cons (.sc (.int .i64 0)) (.nil))))))))) (.cons (.sc (.int .i64 0)) (.cons (.sc (.int .i64 0)) (.cons (.sc (.slice none 0 0)) (.nil))))) }
theorem Ag:TyOk Try.prog 156 r156:=mT Try.underlying156
abbrev r157:TyR := { desc :=.struct [(0,155),(8,155),(16,3),(17,3),(18,59)],size:=19,bytes:=168,zero :=.cons (.cons (.sc (.int .i64 0)) (.cons (.sc (.int .i64 0)) (.cons (.sc (.int .i64 0)) (.cons (.sc (.int .i64 0)) (.cons (.sc (.int .i64 0)) (.cons (.sc (.int .i64 0)) (.cons (.sc (.int .i64 0)) (.cons (.sc (.int .i64 0)) (.nil))))))))) (.cons (.cons (.sc (.int .i64 0)) (.cons (.sc (.int .i64 0)) (.cons (.sc (.int .i64 0)) (.cons (.sc (.int .i64 0)) (.cons (.sc (.int .i64 0)) (.cons (.sc (.int .i64 0)) (.cons (.sc (.int .i64 0)) (.cons (.sc (.int .i64 0)) (.nil))))))))) (.cons (.sc (.int .i64 0)) (.cons (.sc (.int .i64 0)) (.cons (.sc (.slice none 0 0)) (.nil))))) }
theorem Af:TyOk Try.prog 157 r157:=mT Try.underlying157
abbrev r158:TyR:=u0
theorem Ae:TyOk Try.prog 158 r158:=mT Try.underlying158
abbrev r159:TyR:=u0
theorem Ad:TyOk Try.prog 159 r159:=mT Try.underlying159
abbrev r160:TyR:=u0
theorem Ac:TyOk Try.prog 160 r160:=mT Try.underlying160
abbrev r161:TyR:=u0
theorem Ab:TyOk Try.prog 161 r161:=mT Try.underlying161
abbrev r162:TyR:=u0
theorem Aa:TyOk Try.prog 162 r162:=mT Try.underlying162
abbrev r163:TyR:=u0
theorem z9:TyOk Try.prog 163 r163:=mT Try.underlying163
abbrev r165:TyR:=u0
theorem z8:TyOk Try.prog 165 r165:=mT Try.underlying165
abbrev r166:TyR:=u0
theorem z7:TyOk Try.prog 166 r166:=mT Try.underlying166
abbrev r167:TyR:=u0
theorem z6:TyOk Try.prog 167 r167:=mT Try.underlying167
abbrev r168:TyR:=u0
theorem z5:TyOk Try.prog 168 r168:=mT Try.underlying168
abbrev r169:TyR:=u0
theorem z4:TyOk Try.prog 169 r169:=mT Try.underlying169
abbrev r170:TyR:=u0
theorem z3:TyOk Try.prog 170 r170:=mT Try.underlying170
abbrev r171:TyR:=u0
theorem z2:TyOk Try.prog 171 r171:=mT Try.underlying171
abbrev r172:TyR:=u0
theorem z1:TyOk Try.prog 172 r172:=mT Try.underlying172
abbrev r173:TyR:=u2
theorem zZ:TyOk Try.prog 173 r173:=mT Try.underlying173
abbrev r174:TyR:=u0
theorem zY:TyOk Try.prog 174 r174:=mT Try.underlying174
abbrev r175:TyR:=u0
theorem zL:TyOk Try.prog 175 r175:=mT Try.underlying175
abbrev r176:TyR:=u0
theorem zA:TyOk Try.prog 176 r176:=mT Try.underlying176
abbrev r179:TyR := { desc :=.array 0 16,size:=0,bytes:=0,zero :=.nil }
theorem zy:TyOk Try.prog 179 r179:=mT Try.underlying179
abbrev r182:TyR:=u0
theorem zx:TyOk Try.prog 182 r182:=mT Try.underlying182
abbrev r183:TyR := { desc :=.int .u32,size:=1,bytes:=4,zero :=.sc (.int .u32 0) }
theorem zw:TyOk Try.prog 183 r183:=mT Try.underlying183
abbrev r186:TyR:=u0
theorem zu:TyOk Try.prog 186 r186:=mT Try.underlying186
abbrev r187:TyR:=u2
theorem zt:TyOk Try.prog 187 r187:=mT Try.underlying187
abbrev tab:Tab:=[(1,r1),(2,r2),(3,r3),(4,r4),(5,r5),(9,r9),(12,r12),(13,r13),(20,r20),(21,r21),(22,r22),(23,r23),(24,r24),(25,r25),(26,r26),(27,r27),(28,r28),(29,r29),(30,r30),(31,r31),(32,r32),(33,r33),(34,r34),(35,r35),(36,r36),(37,r37),(38,r38),(39,r39),(40,r40),(41,r41),(42,r42),(43,r43),(44,r44),(45,r45),(46,r46),(47,r47),(49,r49),(51,r51),(53,r53),(54,r54),(56,r56),(57,r57),(58,r58),(59,r59),(60,r60),(61,r61),(62,r62),(63,r63),(64,r64),(65,r65),(66,r66),(68,r68),(69,r69),(71,r71),(72,r72),(73,r73),(74,r74),(75,r75),(76,r76),(77,r77),(78,r78),(79,r79),(80,r80),(81,r81),(82,r82),(83,r83),(84,r84),(85,r85),(86,r86),(87,r87),(89,r89),(90,r90),(91,r91),(92,r92),(93,r93),(94,r94),(95,r95),(96,r96),(97,r97),(98,r98),(99,r99),(100,r100),(101,r101),(102,r102),(103,r103),(104,r104),(106,r106),(107,r107),(108,r108),(109,r109),(110,r110),(112,r112),(113,r113),(114,r114),(115,r115),(116,r116),(117,r117),(118,r118),(119,r119),(120,r120),(121,r121),(123,r123),(124,r124),(125,r125),(127,r127),(128,r128),(129,r129),(130,r130),(131,r131),(132,r132),(133,r133),(134,r134),(135,r135),(136,r136),(137,r137),(138,r138),(139,r139),(140,r140),(141,r141),(142,r142),(143,r143),(144,r144),(145,r145),(146,r146),(147,r147),(148,r148),(149,r149),(150,r150),(151,r151),(153,r153),(154,r154),(155,r155),(156,r156),(157,r157),(158,r158),(159,r159),(160,r160),(161,r161),(162,r162),(163,r163),(165,r165),(166,r166),(167,r167),(168,r168),(169,r169),(170,r170),(171,r171),(172,r172),(173,r173),(174,r174),(175,r175),(176,r176),(179,r179),(182,r182),(183,r183),(186,r186),(187,r187)]
theorem aa:an Try.prog tab :=
 (an.cons ty1 (an.cons ty2 (an.cons ty3 (an.cons ty4 (an.cons ty5 (an.cons ty9 (an.cons ty12 (an.cons ty13 (an.cons ty20 (an.cons ty21 (an.cons ty22 (an.cons ty23 (an.cons ty24 (an.cons ty25 (an.cons ty26 (an.cons ty27 (an.cons ty28 (an.cons ty29 (an.cons ty30 (an.cons ty31 (an.cons ty32 (an.cons ty33 (an.cons ty34 (an.cons ty35 (an.cons ty36 (an.cons ty37 (an.cons ty38 (an.cons ty39 (an.cons ty40 (an.cons ty41 (an.cons ty42 (an.cons ty43 (an.cons ty44 (an.cons ty45 (an.cons ty46 (an.cons ty47 (an.cons ty49 (an.cons ty51 (an.cons ty53 (an.cons ty54 (an.cons ty56 (an.cons ty57 (an.cons ty58 (an.cons ty59 (an.cons ty60 (an.cons ty61 (an.cons ty62 (an.cons ty63 (an.cons ty64 (an.cons ty65 (an.cons ty66 (an.cons ty68 (an.cons ty69 (an.cons ty71 (an.cons ty72 (an.cons ty73 (an.cons ty74 (an.cons ty75 (an.cons ty76 (an.cons ty77 (an.cons ty78 (an.cons ty79 (an.cons ty80 (an.cons ty81 (an.cons ty82 (an.cons ty83 (an.cons ty84 (an.cons ty85 (an.cons ty86 (an.cons ty87 (an.cons ty89 (an.cons ty90 (an.cons ty91 (an.cons ty92 (an.cons ty93 (an.cons ty94 (an.cons ty95 (an.cons ty96 (an.cons ty97 (an.cons ty98 (an.cons ty99 (an.cons A8 (an.cons A7 (an.cons A6 (an.cons A5 (an.cons A4 (an.cons A3 (an.cons A2 (an.cons A1 (an.cons A0 (an.cons AZ (an.cons AY (an.cons AX (an.cons AW (an.cons AU (an.cons AT (an.cons AS (an.cons AR (an.cons AQ (an.cons AP (an.cons AO (an.cons AN (an.cons AM (an.cons AL (an.cons AK (an.cons AJ (an.cons AI (an.cons AH (an.cons AF (an.cons AE (an.cons AD (an.cons AC (an.cons AB (an.cons AA (an.cons Az (an.cons Ay (an.cons Ax (an.cons Aw (an.cons Av (an.cons Au (an.cons As (an.cons Ar (an.cons Aq (an.cons Ap (an.cons Ao (an.cons An (an.cons Am (an.cons Al (an.cons Ak (an.cons Aj (an.cons Ai (an.cons Ah (an.cons Ag (an.cons Af (an.cons Ae (an.cons Ad (an.cons Ac (an.cons Ab (an.cons Aa (an.cons z9 (an.cons z8 (an.cons z7 (an.cons z6 (an.cons z5 (an.cons z4 (an.cons z3 (an.cons z2 (an.cons z1 (an.cons zZ (an.cons zY (an.cons zL (an.cons zA (an.cons zy (an.cons zx (an.cons zw (an.cons zu (an.cons zt an.nil)))))))))))))))))))))))))))))))))))))))))))))))))))))))))))))))))))))))))))))))))))))))))))))))))))))))))))))))))))))))))))))))))))))))))))))))))))))))))))))
end Go.Proofs.Ytkehohfgbblokaa
namespace Go.Proofs.Ytkehohfgbblokaa
open Go.Eng
section
variable {sz n : Nat} {env : Env} {h : Upds} {all l : List Oper} {Q : Exit → St → Prop} {y : Code} {id : Nat} {ops : Array Oper} {K : Env → Upds → Nat → Prop} {d : Tmp} {op : Op} {ty : TypeId} {pos : String} {af : Array Edge} {v : AV}
theorem rC (h1:RegS Try.prog all sz l (n+8) ((d,v)::env) h K) (hd:Nat.blt d sz=true:=by exact rfl) (hop:∀K:Option AV→Upds→Prop,K (some v) []→opD tab op (aq env) (aT h) n K:=by exact fun _ h=>h) :
  RegS Try.prog all sz (⟨some d,op,ty,pos,af,none⟩::l) n env h K:=nM hd (ay aa hop) h1
theorem rQ (hs:aj Try.prog op env h n (some v) []) (h1:RegS Try.prog all sz l (n+8) ((d,v)::env) h K) (hd:Nat.blt d sz=true:=by exact rfl) :
  RegS Try.prog all sz (⟨some d,op,ty,pos,af,none⟩::l) n env h K:=nM hd hs h1
theorem rN {x:Nat×Option Row} (h1:RegS Try.prog all sz l (n+8) ((d,v)::env) (x::h) K) (hd:Nat.blt d sz=true:=by exact rfl) (hop:∀K:Option AV→Upds→Prop,K (some v) [x]→opD tab op (aq env) (aT h) n K:=by exact fun _ h=>h) :
  RegS Try.prog all sz (⟨some d,op,ty,pos,af,none⟩::l) n env h K:=bt (ay aa hop) hd h1
theorem nS {b:Code} (h1:WC Try.prog sz b Q env h n):RegS Try.prog all sz [] n env h (RegK (SeqQ Try.prog b Q) sz):=aE (aL h1)
theorem sR (h1:RegS Try.prog ops.toList sz ops.toList n env h (RegK (SeqQ Try.prog y Q) sz)):WC Try.prog sz (.seq (.region id ops false) y) Q env h n:=aZ (ao h1)
theorem kS {b:Code} (h1:WC Try.prog sz b Q env h n):WC Try.prog sz .skip (SeqQ Try.prog b Q) env h n:=bg (aL h1)
theorem nQ {b c:Code} (h1:WC Try.prog sz b (SeqQ Try.prog c Q) env h n):RegS Try.prog all sz [] n env h (RegK (SeqQ Try.prog (.seq b c) Q) sz):=nS (aZ h1)
theorem qR {c:Code} (h1:RegS Try.prog ops.toList sz ops.toList n env h (RegK (SeqQ Try.prog y (SeqQ Try.prog c Q)) sz)):WC Try.prog sz (.seq (.seq (.region id ops false) y) c) Q env h n:=aZ (sR h1)
theorem lf {l:bE} {st st':St} (h1:ep (rho l) (aX st'.heap)=true:=by exact rfl) (h2:st'.sz=st.sz:=by exact rfl) (h3:st'.bs=st.bs:=by exact rfl) (h4:Nat.ble st'.bs st'.next=true:=by exact rfl) (h5:cL st'.bs l=true:=by exact rfl)
  (h6:iO (rho l) st.env st'.next st'.env:=by exact⟨⟨_,rfl,AVLe.of_eq rfl⟩,rfl,trivial⟩) (h7:fu (rho l) st st'.next st'.heap:=by exact trivial):Le l st st' :=.of h1 h2 h3 h4 h5 h6 h7
theorem nR (h1:RegS Try.prog ops.toList sz ops.toList n env h (RegK (SeqQ Try.prog y Q) sz)):RegS Try.prog all sz [] n env h (RegK (SeqQ Try.prog (.seq (.region id ops false) y) Q) sz):=nS (sR h1)
section
variable {dd : Option Tmp} {j g : Nat} {want b : Bool} {env' : Env}
theorem rO (h1:RegS Try.prog all sz (⟨dd,op,ty,pos,af,none⟩::l) n env h K) (hj:((all[j]?).bind (·.dst))=some g:=by exact rfl) (hb:lk env g=some (.bool b):=by exact rfl) (he:b=want:=by assumption) :
  RegS Try.prog all sz (⟨dd,op,ty,pos,af,some (j,want)⟩::l) n env h K:=vn hj hb he h1
theorem rP (h1:RegS Try.prog all sz (⟨dd,op,ty,pos,af,none⟩::l) n env h K) (hj:((all[j]?).bind (·.dst))=some g:=by exact rfl) (hb:lk env g=some (.bool b):=by exact rfl) (he:b=want:=by exact rfl) :
  RegS Try.prog all sz (⟨dd,op,ty,pos,af,some (j,want)⟩::l) n env h K:=vn hj hb he h1
theorem rS (h1:RegS Try.prog all sz l (n+8) env' h K) (hj:((all[j]?).bind (·.dst))=some g:=by exact rfl) (hb:lk env g=some (.bool b):=by exact rfl) (he:b = !want:=by assumption) (hd:dU dd sz=true:=by exact rfl) (he':putE dd none env=env':=by exact rfl) :
  RegS Try.prog all sz (⟨dd,op,ty,pos,af,some (j,want)⟩::l) n env h K:=pZ hj hb he hd he' h1
theorem rT (h1:RegS Try.prog all sz l (n+8) env' h K) (hj:((all[j]?).bind (·.dst))=some g:=by exact rfl) (hb:lk env g=some (.bool b):=by exact rfl) (he:b = !want:=by exact rfl) (hd:dU dd sz=true:=by exact rfl) (he':putE dd none env=env':=by exact rfl) :
  RegS Try.prog all sz (⟨dd,op,ty,pos,af,some (j,want)⟩::l) n env h K:=pZ hj hb he hd he' h1
theorem rU (h1:RegS Try.prog all sz l (n+8) env' h K) (hj:((all[j]?).bind (·.dst))=some g:=by exact rfl) (hb:lk env g=some .undef:=by exact rfl) (hd:dU dd sz=true:=by exact rfl) (he':putE dd none env=env':=by exact rfl) :
  RegS Try.prog all sz (⟨dd,op,ty,pos,af,some (j,want)⟩::l) n env h K:=tE hj hb hd he' h1
end
section
variable {t t' e s m : Nat} {x z i : Operand}
theorem iA {re:TyR} {α:Type} {enc:α→D} {xs:List α} {k:IntKind} {m:Int} {el:α} (hx:aq env x=some (.d (.arr s enc xs)):=by exact rfl) (hi:aq env i=some (.int k m):=by exact rfl) (ht:bq tab t=some (.slice e):=by exact rfl) (he:lk tab e=some re:=by exact rfl) (hs:Nat.beq re.size s=true:=by exact rfl)
  (h0:0≤m:=by omega) (hel:xs[m.toNat]?=some el:=by assumption):aj Try.prog (.indexAddr t x i) env h n (some (.iptr (enc el))) []:=aC aa ht he hs hx hi h0 hel
theorem iL {y:D} (hx:aq env x=some (.iptr y):=by exact rfl) (hs:bC tab t (.d y)=true:=by exact rfl):aj Try.prog (.load t x) env h n (some (.d y)) []:=ic aa hx hs
theorem iB {r:Nat} {p:List Step} {ty:TypeId} {a v:AV} (hx:aq env x=some (.ptr r p):=by exact rfl) (hr:aT h r=some (.box ty a):=by exact rfl) (hv:ASub a p v:=by exact⟨_,rfl,rfl⟩) (hs:bC tab t v=true:=by exact rfl):aj Try.prog (.load t x) env h n (some v) []:=aJ aa hx hr hv hs
theorem iM {r:Nat} {p:List Step} {ty:TypeId} {a v:AV} (hx:aq env x=some (.ptr r p):=by exact rfl) (hr:aT h r=some (.box ty a):=by exact rfl) (hv:ASub a p v:=by exact rfl) (hs:bC tab t v=true:=by exact rfl):aj Try.prog (.load t x) env h n (some v) []:=aJ aa hx hr hv hs
theorem iE {α:Type} {enc:α→D} {xs:List α} (hx:aq env x=some (.d (.arr s enc xs)):=by exact rfl) (ht:bq tab t=some (.slice e):=by exact rfl) :
  aj Try.prog (.call { callee :=.builtin .len,args := #[x],argTypes := #[t] }) env h n (some (.int .i64 xs.length)) []:=pj aa hx ht
theorem iF {c x y:Operand} {b:Bool} {v:AV} (hc:aq env c=some (.bool b):=by exact rfl) (hb:b=false:=by assumption) (hv:aq env y=some v:=by exact rfl):aj Try.prog (.pick c x y) env h n (some v) []:=pa aa hc hb hv
theorem iG {c x y:Operand} {b:Bool} {v:AV} (hc:aq env c=some (.bool b):=by exact rfl) (hb:b=false:=by exact rfl) (hv:aq env y=some v:=by exact rfl):aj Try.prog (.pick c x y) env h n (some v) []:=pa aa hc hb hv
theorem iT {c x y:Operand} {b:Bool} {v:AV} (hc:aq env c=some (.bool b):=by exact rfl) (hb:b=true:=by assumption) (hv:aq env x=some v:=by exact rfl):aj Try.prog (.pick c x y) env h n (some v) []:=mE aa hc hb hv
theorem iU {c x y:Operand} {b:Bool} {v:AV} (hc:aq env c=some (.bool b):=by exact rfl) (hb:b=true:=by exact rfl) (hv:aq env x=some v:=by exact rfl):aj Try.prog (.pick c x y) env h n (some v) []:=mE aa hc hb hv
theorem iD {x y:Operand} {t t':TypeId} {a b:Int} (hx:aq env x=some (.int .i64 a):=by exact rfl) (hy:aq env y=some (.int .i64 b):=by exact rfl) (h0 : -9223372036854775808≤a+b:=by omega) (h1:a+b≤9223372036854775807:=by omega) :
  aj Try.prog (.binOp .add t x y t') env h n (some (.int .i64 (a+b))) []:=ce aa hx hy (bp h0 h1)
theorem iS {r:TyR} {offs:List (Nat×Nat)} {parts:Array (Nat×Operand)} {q:AV} (ht:lk tab t=some r:=by exact rfl) (hd:r.desc=.struct offs:=by exact rfl) (hq:jl tab offs (aq env) parts.toList (.d r.zero)=some q:=by exact rfl) (hag:q.isAgg=true:=by exact rfl) :
  aj Try.prog (.build t parts) env h n (some q) []:=aR aa ht hd hq hag
theorem rW {y:Operand} {r:Nat} {p:List Step} {row row':Row} (h1:RegS Try.prog all sz l (n+8) env ((r,some row')::h) K) (hx:aq env x=some (.ptr r p):=by exact rfl) (hy:aq env y=some v:=by exact rfl) (hr:aT h r=some row:=by exact rfl) (hv:RUpd row p v row':=by exact⟨_,⟨rfl,rfl,rfl⟩,rfl⟩) (hs:bC tab t v=true:=by exact rfl) :
  RegS Try.prog all sz (⟨none,.store t x y,ty,pos,af,none⟩::l) n env h K:=bO (aK aa hx hy hr hv hs) h1
theorem rX {y:Operand} {r:Nat} {p:List Step} {row row':Row} (h1:RegS Try.prog all sz l (n+8) env ((r,some row')::h) K) (hx:aq env x=some (.ptr r p):=by exact rfl) (hy:aq env y=some v:=by exact rfl) (hr:aT h r=some row:=by exact rfl) (hv:RUpd row p v row':=by exact⟨_,⟨_,⟨_,⟨rfl,rfl,rfl⟩,rfl⟩,rfl⟩,rfl⟩) (hs:bC tab t v=true:=by exact rfl) :
  RegS Try.prog all sz (⟨none,.store t x y,ty,pos,af,none⟩::l) n env h K:=bO (aK aa hx hy hr hv hs) h1
end
section
variable {c : Operand} {x y : Code} {b : Bool}
theorem wT (h1:WC Try.prog sz x Q env h n) (hc:aq env c=some (.bool b):=by exact rfl) (hb:b=true:=by assumption):WC Try.prog sz (.cond c x y) Q env h n:=sG hc hb h1
theorem wV (h1:WC Try.prog sz x Q env h n) (hc:aq env c=some (.bool b):=by exact rfl) (hb:b=true:=by exact rfl):WC Try.prog sz (.cond c x y) Q env h n:=sG hc hb h1
theorem wF (h1:WC Try.prog sz y Q env h n) (hc:aq env c=some (.bool b):=by exact rfl) (hb:b=false:=by assumption):WC Try.prog sz (.cond c x y) Q env h n:=pJ hc hb h1
theorem wG (h1:WC Try.prog sz y Q env h n) (hc:aq env c=some (.bool b):=by exact rfl) (hb:b=false:=by exact rfl):WC Try.prog sz (.cond c x y) Q env h n:=pJ hc hb h1
end
section
variable {acc : List bu}
theorem dC (ks rs:List Nat) (h1:RegD Try.prog all sz l (n+8) ((d,v)::env) h (⟨⟨some d,op,ty,pos,af,none⟩,ks,rs,some v,[]⟩::acc) K) (hd:Nat.blt d sz=true:=by exact rfl) (hop:∀K:Option AV→Upds→Prop,K (some v) []→opD tab op (aq (only ks env)) (aT (only rs h)) n K:=by exact fun _ h=>h) :
  RegD Try.prog all sz (⟨some d,op,ty,pos,af,none⟩::l) n env h acc K:=wl ks rs hd (ay aa hop) h1
theorem dQ (ks rs:List Nat) (hs:aj Try.prog op (only ks env) (only rs h) n (some v) []) (h1:RegD Try.prog all sz l (n+8) ((d,v)::env) h (⟨⟨some d,op,ty,pos,af,none⟩,ks,rs,some v,[]⟩::acc) K) (hd:Nat.blt d sz=true:=by exact rfl) :
  RegD Try.prog all sz (⟨some d,op,ty,pos,af,none⟩::l) n env h acc K:=wl ks rs hd hs h1
end
end
section
variable {sz n : Nat} {env : Env} {h : Upds} {all l : List Oper} {Q : Exit → St → Prop} {st : St} {b x y c : Code} {id : Nat} {ops : Array Oper} {cc : Operand} {bb : Bool}
theorem zT (h1:Q .ret ⟨env,h,n,sz,64⟩):RegS Try.prog all sz [] n env h (RegK (SeqQ Try.prog .ret Q) sz):=nS (eD h1)
theorem zB (h1:Q .ret st):BlkQ id (SeqQ Try.prog b Q) .ret st:=h1
theorem zC (h1:WC Try.prog sz b Q env h n):BlkQ id (SeqQ Try.prog b Q) .normal ⟨env,h,n,sz,64⟩:=h1
theorem zW (h1:RegS Try.prog ops.toList sz ops.toList n env h (RegK (SeqQ Try.prog y (SeqQ Try.prog c Q)) sz)):RegS Try.prog all sz [] n env h (RegK (SeqQ Try.prog (.seq (.seq (.region id ops false) y) c) Q) sz):=nQ (sR h1)
theorem zS {i:Nat} (h1:RegS Try.prog ops.toList sz ops.toList n env h (RegK (SeqQ Try.prog y (BlkQ i Q)) sz)):WC Try.prog sz (.block i (.seq (.region id ops false) y)) Q env h n:=cm (sR h1)
theorem zP (h1:WC Try.prog sz c (BlkQ id Q) env h n):RegS Try.prog all sz [] n env h (RegK (SeqQ Try.prog (.block id c) Q) sz):=nS (cm h1)
theorem zG (h1:WC Try.prog sz y Q env h n) (hc:aq env cc=some (.bool bb):=by exact rfl) (hb:bb=false:=by assumption):RegS Try.prog all sz [] n env h (RegK (SeqQ Try.prog (.cond cc x y) Q) sz):=nS (wF h1 hc hb)
theorem zI (h1:WC Try.prog sz x Q env h n) (hc:aq env cc=some (.bool bb):=by exact rfl) (hb:bb=true:=by assumption):RegS Try.prog all sz [] n env h (RegK (SeqQ Try.prog (.cond cc x y) Q) sz):=nS (wT h1 hc hb)
theorem zJ (h1:WC Try.prog sz y Q env h n) (hc:aq env cc=some (.bool bb):=by exact rfl) (hb:bb=false:=by exact rfl):RegS Try.prog all sz [] n env h (RegK (SeqQ Try.prog (.cond cc x y) Q) sz):=nS (wG h1 hc hb)
theorem zO (h1:WC Try.prog sz x Q env h n) (hc:aq env cc=some (.bool bb):=by exact rfl) (hb:bb=true:=by exact rfl):RegS Try.prog all sz [] n env h (RegK (SeqQ Try.prog (.cond cc x y) Q) sz):=nS (wV h1 hc hb)
theorem zQ (h1:WC Try.prog sz x (SeqQ Try.prog y Q) env h n):WC Try.prog sz .skip (SeqQ Try.prog (.seq x y) Q) env h n:=kS (aZ h1)
theorem zX.{u} {α:Type u} {mk:α→St} {Inv:α→Prop} {μ:α→Nat} {a:α} (h1:WC Try.prog sz b Q env h n):WC Try.prog sz (.exit id) (SeqQ Try.prog y (LoopQ (BlkQ id (SeqQ Try.prog b Q)) mk Inv μ a)) env h n:=b8 (dO (eT (dW (aL h1))))
variable {K : Env → Upds → Nat → Prop} {d e f : Tmp} {op oq o3 : Op} {ty tz t3 : TypeId} {pos pot p3 : String} {af ag a3 : Array Edge} {v w u : AV}
theorem zD (h1:RegS Try.prog all sz l (n+8+8) ((e,w)::(d,v)::env) h K) (hd:Nat.blt d sz=true:=by exact rfl) (hop:∀K:Option AV→Upds→Prop,K (some v) []→opD tab op (aq env) (aT h) n K:=by exact fun _ h=>h) (he:Nat.blt e sz=true:=by exact rfl) (hoq:∀K:Option AV→Upds→Prop,K (some w) []→opD tab oq (aq ((d,v)::env)) (aT h) (n+8) K:=by exact fun _ h=>h) :
  RegS Try.prog all sz (⟨some d,op,ty,pos,af,none⟩::⟨some e,oq,tz,pot,ag,none⟩::l) n env h K:=rC (rC h1 he hoq) hd hop
theorem zU (h1:RegS Try.prog all sz l (n+8+8+8) ((f,u)::(e,w)::(d,v)::env) h K) (hd:Nat.blt d sz=true:=by exact rfl) (hop:∀K:Option AV→Upds→Prop,K (some v) []→opD tab op (aq env) (aT h) n K:=by exact fun _ h=>h) (he:Nat.blt e sz=true:=by exact rfl) (hoq:∀K:Option AV→Upds→Prop,K (some w) []→opD tab oq (aq ((d,v)::env)) (aT h) (n+8) K:=by exact fun _ h=>h) (hf:Nat.blt f sz=true:=by exact rfl) (ho3:∀K:Option AV→Upds→Prop,K (some u) []→opD tab o3 (aq ((e,w)::(d,v)::env)) (aT h) (n+8+8) K:=by exact fun _ h=>h) :
  RegS Try.prog all sz (⟨some d,op,ty,pos,af,none⟩::⟨some e,oq,tz,pot,ag,none⟩::⟨some f,o3,t3,p3,a3,none⟩::l) n env h K:=rC (zD h1 he hoq hf ho3) hd hop
end
end Go.Proofs.Ytkehohfgbblokaa
namespace Go.Proofs.Ytkehohfgbblokaa
open Go.Eng Go.Plain
set_option maxHeartbeats 32000000
set_option maxRecDepth 20000
abbrev bo (b:Bool):D :=.sc (.bool b)
abbrev i6 (n:Int):D :=.sc (.int .i64 n)
abbrev u8s (n:Int):D :=.sc (.int .u8 n)
abbrev encB (l:List UInt8):D :=.arr 1 cD (byI l)
theorem gh (l:List UInt8):(byI l).length=l.length:=by simp[byI]
theorem l9 {l:List UInt8} {j:Nat} {b:UInt8} (h:l[j]?=some b):(byI l)[j]?=some (b.toNat:Int):=by simp[byI,h]
def cW (o:POp):D :=.cons (u8s o.kind) (.cons (i6 o.index) (.cons (encB o.data) .nil))
abbrev encP (p:List POp):D :=.arr 3 cW p
abbrev Bx (l:List (List POp)):D :=.arr 1 encP l
def idxF {α:Type} (p:α→Bool) (l:List α):Int:=match l.findIdx? p with
 | some i=>i
 | none => -1
theorem tY {α:Type} {p:α→Bool} {l:List α} {i:Nat} {x:α} (hx:l[i]?=some x) (hp:p x=true) (hn:∀j,j<i→∀y,l[j]?=some y→p y=false):idxF p l=i:=by
 have:l.findIdx? p=some i:=by
  rw[List.findIdx?_eq_some_iff_getElem]
  obtain⟨h1,h2⟩:=List.getElem?_eq_some_iff.1 hx
  refine⟨h1,by rw[h2]; exact hp,fun j hj=>?_⟩
  have:=hn j hj _ (List.getElem?_eq_getElem (by omega))
  simp[this]
 simp[idxF,this]
theorem tZ {α:Type} {p:α→Bool} {l:List α} (hn:∀(j:Nat) (y:α),l[j]?=some y→p y=false):idxF p l = -1:=by
 have:l.findIdx? p=none:=by
  rw[List.findIdx?_eq_none_iff]
  intro x hx
  obtain⟨j,hj⟩:=List.mem_iff_getElem?.1 hx
  exact hn j x hj
 simp[idxF,this]
theorem vW {α:Type} (p:α→Bool) (l:List α):decide (0≤idxF p l)=l.any p:=by
 cases h:l.any p with
 | true =>
  have:(l.findIdx? p).isSome=true:=by rw[List.findIdx?_isSome]; exact h
  obtain⟨i,hi⟩:=Option.isSome_iff_exists.1 this
  simp only[idxF,hi]
  exact dT (by omega)
 | false =>
  have:l.findIdx? p=none:=by
   rw[List.findIdx?_eq_none_iff]
   intro x hx
   rw[List.any_eq_false]at h
   simpa using h x hx
  simp only[idxF,this]
  rfl
end Go.Proofs.Ytkehohfgbblokaa
namespace Go.Plain
open Go.Eng Go.Lib
end Go.Plain
namespace Go.Eng
open Go.RowKit
section
variable {P : Program} {T : Tab} {env : Env} {h : Upds} {n : Nat}
end
end Go.Eng
namespace Go.Eng
open Go.RowKit
section
variable {P : Program} {T : Tab} {env : Env} {h : Upds} {n : Nat}
end
end Go.Eng
namespace Go.Proofs.Ytkehohfgbblokaa
open Go.Eng Go.Plain Go.RowKit
set_option maxHeartbeats 32000000
set_option maxRecDepth 20000
def BF (l:List UInt8):Int:=match Lib.atoiAll l with
 | .ok v=>v
 | .range=>Lib.atoiSat l
 | _=>0
def okA {α:Type} (p:α→Bool) (x:α):AV:=bif p x then .d (.sc .nilIface) else .er
def y7 (l:List UInt8):Bool:=match Lib.atoiAll l with
 | .ok _=>true
 | _=>false
def puOk (l:List UInt8):Bool:=match Lib.parseUintB 8 l with
 | .ok _=>true
 | _=>false
def puV (l:List UInt8):Int:=match Lib.parseUintB 8 l with
 | .ok u=>u
 | .range=>255
 | _=>0
def erA (b:Bool):AV:=bif b then .d (.sc .nilIface) else .er
def cutA (l:List UInt8) (c:UInt8):List UInt8×List UInt8×Bool:=match cutL l c with
 | none=>(l,[],false)
 | some (p,q)=>(p,q,true)
end Go.Proofs.Ytkehohfgbblokaa
namespace Go.Proofs.Ytkehohfgbblokaa
open Go.Eng
attribute [local irreducible] WC RegS RegD SeqQ BlkQ ScoQ RegK CutK Sat SatN FnIs LoopQ aj OpIs
def bAV (b:Bool) (r:Nat):AV:=match b with
 | true=>.d (.sc nilp)
 | false=>.ptr r []
abbrev rowT (l:List UInt8):Row :=.ds 5 1 false cD (byI l)
end Go.Proofs.Ytkehohfgbblokaa
namespace Go.Eng
open Go.RowKit
section
variable {P : Program} {T : Tab} {env : Env} {h : Upds} {n : Nat}
theorem eA (hT:an P T) {x y:Operand} {t t':TypeId} {k:IntKind} {a b:Nat} {c:Int} (hx:aq env x=some (.int k a)) (hy:aq env y=some (.int k c)) (hc:c=(b:Int)) (hb:b≠0):aj P (.binOp .rem t x y t') env h n (some (.int k ((a % b:Nat):Int))) []:=by
 subst hc
 have:=xb (P:=P) (h:=h) (n:=n) (t:=t) (t':=t') hT hx hy (by omega:(b:Int)≠0)
 rwa [show ((a:Int).tmod b)=((a % b:Nat):Int) from rfl]at this
theorem uG {a:Nat} (h:a<256):IntKind.u8.wrap (a:Int)=(a:Int):=by
 simp[IntKind.wrap,IntKind.signed,IntKind.bits]
 omega
end
end Go.Eng
namespace Go.Proofs.Ytkehohfgbblokaa
open Go.Eng Go.Plain
set_option maxHeartbeats 32000000
set_option maxRecDepth 20000
attribute [local irreducible] WC RegS RegD SeqQ BlkQ ScoQ RegK CutK Sat SatN FnIs LoopQ aj OpIs
end Go.Proofs.Ytkehohfgbblokaa
namespace Go.Plain
open Go.Eng Go.Lib
def nibV (c:UInt8):Nat:=(indexByte hexD c).toNat
def vx:List UInt8→List Int
 | []=>[]
 | [a]=>[(nibV a:Int)]
 | a::b::l=>((nibV a*16+nibV b:Nat):Int)::vx l
def uX (m:Nat) (s:List UInt8) (i:Nat):List Int:=vx (s.take i)++List.replicate (m-(i+1)/2) 0
end Go.Plain
namespace Go.Proofs.Ytkehohfgbblokaa
open Go.Eng Go.Plain
set_option maxHeartbeats 32000000
set_option maxRecDepth 20000
attribute [local irreducible] WC RegS RegD SeqQ BlkQ ScoQ RegK CutK Sat SatN FnIs LoopQ aj OpIs
abbrev unR (o:Option (List UInt8)):AV :=.tup (.acons (.d (encB (o.getD []))) (.acons (.bool o.isSome) .anil))
theorem nil_arr {α:Type} (s:Nat) (enc:α→D):AVLe (.d (.sc nil_)) (.d (.arr s enc [])):=fun σ w X v h=>AVLe.empty_arr s enc σ w X v (AVLe.nil_empty σ w X v h)
end Go.Proofs.Ytkehohfgbblokaa
namespace Go.Plain
open Go.Eng Go.Lib
end Go.Plain
namespace Go.Proofs.Ytkehohfgbblokaa
open Go.Eng Go.Plain
set_option maxHeartbeats 32000000
set_option maxRecDepth 20000
attribute [local irreducible] WC RegS RegD SeqQ BlkQ ScoQ RegK CutK Sat SatN FnIs LoopQ aj OpIs
abbrev rowS (l:List (List UInt8)):Row :=.ds 9 1 false strD l
abbrev encWs (x:List (List UInt8)):D :=.arr 1 strD x
abbrev FL (ls:List (List (List UInt8))) (i:Nat):Nat:=(ls.take i).flatten.length
def opV (k i d:List UInt8):POp:=⟨puV k,BF i,(oK d).getD []⟩
def opOk (k i d:List UInt8):Bool:=(oK d).isSome&&puOk k&&y7 i
abbrev opR (o:POp) (b:Bool):AV :=.tup (.acons (.d (cW o)) (.acons (.bool b) .anil))
def x3:POp:=⟨0,0,[]⟩
def opW (w:List (List UInt8)):POp×Bool:=match w with
 | [k,i,d]=>(opV k i d,opOk k i d)
 | _=>(x3,false)
end Go.Proofs.Ytkehohfgbblokaa
namespace Go.Eng
open Go.RowKit
section
variable {P : Program} {T : Tab} {env : Env} {h : Upds} {n : Nat}
theorem sb {t kt et:TypeId} {κ:Type} [DecidableEq κ] {enc:κ→D} {m r:Nat} {x y z:Operand} {k:κ} {l:List (κ×AV)} {v:AV} (K:ea P kt enc m) (ht:P.underlying t=some (.map kt et))
  (hx:aq env x=some (.mapr r)) (hy:aq env y=some (.d (enc k))) (hz:aq env z=some v) (hr:aT h r=some (.mo (mapC enc l))) (hf:cJ k l 0=none) :
  aj P (.insert t x y z) env h n none [(r,some (.mo (mapC enc (l++[(k,v)]))))]:=.of_comes fun C G st σ w a o ho hA hd hst hn=>by
 have h1:=(au hst (hA.ev hx)).1
 have h2:=(au hst (hA.ev hy)).1
 obtain⟨h3,h4⟩:=au hst (hA.ev hz)
 have hrow:=hA.row _ _ hr
 obtain⟨b,c,hs,hux⟩:=RelV.mapr.1 h1
 obtain⟨b',es,hb1,hb2,hb3,hb4⟩:=hst.rows r _ hrow
 rw[hs]at hb2
 cases hb2
 have hl:=(bV l _).1 hb4
 have hin:(mapC enc l).within G:=(hst.rowsG r _ hrow).2
 have hfd:=K.found h2 hl
 rw[hf]at hfd
 have hst':=hst.writeObj (o' :=.map (es.push { key:=a.eval y,val:=a.eval z,born:=es.size }) (es.size+1)) (row :=.mo (mapC enc (l++[(k,v)]))) hrow hs hb3 rfl
  ((cg _).2 fun p hp=>by
   rcases List.mem_append.1 hp with hp | hp
   ·exact (cg l).1 hin p hp
   ·rw[List.mem_singleton.1 hp]; exact h4)
  (fun w' ht' hh'=>⟨b,es.push { key:=a.eval y,val:=a.eval z,born:=es.size },fun i e he=>by
   rw[Array.getElem?_push]at he
   split at he
   ·rename_i hi; subst hi; cases he; rfl
   ·exact hb1 i e he,hs,by rw[Array.size_push]; exact hh',(bV _ _).2 (by
    rw[Array.toList_push]
    exact bK.snoc (RelV.carry (G:=G) ht' trivial h2) (RelV.carry (G:=G) ht' h4 h3) l _ (bK.mono ht' hin hl))⟩)
 refine⟨none,_,.skip,undef, { w with heap:=w.heap.setIfInBounds b (.map (es.push { key:=a.eval y,val:=a.eval z,born:=es.size }) (es.size+1)) },σ,G,⟨rfl,rfl⟩,?_,.inr ⟨rfl,rfl⟩,?_,fun _ h=>h,fun _ h=>.inl h⟩
 ·have hget:(getObj b).run P w=.ok (.map es es.size) w:=by simp[getObj,Sem.run,hb3]
  have hset:=jW P w b (.map (es.push { key:=a.eval y,val:=a.eval z,born:=es.size }) (es.size+1)) hb3
  simp only[execOp,ho,Instr.mapUpdate,hux,Sem.run_bind,run_underlying ht,hget,Result.andThen_ok,K.check h2,hfd,hset,Sem.run_pure]
 ·rw[St.put_upd]
  exact hst'.set hd (v:=none) (ec _ _ _) trivial
end
end Go.Eng
namespace Go.Proofs.Ytkehohfgbblokaa
open Go.Eng Go.Plain
set_option maxHeartbeats 32000000
set_option maxRecDepth 20000
attribute [local irreducible] WC RegS RegD SeqQ BlkQ ScoQ RegK CutK Sat SatN FnIs LoopQ aj OpIs
abbrev fnA (f:Nat):AV :=.fn (.func f) .anil .anil
end Go.Proofs.Ytkehohfgbblokaa
namespace Go.Eng
open Go.RowKit
section
variable {P : Program} {T : Tab} {env : Env} {h : Upds} {n : Nat}
end
end Go.Eng
namespace Go.Proofs.Ytkehohfgbblokaa
open Go.Eng Go.Plain
set_option maxHeartbeats 32000000
set_option maxRecDepth 20000
attribute [local irreducible] WC RegS RegD SeqQ BlkQ ScoQ RegK CutK Sat SatN FnIs LoopQ aj OpIs
abbrev wk (p:List POp):D :=.arx 3 cW p
abbrev encXL (l:List (List POp)):D :=.arr 1 wk l
def Bd (l:List (List POp)):Prop:=l.length≤1000000000∧∀p∈l,p.length≤1000000000
def partT (l:List (List POp)) (i:Nat) (p:List POp) (j:Nat):List UInt8:=A9 (l.take i)++(lZ++10::opsT (p.take j))
end Go.Proofs.Ytkehohfgbblokaa
namespace Go.Eng
open Go.RowKit
def chM (A:AV):List D→AV
 | []=>.acons A .anil
 | d::l=>.acons (.d d) (chM A l)
theorem s6 {σ:aF} {w:World} {X:Nat→Prop} {α:Type} {enc:α→D}:∀(xs:List α) (f:Nat→List Value),(∀i (h:i<xs.length),Enc w X (enc xs[i]) (f i))→Rel σ w X (dsAV (xs.map enc)) false (cat f xs.length)
 | [],f,_=>rfl
 | x::xs,f,h=>by
  rw[List.length_cons,Nat.add_comm xs.length 1,fg 1]
  refine⟨f 0,cat (fun i=>f (1+i)) xs.length,by simp only[cat,List.nil_append],h 0 (by simp),?_⟩
  exact s6 xs (fun i=>f (1+i)) fun i hi=>by
   show Enc w X (enc xs[i]) (f (1+i))
   rw[Nat.add_comm 1 i]
   exact h (i+1) (by simpa using hi)
end Go.Eng
namespace Go.Proofs.Ytkehohfgbblokaa
open Go.Eng Go.Plain
set_option maxHeartbeats 32000000
set_option maxRecDepth 20000
attribute [local irreducible] WC RegS RegD SeqQ BlkQ ScoQ RegK CutK Sat SatN FnIs LoopQ aj OpIs
def encO:Option (List POp)→D
 | none=>.sc nil_
 | some p=>encP p
abbrev rowP (p:List POp):Row :=.ds 25 3 false cW p
end Go.Proofs.Ytkehohfgbblokaa
namespace Go.Plain
open Go.Eng Go.Lib
end Go.Plain
namespace Go.Proofs.Ytkehohfgbblokaa
open Go.Eng Go.Plain
set_option maxHeartbeats 32000000
set_option maxRecDepth 20000
attribute [local irreducible] WC RegS RegD SeqQ BlkQ ScoQ RegK CutK Sat SatN FnIs LoopQ aj OpIs
end Go.Proofs.Ytkehohfgbblokaa
namespace Go.Proofs.Ytkehohfgbblokaa
open Go.Eng Go.Plain
set_option maxHeartbeats 32000000
set_option maxRecDepth 20000
abbrev addA (t:List UInt8):List AV:=[.d (strD t),.ptr 0 [],.ptr 1 []]
end Go.Proofs.Ytkehohfgbblokaa
namespace Go.Proofs.Ytkehohfgbblokaa
open Go.Eng Go.Plain
set_option maxHeartbeats 32000000
set_option maxRecDepth 20000
attribute [local irreducible] WC RegS RegD SeqQ BlkQ ScoQ RegK CutK Sat SatN FnIs LoopQ aj OpIs
abbrev parR (l:List (List POp)) (n:Nat) (e:Int):AV :=.tup (.acons (.d (.arx 1 wk l)) (.acons (.int .i64 n) (.acons (.d (i6 e)) .anil)))
theorem ia {α:Type} (s:Nat) (enc:α→D):AVLe (.d (.sc nil_)) (.d (.arx s enc [])):=fun σ w X v h=>AVLe.empty_arx s enc σ w X v (AVLe.nil_empty σ w X v h)
def toL:Option (List (List POp)×List POp)→List (List POp)
 | none=>[]
 | some (l,p)=>l++[p]
def enc2:Bool×List POp→D
 | (true,p)=>wk p
 | (false,p)=>encP p
def mkL (L:List (List POp)) (i:Nat):List (Bool×List POp):=(L.take i).map (fun p=>(true,p))++(L.drop i).map (fun p=>(false,p))
def PInv (s0:List UInt8):Option (List (List POp)×List POp)×List UInt8×Nat→Prop
 | (q,s,n)=>rI s (toL q) n=rI s0 [] 1∧chkP (toL q)=0∧OkL (toL q)∧s.length+n≤s0.length+1∧1≤n
end Go.Proofs.Ytkehohfgbblokaa
namespace Go.Proofs.Ytkehohfgbblokaa
open Go.Eng Go.Plain
set_option maxHeartbeats 32000000
set_option maxRecDepth 20000
abbrev bd (l:List UInt8):D :=.vec 32 1 cD (byI l)
structure HEv where
 kind:Int
 client:Int
 op:POp
 value:List UInt8
 err:Int
 deriving DecidableEq
structure HEv.Ok (x:HEv):Prop where
 kind:0≤x.kind∧x.kind≤255
 client : -9223372036854775808≤x.client∧x.client≤9223372036854775807
 op:x.op.Ok
 value:x.value.length=32
 err : -9223372036854775808≤x.err∧x.err≤9223372036854775807
def cv (x:HEv):D :=.cons (u8s x.kind) (.cons (i6 x.client) (.cons (cW x.op) (.cons (bd x.value) (.cons (i6 x.err) .nil))))
abbrev encH (l:List HEv):D :=.arr 38 cv l
abbrev encHL (l:List (List HEv)):D :=.arr 1 encH l
def zBk:List UInt8:=[0,0,0,0,0,0,0,0,0,0,0,0,0,0,0,0,0,0,0,0,0,0,0,0,0,0,0,0,0,0,0,0]
def zOp:POp:=⟨0,0,[]⟩
structure HOp where
 client:Int
 number:Int
 era:Int
 op:POp
 invoked:Int
 returned:Int
 value:List UInt8
 err:Int
 deriving DecidableEq
def bh (x:HOp):D :=.cons (i6 x.client) (.cons (i6 x.number) (.cons (i6 x.era) (.cons (cW x.op) (.cons (i6 x.invoked) (.cons (i6 x.returned) (.cons (bd x.value) (.cons (i6 x.err) .nil)))))))
abbrev gu (l:List HOp):D :=.arr 41 bh l
theorem xJ {a b:List UInt8}:byI a=byI b↔a=b:=by
 constructor
 ·intro h
  induction a generalizing b with
  | nil=>cases b with
   | nil=>rfl
   | cons y b=>simp[byI]at h
  | cons x a ih=>cases b with
   | nil=>simp[byI]at h
   | cons y b =>
    simp only[byI,List.map_cons,List.cons.injEq]at h
    rw[ih h.2,UInt8.toNat_inj.1 (Int.ofNat.inj h.1)]
 ·rintro rfl; rfl
theorem cQ (a b:List UInt8):EqOk Try.prog 2 27 (bd a) (bd b) (decide (a=b)):=
 (yQ aa (P:=Try.prog) Try.underlying27 rfl (fun _=>rfl) rfl (fun _ _=>sh (P:=Try.prog) Try.underlying5)).cast (decide_eq_decide.2 xJ)
end Go.Proofs.Ytkehohfgbblokaa
namespace Go.Proofs.Ytkehohfgbblokaa
open Go.Eng Go.Plain
set_option maxHeartbeats 32000000
set_option maxRecDepth 20000
attribute [local irreducible] WC RegS RegD SeqQ BlkQ ScoQ RegK CutK Sat SatN FnIs LoopQ aj OpIs
def outO (o:POp) (b:Int):Bool:=decide (o.index<0)||decide (b≤o.index)
def badO (o:POp) (b:Int):Bool:=if o.kind=1 then outO o b else if o.kind=2 then outO o b || !decide (o.data.length=32) else !decide (o.kind=3)
theorem Bp (o:POp):decide (((byI o.data).length:Int)=32)=decide (o.data.length=32):=by
 rw[gh]
 by_cases h:o.data.length=32
 ·rw[dT h,dT (by omega)]
 ·rw[dF h,dF (by omega)]
theorem wE (o:POp) (b:Int) (hk:o.kind=1) (c1 c2 c3:Bool) (h1:decide (o.index<0)=c1) (h2:decide (b≤o.index)=c2) (h3:decide (((byI o.data).length:Int)=32)=c3):FnIs Try.prog 38 [.d (cW o),.int .i64 b] [] (.bool (c1||c2)) []:=by
 have hk1:decide (o.kind=1)=true:=dT (by omega)
 refine aG aa Try.func38 rfl rfl rfl ?_
 cases c1 <;> cases c2 <;> cases c3
 ·refine sR<|rN ?_;refine rC<|nR ?_;refine rC ?_;refine rQ iB ?_;refine zD ?_;refine rO ?_;refine rC ?_;refine rO ?_;refine rQ iB ?_;refine rO ?_;refine rC ?_;refine rO ?_;refine rC ?_;refine rQ iF ?_;refine rC<|zW ?_;refine rC ?_;refine rQ iB<|zP<|sR ?_;refine zD ?_;refine zI<|sR ?_;refine zD<|zT<|zB ?_
  simp only[h1,h2]
  exact⟨trivial,[],lf⟩
 ·refine sR<|rN ?_;refine rC<|nR ?_;refine rC ?_;refine rQ iB ?_;refine zD ?_;refine rO ?_;refine rC ?_;refine rO ?_;refine rQ iB ?_;refine rO ?_;refine rC ?_;refine rO ?_;refine rC ?_;refine rQ iF ?_;refine rC<|zW ?_;refine rC ?_;refine rQ iB<|zP<|sR ?_;refine zD ?_;refine zI<|sR ?_;refine zD<|zT<|zB ?_
  simp only[h1,h2]
  exact⟨trivial,[],lf⟩
 ·refine sR<|rN ?_;refine rC<|nR ?_;refine rC ?_;refine rQ iB ?_;refine zD ?_;refine rO ?_;refine rC ?_;refine rO ?_;refine rQ iB ?_;refine rO ?_;refine rC ?_;refine rO ?_;refine rC ?_;refine rQ iF ?_;refine rC<|zW ?_;refine rC ?_;refine rQ iB<|zP<|sR ?_;refine zD ?_;refine zI<|sR ?_;refine zD<|zT<|zB ?_
  simp only[h1,h2]
  exact⟨trivial,[],lf⟩
 ·refine sR<|rN ?_;refine rC<|nR ?_;refine rC ?_;refine rQ iB ?_;refine zD ?_;refine rO ?_;refine rC ?_;refine rO ?_;refine rQ iB ?_;refine rO ?_;refine rC ?_;refine rO ?_;refine rC ?_;refine rQ iF ?_;refine rC<|zW ?_;refine rC ?_;refine rQ iB<|zP<|sR ?_;refine zD ?_;refine zI<|sR ?_;refine zD<|zT<|zB ?_
  simp only[h1,h2]
  exact⟨trivial,[],lf⟩
 ·refine sR<|rN ?_;refine rC<|nR ?_;refine rC ?_;refine rQ iB ?_;refine zD ?_
  iterate 4 refine rS ?_
  refine rQ iT ?_;refine rC<|zW ?_;refine rC ?_;refine rQ iB<|zP<|sR ?_;refine zD ?_;refine zI<|sR ?_;refine zD<|zT<|zB ?_
  simp only[h1,h2]
  exact⟨trivial,[],lf⟩
 ·refine sR<|rN ?_;refine rC<|nR ?_;refine rC ?_;refine rQ iB ?_;refine zD ?_
  iterate 4 refine rS ?_
  refine rQ iT ?_;refine rC<|zW ?_;refine rC ?_;refine rQ iB<|zP<|sR ?_;refine zD ?_;refine zI<|sR ?_;refine zD<|zT<|zB ?_
  simp only[h1,h2]
  exact⟨trivial,[],lf⟩
 ·refine sR<|rN ?_;refine rC<|nR ?_;refine rC ?_;refine rQ iB ?_;refine zD ?_
  iterate 4 refine rS ?_
  refine rQ iT ?_;refine rC<|zW ?_;refine rC ?_;refine rQ iB<|zP<|sR ?_;refine zD ?_;refine zI<|sR ?_;refine zD<|zT<|zB ?_
  simp only[h1,h2]
  exact⟨trivial,[],lf⟩
 ·refine sR<|rN ?_;refine rC<|nR ?_;refine rC ?_;refine rQ iB ?_;refine zD ?_
  iterate 4 refine rS ?_
  refine rQ iT ?_;refine rC<|zW ?_;refine rC ?_;refine rQ iB<|zP<|sR ?_;refine zD ?_;refine zI<|sR ?_;refine zD<|zT<|zB ?_
  simp only[h1,h2]
  exact⟨trivial,[],lf⟩
theorem uz (o:POp) (b:Int) (hk:o.kind=2) (c1 c2 c3:Bool) (h1:decide (o.index<0)=c1) (h2:decide (b≤o.index)=c2) (h3:decide (((byI o.data).length:Int)=32)=c3):FnIs Try.prog 38 [.d (cW o),.int .i64 b] [] (.bool (c1||c2 || !c3)) []:=by
 have hk1:decide (o.kind=1)=false:=dF (by omega)
 have hk2:decide (o.kind=2)=true:=dT (by omega)
 refine aG aa Try.func38 rfl rfl rfl ?_
 cases c1 <;> cases c2 <;> cases c3
 ·refine sR<|rN ?_;refine rC<|nR ?_;refine rC ?_;refine rQ iB ?_;refine zD ?_;refine rO ?_;refine rC ?_;refine rO ?_;refine rQ iB ?_;refine rO ?_;refine rC ?_;refine rO ?_;refine rC ?_;refine rQ iF ?_;refine rC<|zW ?_;refine rC ?_;refine rQ iB<|zP<|sR ?_;refine zD ?_;refine zG<|sR ?_;refine zD ?_;refine zI<|sR ?_;refine zD ?_;refine rO ?_;refine rC ?_;refine rO ?_;refine rQ iB ?_;refine rO ?_;refine rQ iE ?_;refine rO ?_;refine rC ?_;refine rQ iF ?_;refine rC<|zT<|zB ?_
  simp only[h1,h2,h3]
  exact⟨trivial,[],lf⟩
 ·refine sR<|rN ?_;refine rC<|nR ?_;refine rC ?_;refine rQ iB ?_;refine zD ?_;refine rO ?_;refine rC ?_;refine rO ?_;refine rQ iB ?_;refine rO ?_;refine rC ?_;refine rO ?_;refine rC ?_;refine rQ iF ?_;refine rC<|zW ?_;refine rC ?_;refine rQ iB<|zP<|sR ?_;refine zD ?_;refine zG<|sR ?_;refine zD ?_;refine zI<|sR ?_;refine zD ?_;refine rO ?_;refine rC ?_;refine rO ?_;refine rQ iB ?_;refine rO ?_;refine rQ iE ?_;refine rO ?_;refine rC ?_;refine rQ iF ?_;refine rC<|zT<|zB ?_
  simp only[h1,h2,h3]
  exact⟨trivial,[],lf⟩
 ·refine sR<|rN ?_;refine rC<|nR ?_;refine rC ?_;refine rQ iB ?_;refine zD ?_;refine rO ?_;refine rC ?_;refine rO ?_;refine rQ iB ?_;refine rO ?_;refine rC ?_;refine rO ?_;refine rC ?_;refine rQ iF ?_;refine rC<|zW ?_;refine rC ?_;refine rQ iB<|zP<|sR ?_;refine zD ?_;refine zG<|sR ?_;refine zD ?_;refine zI<|sR ?_;refine zD ?_
  iterate 4 refine rS ?_
  refine rQ iT ?_;refine rC<|zT<|zB ?_
  simp only[h1,h2,h3]
  exact⟨trivial,[],lf⟩
 ·refine sR<|rN ?_;refine rC<|nR ?_;refine rC ?_;refine rQ iB ?_;refine zD ?_;refine rO ?_;refine rC ?_;refine rO ?_;refine rQ iB ?_;refine rO ?_;refine rC ?_;refine rO ?_;refine rC ?_;refine rQ iF ?_;refine rC<|zW ?_;refine rC ?_;refine rQ iB<|zP<|sR ?_;refine zD ?_;refine zG<|sR ?_;refine zD ?_;refine zI<|sR ?_;refine zD ?_
  iterate 4 refine rS ?_
  refine rQ iT ?_;refine rC<|zT<|zB ?_
  simp only[h1,h2,h3]
  exact⟨trivial,[],lf⟩
 ·refine sR<|rN ?_;refine rC<|nR ?_;refine rC ?_;refine rQ iB ?_;refine zD ?_
  iterate 4 refine rS ?_
  refine rQ iT ?_;refine rC<|zW ?_;refine rC ?_;refine rQ iB<|zP<|sR ?_;refine zD ?_;refine zG<|sR ?_;refine zD ?_;refine zI<|sR ?_;refine zD ?_
  iterate 4 refine rT ?_
  refine rQ iU ?_;refine rC<|zT<|zB ?_
  simp only[h1,h2,h3]
  exact⟨trivial,[],lf⟩
 ·refine sR<|rN ?_;refine rC<|nR ?_;refine rC ?_;refine rQ iB ?_;refine zD ?_
  iterate 4 refine rS ?_
  refine rQ iT ?_;refine rC<|zW ?_;refine rC ?_;refine rQ iB<|zP<|sR ?_;refine zD ?_;refine zG<|sR ?_;refine zD ?_;refine zI<|sR ?_;refine zD ?_
  iterate 4 refine rT ?_
  refine rQ iU ?_;refine rC<|zT<|zB ?_
  simp only[h1,h2,h3]
  exact⟨trivial,[],lf⟩
 ·refine sR<|rN ?_;refine rC<|nR ?_;refine rC ?_;refine rQ iB ?_;refine zD ?_
  iterate 4 refine rS ?_
  refine rQ iT ?_;refine rC<|zW ?_;refine rC ?_;refine rQ iB<|zP<|sR ?_;refine zD ?_;refine zG<|sR ?_;refine zD ?_;refine zI<|sR ?_;refine zD ?_
  iterate 4 refine rT ?_
  refine rQ iU ?_;refine rC<|zT<|zB ?_
  simp only[h1,h2,h3]
  exact⟨trivial,[],lf⟩
 ·refine sR<|rN ?_;refine rC<|nR ?_;refine rC ?_;refine rQ iB ?_;refine zD ?_
  iterate 4 refine rS ?_
  refine rQ iT ?_;refine rC<|zW ?_;refine rC ?_;refine rQ iB<|zP<|sR ?_;refine zD ?_;refine zG<|sR ?_;refine zD ?_;refine zI<|sR ?_;refine zD ?_
  iterate 4 refine rT ?_
  refine rQ iU ?_;refine rC<|zT<|zB ?_
  simp only[h1,h2,h3]
  exact⟨trivial,[],lf⟩
theorem uA (o:POp) (b:Int) (hk1:¬o.kind=1) (hk2:¬o.kind=2) (c1 c2:Bool) (h1:decide (o.index<0)=c1) (h2:decide (b≤o.index)=c2):FnIs Try.prog 38 [.d (cW o),.int .i64 b] [] (.bool (!decide (o.kind=3))) []:=by
 have hk1:decide (o.kind=1)=false:=dF (by omega)
 have hk2:decide (o.kind=2)=false:=dF (by omega)
 refine aG aa Try.func38 rfl rfl rfl ?_
 cases c1 <;> cases c2
 ·refine sR<|rN ?_;refine rC<|nR ?_;refine rC ?_;refine rQ iB ?_;refine zD ?_;refine rO ?_;refine rC ?_;refine rO ?_;refine rQ iB ?_;refine rO ?_;refine rC ?_;refine rO ?_;refine rC ?_;refine rQ iF ?_;refine rC<|zW ?_;refine rC ?_;refine rQ iB<|zP<|sR ?_;refine zD ?_;refine zG<|sR ?_;refine zD ?_;refine zG<|bg<|zC<|sR ?_;refine rC ?_;refine rQ iB ?_;refine zD<|zT ?_
  exact⟨trivial,[],lf⟩
 ·refine sR<|rN ?_;refine rC<|nR ?_;refine rC ?_;refine rQ iB ?_;refine zD ?_;refine rO ?_;refine rC ?_;refine rO ?_;refine rQ iB ?_;refine rO ?_;refine rC ?_;refine rO ?_;refine rC ?_;refine rQ iF ?_;refine rC<|zW ?_;refine rC ?_;refine rQ iB<|zP<|sR ?_;refine zD ?_;refine zG<|sR ?_;refine zD ?_;refine zG<|bg<|zC<|sR ?_;refine rC ?_;refine rQ iB ?_;refine zD<|zT ?_
  exact⟨trivial,[],lf⟩
 ·refine sR<|rN ?_;refine rC<|nR ?_;refine rC ?_;refine rQ iB ?_;refine zD ?_
  iterate 4 refine rS ?_
  refine rQ iT ?_;refine rC<|zW ?_;refine rC ?_;refine rQ iB<|zP<|sR ?_;refine zD ?_;refine zG<|sR ?_;refine zD ?_;refine zG<|bg<|zC<|sR ?_;refine rC ?_;refine rQ iB ?_;refine zD<|zT ?_
  exact⟨trivial,[],lf⟩
 ·refine sR<|rN ?_;refine rC<|nR ?_;refine rC ?_;refine rQ iB ?_;refine zD ?_
  iterate 4 refine rS ?_
  refine rQ iT ?_;refine rC<|zW ?_;refine rC ?_;refine rQ iB<|zP<|sR ?_;refine zD ?_;refine zG<|sR ?_;refine zD ?_;refine zG<|bg<|zC<|sR ?_;refine rC ?_;refine rQ iB ?_;refine zD<|zT ?_
  exact⟨trivial,[],lf⟩
theorem y6 (o:POp) (b:Int):FnIs Try.prog 38 [.d (cW o),.int .i64 b] [] (.bool (badO o b)) []:=by
 by_cases k1:o.kind=1
 ·have:=wE o b k1 _ _ _ rfl rfl rfl
  rwa [show badO o b=(decide (o.index<0)||decide (b≤o.index)) by rw[badO,if_pos k1,outO]]
 ·by_cases k2:o.kind=2
  ·have:=uz o b k2 _ _ _ rfl rfl rfl
   rwa [show badO o b=(decide (o.index<0)||decide (b≤o.index) || !decide (((byI o.data).length:Int)=32)) by rw[badO,if_neg k1,if_pos k2,outO,Bp]]
  ·have:=uA o b k1 k2 _ _ rfl rfl
   rwa [show badO o b = !decide (o.kind=3) by rw[badO,if_neg k1,if_neg k2]]
def preO (l:List (List POp)) (i:Nat) (p:List POp) (j:Nat):List POp:=(l.take i).flatten++p.take j
def cK (k:Int) (l:List POp):Nat:=l.countP fun o=>decide (o.kind=k)
def cO (l:List POp):Nat:=l.countP fun o => !decide (o.kind=1) && !decide (o.kind=2) && !decide (o.kind=3)
def BU (l:List (List POp)):Prop:=l.length≤12∧l.flatten.length≤200∧∀p∈l,p.length≤66∧∀o∈p,o.data.length≤70
def BO (l:List (List POp)):Bool:=decide (l.length≤12)&&decide (l.flatten.length≤200)&&l.all fun p=>decide (p.length≤66)&&p.all fun o=>decide (o.data.length≤70)
abbrev r01 (b:Bool):AV :=.d (i6 (if b=true then 1 else 0))
abbrev k4 (l:List POp):D :=.cons (i6 (cK 1 l)) (.cons (i6 (cK 2 l)) (.cons (i6 (cK 3 l)) (.cons (i6 (cO l)) .nil)))
def zr (n:Int) (s:List Int×Bool) (x:Int):List Int×Bool :=
 let t:=if s.2=false∧n≤x then (s.1++[n],true) else s
 (if x=n then t.1 else t.1++[x],t.2)
def wPre (n:Int) (l:List Int):List Int×Bool:=l.foldl (zr n) ([],false)
def zq (l:List Int) (n:Int):List Int:=if (wPre n l).2=true then (wPre n l).1 else (wPre n l).1++[n]
def bi (b:Bool):Int:=if b then 1 else 0
abbrev rowI (l:List Int):Row :=.ds 3 1 false i6 l
end Go.Proofs.Ytkehohfgbblokaa
namespace Go.Proofs.Ytkehohfgbblokaa
open Go.Eng Go.Plain
set_option maxHeartbeats 32000000
set_option maxRecDepth 20000
def uB:Bool→Nat
 | true=>0
 | false=>1
def touB (b:Int) (o:POp):Bool := !decide (o.kind=3) && !badO o b
def touS (b:Int) (acc:List Int) (o:POp):List Int:=if touB b o=true then zq acc o.index else acc
def touL (b:Int) (l:List POp):List Int:=l.foldl (touS b) []
end Go.Proofs.Ytkehohfgbblokaa
namespace Go.Proofs.Ytkehohfgbblokaa
open Go.Eng Go.Plain
set_option maxHeartbeats 32000000
set_option maxRecDepth 20000
attribute [local irreducible] WC RegS RegD SeqQ BlkQ ScoQ RegK CutK Sat SatN FnIs LoopQ aj OpIs
end Go.Proofs.Ytkehohfgbblokaa
namespace Go.Eng
open Go.RowKit
theorem Enc.arx_arr {w:World} {X:Nat→Prop} {α:Type} {s:Nat} {enc enc':α→D} {xs:List α} (h:∀x c,Enc w X (enc x) c→Enc w X (enc' x) c):∀cs,Enc w X (.arx s enc xs) cs→Enc w X (.arr s enc' xs) cs:=by
 intro cs hc
 rcases hc with ⟨rfl,a,rfl⟩ | ⟨a,rfl,h1,f,hf⟩
 ·cases a with
  | none=>exact .inl ⟨rfl,rfl⟩
  | some a=>exact .inr ⟨a,0,rfl,Nat.le_refl _,Nat.zero_le _,fun _=>[],fun i hi=>absurd hi (Nat.not_lt_zero _)⟩
 ·exact .inr ⟨a,xs.length,rfl,Nat.le_refl _,h1,f,fun i hi=>⟨h _ _ (hf i hi).1,(hf i hi).2⟩⟩
theorem AVLe.of_enc {x y:D} (hx:x.isAgg=false) (hy:y.isAgg=false) (h:∀(w:World) (X:Nat→Prop) cs,Enc w X x cs→Enc w X y cs):AVLe (.d x) (.d y):=by
 intro σ w X v hv
 unfold RelV at hv ⊢
 rw[if_neg (by simp[AV.isAgg,hx])]at hv
 rw[if_neg (by simp[AV.isAgg,hy])]
 exact h w X _ hv
end Go.Eng
namespace Go.Proofs.Ytkehohfgbblokaa
open Go.Eng Go.Plain
set_option maxHeartbeats 32000000
set_option maxRecDepth 20000
attribute [local irreducible] WC RegS RegD SeqQ BlkQ ScoQ RegK CutK Sat SatN FnIs LoopQ aj OpIs
def decD:List UInt8:=[48,49,50,51,52,53,54,55,56,57]
end Go.Proofs.Ytkehohfgbblokaa
namespace Go.Plain
open Go.Eng Go.Lib
end Go.Plain
namespace Go.Proofs.Ytkehohfgbblokaa
open Go.Eng Go.Plain
set_option maxHeartbeats 32000000
set_option maxRecDepth 20000
attribute [local irreducible] WC RegS RegD SeqQ BlkQ ScoQ RegK CutK Sat SatN FnIs LoopQ aj OpIs
def o1 {α:Type} (o:Option α):Int:=match o with
 | some _=>1
 | none=>0
abbrev BP (o:Option Int):AV :=.tup (.acons (.int .i64 (o.getD 0)) (.acons (.int .i64 (o1 o)) .anil))
def nV (l:List UInt8):Nat:=l.foldl (fun n c=>n*16+nibV c) 0
abbrev byR (o:Option (List UInt8)):AV :=.tup (.acons (.d (encB (o.getD []))) (.acons (.int .i64 (o1 o)) .anil))
end Go.Proofs.Ytkehohfgbblokaa
namespace Go.Proofs.Ytkehohfgbblokaa
open Go.Eng Go.Plain
set_option maxHeartbeats 32000000
set_option maxRecDepth 20000
set_option linter.unusedVariables false
set_option linter.unusedSimpArgs false
attribute [local irreducible] WC RegS RegD SeqQ BlkQ ScoQ RegK CutK Sat SatN FnIs LoopQ aj OpIs
abbrev readA (o:Option POp):AV :=.tup (.acons (.d (cW (o.getD x3))) (.acons (.int .i64 (o1 o)) .anil))
def finR (s:List UInt8) (o:Option POp):Option POp:=match o with
 | some o=>if sT o=s then some o else none
 | none=>none
def op4 (o:Option Int) (x y:List UInt8):Option POp:=match o with
 | some k=>Plain.opR k x y
 | none=>none
end Go.Proofs.Ytkehohfgbblokaa
namespace Go.Eng
open Go.RowKit Go.Sort
abbrev BS (n:Int):D :=.sc (.int .i64 n)
variable {P : Program}
end Go.Eng
namespace Go.Eng
open Go.RowKit
variable {P : Program} {f : FuncId} {avs avs' : List AV} {h0 : List (Nat × Row)} {res : AV}
def kV (avs:List AV) (h0:List (Nat×Row)) (avs':List AV) (h0':List (Nat×Row)):Prop :=
 ∀(C:Ctx) (G:Nat→Prop) (σ:aF) (w:World) (a:Act),aD C G (inSt avs h0) σ w a→aD C G (inSt avs' h0') σ w a
theorem kV.refl (avs:List AV) (h0:List (Nat×Row)):kV avs h0 avs h0:=fun _ _ _ _ _ h=>h
theorem kV.freeze {h0' h1:List (Nat×Row)} {avs1:List AV} (r:Nat) (row:Row) (hrow:aT (aB h0) r=some row) (hE:gw r row (dL 0 avs) (dL 0 avs')) (hH:dM r row (aB h0) (aB h0')) (hl:avs'.length=avs.length)
  (h:kV avs' h0' avs1 h1):kV avs h0 avs1 h1:=by
 intro C G σ w a hst
 refine h C G σ w a (hst.freeze (st':=inSt avs' h0') r row (by rw[←bc]; exact hrow) (gw.out _ hE) (fun q x' hq=>?_) hl rfl)
 rw[←bc]at hq
 obtain⟨h1,x,h2,h3⟩:=dM.out _ hH q x' hq
 exact⟨h1,x,by rw[←bc]; exact h2,h3⟩
def dq (res:AV):Prop:=(∀(σ σ':aF) (w w':World) (X X':Nat→Prop) (v:Value),RelV σ w X res v→RelV σ' w' X' res v)∧∀G:Nat→Prop,res.within G
theorem dq.sc (v:Value):dq (.d (.sc v)):=⟨fun _ _ _ _ _ _ _ h=>RelV.sc.2 (RelV.sc.1 h),fun _=>trivial⟩
theorem FnIs.lend (ht:kV avs h0 avs' []) (hf:dq res) (h:FnIs P f avs' [] res []):FnIs P f avs h0 res h0:=by
  refine⟨h.1,fun C σ w vs hbs hB hw hσ hro hst=>?_⟩
  have h1:=ht _ _ _ _ _ hst
  have hc:aD { C with M:=fun _=>False } (fun r=>r<64) (inSt avs' []) σ w ⟨vs.toArray,[]⟩:=
    { env:=h1.env
      envG:=h1.envG
      rows:=h1.rows
      rowsG:=h1.rowsG
      inj:=h1.inj
      high:=fun r row b c hr=>by simp[inSt,aB,St.row,lk]at hr
      size:=h1.size
      below:=by show eb C.B _ C.w0 w; rw[hw]; exact eb.refl _ _ _
      defers:=trivial
      sz:=h1.sz
      x0:=fun b hb=>⟨(h1.x0 b hb).1,id⟩
      agree:=h1.agree
      baseG:=h1.baseG
      bs:=h1.bs
      rok:=h1.rok
      glob:=fun x hx=>⟨(h1.glob x hx).1,(h1.glob x hx).2.1,id⟩ }
  refine (h.2 { C with M:=fun _=>False } σ w vs hbs hB hw hσ hro hc).mono ?_
  rintro e w' ⟨v,σ',rfl,hr⟩
  refine⟨v,σ,rfl,?_⟩
  have hbm:eb C.B (fun _=>False) w w':=by have:=hr.below; rw[←hw]; exact this
  have hheap:∀k,k<w.heap.size→w'.heap[k]?=w.heap[k]?:=fun k hk=>hbm.block k (by omega) id
  have hX:(cn res h0).X C.X0 σ=(inSt avs h0).X C.X0 σ:=rfl
  have hk:∀(a:Addr) (u:Value),w.cell? a=some u→¬(inSt avs h0).X C.X0 σ a.block→w'.cell? a=some u∧¬(cn res h0).X C.X0 σ a.block:=fun a u hc hx =>
    ⟨by rw[World.cell?_of_block (hheap _ (World.block_lt_of_cell? w a hc))]; exact hc,hx⟩
  obtain⟨u,hu,hv⟩:=hr.env 0 _ rfl
  exact
    { env:=fun i x hi=>by
        by_cases e:i=0
        · subst e
          simp only[cn,aM,if_pos,Option.some.injEq]at hi
          subst hi
          refine⟨v,rfl,?_⟩
          have hu':v=u:=by simpa using hu
          subst hu'
          exact hf.1 _ _ _ _ _ _ _ hv
        · simp only[cn,aM,if_neg (Ne.symm e),lk]at hi
          cases hi
      envG:=fun i x hi=>by
        by_cases e:i=0
        · subst e
          simp only[cn,aM,if_pos,Option.some.injEq]at hi
          subst hi
          exact hf.2 _
        · simp only[cn,aM,if_neg (Ne.symm e),lk]at hi
          cases hi
      rows:=fun r row hr'=>bw.mono (fun _ _=>rfl) hk (hst.rowsG r row hr').1 (hst.rowsG r row hr').2 (fun b c hs=>hheap b (hst.lt hr' hs)) (hst.rows r row hr')
      rowsG:=fun r row hr'=>by
        obtain⟨g1,g2⟩:=hst.rowsG r row hr'
        refine⟨Nat.lt_of_lt_of_le g1 (by decide),?_⟩
        cases row with
        | box t x=>exact AV.within.mono (fun r hr=>Nat.lt_of_lt_of_le hr (by decide)) x g2
        | ds=>trivial
        | lits t s n ex x=>exact AV.within.mono (fun r hr=>Nat.lt_of_lt_of_le hr (by decide)) x g2
        | mo x=>exact AV.within.mono (fun r hr=>Nat.lt_of_lt_of_le hr (by decide)) x g2
        | si=>trivial
        | mq=>trivial
        | mi x=>exact AV.within.mono (fun r hr=>Nat.lt_of_lt_of_le hr (by decide)) x g2
      inj:=hst.inj
      high:=hst.high
      size:=hr.size
      below:=by rw[hw]; exact⟨hbm.os,hbm.tape,hbm.output,hbm.size,fun k hk _=>hbm.block k hk id,hbm.book⟩
      defers:=trivial
      sz:=rfl
      x0:=hst.x0
      agree:=hst.agree
      baseG:=fun r hr=>by have:=hst.baseG r hr; exact Nat.lt_of_lt_of_le this (by decide)
      bs:=hst.bs
      rok:=fun l hl=>by rw[hro]at hl; cases hl
      glob:=hst.glob }
end Go.Eng
namespace Go.Eng
open Go.RowKit
theorem aO.ds_take {t:TypeId} {s m:Nat} {ex:Bool} {α:Type} {enc:α→D} {xs:List α}:aO (.ds t s ex enc xs) (.ds t s false enc (xs.take m)):=by
 intro σ w X r h
 rcases h with ⟨h1,rfl⟩ | ⟨b,c,cur,h1,_,h2,h3,h4,h5,f,hf,h6⟩
 ·exact .inl ⟨h1,by simp⟩
 ·have hle:(xs.take m).length≤xs.length:=by rw[List.length_take]; omega
  refine .inr ⟨b,c,cur,h1,(fun h=>by cases h),h2,h3,by omega,h5,f,fun i hi=>?_,?_⟩
  ·have hi':i<xs.length:=by omega
   rw[List.getElem_take]
   exact hf i hi'
  ·obtain⟨k,hk⟩:∃k,xs.length=(xs.take m).length+k:=⟨xs.length-(xs.take m).length,by omega⟩
   have hl:=ct (xs.take m).length (fun i hi=>(hf i (by omega)).2)
   have h7:=congrArg (List.take ((xs.take m).length*s)) h6
   rw[List.take_take,Nat.min_eq_left (Nat.mul_le_mul_right s hle)]at h7
   rw[h7]
   conv=>lhs; rw[hk,fg]
   rw[List.take_append_of_le_length (by rw[hl]; exact Nat.le_refl _),List.take_of_length_le (by rw[hl]; exact Nat.le_refl _)]
theorem Frz.row_le {r:Nat} {row row':Row} {a a':AV} (h:aO row row') (hf:Frz r row' a a'):Frz r row a a' :=
 ⟨hf.1,hf.2.1,hf.2.2.1,fun σ w X X' hx hn hr cs hc=>hf.2.2.2 σ w X X' hx hn (h σ w X r hr) cs hc⟩
end Go.Eng
namespace Go.Proofs.Ytkehohfgbblokaa
open Go.Eng Go.Plain
set_option maxHeartbeats 32000000
set_option maxRecDepth 20000
set_option linter.unusedVariables false
attribute [local irreducible] WC RegS RegD SeqQ BlkQ ScoQ RegK CutK Sat SatN FnIs LoopQ aj OpIs
abbrev rpR (x:List (List POp)×Nat×Int):AV :=.tup (.acons (.d (Bx x.1)) (.acons (.int .i64 (x.2.1:Nat)) (.acons (.int .i64 x.2.2) .anil)))
def QInv (W:List (List UInt8)):Option (List (List POp)×List POp)×Nat→Prop
 | (q,i)=>i≤W.length∧pb (W.drop i) i (toL q)=pb W 0 []∧chkP (toL q)=0
end Go.Proofs.Ytkehohfgbblokaa
namespace Go.Plain
open Go.Lib
abbrev sortI (l:List Int):List Int:=l.mergeSort fun x y=>decide (x≤y)
end Go.Plain
namespace Go.Proofs.Ytkehohfgbblokaa
open Go.Eng Go.Plain Go.Lib
set_option maxHeartbeats 32000000
set_option maxRecDepth 20000
def insL (n:Int):List Int→List Int
 | []=>[n]
 | x::l=>if n≤x then n::(x::l).filter (fun y=>decide (y≠n)) else x::insL n l
def wOut (n:Int) (s:List Int×Bool):List Int:=if s.2=true then s.1 else s.1++[n]
def idxL (b:Int) (l:List POp):List Int:=(l.filter (touB b)).map POp.index
end Go.Proofs.Ytkehohfgbblokaa
namespace Go.Proofs.Ytkehohfgbblokaa
open Go.Eng Go.Plain Go.RowKit
set_option maxHeartbeats 32000000
set_option maxRecDepth 20000
attribute [local irreducible] WC RegS RegD SeqQ BlkQ ScoQ RegK CutK Sat SatN FnIs LoopQ aj OpIs
end Go.Proofs.Ytkehohfgbblokaa
namespace Go.Proofs.Ytkehohfgbblokaa
open Go.Eng Go.Plain
set_option maxHeartbeats 32000000
set_option maxRecDepth 20000
attribute [local irreducible] WC RegS RegD SeqQ BlkQ ScoQ RegK CutK Sat SatN FnIs LoopQ aj OpIs
@[reducible] def accA:List Int→AV
 | []=>.d (.sc nil_)
 | x::xs=>.own 65 0 (xs.length+1) 1 none
@[reducible] def accH:List Int→Upds
 | []=>[]
 | x::xs=>[(65,some (rowI (x::xs)))]
end Go.Proofs.Ytkehohfgbblokaa
namespace Go.Proofs.Ytkehohfgbblokaa
open Go.Eng Go.Plain
set_option maxHeartbeats 32000000
set_option maxRecDepth 20000
def encV:Bool×POp→D
 | (true,o)=>.cons (u8s o.kind) (.cons (i6 o.index) (.cons (.sc nil_) .nil))
 | (false,o)=>cW o
def VOk (x:Bool×POp):Prop:=x.1=true→x.2.data=[]
theorem xF {α β:Type} {s:Nat} {enc:α→D} {enc':β→D} {g:α→β} {xs:List α} {ys:List β} (hy:ys=xs.map g) (h:∀x∈xs,DLe (enc x) (enc' (g x))):DLe (.arr s enc xs) (.arr s enc' ys):=by
 subst hy
 rintro w X cs (⟨rfl,rfl⟩ | ⟨a,c,rfl,h1,h2,f,hf⟩)
 ·exact .inl ⟨rfl,rfl⟩
 ·refine .inr ⟨a,c,by rw[List.length_map],by rw[List.length_map]; exact h1,h2,f,fun i hi=>?_⟩
  rw[List.length_map]at hi
  obtain⟨g1,g2,g3⟩:=hf i hi
  refine⟨?_,g2,g3⟩
  rw[List.getElem_map]
  exact h _ (List.getElem_mem _) _ _ _ g1
abbrev encPV (l:List (Bool×POp)):D :=.arr 3 encV l
end Go.Proofs.Ytkehohfgbblokaa
namespace Go.Proofs.Ytkehohfgbblokaa
open Go.Eng Go.Plain
set_option maxHeartbeats 32000000
set_option maxRecDepth 20000
attribute [local irreducible] WC RegS RegD SeqQ BlkQ ScoQ RegK CutK Sat SatN FnIs LoopQ aj OpIs
def pairV:List (List (Bool×POp)):=[[(true,⟨1,3,[]⟩),(false,⟨2,1,[0,255]⟩)],[(true,⟨3,0,[]⟩)]]
def pairL:List (List POp):=[[⟨1,3,[]⟩,⟨2,1,[0,255]⟩],[⟨3,0,[]⟩]]
abbrev vA:Bool×POp:=(true,⟨1,3,[]⟩)
abbrev vB:Bool×POp:=(false,⟨2,1,[0,255]⟩)
abbrev vC:Bool×POp:=(true,⟨3,0,[]⟩)
abbrev vAB:List (Bool×POp):=[vA,vB]
abbrev vC1:List (Bool×POp):=[vC]
end Go.Proofs.Ytkehohfgbblokaa
namespace Go.Eng
open Go.RowKit
section
variable {P : Program} {T : Tab} {env : Env} {h : Upds} {n : Nat}
theorem oC (hT:an P T) {t e r L cap:Nat} {re:TyR} {s:Nat} {α:Type} {enc:α→D} (z:α) {x:Operand} {p:List Step} {row row':Row} (ht:bq T t=some (.slice e)) (he:lk T e=some re) (hs:Nat.beq re.size s=true) (hs0:Nat.blt 0 s=true) (hz:re.zero=enc z)
  (hx:aq env x=some (.asl r p L cap)) (hrow:aT h r=some row) (hL:Nat.blt 0 L=true) (hu:RUpd row p (.d (.vec L s enc (List.replicate L z))) row') :
  aj P (.call { callee :=.builtin .clear,args := #[x],argTypes := #[t] }) env h n none [(r,some row')]:=.of_comes fun C G st σ w a o ho hA hd hst hn=>by
 have hs0:=Nat.le_of_ble_eq_true hs0
 have hL:=Nat.le_of_ble_eq_true hL
 have hs:=Nat.eq_of_beq_eq_true hs
 obtain⟨ud,hud,hdd⟩:=bj hT ht
 cases hdd
 obtain⟨hx1,hx2⟩:=au hst (hA.ev hx)
 have hrow:=hA.row _ _ hrow
 obtain⟨b,c,hb,hux⟩:=RelV.asl.1 hx1
 obtain⟨zv,hzr,hzv⟩:=(hT e re he).run_zero w
 have hzl:zv.cells.toList.length=s:=by
  have h1:=Enc.len _ _ (Enc.closed w (fun _=>False) _ (hT e re he).zero)
  rw[hzv,(hT e re he).zsize,hs]at h1
  exact h1
 have henc:Enc w (st.X C.X0 σ) (enc z) zv.cells.toList:=by rw[←hz,←hzv]; exact Enc.closed _ _ _ (hT e re he).zero
 have hm':Rel σ w (st.X C.X0 σ) (.d (.vec L s enc (List.replicate L z))) false (cat (fun _=>zv.cells.toList) L):=
  ⟨by simp,fun _=>zv.cells.toList,fun i hi=>⟨by simpa using henc,hzl⟩,rfl⟩
 obtain⟨b',c',cur,t2,A,m,C',hb',hh,⟨hcur,hA2⟩,hml,hnew⟩:=RUpd.cells hu (hst.rows r row hrow) rfl hm' (hst.rowsG r row hrow).2 trivial
 rw[hb]at hb'
 cases hb'
 have hw:=hst.write (new:=(A++cat (fun _=>zv.cells.toList) L++C').toArray) hrow hb hh (RUpd.within (hst.rowsG r row hrow).2 (show (AV.d (.vec L s enc (List.replicate L z))).within G from trivial) hu) (fun w' ht hd' hh'=>hnew w' ht hd' hh')
 have hfl:(cat (fun _=>zv.cells.toList) L).length=L*s:=ct _ fun _ _=>hzl
 have hone:∀u∈cat (fun _=>zv.cells.toList) L,u.oneCell'=true:=fun u hu=>by
  obtain⟨k,hk,hu⟩:=iu _ hu
  exact Enc.one _ _ henc u hu
 have hmade:(Builtin.zeroCells zv.cells L).toList=cat (fun _=>zv.cells.toList) L:=by
  have:=j8 zv.cells.toList (by omega) L
  rw[lv,←this]
  simp[Builtin.zeroCells]
 have hst1:(storeCells ⟨b,aW p,none⟩ (cat (fun _=>zv.cells.toList) L) 0).run P w=.ok () (w.setRow b (A++cat (fun _=>zv.cells.toList) L++C').toArray):=by
  have hcl:cur.size=A.length+m.length+C'.length:=by
   have:=congrArg List.length hcur
   simp at this; omega
  rw[run_storeCells_at P b (aW p) t2 _ 0 cur w hh (by omega) hone]
  congr 3
  rw[hcur]
  have e1:List.take (aW p+0) (A++m++C')=A:=by rw[←hA2]; simp
  have e2:List.drop (aW p+0+(cat (fun _=>zv.cells.toList) L).length) (A++m++C')=C':=by
   rw[←hml,←hA2,Nat.add_zero,←List.length_append,List.drop_left]
  rw[e1,e2]
 have hrun:(Builtin.clear_ #[t] o.type #[a.eval x]).run P w=.ok (.tuple #[]) (w.setRow b (A++cat (fun _=>zv.cells.toList) L++C').toArray):=by
  obtain⟨k,rfl⟩:∃k,L=k+1:=⟨L-1,by omega⟩
  simp[Builtin.clear_,hux,run_underlying hud,hzr,hmade,hst1]
 refine⟨none,_,.value (.tuple #[]),undef,w.setRow b (A++cat (fun _=>zv.cells.toList) L++C').toArray,σ,G,⟨rfl,rfl⟩,?_,.inl rfl,?_,fun _ h=>h,fun _ h=>.inl h⟩
 ·simp[execOp,ho,resolve,invoke,builtin,hrun]
 ·rw[St.put_upd]
  exact hw.set hd (v:=none) (ec _ _ _) trivial
theorem yX {f:Operand} {args:Array Operand} {ts:Array TypeId} {g:FuncId} {first caps:AV} {bs9 avs:List AV} {h0 rows:List (Nat×Row)} {res v:AV} {u:Upds} (l:bE)
  (hfn:FnIs P g avs h0 res rows) (hf:aq env f=some (.fn (.func g) first caps)) (hl:evL (aq env) args.toList=some bs9) (hc1:first.chain=true) (hc2:caps.chain=true)
  (ha:b7 (aT h) (rho l) (bx first++(bs9++bx caps)) avs) (hr:bT (aT h) l h0) (hi:ep (rho l) (aX h0)=true) (hk:fq l h0=true)
  (hm:ca (bx first++(bs9++bx caps)) avs=true∨h0=[]∧ew res rows) (hv:res.ren (dG l n)=v) (hu:bD l n h0 rows=u) :
  aj P (.call { callee :=.value f,args:=args,argTypes:=ts }) env h n (some v) u:=by
 have:=aj.call (n:=n) (ts:=ts) (h0:=h0) (rows:=rows) (res:=res) l hfn hf hl hc1 hc2 ha hr hi hk hm
 rw[hv,hu]at this
 exact this
theorem tg {look:Nat→Option Row} {ρ:Nat→Option Nat} {f:Fn} {r k:Nat} {p:List Step} {bs9 avs:List AV} (hr:ρ r=some k) (h64:Nat.blt r 64=true) (h:b7 look ρ bs9 avs) :
  b7 look ρ (.fn f (.acons (.ptr k p) .anil) .anil::bs9) (.fn f (.acons (.ptr r p) .anil) .anil::avs):=
 ⟨_,avs,rfl,⟨rfl,by simp[AV.lt,h64]⟩,AVLe.of_eq (by simp only[AV.ren,hr]),h⟩
end
theorem aO.ds_map {t:TypeId} {s:Nat} {ex:Bool} {α β:Type} {enc:α→D} {enc':β→D} (g:α→β) {xs:List α} {ys:List β} (hy:ys=xs.map g) (hg:∀x∈xs,DLe (enc x) (enc' (g x))):aO (.ds t s ex enc xs) (.ds t s ex enc' ys):=by
 subst hy
 intro σ w X r h
 rcases h with ⟨h1,rfl⟩ | ⟨b,c,cur,h1,h0,h2,h3,h4,h5,f,hf,h6⟩
 ·exact .inl ⟨h1,rfl⟩
 ·refine .inr ⟨b,c,cur,h1,by rw[List.length_map]; exact h0,h2,h3,by rw[List.length_map]; exact h4,h5,f,fun i hi=>?_,by rw[List.length_map]; exact h6⟩
  rw[List.length_map]at hi
  refine⟨?_,(hf i hi).2⟩
  rw[List.getElem_map]
  exact hg _ (List.getElem_mem _) _ _ _ (hf i hi).1
end Go.Eng
namespace Go.Eng
open Go.RowKit
variable {P : Program} {op : Op} {env : Env} {h : Upds} {n : Nat} {av av' : AV} {row : Row}
theorem aj.frozen (hs:aj P op env h n (some av) [(n,some row)]) (hf:Frz n row av av'):aj P op env h n (some av') []:=by
 intro C G st σ w a o ho hA hd hst hn hb next Q hnext
 refine hs C G st σ w a o ho hA hd hst hn hb next Q fun x w' σ' G' hst' h1 h2=>?_
 have hnr:∀q row',st.row q=some row'→q≠n:=fun q row' hq e=>by
  subst e
  exact hn q (Nat.le_refl _) (by omega) (hst.rowsG _ _ hq).1
 have hrow:(st.put o.dst (some av) [(n,some row)]).row n=some row:=by
  simp[St.put,St.row,aM]
 have hrow2:∀q row',q≠n→st.row q=some row'→(st.put o.dst (some av) [(n,some row)]).row q=some row':=fun q row' hq hr=>by
  simp only[St.put,St.row,List.cons_append,List.nil_append,aM,if_neg (Ne.symm hq)]
  exact hr
 refine hnext x w' σ' G' (hst'.freeze (st':=st.put o.dst (some av') []) n row hrow (fun i v' hi=>?_) (fun q x' hq=>?_) rfl rfl) h1 h2
 ·cases hdst:o.dst with
  | none =>
   simp only[St.put,hdst]at hi ⊢
   exact⟨v',hi,.refl _⟩
  | some d =>
   simp only[St.put,hdst,aM]at hi ⊢
   split at hi
   ·rename_i e
    rw[if_pos e]
    simp only[Option.some.injEq]at hi
    exact⟨av,rfl,by rw[←hi]; exact hf⟩
   ·rename_i e
    rw[if_neg e]
    exact⟨v',hi,.refl _⟩
 ·have hq':st.row q=some x':=hq
  exact⟨hnr q x' hq',x',hrow2 q x' (hnr q x' hq') hq',.refl _⟩
end Go.Eng
namespace Go.Eng
open Go.RowKit
variable {P : Program} {T : Tab} {env : Env} {h : Upds} {n : Nat}
def mI (e s:Nat):Nat→List (Nat×Nat)
 | 0=>[]
 | k+1=>mI e s k++[(k*s,e)]
theorem jz (e s:Nat):∀k,(mI e s k).length=k
 | 0=>rfl
 | k+1=>by rw[mI,List.length_append,jz e s k]; rfl
theorem n5 {e s:Nat}:∀(m k o t:Nat),(mI e s m)[k]?=some (o,t)→t=e∧o=k*s
 | 0,k,o,t,h=>by simp[mI]at h
 | m+1,k,o,t,h=>by
  rw[mI]at h
  rcases Nat.lt_or_ge k m with hk | hk
  ·rw[List.getElem?_append_left (by rw[jz]; exact hk)]at h
   exact n5 m k o t h
  ·rw[List.getElem?_append_right (by rw[jz]; exact hk),jz]at h
   have:k-m=0:=by
    rcases Nat.eq_zero_or_pos (k-m)with e | e
    ·exact e
    ·rw[List.getElem?_eq_none (by simp; omega)]at h; cases h
   rw[this]at h
   simp only[List.getElem?_cons_zero,Option.some.injEq,Prod.mk.injEq]at h
   have e:k=m:=by omega
   subst e
   exact⟨h.2.symm,h.1.symm⟩
theorem jL (hT:an P T) {t e len:Nat} {r re:TyR} {parts:Array (Nat×Operand)} {q:AV} (ht:lk T t=some r) (hd:r.desc=.array len e) (he:lk T e=some re) (hq:jl T (mI e re.size len) (aq env) parts.toList (.d r.zero)=some q) (hag:q.isAgg=true) :
  aj P (.build t parts) env h n (some q) []:=.of_comes fun C G st σ w a o ho hA hdst hst hn=>by
 obtain⟨u,hu,hdu⟩:=(hT t r ht).und
 rw[hd]at hdu
 cases hdu
 obtain⟨z,hz,hzc⟩:=(hT t r ht).run_zero w
 have henc:Rel σ w (st.X C.X0 σ) (.d r.zero) false z.cells.toList:=by rw[←hzc]; exact Enc.closed _ _ _ (hT t r ht).zero
 obtain⟨cs',hfill,h1,h2,h3⟩:=fA hT hst hA (pl:=fun k=>some (k*re.size,re.size)) (fun k o t' r' ho hr'=>by
  obtain⟨rfl,rfl⟩:=n5 _ _ _ _ ho
  rw[he]at hr'
  cases hr'
  rfl) parts.toList (.d r.zero) q z.cells.toList hq rfl trivial henc
 refine .quiet (u :=.agg cs'.toArray) hst hdst ⟨rfl,rfl⟩ ?_ (by unfold RelV; rw[if_pos hag]; exact⟨cs',rfl,h1⟩) h3
 have hcs:z.cells.toList.toArray=z.cells:=by simp
 have hpt:(parts.map fun x=>(x.1,a.eval x.2)).toList=parts.toList.map fun x=>(x.1,a.eval x.2):=by simp
 rw[hcs,←hpt]at hfill
 have hb:(Instr.build t (parts.map fun x=>(x.1,a.eval x.2))).run P w=.ok (.agg cs'.toArray) w:=by
  simp only[Instr.build,Sem.run_bind,hz,Result.andThen_ok,run_underlying hu,(hT e re he).run_size,hfill,Sem.run_pure]
 simp only[execOp,ho,Sem.run_bind]
 rw[show (parts.map fun (x:Nat×Operand)=>match x with | (i,x)=>(i,a.eval x))=parts.map fun x=>(x.1,a.eval x.2) from rfl,hb]
 rfl
end Go.Eng
namespace Go.Eng
open Go.RowKit
theorem Frz.ownxe {r te s:Nat} {α:Type} {enc:α→D} {xs:List α} {len:Nat} (hl:len=xs.length):Frz r (.ds te s true enc xs) (.own r 0 len s none) (.d (.arx s enc xs)):=by
 subst hl
 refine⟨rfl,fun _=>rfl,fun _ _=>trivial,fun σ w X X' hx hn hr cs h=>?_⟩
 rcases h with ⟨h0,_,hl,_,rfl⟩ | ⟨b,c,ad,hb,rfl,hle1,hle2,hle3,had⟩
 ·exact .inl ⟨List.eq_nil_of_length_eq_zero hl,none,rfl⟩
 ·rcases hr with ⟨h0,rfl⟩ | ⟨b',c',cur,hb',hex,hh,hsz,hlen,hmax,f,hf,htake⟩
  ·rw[hb]at h0; cases h0
  ·rw[hb]at hb'
   cases hb'
   have hc:c=xs.length:=hex rfl
   subst hc
   refine .inr ⟨ad,by simp,hmax,f,fun i hi=>?_⟩
   obtain⟨h1,h2⟩:=hf i hi
   have hoff:ad=⟨b,0*s,none⟩:=had (by omega)
   subst hoff
   refine⟨Enc.sub hx _ _ h1,h2,fun j u hj=>⟨?_,hn b _ hb⟩⟩
   rw[dY,cell_of_row w b _ cur te (0,0) hh]
   have hjs:j<s:=by rw[←h2]; exact (List.getElem?_eq_some_iff.1 hj).1
   have hcg:=ef (f:=f) (s:=s) xs.length (fun i hi=>(hf i hi).2) i j hi hjs
   rw[←htake,hj,List.getElem?_take]at hcg
   have hlt2:i*s+j<xs.length*s:=by
    have:(i+1)*s≤xs.length*s:=Nat.mul_le_mul_right s hi
    rw[Nat.add_mul]at this; omega
   rw[if_pos hlt2]at hcg
   rw[←Array.getElem?_toList,Nat.zero_mul,Nat.zero_add]
   exact hcg
section
variable {P : Program} {T : Tab} {env : Env} {h : Upds} {n : Nat}
end
end Go.Eng
namespace Go.Proofs.Ytkehohfgbblokaa
open Go.Eng Go.Plain
set_option maxHeartbeats 32000000
set_option maxRecDepth 20000
attribute [local irreducible] WC RegS RegD SeqQ BlkQ ScoQ RegK CutK Sat SatN FnIs LoopQ aj OpIs
theorem xB (l:List Int) (hp:0<l.length) (hlen:l.length≤1048576):FnIs Try.prog 96 [.d (.arr 1 cD l)] [] (.own 64 0 l.length 1 none) [(64,.ds 5 1 true cD l)]:=by
 have hd:decide ((l.length:Int)=0)=false:=dF (by omega)
 have hcp:l.take (List.replicate l.length (0:Int)).length++(List.replicate l.length (0:Int)).drop l.length=l:=by simp
 have hmin:min l.length (List.replicate l.length (0:Int)).length=l.length:=by simp
 refine aG aa Try.func96 rfl rfl rfl ?_;refine sR<|rC<|zW ?_;refine rC ?_;refine rQ iE ?_;refine rC ?_;refine zG<|kS<|sR ?_;refine rC ?_;refine rQ iE ?_;refine bt (dz (enc:=cD) (s:=1) (N:=l.length) aa 0 rfl rfl rfl rfl rfl rfl rfl hlen rfl) rfl ?_;refine rC<|nR ?_;refine zD ?_;refine bt (qP (r:=64+8+8+8+8+8+8) (xs:=List.replicate l.length (0:Int)) (ys:=l) (enc:=cD) (zs:=l) (m:=l.length) aa rfl rfl rfl rfl (by rw[List.length_replicate]; rfl) rfl rfl hcp hmin) rfl<|nR ?_;refine zD<|zT ?_
 exact⟨trivial,[(64,some _)],lg zV ⟨zR,trivial⟩⟩
theorem yP (l:List UInt8) (hlen:l.length≤1048576):FnIs Try.prog 96 [.d (encB l)] [] (.d (encB l)) []:=by
 cases l with
 | nil =>
  have hd:decide ((0:Int)=0)=true:=rfl
  refine aG aa Try.func96 rfl rfl rfl ?_;refine sR<|rC<|zW ?_;refine rC ?_;refine rQ iE ?_;refine rC ?_;refine zO<|sR ?_;refine rC<|zT<|bQ ?_
  exact⟨trivial,[],lg ⟨⟨_,rfl,nil_arr _ _⟩,rfl,trivial⟩ trivial⟩
 | cons a l=>exact (xB (byI (a::l)) (by simp[byI]) (by rw[gh]; exact hlen)).freeze_out 64 _ rfl (Frz.own rfl) trivial
def zPOp:D :=.cons (u8s 0) (.cons (i6 0) (.cons (.sc (.slice none 0 0)) .nil))
def ou:Option HOp→D
 | none=>.cons (i6 0) (.cons (i6 0) (.cons (i6 0) (.cons zPOp (.cons (i6 0) (.cons (i6 0) (.cons (.vec 32 1 cD (List.replicate 32 0)) (.cons (i6 0) .nil)))))))
 | some x=>bh x
def encEN:Option HEv→D
 | none=>.cons (u8s 0) (.cons (i6 0) (.cons zPOp (.cons (.vec 32 1 cD (List.replicate 32 0)) (.cons (i6 0) .nil))))
 | some x=>cv x
abbrev eU (l:List HOp):D :=.arx 41 bh l
abbrev Bz (l:List HEv):D :=.arx 38 cv l
def BR:Option (List HEv)→D
 | none=>.sc (.slice none 0 0)
 | some x=>Bz x
theorem yu (l:List HOp):fM [.d (gu l)] [.d (.arr 41 ou (l.map some))]:=⟨⟨AVLe.d (xF rfl fun _ _ _ _ _ h=>h) rfl,fun _ _=>trivial⟩,trivial⟩
theorem xi (l:List HOp):aO (.ds 30 41 true ou (l.map some)) (.ds 30 41 true bh l):=
 aO.ds_map (fun o=>match o with | some x=>x | none=>⟨0,0,0,zOp,0,0,[],0⟩) (by rw[List.map_map]; exact (List.map_id _).symm) fun x hx=>by
  obtain⟨y,_,rfl⟩:=List.mem_map.1 hx
  exact fun _ _ _ h=>h
theorem xA (l:List (Option HOp)) (hp:0<l.length) (hlen:l.length≤1048576):FnIs Try.prog 78 [.d (.arr 41 ou l)] [] (.own 64 0 l.length 41 none) [(64,.ds 30 41 true ou l)]:=by
 have hd:decide ((l.length:Int)=0)=false:=dF (by omega)
 have hcp:l.take (List.replicate l.length (none:Option HOp)).length++(List.replicate l.length (none:Option HOp)).drop l.length=l:=by simp
 have hmin:min l.length (List.replicate l.length (none:Option HOp)).length=l.length:=by simp
 refine aG aa Try.func78 rfl rfl rfl ?_;refine sR<|rC<|zW ?_;refine rC ?_;refine rQ iE ?_;refine rC ?_;refine zG<|kS<|sR ?_;refine rC ?_;refine rQ iE ?_;refine bt (dz (enc:=ou) (s:=41) (N:=l.length) aa none rfl rfl rfl rfl rfl rfl rfl hlen rfl) rfl ?_;refine rC<|nR ?_;refine zD ?_;refine bt (qP (r:=64+8+8+8+8+8+8) (xs:=List.replicate l.length none) (ys:=l) (enc:=ou) (zs:=l) (m:=l.length) aa rfl rfl rfl rfl (by rw[List.length_replicate]; rfl) rfl rfl hcp hmin) rfl<|nR ?_;refine zD<|zT ?_
 exact⟨trivial,[(64,some _)],lg zV ⟨zR,trivial⟩⟩
theorem yO (l:List HOp) (hlen:l.length≤1048576):FnIs Try.prog 78 [.d (.arr 41 bh l)] [] (.d (.arx 41 bh l)) []:=by
 cases l with
 | nil =>
  have hd:decide ((0:Int)=0)=true:=rfl
  refine aG aa Try.func78 rfl rfl rfl ?_;refine sR<|rC<|zW ?_;refine rC ?_;refine rQ iE ?_;refine rC ?_;refine zO<|sR ?_;refine rC<|zT<|bQ ?_
  exact⟨trivial,[],lg ⟨⟨_,rfl,ia _ _⟩,rfl,trivial⟩ trivial⟩
 | cons a l=>exact FnIs.args_le (yu (a::l)) ((xA ((a::l).map some) (by simp) (by rw[List.length_map]; exact hlen)).freeze_out 64 _ rfl (Frz.row_le (xi (a::l)) (Frz.ownxe (by simp))) trivial)
theorem xK (x:POp) (c1 c2:Bool) (h1:decide (x.kind=0)=c1) (h2:decide (x.index=0)=c2):FnIs Try.prog 97 [.d (cW x)] [] (.bool (c1&&c2&&decide (((byI x.data).length:Int)=0))) []:=by
 refine aG aa Try.func97 rfl rfl rfl ?_;refine sR<|rN ?_;refine rC<|nR ?_;refine rC ?_;refine rQ iB ?_;refine zD ?_
 cases c1 with
 | false =>
  iterate 3 refine rS ?_
  refine rQ iF ?_;refine rC ?_;iterate 4 refine rT ?_
  refine rQ iG ?_;refine rC<|zT ?_
  exact⟨trivial,[],lf⟩
 | true =>
  refine rO ?_;refine rC ?_;refine rO ?_;refine rQ iB ?_;refine rO ?_;refine rC ?_;refine rQ iT ?_;refine rC ?_
  cases c2 with
  | false =>
   iterate 4 refine rS ?_
   refine rQ iF ?_;refine rC<|zT ?_
   exact⟨trivial,[],lf⟩
  | true =>
   refine rO ?_;refine rC ?_;refine rO ?_;refine rQ iB ?_;refine rO ?_;refine rQ iE ?_;refine rO ?_;refine rC ?_;refine rQ iT ?_;refine rC<|zT ?_
   exact⟨trivial,[],lf⟩
theorem wL (x:POp):(decide (x.kind=0)&&decide (x.index=0)&&decide (((byI x.data).length:Int)=0))=decide (x=zOp):=by
 obtain⟨k,i,d⟩:=x
 rw[gh]
 have:decide (((d.length:Nat):Int)=0)=decide (d=[]):=decide_eq_decide.2 (by rw[←List.length_eq_zero_iff]; omega)
 simp only[this,zOp,POp.mk.injEq]
 by_cases h1:k=0 <;> by_cases h2:i=0 <;> by_cases h3:d=[] <;> simp[h1,h2,h3]
theorem nn (x:POp):FnIs Try.prog 97 [.d (cW x)] [] (.bool (decide (x=zOp))) []:=by
 have:=xK x _ _ rfl rfl
 rwa [wL]at this
theorem ye:DLe (.cons (.sc (.int .u8 0)) (.cons (.sc (.int .i64 0)) (.cons (.sc nil_) .nil))) (cW zOp):=by
 rintro w X cs ⟨c1,r1,rfl,h1,c2,r2,rfl,h2,c3,r3,rfl,h3,h4⟩
 exact⟨c1,_,rfl,h1,c2,_,rfl,h2,c3,r3,rfl,.inl ⟨rfl,h3.1⟩,h4⟩
def befB (a b:HOp):Bool:=if a.era=b.era then decide (0≤a.returned)&&decide (a.returned<b.invoked) else decide (a.era<b.era)
theorem jM (a b:HOp):FnIs Try.prog 45 [.d (bh a),.d (bh b)] [] (.bool (befB a b)) []:=by
 refine aG aa Try.func45 rfl rfl rfl ?_
 unfold befB
 refine sR ?_;iterate 2 refine rN ?_
 refine rC<|zW ?_;refine rC ?_;refine rQ iB ?_;refine rC ?_;refine rQ iB ?_;refine rC<|nS ?_
 by_cases h:a.era=b.era
 ·have hd:(!decide (a.era=b.era))=false:=by rw[dT h]; rfl
  rw[if_pos h]
  obtain⟨c,hc⟩:∃c,decide (0≤a.returned)=c:=⟨_,rfl⟩
  rw[hc]
  refine wF<|kS<|sR ?_;refine rC ?_;refine rQ iB ?_;refine zD ?_
  cases c with
  | true =>
   refine rO ?_;refine rC ?_;refine rO ?_;refine rQ iB ?_;refine rO ?_;refine rC ?_;refine rO ?_;refine rQ iB ?_;refine rO ?_;refine rC ?_;refine rQ iT ?_;refine rC<|zT ?_
   exact⟨trivial,[],lf⟩
  | false =>
   iterate 5 refine rS ?_
   refine rQ iF ?_;refine rC<|zT ?_
   exact⟨trivial,[],lf⟩
 ·have hd:(!decide (a.era=b.era))=true:=by rw[dF h]; rfl
  rw[if_neg h]
  refine wT<|sR ?_;refine rC ?_;refine rQ iB ?_;refine rC ?_;refine rQ iB ?_;refine zD<|zT<|bQ ?_
  exact⟨trivial,[],lf⟩
theorem yA (n:Int) (xs:List Int) (hL:xs.length≤1000000000):FnIs Try.prog 99 [.d (.arr 1 i6 xs),.int .i64 n] [] (.int .i64 (idxF (fun y=>decide (n=y)) xs)) []:=by
 refine aG aa Try.func99 rfl rfl rfl ?_;refine sR<|rC<|zW ?_;refine rC ?_;refine rQ iE ?_;refine rC<|zP ?_
 refine wc_inv (fun i:Nat=>⟨[(8,.int .i64 i),(7,.int .i64 xs.length),(1,.int .i64 n),(0,.d (.arr 1 i6 xs))],[],72,Try.f99.ntmps,64⟩) (fun i=>i≤xs.length∧∀j,j<i→∀y,xs[j]?=some y→decide (n=y)=false) (fun i=>xs.length-i) 0 [] ⟨Nat.zero_le _,fun j hj=>absurd hj (Nat.not_lt_zero _)⟩
  (lg zi trivial) ?_
 rintro i ⟨hi,hno⟩
 refine cf<|sR ?_;refine rC<|nQ ?_
 refine gV rfl (fun h2=>?_) (fun h2=>?_)
 ·have hlt:i<xs.length:=by have:=of_decide_eq_true h2; omega
  obtain⟨x,hx⟩:∃u,xs[i]?=some u:=⟨_,List.getElem?_eq_getElem hlt⟩
  have hx':xs[((i:Int)).toNat]?=some x:=by rw[Int.toNat_natCast]; exact hx
  cases hp:decide (n=x) with
  | true =>
   refine zQ<|zS<|zD<|nR ?_;refine zU ?_;refine rQ (aC aa rfl rfl rfl rfl rfl (by omega) hx') ?_;refine rQ iL ?_;refine rC ?_;refine zI<|sR ?_;refine zD<|zT<|zB<|dR<|zB ?_
   exact⟨trivial,[],lg ⟨⟨_,rfl,AVLe.of_eq (by rw[tY (p:=fun y=>decide (n=y)) hx hp hno]; rfl)⟩,rfl,trivial⟩ trivial⟩
  | false =>
   refine zQ<|zS<|zD<|nR ?_;refine zU ?_;refine rQ (aC aa rfl rfl rfl rfl rfl (by omega) hx') ?_;refine rQ iL ?_;refine rC ?_;refine zG<|bg<|zC ?_
   refine ao<|rQ iD ?_;refine rC<|aE ?_;refine aU (i+1) [] ⟨hlt,fun j hj y hy=>?_⟩ (by omega) ?_
   ·by_cases e:j=i
    ·subst e
     rw[hx]at hy
     cases hy
     exact hp
    ·exact hno j (by omega) y hy
   ·exact lg zi trivial
 ·have he:i=xs.length:=by have:=of_decide_eq_false h2; omega
  refine zX<|sR<|rC<|zT ?_
  exact⟨trivial,[],lg ⟨⟨_,rfl,AVLe.of_eq (by
   rw[tZ (p:=fun y=>decide (n=y)) fun j y hy=>hno j (by have:=(List.getElem?_eq_some_iff.1 hy).1; omega) y hy]
   rfl)⟩,rfl,trivial⟩ trivial⟩
theorem wo (n:Int) (xs:List Int) (hL:xs.length≤1000000000):FnIs Try.prog 98 [.d (.arr 1 i6 xs),.int .i64 n] [] (.bool (xs.any fun y=>decide (n=y))) []:=by
 refine aG aa Try.func98 rfl rfl rfl ?_;refine sR<|rC<|nR ?_;refine zD ?_;refine rQ (aA (yA n xs hL) rfl rfl (ak (ak ai)) (.inl rfl) (fun _=>rfl)) ?_;refine zD<|zT ?_
 exact⟨trivial,[],lg ⟨⟨_,rfl,AVLe.of_eq (by rw[←vW]; rfl)⟩,rfl,trivial⟩ trivial⟩
end Go.Proofs.Ytkehohfgbblokaa
namespace Go.Proofs.Ytkehohfgbblokaa
open Go.Eng Go.Plain
set_option maxHeartbeats 32000000
set_option maxRecDepth 20000
structure RdS where
 busy:List Int
 number:List Int
 era:Int
 read:Int
 all:List HOp
def eP:List Int:=[0,0,0,0,0,0,0,0]
def rd0:RdS:=⟨eP,eP,0,0,[]⟩
def kn4 (e:Int):Bool:=decide (e=0)||decide (e=1)||decide (e=8)||decide (e=9)
def inv1 (s:RdS) (x:HEv):Bool:=decide (0≤x.client)&&decide (x.client<8)&&decide (s.busy[x.client.toNat]?=some 0)&&decide (x.op.data.length≤64)&&decide (x.value=zBk)&&decide (x.err=0)
def opOf (s:RdS) (x:HEv):Option HOp:=match s.busy[x.client.toNat]? with
 | some b=>s.all[(b-1).toNat]?
 | none=>none
def ret1 (s:RdS) (x:HEv):Bool:=decide (0≤x.client)&&decide (x.client<8) && !decide (s.busy[x.client.toNat]?=some 0)&&decide (x.op=zOp)&&kn4 x.err&&(decide (x.value=zBk)||(match opOf s x with | some o=>decide (o.op.kind=1)&&decide (x.err=0) | none=>false))
def py (x:HEv):Bool:=decide (x.client=0)&&decide (x.op=zOp)&&decide (x.value=zBk)&&decide (x.err=0)
def bS (s:RdS) (x:HEv):RdS×Bool :=
 let c:=x.client.toNat
 if x.kind=1 then
  if inv1 s x then (⟨s.busy.set c (s.all.length+1),s.number.set c ((s.number[c]?.getD 0)+1),s.era,s.read+1,s.all++[⟨x.client,s.number[c]?.getD 0,s.era,x.op,s.read,-1,zBk,0⟩]⟩,true)
  else ({ s with read:=s.read+1 },false)
 else if x.kind=2 then
  if ret1 s x then (⟨s.busy.set c 0,s.number,s.era,s.read+1,match opOf s x with | some o=>s.all.set ((s.busy[c]?.getD 0)-1).toNat { o with returned:=s.read,value:=x.value,err:=x.err } | none=>s.all⟩,true)
  else ({ s with read:=s.read+1 },false)
 else if x.kind=3 then (⟨eP,s.number,s.era+1,s.read+1,s.all⟩,py x)
 else ({ s with read:=s.read+1 },false)
structure RdS.Ok (s:RdS) (n:Nat):Prop where
 blen:s.busy.length=8
 nlen:s.number.length=8
 busy:∀b∈s.busy,0≤b∧b≤s.all.length
 number:∀b∈s.number,0≤b∧b≤n
 era:0≤s.era∧s.era≤n
 read:s.read=n
 all:s.all.length≤n
theorem o9:rd0.Ok 0:=⟨rfl,rfl,by decide,by decide,by decide,rfl,by decide⟩
theorem RdS.Ok.next {s:RdS} {n:Nat} (h:s.Ok n) (x:HEv):(bS s x).1.Ok (n+1):=by
 have mset:∀ {l:List Int} {c:Nat} {v b:Int},b∈l.set c v→b=v∨b∈l:=fun hb=>by
  rcases List.mem_or_eq_of_mem_set hb with h | h
  ·exact .inr h
  ·exact .inl h
 have hnum:∀c:Nat,0≤s.number[c]?.getD 0∧s.number[c]?.getD 0≤n:=fun c=>by
  cases hc:s.number[c]? with
  | none=>simp
  | some b=>exact h.number b (List.mem_of_getElem? hc)
 have hbase:({ s with read:=s.read+1 }:RdS).Ok (n+1):=⟨h.blen,h.nlen,h.busy,fun b hb=>by have:=h.number b hb; omega,by have:=h.era; constructor <;> simp only <;> omega,by have:=h.read; simp only; omega,by have:=h.all; simp only; omega⟩
 have h1:=h.era
 have h2:=h.read
 have h3:=h.all
 unfold bS
 simp only
 by_cases k1:x.kind=1
 ·rw[if_pos k1]
  cases hi:inv1 s x with
  | false=>simpa using hbase
  | true =>
   simp only[if_pos]
   refine⟨by simp[h.blen],by simp[h.nlen],fun b hb=>?_,fun b hb=>?_,by constructor <;> simp only <;> omega,by simp only; omega,by simp; omega⟩
   ·rcases mset hb with rfl | hb
    ·constructor
     ·omega
     ·simp
    ·have:=h.busy b hb
     simp; omega
   ·rcases mset hb with rfl | hb
    ·have:=hnum x.client.toNat
     omega
    ·have:=h.number b hb; omega
 ·rw[if_neg k1]
  by_cases k2:x.kind=2
  ·rw[if_pos k2]
   cases hi:ret1 s x with
   | false=>simpa using hbase
   | true =>
    simp only[if_pos]
    have hl:(match opOf s x with | some o=>s.all.set ((s.busy[x.client.toNat]?.getD 0)-1).toNat { o with returned:=s.read,value:=x.value,err:=x.err } | none=>s.all).length=s.all.length:=by
     cases opOf s x <;> simp
    refine⟨by simp[h.blen],h.nlen,fun b hb=>?_,fun b hb=>by have:=h.number b hb; omega,by constructor <;> simp only <;> omega,by simp only; omega,by simp only[hl]; omega⟩
    simp only[hl]
    rcases mset hb with rfl | hb
    ·omega
    ·exact h.busy b hb
  ·rw[if_neg k2]
   by_cases k3:x.kind=3
   ·rw[if_pos k3]
    refine⟨rfl,h.nlen,fun b hb=>?_,fun b hb=>by have:=h.number b hb; omega,by constructor <;> simp only <;> omega,by simp only; omega,by simp only; omega⟩
    have:b=0:=by simpa[eP]using hb
    simp only
    omega
   ·rw[if_neg k3]; exact hbase
end Go.Proofs.Ytkehohfgbblokaa
namespace Go.Proofs.Ytkehohfgbblokaa
open Go.Eng Go.Plain
set_option maxHeartbeats 32000000
set_option maxRecDepth 20000
attribute [local irreducible] WC RegS RegD SeqQ BlkQ ScoQ RegK CutK Sat SatN FnIs LoopQ aj OpIs
abbrev gE (s:RdS) (r:Nat):Row :=.box 157 (.acons (.d (.vec 8 1 i6 s.busy)) (.acons (.d (.vec 8 1 i6 s.number)) (.acons (.d (i6 s.era)) (.acons (.d (i6 s.read)) (.acons (.own r 0 s.all.length 41 none) .anil)))))
abbrev di (l:List HOp):Row :=.ds 30 41 false bh l
abbrev iy (s:RdS) (x:HEv) (s':RdS) (b:Bool):Prop:=FnIs Try.prog 90 [.ptr 0 [],.d (cv x)] [(0,gE s 1),(1,di s.all)] (.bool b) [(0,gE s' 64),(64,di s'.all)]
theorem rn (s:RdS) (x:HEv) (n:Nat) (hs:s.Ok n) (hn:n≤1000000) (k1:x.kind≠1) (k2:x.kind≠2) (k3:x.kind≠3) (c0:Bool) (h0:decide (0≤x.client)=c0):iy s x { s with read:=s.read+1 } false:=by
 have hr:=hs.read
 have d1:decide (x.kind=1)=false:=dF k1
 have d2:decide (x.kind=2)=false:=dF k2
 have d3:decide (x.kind=3)=false:=dF k3
 have hw:IntKind.i64.wrap (s.read+1)=s.read+1:=bp (by omega) (by omega)
 refine aG aa Try.func90 rfl rfl rfl ?_;refine sR<|rN ?_;refine rC<|nR ?_;refine zU ?_;refine rQ iM ?_;refine rC<|nR ?_;refine zU ?_;refine rQ iM ?_;refine rQ iD ?_;refine zD ?_;refine bO (aK aa rfl rfl rfl ⟨_,⟨_,⟨rfl,rfl,rfl⟩,rfl⟩,rfl⟩ rfl)<|nR ?_;refine rC ?_;refine rQ iB ?_;refine zD ?_
 cases c0 with
 | false =>
  iterate 3 refine rS ?_
  refine rQ iF ?_;refine rC<|nR ?_;refine rC ?_;refine rQ iB ?_;refine rQ (bH aa rfl rfl rfl) ?_;refine rQ (dx rfl rfl rfl rfl (by kernel_rfl) (by decide) (cQ x.value zBk)) ?_;refine rC<|nQ<|zS ?_;refine rC ?_;refine rQ iB ?_;refine zD ?_;refine zG<|sR ?_;refine rC ?_;refine rQ iB ?_;refine zD ?_;refine zG<|sR ?_;refine rC ?_;refine rQ iB ?_;refine zD ?_;refine zG<|sR ?_;refine rC<|zT<|zB ?_
  exact⟨trivial,[(64,some 1)],lg zV ⟨zR,zR,trivial⟩⟩
 | true =>
  refine rO ?_;refine rC ?_;refine rO ?_;refine rQ iB ?_;refine rO ?_;refine rC ?_;refine rQ iT ?_;refine rC<|nR ?_;refine rC ?_;refine rQ iB ?_;refine rQ (bH aa rfl rfl rfl) ?_;refine rQ (dx rfl rfl rfl rfl (by kernel_rfl) (by decide) (cQ x.value zBk)) ?_;refine rC<|nQ<|zS ?_;refine rC ?_;refine rQ iB ?_;refine zD ?_;refine zG<|sR ?_;refine rC ?_;refine rQ iB ?_;refine zD ?_;refine zG<|sR ?_;refine rC ?_;refine rQ iB ?_;refine zD ?_;refine zG<|sR ?_;refine rC<|zT<|zB ?_
  exact⟨trivial,[(64,some 1)],lg zV ⟨zR,zR,trivial⟩⟩
theorem rp (s:RdS) (x:HEv) (n:Nat) (hs:s.Ok n) (hn:n≤1000000) (k3:x.kind=3) (c0 c1 c2 c3:Bool) (h0:decide (0≤x.client)=c0) (h1:decide (x.client=0)=c1) (h2:decide (x.op=zOp)=c2) (h3:decide (x.value=zBk)=c3):iy s x ⟨eP,s.number,s.era+1,s.read+1,s.all⟩ (c1&&c2&&c3&&decide (x.err=0)):=by
 have hr:=hs.read
 have he:=hs.era
 have d1:decide (x.kind=1)=false:=dF (by omega)
 have d2:decide (x.kind=2)=false:=dF (by omega)
 have d3:decide (x.kind=3)=true:=dT k3
 have hw:IntKind.i64.wrap (s.read+1)=s.read+1:=bp (by omega) (by omega)
 have hw2:IntKind.i64.wrap (s.era+1)=s.era+1:=bp (by omega) (by omega)
 refine aG aa Try.func90 rfl rfl rfl ?_;refine sR<|rN ?_;refine rC<|nR ?_;refine zU ?_;refine rQ iM ?_;refine rC<|nR ?_;refine zU ?_;refine rQ iM ?_;refine rQ iD ?_;refine zD ?_;refine bO (aK aa rfl rfl rfl ⟨_,⟨_,⟨rfl,rfl,rfl⟩,rfl⟩,rfl⟩ rfl)<|nR ?_;refine rC ?_;refine rQ iB ?_;refine zD ?_
 cases c0 with
 | false =>
  have e1:c1=false:=by rw[←h1]; exact dF (by have:=of_decide_eq_false h0; omega)
  subst e1
  iterate 3 refine rS ?_
  refine rQ iF ?_;refine rC<|nR ?_;refine rC ?_;refine rQ iB ?_;refine rQ (bH aa rfl rfl rfl) ?_;refine rQ (dx rfl rfl rfl rfl (by kernel_rfl) (by decide) (cQ x.value zBk)) ?_;refine rC<|nQ<|zS ?_;refine rC ?_;refine rQ iB ?_;refine zD ?_;refine zG<|sR ?_;refine rC ?_;refine rQ iB ?_;refine zD ?_;refine zG<|sR ?_;refine rC ?_;refine rQ iB ?_;refine zD ?_;refine zI<|sR ?_;refine zU ?_;refine rQ (kY aa rfl rfl rfl) ?_;refine bF rfl (oC (enc:=i6) (s:=1) (L:=8) aa (0:Int) rfl rfl rfl rfl rfl rfl rfl rfl ⟨_,⟨_,⟨rfl,rfl,rfl⟩,rfl⟩,rfl⟩) rfl rfl<|nR ?_;refine zU ?_;refine rQ iM ?_;refine rQ iD ?_;refine zD ?_;refine bO (aK aa rfl rfl rfl ⟨_,⟨_,⟨rfl,rfl,rfl⟩,rfl⟩,rfl⟩ rfl)<|nR ?_;refine rC ?_;refine rQ iB ?_;refine zD ?_
  iterate 3 refine rS ?_
  refine rQ iF ?_;refine rC ?_;refine rT ?_;refine rQ iG ?_;refine rC ?_;iterate 3 refine rT ?_
  refine rQ iG ?_;refine rC<|zT<|zB ?_
  exact⟨trivial,[(64,some 1)],lg zV ⟨zR,zR,trivial⟩⟩
 | true =>
  refine rO ?_;refine rC ?_;refine rO ?_;refine rQ iB ?_;refine rO ?_;refine rC ?_;refine rQ iT ?_;refine rC<|nR ?_;refine rC ?_;refine rQ iB ?_;refine rQ (bH aa rfl rfl rfl) ?_;refine rQ (dx rfl rfl rfl rfl (by kernel_rfl) (by decide) (cQ x.value zBk)) ?_;refine rC<|nQ<|zS ?_;refine rC ?_;refine rQ iB ?_;refine zD ?_;refine zG<|sR ?_;refine rC ?_;refine rQ iB ?_;refine zD ?_;refine zG<|sR ?_;refine rC ?_;refine rQ iB ?_;refine zD ?_;refine zI<|sR ?_;refine zU ?_;refine rQ (kY aa rfl rfl rfl) ?_;refine bF rfl (oC (enc:=i6) (s:=1) (L:=8) aa (0:Int) rfl rfl rfl rfl rfl rfl rfl rfl ⟨_,⟨_,⟨rfl,rfl,rfl⟩,rfl⟩,rfl⟩) rfl rfl<|nR ?_;refine zU ?_;refine rQ iM ?_;refine rQ iD ?_;refine zD ?_;refine bO (aK aa rfl rfl rfl ⟨_,⟨_,⟨rfl,rfl,rfl⟩,rfl⟩,rfl⟩ rfl)<|nR ?_;refine rC ?_;refine rQ iB ?_;refine zD ?_
  cases c1 with
  | false =>
   iterate 3 refine rS ?_
   refine rQ iF ?_;refine rC ?_;refine rT ?_;refine rQ iG ?_;refine rC ?_;iterate 3 refine rT ?_
   refine rQ iG ?_;refine rC<|zT<|zB ?_
   exact⟨trivial,[(64,some 1)],lg zV ⟨zR,zR,trivial⟩⟩
  | true =>
   refine rO ?_;refine rC ?_;refine rO ?_;refine rQ iB ?_;refine rO ?_;refine rQ (aA (nn x.op) rfl rfl (ak ai) (.inl rfl) (fun _=>rfl)) ?_;refine rQ iT ?_;refine rC ?_
   cases c2 with
   | false =>
    refine rS ?_;refine rQ iF ?_;refine rC ?_;iterate 3 refine rT ?_
    refine rQ iG ?_;refine rC<|zT<|zB ?_
    exact⟨trivial,[(64,some 1)],lg zV ⟨zR,zR,trivial⟩⟩
   | true =>
    refine rO ?_;refine rC ?_;refine rQ iT ?_;refine rC ?_
    cases c3 with
    | false =>
     iterate 3 refine rS ?_
     refine rQ iF ?_;refine rC<|zT<|zB ?_
     exact⟨trivial,[(64,some 1)],lg zV ⟨zR,zR,trivial⟩⟩
    | true =>
     refine rO ?_;refine rC ?_;refine rO ?_;refine rQ iB ?_;refine rO ?_;refine rC ?_;refine rQ iT ?_;refine rC<|zT<|zB ?_
     exact⟨trivial,[(64,some 1)],lg zV ⟨zR,zR,trivial⟩⟩
theorem uN (s:RdS) (x:HEv) (n:Nat) (hs:s.Ok n) (hn:n≤1000000) (k1:x.kind=1) (m:Int) (hc0:0≤x.client) (hc8:x.client<8) (hbg:s.busy[x.client.toNat]?=some 0) (hng:s.number[x.client.toNat]?=some m) (hd64:x.op.data.length≤64) (hval:x.value=zBk) (herr:x.err=0) :
  iy s x ⟨s.busy.set x.client.toNat ((s.all.length+1:Nat):Int),s.number.set x.client.toNat (m+1),s.era,s.read+1,s.all++[⟨x.client,m,s.era,x.op,s.read,-1,zBk,0⟩]⟩ true:=by
 have hr:=hs.read
 have ha:=hs.all
 have hm:=hs.number m (List.mem_of_getElem? hng)
 have d1:decide (x.kind=1)=true:=dT k1
 have c0:decide (0≤x.client)=true:=dT hc0
 have c8:decide (x.client<8)=true:=dT hc8
 have n8:(!decide (x.client<8))=false:=by rw[c8]; rfl
 have b0:decide ((0:Int)<0)=false:=rfl
 have l64:decide ((64:Int)<((byI x.op.data).length:Int))=false:=dF (by rw[gh]; omega)
 have v0:(!decide (x.value=zBk))=false:=by rw[dT hval]; rfl
 have e0:(!decide (x.err=0))=false:=by rw[dT herr]; rfl
 have hw:IntKind.i64.wrap (s.read+1)=s.read+1:=bp (by omega) (by omega)
 have hwm:IntKind.i64.wrap (m+1)=m+1:=bp (by omega) (by omega)
 have hlen:x.op.data.length≤1048576:=by omega
 have hal:s.all.length+1≤1048576:=by omega
 simp only[iy,gE,List.length_append,List.length_cons,List.length_nil,Nat.zero_add]
 refine aG aa Try.func90 rfl rfl rfl ?_;refine sR<|rN ?_;refine rC<|nR ?_;refine zU ?_;refine rQ iM ?_;refine rC<|nR ?_;refine zU ?_;refine rQ iM ?_;refine rQ iD ?_;refine zD ?_;refine bO (aK aa rfl rfl rfl ⟨_,⟨_,⟨rfl,rfl,rfl⟩,rfl⟩,rfl⟩ rfl)<|nR ?_;refine rC ?_;refine rQ iB ?_;refine zD ?_;refine rO ?_;refine rC ?_;refine rO ?_;refine rQ iB ?_;refine rO ?_;refine rC ?_;refine rQ iT ?_;refine rC<|nR ?_;refine rC ?_;refine rQ iB ?_;refine rQ (bH aa rfl rfl rfl) ?_;refine rQ (dx rfl rfl rfl rfl (by kernel_rfl) (by decide) (cQ x.value zBk)) ?_;refine rC<|nQ<|zS ?_;refine rC ?_;refine rQ iB ?_;refine zD ?_;refine zI ?_;iterate 2 refine aZ ?_
 refine aw (by kernel_rfl) ?_;refine dC [6] [] ?_;refine dC [37] [] ?_;refine dC [38] [] ?_;refine ab [39,0] [] rfl rfl (by assumption) rfl (ay aa (fun K hk=>hk)) ?_;refine ab [39,3] [] rfl rfl (by assumption) rfl (ay aa (fun K hk=>hk)) ?_;refine ab [39,41] [64] rfl rfl (by assumption) rfl (aJ aa rfl rfl ⟨_,rfl,rfl⟩ rfl) ?_;refine ab [39,40] [] rfl rfl (by assumption) rfl (ay aa (fun K hk=>hk)) ?_;refine ab [39,43] [] rfl rfl (by assumption) rfl (ay aa (fun K hk=>hk)) ?_;refine ab [39,44,42] [] rfl rfl (by assumption) rfl (ay aa (fun K hk=>⟨by omega,by omega,hk⟩)) ?_;refine ab [39,45] [0] rfl rfl (by assumption) rfl (aJ aa rfl rfl ⟨_,⟨rfl,_,hbg,rfl⟩,rfl⟩ rfl) ?_;refine ab [39,46] [] rfl rfl (by assumption) rfl (ay aa (fun K hk=>hk)) ?_;refine dQ [39,47] [] iF ?_;refine dC [48] [] ?_;refine ab [49,3] [] rfl rfl rfl rfl (ay aa (fun K hk=>hk)) ?_;refine ab [49,50] [] rfl rfl rfl rfl (ay aa (fun K hk=>hk)) ?_;refine ab [49,51] [64] rfl rfl rfl rfl (aJ aa rfl rfl ⟨_,rfl,rfl⟩ rfl) ?_;refine ab [49,52] [] rfl rfl rfl rfl (pj aa rfl rfl) ?_;refine ab [49,53] [] rfl rfl rfl rfl (ay aa (fun K hk=>hk)) ?_;refine dQ [49,54] [] iG ?_;refine dC [55] [] ?_;refine ab [56,7] [] rfl rfl (by assumption) rfl (ay aa (fun K hk=>hk)) ?_;refine ab [56,57] [] rfl rfl (by assumption) rfl (ay aa (fun K hk=>hk)) ?_;refine dQ [56,58] [] iF ?_;refine dC [59] [] ?_;refine ab [60,3] [] rfl rfl (by assumption) rfl (ay aa (fun K hk=>hk)) ?_;refine ab [60,61] [64] rfl rfl (by assumption) rfl (aJ aa rfl rfl ⟨_,rfl,rfl⟩ rfl) ?_;refine ab [60,62] [] rfl rfl (by assumption) rfl (ay aa (fun K hk=>hk)) ?_;refine dQ [60,63] [] iF ?_;refine am (by kernel_rfl)<|aL ?_;refine wF<|kS<|sR ?_;refine zD ?_;refine rQ iB ?_;refine rQ (aA (yP x.op.data hlen) rfl rfl (ak ai) (.inl rfl) (fun _=>rfl)) ?_;refine zD ?_;refine bO (aK aa rfl rfl rfl ⟨_,⟨_,⟨_,⟨_,⟨rfl,rfl,rfl⟩,rfl⟩,rfl⟩,rfl⟩,rfl⟩ rfl)<|nQ ?_;refine aw (by kernel_rfl) ?_;iterate 2 refine dC [0] [] ?_
 refine dC [72] [] ?_;refine dC [73] [] ?_;refine dQ [74] [0] iM ?_;refine dC [3] [] ?_;refine dQ [76] [64] iB ?_;refine dC [0] [] ?_;refine dC [3] [] ?_;refine dQ [79] [64] iB ?_;refine dC [78] [] ?_;refine dC [81] [] ?_;refine dQ [82,80] [] (ay aa (fun K hk=>⟨by omega,by omega,hk⟩)) ?_;refine dQ [83] [0] (aJ aa rfl rfl ⟨_,⟨rfl,_,hng,rfl⟩,rfl⟩ rfl) ?_;refine dC [0] [] ?_;refine dC [85] [] ?_;refine dC [86] [] ?_;refine dQ [87] [0] iM ?_;refine dC [3] [] ?_;refine dQ [89] [64] iB ?_;refine dC [5] [] ?_;refine dQ [77,84,88,90,91] [] iS ?_;refine da [92] [] rfl (aH (s:=41) aa rfl rfl rfl rfl rfl rfl rfl rfl) ?_;refine iq [75,93] [1,784] rfl (bG (enc:=bh) (s:=41) (xs:=s.all) aa ⟨x.client,m,s.era,x.op,s.read,-1,zBk,0⟩ rfl rfl rfl rfl rfl rfl rfl rfl rfl hal rfl) ?_;refine dC [71] [] ?_;refine dC [95] [] ?_;refine br [96,94] [0] (aK aa rfl rfl rfl ⟨_,⟨_,⟨rfl,rfl,rfl⟩,rfl⟩,rfl⟩ rfl) ?_;refine am (by kernel_rfl)<|aL<|aZ ?_;refine aw (by kernel_rfl) ?_;refine dC [0] [] ?_;refine dC [3] [] ?_;refine dQ [98] [64] iB ?_;refine dC [97] [] ?_;refine dC [100] [] ?_;refine dQ [101,99] [] (ay aa (fun K hk=>⟨by omega,by omega,hk⟩)) ?_;refine dQ [102] [0] (aJ aa rfl rfl ⟨_,⟨rfl,_,hng,rfl⟩,rfl⟩ rfl) ?_;refine dQ [103] [] iD ?_;refine dC [97] [] ?_;refine dC [105] [] ?_;refine dQ [106,99] [] (ay aa (fun K hk=>⟨by omega,by omega,hk⟩)) ?_;refine br [107,104] [0] (aK aa rfl rfl rfl ⟨_,⟨_,⟨_,⟨rfl,_,m+1,hng,⟨rfl,rfl,rfl⟩,rfl⟩,rfl⟩,rfl⟩,rfl⟩ rfl) ?_;refine am (by kernel_rfl)<|aL ?_;refine aw (by kernel_rfl) ?_;refine dC [0] [] ?_;refine dC [3] [] ?_;refine dQ [109] [64] iB ?_;refine dC [0] [] ?_;refine dC [111] [] ?_;refine dC [112] [] ?_;refine dQ [113] [0] iM ?_;refine dQ [114] [792] (bz aa rfl rfl) ?_;refine dC [108] [] ?_;refine dC [116] [] ?_;refine dQ [117,110] [] (ay aa (fun K hk=>⟨by omega,by omega,hk⟩)) ?_;refine br [118,115] [0] (aK aa rfl rfl rfl ⟨_,⟨_,⟨_,⟨rfl,_,((s.all.length+1:Nat):Int),hbg,⟨rfl,rfl,rfl⟩,rfl⟩,rfl⟩,rfl⟩,rfl⟩ rfl) ?_;refine am (by kernel_rfl)<|zC<|sR ?_;refine rC<|zT ?_
 exact⟨trivial,[(64,some _)],lg zV ⟨zR,zR,trivial⟩⟩
theorem pM (s:RdS) (x:HEv) (n:Nat) (hs:s.Ok n) (hn:n≤1000000) (k1:x.kind=1) (hno:inv1 s x=false):iy s x { s with read:=s.read+1 } false:=by
 have hr:=hs.read
 have d1:decide (x.kind=1)=true:=dT k1
 have hw:IntKind.i64.wrap (s.read+1)=s.read+1:=bp (by omega) (by omega)
 refine aG aa Try.func90 rfl rfl rfl ?_;refine sR<|rN ?_;refine rC<|nR ?_;refine zU ?_;refine rQ iM ?_;refine rC<|nR ?_;refine zU ?_;refine rQ iM ?_;refine rQ iD ?_;refine zD ?_;refine bO (aK aa rfl rfl rfl ⟨_,⟨_,⟨rfl,rfl,rfl⟩,rfl⟩,rfl⟩ rfl)<|nR ?_;refine rC ?_;refine rQ iB ?_;refine zD ?_
 by_cases hc0:0≤x.client
 ·have c0:decide (0≤x.client)=true:=dT hc0
  refine rO ?_;refine rC ?_;refine rO ?_;refine rQ iB ?_;refine rO ?_;refine rC ?_;refine rQ iT ?_;refine rC<|nR ?_;refine rC ?_;refine rQ iB ?_;refine rQ (bH aa rfl rfl rfl) ?_;refine rQ (dx rfl rfl rfl rfl (by kernel_rfl) (by decide) (cQ x.value zBk)) ?_;refine rC<|nQ<|zS ?_;refine rC ?_;refine rQ iB ?_;refine zD ?_;refine zI ?_;iterate 2 refine aZ ?_
  refine aw (by kernel_rfl) ?_;refine dC [6] [] ?_;refine dC [37] [] ?_;refine dC [38] [] ?_
  by_cases hc8:x.client<8
  ·have c8:decide (x.client<8)=true:=dT hc8
   have n8:(!decide (x.client<8))=false:=by rw[c8]; rfl
   obtain⟨b,hbg⟩:∃b,s.busy[x.client.toNat]?=some b:=⟨_,List.getElem?_eq_getElem (by rw[hs.blen]; omega)⟩
   have hb:=hs.busy b (List.mem_of_getElem? hbg)
   refine ab [39,0] [] rfl rfl (by assumption) rfl (ay aa (fun K hk=>hk)) ?_;refine ab [39,3] [] rfl rfl (by assumption) rfl (ay aa (fun K hk=>hk)) ?_;refine ab [39,41] [64] rfl rfl (by assumption) rfl (aJ aa rfl rfl ⟨_,rfl,rfl⟩ rfl) ?_;refine ab [39,40] [] rfl rfl (by assumption) rfl (ay aa (fun K hk=>hk)) ?_;refine ab [39,43] [] rfl rfl (by assumption) rfl (ay aa (fun K hk=>hk)) ?_;refine ab [39,44,42] [] rfl rfl (by assumption) rfl (ay aa (fun K hk=>⟨by omega,by omega,hk⟩)) ?_;refine ab [39,45] [0] rfl rfl (by assumption) rfl (aJ aa rfl rfl ⟨_,⟨rfl,_,hbg,rfl⟩,rfl⟩ rfl) ?_;refine ab [39,46] [] rfl rfl (by assumption) rfl (ay aa (fun K hk=>hk)) ?_;refine dQ [39,47] [] iF ?_;refine dC [48] [] ?_
   by_cases hb0:b=0
   ·have b0:decide (0<b)=false:=dF (by omega)
    refine ab [49,3] [] rfl rfl (by assumption) rfl (ay aa (fun K hk=>hk)) ?_;refine ab [49,50] [] rfl rfl (by assumption) rfl (ay aa (fun K hk=>hk)) ?_;refine ab [49,51] [64] rfl rfl (by assumption) rfl (aJ aa rfl rfl ⟨_,rfl,rfl⟩ rfl) ?_;refine ab [49,52] [] rfl rfl (by assumption) rfl (pj aa rfl rfl) ?_;refine ab [49,53] [] rfl rfl (by assumption) rfl (ay aa (fun K hk=>hk)) ?_;refine dQ [49,54] [] iF ?_;refine dC [55] [] ?_
    by_cases hd:x.op.data.length≤64
    ·have l64:decide ((64:Int)<((byI x.op.data).length:Int))=false:=dF (by rw[gh]; omega)
     refine ab [56,7] [] rfl rfl (by assumption) rfl (ay aa (fun K hk=>hk)) ?_;refine ab [56,57] [] rfl rfl (by assumption) rfl (ay aa (fun K hk=>hk)) ?_;refine dQ [56,58] [] iF ?_;refine dC [59] [] ?_
     by_cases hv:x.value=zBk
     ·have v0:(!decide (x.value=zBk))=false:=by rw[dT hv]; rfl
      have e0:(!decide (x.err=0))=true:=by
       skip
       cases h:decide (x.err=0) with
       | false=>rfl
       | true =>
        rw[inv1,c0,c8,hbg,hb0,dT hd,dT hv,h]at hno
        cases hno
      refine ab [60,3] [] rfl rfl (by assumption) rfl (ay aa (fun K hk=>hk)) ?_;refine ab [60,61] [64] rfl rfl (by assumption) rfl (aJ aa rfl rfl ⟨_,rfl,rfl⟩ rfl) ?_;refine ab [60,62] [] rfl rfl (by assumption) rfl (ay aa (fun K hk=>hk)) ?_;refine dQ [60,63] [] iF ?_;refine am (by kernel_rfl)<|aL ?_;refine wT<|sR ?_;refine rC<|zT<|bQ<|zB ?_
      exact⟨trivial,[(64,some 1)],lg zV ⟨zR,zR,trivial⟩⟩
     ·have v0:(!decide (x.value=zBk))=true:=by rw[dF hv]; rfl
      refine ae [60,3] rfl rfl (by assumption) rfl ?_;refine ae [60,61] rfl rfl (by assumption) rfl ?_;refine ae [60,62] rfl rfl (by assumption) rfl ?_;refine dQ [60,63] [] iT ?_;refine am (by kernel_rfl)<|aL ?_;refine wV<|sR ?_;refine rC<|zT<|bQ<|zB ?_
      exact⟨trivial,[(64,some 1)],lg zV ⟨zR,zR,trivial⟩⟩
    ·have l64:decide ((64:Int)<((byI x.op.data).length:Int))=true:=dT (by rw[gh]; omega)
     refine ae [56,7] rfl rfl (by assumption) rfl ?_;refine ae [56,57] rfl rfl (by assumption) rfl ?_;refine dQ [56,58] [] iT ?_;refine dC [59] [] ?_;refine ae [60,3] rfl rfl rfl rfl ?_;refine ae [60,61] rfl rfl rfl rfl ?_;refine ae [60,62] rfl rfl rfl rfl ?_;refine dQ [60,63] [] iU ?_;refine am (by kernel_rfl)<|aL ?_;refine wV<|sR ?_;refine rC<|zT<|bQ<|zB ?_
     exact⟨trivial,[(64,some 1)],lg zV ⟨zR,zR,trivial⟩⟩
   ·have b0:decide (0<b)=true:=dT (by omega)
    refine ae [49,3] rfl rfl (by assumption) rfl ?_;refine ae [49,50] rfl rfl (by assumption) rfl ?_;refine ae [49,51] rfl rfl (by assumption) rfl ?_;refine ae [49,52] rfl rfl (by assumption) rfl ?_;refine ae [49,53] rfl rfl (by assumption) rfl ?_;refine dQ [49,54] [] iT ?_;refine dC [55] [] ?_;refine ae [56,7] rfl rfl rfl rfl ?_;refine ae [56,57] rfl rfl rfl rfl ?_;refine dQ [56,58] [] iU ?_;refine dC [59] [] ?_;refine ae [60,3] rfl rfl rfl rfl ?_;refine ae [60,61] rfl rfl rfl rfl ?_;refine ae [60,62] rfl rfl rfl rfl ?_;refine dQ [60,63] [] iU ?_;refine am (by kernel_rfl)<|aL ?_;refine wV<|sR ?_;refine rC<|zT<|bQ<|zB ?_
    exact⟨trivial,[(64,some 1)],lg zV ⟨zR,zR,trivial⟩⟩
  ·have c8:decide (x.client<8)=false:=dF hc8
   have n8:(!decide (x.client<8))=true:=by rw[c8]; rfl
   refine ae [39,0] rfl rfl (by assumption) rfl ?_;refine ae [39,3] rfl rfl (by assumption) rfl ?_;refine ae [39,41] rfl rfl (by assumption) rfl ?_;refine ae [39,40] rfl rfl (by assumption) rfl ?_;refine ae [39,43] rfl rfl (by assumption) rfl ?_;refine ae [39,44,42] rfl rfl (by assumption) rfl ?_;refine ae [39,45] rfl rfl (by assumption) rfl ?_;refine ae [39,46] rfl rfl (by assumption) rfl ?_;refine dQ [39,47] [] iT ?_;refine dC [48] [] ?_;refine ae [49,3] rfl rfl rfl rfl ?_;refine ae [49,50] rfl rfl rfl rfl ?_;refine ae [49,51] rfl rfl rfl rfl ?_;refine ae [49,52] rfl rfl rfl rfl ?_;refine ae [49,53] rfl rfl rfl rfl ?_;refine dQ [49,54] [] iU ?_;refine dC [55] [] ?_;refine ae [56,7] rfl rfl rfl rfl ?_;refine ae [56,57] rfl rfl rfl rfl ?_;refine dQ [56,58] [] iU ?_;refine dC [59] [] ?_;refine ae [60,3] rfl rfl rfl rfl ?_;refine ae [60,61] rfl rfl rfl rfl ?_;refine ae [60,62] rfl rfl rfl rfl ?_;refine dQ [60,63] [] iU ?_;refine am (by kernel_rfl)<|aL ?_;refine wV<|sR ?_;refine rC<|zT<|bQ<|zB ?_
   exact⟨trivial,[(64,some 1)],lg zV ⟨zR,zR,trivial⟩⟩
 ·have c0:decide (0≤x.client)=false:=dF hc0
  iterate 3 refine rS ?_
  refine rQ iF ?_;refine rC<|nR ?_;refine rC ?_;refine rQ iB ?_;refine rQ (bH aa rfl rfl rfl) ?_;refine rQ (dx rfl rfl rfl rfl (by kernel_rfl) (by decide) (cQ x.value zBk)) ?_;refine rC<|nQ<|zS ?_;refine rC ?_;refine rQ iB ?_;refine zD ?_;refine zI ?_;iterate 2 refine aZ ?_
  refine aw (by kernel_rfl) ?_;refine dC [6] [] ?_;refine dC [37] [] ?_;refine dC [38] [] ?_;refine ae [39,0] rfl rfl rfl rfl ?_;refine ae [39,3] rfl rfl rfl rfl ?_;refine ae [39,41] rfl rfl rfl rfl ?_;refine ae [39,40] rfl rfl rfl rfl ?_;refine ae [39,43] rfl rfl rfl rfl ?_;refine ae [39,44,42] rfl rfl rfl rfl ?_;refine ae [39,45] rfl rfl rfl rfl ?_;refine ae [39,46] rfl rfl rfl rfl ?_;refine dQ [39,47] [] iU ?_;refine dC [48] [] ?_;refine ae [49,3] rfl rfl rfl rfl ?_;refine ae [49,50] rfl rfl rfl rfl ?_;refine ae [49,51] rfl rfl rfl rfl ?_;refine ae [49,52] rfl rfl rfl rfl ?_;refine ae [49,53] rfl rfl rfl rfl ?_;refine dQ [49,54] [] iU ?_;refine dC [55] [] ?_;refine ae [56,7] rfl rfl rfl rfl ?_;refine ae [56,57] rfl rfl rfl rfl ?_;refine dQ [56,58] [] iU ?_;refine dC [59] [] ?_;refine ae [60,3] rfl rfl rfl rfl ?_;refine ae [60,61] rfl rfl rfl rfl ?_;refine ae [60,62] rfl rfl rfl rfl ?_;refine dQ [60,63] [] iU ?_;refine am (by kernel_rfl)<|aL ?_;refine wV<|sR ?_;refine rC<|zT<|bQ<|zB ?_
  exact⟨trivial,[(64,some 1)],lg zV ⟨zR,zR,trivial⟩⟩
theorem sU (e:Int):([0,1,8,9]:List Int).any (fun y=>decide (e=y))=kn4 e:=by simp[kn4,Bool.or_assoc]
theorem rl (s:RdS) (x:HEv) (n:Nat) (hs:s.Ok n) (hn:n≤1000000) (k2:x.kind=2) (b:Int) (o:HOp) (hc0:0≤x.client) (hc8:x.client<8) (hbg:s.busy[x.client.toNat]?=some b) (hb0:b≠0) (hog:s.all[(b-1).toNat]?=some o) (hz:x.op=zOp) (c1 c2 c3:Bool) (h1:(!([0,1,8,9]:List Int).any (fun y=>decide (x.err=y)))=c1) (h2:(!decide (x.value=zBk))=c2) (h3:(!decide (o.op.kind=1))=c3) (h4:(c1||c2&&(c3 || !decide (x.err=0)))=false) :
  iy s x ⟨s.busy.set x.client.toNat 0,s.number,s.era,s.read+1,s.all.set (b-1).toNat { o with returned:=s.read,value:=x.value,err:=x.err }⟩ true:=by
 have hr:=hs.read
 have ha:=hs.all
 have hb:=hs.busy b (List.mem_of_getElem? hbg)
 have d1:decide (x.kind=1)=false:=dF (by omega)
 have d2:decide (x.kind=2)=true:=dT k2
 have c0:decide (0≤x.client)=true:=dT hc0
 have c8:decide (x.client<8)=true:=dT hc8
 have n8:(!decide (x.client<8))=false:=by rw[c8]; rfl
 have b0:decide (b=0)=false:=dF hb0
 have z0:(!decide (x.op=zOp))=false:=by rw[dT hz]; rfl
 have hw:IntKind.i64.wrap (s.read+1)=s.read+1:=bp (by omega) (by omega)
 have hwb:IntKind.i64.wrap (b-1)=b-1:=bp (by omega) (by omega)
 have hlt:b-1<(s.all.length:Int):=by omega
 have hge:0≤b-1:=by omega
 have hjl:=(List.getElem?_eq_some_iff.1 hog).1
 have hog1:(s.all.set (b-1).toNat { o with returned:=s.read })[(b-1).toNat]?=some { o with returned:=s.read }:=List.getElem?_set_self hjl
 have hog2:(s.all.set (b-1).toNat { o with returned:=s.read,value:=x.value })[(b-1).toNat]?=some { o with returned:=s.read,value:=x.value }:=List.getElem?_set_self hjl
 simp only[iy,gE,List.length_set]
 refine aG aa Try.func90 rfl rfl rfl ?_;refine sR<|rN ?_;refine rC<|nR ?_;refine zU ?_;refine rQ iM ?_;refine rC<|nR ?_;refine zU ?_;refine rQ iM ?_;refine rQ iD ?_;refine zD ?_;refine bO (aK aa rfl rfl rfl ⟨_,⟨_,⟨rfl,rfl,rfl⟩,rfl⟩,rfl⟩ rfl)<|nR ?_;refine rC ?_;refine rQ iB ?_;refine zD ?_;refine rO ?_;refine rC ?_;refine rO ?_;refine rQ iB ?_;refine rO ?_;refine rC ?_;refine rQ iT ?_;refine rC<|nR ?_;refine rC ?_;refine rQ iB ?_;refine rQ (bH aa rfl rfl rfl) ?_;refine rQ (dx rfl rfl rfl rfl (by kernel_rfl) (by decide) (cQ x.value zBk)) ?_;refine rC<|nQ<|zS ?_;refine rC ?_;refine rQ iB ?_;refine zD ?_;refine zG<|sR ?_;refine rC ?_;refine rQ iB ?_;refine zD ?_;refine zI ?_;iterate 2 refine aZ ?_
 refine aw (by kernel_rfl) ?_;refine dC [6] [] ?_;refine dC [123] [] ?_;refine dC [124] [] ?_;refine ab [125,0] [] rfl rfl (by assumption) rfl (ay aa (fun K hk=>hk)) ?_;refine ab [125,3] [] rfl rfl (by assumption) rfl (ay aa (fun K hk=>hk)) ?_;refine ab [125,127] [64] rfl rfl (by assumption) rfl (aJ aa rfl rfl ⟨_,rfl,rfl⟩ rfl) ?_;refine ab [125,126] [] rfl rfl (by assumption) rfl (ay aa (fun K hk=>hk)) ?_;refine ab [125,129] [] rfl rfl (by assumption) rfl (ay aa (fun K hk=>hk)) ?_;refine ab [125,130,128] [] rfl rfl (by assumption) rfl (ay aa (fun K hk=>⟨by omega,by omega,hk⟩)) ?_;refine ab [125,131] [0] rfl rfl (by assumption) rfl (aJ aa rfl rfl ⟨_,⟨rfl,_,hbg,rfl⟩,rfl⟩ rfl) ?_;refine ab [125,132] [] rfl rfl (by assumption) rfl (ay aa (fun K hk=>hk)) ?_;refine dQ [125,133] [] iF ?_;refine dC [134] [] ?_;refine ab [135,3] [] rfl rfl (by assumption) rfl (ay aa (fun K hk=>hk)) ?_;refine ab [135,136] [64] rfl rfl (by assumption) rfl (aJ aa rfl rfl ⟨_,rfl,rfl⟩ rfl) ?_;refine ab [135,137] [] rfl rfl (by assumption) rfl (aA (nn x.op) rfl rfl (ak ai) (.inl rfl) (fun _=>rfl)) ?_;refine ab [135,138] [] rfl rfl (by assumption) rfl (ay aa (fun K hk=>hk)) ?_;refine dQ [135,139] [] iF ?_;refine am (by kernel_rfl)<|aL ?_;refine wF<|zQ ?_;refine aw (by kernel_rfl) ?_;refine dC [0] [] ?_;refine dC [141] [] ?_;refine dC [142] [] ?_;refine dQ [143] [0] iM ?_;refine dC [0] [] ?_;refine dC [3] [] ?_;refine dQ [146] [64] iB ?_;refine dC [145] [] ?_;refine dC [148] [] ?_;refine dQ [149,147] [] (ay aa (fun K hk=>⟨by omega,by omega,hk⟩)) ?_;refine dQ [150] [0] (aJ aa rfl rfl ⟨_,⟨rfl,_,hbg,rfl⟩,rfl⟩ rfl) ?_;refine dQ [151] [] (ey aa rfl rfl hwb) ?_;refine dQ [144,152] [] (aP aa rfl rfl rfl rfl rfl (by omega) (by omega)) ?_;refine dC [153] [] ?_;refine am (by kernel_rfl)<|aL<|sR ?_;refine rQ (aj.frozen (aH (s:=1) aa rfl rfl rfl rfl rfl rfl rfl rfl) (Frz.litsN (enc:=i6) [0,1,8,9] rfl (fun _ _=>rfl))) ?_;refine rC ?_;refine rQ iB ?_;refine rQ (aA (wo x.err [0,1,8,9] (by decide)) rfl rfl (ak (ak ai)) (.inl rfl) (fun _=>rfl)) ?_;refine rC<|zW ?_;refine zU ?_
 cases c1 with
 | true=>cases h4
 | false =>
  refine rO ?_;refine rC ?_;refine rO ?_;refine rC ?_;refine rO ?_;refine rC ?_
  cases c2 with
  | false =>
   iterate 7 refine rS ?_
   iterate 3 refine rU ?_
   refine rS ?_;refine rO ?_;iterate 2 refine rQ iF ?_
   refine zJ<|zQ ?_;refine aw (by kernel_rfl) ?_;iterate 3 refine dC [8] [] ?_
   refine dC [5] [] ?_;refine dC [3] [] ?_;refine dQ [181] [64] iB ?_;refine dC [3] [] ?_;refine dQ [183] [64] iB ?_;refine dC [177] [] ?_;refine dC [185] [] ?_;refine br [186,180] [1] (aK (row':=di (s.all.set (b-1).toNat { o with returned:=s.read })) aa rfl rfl rfl ⟨rfl,o, { o with returned:=s.read },hog,⟨_,⟨rfl,rfl,rfl⟩,rfl⟩,rfl⟩ rfl) ?_;refine dC [178] [] ?_;refine dC [187] [] ?_;refine br [188,182] [1] (aK (row':=di (s.all.set (b-1).toNat { o with returned:=s.read,value:=x.value })) aa rfl rfl rfl ⟨rfl,_, { o with returned:=s.read,value:=x.value },hog1,⟨_,⟨rfl,rfl,rfl⟩,rfl⟩,(by rw[List.set_set])⟩ rfl) ?_;refine dC [179] [] ?_;refine dC [189] [] ?_;refine br [190,184] [1] (aK (row':=di (s.all.set (b-1).toNat { o with returned:=s.read,value:=x.value,err:=x.err })) aa rfl rfl rfl ⟨rfl,_, { o with returned:=s.read,value:=x.value,err:=x.err },hog2,⟨_,⟨rfl,rfl,rfl⟩,rfl⟩,(by rw[List.set_set])⟩ rfl) ?_;refine am (by kernel_rfl)<|aL ?_;refine aw (by kernel_rfl) ?_;refine dC [0] [] ?_;refine dC [3] [] ?_;refine dQ [192] [64] iB ?_;refine dC [191] [] ?_;refine dC [194] [] ?_;refine dQ [195,193] [] (ay aa (fun K hk=>⟨by omega,by omega,hk⟩)) ?_;refine br [196] [0] (aK aa rfl rfl rfl ⟨_,⟨_,⟨_,⟨rfl,_,0,hbg,⟨rfl,rfl,rfl⟩,rfl⟩,rfl⟩,rfl⟩,rfl⟩ rfl) ?_;refine am (by kernel_rfl)<|zC<|sR ?_;refine rC<|zT ?_
   exact⟨trivial,[(64,some 1)],lg zV ⟨zR,zR,trivial⟩⟩
  | true =>
   refine rO ?_;refine rC ?_;refine rO ?_;refine rC ?_;refine rO ?_;refine rC ?_;refine rO ?_;refine rC ?_;refine rO ?_;refine rQ (bf aa rfl rfl ⟨rfl,o,hog,_,rfl,rfl⟩ rfl) ?_;refine rO ?_;refine rC ?_;refine rO ?_;refine rC ?_
   cases c3 with
   | true=>cases h4
   | false =>
    have e0:(!decide (x.err=0))=false:=h4
    refine rO ?_;refine rC ?_;refine rO ?_;refine rQ iB ?_;refine rO ?_;refine rC ?_;refine rO ?_;refine rQ iF ?_;refine rO ?_;refine rQ iT ?_;refine rQ iF<|nS ?_;refine wF<|zQ ?_;refine aw (by kernel_rfl) ?_;iterate 3 refine dC [8] [] ?_
    refine dC [5] [] ?_;refine dC [3] [] ?_;refine dQ [181] [64] iB ?_;refine dC [3] [] ?_;refine dQ [183] [64] iB ?_;refine dC [177] [] ?_;refine dC [185] [] ?_;refine br [186,180] [1] (aK (row':=di (s.all.set (b-1).toNat { o with returned:=s.read })) aa rfl rfl rfl ⟨rfl,o, { o with returned:=s.read },hog,⟨_,⟨rfl,rfl,rfl⟩,rfl⟩,rfl⟩ rfl) ?_;refine dC [178] [] ?_;refine dC [187] [] ?_;refine br [188,182] [1] (aK (row':=di (s.all.set (b-1).toNat { o with returned:=s.read,value:=x.value })) aa rfl rfl rfl ⟨rfl,_, { o with returned:=s.read,value:=x.value },hog1,⟨_,⟨rfl,rfl,rfl⟩,rfl⟩,(by rw[List.set_set])⟩ rfl) ?_;refine dC [179] [] ?_;refine dC [189] [] ?_;refine br [190,184] [1] (aK (row':=di (s.all.set (b-1).toNat { o with returned:=s.read,value:=x.value,err:=x.err })) aa rfl rfl rfl ⟨rfl,_, { o with returned:=s.read,value:=x.value,err:=x.err },hog2,⟨_,⟨rfl,rfl,rfl⟩,rfl⟩,(by rw[List.set_set])⟩ rfl) ?_;refine am (by kernel_rfl)<|aL ?_;refine aw (by kernel_rfl) ?_;refine dC [0] [] ?_;refine dC [3] [] ?_;refine dQ [192] [64] iB ?_;refine dC [191] [] ?_;refine dC [194] [] ?_;refine dQ [195,193] [] (ay aa (fun K hk=>⟨by omega,by omega,hk⟩)) ?_;refine br [196] [0] (aK aa rfl rfl rfl ⟨_,⟨_,⟨_,⟨rfl,_,0,hbg,⟨rfl,rfl,rfl⟩,rfl⟩,rfl⟩,rfl⟩,rfl⟩ rfl) ?_;refine am (by kernel_rfl)<|zC<|sR ?_;refine rC<|zT ?_
    exact⟨trivial,[(64,some 1)],lg zV ⟨zR,zR,trivial⟩⟩
theorem pL (s:RdS) (x:HEv) (n:Nat) (hs:s.Ok n) (hn:n≤1000000) (k2:x.kind=2) (hno:ret1 s x=false):iy s x { s with read:=s.read+1 } false:=by
 have hr:=hs.read
 have ha:=hs.all
 have d1:decide (x.kind=1)=false:=dF (by omega)
 have d2:decide (x.kind=2)=true:=dT k2
 have hw:IntKind.i64.wrap (s.read+1)=s.read+1:=bp (by omega) (by omega)
 refine aG aa Try.func90 rfl rfl rfl ?_;refine sR<|rN ?_;refine rC<|nR ?_;refine zU ?_;refine rQ iM ?_;refine rC<|nR ?_;refine zU ?_;refine rQ iM ?_;refine rQ iD ?_;refine zD ?_;refine bO (aK aa rfl rfl rfl ⟨_,⟨_,⟨rfl,rfl,rfl⟩,rfl⟩,rfl⟩ rfl)<|nR ?_;refine rC ?_;refine rQ iB ?_;refine zD ?_
 by_cases hc0:0≤x.client
 ·have c0:decide (0≤x.client)=true:=dT hc0
  refine rO ?_;refine rC ?_;refine rO ?_;refine rQ iB ?_;refine rO ?_;refine rC ?_;refine rQ iT ?_;refine rC<|nR ?_;refine rC ?_;refine rQ iB ?_;refine rQ (bH aa rfl rfl rfl) ?_;refine rQ (dx rfl rfl rfl rfl (by kernel_rfl) (by decide) (cQ x.value zBk)) ?_;refine rC<|nQ<|zS ?_;refine rC ?_;refine rQ iB ?_;refine zD ?_;refine zG<|sR ?_;refine rC ?_;refine rQ iB ?_;refine zD ?_;refine zI ?_;iterate 2 refine aZ ?_
  refine aw (by kernel_rfl) ?_;refine dC [6] [] ?_;refine dC [123] [] ?_;refine dC [124] [] ?_
  by_cases hc8:x.client<8
  ·have c8:decide (x.client<8)=true:=dT hc8
   have n8:(!decide (x.client<8))=false:=by rw[c8]; rfl
   obtain⟨b,hbg⟩:∃b,s.busy[x.client.toNat]?=some b:=⟨_,List.getElem?_eq_getElem (by rw[hs.blen]; omega)⟩
   have hb:=hs.busy b (List.mem_of_getElem? hbg)
   refine ab [125,0] [] rfl rfl (by assumption) rfl (ay aa (fun K hk=>hk)) ?_;refine ab [125,3] [] rfl rfl (by assumption) rfl (ay aa (fun K hk=>hk)) ?_;refine ab [125,127] [64] rfl rfl (by assumption) rfl (aJ aa rfl rfl ⟨_,rfl,rfl⟩ rfl) ?_;refine ab [125,126] [] rfl rfl (by assumption) rfl (ay aa (fun K hk=>hk)) ?_;refine ab [125,129] [] rfl rfl (by assumption) rfl (ay aa (fun K hk=>hk)) ?_;refine ab [125,130,128] [] rfl rfl (by assumption) rfl (ay aa (fun K hk=>⟨by omega,by omega,hk⟩)) ?_;refine ab [125,131] [0] rfl rfl (by assumption) rfl (aJ aa rfl rfl ⟨_,⟨rfl,_,hbg,rfl⟩,rfl⟩ rfl) ?_;refine ab [125,132] [] rfl rfl (by assumption) rfl (ay aa (fun K hk=>hk)) ?_;refine dQ [125,133] [] iF ?_;refine dC [134] [] ?_
   by_cases hb0:b=0
   ·have b0:decide (b=0)=true:=dT hb0
    refine ae [135,3] rfl rfl (by assumption) rfl ?_;refine ae [135,136] rfl rfl (by assumption) rfl ?_;refine ae [135,137] rfl rfl (by assumption) rfl ?_;refine ae [135,138] rfl rfl (by assumption) rfl ?_;refine dQ [135,139] [] iT ?_;refine am (by kernel_rfl)<|aL ?_;refine wV<|sR ?_;refine rC<|zT<|bQ<|zB ?_
    exact⟨trivial,[(64,some 1)],lg zV ⟨zR,zR,trivial⟩⟩
   ·have b0:decide (b=0)=false:=dF hb0
    refine ab [135,3] [] rfl rfl (by assumption) rfl (ay aa (fun K hk=>hk)) ?_;refine ab [135,136] [64] rfl rfl (by assumption) rfl (aJ aa rfl rfl ⟨_,rfl,rfl⟩ rfl) ?_;refine ab [135,137] [] rfl rfl (by assumption) rfl (aA (nn x.op) rfl rfl (ak ai) (.inl rfl) (fun _=>rfl)) ?_;refine ab [135,138] [] rfl rfl (by assumption) rfl (ay aa (fun K hk=>hk)) ?_;refine dQ [135,139] [] iF ?_;refine am (by kernel_rfl)<|aL ?_
    by_cases hz:x.op=zOp
    ·have z0:(!decide (x.op=zOp))=false:=by rw[dT hz]; rfl
     have hwb:IntKind.i64.wrap (b-1)=b-1:=bp (by omega) (by omega)
     have hlt:b-1<(s.all.length:Int):=by omega
     have hge:0≤b-1:=by omega
     obtain⟨o,hog⟩:∃o,s.all[(b-1).toNat]?=some o:=⟨_,List.getElem?_eq_getElem (by omega)⟩
     obtain⟨c1,h1⟩:∃c,(!([0,1,8,9]:List Int).any (fun y=>decide (x.err=y)))=c:=⟨_,rfl⟩
     obtain⟨c2,h2⟩:∃c,(!decide (x.value=zBk))=c:=⟨_,rfl⟩
     obtain⟨c3,h3⟩:∃c,(!decide (o.op.kind=1))=c:=⟨_,rfl⟩
     obtain⟨c4,h4⟩:∃c,(!decide (x.err=0))=c:=⟨_,rfl⟩
     have hc:(c1||c2&&(c3||c4))=true:=by
      have hkn:kn4 x.err = !c1:=by rw[←h1,←sU,Bool.not_not]
      have hv2:decide (x.value=zBk) = !c2:=by rw[←h2,Bool.not_not]
      have hk3:decide (o.op.kind=1) = !c3:=by rw[←h3,Bool.not_not]
      have he4:decide (x.err=0) = !c4:=by rw[←h4,Bool.not_not]
      have hb':decide (some b=some (0:Int))=false:=dF (by simpa using hb0)
      have ho:opOf s x=some o:=by rw[opOf,hbg]; exact hog
      rw[ret1,c0,c8,hbg,hb',dT hz,hkn,hv2,ho]at hno
      simp only[hk3,he4]at hno
      revert hno
      cases c1 <;> cases c2 <;> cases c3 <;> cases c4 <;> decide
     refine wF<|zQ ?_;refine aw (by kernel_rfl) ?_;refine dC [0] [] ?_;refine dC [141] [] ?_;refine dC [142] [] ?_;refine dQ [143] [0] iM ?_;refine dC [0] [] ?_;refine dC [3] [] ?_;refine dQ [146] [64] iB ?_;refine dC [145] [] ?_;refine dC [148] [] ?_;refine dQ [149,147] [] (ay aa (fun K hk=>⟨by omega,by omega,hk⟩)) ?_;refine dQ [150] [0] (aJ aa rfl rfl ⟨_,⟨rfl,_,hbg,rfl⟩,rfl⟩ rfl) ?_;refine dQ [151] [] (ey aa rfl rfl hwb) ?_;refine dQ [144,152] [] (aP aa rfl rfl rfl rfl rfl (by omega) (by omega)) ?_;refine dC [153] [] ?_;refine am (by kernel_rfl)<|aL<|sR ?_;refine rQ (aj.frozen (aH (s:=1) aa rfl rfl rfl rfl rfl rfl rfl rfl) (Frz.litsN (enc:=i6) [0,1,8,9] rfl (fun _ _=>rfl))) ?_;refine rC ?_;refine rQ iB ?_;refine rQ (aA (wo x.err [0,1,8,9] (by decide)) rfl rfl (ak (ak ai)) (.inl rfl) (fun _=>rfl)) ?_;refine rC<|zW ?_;refine zU ?_
     cases c1 with
     | true =>
      iterate 3 refine rS ?_
      iterate 11 refine rU ?_
      refine rS ?_;refine rQ iT ?_;refine zO<|sR ?_;refine rC<|zT<|bQ<|zB ?_
      exact⟨trivial,[(64,some 1)],lg zV ⟨zR,zR,trivial⟩⟩
     | false =>
      refine rO ?_;refine rC ?_;refine rO ?_;refine rC ?_;refine rO ?_;refine rC ?_
      cases c2 with
      | false=>cases hc
      | true =>
       refine rO ?_;refine rC ?_;refine rO ?_;refine rC ?_;refine rO ?_;refine rC ?_;refine rO ?_;refine rC ?_;refine rO ?_;refine rQ (bf aa rfl rfl ⟨rfl,o,hog,_,rfl,rfl⟩ rfl) ?_;refine rO ?_;refine rC ?_;refine rO ?_;refine rC ?_
       cases c3 with
       | true =>
        iterate 3 refine rS ?_
        refine rO ?_;refine rQ iT ?_;refine rO ?_;refine rQ iT ?_;refine rQ iF ?_;refine zO<|sR ?_;refine rC<|zT<|bQ<|zB ?_
        exact⟨trivial,[(64,some 1)],lg zV ⟨zR,zR,trivial⟩⟩
       | false =>
        refine rO ?_;refine rC ?_;refine rO ?_;refine rQ iB ?_;refine rO ?_;refine rC ?_;refine rO ?_;refine rQ iF ?_;refine rO ?_;refine rQ iT ?_;refine rQ iF<|nS ?_
        cases c4 with
        | false=>cases hc
        | true =>
         refine wT<|sR ?_;refine rC<|zT<|bQ<|zB ?_
         exact⟨trivial,[(64,some 1)],lg zV ⟨zR,zR,trivial⟩⟩
    ·have z0:(!decide (x.op=zOp))=true:=by rw[dF hz]; rfl
     refine wT<|sR ?_;refine rC<|zT<|bQ<|zB ?_
     exact⟨trivial,[(64,some 1)],lg zV ⟨zR,zR,trivial⟩⟩
  ·have c8:decide (x.client<8)=false:=dF hc8
   have n8:(!decide (x.client<8))=true:=by rw[c8]; rfl
   refine ae [125,0] rfl rfl (by assumption) rfl ?_;refine ae [125,3] rfl rfl (by assumption) rfl ?_;refine ae [125,127] rfl rfl (by assumption) rfl ?_;refine ae [125,126] rfl rfl (by assumption) rfl ?_;refine ae [125,129] rfl rfl (by assumption) rfl ?_;refine ae [125,130,128] rfl rfl (by assumption) rfl ?_;refine ae [125,131] rfl rfl (by assumption) rfl ?_;refine ae [125,132] rfl rfl (by assumption) rfl ?_;refine dQ [125,133] [] iT ?_;refine dC [134] [] ?_;refine ae [135,3] rfl rfl rfl rfl ?_;refine ae [135,136] rfl rfl rfl rfl ?_;refine ae [135,137] rfl rfl rfl rfl ?_;refine ae [135,138] rfl rfl rfl rfl ?_;refine dQ [135,139] [] iU ?_;refine am (by kernel_rfl)<|aL ?_;refine wV<|sR ?_;refine rC<|zT<|bQ<|zB ?_
   exact⟨trivial,[(64,some 1)],lg zV ⟨zR,zR,trivial⟩⟩
 ·have c0:decide (0≤x.client)=false:=dF hc0
  iterate 3 refine rS ?_
  refine rQ iF ?_;refine rC<|nR ?_;refine rC ?_;refine rQ iB ?_;refine rQ (bH aa rfl rfl rfl) ?_;refine rQ (dx rfl rfl rfl rfl (by kernel_rfl) (by decide) (cQ x.value zBk)) ?_;refine rC<|nQ<|zS ?_;refine rC ?_;refine rQ iB ?_;refine zD ?_;refine zG<|sR ?_;refine rC ?_;refine rQ iB ?_;refine zD ?_;refine zI ?_;iterate 2 refine aZ ?_
  refine aw (by kernel_rfl) ?_;refine dC [6] [] ?_;refine dC [123] [] ?_;refine dC [124] [] ?_;refine ae [125,0] rfl rfl rfl rfl ?_;refine ae [125,3] rfl rfl rfl rfl ?_;refine ae [125,127] rfl rfl rfl rfl ?_;refine ae [125,126] rfl rfl rfl rfl ?_;refine ae [125,129] rfl rfl rfl rfl ?_;refine ae [125,130,128] rfl rfl rfl rfl ?_;refine ae [125,131] rfl rfl rfl rfl ?_;refine ae [125,132] rfl rfl rfl rfl ?_;refine dQ [125,133] [] iU ?_;refine dC [134] [] ?_;refine ae [135,3] rfl rfl rfl rfl ?_;refine ae [135,136] rfl rfl rfl rfl ?_;refine ae [135,137] rfl rfl rfl rfl ?_;refine ae [135,138] rfl rfl rfl rfl ?_;refine dQ [135,139] [] iU ?_;refine am (by kernel_rfl)<|aL ?_;refine wV<|sR ?_;refine rC<|zT<|bQ<|zB ?_
  exact⟨trivial,[(64,some 1)],lg zV ⟨zR,zR,trivial⟩⟩
theorem wQ (s:RdS) (x:HEv) (n:Nat) (hs:s.Ok n) (hn:n≤1000000):iy s x (bS s x).1 (bS s x).2:=by
 by_cases k1:x.kind=1
 ·cases hi:inv1 s x with
  | false =>
   have h:=pM s x n hs hn k1 hi
   have e:bS s x=({ s with read:=s.read+1 },false):=by simp[bS,k1,hi]
   rw[e]; exact h
  | true =>
   have hi':=hi
   simp only[inv1,Bool.and_eq_true,decide_eq_true_eq]at hi'
   obtain⟨⟨⟨⟨⟨h1,h2⟩,h3⟩,h4⟩,h5⟩,h6⟩:=hi'
   obtain⟨m,hm⟩:∃m,s.number[x.client.toNat]?=some m:=⟨_,List.getElem?_eq_getElem (by rw[hs.nlen]; omega)⟩
   have h:=uN s x n hs hn k1 m h1 h2 h3 hm h4 h5 h6
   have e:bS s x=(⟨s.busy.set x.client.toNat ((s.all.length+1:Nat):Int),s.number.set x.client.toNat (m+1),s.era,s.read+1,s.all++[⟨x.client,m,s.era,x.op,s.read,-1,zBk,0⟩]⟩,true):=by
    simp[bS,k1,hi,hm]
   rw[e]; exact h
 ·by_cases k2:x.kind=2
  ·cases hi:ret1 s x with
   | false =>
    have h:=pL s x n hs hn k2 hi
    have e:bS s x=({ s with read:=s.read+1 },false):=by simp[bS,k2,hi]
    rw[e]; exact h
   | true =>
    have hi':=hi
    simp only[ret1,Bool.and_eq_true,decide_eq_true_eq]at hi'
    obtain⟨⟨⟨⟨⟨h1,h2⟩,h3⟩,h4⟩,h5⟩,h6⟩:=hi'
    obtain⟨b,hbg⟩:∃b,s.busy[x.client.toNat]?=some b:=⟨_,List.getElem?_eq_getElem (by rw[hs.blen]; omega)⟩
    have hb:=hs.busy b (List.mem_of_getElem? hbg)
    have hb0:b≠0:=by rw[hbg]at h3; simpa using h3
    obtain⟨o,hog⟩:∃o,s.all[(b-1).toNat]?=some o:=⟨_,List.getElem?_eq_getElem (by omega)⟩
    have ho:opOf s x=some o:=by rw[opOf,hbg]; exact hog
    rw[ho]at h6
    have h:=rl s x n hs hn k2 b o h1 h2 hbg hb0 hog h4 _ _ _ rfl rfl rfl (by
     rw[sU,h5]
     simp only at h6
     revert h6
     cases decide (x.value=zBk) <;> cases decide (o.op.kind=1) <;> cases decide (x.err=0) <;> decide)
    have e:bS s x=(⟨s.busy.set x.client.toNat 0,s.number,s.era,s.read+1,s.all.set (b-1).toNat { o with returned:=s.read,value:=x.value,err:=x.err }⟩,true):=by
     simp[bS,k2,hi,ho,hbg]
    rw[e]; exact h
  ·by_cases k3:x.kind=3
   ·have h:=rp s x n hs hn k3 _ _ _ _ rfl rfl rfl rfl
    have e:bS s x=(⟨eP,s.number,s.era+1,s.read+1,s.all⟩,py x):=by simp[bS,k3]
    rw[e]; exact h
   ·have h:=rn s x n hs hn k1 k2 k3 _ rfl
    have e:bS s x=({ s with read:=s.read+1 },false):=by simp[bS,k1,k2,k3]
    rw[e]; exact h
abbrev fnT (r:Nat):AV :=.fn (.func 90) (.acons (.ptr r []) .anil) .anil
abbrev fnF (r:Nat):AV :=.fn (.func 95) .anil (.acons (.ptr r []) .anil)
def goS:RdS→List HEv→Nat→RdS×Int
 | s,[],_=>(s,-1)
 | s,x::l,i=>if (bS s x).2 then goS (bS s x).1 l (i+1) else ((bS s x).1,(i:Int))
theorem ug (s:RdS) (x:HEv) (n:Nat) (hs:s.Ok n) (hn:n≤1000000):FnIs Try.prog 95 [.d (cv x),.ptr 0 []] [(0,.box 168 (fnT 1)),(1,gE s 2),(2,di s.all)] (.bool (!(bS s x).2)) [(0,.box 168 (fnT 1)),(1,gE (bS s x).1 64),(64,di (bS s x).1.all)]:=by
 refine aG aa Try.func95 rfl rfl rfl ?_;refine sR<|rN ?_;refine rC<|nR ?_;iterate 2 refine rQ iM ?_
 refine bF rfl (yX [(0,some 1),(1,some 2)] (wQ s x n hs hn) rfl rfl rfl rfl (aV rfl rfl (ak ai)) ⟨zH,zH,trivial⟩ rfl rfl (.inl rfl) rfl rfl) rfl rfl ?_;refine zD<|zT ?_
 exact⟨trivial,[(64,some _)],lg zV ⟨zR,zR,zR,trivial⟩⟩
theorem kB {s:RdS} {h:List HEv} {i:Nat} {x:HEv} (hx:h[i]?=some x):goS s (h.drop i) i=if (bS s x).2 then goS (bS s x).1 (h.drop (i+1)) (i+1) else ((bS s x).1,(i:Int)):=by
 have hlt:=(List.getElem?_eq_some_iff.1 hx).1
 rw[List.drop_eq_getElem_cons hlt,(List.getElem?_eq_some_iff.1 hx).2]
 rfl
theorem yz (h:List HEv) (hL:h.length≤1000000) (s0:RdS) (hs0:s0.Ok 0):FnIs Try.prog 94 [.d (encH h),fnF 0] [(0,.box 168 (fnT 1)),(1,gE s0 2),(2,di s0.all)] (.int .i64 (goS s0 h 0).2) [(0,.box 168 (fnT 1)),(1,gE (goS s0 h 0).1 64),(64,di (goS s0 h 0).1.all)]:=by
 refine aG aa Try.func94 rfl rfl rfl ?_;refine sR<|rC<|zW ?_;refine rC ?_;refine rQ iE ?_;refine rC<|zP ?_
 refine wc_inv (fun q:RdS×Nat=>⟨[(8,.int .i64 q.2),(7,.int .i64 h.length),(1,fnF 0),(0,.d (encH h))],[(0,some (.box 168 (fnT 1))),(1,some (gE q.1 65)),(65,some (di q.1.all))],72,Try.f94.ntmps,64⟩) (fun q=>q.2≤h.length∧q.1.Ok q.2∧goS q.1 (h.drop q.2) q.2=goS s0 h 0) (fun q=>h.length-q.2) (s0,0) [(65,some 2)] ⟨Nat.zero_le _,hs0,rfl⟩
  (lg zi ⟨zR,zR,zR,trivial⟩) ?_
 rintro⟨s,i⟩ ⟨hi,hs,hgo⟩
 refine cf<|sR ?_;refine rC<|nQ ?_
 refine gV rfl (fun h2=>?_) (fun h2=>?_)
 ·have hlt:i<h.length:=by have:=of_decide_eq_true h2; omega
  obtain⟨x,hx⟩:∃u,h[i]?=some u:=⟨_,List.getElem?_eq_getElem hlt⟩
  have hx':h[((i:Int)).toNat]?=some x:=by rw[Int.toNat_natCast]; exact hx
  have hfst:=ug s x i hs (by omega)
  have hst:=kB (s:=s) hx
  rw[hgo]at hst
  cases hb:(bS s x).2 with
  | false =>
   rw[hb]at hst hfst
   rw[hst]
   refine zQ<|zS<|zD<|nR ?_;refine zU ?_;refine rQ (aC aa rfl rfl rfl rfl rfl (by omega) hx') ?_;refine rQ iL ?_;refine bF rfl (aQ [(0,some 0),(1,some 1),(2,some 65)] hfst rfl rfl rfl (ak (aV rfl rfl ai)) ⟨zH,zH,zH,trivial⟩ rfl rfl (.inl rfl) rfl rfl) rfl rfl ?_;refine zO<|sR ?_;refine zD<|zT<|zB<|dR<|zB ?_
   exact⟨trivial,[(64,some _)],lg zV ⟨zR,zR,zR,trivial⟩⟩
  | true =>
   rw[hb]at hst hfst
   refine zQ<|zS<|zD<|nR ?_;refine zU ?_;refine rQ (aC aa rfl rfl rfl rfl rfl (by omega) hx') ?_;refine rQ iL ?_;refine bF rfl (aQ [(0,some 0),(1,some 1),(2,some 65)] hfst rfl rfl rfl (ak (aV rfl rfl ai)) ⟨zH,zH,zH,trivial⟩ rfl rfl (.inl rfl) rfl rfl) rfl rfl ?_;refine zJ<|bg<|zC<|ao ?_;refine rQ iD ?_;refine rC<|aE ?_
   exact aU ((bS s x).1,i+1) [(65,some _)] ⟨hlt,hs.next x,hst.symm⟩ (by show h.length-(i+1)<h.length-i; omega) (lg zi ⟨zR,zR,zR,trivial⟩)
 ·have he:i=h.length:=by have:=of_decide_eq_false h2; omega
  subst he
  rw[List.drop_length]at hgo
  rw[←hgo]
  refine zX<|sR<|rC<|zT ?_
  exact⟨trivial,[(64,some _)],lg zV ⟨zR,zR,zR,trivial⟩⟩
theorem qH (h:List HEv) (hL:h.length≤1000000) (s0:RdS) (hs0:s0.Ok 0):FnIs Try.prog 89 [.d (encH h),fnT 0] [(0,gE s0 1),(1,di s0.all)] (.int .i64 (goS s0 h 0).2) [(0,gE (goS s0 h 0).1 64),(64,di (goS s0 h 0).1.all)]:=by
 refine aG aa Try.func89 rfl rfl rfl ?_;refine sR<|rN ?_;refine rC<|nR ?_;refine zD ?_;refine bF rfl (aQ [(0,some 64),(1,some 0),(2,some 1)] (yz h hL s0 hs0) rfl rfl rfl (ak (cG rfl rfl ai)) ⟨zH,zH,zH,trivial⟩ rfl rfl (.inl rfl) rfl rfl) rfl rfl ?_;refine rC<|zT ?_
 exact⟨trivial,[(64,some _)],lg zV ⟨zR,zR,trivial⟩⟩
abbrev ch8:D :=.cons (.sc (.int .i64 0)) (.cons (.sc (.int .i64 0)) (.cons (.sc (.int .i64 0)) (.cons (.sc (.int .i64 0)) (.cons (.sc (.int .i64 0)) (.cons (.sc (.int .i64 0)) (.cons (.sc (.int .i64 0)) (.cons (.sc (.int .i64 0)) .nil)))))))
theorem ww:DLe ch8 (.vec 8 1 i6 eP):=by
 rintro w X cs ⟨a1,r1,rfl,⟨rfl,o1⟩,a2,r2,rfl,⟨rfl,_⟩,a3,r3,rfl,⟨rfl,_⟩,a4,r4,rfl,⟨rfl,_⟩,a5,r5,rfl,⟨rfl,_⟩,a6,r6,rfl,⟨rfl,_⟩,a7,r7,rfl,⟨rfl,_⟩,a8,r8,rfl,⟨rfl,_⟩,rfl⟩
 refine⟨rfl,fun _=>[.int .i64 0],fun i hi=>⟨?_,rfl⟩,rfl⟩
 have hz:∀b∈eP,b=0:=by decide
 rw[hz _ (List.getElem_mem hi)]
 exact⟨rfl,o1⟩
theorem yo:aO (.box 157 (.d (.cons ch8 (.cons ch8 (.cons (.sc (.int .i64 0)) (.cons (.sc (.int .i64 0)) (.cons (.sc (.slice none 0 0)) .nil)))))))
  (.box 157 (.acons (.d (.vec 8 1 i6 eP)) (.acons (.d (.vec 8 1 i6 eP)) (.acons (.d (i6 0)) (.acons (.d (i6 0)) (.acons (.d (.sc nil_)) .anil)))))):=by
 rintro σ w X r ⟨hf,b,cs,h1,h2,a1,r1,h3,h4,a2,r2,rfl,h5,a3,r3,rfl,h6,a4,r4,rfl,h7,a5,r5,rfl,h8,rfl⟩
 exact⟨rfl,b,cs,h1,h2,a1,_,h3,ww _ _ _ h4,a2,_,rfl,ww _ _ _ h5,a3,_,rfl,h6,a4,_,rfl,h7,a5,_,rfl,h8,rfl⟩
def rdH (h:List HEv):RdS:=if 8192<h.length then rd0 else (goS rd0 h 0).1
def chkH (h:List HEv):Int×Int:=if 8192<h.length then (0,3) else if 0≤(goS rd0 h 0).2 then ((goS rd0 h 0).2,18) else (0,0)
theorem xe (h:List HEv) (hh:h.length≤9223372036854775807):FnIs Try.prog 77 [.d (encH h)] [] (.tup (.acons (.ptr 64 []) (.acons (.int .i64 (chkH h).1) (.acons (.int .i64 (chkH h).2) .anil)))) [(64,gE (rdH h) 65),(65,di (rdH h).all)]:=by
 unfold rdH chkH
 obtain⟨Z,hZ⟩:∃Z,decide ((8192:Int)<(h.length:Int))=Z:=⟨_,rfl⟩
 refine aG aa Try.func77 rfl rfl rfl ?_;refine sR<|zU<|nR ?_;refine rQ iS ?_;refine rN ?_;refine rC<|nS ?_;refine fO (env':=[(2,.ptr 64 []),(0,.d (encH h))]) (h':=[(64,some (gE rd0 65)),(65,some (di []))]) 72 [(64,some 96),(65,none)] (lg zk ⟨⟨rfl,rfl,_,rfl,yo⟩,⟨rfl,rfl,rfl⟩,trivial⟩) ?_
 cases Z with
 | true =>
  have h8:8192<h.length:=by have:=of_decide_eq_true hZ; omega
  rw[if_pos h8,if_pos h8]
  refine qR<|rC ?_;refine rQ iE ?_;refine rC ?_;refine zI<|sR ?_;iterate 4 refine rC ?_
  refine zT<|bQ ?_
  exact⟨trivial,[(64,some _),(65,some _)],lg zV ⟨zR,zR,trivial⟩⟩
 | false =>
  have h8:¬8192<h.length:=by have:=of_decide_eq_false hZ; omega
  have hL:h.length≤1000000:=by omega
  rw[if_neg h8,if_neg h8]
  by_cases h0:0≤(goS rd0 h 0).2
  ·have d0:decide (0≤(goS rd0 h 0).2)=true:=dT h0
   rw[if_pos h0]
   refine qR<|rC ?_;refine rQ iE ?_;refine rC ?_;refine zG<|kS<|qR ?_;refine zU ?_;refine bF rfl (aQ [(0,some 64),(1,some 65)] (qH h hL rd0 o9) rfl rfl rfl (ak (tg rfl rfl ai)) ⟨zH,zH,trivial⟩ rfl rfl (.inl rfl) rfl rfl) rfl rfl ?_;refine rC<|nR ?_;refine zD ?_;refine zI<|sR ?_;iterate 5 refine rC ?_
   refine zT<|bQ ?_
   exact⟨trivial,[(64,some _),(65,some _)],lg zV ⟨zR,zR,trivial⟩⟩
  ·have d0:decide (0≤(goS rd0 h 0).2)=false:=dF h0
   rw[if_neg h0]
   refine qR<|rC ?_;refine rQ iE ?_;refine rC ?_;refine zG<|kS<|qR ?_;refine zU ?_;refine bF rfl (aQ [(0,some 64),(1,some 65)] (qH h hL rd0 o9) rfl rfl rfl (ak (tg rfl rfl ai)) ⟨zH,zH,trivial⟩ rfl rfl (.inl rfl) rfl rfl) rfl rfl ?_;refine rC<|nR ?_;refine zD ?_;refine zG<|kS<|sR ?_;iterate 4 refine rC ?_
   refine zT ?_
   exact⟨trivial,[(64,some _),(65,some _)],lg zV ⟨zR,zR,trivial⟩⟩
def opsH (h:List HEv):List HOp:=if (chkH h).2=0 then (rdH h).all else[]
theorem sX (h:List HEv) (hh:h.length≤9223372036854775807) (hal:(rdH h).all.length≤1048576):FnIs Try.prog 59 [.d (encH h)] [] (.tup (.acons (.d (eU (opsH h))) (.acons (.int .i64 (chkH h).2) .anil))) []:=by
 unfold opsH
 refine aG aa Try.func59 rfl rfl rfl ?_;refine sR<|zD<|nR ?_;refine rC ?_;refine aS (aQ [] (xe h hh) rfl rfl rfl (ak ai) trivial rfl rfl (.inl rfl) rfl rfl) rfl ?_;iterate 7 refine rC ?_
 refine zW<|zD<|nS ?_
 by_cases h0:(chkH h).2=0
 ·have d0:(!decide ((chkH h).2=0))=false:=by rw[dT h0]; rfl
  rw[if_pos h0,h0]
  refine wG<|kS<|sR ?_;refine zU ?_;refine rQ iM ?_;refine mA (env':=[(19,_)]) (h':=[]) 89 _ rfl ⟨⟨_,rfl,Frz.own rfl⟩,trivial⟩ trivial ?_;refine rQ (aA (yO (rdH h).all hal) rfl rfl (ak ai) (.inl rfl) (fun _=>rfl)) ?_;refine zD<|zT ?_
  exact⟨trivial,[],lf⟩
 ·have d0:(!decide ((chkH h).2=0))=true:=by rw[dF h0]; rfl
  rw[if_neg h0]
  refine wT<|sR ?_;refine zU<|zT<|bQ ?_
  exact⟨trivial,[],lg ⟨⟨_,rfl,AVLe.tup1 (ia _ _) rfl⟩,rfl,trivial⟩ trivial⟩
def x5:List HEv→List (List HEv)→List HEv→List (List HEv)
 | [],out,era=>out++[era]
 | x::l,out,era=>if x.kind=3 then x5 l (out++[era]) [] else x5 l out (era++[x])
def projB (c:Int) (x:HEv):Bool:=decide (x.kind=3)||decide (x.client=c)
def projE (c:Int) (h:List HEv):Int:=if (chkH h).2=0 then (if c<0∨8≤c then 1 else 0) else (chkH h).2
def jP (c:Int) (i:Nat) (a:Int) (x:HEv):Int:=if x.kind=3 then-1 else if x.kind=1 then (if x.client=c then (i:Int) else a) else if x.kind=2 then (if x.client=c then-1 else a) else a
def n2 (c:Int):List HEv→Nat→Int→Int
 | [],_,a=>a
 | x::l,i,a=>n2 c l (i+1) (jP c i a x)
def pend (h:List HEv) (c:Int):Int:=n2 c h 0 (-1)
theorem mF (c:Int) (x:HEv):∀(l:List HEv) (i:Nat) (a:Int),n2 c (l++[x]) i a=jP c (i+l.length) (n2 c l i a) x
 | [],i,a=>rfl
 | y::l,i,a=>by
  rw[List.cons_append,n2,n2,mF c x l]
  rw[List.length_cons,show i+1+l.length=i+(l.length+1) by omega]
theorem e6 (l:List HEv) (c:Int) (x:HEv):pend (l++[x]) c=jP c l.length (pend l c) x:=by
 rw[pend,mF,Nat.zero_add]; rfl
def fit1 (h:List HEv) (x:HEv):Bool:=decide (0≤x.client)&&decide (x.client≤7)&&decide (pend h x.client<0)&&decide (x.op.data.length≤64)&&decide (x.value=zBk)&&decide (x.err=0)
def fit2 (h:List HEv) (x:HEv):Bool:=decide (0≤x.client)&&decide (x.client≤7) && !decide (pend h x.client<0)&&decide (x.op=zOp)&&kn4 x.err&&((match h[(pend h x.client).toNat]? with | some y=>decide (y.op.kind=1)&&decide (x.err=0) | none=>false)||decide (x.value=zBk))
def fitB (h:List HEv) (x:HEv):Bool:=if x.kind=1 then fit1 h x else if x.kind=2 then fit2 h x else if x.kind=3 then py x else false
abbrev FitIs (h:List HEv) (x:HEv) (b:Bool):Prop:=FnIs Try.prog 61 [.d (encH h),.d (cv x)] [] (.d (i6 (if b then 1 else 0))) []
def nN (h:List HEv):Nat→Nat→Int×Int
 | 0,_=>(0,0)
 | n+1,i=>match h[i]? with
  | none=>(0,0)
  | some x=>if fitB (h.take i) x then nN h n (i+1) else ((i:Int),18)
def rchk (h:List HEv):Int×Int:=if 8192<h.length then (0,3) else nN h h.length 0
def fewB (h:List HEv):Bool:=decide (h.length≤60)&&h.all fun x=>decide (x.op.data.length≤70)
def cntC (l:List HOp) (c:Int):Int:=(l.countP fun o=>decide (o.client=c):Nat)
def iR (c:Int):List HEv→Nat→Option (Nat×HEv)
 | [],_=>none
 | x::l,k=>if x.kind=3 then none else if x.client=c then some (k,x) else iR c l (k+1)
def cZ (x:HEv) (i:Nat) (era n:Int):HOp:=⟨x.client,n,era,x.op,i,-1,zBk,0⟩
def eS (o:HOp):Option (Nat×HEv)→HOp
 | none=>o
 | some (k,y) => { o with returned:=k,value:=y.value,err:=y.err }
def mkOp (h:List HEv) (i:Nat) (x:HEv) (out:List HOp) (era:Int):HOp:=eS (cZ x i era (cntC out x.client)) (iR x.client (h.drop (i+1)) (i+1))
def eW (h:List HEv):Nat→Nat→List HOp→Int→List HOp
 | 0,_,out,_=>out
 | n+1,i,out,era=>match h[i]? with
  | none=>out
  | some x=>if x.kind=3 then eW h n (i+1) out (era+1) else if x.kind=1 then eW h n (i+1) (out++[mkOp h i x out era]) era else eW h n (i+1) out era
def opsR (h:List HEv):List HOp:=eW h h.length 0 [] 0
theorem uw {l:List HOp} {k:Nat} {o:HOp} (c:Int) (ho:l[k]?=some o):cntC (l.take (k+1)) c=cntC (l.take k) c+(if o.client=c then 1 else 0):=by
 rw[cntC,cntC,List.take_add_one,ho,Option.toList_some,List.countP_append]
 by_cases h:o.client=c <;> simp[h]
theorem xG (l:List HOp) (c:Int):0≤cntC l c∧cntC l c≤l.length:=by
 have:=List.countP_le_length (p:=fun o:HOp=>decide (o.client=c)) (l:=l)
 unfold cntC
 omega
theorem fG {h:List HEv} {k:Nat} {y:HEv} (c:Int) (hy:h[k]?=some y):iR c (h.drop k) k=if y.kind=3 then none else if y.client=c then some (k,y) else iR c (h.drop (k+1)) (k+1):=by
 have hlt:=(List.getElem?_eq_some_iff.1 hy).1
 rw[List.drop_eq_getElem_cons hlt,(List.getElem?_eq_some_iff.1 hy).2]
 rfl
theorem ve (h:List HEv) (hL:h.length≤1000000):FnIs Try.prog 26 [.d (encH h)] [] (.own 64 0 (opsR h).length 41 none) [(64,di (opsR h))]:=by
 refine aG aa Try.func26 rfl rfl rfl ?_;refine sR<|rC<|nR ?_;refine rC<|nR ?_;refine rC<|zW ?_;refine rC<|zP ?_
 refine wc_inv (fun q:Nat×List HOp×Int=>⟨[(5,.int .i64 q.1),(4,.int .i64 q.2.2),(3,.own 65 0 q.2.1.length 41 none),(0,.d (encH h))],[(65,some (di q.2.1))],72,Try.f26.ntmps,64⟩) (fun q=>q.1≤h.length∧q.2.1.length≤q.1∧0≤q.2.2∧q.2.2≤q.1∧eW h (h.length-q.1) q.1 q.2.1 q.2.2=opsR h) (fun q=>h.length-q.1) (0,[],0) [(65,none)] ⟨Nat.zero_le _,Nat.le_refl _,Int.le_refl _,Int.le_refl _,rfl⟩
  (lg zi ⟨⟨rfl,rfl,rfl⟩,trivial⟩) ?_
 rintro⟨i,out,era⟩ ⟨hi,ho,he0,he1,hgo⟩
 simp only at hi ho he0 he1 hgo
 refine cf<|qR ?_;refine zD ?_;refine rQ iE ?_;refine rC<|nS ?_
 refine gV rfl (fun h2=>?_) (fun h2=>?_)
 ·have hlt:i<h.length:=by have:=of_decide_eq_true h2; omega
  obtain⟨x,hx⟩:∃u,h[i]?=some u:=⟨_,List.getElem?_eq_getElem hlt⟩
  have hx':h[((i:Int)).toNat]?=some x:=by rw[Int.toNat_natCast]; exact hx
  have hw22:IntKind.i64.wrap (era+1)=era+1:=bp (by omega) (by omega)
  obtain⟨n,hn⟩:∃n,h.length-i=n+1:=⟨h.length-i-1,by omega⟩
  have hn':h.length-(i+1)=n:=by omega
  rw[hn,eW,hx]at hgo
  simp only at hgo
  refine zQ<|cm<|qR<|zD ?_;refine rQ (aC aa rfl rfl rfl rfl rfl (by omega) hx') ?_;refine rC ?_;refine rQ iL ?_;refine rC<|nS ?_
  by_cases k3:x.kind=3
  ·have d3:decide (x.kind=3)=true:=dT k3
   have d1:(!decide (x.kind=1))=true:=by rw[dF (by omega)]; rfl
   rw[if_pos k3]at hgo
   refine wT<|ao ?_;refine rC ?_;refine rQ (ce (m:=era+1) aa rfl rfl hw22) ?_;refine rC<|zW ?_;refine zD ?_;refine rQ (aC aa rfl rfl rfl rfl rfl (by omega) hx') ?_;refine rC ?_;refine rQ iL ?_;refine rC ?_;refine zI<|b8<|dO<|dW<|aL<|ao ?_;refine rC ?_;refine rQ iD ?_;refine rC<|aE ?_
   exact aU (i+1,out,era+1) [(65,some 65)] ⟨hlt,by simp only; omega,by simp only; omega,by simp only; omega,by simp only[hn']; exact hgo⟩ (by show h.length-(i+1)<h.length-i; omega) (lg zi ⟨zR,trivial⟩)
  ·have d3:decide (x.kind=3)=false:=dF k3
   rw[if_neg k3]at hgo
   refine wF<|kS<|qR ?_;refine zD ?_;refine rQ (aC aa rfl rfl rfl rfl rfl (by omega) hx') ?_;refine rC ?_;refine rQ iL ?_;refine rC<|nS ?_
   by_cases k1:x.kind=1
   ·have d1:(!decide (x.kind=1))=false:=by rw[dT k1]; rfl
    rw[if_pos k1]at hgo
    refine wF<|zQ ?_;refine aw (by kernel_rfl) ?_;refine dC [0] [] ?_;refine dC [5] [] ?_;refine dQ [29,30] [] (aC aa rfl rfl rfl rfl rfl (by omega) hx') ?_;refine dC [31] [] ?_;refine dQ [32] [] iL ?_;refine dC [4] [] ?_;refine dC [0] [] ?_;refine dC [5] [] ?_;refine dQ [35,36] [] (aC aa rfl rfl rfl rfl rfl (by omega) hx') ?_;refine dC [37] [] ?_;refine dQ [38] [] iL ?_;refine dC [5] [] ?_;refine dQ [33,34,39,40] [] iS ?_;refine da [] [] rfl (ay aa (fun K hk=>hk)) ?_;refine br [6,41] [304] (aK aa rfl rfl rfl ⟨_,⟨rfl,rfl,rfl⟩,rfl⟩ rfl) ?_;refine am (by kernel_rfl)<|aL<|qR ?_;refine rC<|zP ?_
    refine wc_inv (fun k:Nat=>⟨[(7,.int .i64 k),(6,.ptr 66 []),(5,.int .i64 i),(4,.int .i64 era),(3,.own 65 0 out.length 41 none),(0,.d (encH h))],[(65,some (di out)),(66,some (.box 30 (.d (bh (cZ x i era (cntC (out.take k) x.client))))))],72,Try.f26.ntmps,64⟩) (fun k=>k≤out.length) (fun k=>out.length-k) 0 [(65,some 65),(66,some _)] (Nat.zero_le _)
     (lg zg ⟨zR,zR,trivial⟩) ?_
    intro k hk
    refine cf<|qR ?_;refine zD ?_;refine rQ (bz aa rfl rfl) ?_;refine rC<|nS ?_
    refine gV rfl (fun h4=>?_) (fun h4=>?_)
    ·have hkl:k<out.length:=by have:=of_decide_eq_true h4; omega
     obtain⟨q,hq⟩:∃q,out[k]?=some q:=⟨_,List.getElem?_eq_getElem hkl⟩
     have hq':out[((k:Int)).toNat]?=some q:=by rw[Int.toNat_natCast]; exact hq
     have hcn:=uw x.client hq
     have hcl:=xG (out.take k) x.client
     rw[List.length_take]at hcl
     have hw58:IntKind.i64.wrap (cntC (out.take k) x.client+1)=cntC (out.take k) x.client+1:=bp (by omega) (by omega)
     refine zQ<|cm<|aZ<|aw (by kernel_rfl) ?_;refine dC [3] [] ?_;refine dC [7] [] ?_;refine dQ [48,49] [] (aP aa rfl rfl rfl rfl rfl (by omega) (by omega)) ?_;refine dC [50] [] ?_;refine dQ [51] [65] (bf aa rfl rfl ⟨rfl,q,hq',_,rfl,rfl⟩ rfl) ?_;refine dC [6] [] ?_;refine dQ [53] [66] iB ?_;refine dC [52,54] [] ?_;refine am (by kernel_rfl)<|aL ?_
     by_cases kc:q.client=x.client
     ·have dc:decide (q.client=x.client)=true:=dT kc
      rw[if_pos kc]at hcn
      refine wT<|ao ?_;refine rC ?_;refine rQ iB ?_;refine rQ (ce aa rfl rfl hw58) ?_;refine rC ?_;refine rX<|aE<|gR<|aL<|ao ?_;refine rC ?_;refine rQ iD ?_;refine rC<|aE ?_
      exact aU (k+1) [(65,some 65),(66,some 66)] hkl (by omega) (lg zg ⟨zR,⟨rfl,rfl,_,rfl,aO.of_eq (congrArg (fun n=>Row.box 30 (.d (bh (cZ x i era n)))) hcn.symm)⟩,trivial⟩)
     ·have dc:decide (q.client=x.client)=false:=dF kc
      rw[if_neg kc,Int.add_zero]at hcn
      refine wF<|bg<|zC<|ao ?_;refine rC ?_;refine rQ iD ?_;refine rC<|aE ?_
      exact aU (k+1) [(65,some 65),(66,some 66)] hkl (by omega) (lg zg ⟨zR,⟨rfl,rfl,_,rfl,aO.of_eq (congrArg (fun n=>Row.box 30 (.d (bh (cZ x i era n)))) hcn.symm)⟩,trivial⟩)
    ·have hke:k=out.length:=by have:=of_decide_eq_false h4; omega
     subst hke
     rw[List.take_length]
     refine zX<|qR<|rC ?_;refine rQ iD ?_;refine rC<|zP ?_
     have hal:out.length+1≤1048576:=by omega
     refine wc_inv (fun k:Nat=>⟨[(8,.int .i64 k),(6,.ptr 66 []),(5,.int .i64 i),(4,.int .i64 era),(3,.own 65 0 out.length 41 none),(0,.d (encH h))],[(65,some (di out)),(66,some (.box 30 (.d (bh (cZ x i era (cntC out x.client))))))],72,Try.f26.ntmps,64⟩) (fun k=>k≤h.length∧iR x.client (h.drop k) k=iR x.client (h.drop (i+1)) (i+1)) (fun k=>h.length-k) (i+1) [(65,some 65),(66,some 66)] ⟨hlt,rfl⟩
      (lg zg ⟨zR,zR,trivial⟩) ?_
     rintro k ⟨hk2,hret⟩
     refine cf<|qR ?_;refine zD ?_;refine rQ iE ?_;refine zD ?_
     by_cases hkl:k<h.length
     ·have d66:decide ((k:Int)<(h.length:Int))=true:=dT (by omega)
      obtain⟨y,hy⟩:∃y,h[k]?=some y:=⟨_,List.getElem?_eq_getElem hkl⟩
      have hy':h[((k:Int)).toNat]?=some y:=by rw[Int.toNat_natCast]; exact hy
      have hst:=fG x.client hy
      rw[hret]at hst
      refine rO ?_;refine rC ?_;refine rO ?_;refine rC ?_;refine rO ?_;refine rQ (aC aa rfl rfl rfl rfl rfl (by omega) hy') ?_;refine rO ?_;refine rC ?_;refine rO ?_;refine rQ iL ?_;refine rO ?_;refine rC ?_;refine rQ iT<|nS ?_
      by_cases y3:y.kind=3
      ·have dy:(!decide (y.kind=3))=false:=by rw[dT y3]; rfl
       rw[if_pos y3]at hst
       have hmk:mkOp h i x out era=eS (cZ x i era (cntC out x.client)) none:=by rw[mkOp,hst]
       rw[hmk]at hgo
       have hl1:out.length+1=(out++[eS (cZ x i era (cntC out x.client)) none]).length:=by simp
       refine wF<|zX<|ao ?_;refine rC ?_;refine rQ iM ?_;refine bt (aH (s:=41) aa rfl rfl rfl rfl rfl rfl rfl rfl) rfl ?_;refine aS (bG (enc:=bh) (s:=41) (xs:=out) aa (eS (cZ x i era (cntC out x.client)) none) rfl rfl rfl rfl rfl rfl rfl rfl rfl hal rfl) rfl ?_;refine rC<|aE<|zC<|ao ?_;refine rC ?_;refine rQ iD ?_;refine rC<|aE ?_
       exact aU (i+1,out++[eS (cZ x i era (cntC out x.client)) none],era) [(65,some _)] ⟨hlt,by simp; omega,by simp only; omega,by simp only; omega,by simp only[hn']; exact hgo⟩ (by show h.length-(i+1)<h.length-i; omega) (lg ⟨zE,rfl,zE,rfl,⟨_,rfl,AVLe.of_eq (congrArg (fun n=>AV.own _ 0 n 41 none) hl1)⟩,rfl,zE,rfl,trivial⟩ ⟨zR,trivial⟩)
      ·have dy:(!decide (y.kind=3))=true:=by rw[dF y3]; rfl
       rw[if_neg y3]at hst
       refine wT<|zQ<|cm<|aZ ?_;refine aw (by kernel_rfl) ?_;refine dC [0] [] ?_;refine dC [8] [] ?_;refine dQ [76,77] [] (aC aa rfl rfl rfl rfl rfl (by omega) hy') ?_;refine dC [78] [] ?_;refine dQ [79] [] iL ?_;refine dC [6] [] ?_;refine dQ [81] [66] iB ?_;refine dC [80,82] [] ?_;refine am (by kernel_rfl)<|aL ?_
       by_cases yc:y.client=x.client
       ·have dc:decide (y.client=x.client)=true:=dT yc
        rw[if_pos yc]at hst
        have hmk:mkOp h i x out era=eS (cZ x i era (cntC out x.client)) (some (k,y)):=by rw[mkOp,hst]
        rw[hmk]at hgo
        have hl1:out.length+1=(out++[eS (cZ x i era (cntC out x.client)) (some (k,y))]).length:=by simp
        refine wT<|sR ?_;refine zD ?_;refine rX<|nR ?_;refine zD ?_;refine rQ (aC aa rfl rfl rfl rfl rfl (by omega) hy') ?_;refine rC ?_;refine rQ iL ?_;refine rC ?_;refine rX<|nR ?_;refine zD ?_;refine rQ (aC aa rfl rfl rfl rfl rfl (by omega) hy') ?_;refine rC ?_;refine rQ iL ?_;refine rC ?_;refine rX<|nS<|b8 ?_;refine ya rfl<|dO<|eT<|dW<|aL<|ao ?_;refine rC ?_;refine rQ iM ?_;refine bt (aH (s:=41) aa rfl rfl rfl rfl rfl rfl rfl rfl) rfl ?_;refine aS (bG (enc:=bh) (s:=41) (xs:=out) aa (eS (cZ x i era (cntC out x.client)) (some (k,y))) rfl rfl rfl rfl rfl rfl rfl rfl rfl hal rfl) rfl ?_;refine rC<|aE<|zC<|ao ?_;refine rC ?_;refine rQ iD ?_;refine rC<|aE ?_
        exact aU (i+1,out++[eS (cZ x i era (cntC out x.client)) (some (k,y))],era) [(65,some _)] ⟨hlt,by simp; omega,by simp only; omega,by simp only; omega,by simp only[hn']; exact hgo⟩ (by show h.length-(i+1)<h.length-i; omega) (lg ⟨zE,rfl,zE,rfl,⟨_,rfl,AVLe.of_eq (congrArg (fun n=>AV.own _ 0 n 41 none) hl1)⟩,rfl,zE,rfl,trivial⟩ ⟨zR,trivial⟩)
       ·have dc:decide (y.client=x.client)=false:=dF yc
        rw[if_neg yc]at hst
        refine wF<|bg<|zC<|ao ?_;refine rC ?_;refine rQ iD ?_;refine rC<|aE ?_
        exact aU (k+1) [(65,some 65),(66,some 66)] ⟨hkl,hst.symm⟩ (by omega) (lg zg ⟨zR,zR,trivial⟩)
     ·have d66:decide ((k:Int)<(h.length:Int))=false:=dF (by omega)
      have hst:iR x.client (h.drop (i+1)) (i+1)=none:=by rw[←hret,List.drop_eq_nil_of_le (by omega)]; rfl
      have hmk:mkOp h i x out era=eS (cZ x i era (cntC out x.client)) none:=by rw[mkOp,hst]
      rw[hmk]at hgo
      have hl1:out.length+1=(out++[eS (cZ x i era (cntC out x.client)) none]).length:=by simp
      iterate 6 refine rS ?_
      refine rQ iF ?_;refine zJ<|zX<|ao ?_;refine rC ?_;refine rQ iM ?_;refine bt (aH (s:=41) aa rfl rfl rfl rfl rfl rfl rfl rfl) rfl ?_;refine aS (bG (enc:=bh) (s:=41) (xs:=out) aa (eS (cZ x i era (cntC out x.client)) none) rfl rfl rfl rfl rfl rfl rfl rfl rfl hal rfl) rfl ?_;refine rC<|aE<|zC<|ao ?_;refine rC ?_;refine rQ iD ?_;refine rC<|aE ?_
      exact aU (i+1,out++[eS (cZ x i era (cntC out x.client)) none],era) [(65,some _)] ⟨hlt,by simp; omega,by simp only; omega,by simp only; omega,by simp only[hn']; exact hgo⟩ (by show h.length-(i+1)<h.length-i; omega) (lg ⟨zE,rfl,zE,rfl,⟨_,rfl,AVLe.of_eq (congrArg (fun n=>AV.own _ 0 n 41 none) hl1)⟩,rfl,zE,rfl,trivial⟩ ⟨zR,trivial⟩)
   ·have d1:(!decide (x.kind=1))=true:=by rw[dF k1]; rfl
    rw[if_neg k1]at hgo
    refine wT<|b8<|dO<|dW<|aL<|ao ?_;refine rC ?_;refine rQ iD ?_;refine rC<|aE ?_
    exact aU (i+1,out,era) [(65,some 65)] ⟨hlt,by simp only; omega,by simp only; omega,by simp only; omega,by simp only[hn']; exact hgo⟩ (by show h.length-(i+1)<h.length-i; omega) (lg zi ⟨zR,trivial⟩)
 ·have hi2:i=h.length:=by have:=of_decide_eq_false h2; omega
  subst hi2
  rw[Nat.sub_self]at hgo
  rw[←hgo]
  refine zX<|sR<|zD<|zT ?_
  exact⟨trivial,[(64,some _)],lg zV ⟨zR,trivial⟩⟩
theorem wZ (h:List HEv) (hL:h.length≤1000000):FnIs Try.prog 26 [.d (encH h)] [] (.d (gu (opsR h))) []:=(ve h hL).freeze_out 64 _ rfl (Frz.own rfl) trivial
end Go.Proofs.Ytkehohfgbblokaa
namespace Go.Proofs.Ytkehohfgbblokaa
open Go.Eng Go.Plain
set_option maxHeartbeats 32000000
set_option maxRecDepth 20000
structure lS (p:List HEv) (s:RdS):Prop where
 ok:s.Ok p.length
 idle:∀c:Nat,c<8→pend p c<0→s.busy[c]?=some 0
 busy:∀c:Nat,c<8→0≤pend p c→∃b o y,s.busy[c]?=some b∧0<b∧s.all[(b-1).toNat]?=some o∧p[(pend p c).toNat]?=some y∧o.op=y.op
 free:∀c d:Nat,c<8→d<8→c≠d→∀b,s.busy[c]?=some b→s.busy[d]?=some b→b=0
theorem yi:lS [] rd0:=⟨o9,fun c hc _=>by
 match c,hc with
 | 0,_=>rfl
 | 1,_=>rfl
 | 2,_=>rfl
 | 3,_=>rfl
 | 4,_=>rfl
 | 5,_=>rfl
 | 6,_=>rfl
 | 7,_=>rfl,fun c _ h=>absurd h (by rw[show pend [] ((c:Nat):Int) = -1 from rfl]; decide),fun c d hc hd _ b hb _=>by
 have:=List.mem_of_getElem? hb
 have hz:∀b∈rd0.busy,b=0:=by decide
 exact hz b this⟩
theorem lS.fits {p:List HEv} {s:RdS} (T:lS p s) (x:HEv):(bS s x).2=fitB p x:=by
 unfold bS fitB
 simp only
 by_cases k1:x.kind=1
 ·rw[if_pos k1,if_pos k1]
  have e:inv1 s x=fit1 p x:=by
   unfold inv1 fit1
   by_cases c0:0≤x.client
   ·by_cases c8:x.client<8
    ·have c7:x.client≤7:=by omega
     have hc:((x.client.toNat:Nat):Int)=x.client:=Int.toNat_of_nonneg c0
     have hb:decide (s.busy[x.client.toNat]?=some 0)=decide (pend p x.client<0):=by
      by_cases hp:pend p x.client<0
      ·rw[T.idle x.client.toNat (by omega) (by rw[hc]; exact hp),dT hp]; rfl
      ·obtain⟨b,o,y,h1,h2,_⟩:=T.busy x.client.toNat (by omega) (by rw[hc]; omega)
       rw[h1,dF hp]
       exact dF fun e=>by cases e; omega
     rw[hb,dT c8,dT c7]
    ·rw[dF c8,dF (by omega:¬x.client≤7)]; simp
   ·rw[dF c0]; simp
  rw[←e]
  cases inv1 s x <;> rfl
 ·rw[if_neg k1,if_neg k1]
  by_cases k2:x.kind=2
  ·rw[if_pos k2,if_pos k2]
   have e:ret1 s x=fit2 p x:=by
    unfold ret1 fit2
    by_cases c0:0≤x.client
    ·by_cases c8:x.client<8
     ·have c7:x.client≤7:=by omega
      have hc:((x.client.toNat:Nat):Int)=x.client:=Int.toNat_of_nonneg c0
      by_cases hp:pend p x.client<0
      ·rw[T.idle x.client.toNat (by omega) (by rw[hc]; exact hp),dT hp]
       simp
      ·obtain⟨b,o,y,h1,h2,h3,h4,h5⟩:=T.busy x.client.toNat (by omega) (by rw[hc]; omega)
       rw[hc]at h4
       rw[opOf,h1]
       simp only
       rw[h3,h4,dF hp,dT c8,dT c7,dT c0,dF (fun e=>by cases e; omega:¬some b=some 0)]
       simp only[h5]
       cases decide (x.op=zOp) <;> cases kn4 x.err <;> cases decide (x.value=zBk) <;> cases decide (y.op.kind=1) <;> cases decide (x.err=0) <;> rfl
     ·rw[dF c8,dF (by omega:¬x.client≤7)]; simp
    ·rw[dF c0]; simp
   rw[←e]
   cases ret1 s x <;> rfl
  ·rw[if_neg k2,if_neg k2]
   by_cases k3:x.kind=3
   ·rw[if_pos k3,if_pos k3]
   ·rw[if_neg k3,if_neg k3]
theorem nE {s:RdS} {x:HEv} (h:(bS s x).2=true):x.kind=1∧inv1 s x=true∨x.kind=2∧ret1 s x=true∨x.kind=3∧py x=true:=by
 unfold bS at h
 simp only at h
 by_cases k1:x.kind=1
 ·rw[if_pos k1]at h
  cases hi:inv1 s x with
  | true=>exact .inl ⟨k1,rfl⟩
  | false=>rw[hi]at h; cases h
 ·rw[if_neg k1]at h
  by_cases k2:x.kind=2
  ·rw[if_pos k2]at h
   cases hi:ret1 s x with
   | true=>exact .inr (.inl ⟨k2,rfl⟩)
   | false=>rw[hi]at h; cases h
  ·rw[if_neg k2]at h
   by_cases k3:x.kind=3
   ·rw[if_pos k3]at h; exact .inr (.inr ⟨k3,h⟩)
   ·rw[if_neg k3]at h; cases h
theorem qA {s:RdS} {x:HEv} (h:inv1 s x=true):0≤x.client∧x.client<8∧s.busy[x.client.toNat]?=some 0∧x.op.data.length≤64∧x.value=zBk∧x.err=0:=by
 simp only[inv1,Bool.and_eq_true,decide_eq_true_eq]at h
 obtain⟨⟨⟨⟨⟨h1,h2⟩,h3⟩,h4⟩,h5⟩,h6⟩:=h
 exact⟨h1,h2,h3,h4,h5,h6⟩
theorem pY {s:RdS} {x:HEv} {n:Nat} (hs:s.Ok n) (h:ret1 s x=true):0≤x.client∧x.client<8∧x.op=zOp∧kn4 x.err=true∧∃b o,s.busy[x.client.toNat]?=some b∧0<b∧s.all[(b-1).toNat]?=some o∧opOf s x=some o∧(x.value=zBk∨o.op.kind=1∧x.err=0):=by
 simp only[ret1,Bool.and_eq_true,decide_eq_true_eq]at h
 obtain⟨⟨⟨⟨⟨h1,h2⟩,h3⟩,h4⟩,h5⟩,h6⟩:=h
 obtain⟨b,hbg⟩:∃b,s.busy[x.client.toNat]?=some b:=⟨_,List.getElem?_eq_getElem (by rw[hs.blen]; omega)⟩
 have hb:=hs.busy b (List.mem_of_getElem? hbg)
 have hb0:b≠0:=by rw[hbg]at h3; simpa using h3
 obtain⟨o,hog⟩:∃o,s.all[(b-1).toNat]?=some o:=⟨_,List.getElem?_eq_getElem (by omega)⟩
 have ho:opOf s x=some o:=by rw[opOf,hbg]; exact hog
 rw[ho]at h6
 refine⟨h1,h2,h4,h5,b,o,hbg,by omega,hog,ho,?_⟩
 simpa[Bool.or_eq_true,Bool.and_eq_true]using h6
theorem lB {s:RdS} {x:HEv} (k1:x.kind=1) (h:inv1 s x=true):(bS s x).1=⟨s.busy.set x.client.toNat (s.all.length+1),s.number.set x.client.toNat ((s.number[x.client.toNat]?.getD 0)+1),s.era,s.read+1,s.all++[⟨x.client,s.number[x.client.toNat]?.getD 0,s.era,x.op,s.read,-1,zBk,0⟩]⟩:=by simp[bS,k1,h]
theorem lA {s:RdS} {x:HEv} {b:Int} {o:HOp} (k2:x.kind=2) (h:ret1 s x=true) (hb:s.busy[x.client.toNat]?=some b) (ho:opOf s x=some o):(bS s x).1=⟨s.busy.set x.client.toNat 0,s.number,s.era,s.read+1,s.all.set (b-1).toNat { o with returned:=s.read,value:=x.value,err:=x.err }⟩:=by simp[bS,k2,h,ho,hb]
theorem jN {s:RdS} {x:HEv} (k3:x.kind=3):(bS s x).1=⟨eP,s.number,s.era+1,s.read+1,s.all⟩:=by simp[bS,k3]
theorem kC {α:Type} {p:List α} {x y:α} {k:Nat} (h:p[k]?=some y):(p++[x])[k]?=some y:=by
 rw[List.getElem?_append_left (List.getElem?_eq_some_iff.1 h).1]; exact h
theorem lS.next {p:List HEv} {s:RdS} (T:lS p s) {x:HEv} (h:(bS s x).2=true):lS (p++[x]) (bS s x).1:=by
 have hok:=T.ok.next x
 have hlen:(p++[x]).length=p.length+1:=by simp
 rcases nE h with ⟨k1,hi⟩ | ⟨k2,hi⟩ | ⟨k3,hi⟩
 ·obtain⟨c0,c8,hb,_,_,_⟩:=qA hi
  have e:=lB k1 hi
  rw[e]at hok ⊢
  have hps:∀d:Int,pend (p++[x]) d=if x.client=d then (p.length:Int) else pend p d:=fun d=>by
   rw[e6,jP,if_neg (by omega),if_pos k1]
  refine⟨by rw[hlen]; exact hok,fun d hd hp=>?_,fun d hd hp=>?_,fun c d hc hd hcd b h1 h2=>?_⟩
  ·rw[hps]at hp
   by_cases hcd:x.client=d
   ·rw[if_pos hcd]at hp; omega
   ·rw[if_neg hcd]at hp
    rw[List.getElem?_set_ne (by omega)]
    exact T.idle d hd hp
  ·rw[hps]at hp ⊢
   by_cases hcd:x.client=d
   ·rw[if_pos hcd]
    refine⟨s.all.length+1,_,x,by rw[show x.client.toNat=d by omega]; exact List.getElem?_set_self (by rw[T.ok.blen]; exact hd),by omega,by
     rw[show ((s.all.length:Int)+1-1).toNat=s.all.length by omega]
     exact List.getElem?_concat_length .., by
     rw[Int.toNat_natCast]
     exact List.getElem?_concat_length .., rfl⟩
   ·rw[if_neg hcd]at hp ⊢
    obtain⟨b,o,y,g1,g2,g3,g4,g5⟩:=T.busy d hd hp
    exact⟨b,o,y,by rw[List.getElem?_set_ne (by omega)]; exact g1,g2,kC g3,kC g4,g5⟩
  ·have hbb:∀(k:Nat) (b:Int),s.busy[k]?=some b→b≤s.all.length:=fun k b hk=>(T.ok.busy b (List.mem_of_getElem? hk)).2
   by_cases e1:x.client.toNat=c
   ·subst e1
    rw[List.getElem?_set_self (by rw[T.ok.blen]; exact hc)]at h1
    rw[List.getElem?_set_ne hcd]at h2
    have:=hbb _ _ h2
    cases h1
    omega
   ·rw[List.getElem?_set_ne e1]at h1
    by_cases e2:x.client.toNat=d
    ·subst e2
     rw[List.getElem?_set_self (by rw[T.ok.blen]; exact hd)]at h2
     have:=hbb _ _ h1
     cases h2
     omega
    ·rw[List.getElem?_set_ne e2]at h2
     exact T.free c d hc hd hcd b h1 h2
 ·obtain⟨c0,c8,_,_,b,o,hb,hb0,hog,ho,_⟩:=pY T.ok hi
  have e:=lA k2 hi hb ho
  rw[e]at hok ⊢
  have hps:∀d:Int,pend (p++[x]) d=if x.client=d then-1 else pend p d:=fun d=>by
   rw[e6,jP,if_neg (by omega),if_neg (by omega),if_pos k2]
  refine⟨by rw[hlen]; exact hok,fun d hd hp=>?_,fun d hd hp=>?_,fun c d hc hd hcd b' h1 h2=>?_⟩
  ·rw[hps]at hp
   by_cases hcd:x.client=d
   ·rw[show x.client.toNat=d by omega]; exact List.getElem?_set_self (by rw[T.ok.blen]; exact hd)
   ·rw[if_neg hcd]at hp
    rw[List.getElem?_set_ne (by omega)]
    exact T.idle d hd hp
  ·rw[hps]at hp ⊢
   by_cases hcd:x.client=d
   ·rw[if_pos hcd]at hp; omega
   ·rw[if_neg hcd]at hp ⊢
    obtain⟨b',o',y,g1,g2,g3,g4,g5⟩:=T.busy d hd hp
    have hne:b'≠b:=fun e=>by
     subst e
     have:=T.free x.client.toNat d (by omega) hd (by omega) _ hb g1
     omega
    exact⟨b',o',y,by rw[List.getElem?_set_ne (by omega)]; exact g1,g2,by rw[List.getElem?_set_ne (by omega)]; exact g3,kC g4,g5⟩
  ·by_cases e1:x.client.toNat=c
   ·subst e1
    rw[List.getElem?_set_self (by rw[T.ok.blen]; exact hc)]at h1
    cases h1; rfl
   ·rw[List.getElem?_set_ne e1]at h1
    by_cases e2:x.client.toNat=d
    ·subst e2
     rw[List.getElem?_set_self (by rw[T.ok.blen]; exact hd)]at h2
     cases h2; rfl
    ·rw[List.getElem?_set_ne e2]at h2
     exact T.free c d hc hd hcd b' h1 h2
 ·have e:=jN (s:=s) k3
  rw[e]at hok ⊢
  have hps:∀d:Int,pend (p++[x]) d = -1:=fun d=>by rw[e6,jP,if_pos k3]
  have hz:∀b∈eP,b=0:=by decide
  refine⟨by rw[hlen]; exact hok,fun d hd _=>?_,fun d hd hp=>by rw[hps]at hp; omega,fun c d _ _ _ b h1 _=>hz b (List.mem_of_getElem? h1)⟩
  obtain⟨b,hb⟩:∃b,eP[d]?=some b:=⟨_,List.getElem?_eq_getElem hd⟩
  show eP[d]?=some 0
  rw[hb,hz b (List.mem_of_getElem? hb)]
theorem pK (h:List HEv):∀(n:Nat) (s:RdS) (i:Nat),h.length-i=n→i≤h.length→lS (h.take i) s →
  nN h n i=(if 0≤(goS s (h.drop i) i).2 then ((goS s (h.drop i) i).2,18) else (0,0))∧((goS s (h.drop i) i).2<0→lS h (goS s (h.drop i) i).1)
 | 0,s,i,hn,hi,T=>by
  have he:i=h.length:=by omega
  subst he
  rw[List.drop_length]
  rw[List.take_length]at T
  exact⟨rfl,fun _=>T⟩
 | n+1,s,i,hn,hi,T=>by
  obtain⟨x,hx⟩:∃x,h[i]?=some x:=⟨_,List.getElem?_eq_getElem (by omega)⟩
  have htk:h.take (i+1)=h.take i++[x]:=by rw[List.take_add_one,hx]; rfl
  rw[kB hx,nN,hx]
  simp only
  rw[←T.fits x]
  cases hb:(bS s x).2 with
  | true =>
   simp only[if_pos]
   have T':=T.next hb
   rw[←htk]at T'
   exact pK h n _ (i+1) (by omega) (by omega) T'
  | false =>
   simp only[Bool.false_eq_true,if_false]
   rw[if_pos (by omega)]
   exact⟨rfl,fun hlt=>by omega⟩
theorem wv (h:List HEv):chkH h=rchk h:=by
 unfold chkH rchk
 by_cases h8:8192<h.length
 ·rw[if_pos h8,if_pos h8]
 ·rw[if_neg h8,if_neg h8]
  exact (pK h h.length rd0 0 (by omega) (Nat.zero_le _) yi).1.symm
end Go.Proofs.Ytkehohfgbblokaa
