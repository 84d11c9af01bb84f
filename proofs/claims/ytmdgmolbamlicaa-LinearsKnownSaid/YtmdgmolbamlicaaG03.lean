/- Texts of the proof: Eng69, Eng70, Eng71, PT, PP, PP2, PR, PTab, PDat, PL, Eng72, Eng73, P3, P4, Eng74, P5, PU, P6, PW, P7, P9, P10, P11, Eng75, P12, Eng76, P13, P1, P2, P8, Eng77, P14, PX, P15, P16, P17, P18, P21, P22, P23, HDat, P24, P19, P20, P25, P26, P27, P28, PY, P29, P30, Eng78, P31, P32, P33, P34, PZ, P35, P36, P37, P42, Eng80, Eng81, Eng82, P43, PM, PN, P40, P41, PV0, P44, Eng86, Eng83, Eng84, Eng85, H1, H2, H3, H4, H5, HR, H6, H7, H8, H9, H10, H11, H14, H15, H16, H17, HT. -/
import Derived.Test.YtmdgmolbamlicaaG02
import Derived.Lib.AppendStr
import Derived.Lib.DecodeN
import Derived.Lib.ItoaMem
import Derived.Lib.ParseIntB
import Derived.Lib.ParseIntBCases
import Derived.Test.YtmdgmolbamlicaaChecked
import Derived.Test.YtmdgmolbamlicaaG01
import Derived.KernelRfl
import Derived.Lib.Split
import Derived.Lib.CountLaws
import Derived.Lib.CutLaws
import Derived.Lib.IndexBytes
import Derived.Lib.SmallJoins
import Derived.Lib.IndexLaws
import Derived.Sort.Row
import Derived.Sort.Grow
import Derived.Lib.SlicesCompact

set_option linter.unusedVariables false
set_option linter.unusedSimpArgs false
set_option linter.unusedSectionVars false
set_option maxRecDepth 10000

namespace Go.Eng
open Go.RowKit
section
variable {P : Program} {T : Tab} {env : Env} {h : Upds} {n : Nat}
theorem wB {κ:Type} [DecidableEq κ] {σ:aB} {w w1:World} {X:Nat→Prop} {f:κ→Value} {kt m:Nat} {ds:TypeDesc} (hm:m≤10000) (hu:P.underlying kt=some ds) (he:∀a b,EqOk P m kt (.sc (f a)) (.sc (f b)) (decide (a=b)))
  (hs:∀a b,Instr.sameNow ds (f a) (f b)=some (decide (a=b))) {k:κ} {u:Value} (hk:RelV σ w X (.d (.sc (f k))) u) :
  ∀(l:List (κ×AV)) (es:List MapEntry) (i:Nat),bI σ w X (fun k=>.sc (f k)) l es→∃r,Instr.findNow ds u es i=some r∧(Instr.findAsking kt u es i).run P w1=.ok r w1
 | [],es,i,h=>by
  rw[show es=[] from h]
  exact⟨none,rfl,by simp[Instr.findAsking]⟩
 | (k',v)::l,es,i,h=>by
  obtain⟨e,es',rfl,h1,h2,h3⟩:=h
  have e1:=(RelV.sc.1 hk).1
  have e2:=(RelV.sc.1 h1).1
  have heq:=he k k' σ w1 X u e.key (10000-m) (RelV.sc.2 (RelV.sc.1 hk)) (RelV.sc.2 (RelV.sc.1 h1))
  rw[show 10000-m+m=10000 by omega]at heq
  have hsn:Instr.sameNow ds u e.key=some (decide (k=k')):=by rw[e1,e2]; exact hs k k'
  by_cases hkk:k=k'
  ·rw[decide_eq_true hkk]at heq hsn
   exact⟨some (i,e.val),by simp only[Instr.findNow,hsn],by simp[Instr.findAsking,Op.equal,Op.maxDepth,heq]⟩
  ·rw[decide_eq_false hkk]at heq hsn
   obtain⟨r,g1,g2⟩:=wB hm hu he hs hk l es' (i+1) h3
   exact⟨r,by simp only[Instr.findNow,hsn]; exact g1,by simp only[Instr.findAsking,Op.equal,Op.maxDepth,Sem.run_bind,heq,Result.andThen_ok]; simpa using g2⟩
theorem Ay {κ:Type} [DecidableEq κ] {f:κ→Value} {kt m:Nat} {ds:TypeDesc} (hm:m≤10000) (hu:P.underlying kt=some ds) (ho:∀k,kf P m kt (.sc (f k))) (he:∀a b,EqOk P m kt (.sc (f a)) (.sc (f b)) (decide (a=b)))
  (hs:∀a b,Instr.sameNow ds (f a) (f b)=some (decide (a=b))) (hb:∀k n,Instr.sameBits n (f k) (f k)=true):eD P kt (fun k=>.sc (f k)) m :=
 ⟨hm,ho,he,fun σ w w1 X k u l es hk hl=>by
  obtain⟨r,g1,g2⟩:=wB (w1:=w1) hm hu he hs hk l es 0 hl
  simp only[Instr.findKey,Sem.run_bind,run_underlying hu,Result.andThen_ok,g1,Sem.run_pure,g2],fun k=>hb k⟩
theorem xN {kt:Nat} {ki:IntKind} (hu:P.underlying kt=some (.int ki)) (k:IntKind):eD P kt (fun a:Int=>.sc (.int k a)) 1:=by
 refine Ay (f:=fun a=>.int k a) (by decide) hu (fun a=>sa hu) (fun a b=>vn hu) (fun a b=>?_) (fun k n=>by cases n <;> simp[Instr.sameBits])
 show (if k=k then some (a==b) else none)=_
 rw[if_pos rfl,Bool.beq_eq_decide_eq]
theorem bL {t kt et:TypeId} {κ:Type} [DecidableEq κ] {enc:κ→D} {m r j:Nat} {x y:Operand} {k:κ} {l:List (κ×AV)} {v:AV} (K:eD P kt enc m) (ht:P.underlying t=some (.map kt et))
  (hx:ai env x=some (.mapr r)) (hy:ai env y=some (.d (enc k))) (hr:aQ h r=some (.mo (mapC enc l))) (hf:cW k l 0=some (j,v)) :
  ab P (.lookup t x y true) env h n (some (.tup (.acons v (.acons (.bool true) .anil)))) []:=.of_comes fun C G st σ w a o ho hA hd hst hn=>by
 have h1:=(ak hst (hA.ev hx)).1
 have h2:=(ak hst (hA.ev hy)).1
 have hrow:=hA.row _ _ hr
 obtain⟨b,c,hs,hux⟩:=RelV.mapr.1 h1
 obtain⟨b',es,hb1,hb2,hb3,hb4⟩:=hst.rows r _ hrow
 rw[hs]at hb2
 cases hb2
 have hl:=(bZ l _).1 hb4
 have hfd:=K.found h2 hl
 rw[hf]at hfd
 obtain⟨e,e1,e2,e3,e4,e5⟩:=hfd
 refine .quiet (u :=.tuple #[e.val,.bool true]) hst hd ⟨rfl,rfl⟩ ?_ ?_ ?_
 ·have hget:(getObj b).run P w=.ok (.map es es.size) w:=by simp[getObj,Sem.run,hb3]
  simp only[execOp,ho,Instr.lookup,Sem.run_bind,run_underlying ht,Result.andThen_ok,hux,hget,Sem.run_pure,K.check h2,e1]
  rfl
 ·unfold RelV
  rw[if_neg (by simp[AV.isAgg])]
  exact⟨[e.val,.bool true],rfl,e.val,[.bool true],rfl,e4,.bool true,[],rfl,RelV.sc.2 ⟨rfl,rfl⟩,rfl⟩
 ·exact⟨(ct l).1 (hst.rowsG r _ hrow).2 (k,v) (List.mem_of_getElem? e5),trivial,trivial⟩
theorem cp {t kt et:TypeId} {κ:Type} [DecidableEq κ] {enc:κ→D} {m r:Nat} {x y:Operand} {k:κ} {l:List (κ×AV)} {d:D} (K:eD P kt enc m) (ht:P.underlying t=some (.map kt et)) (hz:fb P et d)
  (hx:ai env x=some (.mapr r)) (hy:ai env y=some (.d (enc k))) (hr:aQ h r=some (.mo (mapC enc l))) (hf:cW k l 0=none) :
  ab P (.lookup t x y true) env h n (some (.tup (.acons (.d d) (.acons (.bool false) .anil)))) []:=.of_comes fun C G st σ w a o ho hA hd hst hn=>by
 have h1:=(ak hst (hA.ev hx)).1
 have h2:=(ak hst (hA.ev hy)).1
 have hrow:=hA.row _ _ hr
 obtain⟨b,c,hs,hux⟩:=RelV.mapr.1 h1
 obtain⟨b',es,hb1,hb2,hb3,hb4⟩:=hst.rows r _ hrow
 rw[hs]at hb2
 cases hb2
 have hl:=(bZ l _).1 hb4
 have hfd:=K.found h2 hl
 rw[hf]at hfd
 obtain⟨z,hz,hzr⟩:=hz.run
 refine .quiet (u :=.tuple #[z,.bool false]) hst hd ⟨rfl,rfl⟩ ?_ ?_ ⟨trivial,trivial,trivial⟩
 ·have hget:(getObj b).run P w=.ok (.map es es.size) w:=by simp[getObj,Sem.run,hb3]
  simp only[execOp,ho,Instr.lookup,Sem.run_bind,run_underlying ht,Result.andThen_ok,hux,hget,Sem.run_pure,K.check h2,hfd,hz]
  rfl
 ·unfold RelV
  rw[if_neg (by simp[AV.isAgg])]
  exact⟨[z,.bool false],rfl,z,[.bool false],rfl,hzr _ _ _,.bool false,[],rfl,RelV.sc.2 ⟨rfl,rfl⟩,rfl⟩
theorem b7 {t kt et:TypeId} {κ:Type} [DecidableEq κ] {enc:κ→D} {m r:Nat} {x y z:Operand} {k:κ} {l:List (κ×AV)} {v:AV} (K:eD P kt enc m) (ht:P.underlying t=some (.map kt et))
  (hx:ai env x=some (.mapr r)) (hy:ai env y=some (.d (enc k))) (hz:ai env z=some v) (hr:aQ h r=some (.mo (mapC enc l))) (hf:cW k l 0=none) :
  ab P (.mapUpdate t x y z) env h n none [(r,some (.mo (mapC enc (l++[(k,v)]))))]:=.of_comes fun C G st σ w a o ho hA hd hst hn=>by
 have h1:=(ak hst (hA.ev hx)).1
 have h2:=(ak hst (hA.ev hy)).1
 obtain⟨h3,h4⟩:=ak hst (hA.ev hz)
 have hrow:=hA.row _ _ hr
 obtain⟨b,c,hs,hux⟩:=RelV.mapr.1 h1
 obtain⟨b',es,hb1,hb2,hb3,hb4⟩:=hst.rows r _ hrow
 rw[hs]at hb2
 cases hb2
 have hl:=(bZ l _).1 hb4
 have hin:(mapC enc l).within G:=(hst.rowsG r _ hrow).2
 have hfd:=K.found h2 hl
 rw[hf]at hfd
 have hst':=hst.writeObj (o' :=.map (es.push { key:=a.eval y,val:=a.eval z,born:=es.size }) (es.size+1)) (row :=.mo (mapC enc (l++[(k,v)]))) hrow hs hb3 rfl
  ((ct _).2 fun p hp=>by
   rcases List.mem_append.1 hp with hp | hp
   ·exact (ct l).1 hin p hp
   ·rw[List.mem_singleton.1 hp]; exact h4)
  (fun w' ht' hh'=>⟨b,es.push { key:=a.eval y,val:=a.eval z,born:=es.size },fun i e he=>by
   rw[Array.getElem?_push]at he
   split at he
   ·rename_i hi; subst hi; cases he; rfl
   ·exact hb1 i e he,hs,by rw[Array.size_push]; exact hh',(bZ _ _).2 (by
    rw[Array.toList_push]
    exact bI.snoc (RelV.carry (G:=G) ht' trivial h2) (RelV.carry (G:=G) ht' h4 h3) l _ (bI.mono ht' hin hl))⟩)
 refine⟨none,_,.skip,undef, { w with heap:=w.heap.setIfInBounds b (.map (es.push { key:=a.eval y,val:=a.eval z,born:=es.size }) (es.size+1)) },σ,G,⟨rfl,rfl⟩,?_,.inr ⟨rfl,rfl⟩,?_,fun _ h=>h,fun _ h=>.inl h⟩
 ·have hget:(getObj b).run P w=.ok (.map es es.size) w:=by simp[getObj,Sem.run,hb3]
  have hset:=lj P w b (.map (es.push { key:=a.eval y,val:=a.eval z,born:=es.size }) (es.size+1)) hb3
  simp only[execOp,ho,Instr.mapUpdate,hux,Sem.run_bind,run_underlying ht,hget,Result.andThen_ok,K.check h2,hfd,hset,Sem.run_pure]
 ·rw[St.put_upd]
  exact hst'.set hd (v:=none) (eF _ _ _) trivial
theorem bI.put2 {κ:Type} {enc:κ→D} {σ:aB} {w:World} {X:Nat→Prop} {v:AV} {u uk:Value} (hv:RelV σ w X v u):∀(l:List (κ×AV)) (es:List MapEntry) (j:Nat),(∀q,l[j]?=some q→RelV σ w X (.d (enc q.1)) uk)→bI σ w X enc l es→bI σ w X enc (putC l j v) (es.modify j fun e => { e with key:=uk,val:=u })
 | [],es,j,_,h=>by
  rw[show es=[] from h]
  cases j <;> exact rfl
 | (k',v')::l,es,0,hk,h=>by
  obtain⟨e',es',rfl,h1,h2,h3⟩:=h
  exact⟨{ e' with key:=uk,val:=u },es',rfl,hk _ rfl,hv,h3⟩
 | (k',v')::l,es,j+1,hk,h=>by
  obtain⟨e',es',rfl,h1,h2,h3⟩:=h
  exact⟨e',es'.modify j _,rfl,h1,h2,bI.put2 hv l es' j (fun q hq=>hk q (by simpa using hq)) h3⟩
theorem sV {κ:Type} {v:AV}:∀(l:List (κ×AV)) (j:Nat) (p:κ×AV),p∈putC l j v→p.2=v∨∃q∈l,q.2=p.2
 | [],j,p,hp=>by simp[putC]at hp
 | q::l,0,p,hp=>by
  simp only[putC,List.mem_cons]at hp
  rcases hp with hp | hp
  ·exact .inl (by rw[hp])
  ·exact .inr ⟨p,by simp[hp],rfl⟩
 | q::l,j+1,p,hp=>by
  simp only[putC,List.mem_cons]at hp
  rcases hp with hp | hp
  ·exact .inr ⟨q,by simp,by rw[hp]⟩
  ·rcases sV l j p hp with h | ⟨q',h5,h6⟩
   ·exact .inl h
   ·exact .inr ⟨q',by simp[h5],h6⟩
theorem gw {t kt et:TypeId} {κ:Type} [DecidableEq κ] {enc:κ→D} {m r j:Nat} {x y z:Operand} {k:κ} {l:List (κ×AV)} {v v0:AV} (K:eD P kt enc m) (ht:P.underlying t=some (.map kt et))
  (hx:ai env x=some (.mapr r)) (hy:ai env y=some (.d (enc k))) (hz:ai env z=some v) (hr:aQ h r=some (.mo (mapC enc l))) (hf:cW k l 0=some (j,v0)) :
  ab P (.mapUpdate t x y z) env h n none [(r,some (.mo (mapC enc (putC l j v))))]:=.of_comes fun C G st σ w a o ho hA hd hst hn=>by
 have h1:=(ak hst (hA.ev hx)).1
 have h2:=(ak hst (hA.ev hy)).1
 obtain⟨h3,h4⟩:=ak hst (hA.ev hz)
 have hrow:=hA.row _ _ hr
 obtain⟨b,c,hs,hux⟩:=RelV.mapr.1 h1
 obtain⟨b',es,hb1,hb2,hb3,hb4⟩:=hst.rows r _ hrow
 rw[hs]at hb2
 cases hb2
 have hl:=(bZ l _).1 hb4
 have hin:(mapC enc l).within G:=(hst.rowsG r _ hrow).2
 have hfd:=K.found h2 hl
 rw[hf]at hfd
 obtain⟨e,e1,e2,e3,e4,e5⟩:=hfd
 have hej:es[j]?=some e:=by simpa using e2
 have hks:(Instr.keyThatStays e.key (a.eval y)).run P w=.ok (a.eval y) w:=(xM (P:=P) (w1:=w) (K.keyd k) e3 h2).1
 have hst':=hst.writeObj (o' :=.map (es.modify j fun e => { e with key:=a.eval y,val:=a.eval z }) (es.modify j fun e => { e with key:=a.eval y,val:=a.eval z }).size) (row :=.mo (mapC enc (putC l j v))) hrow hs hb3 rfl
  ((ct _).2 fun p hp=>by
   rcases sV l j p hp with h | ⟨q,h5,h6⟩
   ·rw[h]; exact h4
   ·rw[←h6]; exact (ct l).1 hin q h5)
  (fun w' ht' hh'=>⟨b,_,fun i e he=>by
   rw[Array.getElem?_modify]at he
   split at he
   ·cases hi:es[i]? with
    | none=>rw[hi]at he; cases he
    | some e0=>rw[hi]at he; cases he; exact hb1 i e0 hi
   ·exact hb1 i e he,hs,hh',(bZ _ _).2 (by
    rw[Array.toList_modify]
    refine bI.put2 (RelV.carry (G:=G) ht' h4 h3) l _ j (fun q hq=>?_) (bI.mono ht' hin hl)
    rw[e5]at hq
    cases hq
    exact RelV.carry (G:=G) ht' trivial h2)⟩)
 refine⟨none,_,.skip,undef, { w with heap:=w.heap.setIfInBounds b (.map (es.modify j fun e => { e with key:=a.eval y,val:=a.eval z }) (es.modify j fun e => { e with key:=a.eval y,val:=a.eval z }).size) },σ,G,⟨rfl,rfl⟩,?_,.inr ⟨rfl,rfl⟩,?_,fun _ h=>h,fun _ h=>.inl h⟩
 ·have hget:(getObj b).run P w=.ok (.map es es.size) w:=by simp[getObj,Sem.run,hb3]
  have hset:=lj P w b (.map (es.modify j fun e => { e with key:=a.eval y,val:=a.eval z }) es.size) hb3
  simp only[execOp,ho,Instr.mapUpdate,hux,Sem.run_bind,run_underlying ht,hget,Result.andThen_ok,K.check h2,e1,hej,Option.map_some,Option.getD_some,hks,hset,Array.size_modify,Sem.run_pure]
 ·rw[St.put_upd]
  exact hst'.set hd (v:=none) (eF _ _ _) trivial
end
end Go.Eng
namespace Go.Eng
open Go.RowKit Go.Lib
section
variable {P : Program} {T : Tab} {env : Env} {h : Upds} {n : Nat}
end
end Go.Eng
namespace Go.Eng
open Go.RowKit
section
variable {P : Program} {T : Tab} {env : Env} {h : Upds} {n : Nat}
end
end Go.Eng
namespace Go.Plain
open Go.Eng Go.Lib
def rk:List UInt8→UInt8→List (List UInt8)
 | [],_=>[[]]
 | b::l,c=>if b=c then[]::rk l c else match rk l c with
  | []=>[[b]]
  | w::ws=>(b::w)::ws
def hexD:List UInt8:=[48,49,50,51,52,53,54,55,56,57,97,98,99,100,101,102]
def hexC (n:Nat):UInt8:=hexD.getD n 0
def hexB (b:UInt8):List UInt8:=[hexC (b.toNat/16),hexC (b.toNat % 16)]
def hexP (l:List UInt8):List UInt8:=if l=[] then[45] else l.flatMap hexB
def nibO (c:UInt8):Option Nat:=if 0≤indexByte hexD c then some (indexByte hexD c).toNat else none
def Ah:List UInt8→Option (List UInt8)
 | []=>some []
 | [_]=>none
 | a::b::l=>match nibO a,nibO b,Ah l with
  | some x,some y,some r=>some ((x*16+y).toUInt8::r)
  | _,_,_=>none
def rb (s:List UInt8):Option (List UInt8):=if s=[45] then some [] else if s=[] then none else Ah s
/-! Numbers. -/
/-! Operations. -/
structure POp where
 kind:Int
 index:Int
 data:List UInt8
 deriving DecidableEq
structure POp.Ok (o:POp):Prop where
 kind:0≤o.kind∧o.kind≤255
 index : -9223372036854775808≤o.index∧o.index≤9223372036854775807
def yP:List UInt8:=[114,101,97,100]
def uD:List UInt8:=[119,114,105,116,101]
def uE:List UInt8:=[102,108,117,115,104]
def sOp:List UInt8:=[111,112]
def nY:List UInt8:=[99,108,105,101,110,116]
def wo (o:POp):List UInt8 :=
 if o.kind=1∧o.data=[] then yP++32::itoa o.index
 else if o.kind=2 then uD++32::(itoa o.index++32::hexP o.data)
 else if o.kind=3∧o.index=0∧o.data=[] then uE
 else sOp++32::(itoa o.kind++32::(itoa o.index++32::hexP o.data))
def opF (k i d:List UInt8):Option POp:=match parseUintB 8 k,atoiAll i,rb d with
 | .ok k,.ok i,some d=>some ⟨k,i,d⟩
 | _,_,_=>none
def E9 (w:List (List UInt8)):Option POp:=match w with
 | []=>none
 | a::r=>if a=yP then (match r with | [i]=>opF [49] i [45] | _=>none)
  else if a=uD then (match r with | [i,d]=>opF [50] i d | _=>none)
  else if a=uE then (match r with | []=>opF [51] [48] [45] | _=>none)
  else if a=sOp then (match r with | [k,i,d]=>opF k i d | _=>none)
  else none
def CF (t:List UInt8):Option POp:=match E9 (rk t 32) with
 | some o=>if wo o=t then some o else none
 | none=>none
def badP (p:List POp):Bool:=decide (64<p.length)||p.any fun o=>decide (64<o.data.length)
def chkP (l:List (List POp)):Int:=if 8<l.length then 3 else if l.any badP=true then 3 else 0
def rR (l:List (List POp)) (o:POp):List (List POp):=l.dropLast++[l.getLast?.getD []++[o]]
def addP (l:List (List POp)) (t:List UInt8):List (List POp)×Int :=
 if t=nY then (if 8<l.length+1 then ([],3) else (l++[[]],0))
 else match CF t with
  | none=>([],5)
  | some o=>if l=[] then ([],5) else if 64<(l.getLast?.getD []).length+1∨64<o.data.length then ([],3) else (rR l o,0)
def cutL:List UInt8→UInt8→Option (List UInt8×List UInt8)
 | [],_=>none
 | b::l,c=>if b=c then some ([],l) else match cutL l c with
  | none=>none
  | some (p,q)=>some (b::p,q)
theorem qS:∀ {l:List UInt8} {c:UInt8} {p q:List UInt8},cutL l c=some (p,q)→l=p++c::q∧c ∉ p
 | [],_,_,_,h=>by cases h
 | b::l,c,p,q,h=>by
  simp only[cutL]at h
  split at h
  ·rename_i e
   cases h
   subst e
   exact⟨rfl,by simp⟩
  ·rename_i e
   split at h
   ·cases h
   ·rename_i p' q' h2
    cases h
    obtain⟨h3,h4⟩:=qS h2
    subst h3
    refine⟨rfl,?_⟩
    simp only[List.mem_cons,not_or]
    exact⟨Ne.symm e,h4⟩
def uU (s:List UInt8) (l:List (List POp)) (n:Nat):List (List POp)×Nat×Int :=
 if s=[] then (l,0,0) else
 match _h:cutL s 10 with
 | none=>([],n,5)
 | some (t,r)=>if (addP l t).2=0 then uU r (addP l t).1 (n+1) else ([],n,(addP l t).2)
termination_by s.length
decreasing_by
 have := (qS _h).1
 rw [this]
 simp
 omega
def rE:List (List UInt8)→Nat→List (List POp)→List (List POp)×Nat×Int
 | [],_,l=>(l,0,0)
 | [t],i,l=>if t=[] then (l,0,0) else ([],i+1,5)
 | t::u::ts,i,l=>if t=nY then (if 0<chkP (l++[[]]) then ([],i+1,3) else rE (u::ts) (i+1) (l++[[]]))
  else match CF t with
   | none=>([],i+1,5)
   | some o=>if l=[] then ([],i+1,5) else if 0<chkP (rR l o) then ([],i+1,3) else rE (u::ts) (i+1) (rR l o)
def opsT (p:List POp):List UInt8:=p.flatMap fun o=>wo o++[10]
def E4 (l:List (List POp)):List UInt8:=l.flatMap fun p=>nY++10::opsT p
def OkL (l:List (List POp)):Prop:=∀p∈l,∀o∈p,o.Ok
def B7 (sg:Int) (acc:Int) (c:UInt8):Int:=IntKind.i64.wrap (IntKind.i64.wrap (acc*10)+IntKind.i64.wrap (sg*((c.toNat:Int)-48)))
def Fh (c:UInt8):Bool:=decide (48≤c.toNat)&&decide (c.toNat≤57)
def sgOf (s:List UInt8):Int:=if s.head?=some 45 then-1 else 1
def A2 (s:List UInt8):List UInt8:=if s.head?=some 45 then s.tail else s
def intV (s:List UInt8):Int:=(A2 s).foldl (B7 (sgOf s)) 0
def intR (s:List UInt8):Option Int:=if 19<(A2 s).length then none else if (A2 s).all Fh=false then none else if itoa (intV s)=s then some (intV s) else none
def FG (sg:Int) (acc:Int) (c:UInt8):Int:=acc*10+sg*((c.toNat:Int)-48)
def opR (k:Int) (i d:List UInt8):Option POp:=match intR i,rb d with
 | some i,some d=>some ⟨k,i,d⟩
 | _,_=>none
def Fg (k:List UInt8):Option Int:=match intR k with
 | some n=>if n<0∨255<n then none else some n
 | none=>none
def CU (w:List (List UInt8)):Option POp:=match w with
 | []=>none
 | a::r=>if a=yP∧r.length=1 then opR 1 (r.getD 0 []) [45]
  else if a=uD∧r.length=2 then opR 2 (r.getD 0 []) (r.getD 1 [])
  else if a=uE∧r.length=0 then opR 3 [48] [45]
  else if a=sOp∧r.length=3 then (match Fg (r.getD 0 []) with
   | some k=>opR k (r.getD 1 []) (r.getD 2 [])
   | none=>none)
  else none
def readR (s:List UInt8):Option POp:=match CU (rk s 32) with
 | some o=>if wo o=s then some o else none
 | none=>none
end Go.Plain
namespace Go.Proofs.Ytmdgmolbamlicaa
open Go.Eng
theorem dF {p:Prop} [Decidable p] (h:¬p):decide p=false:=decide_eq_false h
theorem dT {p:Prop} [Decidable p] (h:p):decide p=true:=decide_eq_true h
abbrev u0:TyR := { desc :=.cell,size:=1,bytes:=8,zero :=.sc .nilFunc }
abbrev u1:TyR := { desc :=.cell,size:=1,bytes:=8,zero :=.sc (.pointer none) }
abbrev u2:TyR := { desc :=.cell,size:=1,bytes:=8,zero :=.sc (.map none) }
abbrev u3:TyR := { desc :=.struct [(0,5),(1,5),(2,5)],size:=3,bytes:=3,zero :=.cons (.sc (.int .u8 0)) (.cons (.sc (.int .u8 0)) (.cons (.sc (.int .u8 0)) (.nil))) }
abbrev u4:TyR := { desc :=.int .i64,size:=1,bytes:=8,zero :=.sc (.int .i64 0) }
abbrev u5:TyR := { desc :=.int .u8,size:=1,bytes:=1,zero :=.sc (.int .u8 0) }
section
variable {p : Prop}
theorem zM (h:p:=by exact⟨rfl,bq _,_,rfl,aM.of_eq (by simp only[Row.ren,aY])⟩):p:=h
theorem zN (h:p:=by exact⟨rfl,bq _,_,_,rfl,rfl,aM.of_eq (by simp only[Row.ren,aY])⟩):p:=h
theorem zK (h:p:=by exact⟨rfl,bq _,ta _,rfl⟩):p:=h
theorem zR (h:p:=by exact⟨rfl,rfl,_,rfl,.refl _⟩):p:=h
theorem zH (h:p:=by exact⟨rfl,rfl,_,_,rfl,rfl,.refl _⟩):p:=h
theorem zF (h:p:=by exact⟨rfl,_,rfl,FrzR.refl _⟩):p:=h
theorem zV (h:p:=by exact⟨⟨_,rfl,AVLe.of_eq rfl⟩,rfl,trivial⟩):p:=h
theorem za (h:p:=by exact⟨⟨_,rfl,.refl _⟩,rfl,⟨_,rfl,.refl _⟩,rfl,⟨_,rfl,.refl _⟩,rfl,⟨_,rfl,.refl _⟩,rfl,⟨_,rfl,.refl _⟩,rfl,⟨_,rfl,.refl _⟩,rfl,⟨_,rfl,.refl _⟩,rfl,⟨_,rfl,.refl _⟩,rfl,⟨_,rfl,.refl _⟩,rfl,⟨_,rfl,.refl _⟩,rfl,⟨_,rfl,.refl _⟩,rfl,⟨_,rfl,.refl _⟩,rfl,trivial⟩):p:=h
theorem zb (h:p:=by exact⟨⟨_,rfl,.refl _⟩,rfl,⟨_,rfl,.refl _⟩,rfl,⟨_,rfl,.refl _⟩,rfl,⟨_,rfl,.refl _⟩,rfl,⟨_,rfl,.refl _⟩,rfl,⟨_,rfl,.refl _⟩,rfl,⟨_,rfl,.refl _⟩,rfl,⟨_,rfl,.refl _⟩,rfl,⟨_,rfl,.refl _⟩,rfl,⟨_,rfl,.refl _⟩,rfl,⟨_,rfl,.refl _⟩,rfl,trivial⟩):p:=h
theorem zc (h:p:=by exact⟨⟨_,rfl,.refl _⟩,rfl,⟨_,rfl,.refl _⟩,rfl,⟨_,rfl,.refl _⟩,rfl,⟨_,rfl,.refl _⟩,rfl,⟨_,rfl,.refl _⟩,rfl,⟨_,rfl,.refl _⟩,rfl,⟨_,rfl,.refl _⟩,rfl,⟨_,rfl,.refl _⟩,rfl,⟨_,rfl,.refl _⟩,rfl,⟨_,rfl,.refl _⟩,rfl,trivial⟩):p:=h
theorem zd (h:p:=by exact⟨⟨_,rfl,.refl _⟩,rfl,⟨_,rfl,.refl _⟩,rfl,⟨_,rfl,.refl _⟩,rfl,⟨_,rfl,.refl _⟩,rfl,⟨_,rfl,.refl _⟩,rfl,⟨_,rfl,.refl _⟩,rfl,⟨_,rfl,.refl _⟩,rfl,⟨_,rfl,.refl _⟩,rfl,⟨_,rfl,.refl _⟩,rfl,trivial⟩):p:=h
theorem ze (h:p:=by exact⟨⟨_,rfl,.refl _⟩,rfl,⟨_,rfl,.refl _⟩,rfl,⟨_,rfl,.refl _⟩,rfl,⟨_,rfl,.refl _⟩,rfl,⟨_,rfl,.refl _⟩,rfl,⟨_,rfl,.refl _⟩,rfl,⟨_,rfl,.refl _⟩,rfl,⟨_,rfl,.refl _⟩,rfl,trivial⟩):p:=h
theorem zf (h:p:=by exact⟨⟨_,rfl,.refl _⟩,rfl,⟨_,rfl,.refl _⟩,rfl,⟨_,rfl,.refl _⟩,rfl,⟨_,rfl,.refl _⟩,rfl,⟨_,rfl,.refl _⟩,rfl,⟨_,rfl,.refl _⟩,rfl,⟨_,rfl,.refl _⟩,rfl,trivial⟩):p:=h
theorem zg (h:p:=by exact⟨⟨_,rfl,.refl _⟩,rfl,⟨_,rfl,.refl _⟩,rfl,⟨_,rfl,.refl _⟩,rfl,⟨_,rfl,.refl _⟩,rfl,⟨_,rfl,.refl _⟩,rfl,⟨_,rfl,.refl _⟩,rfl,trivial⟩):p:=h
theorem zh (h:p:=by exact⟨⟨_,rfl,.refl _⟩,rfl,⟨_,rfl,.refl _⟩,rfl,⟨_,rfl,.refl _⟩,rfl,⟨_,rfl,.refl _⟩,rfl,⟨_,rfl,.refl _⟩,rfl,trivial⟩):p:=h
theorem zi (h:p:=by exact⟨⟨_,rfl,.refl _⟩,rfl,⟨_,rfl,.refl _⟩,rfl,⟨_,rfl,.refl _⟩,rfl,⟨_,rfl,.refl _⟩,rfl,trivial⟩):p:=h
theorem zj (h:p:=by exact⟨⟨_,rfl,.refl _⟩,rfl,⟨_,rfl,.refl _⟩,rfl,⟨_,rfl,.refl _⟩,rfl,trivial⟩):p:=h
theorem zk (h:p:=by exact⟨⟨_,rfl,.refl _⟩,rfl,⟨_,rfl,.refl _⟩,rfl,trivial⟩):p:=h
theorem zl (h:p:=by exact⟨⟨_,rfl,.refl _⟩,rfl,trivial⟩):p:=h
theorem zE (h:p:=by exact⟨_,rfl,.refl _⟩):p:=h
end
theorem lg {l:bC} {st st':St} (h6:jJ (rho l) st.env st'.next st'.env) (h7:gb (rho l) st st'.next st'.heap) (h1:ey (rho l) (aU st'.heap)=true:=by exact rfl) (h2:st'.sz=st.sz:=by exact rfl) (h3:st'.bs=st.bs:=by exact rfl) (h4:Nat.ble st'.bs st'.next=true:=by exact rfl) (h5:cX st'.bs l=true:=by exact rfl):Le l st st' :=.of h1 h2 h3 h4 h5 h6 h7
theorem mT {t:Nat} {r:TyR} {u:TypeDesc} (h3:Try.prog.underlying t=some u) (h1:(Try.prog.info? t).map (fun i=>(i.size,i.bytes,i.zero))=some (r.size,r.bytes,some (zval r.zero)):=by kernel_rfl) (h2:(r.zero.okC&&Nat.beq r.zero.size r.size)=true:=by kernel_rfl) (h4:qQ Try.prog r.desc u=true:=by kernel_rfl) (h5:r.desc.isAgg=r.zero.isAgg:=by kernel_rfl):TyOk Try.prog t r:=TyOk.mk' h1 h2 h3 h4 h5
abbrev r1:TyR:=u0
theorem ty1:TyOk Try.prog 1 r1:=mT Try.underlying1
abbrev r2:TyR:=u4
theorem ty2:TyOk Try.prog 2 r2:=mT Try.underlying2
abbrev r3:TyR:=u4
theorem ty3:TyOk Try.prog 3 r3:=mT Try.underlying3
abbrev r4:TyR := { desc :=.bool,size:=1,bytes:=1,zero :=.sc (.bool false) }
theorem ty4:TyOk Try.prog 4 r4:=mT Try.underlying4
abbrev r5:TyR:=u5
theorem ty5:TyOk Try.prog 5 r5:=mT Try.underlying5
abbrev r9:TyR := { desc :=.string,size:=1,bytes:=16,zero :=.sc (.string ⟨#[]⟩) }
theorem ty9:TyOk Try.prog 9 r9:=mT Try.underlying9
abbrev r12:TyR := { desc :=.int .u64,size:=1,bytes:=8,zero :=.sc (.int .u64 0) }
theorem ty12:TyOk Try.prog 12 r12:=mT Try.underlying12
abbrev r13:TyR := { desc :=.struct [(0,9),(1,12)],size:=2,bytes:=24,zero :=.cons (.sc (.string ⟨#[]⟩)) (.cons (.sc (.int .u64 0)) (.nil)) }
theorem ty13:TyOk Try.prog 13 r13:=mT Try.underlying13
abbrev r20:TyR := { desc :=.cell,size:=1,bytes:=16,zero :=.sc .nilIface }
theorem ty20:TyOk Try.prog 20 r20:=mT Try.underlying20
abbrev r21:TyR := { desc :=.int .i32,size:=1,bytes:=4,zero :=.sc (.int .i32 0) }
theorem ty21:TyOk Try.prog 21 r21:=mT Try.underlying21
abbrev r22:TyR := { desc :=.slice 24,size:=1,bytes:=24,zero :=.sc (.slice none 0 0) }
theorem ty22:TyOk Try.prog 22 r22:=mT Try.underlying22
abbrev r23:TyR:=u3
theorem ty23:TyOk Try.prog 23 r23:=mT Try.underlying23
abbrev r24:TyR:=u3
theorem ty24:TyOk Try.prog 24 r24:=mT Try.underlying24
abbrev r25:TyR := { desc :=.slice 42,size:=1,bytes:=24,zero :=.sc (.slice none 0 0) }
theorem ty25:TyOk Try.prog 25 r25:=mT Try.underlying25
abbrev r27:TyR:=u0
theorem ty27:TyOk Try.prog 27 r27:=mT Try.underlying27
abbrev r28:TyR := { desc :=.slice 3,size:=1,bytes:=24,zero :=.sc (.slice none 0 0) }
theorem ty28:TyOk Try.prog 28 r28:=mT Try.underlying28
abbrev r29:TyR:=u4
theorem ty29:TyOk Try.prog 29 r29:=mT Try.underlying29
abbrev r31:TyR:=u0
theorem ty31:TyOk Try.prog 31 r31:=mT Try.underlying31
abbrev r33:TyR:=u0
theorem ty33:TyOk Try.prog 33 r33:=mT Try.underlying33
abbrev r34:TyR:=u5
theorem ty34:TyOk Try.prog 34 r34:=mT Try.underlying34
abbrev r35:TyR:=u5
theorem ty35:TyOk Try.prog 35 r35:=mT Try.underlying35
abbrev r36:TyR := { desc :=.slice 5,size:=1,bytes:=24,zero :=.sc (.slice none 0 0) }
theorem ty36:TyOk Try.prog 36 r36:=mT Try.underlying36
abbrev r37:TyR := { desc :=.struct [(0,35),(1,3),(2,36)],size:=3,bytes:=40,zero :=.cons (.sc (.int .u8 0)) (.cons (.sc (.int .i64 0)) (.cons (.sc (.slice none 0 0)) (.nil))) }
theorem ty37:TyOk Try.prog 37 r37:=mT Try.underlying37
abbrev r38:TyR := { desc :=.struct [(0,35),(1,3),(2,36)],size:=3,bytes:=40,zero :=.cons (.sc (.int .u8 0)) (.cons (.sc (.int .i64 0)) (.cons (.sc (.slice none 0 0)) (.nil))) }
theorem ty38:TyOk Try.prog 38 r38:=mT Try.underlying38
abbrev r39:TyR := { desc :=.array 32 5,size:=32,bytes:=32,zero :=.vec 32 1 cN (List.replicate 32 0) }
theorem ty39:TyOk Try.prog 39 r39:=mT Try.underlying39
abbrev r40:TyR := { desc :=.array 32 5,size:=32,bytes:=32,zero :=.vec 32 1 cN (List.replicate 32 0) }
theorem ty40:TyOk Try.prog 40 r40:=mT Try.underlying40
abbrev r41:TyR := { desc :=.struct [(0,34),(1,3),(2,38),(5,40),(37,29)],size:=38,bytes:=96,zero :=.cons (.sc (.int .u8 0)) (.cons (.sc (.int .i64 0)) (.cons (.cons (.sc (.int .u8 0)) (.cons (.sc (.int .i64 0)) (.cons (.sc (.slice none 0 0)) (.nil)))) (.cons (.vec 32 1 cN (List.replicate 32 0)) (.cons (.sc (.int .i64 0)) (.nil))))) }
theorem ty41:TyOk Try.prog 41 r41:=mT Try.underlying41
abbrev r42:TyR := { desc :=.struct [(0,34),(1,3),(2,38),(5,40),(37,29)],size:=38,bytes:=96,zero :=.cons (.sc (.int .u8 0)) (.cons (.sc (.int .i64 0)) (.cons (.cons (.sc (.int .u8 0)) (.cons (.sc (.int .i64 0)) (.cons (.sc (.slice none 0 0)) (.nil)))) (.cons (.vec 32 1 cN (List.replicate 32 0)) (.cons (.sc (.int .i64 0)) (.nil))))) }
theorem ty42:TyOk Try.prog 42 r42:=mT Try.underlying42
abbrev r43:TyR:=u0
theorem ty43:TyOk Try.prog 43 r43:=mT Try.underlying43
abbrev r44:TyR:=u0
theorem ty44:TyOk Try.prog 44 r44:=mT Try.underlying44
abbrev r45:TyR:=u0
theorem ty45:TyOk Try.prog 45 r45:=mT Try.underlying45
abbrev r47:TyR:=u0
theorem ty47:TyOk Try.prog 47 r47:=mT Try.underlying47
abbrev r48:TyR:=u0
theorem ty48:TyOk Try.prog 48 r48:=mT Try.underlying48
abbrev r49:TyR := { desc :=.struct [(0,22)],size:=1,bytes:=24,zero :=.cons (.sc (.slice none 0 0)) (.nil) }
theorem ty49:TyOk Try.prog 49 r49:=mT Try.underlying49
abbrev r50:TyR := { desc :=.struct [(0,22)],size:=1,bytes:=24,zero :=.cons (.sc (.slice none 0 0)) (.nil) }
theorem ty50:TyOk Try.prog 50 r50:=mT Try.underlying50
abbrev r51:TyR:=u0
theorem ty51:TyOk Try.prog 51 r51:=mT Try.underlying51
abbrev r52:TyR:=u0
theorem ty52:TyOk Try.prog 52 r52:=mT Try.underlying52
abbrev r53:TyR := { desc :=.int .i8,size:=1,bytes:=1,zero :=.sc (.int .i8 0) }
theorem ty53:TyOk Try.prog 53 r53:=mT Try.underlying53
abbrev r54:TyR:=u0
theorem ty54:TyOk Try.prog 54 r54:=mT Try.underlying54
abbrev r55:TyR:=u0
theorem ty55:TyOk Try.prog 55 r55:=mT Try.underlying55
abbrev r56:TyR:=u0
theorem ty56:TyOk Try.prog 56 r56:=mT Try.underlying56
abbrev r57:TyR := { desc :=.slice 40,size:=1,bytes:=24,zero :=.sc (.slice none 0 0) }
theorem ty57:TyOk Try.prog 57 r57:=mT Try.underlying57
abbrev r58:TyR := { desc :=.struct [(0,3),(1,28),(2,57),(3,57)],size:=4,bytes:=80,zero :=.cons (.sc (.int .i64 0)) (.cons (.sc (.slice none 0 0)) (.cons (.sc (.slice none 0 0)) (.cons (.sc (.slice none 0 0)) (.nil)))) }
theorem ty58:TyOk Try.prog 58 r58:=mT Try.underlying58
abbrev r59:TyR := { desc :=.struct [(0,3),(1,28),(2,57),(3,57)],size:=4,bytes:=80,zero :=.cons (.sc (.int .i64 0)) (.cons (.sc (.slice none 0 0)) (.cons (.sc (.slice none 0 0)) (.cons (.sc (.slice none 0 0)) (.nil)))) }
theorem ty59:TyOk Try.prog 59 r59:=mT Try.underlying59
abbrev r60:TyR:=u0
theorem ty60:TyOk Try.prog 60 r60:=mT Try.underlying60
abbrev r61:TyR := { desc :=.int .u64,size:=1,bytes:=8,zero :=.sc (.int .u64 0) }
theorem ty61:TyOk Try.prog 61 r61:=mT Try.underlying61
abbrev r62:TyR:=u0
theorem ty62:TyOk Try.prog 62 r62:=mT Try.underlying62
abbrev r63:TyR:=u0
theorem ty63:TyOk Try.prog 63 r63:=mT Try.underlying63
abbrev r65:TyR:=u0
theorem ty65:TyOk Try.prog 65 r65:=mT Try.underlying65
abbrev r66:TyR := { desc :=.struct [(0,3),(1,3),(2,3),(3,38),(6,3),(7,3),(8,40),(40,29)],size:=41,bytes:=120,zero :=.cons (.sc (.int .i64 0)) (.cons (.sc (.int .i64 0)) (.cons (.sc (.int .i64 0)) (.cons (.cons (.sc (.int .u8 0)) (.cons (.sc (.int .i64 0)) (.cons (.sc (.slice none 0 0)) (.nil)))) (.cons (.sc (.int .i64 0)) (.cons (.sc (.int .i64 0)) (.cons (.vec 32 1 cN (List.replicate 32 0)) (.cons (.sc (.int .i64 0)) (.nil)))))))) }
theorem ty66:TyOk Try.prog 66 r66:=mT Try.underlying66
abbrev r67:TyR := { desc :=.struct [(0,3),(1,3),(2,3),(3,38),(6,3),(7,3),(8,40),(40,29)],size:=41,bytes:=120,zero :=.cons (.sc (.int .i64 0)) (.cons (.sc (.int .i64 0)) (.cons (.sc (.int .i64 0)) (.cons (.cons (.sc (.int .u8 0)) (.cons (.sc (.int .i64 0)) (.cons (.sc (.slice none 0 0)) (.nil)))) (.cons (.sc (.int .i64 0)) (.cons (.sc (.int .i64 0)) (.cons (.vec 32 1 cN (List.replicate 32 0)) (.cons (.sc (.int .i64 0)) (.nil)))))))) }
theorem ty67:TyOk Try.prog 67 r67:=mT Try.underlying67
abbrev r68:TyR:=u1
theorem ty68:TyOk Try.prog 68 r68:=mT Try.underlying68
abbrev r70:TyR:=u0
theorem ty70:TyOk Try.prog 70 r70:=mT Try.underlying70
abbrev r72:TyR:=u0
theorem ty72:TyOk Try.prog 72 r72:=mT Try.underlying72
abbrev r73:TyR := { desc :=.slice 67,size:=1,bytes:=24,zero :=.sc (.slice none 0 0) }
theorem ty73:TyOk Try.prog 73 r73:=mT Try.underlying73
abbrev r74:TyR:=u2
theorem ty74:TyOk Try.prog 74 r74:=mT Try.underlying74
abbrev r75:TyR:=u2
theorem ty75:TyOk Try.prog 75 r75:=mT Try.underlying75
abbrev r76:TyR := { desc :=.slice 28,size:=1,bytes:=24,zero :=.sc (.slice none 0 0) }
theorem ty76:TyOk Try.prog 76 r76:=mT Try.underlying76
abbrev r77:TyR:=u2
theorem ty77:TyOk Try.prog 77 r77:=mT Try.underlying77
abbrev r78:TyR:=u2
theorem ty78:TyOk Try.prog 78 r78:=mT Try.underlying78
abbrev r79:TyR:=u2
theorem ty79:TyOk Try.prog 79 r79:=mT Try.underlying79
abbrev r80:TyR := { desc :=.slice 105,size:=1,bytes:=24,zero :=.sc (.slice none 0 0) }
theorem ty80:TyOk Try.prog 80 r80:=mT Try.underlying80
abbrev r81:TyR := { desc :=.slice 106,size:=1,bytes:=24,zero :=.sc (.slice none 0 0) }
theorem ty81:TyOk Try.prog 81 r81:=mT Try.underlying81
abbrev r82:TyR := { desc :=.struct [(0,73),(1,3),(2,3),(3,74),(4,75),(5,76),(6,77),(7,77),(8,78),(9,78),(10,79),(11,80),(12,81)],size:=13,bytes:=168,zero :=.cons (.sc (.slice none 0 0)) (.cons (.sc (.int .i64 0)) (.cons (.sc (.int .i64 0)) (.cons (.sc (.map none)) (.cons (.sc (.map none)) (.cons (.sc (.slice none 0 0)) (.cons (.sc (.map none)) (.cons (.sc (.map none)) (.cons (.sc (.map none)) (.cons (.sc (.map none)) (.cons (.sc (.map none)) (.cons (.sc (.slice none 0 0)) (.cons (.sc (.slice none 0 0)) (.nil))))))))))))) }
theorem ty82:TyOk Try.prog 82 r82:=mT Try.underlying82
abbrev r83:TyR := { desc :=.struct [(0,73),(1,3),(2,3),(3,74),(4,75),(5,76),(6,77),(7,77),(8,78),(9,78),(10,79),(11,80),(12,81)],size:=13,bytes:=168,zero :=.cons (.sc (.slice none 0 0)) (.cons (.sc (.int .i64 0)) (.cons (.sc (.int .i64 0)) (.cons (.sc (.map none)) (.cons (.sc (.map none)) (.cons (.sc (.slice none 0 0)) (.cons (.sc (.map none)) (.cons (.sc (.map none)) (.cons (.sc (.map none)) (.cons (.sc (.map none)) (.cons (.sc (.map none)) (.cons (.sc (.slice none 0 0)) (.cons (.sc (.slice none 0 0)) (.nil))))))))))))) }
theorem ty83:TyOk Try.prog 83 r83:=mT Try.underlying83
abbrev r84:TyR:=u0
theorem ty84:TyOk Try.prog 84 r84:=mT Try.underlying84
abbrev r86:TyR:=u0
theorem ty86:TyOk Try.prog 86 r86:=mT Try.underlying86
abbrev r87:TyR:=u0
theorem ty87:TyOk Try.prog 87 r87:=mT Try.underlying87
abbrev r88:TyR := { desc :=.slice 59,size:=1,bytes:=24,zero :=.sc (.slice none 0 0) }
theorem ty88:TyOk Try.prog 88 r88:=mT Try.underlying88
abbrev r89:TyR:=u0
theorem ty89:TyOk Try.prog 89 r89:=mT Try.underlying89
abbrev r90:TyR:=u0
theorem ty90:TyOk Try.prog 90 r90:=mT Try.underlying90
abbrev r91:TyR:=u0
theorem ty91:TyOk Try.prog 91 r91:=mT Try.underlying91
abbrev r92:TyR:=u0
theorem ty92:TyOk Try.prog 92 r92:=mT Try.underlying92
abbrev r93:TyR:=u0
theorem ty93:TyOk Try.prog 93 r93:=mT Try.underlying93
abbrev r94:TyR:=u0
theorem ty94:TyOk Try.prog 94 r94:=mT Try.underlying94
abbrev r95:TyR:=u0
theorem ty95:TyOk Try.prog 95 r95:=mT Try.underlying95
abbrev r96:TyR := { desc :=.array 4 29,size:=4,bytes:=32,zero :=.cons (.sc (.int .i64 0)) (.cons (.sc (.int .i64 0)) (.cons (.sc (.int .i64 0)) (.cons (.sc (.int .i64 0)) (.nil)))) }
theorem ty96:TyOk Try.prog 96 r96:=mT Try.underlying96
abbrev r97:TyR:=u0
theorem ty97:TyOk Try.prog 97 r97:=mT Try.underlying97
abbrev r98:TyR:=u0
theorem ty98:TyOk Try.prog 98 r98:=mT Try.underlying98
abbrev r99:TyR:=u0
theorem ty99:TyOk Try.prog 99 r99:=mT Try.underlying99
abbrev r101:TyR:=u0
theorem E3:TyOk Try.prog 101 r101:=mT Try.underlying101
abbrev r102:TyR:=u0
theorem E2:TyOk Try.prog 102 r102:=mT Try.underlying102
abbrev r103:TyR:=u0
theorem E0:TyOk Try.prog 103 r103:=mT Try.underlying103
abbrev r104:TyR := { desc :=.struct [(0,3),(1,9),(2,9),(3,9)],size:=4,bytes:=56,zero :=.cons (.sc (.int .i64 0)) (.cons (.sc (.string ⟨#[]⟩)) (.cons (.sc (.string ⟨#[]⟩)) (.cons (.sc (.string ⟨#[]⟩)) (.nil)))) }
theorem EZ:TyOk Try.prog 104 r104:=mT Try.underlying104
abbrev r105:TyR := { desc :=.struct [(0,3),(1,9),(2,9),(3,9)],size:=4,bytes:=56,zero :=.cons (.sc (.int .i64 0)) (.cons (.sc (.string ⟨#[]⟩)) (.cons (.sc (.string ⟨#[]⟩)) (.cons (.sc (.string ⟨#[]⟩)) (.nil)))) }
theorem EY:TyOk Try.prog 105 r105:=mT Try.underlying105
abbrev r106:TyR := { desc :=.slice 113,size:=1,bytes:=24,zero :=.sc (.slice none 0 0) }
theorem EX:TyOk Try.prog 106 r106:=mT Try.underlying106
abbrev r107:TyR:=u0
theorem EW:TyOk Try.prog 107 r107:=mT Try.underlying107
abbrev r108:TyR := { desc :=.slice 4,size:=1,bytes:=24,zero :=.sc (.slice none 0 0) }
theorem EV:TyOk Try.prog 108 r108:=mT Try.underlying108
abbrev r109:TyR:=u0
theorem EU:TyOk Try.prog 109 r109:=mT Try.underlying109
abbrev r110:TyR:=u0
theorem ET:TyOk Try.prog 110 r110:=mT Try.underlying110
abbrev r111:TyR:=u0
theorem ES:TyOk Try.prog 111 r111:=mT Try.underlying111
abbrev r112:TyR := { desc :=.struct [(0,3),(1,3)],size:=2,bytes:=16,zero :=.cons (.sc (.int .i64 0)) (.cons (.sc (.int .i64 0)) (.nil)) }
theorem ER:TyOk Try.prog 112 r112:=mT Try.underlying112
abbrev r113:TyR := { desc :=.struct [(0,3),(1,3)],size:=2,bytes:=16,zero :=.cons (.sc (.int .i64 0)) (.cons (.sc (.int .i64 0)) (.nil)) }
theorem EQ:TyOk Try.prog 113 r113:=mT Try.underlying113
abbrev r114:TyR:=u0
theorem EP:TyOk Try.prog 114 r114:=mT Try.underlying114
abbrev r115:TyR:=u0
theorem EO:TyOk Try.prog 115 r115:=mT Try.underlying115
abbrev r116:TyR:=u0
theorem EN:TyOk Try.prog 116 r116:=mT Try.underlying116
abbrev r117:TyR:=u0
theorem EM:TyOk Try.prog 117 r117:=mT Try.underlying117
abbrev r118:TyR := { desc :=.slice 29,size:=1,bytes:=24,zero :=.sc (.slice none 0 0) }
theorem EL:TyOk Try.prog 118 r118:=mT Try.underlying118
abbrev r119:TyR:=u0
theorem EK:TyOk Try.prog 119 r119:=mT Try.underlying119
abbrev r120:TyR:=u0
theorem EJ:TyOk Try.prog 120 r120:=mT Try.underlying120
abbrev r121:TyR:=u0
theorem EI:TyOk Try.prog 121 r121:=mT Try.underlying121
abbrev r122:TyR:=u2
theorem EH:TyOk Try.prog 122 r122:=mT Try.underlying122
abbrev r123:TyR := { desc :=.struct [(0,122),(1,122)],size:=2,bytes:=16,zero :=.cons (.sc (.map none)) (.cons (.sc (.map none)) (.nil)) }
theorem EG:TyOk Try.prog 123 r123:=mT Try.underlying123
abbrev r124:TyR := { desc :=.struct [(0,122),(1,122)],size:=2,bytes:=16,zero :=.cons (.sc (.map none)) (.cons (.sc (.map none)) (.nil)) }
theorem EF:TyOk Try.prog 124 r124:=mT Try.underlying124
abbrev r125:TyR:=u0
theorem EE:TyOk Try.prog 125 r125:=mT Try.underlying125
abbrev r126:TyR:=u0
theorem ED:TyOk Try.prog 126 r126:=mT Try.underlying126
abbrev r127:TyR:=u0
theorem EC:TyOk Try.prog 127 r127:=mT Try.underlying127
abbrev r128:TyR:=u0
theorem EB:TyOk Try.prog 128 r128:=mT Try.underlying128
abbrev r129:TyR:=u0
theorem EA:TyOk Try.prog 129 r129:=mT Try.underlying129
abbrev r130:TyR:=u1
theorem Ez:TyOk Try.prog 130 r130:=mT Try.underlying130
abbrev r131:TyR:=u0
theorem Ey:TyOk Try.prog 131 r131:=mT Try.underlying131
abbrev r132:TyR:=u0
theorem Ex:TyOk Try.prog 132 r132:=mT Try.underlying132
abbrev r134:TyR:=u0
theorem Ew:TyOk Try.prog 134 r134:=mT Try.underlying134
abbrev r135:TyR:=u0
theorem Ev:TyOk Try.prog 135 r135:=mT Try.underlying135
abbrev r136:TyR:=u0
theorem Eu:TyOk Try.prog 136 r136:=mT Try.underlying136
abbrev r137:TyR:=u0
theorem Et:TyOk Try.prog 137 r137:=mT Try.underlying137
abbrev r138:TyR:=u0
theorem Es:TyOk Try.prog 138 r138:=mT Try.underlying138
abbrev r139:TyR:=u0
theorem Er:TyOk Try.prog 139 r139:=mT Try.underlying139
abbrev r140:TyR:=u0
theorem Ep:TyOk Try.prog 140 r140:=mT Try.underlying140
abbrev r141:TyR:=u0
theorem Eo:TyOk Try.prog 141 r141:=mT Try.underlying141
abbrev r143:TyR:=u0
theorem En:TyOk Try.prog 143 r143:=mT Try.underlying143
abbrev r144:TyR:=u0
theorem Em:TyOk Try.prog 144 r144:=mT Try.underlying144
abbrev r145:TyR:=u3
theorem El:TyOk Try.prog 145 r145:=mT Try.underlying145
abbrev r146:TyR:=u3
theorem Ek:TyOk Try.prog 146 r146:=mT Try.underlying146
abbrev r147:TyR:=u0
theorem Ej:TyOk Try.prog 147 r147:=mT Try.underlying147
abbrev r148:TyR:=u0
theorem Ei:TyOk Try.prog 148 r148:=mT Try.underlying148
abbrev r149:TyR:=u0
theorem Eh:TyOk Try.prog 149 r149:=mT Try.underlying149
abbrev r150:TyR:=u0
theorem Eg:TyOk Try.prog 150 r150:=mT Try.underlying150
abbrev r151:TyR:=u1
theorem Ef:TyOk Try.prog 151 r151:=mT Try.underlying151
abbrev r152:TyR:=u0
theorem Ee:TyOk Try.prog 152 r152:=mT Try.underlying152
abbrev r153:TyR:=u0
theorem Ed:TyOk Try.prog 153 r153:=mT Try.underlying153
abbrev r154:TyR:=u1
theorem Ec:TyOk Try.prog 154 r154:=mT Try.underlying154
abbrev r156:TyR:=u0
theorem Eb:TyOk Try.prog 156 r156:=mT Try.underlying156
abbrev r157:TyR:=u0
theorem Ea:TyOk Try.prog 157 r157:=mT Try.underlying157
abbrev r158:TyR := { desc :=.array 8 3,size:=8,bytes:=64,zero :=.cons (.sc (.int .i64 0)) (.cons (.sc (.int .i64 0)) (.cons (.sc (.int .i64 0)) (.cons (.sc (.int .i64 0)) (.cons (.sc (.int .i64 0)) (.cons (.sc (.int .i64 0)) (.cons (.sc (.int .i64 0)) (.cons (.sc (.int .i64 0)) (.nil)))))))) }
theorem D9:TyOk Try.prog 158 r158:=mT Try.underlying158
abbrev r159:TyR := { desc :=.struct [(0,158),(8,158),(16,3),(17,3),(18,73)],size:=19,bytes:=168,zero :=.cons (.cons (.sc (.int .i64 0)) (.cons (.sc (.int .i64 0)) (.cons (.sc (.int .i64 0)) (.cons (.sc (.int .i64 0)) (.cons (.sc (.int .i64 0)) (.cons (.sc (.int .i64 0)) (.cons (.sc (.int .i64 0)) (.cons (.sc (.int .i64 0)) (.nil))))))))) (.cons (.cons (.sc (.int .i64 0)) (.cons (.sc (.int .i64 0)) (.cons (.sc (.int .i64 0)) (.cons (.sc (.int .i64 0)) (.cons (.sc (.int .i64 0)) (.cons (.sc (.int .i64 0)) (.cons (.sc (.int .i64 0)) (.cons (.sc (.int .i64 0)) (.nil))))))))) (.cons (.sc (.int .i64 0)) (.cons (.sc (.int .i64 0)) (.cons (.sc (.slice none 0 0)) (.nil))))) }
theorem D8:TyOk Try.prog 159 r159:=mT Try.underlying159
abbrev r160:TyR := { desc :=.struct [(0,158),(8,158),(16,3),(17,3),(18,73)],size:=19,bytes:=168,zero :=.cons (.cons (.sc (.int .i64 0)) (.cons (.sc (.int .i64 0)) (.cons (.sc (.int .i64 0)) (.cons (.sc (.int .i64 0)) (.cons (.sc (.int .i64 0)) (.cons (.sc (.int .i64 0)) (.cons (.sc (.int .i64 0)) (.cons (.sc (.int .i64 0)) (.nil))))))))) (.cons (.cons (.sc (.int .i64 0)) (.cons (.sc (.int .i64 0)) (.cons (.sc (.int .i64 0)) (.cons (.sc (.int .i64 0)) (.cons (.sc (.int .i64 0)) (.cons (.sc (.int .i64 0)) (.cons (.sc (.int .i64 0)) (.cons (.sc (.int .i64 0)) (.nil))))))))) (.cons (.sc (.int .i64 0)) (.cons (.sc (.int .i64 0)) (.cons (.sc (.slice none 0 0)) (.nil))))) }
theorem D7:TyOk Try.prog 160 r160:=mT Try.underlying160
abbrev r161:TyR:=u0
theorem D6:TyOk Try.prog 161 r161:=mT Try.underlying161
abbrev r162:TyR:=u0
theorem D5:TyOk Try.prog 162 r162:=mT Try.underlying162
abbrev r163:TyR:=u0
theorem D4:TyOk Try.prog 163 r163:=mT Try.underlying163
abbrev r164:TyR:=u0
theorem D3:TyOk Try.prog 164 r164:=mT Try.underlying164
abbrev r165:TyR:=u0
theorem D2:TyOk Try.prog 165 r165:=mT Try.underlying165
abbrev r166:TyR:=u1
theorem D1:TyOk Try.prog 166 r166:=mT Try.underlying166
abbrev r167:TyR:=u0
theorem D0:TyOk Try.prog 167 r167:=mT Try.underlying167
abbrev r168:TyR:=u0
theorem DZ:TyOk Try.prog 168 r168:=mT Try.underlying168
abbrev r169:TyR:=u0
theorem DY:TyOk Try.prog 169 r169:=mT Try.underlying169
abbrev r172:TyR := { desc :=.array 0 16,size:=0,bytes:=0,zero :=.nil }
theorem DX:TyOk Try.prog 172 r172:=mT Try.underlying172
abbrev r175:TyR:=u0
theorem DW:TyOk Try.prog 175 r175:=mT Try.underlying175
abbrev r176:TyR := { desc :=.int .u32,size:=1,bytes:=4,zero :=.sc (.int .u32 0) }
theorem DV:TyOk Try.prog 176 r176:=mT Try.underlying176
abbrev r179:TyR:=u0
theorem DU:TyOk Try.prog 179 r179:=mT Try.underlying179
abbrev r180:TyR:=u1
theorem DT:TyOk Try.prog 180 r180:=mT Try.underlying180
abbrev tab:Tab:=[(1,r1),(2,r2),(3,r3),(4,r4),(5,r5),(9,r9),(12,r12),(13,r13),(20,r20),(21,r21),(22,r22),(23,r23),(24,r24),(25,r25),(27,r27),(28,r28),(29,r29),(31,r31),(33,r33),(34,r34),(35,r35),(36,r36),(37,r37),(38,r38),(39,r39),(40,r40),(41,r41),(42,r42),(43,r43),(44,r44),(45,r45),(47,r47),(48,r48),(49,r49),(50,r50),(51,r51),(52,r52),(53,r53),(54,r54),(55,r55),(56,r56),(57,r57),(58,r58),(59,r59),(60,r60),(61,r61),(62,r62),(63,r63),(65,r65),(66,r66),(67,r67),(68,r68),(70,r70),(72,r72),(73,r73),(74,r74),(75,r75),(76,r76),(77,r77),(78,r78),(79,r79),(80,r80),(81,r81),(82,r82),(83,r83),(84,r84),(86,r86),(87,r87),(88,r88),(89,r89),(90,r90),(91,r91),(92,r92),(93,r93),(94,r94),(95,r95),(96,r96),(97,r97),(98,r98),(99,r99),(101,r101),(102,r102),(103,r103),(104,r104),(105,r105),(106,r106),(107,r107),(108,r108),(109,r109),(110,r110),(111,r111),(112,r112),(113,r113),(114,r114),(115,r115),(116,r116),(117,r117),(118,r118),(119,r119),(120,r120),(121,r121),(122,r122),(123,r123),(124,r124),(125,r125),(126,r126),(127,r127),(128,r128),(129,r129),(130,r130),(131,r131),(132,r132),(134,r134),(135,r135),(136,r136),(137,r137),(138,r138),(139,r139),(140,r140),(141,r141),(143,r143),(144,r144),(145,r145),(146,r146),(147,r147),(148,r148),(149,r149),(150,r150),(151,r151),(152,r152),(153,r153),(154,r154),(156,r156),(157,r157),(158,r158),(159,r159),(160,r160),(161,r161),(162,r162),(163,r163),(164,r164),(165,r165),(166,r166),(167,r167),(168,r168),(169,r169),(172,r172),(175,r175),(176,r176),(179,r179),(180,r180)]
theorem aa:aj Try.prog tab :=
 (aj.cons ty1 (aj.cons ty2 (aj.cons ty3 (aj.cons ty4 (aj.cons ty5 (aj.cons ty9 (aj.cons ty12 (aj.cons ty13 (aj.cons ty20 (aj.cons ty21 (aj.cons ty22 (aj.cons ty23 (aj.cons ty24 (aj.cons ty25 (aj.cons ty27 (aj.cons ty28 (aj.cons ty29 (aj.cons ty31 (aj.cons ty33 (aj.cons ty34 (aj.cons ty35 (aj.cons ty36 (aj.cons ty37 (aj.cons ty38 (aj.cons ty39 (aj.cons ty40 (aj.cons ty41 (aj.cons ty42 (aj.cons ty43 (aj.cons ty44 (aj.cons ty45 (aj.cons ty47 (aj.cons ty48 (aj.cons ty49 (aj.cons ty50 (aj.cons ty51 (aj.cons ty52 (aj.cons ty53 (aj.cons ty54 (aj.cons ty55 (aj.cons ty56 (aj.cons ty57 (aj.cons ty58 (aj.cons ty59 (aj.cons ty60 (aj.cons ty61 (aj.cons ty62 (aj.cons ty63 (aj.cons ty65 (aj.cons ty66 (aj.cons ty67 (aj.cons ty68 (aj.cons ty70 (aj.cons ty72 (aj.cons ty73 (aj.cons ty74 (aj.cons ty75 (aj.cons ty76 (aj.cons ty77 (aj.cons ty78 (aj.cons ty79 (aj.cons ty80 (aj.cons ty81 (aj.cons ty82 (aj.cons ty83 (aj.cons ty84 (aj.cons ty86 (aj.cons ty87 (aj.cons ty88 (aj.cons ty89 (aj.cons ty90 (aj.cons ty91 (aj.cons ty92 (aj.cons ty93 (aj.cons ty94 (aj.cons ty95 (aj.cons ty96 (aj.cons ty97 (aj.cons ty98 (aj.cons ty99 (aj.cons E3 (aj.cons E2 (aj.cons E0 (aj.cons EZ (aj.cons EY (aj.cons EX (aj.cons EW (aj.cons EV (aj.cons EU (aj.cons ET (aj.cons ES (aj.cons ER (aj.cons EQ (aj.cons EP (aj.cons EO (aj.cons EN (aj.cons EM (aj.cons EL (aj.cons EK (aj.cons EJ (aj.cons EI (aj.cons EH (aj.cons EG (aj.cons EF (aj.cons EE (aj.cons ED (aj.cons EC (aj.cons EB (aj.cons EA (aj.cons Ez (aj.cons Ey (aj.cons Ex (aj.cons Ew (aj.cons Ev (aj.cons Eu (aj.cons Et (aj.cons Es (aj.cons Er (aj.cons Ep (aj.cons Eo (aj.cons En (aj.cons Em (aj.cons El (aj.cons Ek (aj.cons Ej (aj.cons Ei (aj.cons Eh (aj.cons Eg (aj.cons Ef (aj.cons Ee (aj.cons Ed (aj.cons Ec (aj.cons Eb (aj.cons Ea (aj.cons D9 (aj.cons D8 (aj.cons D7 (aj.cons D6 (aj.cons D5 (aj.cons D4 (aj.cons D3 (aj.cons D2 (aj.cons D1 (aj.cons D0 (aj.cons DZ (aj.cons DY (aj.cons DX (aj.cons DW (aj.cons DV (aj.cons DU (aj.cons DT aj.nil)))))))))))))))))))))))))))))))))))))))))))))))))))))))))))))))))))))))))))))))))))))))))))))))))))))))))))))))))))))))))))))))))))))))))))))))))))))))
end Go.Proofs.Ytmdgmolbamlicaa
namespace Go.Proofs.Ytmdgmolbamlicaa
open Go.Eng
section
variable {sz n : Nat} {env : Env} {h : Upds} {all l : List Oper} {Q : Exit → St → Prop} {y : Code} {id : Nat} {ops : Array Oper} {K : Env → Upds → Nat → Prop} {d : Tmp} {op : Op} {ty : TypeId} {pos : String} {af : Array Edge} {v : AV}
theorem rC (h1:RegS Try.prog all sz l (n+8) ((d,v)::env) h K) (hd:Nat.blt d sz=true:=by exact rfl) (hop:∀K:Option AV→Upds→Prop,K (some v) []→opD tab op (ai env) (aQ h) n K:=by exact fun _ h=>h) :
  RegS Try.prog all sz (⟨some d,op,ty,pos,af,none⟩::l) n env h K:=bJ hd (bD aa hop) h1
theorem rQ (hs:ab Try.prog op env h n (some v) []) (h1:RegS Try.prog all sz l (n+8) ((d,v)::env) h K) (hd:Nat.blt d sz=true:=by exact rfl) :
  RegS Try.prog all sz (⟨some d,op,ty,pos,af,none⟩::l) n env h K:=bJ hd hs h1
theorem rN {x:Nat×Option Row} (h1:RegS Try.prog all sz l (n+8) ((d,v)::env) (x::h) K) (hd:Nat.blt d sz=true:=by exact rfl) (hop:∀K:Option AV→Upds→Prop,K (some v) [x]→opD tab op (ai env) (aQ h) n K:=by exact fun _ h=>h) :
  RegS Try.prog all sz (⟨some d,op,ty,pos,af,none⟩::l) n env h K:=aO (bD aa hop) hd h1
theorem nS {b:Code} (h1:WC Try.prog sz b Q env h n):RegS Try.prog all sz [] n env h (RegK (SeqQ Try.prog b Q) sz):=vY (vT h1)
theorem sR (h1:RegS Try.prog ops.toList sz ops.toList n env h (RegK (SeqQ Try.prog y Q) sz)):WC Try.prog sz (.seq (.region id ops false) y) Q env h n:=li (pX h1)
theorem kS {b:Code} (h1:WC Try.prog sz b Q env h n):WC Try.prog sz .skip (SeqQ Try.prog b Q) env h n:=vK (vT h1)
theorem nQ {b c:Code} (h1:WC Try.prog sz b (SeqQ Try.prog c Q) env h n):RegS Try.prog all sz [] n env h (RegK (SeqQ Try.prog (.seq b c) Q) sz):=nS (li h1)
theorem qR {c:Code} (h1:RegS Try.prog ops.toList sz ops.toList n env h (RegK (SeqQ Try.prog y (SeqQ Try.prog c Q)) sz)):WC Try.prog sz (.seq (.seq (.region id ops false) y) c) Q env h n:=li (sR h1)
theorem lf {l:bC} {st st':St} (h1:ey (rho l) (aU st'.heap)=true:=by exact rfl) (h2:st'.sz=st.sz:=by exact rfl) (h3:st'.bs=st.bs:=by exact rfl) (h4:Nat.ble st'.bs st'.next=true:=by exact rfl) (h5:cX st'.bs l=true:=by exact rfl)
  (h6:jJ (rho l) st.env st'.next st'.env:=by exact⟨⟨_,rfl,AVLe.of_eq rfl⟩,rfl,trivial⟩) (h7:gb (rho l) st st'.next st'.heap:=by exact trivial):Le l st st' :=.of h1 h2 h3 h4 h5 h6 h7
theorem nR (h1:RegS Try.prog ops.toList sz ops.toList n env h (RegK (SeqQ Try.prog y Q) sz)):RegS Try.prog all sz [] n env h (RegK (SeqQ Try.prog (.seq (.region id ops false) y) Q) sz):=nS (sR h1)
section
variable {dd : Option Tmp} {j g : Nat} {want b : Bool} {env' : Env}
theorem rO (h1:RegS Try.prog all sz (⟨dd,op,ty,pos,af,none⟩::l) n env h K) (hj:((all[j]?).bind (·.dst))=some g:=by exact rfl) (hb:lk env g=some (.bool b):=by exact rfl) (he:b=want:=by assumption) :
  RegS Try.prog all sz (⟨dd,op,ty,pos,af,some (j,want)⟩::l) n env h K:=rq hj hb he h1
theorem rP (h1:RegS Try.prog all sz (⟨dd,op,ty,pos,af,none⟩::l) n env h K) (hj:((all[j]?).bind (·.dst))=some g:=by exact rfl) (hb:lk env g=some (.bool b):=by exact rfl) (he:b=want:=by exact rfl) :
  RegS Try.prog all sz (⟨dd,op,ty,pos,af,some (j,want)⟩::l) n env h K:=rq hj hb he h1
theorem rS (h1:RegS Try.prog all sz l (n+8) env' h K) (hj:((all[j]?).bind (·.dst))=some g:=by exact rfl) (hb:lk env g=some (.bool b):=by exact rfl) (he:b = !want:=by assumption) (hd:ez dd sz=true:=by exact rfl) (he':putE dd none env=env':=by exact rfl) :
  RegS Try.prog all sz (⟨dd,op,ty,pos,af,some (j,want)⟩::l) n env h K:=lV hj hb he hd he' h1
theorem rT (h1:RegS Try.prog all sz l (n+8) env' h K) (hj:((all[j]?).bind (·.dst))=some g:=by exact rfl) (hb:lk env g=some (.bool b):=by exact rfl) (he:b = !want:=by exact rfl) (hd:ez dd sz=true:=by exact rfl) (he':putE dd none env=env':=by exact rfl) :
  RegS Try.prog all sz (⟨dd,op,ty,pos,af,some (j,want)⟩::l) n env h K:=lV hj hb he hd he' h1
theorem rU (h1:RegS Try.prog all sz l (n+8) env' h K) (hj:((all[j]?).bind (·.dst))=some g:=by exact rfl) (hb:lk env g=some .undef:=by exact rfl) (hd:ez dd sz=true:=by exact rfl) (he':putE dd none env=env':=by exact rfl) :
  RegS Try.prog all sz (⟨dd,op,ty,pos,af,some (j,want)⟩::l) n env h K:=qd hj hb hd he' h1
end
section
variable {t t' e s m : Nat} {x z i : Operand}
theorem iA {re:TyR} {α:Type} {enc:α→D} {xs:List α} {k:IntKind} {m:Int} {el:α} (hx:ai env x=some (.d (.arr s enc xs)):=by exact rfl) (hi:ai env i=some (.int k m):=by exact rfl) (ht:bh tab t=some (.slice e):=by exact rfl) (he:lk tab e=some re:=by exact rfl) (hs:Nat.beq re.size s=true:=by exact rfl)
  (h0:0≤m:=by omega) (hel:xs[m.toNat]?=some el:=by assumption):ab Try.prog (.indexAddr t x i) env h n (some (.iptr (enc el))) []:=bK aa ht he hs hx hi h0 hel
theorem iL {y:D} (hx:ai env x=some (.iptr y):=by exact rfl) (hs:bz tab t (.d y)=true:=by exact rfl):ab Try.prog (.load t x) env h n (some (.d y)) []:=o7 aa hx hs
theorem iB {r:Nat} {p:List Step} {ty:TypeId} {a v:AV} (hx:ai env x=some (.ptr r p):=by exact rfl) (hr:aQ h r=some (.box ty a):=by exact rfl) (hv:ASub a p v:=by exact⟨_,rfl,rfl⟩) (hs:bz tab t v=true:=by exact rfl):ab Try.prog (.load t x) env h n (some v) []:=ay aa hx hr hv hs
theorem iM {r:Nat} {p:List Step} {ty:TypeId} {a v:AV} (hx:ai env x=some (.ptr r p):=by exact rfl) (hr:aQ h r=some (.box ty a):=by exact rfl) (hv:ASub a p v:=by exact rfl) (hs:bz tab t v=true:=by exact rfl):ab Try.prog (.load t x) env h n (some v) []:=ay aa hx hr hv hs
theorem iE {α:Type} {enc:α→D} {xs:List α} (hx:ai env x=some (.d (.arr s enc xs)):=by exact rfl) (ht:bh tab t=some (.slice e):=by exact rfl) :
  ab Try.prog (.call { callee :=.builtin .len,args := #[x],argTypes := #[t] }) env h n (some (.int .i64 xs.length)) []:=n5 aa hx ht
theorem iF {c x y:Operand} {b:Bool} {v:AV} (hc:ai env c=some (.bool b):=by exact rfl) (hb:b=false:=by assumption) (hv:ai env y=some v:=by exact rfl):ab Try.prog (.pick c x y) env h n (some v) []:=jc aa hc hb hv
theorem iG {c x y:Operand} {b:Bool} {v:AV} (hc:ai env c=some (.bool b):=by exact rfl) (hb:b=false:=by exact rfl) (hv:ai env y=some v:=by exact rfl):ab Try.prog (.pick c x y) env h n (some v) []:=jc aa hc hb hv
theorem iT {c x y:Operand} {b:Bool} {v:AV} (hc:ai env c=some (.bool b):=by exact rfl) (hb:b=true:=by assumption) (hv:ai env x=some v:=by exact rfl):ab Try.prog (.pick c x y) env h n (some v) []:=jb aa hc hb hv
theorem iU {c x y:Operand} {b:Bool} {v:AV} (hc:ai env c=some (.bool b):=by exact rfl) (hb:b=true:=by exact rfl) (hv:ai env x=some v:=by exact rfl):ab Try.prog (.pick c x y) env h n (some v) []:=jb aa hc hb hv
theorem iD {x y:Operand} {t t':TypeId} {a b:Int} (hx:ai env x=some (.int .i64 a):=by exact rfl) (hy:ai env y=some (.int .i64 b):=by exact rfl) (h0 : -9223372036854775808≤a+b:=by omega) (h1:a+b≤9223372036854775807:=by omega) :
  ab Try.prog (.binOp .add t x y t') env h n (some (.int .i64 (a+b))) []:=bM aa hx hy (aH h0 h1)
theorem iS {r:TyR} {offs:List (Nat×Nat)} {parts:Array (Nat×Operand)} {q:AV} (ht:lk tab t=some r:=by exact rfl) (hd:r.desc=.struct offs:=by exact rfl) (hq:j7 tab offs (ai env) parts.toList (.d r.zero)=some q:=by exact rfl) (hag:q.isAgg=true:=by exact rfl) :
  ab Try.prog (.build t parts) env h n (some q) []:=aK aa ht hd hq hag
theorem rW {y:Operand} {r:Nat} {p:List Step} {row row':Row} (h1:RegS Try.prog all sz l (n+8) env ((r,some row')::h) K) (hx:ai env x=some (.ptr r p):=by exact rfl) (hy:ai env y=some v:=by exact rfl) (hr:aQ h r=some row:=by exact rfl) (hv:RUpd row p v row':=by exact⟨_,⟨rfl,rfl,rfl⟩,rfl⟩) (hs:bz tab t v=true:=by exact rfl) :
  RegS Try.prog all sz (⟨none,.store t x y,ty,pos,af,none⟩::l) n env h K:=bH (aG aa hx hy hr hv hs) h1
theorem rX {y:Operand} {r:Nat} {p:List Step} {row row':Row} (h1:RegS Try.prog all sz l (n+8) env ((r,some row')::h) K) (hx:ai env x=some (.ptr r p):=by exact rfl) (hy:ai env y=some v:=by exact rfl) (hr:aQ h r=some row:=by exact rfl) (hv:RUpd row p v row':=by exact⟨_,⟨_,⟨_,⟨rfl,rfl,rfl⟩,rfl⟩,rfl⟩,rfl⟩) (hs:bz tab t v=true:=by exact rfl) :
  RegS Try.prog all sz (⟨none,.store t x y,ty,pos,af,none⟩::l) n env h K:=bH (aG aa hx hy hr hv hs) h1
end
section
variable {c : Operand} {x y : Code} {b : Bool}
theorem wT (h1:WC Try.prog sz x Q env h n) (hc:ai env c=some (.bool b):=by exact rfl) (hb:b=true:=by assumption):WC Try.prog sz (.cond c x y) Q env h n:=nM hc hb h1
theorem wV (h1:WC Try.prog sz x Q env h n) (hc:ai env c=some (.bool b):=by exact rfl) (hb:b=true:=by exact rfl):WC Try.prog sz (.cond c x y) Q env h n:=nM hc hb h1
theorem wF (h1:WC Try.prog sz y Q env h n) (hc:ai env c=some (.bool b):=by exact rfl) (hb:b=false:=by assumption):WC Try.prog sz (.cond c x y) Q env h n:=lL hc hb h1
theorem wG (h1:WC Try.prog sz y Q env h n) (hc:ai env c=some (.bool b):=by exact rfl) (hb:b=false:=by exact rfl):WC Try.prog sz (.cond c x y) Q env h n:=lL hc hb h1
end
section
variable {acc : List br}
theorem dC (ks rs:List Nat) (h1:RegD Try.prog all sz l (n+8) ((d,v)::env) h (⟨⟨some d,op,ty,pos,af,none⟩,ks,rs,some v,[]⟩::acc) K) (hd:Nat.blt d sz=true:=by exact rfl) (hop:∀K:Option AV→Upds→Prop,K (some v) []→opD tab op (ai (only ks env)) (aQ (only rs h)) n K:=by exact fun _ h=>h) :
  RegD Try.prog all sz (⟨some d,op,ty,pos,af,none⟩::l) n env h acc K:=vq ks rs hd (bD aa hop) h1
theorem dQ (ks rs:List Nat) (hs:ab Try.prog op (only ks env) (only rs h) n (some v) []) (h1:RegD Try.prog all sz l (n+8) ((d,v)::env) h (⟨⟨some d,op,ty,pos,af,none⟩,ks,rs,some v,[]⟩::acc) K) (hd:Nat.blt d sz=true:=by exact rfl) :
  RegD Try.prog all sz (⟨some d,op,ty,pos,af,none⟩::l) n env h acc K:=vq ks rs hd hs h1
end
end
section
variable {sz n : Nat} {env : Env} {h : Upds} {all l : List Oper} {Q : Exit → St → Prop} {st : St} {b x y c : Code} {id : Nat} {ops : Array Oper} {cc : Operand} {bb : Bool}
theorem zT (h1:Q .ret ⟨env,h,n,sz,64⟩):RegS Try.prog all sz [] n env h (RegK (SeqQ Try.prog .ret Q) sz):=nS (yn h1)
theorem zB (h1:Q .ret st):BlkQ id (SeqQ Try.prog b Q) .ret st:=h1
theorem zC (h1:WC Try.prog sz b Q env h n):BlkQ id (SeqQ Try.prog b Q) .normal ⟨env,h,n,sz,64⟩:=h1
theorem zW (h1:RegS Try.prog ops.toList sz ops.toList n env h (RegK (SeqQ Try.prog y (SeqQ Try.prog c Q)) sz)):RegS Try.prog all sz [] n env h (RegK (SeqQ Try.prog (.seq (.seq (.region id ops false) y) c) Q) sz):=nQ (sR h1)
theorem zS {i:Nat} (h1:RegS Try.prog ops.toList sz ops.toList n env h (RegK (SeqQ Try.prog y (BlkQ i Q)) sz)):WC Try.prog sz (.block i (.seq (.region id ops false) y)) Q env h n:=ow (sR h1)
theorem zP (h1:WC Try.prog sz c (BlkQ id Q) env h n):RegS Try.prog all sz [] n env h (RegK (SeqQ Try.prog (.block id c) Q) sz):=nS (ow h1)
theorem zG (h1:WC Try.prog sz y Q env h n) (hc:ai env cc=some (.bool bb):=by exact rfl) (hb:bb=false:=by assumption):RegS Try.prog all sz [] n env h (RegK (SeqQ Try.prog (.cond cc x y) Q) sz):=nS (wF h1 hc hb)
theorem zI (h1:WC Try.prog sz x Q env h n) (hc:ai env cc=some (.bool bb):=by exact rfl) (hb:bb=true:=by assumption):RegS Try.prog all sz [] n env h (RegK (SeqQ Try.prog (.cond cc x y) Q) sz):=nS (wT h1 hc hb)
theorem zJ (h1:WC Try.prog sz y Q env h n) (hc:ai env cc=some (.bool bb):=by exact rfl) (hb:bb=false:=by exact rfl):RegS Try.prog all sz [] n env h (RegK (SeqQ Try.prog (.cond cc x y) Q) sz):=nS (wG h1 hc hb)
theorem zO (h1:WC Try.prog sz x Q env h n) (hc:ai env cc=some (.bool bb):=by exact rfl) (hb:bb=true:=by exact rfl):RegS Try.prog all sz [] n env h (RegK (SeqQ Try.prog (.cond cc x y) Q) sz):=nS (wV h1 hc hb)
theorem zQ (h1:WC Try.prog sz x (SeqQ Try.prog y Q) env h n):WC Try.prog sz .skip (SeqQ Try.prog (.seq x y) Q) env h n:=kS (li h1)
theorem zX.{u} {α:Type u} {mk:α→St} {Inv:α→Prop} {μ:α→Nat} {a:α} (h1:WC Try.prog sz b Q env h n):WC Try.prog sz (.exit id) (SeqQ Try.prog y (LoopQ (BlkQ id (SeqQ Try.prog b Q)) mk Inv μ a)) env h n:=vL (CD (Aq (CS (vT h1))))
variable {K : Env → Upds → Nat → Prop} {d e f : Tmp} {op oq o3 : Op} {ty tz t3 : TypeId} {pos pot p3 : String} {af ag a3 : Array Edge} {v w u : AV}
theorem zD (h1:RegS Try.prog all sz l (n+8+8) ((e,w)::(d,v)::env) h K) (hd:Nat.blt d sz=true:=by exact rfl) (hop:∀K:Option AV→Upds→Prop,K (some v) []→opD tab op (ai env) (aQ h) n K:=by exact fun _ h=>h) (he:Nat.blt e sz=true:=by exact rfl) (hoq:∀K:Option AV→Upds→Prop,K (some w) []→opD tab oq (ai ((d,v)::env)) (aQ h) (n+8) K:=by exact fun _ h=>h) :
  RegS Try.prog all sz (⟨some d,op,ty,pos,af,none⟩::⟨some e,oq,tz,pot,ag,none⟩::l) n env h K:=rC (rC h1 he hoq) hd hop
theorem zU (h1:RegS Try.prog all sz l (n+8+8+8) ((f,u)::(e,w)::(d,v)::env) h K) (hd:Nat.blt d sz=true:=by exact rfl) (hop:∀K:Option AV→Upds→Prop,K (some v) []→opD tab op (ai env) (aQ h) n K:=by exact fun _ h=>h) (he:Nat.blt e sz=true:=by exact rfl) (hoq:∀K:Option AV→Upds→Prop,K (some w) []→opD tab oq (ai ((d,v)::env)) (aQ h) (n+8) K:=by exact fun _ h=>h) (hf:Nat.blt f sz=true:=by exact rfl) (ho3:∀K:Option AV→Upds→Prop,K (some u) []→opD tab o3 (ai ((e,w)::(d,v)::env)) (aQ h) (n+8+8) K:=by exact fun _ h=>h) :
  RegS Try.prog all sz (⟨some d,op,ty,pos,af,none⟩::⟨some e,oq,tz,pot,ag,none⟩::⟨some f,o3,t3,p3,a3,none⟩::l) n env h K:=rC (zD h1 he hoq hf ho3) hd hop
end
section
variable {sz n : Nat} {env : Env} {h : Upds} {all l : List Oper} {K : Env → Upds → Nat → Prop} {d : Tmp} {op : Op} {ty : TypeId} {pos : String} {af : Array Edge} {v : AV} {acc : List br} {j g : Nat} {want b : Bool}
theorem yK {f:Operand} {args:Array Operand} {ts:Array TypeId} {g:FuncId} {bs9 avs:List AV} {res:AV} (hfn:FnIs Try.prog g avs [] res []) (hf:ai env f=some (.fn (.func g) .anil .anil):=by exact rfl) (hl:evL (ai env) args.toList=some bs9:=by exact rfl) (ha:bU (aQ h) (rho []) bs9 avs:=by first | exact aE au | exact aE (aE au) | exact au | exact aE (aE (aE au)) | exact aE (aE (aE (aE au))) | exact aE (aE (aE (aE (aE au)))) | exact aE (aE (aE (aE (aE (aE au)))))) (hm:bY bs9 avs=true∨cr res []:=by exact .inl rfl) (hr:∀ρ,res.ren ρ=res:=by exact fun _=>rfl) :
  ab Try.prog (.call { callee :=.value f,args:=args,argTypes:=ts }) env h n (some res) []:=ii hfn hf hl ha hm hr
theorem yW {f:Operand} {args:Array Operand} {ts:Array TypeId} {g:FuncId} {bs9 avs:List AV} {res:AV} (hf:ai env f=some (.fn (.func g) .anil .anil):=by exact rfl) (hl:evL (ai env) args.toList=some bs9:=by exact rfl) (ha:bU (aQ h) (rho []) bs9 avs:=by first | exact aE au | exact aE (aE au) | exact au | exact aE (aE (aE au)) | exact aE (aE (aE (aE au))) | exact aE (aE (aE (aE (aE au)))) | exact aE (aE (aE (aE (aE (aE au)))))) (hfn:FnIs Try.prog g avs [] res []:=by assumption) (hm:bY bs9 avs=true∨cr res []:=by exact .inl rfl) (hr:∀ρ,res.ren ρ=res:=by exact fun _=>rfl) :
  ab Try.prog (.call { callee :=.value f,args:=args,argTypes:=ts }) env h n (some res) []:=ii hfn hf hl ha hm hr
theorem yI {t e:TypeId} {x i:Operand} {re:TyR} {α:Type} {s:Nat} {enc:α→D} {xs:List α} {k:IntKind} {m:Int} {el:α} (hel:xs[m.toNat]?=some el) (ht:bh tab t=some (.slice e):=by exact rfl) (he:lk tab e=some re:=by exact rfl) (hx:ai env x=some (.d (.arr s enc xs)):=by exact rfl) (hs:Nat.beq re.size s=true:=by exact rfl) (hi:ai env i=some (.int k m):=by exact rfl) (h0:0≤m:=by omega):ab Try.prog (.indexAddr t x i) env h n (some (.iptr (enc el))) []:=bK aa ht he hs hx hi h0 hel
theorem yX {t e:TypeId} {x i:Operand} {re:TyR} {α:Type} {s:Nat} {enc:α→D} {xs:List α} {k:IntKind} {m:Int} {el:α} (hel:xs[m.toNat]?=some el) (ht:bh tab t=some (.slice e):=by exact rfl) (he:lk tab e=some re:=by exact rfl) (hx:ai env x=some (.d (.arx s enc xs)):=by exact rfl) (hs:Nat.beq re.size s=true:=by exact rfl) (hi:ai env i=some (.int k m):=by exact rfl) (h0:0≤m:=by omega):ab Try.prog (.indexAddr t x i) env h n (some (.iptr (enc el))) []:=mR aa ht he hs hx hi h0 hel
theorem yJ {t e:TypeId} {x i:Operand} {re:TyR} {α:Type} {s:Nat} {enc:α→D} {xs:List α} {k:IntKind} {m:Int} {el:α} (ht:bh tab t=some (.slice e):=by exact rfl) (he:lk tab e=some re:=by exact rfl) (hx:ai env x=some (.d (.arr s enc xs)):=by exact rfl) (hs:Nat.beq re.size s=true:=by exact rfl) (hi:ai env i=some (.int k m):=by exact rfl) (h0:0≤m:=by omega) (hel:xs[m.toNat]?=some el:=by assumption):ab Try.prog (.indexAddr t x i) env h n (some (.iptr (enc el))) []:=bK aa ht he hs hx hi h0 hel
theorem yY {t e:TypeId} {x i:Operand} {re:TyR} {α:Type} {s:Nat} {enc:α→D} {xs:List α} {k:IntKind} {m:Int} {el:α} (ht:bh tab t=some (.slice e):=by exact rfl) (he:lk tab e=some re:=by exact rfl) (hx:ai env x=some (.d (.arx s enc xs)):=by exact rfl) (hs:Nat.beq re.size s=true:=by exact rfl) (hi:ai env i=some (.int k m):=by exact rfl) (h0:0≤m:=by omega) (hel:xs[m.toNat]?=some el:=by assumption):ab Try.prog (.indexAddr t x i) env h n (some (.iptr (enc el))) []:=mR aa ht he hs hx hi h0 hel
theorem yR {t:TypeId} {x:Operand} {r:Nat} {p:List Step} {row:Row} {v:AV} (hx:ai env x=some (.ptr r p):=by exact rfl) (hr:aQ h r=some row:=by exact rfl) (hv:RSub row p v:=by exact⟨rfl,_,by assumption,_,rfl,rfl⟩) (hs:bz tab t v=true:=by exact rfl):ab Try.prog (.load t x) env h n (some v) []:=aX aa hx hr hv hs
theorem yA (hs:ab Try.prog op (only (fu all ⟨some d,op,ty,pos,af,none⟩) env) (only .nil h) n (some v) []) (h1:RegD Try.prog all sz l (n+8) ((d,v)::env) h (⟨⟨some d,op,ty,pos,af,none⟩,fu all ⟨some d,op,ty,pos,af,none⟩,.nil,some v,[]⟩::acc) K) (hd:Nat.blt d sz=true:=by exact rfl):RegD Try.prog all sz (⟨some d,op,ty,pos,af,none⟩::l) n env h acc K:=vq _ .nil hd hs h1
theorem yO (hs:ab Try.prog op (only (fu all ⟨some d,op,ty,pos,af,some (j,want)⟩) env) (only .nil h) n (some v) []) (h1:RegD Try.prog all sz l (n+8) ((d,v)::env) h (⟨⟨some d,op,ty,pos,af,some (j,want)⟩,fu all ⟨some d,op,ty,pos,af,some (j,want)⟩,.nil,some v,[]⟩::acc) K) (hj:((all[j]?).bind (·.dst))=some g:=by exact rfl) (hb:lk (only (fu all ⟨some d,op,ty,pos,af,some (j,want)⟩) env) g=some (.bool b):=by exact rfl) (hw:b=want:=by first | exact rfl | assumption) (hd:Nat.blt d sz=true:=by exact rfl):RegD Try.prog all sz (⟨some d,op,ty,pos,af,some (j,want)⟩::l) n env h acc K:=aD _ .nil hj hb hw hd hs h1
theorem yF (h1:RegD Try.prog all sz l (n+8) ((d,.undef)::env) h (⟨⟨some d,op,ty,pos,af,some (j,want)⟩,fu all ⟨some d,op,ty,pos,af,some (j,want)⟩,.nil,none,[]⟩::acc) K) (hj:((all[j]?).bind (·.dst))=some g:=by exact rfl) (hb:lk (only (fu all ⟨some d,op,ty,pos,af,some (j,want)⟩) env) g=some (.bool b):=by exact rfl) (hw:b = !want:=by first | exact rfl | assumption) (hd:Nat.blt d sz=true:=by exact rfl):RegD Try.prog all sz (⟨some d,op,ty,pos,af,some (j,want)⟩::l) n env h acc K:=x9 _ hj hb hw hd h1
theorem yG (h1:RegD Try.prog all sz l (n+8) ((d,.undef)::env) h (⟨⟨some d,op,ty,pos,af,some (j,want)⟩,fu all ⟨some d,op,ty,pos,af,some (j,want)⟩,.nil,none,[]⟩::acc) K) (hj:((all[j]?).bind (·.dst))=some g:=by exact rfl) (hb:lk (only (fu all ⟨some d,op,ty,pos,af,some (j,want)⟩) env) g=some .undef:=by exact rfl) (hd:Nat.blt d sz=true:=by exact rfl):RegD Try.prog all sz (⟨some d,op,ty,pos,af,some (j,want)⟩::l) n env h acc K:=vr _ hj hb hd h1
end
section
variable {sz n : Nat} {env : Env} {h : Upds} {all l : List Oper} {acc : List br} {K : Env → Upds → Nat → Prop} {dd : Option Tmp} {op : Op} {ty : TypeId} {pos : String} {af : Array Edge} {Q : Exit → St → Prop} {c : Code} {g : Nat × Bool} {t : TypeId} {x y w : Operand} {cc : Call}
theorem y1 (p:WC Try.prog sz c Q env h n):WC Try.prog sz c Q env h n:=p
theorem y2 (p:RegS Try.prog all sz (⟨dd,op,ty,pos,af,none⟩::l) n env h K):RegS Try.prog all sz (⟨dd,op,ty,pos,af,none⟩::l) n env h K:=p
theorem y3 (p:RegS Try.prog all sz (⟨dd,op,ty,pos,af,some g⟩::l) n env h K):RegS Try.prog all sz (⟨dd,op,ty,pos,af,some g⟩::l) n env h K:=p
theorem y4 (p:RegS Try.prog all sz (⟨dd,.load t x,ty,pos,af,none⟩::l) n env h K):RegS Try.prog all sz (⟨dd,.load t x,ty,pos,af,none⟩::l) n env h K:=p
theorem y5 (p:RegS Try.prog all sz (⟨dd,.pick x y w,ty,pos,af,none⟩::l) n env h K):RegS Try.prog all sz (⟨dd,.pick x y w,ty,pos,af,none⟩::l) n env h K:=p
theorem y6 (p:RegS Try.prog all sz (⟨dd,.indexAddr t x y,ty,pos,af,none⟩::l) n env h K):RegS Try.prog all sz (⟨dd,.indexAddr t x y,ty,pos,af,none⟩::l) n env h K:=p
theorem y7 (p:RegS Try.prog all sz (⟨dd,.call cc,ty,pos,af,none⟩::l) n env h K):RegS Try.prog all sz (⟨dd,.call cc,ty,pos,af,none⟩::l) n env h K:=p
theorem y8 (p:RegS Try.prog all sz (⟨dd,.store t x y,ty,pos,af,none⟩::l) n env h K):RegS Try.prog all sz (⟨dd,.store t x y,ty,pos,af,none⟩::l) n env h K:=p
theorem y9 (p:RegD Try.prog all sz (⟨dd,op,ty,pos,af,none⟩::l) n env h acc K):RegD Try.prog all sz (⟨dd,op,ty,pos,af,none⟩::l) n env h acc K:=p
theorem y10 (p:RegD Try.prog all sz (⟨dd,op,ty,pos,af,some g⟩::l) n env h acc K):RegD Try.prog all sz (⟨dd,op,ty,pos,af,some g⟩::l) n env h acc K:=p
theorem y11 (p:RegD Try.prog all sz (⟨dd,.load t x,ty,pos,af,none⟩::l) n env h acc K):RegD Try.prog all sz (⟨dd,.load t x,ty,pos,af,none⟩::l) n env h acc K:=p
theorem y15 (p:RegD Try.prog all sz (⟨dd,.load t x,ty,pos,af,some g⟩::l) n env h acc K):RegD Try.prog all sz (⟨dd,.load t x,ty,pos,af,some g⟩::l) n env h acc K:=p
theorem y12 (p:RegD Try.prog all sz (⟨dd,.pick x y w,ty,pos,af,none⟩::l) n env h acc K):RegD Try.prog all sz (⟨dd,.pick x y w,ty,pos,af,none⟩::l) n env h acc K:=p
theorem y16 (p:RegD Try.prog all sz (⟨dd,.pick x y w,ty,pos,af,some g⟩::l) n env h acc K):RegD Try.prog all sz (⟨dd,.pick x y w,ty,pos,af,some g⟩::l) n env h acc K:=p
theorem y13 (p:RegD Try.prog all sz (⟨dd,.indexAddr t x y,ty,pos,af,none⟩::l) n env h acc K):RegD Try.prog all sz (⟨dd,.indexAddr t x y,ty,pos,af,none⟩::l) n env h acc K:=p
theorem y17 (p:RegD Try.prog all sz (⟨dd,.indexAddr t x y,ty,pos,af,some g⟩::l) n env h acc K):RegD Try.prog all sz (⟨dd,.indexAddr t x y,ty,pos,af,some g⟩::l) n env h acc K:=p
theorem y14 (p:RegD Try.prog all sz (⟨dd,.call cc,ty,pos,af,none⟩::l) n env h acc K):RegD Try.prog all sz (⟨dd,.call cc,ty,pos,af,none⟩::l) n env h acc K:=p
theorem y18 (p:RegD Try.prog all sz (⟨dd,.call cc,ty,pos,af,some g⟩::l) n env h acc K):RegD Try.prog all sz (⟨dd,.call cc,ty,pos,af,some g⟩::l) n env h acc K:=p
end
theorem z1 {G H:Prop} (k:H) (h:(True→H)→G:=by intro k0; (first | (apply y2; first | (apply y4; first | refine bJ rfl (ay aa rfl rfl ⟨_,rfl,rfl⟩ rfl) ?_ | refine bJ rfl (ay aa rfl rfl rfl rfl) ?_ | refine bJ rfl (o7 aa rfl rfl) ?_ | refine bJ rfl yR ?_) | (apply y5; first | refine bJ rfl (jb aa rfl rfl rfl) ?_ | refine bJ rfl (jc aa rfl rfl rfl) ?_ | refine bJ rfl (jb aa rfl (by assumption) rfl) ?_ | refine bJ rfl (jc aa rfl (by assumption) rfl) ?_) | (apply y6; first | refine bJ rfl (bg aa rfl rfl rfl rfl rfl (by omega) (by omega)) ?_ | refine bJ rfl yJ ?_ | refine bJ rfl yY ?_ | refine bJ rfl (bD aa (fun K hk=>⟨by omega,by omega,hk⟩)) ?_) | (apply y7; first | refine bJ rfl yW ?_ | refine bJ rfl (n5 aa rfl rfl) ?_ | refine bJ rfl (ee aa rfl rfl) ?_ | refine bJ rfl (rJ aa rfl rfl) ?_) | refine bJ rfl (bD aa (fun K hk=>hk)) ?_ | refine bJ rfl (bM aa rfl rfl (aH (by omega) (by omega))) ?_ | refine bJ rfl (cm aa rfl rfl (aH (by omega) (by omega))) ?_ | refine bJ rfl (aK aa rfl rfl rfl rfl) ?_ | (apply y8; first | refine bH (aG aa rfl rfl rfl ⟨_,⟨rfl,rfl,rfl⟩,rfl⟩ rfl) ?_) | refine aO (bD aa (fun K hk=>hk)) rfl ?_) | (apply y1; first | apply li | apply pX | apply vK | apply yn | apply ow | apply vL | refine nM rfl rfl ?_ | refine lL rfl rfl ?_ | refine nM rfl (by assumption) ?_ | refine lL rfl (by assumption) ?_ | refine Bt (by kernel_rfl) ?_) | (apply y3; first | refine rq rfl rfl rfl ?_ | refine lV rfl rfl rfl rfl rfl ?_ | refine qd rfl rfl rfl rfl ?_ | refine rq rfl rfl (by assumption) ?_ | refine lV rfl rfl (by assumption) rfl rfl ?_) | (apply y9; first | (apply y11; first | refine yA (ay aa rfl rfl ⟨_,rfl,rfl⟩ rfl) ?_ | refine yA (ay aa rfl rfl rfl rfl) ?_ | refine yA (o7 aa rfl rfl) ?_ | refine yA yR ?_) | (apply y12; first | refine yA (jb aa rfl rfl rfl) ?_ | refine yA (jc aa rfl rfl rfl) ?_ | refine yA (jb aa rfl (by assumption) rfl) ?_ | refine yA (jc aa rfl (by assumption) rfl) ?_) | (apply y13; first | refine yA (bg aa rfl rfl rfl rfl rfl (by omega) (by omega)) ?_ | refine yA yJ ?_ | refine yA yY ?_ | refine yA (bD aa (fun K hk=>⟨by omega,by omega,hk⟩)) ?_) | (apply y14; first | refine yA yW ?_ | refine yA (n5 aa rfl rfl) ?_ | refine yA (ee aa rfl rfl) ?_ | refine yA (rJ aa rfl rfl) ?_) | refine yA (bD aa (fun K hk=>hk)) ?_ | refine yA (bM aa rfl rfl (aH (by omega) (by omega))) ?_ | refine yA (cm aa rfl rfl (aH (by omega) (by omega))) ?_ | refine yA (aK aa rfl rfl rfl rfl) ?_) | (apply y10; first | refine yF ?_ | refine yG ?_ | (apply y15; first | refine yO (ay aa rfl rfl ⟨_,rfl,rfl⟩ rfl) ?_ | refine yO (ay aa rfl rfl rfl rfl) ?_ | refine yO (o7 aa rfl rfl) ?_ | refine yO yR ?_) | (apply y16; first | refine yO (jb aa rfl rfl rfl) ?_ | refine yO (jc aa rfl rfl rfl) ?_ | refine yO (jb aa rfl (by assumption) rfl) ?_ | refine yO (jc aa rfl (by assumption) rfl) ?_) | (apply y17; first | refine yO (bg aa rfl rfl rfl rfl rfl (by omega) (by omega)) ?_ | refine yO yJ ?_ | refine yO yY ?_ | refine yO (bD aa (fun K hk=>⟨by omega,by omega,hk⟩)) ?_) | (apply y18; first | refine yO yW ?_ | refine yO (n5 aa rfl rfl) ?_ | refine yO (ee aa rfl rfl) ?_ | refine yO (rJ aa rfl rfl) ?_) | refine yO (bD aa (fun K hk=>hk)) ?_ | refine yO (bM aa rfl rfl (aH (by omega) (by omega))) ?_ | refine yO (cm aa rfl rfl (aH (by omega) (by omega))) ?_ | refine yO (aK aa rfl rfl rfl rfl) ?_) | apply vT | apply vY | apply E8 | apply CD | apply Fu | apply Ft | apply CS | apply Dd | apply Aq | refine A1 (by kernel_rfl) ?_); exact k0 trivial):G:=h fun _=>k
theorem z2 {G H:Prop} (k:H) (h:(True→H)→G:=by intro k0; (iterate 2 refine z1 ?_); exact k0 trivial):G:=h fun _=>k
theorem z3 {G H:Prop} (k:H) (h:(True→H)→G:=by intro k0; (iterate 3 refine z1 ?_); exact k0 trivial):G:=h fun _=>k
theorem z4 {G H:Prop} (k:H) (h:(True→H)→G:=by intro k0; (iterate 4 refine z1 ?_); exact k0 trivial):G:=h fun _=>k
theorem z5 {G H:Prop} (k:H) (h:(True→H)→G:=by intro k0; (iterate 5 refine z1 ?_); exact k0 trivial):G:=h fun _=>k
theorem z6 {G H:Prop} (k:H) (h:(True→H)→G:=by intro k0; (iterate 6 refine z1 ?_); exact k0 trivial):G:=h fun _=>k
theorem z7 {G H:Prop} (k:H) (h:(True→H)→G:=by intro k0; (iterate 7 refine z1 ?_); exact k0 trivial):G:=h fun _=>k
theorem z8 {G H:Prop} (k:H) (h:(True→H)→G:=by intro k0; (iterate 8 refine z1 ?_); exact k0 trivial):G:=h fun _=>k
theorem z9 {G H:Prop} (k:H) (h:(True→H)→G:=by intro k0; (iterate 9 refine z1 ?_); exact k0 trivial):G:=h fun _=>k
theorem z10 {G H:Prop} (k:H) (h:(True→H)→G:=by intro k0; (iterate 10 refine z1 ?_); exact k0 trivial):G:=h fun _=>k
theorem z11 {G H:Prop} (k:H) (h:(True→H)→G:=by intro k0; (iterate 11 refine z1 ?_); exact k0 trivial):G:=h fun _=>k
theorem z12 {G H:Prop} (k:H) (h:(True→H)→G:=by intro k0; (iterate 12 refine z1 ?_); exact k0 trivial):G:=h fun _=>k
theorem z13 {G H:Prop} (k:H) (h:(True→H)→G:=by intro k0; (iterate 13 refine z1 ?_); exact k0 trivial):G:=h fun _=>k
theorem z14 {G H:Prop} (k:H) (h:(True→H)→G:=by intro k0; (iterate 14 refine z1 ?_); exact k0 trivial):G:=h fun _=>k
theorem z15 {G H:Prop} (k:H) (h:(True→H)→G:=by intro k0; (iterate 15 refine z1 ?_); exact k0 trivial):G:=h fun _=>k
theorem z16 {G H:Prop} (k:H) (h:(True→H)→G:=by intro k0; (iterate 16 refine z1 ?_); exact k0 trivial):G:=h fun _=>k
theorem z17 {G H:Prop} (k:H) (h:(True→H)→G:=by intro k0; (iterate 17 refine z1 ?_); exact k0 trivial):G:=h fun _=>k
theorem z18 {G H:Prop} (k:H) (h:(True→H)→G:=by intro k0; (iterate 18 refine z1 ?_); exact k0 trivial):G:=h fun _=>k
theorem z19 {G H:Prop} (k:H) (h:(True→H)→G:=by intro k0; (iterate 19 refine z1 ?_); exact k0 trivial):G:=h fun _=>k
theorem z20 {G H:Prop} (k:H) (h:(True→H)→G:=by intro k0; (iterate 20 refine z1 ?_); exact k0 trivial):G:=h fun _=>k
theorem z21 {G H:Prop} (k:H) (h:(True→H)→G:=by intro k0; (iterate 21 refine z1 ?_); exact k0 trivial):G:=h fun _=>k
theorem z22 {G H:Prop} (k:H) (h:(True→H)→G:=by intro k0; (iterate 22 refine z1 ?_); exact k0 trivial):G:=h fun _=>k
theorem z23 {G H:Prop} (k:H) (h:(True→H)→G:=by intro k0; (iterate 23 refine z1 ?_); exact k0 trivial):G:=h fun _=>k
theorem z24 {G H:Prop} (k:H) (h:(True→H)→G:=by intro k0; (iterate 24 refine z1 ?_); exact k0 trivial):G:=h fun _=>k
theorem z25 {G H:Prop} (k:H) (h:(True→H)→G:=by intro k0; (iterate 25 refine z1 ?_); exact k0 trivial):G:=h fun _=>k
theorem z26 {G H:Prop} (k:H) (h:(True→H)→G:=by intro k0; (iterate 26 refine z1 ?_); exact k0 trivial):G:=h fun _=>k
theorem z27 {G H:Prop} (k:H) (h:(True→H)→G:=by intro k0; (iterate 27 refine z1 ?_); exact k0 trivial):G:=h fun _=>k
theorem z28 {G H:Prop} (k:H) (h:(True→H)→G:=by intro k0; (iterate 28 refine z1 ?_); exact k0 trivial):G:=h fun _=>k
theorem z29 {G H:Prop} (k:H) (h:(True→H)→G:=by intro k0; (iterate 29 refine z1 ?_); exact k0 trivial):G:=h fun _=>k
theorem z30 {G H:Prop} (k:H) (h:(True→H)→G:=by intro k0; (iterate 30 refine z1 ?_); exact k0 trivial):G:=h fun _=>k
theorem z31 {G H:Prop} (k:H) (h:(True→H)→G:=by intro k0; (iterate 31 refine z1 ?_); exact k0 trivial):G:=h fun _=>k
theorem z32 {G H:Prop} (k:H) (h:(True→H)→G:=by intro k0; (iterate 32 refine z1 ?_); exact k0 trivial):G:=h fun _=>k
theorem z33 {G H:Prop} (k:H) (h:(True→H)→G:=by intro k0; (iterate 33 refine z1 ?_); exact k0 trivial):G:=h fun _=>k
theorem z34 {G H:Prop} (k:H) (h:(True→H)→G:=by intro k0; (iterate 34 refine z1 ?_); exact k0 trivial):G:=h fun _=>k
theorem z35 {G H:Prop} (k:H) (h:(True→H)→G:=by intro k0; (iterate 35 refine z1 ?_); exact k0 trivial):G:=h fun _=>k
theorem z36 {G H:Prop} (k:H) (h:(True→H)→G:=by intro k0; (iterate 36 refine z1 ?_); exact k0 trivial):G:=h fun _=>k
theorem z37 {G H:Prop} (k:H) (h:(True→H)→G:=by intro k0; (iterate 37 refine z1 ?_); exact k0 trivial):G:=h fun _=>k
theorem z38 {G H:Prop} (k:H) (h:(True→H)→G:=by intro k0; (iterate 38 refine z1 ?_); exact k0 trivial):G:=h fun _=>k
theorem z39 {G H:Prop} (k:H) (h:(True→H)→G:=by intro k0; (iterate 39 refine z1 ?_); exact k0 trivial):G:=h fun _=>k
theorem z40 {G H:Prop} (k:H) (h:(True→H)→G:=by intro k0; (iterate 40 refine z1 ?_); exact k0 trivial):G:=h fun _=>k
theorem z41 {G H:Prop} (k:H) (h:(True→H)→G:=by intro k0; (iterate 41 refine z1 ?_); exact k0 trivial):G:=h fun _=>k
theorem z42 {G H:Prop} (k:H) (h:(True→H)→G:=by intro k0; (iterate 42 refine z1 ?_); exact k0 trivial):G:=h fun _=>k
theorem z43 {G H:Prop} (k:H) (h:(True→H)→G:=by intro k0; (iterate 43 refine z1 ?_); exact k0 trivial):G:=h fun _=>k
theorem z44 {G H:Prop} (k:H) (h:(True→H)→G:=by intro k0; (iterate 44 refine z1 ?_); exact k0 trivial):G:=h fun _=>k
theorem z45 {G H:Prop} (k:H) (h:(True→H)→G:=by intro k0; (iterate 45 refine z1 ?_); exact k0 trivial):G:=h fun _=>k
theorem z46 {G H:Prop} (k:H) (h:(True→H)→G:=by intro k0; (iterate 46 refine z1 ?_); exact k0 trivial):G:=h fun _=>k
theorem z47 {G H:Prop} (k:H) (h:(True→H)→G:=by intro k0; (iterate 47 refine z1 ?_); exact k0 trivial):G:=h fun _=>k
theorem z48 {G H:Prop} (k:H) (h:(True→H)→G:=by intro k0; (iterate 48 refine z1 ?_); exact k0 trivial):G:=h fun _=>k
theorem z49 {G H:Prop} (k:H) (h:(True→H)→G:=by intro k0; (iterate 49 refine z1 ?_); exact k0 trivial):G:=h fun _=>k
theorem z50 {G H:Prop} (k:H) (h:(True→H)→G:=by intro k0; (iterate 50 refine z1 ?_); exact k0 trivial):G:=h fun _=>k
theorem z51 {G H:Prop} (k:H) (h:(True→H)→G:=by intro k0; (iterate 51 refine z1 ?_); exact k0 trivial):G:=h fun _=>k
theorem z52 {G H:Prop} (k:H) (h:(True→H)→G:=by intro k0; (iterate 52 refine z1 ?_); exact k0 trivial):G:=h fun _=>k
theorem z54 {G H:Prop} (k:H) (h:(True→H)→G:=by intro k0; (iterate 54 refine z1 ?_); exact k0 trivial):G:=h fun _=>k
theorem z55 {G H:Prop} (k:H) (h:(True→H)→G:=by intro k0; (iterate 55 refine z1 ?_); exact k0 trivial):G:=h fun _=>k
theorem z56 {G H:Prop} (k:H) (h:(True→H)→G:=by intro k0; (iterate 56 refine z1 ?_); exact k0 trivial):G:=h fun _=>k
theorem z57 {G H:Prop} (k:H) (h:(True→H)→G:=by intro k0; (iterate 57 refine z1 ?_); exact k0 trivial):G:=h fun _=>k
theorem z58 {G H:Prop} (k:H) (h:(True→H)→G:=by intro k0; (iterate 58 refine z1 ?_); exact k0 trivial):G:=h fun _=>k
theorem z59 {G H:Prop} (k:H) (h:(True→H)→G:=by intro k0; (iterate 59 refine z1 ?_); exact k0 trivial):G:=h fun _=>k
theorem z60 {G H:Prop} (k:H) (h:(True→H)→G:=by intro k0; (iterate 60 refine z1 ?_); exact k0 trivial):G:=h fun _=>k
end Go.Proofs.Ytmdgmolbamlicaa
namespace Go.Proofs.Ytmdgmolbamlicaa
open Go.Eng Go.Plain
set_option maxHeartbeats 32000000
set_option maxRecDepth 20000
abbrev bo (b:Bool):D :=.sc (.bool b)
abbrev i6 (n:Int):D :=.sc (.int .i64 n)
abbrev u8s (n:Int):D :=.sc (.int .u8 n)
abbrev encB (l:List UInt8):D :=.arr 1 cN (byI l)
theorem fO (l:List UInt8):(byI l).length=l.length:=by simp[byI]
theorem wP {l:List UInt8} {j:Nat} {b:UInt8} (h:l[j]?=some b):(byI l)[j]?=some (b.toNat:Int):=by simp[byI,h]
def ce (o:POp):D :=.cons (u8s o.kind) (.cons (i6 o.index) (.cons (encB o.data) .nil))
abbrev encP (p:List POp):D :=.arr 3 ce p
abbrev Fj (l:List (List POp)):D :=.arr 1 encP l
def idxF {α:Type} (p:α→Bool) (l:List α):Int:=match l.findIdx? p with
 | some i=>i
 | none => -1
theorem xP {α:Type} {p:α→Bool} {l:List α} {i:Nat} {x:α} (hx:l[i]?=some x) (hp:p x=true) (hn:∀j,j<i→∀y,l[j]?=some y→p y=false):idxF p l=i:=by
 have:l.findIdx? p=some i:=by
  rw[List.findIdx?_eq_some_iff_getElem]
  obtain⟨h1,h2⟩:=List.getElem?_eq_some_iff.1 hx
  refine⟨h1,by rw[h2]; exact hp,fun j hj=>?_⟩
  have:=hn j hj _ (List.getElem?_eq_getElem (by omega))
  simp[this]
 simp[idxF,this]
theorem xQ {α:Type} {p:α→Bool} {l:List α} (hn:∀(j:Nat) (y:α),l[j]?=some y→p y=false):idxF p l = -1:=by
 have:l.findIdx? p=none:=by
  rw[List.findIdx?_eq_none_iff]
  intro x hx
  obtain⟨j,hj⟩:=List.mem_iff_getElem?.1 hx
  exact hn j x hj
 simp[idxF,this]
theorem AD {α:Type} (p:α→Bool) (l:List α):decide (0≤idxF p l)=l.any p:=by
 cases h:l.any p with
 | true =>
  have:(l.findIdx? p).isSome=true:=by rw[List.findIdx?_isSome]; exact h
  obtain⟨i,hi⟩:=Option.isSome_iff_exists.1 this
  simp only[idxF,hi]
  exact dT (by omega)
 | false =>
  have:l.findIdx? p=none:=by
   rw[List.findIdx?_eq_none_iff]
   intro x hx
   rw[List.any_eq_false]at h
   simpa using h x hx
  simp only[idxF,this]
  rfl
end Go.Proofs.Ytmdgmolbamlicaa
namespace Go.Plain
open Go.Eng Go.Lib
end Go.Plain
namespace Go.Eng
open Go.RowKit
section
variable {P : Program} {T : Tab} {env : Env} {h : Upds} {n : Nat}
end
end Go.Eng
namespace Go.Eng
open Go.RowKit
section
variable {P : Program} {T : Tab} {env : Env} {h : Upds} {n : Nat}
end
end Go.Eng
namespace Go.Proofs.Ytmdgmolbamlicaa
open Go.Eng Go.Plain Go.RowKit
set_option maxHeartbeats 32000000
set_option maxRecDepth 20000
def Fw (l:List UInt8):Int:=match Lib.atoiAll l with
 | .ok v=>v
 | .range=>Lib.atoiSat l
 | _=>0
def okA {α:Type} (p:α→Bool) (x:α):AV:=bif p x then .d (.sc .nilIface) else .er
def DL (l:List UInt8):Bool:=match Lib.atoiAll l with
 | .ok _=>true
 | _=>false
def puOk (l:List UInt8):Bool:=match Lib.parseUintB 8 l with
 | .ok _=>true
 | _=>false
def puV (l:List UInt8):Int:=match Lib.parseUintB 8 l with
 | .ok u=>u
 | .range=>255
 | _=>0
def erA (b:Bool):AV:=bif b then .d (.sc .nilIface) else .er
def cutA (l:List UInt8) (c:UInt8):List UInt8×List UInt8×Bool:=match cutL l c with
 | none=>(l,[],false)
 | some (p,q)=>(p,q,true)
end Go.Proofs.Ytmdgmolbamlicaa
namespace Go.Proofs.Ytmdgmolbamlicaa
open Go.Eng
attribute [local irreducible] WC RegS RegD SeqQ BlkQ ScoQ RegK CutK Sat SatN FnIs LoopQ ab OpIs
def bAV (b:Bool) (r:Nat):AV:=match b with
 | true=>.d (.sc nilp)
 | false=>.ptr r []
abbrev rowT (l:List UInt8):Row :=.ds 5 1 false cN (byI l)
end Go.Proofs.Ytmdgmolbamlicaa
namespace Go.Eng
open Go.RowKit
section
variable {P : Program} {T : Tab} {env : Env} {h : Upds} {n : Nat}
theorem aZ (hT:aj P T) {x y:Operand} {t t':TypeId} {k:IntKind} {a b:Nat} {c:Int} (hx:ai env x=some (.int k a)) (hy:ai env y=some (.int k c)) (hc:c=(b:Int)) (hb:b≠0):ab P (.binOp .rem t x y t') env h n (some (.int k ((a % b:Nat):Int))) []:=by
 subst hc
 have:=BH (P:=P) (h:=h) (n:=n) (t:=t) (t':=t') hT hx hy (by omega:(b:Int)≠0)
 rwa [show ((a:Int).tmod b)=((a % b:Nat):Int) from rfl]at this
theorem yl {a:Nat} (h:a<256):IntKind.u8.wrap (a:Int)=(a:Int):=by
 simp[IntKind.wrap,IntKind.signed,IntKind.bits]
 omega
end
end Go.Eng
namespace Go.Proofs.Ytmdgmolbamlicaa
open Go.Eng Go.Plain
set_option maxHeartbeats 32000000
set_option maxRecDepth 20000
attribute [local irreducible] WC RegS RegD SeqQ BlkQ ScoQ RegK CutK Sat SatN FnIs LoopQ ab OpIs
end Go.Proofs.Ytmdgmolbamlicaa
namespace Go.Plain
open Go.Eng Go.Lib
def nibV (c:UInt8):Nat:=(indexByte hexD c).toNat
def Ag:List UInt8→List Int
 | []=>[]
 | [a]=>[(nibV a:Int)]
 | a::b::l=>((nibV a*16+nibV b:Nat):Int)::Ag l
def uX (m:Nat) (s:List UInt8) (i:Nat):List Int:=Ag (s.take i)++List.replicate (m-(i+1)/2) 0
end Go.Plain
namespace Go.Proofs.Ytmdgmolbamlicaa
open Go.Eng Go.Plain
set_option maxHeartbeats 32000000
set_option maxRecDepth 20000
attribute [local irreducible] WC RegS RegD SeqQ BlkQ ScoQ RegK CutK Sat SatN FnIs LoopQ ab OpIs
abbrev unR (o:Option (List UInt8)):AV :=.tup (.acons (.d (encB (o.getD []))) (.acons (.bool o.isSome) .anil))
theorem nil_arr {α:Type} (s:Nat) (enc:α→D):AVLe (.d (.sc nil_)) (.d (.arr s enc [])):=fun σ w X v h=>AVLe.empty_arr s enc σ w X v (AVLe.nil_empty σ w X v h)
end Go.Proofs.Ytmdgmolbamlicaa
namespace Go.Plain
open Go.Eng Go.Lib
end Go.Plain
namespace Go.Proofs.Ytmdgmolbamlicaa
open Go.Eng Go.Plain
set_option maxHeartbeats 32000000
set_option maxRecDepth 20000
attribute [local irreducible] WC RegS RegD SeqQ BlkQ ScoQ RegK CutK Sat SatN FnIs LoopQ ab OpIs
abbrev rowS (l:List (List UInt8)):Row :=.ds 9 1 false strD l
abbrev encWs (x:List (List UInt8)):D :=.arr 1 strD x
abbrev FL (ls:List (List (List UInt8))) (i:Nat):Nat:=(ls.take i).flatten.length
def opV (k i d:List UInt8):POp:=⟨puV k,Fw i,(rb d).getD []⟩
def opOk (k i d:List UInt8):Bool:=(rb d).isSome&&puOk k&&DL i
abbrev opR (o:POp) (b:Bool):AV :=.tup (.acons (.d (ce o)) (.acons (.bool b) .anil))
def Am:POp:=⟨0,0,[]⟩
def opW (w:List (List UInt8)):POp×Bool:=match w with
 | [k,i,d]=>(opV k i d,opOk k i d)
 | _=>(Am,false)
end Go.Proofs.Ytmdgmolbamlicaa
namespace Go.Eng
open Go.RowKit
section
variable {P : Program} {T : Tab} {env : Env} {h : Upds} {n : Nat}
theorem vd {t kt et:TypeId} {κ:Type} [DecidableEq κ] {enc:κ→D} {m r:Nat} {x y z:Operand} {k:κ} {l:List (κ×AV)} {v:AV} (K:eD P kt enc m) (ht:P.underlying t=some (.map kt et))
  (hx:ai env x=some (.mapr r)) (hy:ai env y=some (.d (enc k))) (hz:ai env z=some v) (hr:aQ h r=some (.mo (mapC enc l))) (hf:cW k l 0=none) :
  ab P (.insert t x y z) env h n none [(r,some (.mo (mapC enc (l++[(k,v)]))))]:=.of_comes fun C G st σ w a o ho hA hd hst hn=>by
 have h1:=(ak hst (hA.ev hx)).1
 have h2:=(ak hst (hA.ev hy)).1
 obtain⟨h3,h4⟩:=ak hst (hA.ev hz)
 have hrow:=hA.row _ _ hr
 obtain⟨b,c,hs,hux⟩:=RelV.mapr.1 h1
 obtain⟨b',es,hb1,hb2,hb3,hb4⟩:=hst.rows r _ hrow
 rw[hs]at hb2
 cases hb2
 have hl:=(bZ l _).1 hb4
 have hin:(mapC enc l).within G:=(hst.rowsG r _ hrow).2
 have hfd:=K.found h2 hl
 rw[hf]at hfd
 have hst':=hst.writeObj (o' :=.map (es.push { key:=a.eval y,val:=a.eval z,born:=es.size }) (es.size+1)) (row :=.mo (mapC enc (l++[(k,v)]))) hrow hs hb3 rfl
  ((ct _).2 fun p hp=>by
   rcases List.mem_append.1 hp with hp | hp
   ·exact (ct l).1 hin p hp
   ·rw[List.mem_singleton.1 hp]; exact h4)
  (fun w' ht' hh'=>⟨b,es.push { key:=a.eval y,val:=a.eval z,born:=es.size },fun i e he=>by
   rw[Array.getElem?_push]at he
   split at he
   ·rename_i hi; subst hi; cases he; rfl
   ·exact hb1 i e he,hs,by rw[Array.size_push]; exact hh',(bZ _ _).2 (by
    rw[Array.toList_push]
    exact bI.snoc (RelV.carry (G:=G) ht' trivial h2) (RelV.carry (G:=G) ht' h4 h3) l _ (bI.mono ht' hin hl))⟩)
 refine⟨none,_,.skip,undef, { w with heap:=w.heap.setIfInBounds b (.map (es.push { key:=a.eval y,val:=a.eval z,born:=es.size }) (es.size+1)) },σ,G,⟨rfl,rfl⟩,?_,.inr ⟨rfl,rfl⟩,?_,fun _ h=>h,fun _ h=>.inl h⟩
 ·have hget:(getObj b).run P w=.ok (.map es es.size) w:=by simp[getObj,Sem.run,hb3]
  have hset:=lj P w b (.map (es.push { key:=a.eval y,val:=a.eval z,born:=es.size }) (es.size+1)) hb3
  simp only[execOp,ho,Instr.mapUpdate,hux,Sem.run_bind,run_underlying ht,hget,Result.andThen_ok,K.check h2,hfd,hset,Sem.run_pure]
 ·rw[St.put_upd]
  exact hst'.set hd (v:=none) (eF _ _ _) trivial
end
end Go.Eng
namespace Go.Proofs.Ytmdgmolbamlicaa
open Go.Eng Go.Plain
set_option maxHeartbeats 32000000
set_option maxRecDepth 20000
attribute [local irreducible] WC RegS RegD SeqQ BlkQ ScoQ RegK CutK Sat SatN FnIs LoopQ ab OpIs
abbrev fnA (f:Nat):AV :=.fn (.func f) .anil .anil
end Go.Proofs.Ytmdgmolbamlicaa
namespace Go.Eng
open Go.RowKit
section
variable {P : Program} {T : Tab} {env : Env} {h : Upds} {n : Nat}
end
end Go.Eng
namespace Go.Proofs.Ytmdgmolbamlicaa
open Go.Eng Go.Plain
set_option maxHeartbeats 32000000
set_option maxRecDepth 20000
attribute [local irreducible] WC RegS RegD SeqQ BlkQ ScoQ RegK CutK Sat SatN FnIs LoopQ ab OpIs
abbrev AZ (p:List POp):D :=.arx 3 ce p
abbrev encXL (l:List (List POp)):D :=.arr 1 AZ l
def Bd (l:List (List POp)):Prop:=l.length≤1000000000∧∀p∈l,p.length≤1000000000
def partT (l:List (List POp)) (i:Nat) (p:List POp) (j:Nat):List UInt8:=E4 (l.take i)++(nY++10::opsT (p.take j))
end Go.Proofs.Ytmdgmolbamlicaa
namespace Go.Eng
open Go.RowKit
def chM (A:AV):List D→AV
 | []=>.acons A .anil
 | d::l=>.acons (.d d) (chM A l)
theorem wH {σ:aB} {w:World} {X:Nat→Prop} {α:Type} {enc:α→D}:∀(xs:List α) (f:Nat→List Value),(∀i (h:i<xs.length),Enc w X (enc xs[i]) (f i))→Rel σ w X (dsAV (xs.map enc)) false (cat f xs.length)
 | [],f,_=>rfl
 | x::xs,f,h=>by
  rw[List.length_cons,Nat.add_comm xs.length 1,fN 1]
  refine⟨f 0,cat (fun i=>f (1+i)) xs.length,by simp only[cat,List.nil_append],h 0 (by simp),?_⟩
  exact wH xs (fun i=>f (1+i)) fun i hi=>by
   show Enc w X (enc xs[i]) (f (1+i))
   rw[Nat.add_comm 1 i]
   exact h (i+1) (by simpa using hi)
end Go.Eng
namespace Go.Proofs.Ytmdgmolbamlicaa
open Go.Eng Go.Plain
set_option maxHeartbeats 32000000
set_option maxRecDepth 20000
attribute [local irreducible] WC RegS RegD SeqQ BlkQ ScoQ RegK CutK Sat SatN FnIs LoopQ ab OpIs
def encO:Option (List POp)→D
 | none=>.sc nil_
 | some p=>encP p
abbrev rowP (p:List POp):Row :=.ds 38 3 false ce p
end Go.Proofs.Ytmdgmolbamlicaa
namespace Go.Plain
open Go.Eng Go.Lib
end Go.Plain
namespace Go.Proofs.Ytmdgmolbamlicaa
open Go.Eng Go.Plain
set_option maxHeartbeats 32000000
set_option maxRecDepth 20000
attribute [local irreducible] WC RegS RegD SeqQ BlkQ ScoQ RegK CutK Sat SatN FnIs LoopQ ab OpIs
end Go.Proofs.Ytmdgmolbamlicaa
namespace Go.Proofs.Ytmdgmolbamlicaa
open Go.Eng Go.Plain
set_option maxHeartbeats 32000000
set_option maxRecDepth 20000
abbrev addA (t:List UInt8):List AV:=[.d (strD t),.ptr 0 [],.ptr 1 []]
end Go.Proofs.Ytmdgmolbamlicaa
namespace Go.Proofs.Ytmdgmolbamlicaa
open Go.Eng Go.Plain
set_option maxHeartbeats 32000000
set_option maxRecDepth 20000
attribute [local irreducible] WC RegS RegD SeqQ BlkQ ScoQ RegK CutK Sat SatN FnIs LoopQ ab OpIs
abbrev parR (l:List (List POp)) (n:Nat) (e:Int):AV :=.tup (.acons (.d (.arx 1 AZ l)) (.acons (.int .i64 n) (.acons (.d (i6 e)) .anil)))
theorem jf {α:Type} (s:Nat) (enc:α→D):AVLe (.d (.sc nil_)) (.d (.arx s enc [])):=fun σ w X v h=>AVLe.empty_arx s enc σ w X v (AVLe.nil_empty σ w X v h)
def toL:Option (List (List POp)×List POp)→List (List POp)
 | none=>[]
 | some (l,p)=>l++[p]
def enc2:Bool×List POp→D
 | (true,p)=>AZ p
 | (false,p)=>encP p
def mkL (L:List (List POp)) (i:Nat):List (Bool×List POp):=(L.take i).map (fun p=>(true,p))++(L.drop i).map (fun p=>(false,p))
def PInv (s0:List UInt8):Option (List (List POp)×List POp)×List UInt8×Nat→Prop
 | (q,s,n)=>uU s (toL q) n=uU s0 [] 1∧chkP (toL q)=0∧OkL (toL q)∧s.length+n≤s0.length+1∧1≤n
end Go.Proofs.Ytmdgmolbamlicaa
namespace Go.Proofs.Ytmdgmolbamlicaa
open Go.Eng Go.Plain
set_option maxHeartbeats 32000000
set_option maxRecDepth 20000
abbrev bc (l:List UInt8):D :=.vec 32 1 cN (byI l)
structure HEv where
 kind:Int
 client:Int
 op:POp
 value:List UInt8
 err:Int
 deriving DecidableEq
structure HEv.Ok (x:HEv):Prop where
 kind:0≤x.kind∧x.kind≤255
 client : -9223372036854775808≤x.client∧x.client≤9223372036854775807
 op:x.op.Ok
 value:x.value.length=32
 err : -9223372036854775808≤x.err∧x.err≤9223372036854775807
def bu (x:HEv):D :=.cons (u8s x.kind) (.cons (i6 x.client) (.cons (ce x.op) (.cons (bc x.value) (.cons (i6 x.err) .nil))))
abbrev encH (l:List HEv):D :=.arr 38 bu l
abbrev encHL (l:List (List HEv)):D :=.arr 1 encH l
def zBk:List UInt8:=[0,0,0,0,0,0,0,0,0,0,0,0,0,0,0,0,0,0,0,0,0,0,0,0,0,0,0,0,0,0,0,0]
def zOp:POp:=⟨0,0,[]⟩
structure HOp where
 client:Int
 number:Int
 era:Int
 op:POp
 invoked:Int
 returned:Int
 value:List UInt8
 err:Int
 deriving DecidableEq
def a9 (x:HOp):D :=.cons (i6 x.client) (.cons (i6 x.number) (.cons (i6 x.era) (.cons (ce x.op) (.cons (i6 x.invoked) (.cons (i6 x.returned) (.cons (bc x.value) (.cons (i6 x.err) .nil)))))))
abbrev bS (l:List HOp):D :=.arr 41 a9 l
theorem Cq {a b:List UInt8}:byI a=byI b↔a=b:=by
 constructor
 ·intro h
  induction a generalizing b with
  | nil=>cases b with
   | nil=>rfl
   | cons y b=>simp[byI]at h
  | cons x a ih=>cases b with
   | nil=>simp[byI]at h
   | cons y b =>
    simp only[byI,List.map_cons,List.cons.injEq]at h
    rw[ih h.2,UInt8.toNat_inj.1 (Int.ofNat.inj h.1)]
 ·rintro rfl; rfl
theorem cJ (a b:List UInt8):EqOk Try.prog 2 40 (bc a) (bc b) (decide (a=b)):=
 (DA aa (P:=Try.prog) Try.underlying40 rfl (fun _=>rfl) rfl (fun _ _=>vn (P:=Try.prog) Try.underlying5)).cast (decide_eq_decide.2 Cq)
end Go.Proofs.Ytmdgmolbamlicaa
namespace Go.Proofs.Ytmdgmolbamlicaa
open Go.Eng Go.Plain
set_option maxHeartbeats 32000000
set_option maxRecDepth 20000
attribute [local irreducible] WC RegS RegD SeqQ BlkQ ScoQ RegK CutK Sat SatN FnIs LoopQ ab OpIs
def outO (o:POp) (b:Int):Bool:=decide (o.index<0)||decide (b≤o.index)
def badO (o:POp) (b:Int):Bool:=if o.kind=1 then outO o b else if o.kind=2 then outO o b || !decide (o.data.length=32) else !decide (o.kind=3)
theorem CH (o:POp):decide (((byI o.data).length:Int)=32)=decide (o.data.length=32):=by
 rw[fO]
 by_cases h:o.data.length=32
 ·rw[dT h,dT (by omega)]
 ·rw[dF h,dF (by omega)]
theorem Bi (o:POp) (b:Int) (hk:o.kind=1) (c1 c2 c3:Bool) (h1:decide (o.index<0)=c1) (h2:decide (b≤o.index)=c2) (h3:decide (((byI o.data).length:Int)=32)=c3):FnIs Try.prog 77 [.d (ce o),.int .i64 b] [] (.bool (c1||c2)) []:=by
 have hk1:decide (o.kind=1)=true:=dT (by omega)
 refine aq aa Try.func77 rfl rfl rfl ?_
 cases c1 <;> cases c2 <;> cases c3
 ·refine z48 ?_
  simp only[h1,h2]
  exact⟨trivial,[],lf⟩
 ·refine z48 ?_
  simp only[h1,h2]
  exact⟨trivial,[],lf⟩
 ·refine z48 ?_
  simp only[h1,h2]
  exact⟨trivial,[],lf⟩
 ·refine z48 ?_
  simp only[h1,h2]
  exact⟨trivial,[],lf⟩
 ·refine z44 ?_
  simp only[h1,h2]
  exact⟨trivial,[],lf⟩
 ·refine z44 ?_
  simp only[h1,h2]
  exact⟨trivial,[],lf⟩
 ·refine z44 ?_
  simp only[h1,h2]
  exact⟨trivial,[],lf⟩
 ·refine z44 ?_
  simp only[h1,h2]
  exact⟨trivial,[],lf⟩
theorem yg (o:POp) (b:Int) (hk:o.kind=2) (c1 c2 c3:Bool) (h1:decide (o.index<0)=c1) (h2:decide (b≤o.index)=c2) (h3:decide (((byI o.data).length:Int)=32)=c3):FnIs Try.prog 77 [.d (ce o),.int .i64 b] [] (.bool (c1||c2 || !c3)) []:=by
 have hk1:decide (o.kind=1)=false:=dF (by omega)
 have hk2:decide (o.kind=2)=true:=dT (by omega)
 refine aq aa Try.func77 rfl rfl rfl ?_
 cases c1 <;> cases c2 <;> cases c3
 ·refine z60 ?_;refine z5 ?_
  simp only[h1,h2,h3]
  exact⟨trivial,[],lf⟩
 ·refine z60 ?_;refine z5 ?_
  simp only[h1,h2,h3]
  exact⟨trivial,[],lf⟩
 ·refine z60 ?_;refine z1 ?_
  simp only[h1,h2,h3]
  exact⟨trivial,[],lf⟩
 ·refine z60 ?_;refine z1 ?_
  simp only[h1,h2,h3]
  exact⟨trivial,[],lf⟩
 ·refine z57 ?_
  simp only[h1,h2,h3]
  exact⟨trivial,[],lf⟩
 ·refine z57 ?_
  simp only[h1,h2,h3]
  exact⟨trivial,[],lf⟩
 ·refine z57 ?_
  simp only[h1,h2,h3]
  exact⟨trivial,[],lf⟩
 ·refine z57 ?_
  simp only[h1,h2,h3]
  exact⟨trivial,[],lf⟩
theorem yh (o:POp) (b:Int) (hk1:¬o.kind=1) (hk2:¬o.kind=2) (c1 c2:Bool) (h1:decide (o.index<0)=c1) (h2:decide (b≤o.index)=c2):FnIs Try.prog 77 [.d (ce o),.int .i64 b] [] (.bool (!decide (o.kind=3))) []:=by
 have hk1:decide (o.kind=1)=false:=dF (by omega)
 have hk2:decide (o.kind=2)=false:=dF (by omega)
 refine aq aa Try.func77 rfl rfl rfl ?_
 cases c1 <;> cases c2
 ·refine z58 ?_
  exact⟨trivial,[],lf⟩
 ·refine z58 ?_
  exact⟨trivial,[],lf⟩
 ·refine z54 ?_
  exact⟨trivial,[],lf⟩
 ·refine z54 ?_
  exact⟨trivial,[],lf⟩
theorem DK (o:POp) (b:Int):FnIs Try.prog 77 [.d (ce o),.int .i64 b] [] (.bool (badO o b)) []:=by
 by_cases k1:o.kind=1
 ·have:=Bi o b k1 _ _ _ rfl rfl rfl
  rwa [show badO o b=(decide (o.index<0)||decide (b≤o.index)) by rw[badO,if_pos k1,outO]]
 ·by_cases k2:o.kind=2
  ·have:=yg o b k2 _ _ _ rfl rfl rfl
   rwa [show badO o b=(decide (o.index<0)||decide (b≤o.index) || !decide (((byI o.data).length:Int)=32)) by rw[badO,if_neg k1,if_pos k2,outO,CH]]
  ·have:=yh o b k1 k2 _ _ rfl rfl
   rwa [show badO o b = !decide (o.kind=3) by rw[badO,if_neg k1,if_neg k2]]
def preO (l:List (List POp)) (i:Nat) (p:List POp) (j:Nat):List POp:=(l.take i).flatten++p.take j
def cK (k:Int) (l:List POp):Nat:=l.countP fun o=>decide (o.kind=k)
def cO (l:List POp):Nat:=l.countP fun o => !decide (o.kind=1) && !decide (o.kind=2) && !decide (o.kind=3)
def FK (l:List (List POp)):Prop:=l.length≤12∧l.flatten.length≤200∧∀p∈l,p.length≤66∧∀o∈p,o.data.length≤70
def FE (l:List (List POp)):Bool:=decide (l.length≤12)&&decide (l.flatten.length≤200)&&l.all fun p=>decide (p.length≤66)&&p.all fun o=>decide (o.data.length≤70)
abbrev r01 (b:Bool):AV :=.d (i6 (if b=true then 1 else 0))
theorem xu (o:POp) (b:Int) (hk:o.kind=1) (c1 c2 c3:Bool) (h1:decide (0≤o.index) = !c1) (h2:decide (o.index<b) = !c2) (h3:decide (((byI o.data).length:Int)=32)=c3):FnIs Try.prog 11 [.d (ce o),.int .i64 b] [] (r01 (c1||c2)) []:=by
 have hk3:decide (o.kind=3)=false:=dF (by omega)
 have hk1:decide (o.kind=1)=true:=dT (by omega)
 refine aq aa Try.func11 rfl rfl rfl ?_
 cases c1 <;> cases c2 <;> cases c3
 ·refine z60 ?_;refine z14 ?_
  exact⟨trivial,[],lf⟩
 ·refine z60 ?_;refine z14 ?_
  exact⟨trivial,[],lf⟩
 ·refine z60 ?_;refine z10 ?_
  exact⟨trivial,[],lf⟩
 ·refine z60 ?_;refine z10 ?_
  exact⟨trivial,[],lf⟩
 ·refine z60 ?_;refine z6 ?_
  exact⟨trivial,[],lf⟩
 ·refine z60 ?_;refine z6 ?_
  exact⟨trivial,[],lf⟩
 ·refine z60 ?_;refine z6 ?_
  exact⟨trivial,[],lf⟩
 ·refine z60 ?_;refine z6 ?_
  exact⟨trivial,[],lf⟩
theorem uM (o:POp) (b:Int) (hk:o.kind=2) (c1 c2 c3:Bool) (h1:decide (0≤o.index) = !c1) (h2:decide (o.index<b) = !c2) (h3:decide (((byI o.data).length:Int)=32)=c3):FnIs Try.prog 11 [.d (ce o),.int .i64 b] [] (r01 (c1||c2 || !c3)) []:=by
 have hk3:decide (o.kind=3)=false:=dF (by omega)
 have hk1:decide (o.kind=1)=false:=dF (by omega)
 have hk2:decide (o.kind=2)=true:=dT (by omega)
 refine aq aa Try.func11 rfl rfl rfl ?_
 cases c1 <;> cases c2 <;> cases c3
 ·refine z60 ?_;refine z22 ?_
  exact⟨trivial,[],lf⟩
 ·refine z60 ?_;refine z21 ?_
  exact⟨trivial,[],lf⟩
 ·refine z60 ?_;refine z13 ?_
  exact⟨trivial,[],lf⟩
 ·refine z60 ?_;refine z13 ?_
  exact⟨trivial,[],lf⟩
 ·refine z60 ?_;refine z9 ?_
  exact⟨trivial,[],lf⟩
 ·refine z60 ?_;refine z9 ?_
  exact⟨trivial,[],lf⟩
 ·refine z60 ?_;refine z9 ?_
  exact⟨trivial,[],lf⟩
 ·refine z60 ?_;refine z9 ?_
  exact⟨trivial,[],lf⟩
theorem uO (o:POp) (b:Int) (hk:o.kind=3):FnIs Try.prog 11 [.d (ce o),.int .i64 b] [] (r01 false) []:=by
 have hk3:decide (o.kind=3)=true:=dT (by omega)
 refine aq aa Try.func11 rfl rfl rfl ?_;refine z29 ?_
 exact⟨trivial,[],lf⟩
theorem uN (o:POp) (b:Int) (hk1:¬o.kind=1) (hk2:¬o.kind=2) (hk3:¬o.kind=3):FnIs Try.prog 11 [.d (ce o),.int .i64 b] [] (r01 true) []:=by
 have hk3:decide (o.kind=3)=false:=dF (by omega)
 have hk1:decide (o.kind=1)=false:=dF (by omega)
 have hk2:decide (o.kind=2)=false:=dF (by omega)
 refine aq aa Try.func11 rfl rfl rfl ?_;refine z44 ?_
 exact⟨trivial,[],lf⟩
theorem nZ (o:POp) (b:Int):FnIs Try.prog 11 [.d (ce o),.int .i64 b] [] (r01 (badO o b)) []:=by
 have n1:decide (0≤o.index) = !decide (o.index<0):=by
  by_cases h:o.index<0
  ·rw[dT h,dF (by omega)]; rfl
  ·rw[dF h,dT (by omega)]; rfl
 have n2:decide (o.index<b) = !decide (b≤o.index):=by
  by_cases h:b≤o.index
  ·rw[dT h,dF (by omega)]; rfl
  ·rw[dF h,dT (by omega)]; rfl
 by_cases k1:o.kind=1
 ·have:=xu o b k1 _ _ _ n1 n2 rfl
  rwa [show badO o b=(decide (o.index<0)||decide (b≤o.index)) by rw[badO,if_pos k1,outO]]
 ·by_cases k2:o.kind=2
  ·have:=uM o b k2 _ _ _ n1 n2 rfl
   rwa [show badO o b=(decide (o.index<0)||decide (b≤o.index) || !decide (((byI o.data).length:Int)=32)) by rw[badO,if_neg k1,if_pos k2,outO,CH]]
  ·by_cases k3:o.kind=3
   ·have:=uO o b k3
    rwa [show badO o b=false by rw[badO,if_neg k1,if_neg k2,dT k3]; rfl]
   ·have:=uN o b k1 k2 k3
    rwa [show badO o b=true by rw[badO,if_neg k1,if_neg k2,dF k3]; rfl]
abbrev k4 (l:List POp):D :=.cons (i6 (cK 1 l)) (.cons (i6 (cK 2 l)) (.cons (i6 (cK 3 l)) (.cons (i6 (cO l)) .nil)))
def DS (n:Int) (s:List Int×Bool) (x:Int):List Int×Bool :=
 let t:=if s.2=false∧n≤x then (s.1++[n],true) else s
 (if x=n then t.1 else t.1++[x],t.2)
def wPre (n:Int) (l:List Int):List Int×Bool:=l.foldl (DS n) ([],false)
def DR (l:List Int) (n:Int):List Int:=if (wPre n l).2=true then (wPre n l).1 else (wPre n l).1++[n]
def bi (b:Bool):Int:=if b then 1 else 0
abbrev rowI (l:List Int):Row :=.ds 3 1 false i6 l
end Go.Proofs.Ytmdgmolbamlicaa
namespace Go.Proofs.Ytmdgmolbamlicaa
open Go.Eng Go.Plain
set_option maxHeartbeats 32000000
set_option maxRecDepth 20000
def uB:Bool→Nat
 | true=>0
 | false=>1
def touB (b:Int) (o:POp):Bool := !decide (o.kind=3) && !badO o b
def touS (b:Int) (acc:List Int) (o:POp):List Int:=if touB b o=true then DR acc o.index else acc
def touL (b:Int) (l:List POp):List Int:=l.foldl (touS b) []
end Go.Proofs.Ytmdgmolbamlicaa
namespace Go.Proofs.Ytmdgmolbamlicaa
open Go.Eng Go.Plain
set_option maxHeartbeats 32000000
set_option maxRecDepth 20000
attribute [local irreducible] WC RegS RegD SeqQ BlkQ ScoQ RegK CutK Sat SatN FnIs LoopQ ab OpIs
end Go.Proofs.Ytmdgmolbamlicaa
namespace Go.Eng
open Go.RowKit
theorem Enc.arx_arr {w:World} {X:Nat→Prop} {α:Type} {s:Nat} {enc enc':α→D} {xs:List α} (h:∀x c,Enc w X (enc x) c→Enc w X (enc' x) c):∀cs,Enc w X (.arx s enc xs) cs→Enc w X (.arr s enc' xs) cs:=by
 intro cs hc
 rcases hc with ⟨rfl,a,rfl⟩ | ⟨a,rfl,h1,f,hf⟩
 ·cases a with
  | none=>exact .inl ⟨rfl,rfl⟩
  | some a=>exact .inr ⟨a,0,rfl,Nat.le_refl _,Nat.zero_le _,fun _=>[],fun i hi=>absurd hi (Nat.not_lt_zero _)⟩
 ·exact .inr ⟨a,xs.length,rfl,Nat.le_refl _,h1,f,fun i hi=>⟨h _ _ (hf i hi).1,(hf i hi).2⟩⟩
theorem AVLe.of_enc {x y:D} (hx:x.isAgg=false) (hy:y.isAgg=false) (h:∀(w:World) (X:Nat→Prop) cs,Enc w X x cs→Enc w X y cs):AVLe (.d x) (.d y):=by
 intro σ w X v hv
 unfold RelV at hv ⊢
 rw[if_neg (by simp[AV.isAgg,hx])]at hv
 rw[if_neg (by simp[AV.isAgg,hy])]
 exact h w X _ hv
end Go.Eng
namespace Go.Proofs.Ytmdgmolbamlicaa
open Go.Eng Go.Plain
set_option maxHeartbeats 32000000
set_option maxRecDepth 20000
attribute [local irreducible] WC RegS RegD SeqQ BlkQ ScoQ RegK CutK Sat SatN FnIs LoopQ ab OpIs
def decD:List UInt8:=[48,49,50,51,52,53,54,55,56,57]
end Go.Proofs.Ytmdgmolbamlicaa
namespace Go.Plain
open Go.Eng Go.Lib
end Go.Plain
namespace Go.Proofs.Ytmdgmolbamlicaa
open Go.Eng Go.Plain
set_option maxHeartbeats 32000000
set_option maxRecDepth 20000
attribute [local irreducible] WC RegS RegD SeqQ BlkQ ScoQ RegK CutK Sat SatN FnIs LoopQ ab OpIs
def o1 {α:Type} (o:Option α):Int:=match o with
 | some _=>1
 | none=>0
abbrev FF (o:Option Int):AV :=.tup (.acons (.int .i64 (o.getD 0)) (.acons (.int .i64 (o1 o)) .anil))
def nV (l:List UInt8):Nat:=l.foldl (fun n c=>n*16+nibV c) 0
abbrev byR (o:Option (List UInt8)):AV :=.tup (.acons (.d (encB (o.getD []))) (.acons (.int .i64 (o1 o)) .anil))
end Go.Proofs.Ytmdgmolbamlicaa
namespace Go.Proofs.Ytmdgmolbamlicaa
open Go.Eng Go.Plain
set_option maxHeartbeats 32000000
set_option maxRecDepth 20000
set_option linter.unusedVariables false
set_option linter.unusedSimpArgs false
attribute [local irreducible] WC RegS RegD SeqQ BlkQ ScoQ RegK CutK Sat SatN FnIs LoopQ ab OpIs
abbrev readA (o:Option POp):AV :=.tup (.acons (.d (ce (o.getD Am))) (.acons (.int .i64 (o1 o)) .anil))
def finR (s:List UInt8) (o:Option POp):Option POp:=match o with
 | some o=>if wo o=s then some o else none
 | none=>none
def op4 (o:Option Int) (x y:List UInt8):Option POp:=match o with
 | some k=>Plain.opR k x y
 | none=>none
end Go.Proofs.Ytmdgmolbamlicaa
namespace Go.Eng
open Go.RowKit Go.Sort
abbrev FJ (n:Int):D :=.sc (.int .i64 n)
variable {P : Program}
end Go.Eng
namespace Go.Eng
open Go.RowKit
variable {P : Program} {f : FuncId} {avs avs' : List AV} {h0 : List (Nat × Row)} {res : AV}
def pR (avs:List AV) (h0:List (Nat×Row)) (avs':List AV) (h0':List (Nat×Row)):Prop :=
 ∀(C:Ctx) (G:Nat→Prop) (σ:aB) (w:World) (a:Act),aA C G (inSt avs h0) σ w a→aA C G (inSt avs' h0') σ w a
theorem pR.refl (avs:List AV) (h0:List (Nat×Row)):pR avs h0 avs h0:=fun _ _ _ _ _ h=>h
theorem pR.freeze {h0' h1:List (Nat×Row)} {avs1:List AV} (r:Nat) (row:Row) (hrow:aQ (aw h0) r=some row) (hE:ij r row (eg 0 avs) (eg 0 avs')) (hH:eh r row (aw h0) (aw h0')) (hl:avs'.length=avs.length)
  (h:pR avs' h0' avs1 h1):pR avs h0 avs1 h1:=by
 intro C G σ w a hst
 refine h C G σ w a (hst.freeze (st':=inSt avs' h0') r row (by rw[←ba]; exact hrow) (ij.out _ hE) (fun q x' hq=>?_) hl rfl)
 rw[←ba]at hq
 obtain⟨h1,x,h2,h3⟩:=eh.out _ hH q x' hq
 exact⟨h1,x,by rw[←ba]; exact h2,h3⟩
def jE (res:AV):Prop:=(∀(σ σ':aB) (w w':World) (X X':Nat→Prop) (v:Value),RelV σ w X res v→RelV σ' w' X' res v)∧∀G:Nat→Prop,res.within G
theorem jE.sc (v:Value):jE (.d (.sc v)):=⟨fun _ _ _ _ _ _ _ h=>RelV.sc.2 (RelV.sc.1 h),fun _=>trivial⟩
theorem FnIs.lend (ht:pR avs h0 avs' []) (hf:jE res) (h:FnIs P f avs' [] res []):FnIs P f avs h0 res h0:=by
  refine⟨h.1,fun C σ w vs hbs hB hw hσ hro hst=>?_⟩
  have h1:=ht _ _ _ _ _ hst
  have hc:aA { C with M:=fun _=>False } (fun r=>r<64) (inSt avs' []) σ w ⟨vs.toArray,[]⟩:=
    { env:=h1.env
      envG:=h1.envG
      rows:=h1.rows
      rowsG:=h1.rowsG
      inj:=h1.inj
      high:=fun r row b c hr=>by simp[inSt,aw,St.row,lk]at hr
      size:=h1.size
      below:=by show fA C.B _ C.w0 w; rw[hw]; exact fA.refl _ _ _
      defers:=trivial
      sz:=h1.sz
      x0:=fun b hb=>⟨(h1.x0 b hb).1,id⟩
      agree:=h1.agree
      baseG:=h1.baseG
      bs:=h1.bs
      rok:=h1.rok
      glob:=fun x hx=>⟨(h1.glob x hx).1,(h1.glob x hx).2.1,id⟩ }
  refine (h.2 { C with M:=fun _=>False } σ w vs hbs hB hw hσ hro hc).mono ?_
  rintro e w' ⟨v,σ',rfl,hr⟩
  refine⟨v,σ,rfl,?_⟩
  have hbm:fA C.B (fun _=>False) w w':=by have:=hr.below; rw[←hw]; exact this
  have hheap:∀k,k<w.heap.size→w'.heap[k]?=w.heap[k]?:=fun k hk=>hbm.block k (by omega) id
  have hX:(dm res h0).X C.X0 σ=(inSt avs h0).X C.X0 σ:=rfl
  have hk:∀(a:Addr) (u:Value),w.cell? a=some u→¬(inSt avs h0).X C.X0 σ a.block→Kp w w' a u∧¬(dm res h0).X C.X0 σ a.block:=fun a u hc hx =>
    ⟨.of_block (hheap _ (World.block_lt_of_cell? w a hc)) hc,hx⟩
  obtain⟨u,hu,hv⟩:=hr.env 0 _ rfl
  exact
    { env:=fun i x hi=>by
        by_cases e:i=0
        · subst e
          simp only[dm,aN,if_pos,Option.some.injEq]at hi
          subst hi
          refine⟨v,rfl,?_⟩
          have hu':v=u:=by simpa using hu
          subst hu'
          exact hf.1 _ _ _ _ _ _ _ hv
        · simp only[dm,aN,if_neg (Ne.symm e),lk]at hi
          cases hi
      envG:=fun i x hi=>by
        by_cases e:i=0
        · subst e
          simp only[dm,aN,if_pos,Option.some.injEq]at hi
          subst hi
          exact hf.2 _
        · simp only[dm,aN,if_neg (Ne.symm e),lk]at hi
          cases hi
      rows:=fun r row hr'=>bx.mono (fun _ _=>rfl) hk hbm.size (hst.rowsG r row hr').1 (hst.rowsG r row hr').2 (fun b c hs=>hheap b (hst.lt hr' hs)) (hst.rows r row hr')
      rowsG:=fun r row hr'=>by
        obtain⟨g1,g2⟩:=hst.rowsG r row hr'
        refine⟨Nat.lt_of_lt_of_le g1 (by decide),?_⟩
        cases row with
        | box t x=>exact AV.within.mono (fun r hr=>Nat.lt_of_lt_of_le hr (by decide)) x g2
        | ds=>trivial
        | lits t s n ex x=>exact AV.within.mono (fun r hr=>Nat.lt_of_lt_of_le hr (by decide)) x g2
        | mo x=>exact AV.within.mono (fun r hr=>Nat.lt_of_lt_of_le hr (by decide)) x g2
        | si=>trivial
        | mq=>trivial
        | lo=>trivial
        | mi x=>exact AV.within.mono (fun r hr=>Nat.lt_of_lt_of_le hr (by decide)) x g2
      inj:=hst.inj
      high:=hst.high
      size:=hr.size
      below:=by rw[hw]; exact⟨hbm.os,hbm.tape,hbm.output,hbm.size,fun k hk _=>hbm.block k hk id,hbm.book⟩
      defers:=trivial
      sz:=rfl
      x0:=hst.x0
      agree:=hst.agree
      baseG:=fun r hr=>by have:=hst.baseG r hr; exact Nat.lt_of_lt_of_le this (by decide)
      bs:=hst.bs
      rok:=fun l hl=>by rw[hro]at hl; cases hl
      glob:=hst.glob }
end Go.Eng
namespace Go.Eng
open Go.RowKit
theorem aM.ds_take {t:TypeId} {s m:Nat} {ex:Bool} {α:Type} {enc:α→D} {xs:List α}:aM (.ds t s ex enc xs) (.ds t s false enc (xs.take m)):=by
 intro σ w X r h
 rcases h with ⟨h1,rfl⟩ | ⟨b,c,cur,h1,_,h2,h3,h4,h5,f,hf,h6⟩
 ·exact .inl ⟨h1,by simp⟩
 ·have hle:(xs.take m).length≤xs.length:=by rw[List.length_take]; omega
  refine .inr ⟨b,c,cur,h1,(fun h=>by cases h),h2,h3,by omega,h5,f,fun i hi=>?_,?_⟩
  ·have hi':i<xs.length:=by omega
   rw[List.getElem_take]
   exact hf i hi'
  ·obtain⟨k,hk⟩:∃k,xs.length=(xs.take m).length+k:=⟨xs.length-(xs.take m).length,by omega⟩
   have hl:=cz (xs.take m).length (fun i hi=>(hf i (by omega)).2)
   have h7:=congrArg (List.take ((xs.take m).length*s)) h6
   rw[List.take_take,Nat.min_eq_left (Nat.mul_le_mul_right s hle)]at h7
   rw[h7]
   conv=>lhs; rw[hk,fN]
   rw[List.take_append_of_le_length (by rw[hl]; exact Nat.le_refl _),List.take_of_length_le (by rw[hl]; exact Nat.le_refl _)]
theorem Frz.row_le {r:Nat} {row row':Row} {a a':AV} (h:aM row row') (hf:Frz r row' a a'):Frz r row a a' :=
 ⟨hf.1,hf.2.1,hf.2.2.1,fun σ w X X' hx hn hr cs hc=>hf.2.2.2 σ w X X' hx hn (h σ w X r hr) cs hc⟩
end Go.Eng
namespace Go.Proofs.Ytmdgmolbamlicaa
open Go.Eng Go.Plain
set_option maxHeartbeats 32000000
set_option maxRecDepth 20000
set_option linter.unusedVariables false
attribute [local irreducible] WC RegS RegD SeqQ BlkQ ScoQ RegK CutK Sat SatN FnIs LoopQ ab OpIs
abbrev rpR (x:List (List POp)×Nat×Int):AV :=.tup (.acons (.d (Fj x.1)) (.acons (.int .i64 (x.2.1:Nat)) (.acons (.int .i64 x.2.2) .anil)))
def QInv (W:List (List UInt8)):Option (List (List POp)×List POp)×Nat→Prop
 | (q,i)=>i≤W.length∧rE (W.drop i) i (toL q)=rE W 0 []∧chkP (toL q)=0
end Go.Proofs.Ytmdgmolbamlicaa
namespace Go.Plain
open Go.Lib
abbrev sortI (l:List Int):List Int:=l.mergeSort fun x y=>decide (x≤y)
end Go.Plain
namespace Go.Proofs.Ytmdgmolbamlicaa
open Go.Eng Go.Plain Go.Lib
set_option maxHeartbeats 32000000
set_option maxRecDepth 20000
def insL (n:Int):List Int→List Int
 | []=>[n]
 | x::l=>if n≤x then n::(x::l).filter (fun y=>decide (y≠n)) else x::insL n l
def wOut (n:Int) (s:List Int×Bool):List Int:=if s.2=true then s.1 else s.1++[n]
def idxL (b:Int) (l:List POp):List Int:=(l.filter (touB b)).map POp.index
end Go.Proofs.Ytmdgmolbamlicaa
namespace Go.Proofs.Ytmdgmolbamlicaa
open Go.Eng Go.Plain Go.RowKit
set_option maxHeartbeats 32000000
set_option maxRecDepth 20000
attribute [local irreducible] WC RegS RegD SeqQ BlkQ ScoQ RegK CutK Sat SatN FnIs LoopQ ab OpIs
end Go.Proofs.Ytmdgmolbamlicaa
namespace Go.Proofs.Ytmdgmolbamlicaa
open Go.Eng Go.Plain
set_option maxHeartbeats 32000000
set_option maxRecDepth 20000
attribute [local irreducible] WC RegS RegD SeqQ BlkQ ScoQ RegK CutK Sat SatN FnIs LoopQ ab OpIs
@[reducible] def accA:List Int→AV
 | []=>.d (.sc nil_)
 | x::xs=>.own 65 0 (xs.length+1) 1 none
@[reducible] def accH:List Int→Upds
 | []=>[]
 | x::xs=>[(65,some (rowI (x::xs)))]
end Go.Proofs.Ytmdgmolbamlicaa
namespace Go.Proofs.Ytmdgmolbamlicaa
open Go.Eng Go.Plain
set_option maxHeartbeats 32000000
set_option maxRecDepth 20000
def encV:Bool×POp→D
 | (true,o)=>.cons (u8s o.kind) (.cons (i6 o.index) (.cons (.sc nil_) .nil))
 | (false,o)=>ce o
def VOk (x:Bool×POp):Prop:=x.1=true→x.2.data=[]
theorem Ci {w:World} {X:Nat→Prop} {x:Bool×POp} (hx:VOk x) {cs:List Value} (h:Enc w X (encV x) cs):Enc w X (ce x.2) cs:=by
 obtain⟨b,o⟩:=x
 cases b with
 | false=>exact h
 | true =>
  have hd:o.data=[]:=hx rfl
  obtain⟨c1,r1,rfl,h1,c2,r2,rfl,h2,c3,r3,rfl,h3,h4⟩:=h
  exact⟨c1,_,rfl,h1,c2,_,rfl,h2,c3,r3,rfl,.inl ⟨by rw[hd]; rfl,h3.1⟩,h4⟩
theorem Ck {α β:Type} {s:Nat} {enc:α→D} {enc':β→D} {g:α→β} {xs:List α} {ys:List β} (hy:ys=xs.map g) (h:∀x∈xs,DLe (enc x) (enc' (g x))):DLe (.arr s enc xs) (.arr s enc' ys):=by
 subst hy
 rintro w X cs (⟨rfl,rfl⟩ | ⟨a,c,rfl,h1,h2,f,hf⟩)
 ·exact .inl ⟨rfl,rfl⟩
 ·refine .inr ⟨a,c,by rw[List.length_map],by rw[List.length_map]; exact h1,h2,f,fun i hi=>?_⟩
  rw[List.length_map]at hi
  obtain⟨g1,g2,g3⟩:=hf i hi
  refine⟨?_,g2,g3⟩
  rw[List.getElem_map]
  exact h _ (List.getElem_mem _) _ _ _ g1
abbrev encPV (l:List (Bool×POp)):D :=.arr 3 encV l
end Go.Proofs.Ytmdgmolbamlicaa
namespace Go.Proofs.Ytmdgmolbamlicaa
open Go.Eng Go.Plain
set_option maxHeartbeats 32000000
set_option maxRecDepth 20000
attribute [local irreducible] WC RegS RegD SeqQ BlkQ ScoQ RegK CutK Sat SatN FnIs LoopQ ab OpIs
def pairV:List (List (Bool×POp)):=[[(true,⟨1,3,[]⟩),(false,⟨2,1,[0,255]⟩)],[(true,⟨3,0,[]⟩)]]
def pairL:List (List POp):=[[⟨1,3,[]⟩,⟨2,1,[0,255]⟩],[⟨3,0,[]⟩]]
abbrev vA:Bool×POp:=(true,⟨1,3,[]⟩)
abbrev vB:Bool×POp:=(false,⟨2,1,[0,255]⟩)
abbrev vC:Bool×POp:=(true,⟨3,0,[]⟩)
abbrev vAB:List (Bool×POp):=[vA,vB]
abbrev vC1:List (Bool×POp):=[vC]
end Go.Proofs.Ytmdgmolbamlicaa
namespace Go.Eng
open Go.RowKit
section
variable {P : Program} {T : Tab} {env : Env} {h : Upds} {n : Nat}
theorem qW (hT:aj P T) {t e r L cap:Nat} {re:TyR} {s:Nat} {α:Type} {enc:α→D} (z:α) {x:Operand} {p:List Step} {row row':Row} (ht:bh T t=some (.slice e)) (he:lk T e=some re) (hs:Nat.beq re.size s=true) (hs0:Nat.blt 0 s=true) (hz:re.zero=enc z)
  (hx:ai env x=some (.asl r p L cap)) (hrow:aQ h r=some row) (hL:Nat.blt 0 L=true) (hu:RUpd row p (.d (.vec L s enc (List.replicate L z))) row') :
  ab P (.call { callee :=.builtin .clear,args := #[x],argTypes := #[t] }) env h n none [(r,some row')]:=.of_comes fun C G st σ w a o ho hA hd hst hn=>by
 have hs0:=Nat.le_of_ble_eq_true hs0
 have hL:=Nat.le_of_ble_eq_true hL
 have hs:=Nat.eq_of_beq_eq_true hs
 obtain⟨ud,hud,hdd⟩:=bn hT ht
 cases hdd
 obtain⟨hx1,hx2⟩:=ak hst (hA.ev hx)
 have hrow:=hA.row _ _ hrow
 obtain⟨b,c,hb,hux⟩:=RelV.asl.1 hx1
 obtain⟨zv,hzr,hzv⟩:=(hT e re he).run_zero w
 have hzl:zv.cells.toList.length=s:=by
  have h1:=Enc.len _ _ (Enc.closed w (fun _=>False) _ (hT e re he).zero)
  rw[hzv,(hT e re he).zsize,hs]at h1
  exact h1
 have henc:Enc w (st.X C.X0 σ) (enc z) zv.cells.toList:=by rw[←hz,←hzv]; exact Enc.closed _ _ _ (hT e re he).zero
 have hm':Rel σ w (st.X C.X0 σ) (.d (.vec L s enc (List.replicate L z))) false (cat (fun _=>zv.cells.toList) L):=
  ⟨by simp,fun _=>zv.cells.toList,fun i hi=>⟨by simpa using henc,hzl⟩,rfl⟩
 obtain⟨b',c',cur,t2,A,m,C',hb',hh,⟨hcur,hA2⟩,hml,hnew⟩:=RUpd.cells hu (hst.rows r row hrow) rfl hm' (hst.rowsG r row hrow).2 trivial
 rw[hb]at hb'
 cases hb'
 have hw:=hst.write (new:=(A++cat (fun _=>zv.cells.toList) L++C').toArray) hrow hb hh (RUpd.within (hst.rowsG r row hrow).2 (show (AV.d (.vec L s enc (List.replicate L z))).within G from trivial) hu) (fun w' ht hd' hh'=>hnew w' ht hd' hh')
 have hfl:(cat (fun _=>zv.cells.toList) L).length=L*s:=cz _ fun _ _=>hzl
 have hone:∀u∈cat (fun _=>zv.cells.toList) L,u.oneCell'=true:=fun u hu=>by
  obtain⟨k,hk,hu⟩:=jz _ hu
  exact Enc.one _ _ henc u hu
 have hmade:(Builtin.zeroCells zv.cells L).toList=cat (fun _=>zv.cells.toList) L:=by
  have:=lB zv.cells.toList (by omega) L
  rw[nb,←this]
  simp[Builtin.zeroCells]
 have hst1:(storeCells ⟨b,aV p,none⟩ (cat (fun _=>zv.cells.toList) L) 0).run P w=.ok () (w.setRow b (A++cat (fun _=>zv.cells.toList) L++C').toArray):=by
  have hcl:cur.size=A.length+m.length+C'.length:=by
   have:=congrArg List.length hcur
   simp at this; omega
  rw[run_storeCells_at P b (aV p) t2 _ 0 cur w hh (by omega) hone]
  congr 3
  rw[hcur]
  have e1:List.take (aV p+0) (A++m++C')=A:=by rw[←hA2]; simp
  have e2:List.drop (aV p+0+(cat (fun _=>zv.cells.toList) L).length) (A++m++C')=C':=by
   rw[←hml,←hA2,Nat.add_zero,←List.length_append,List.drop_left]
  rw[e1,e2]
 have hrun:(Builtin.clear_ #[t] o.type #[a.eval x]).run P w=.ok (.tuple #[]) (w.setRow b (A++cat (fun _=>zv.cells.toList) L++C').toArray):=by
  obtain⟨k,rfl⟩:∃k,L=k+1:=⟨L-1,by omega⟩
  simp[Builtin.clear_,hux,run_underlying hud,hzr,hmade,hst1]
 refine⟨none,_,.value (.tuple #[]),undef,w.setRow b (A++cat (fun _=>zv.cells.toList) L++C').toArray,σ,G,⟨rfl,rfl⟩,?_,.inl rfl,?_,fun _ h=>h,fun _ h=>.inl h⟩
 ·simp[execOp,ho,resolve,invoke,builtin,hrun]
 ·rw[St.put_upd]
  exact hw.set hd (v:=none) (eF _ _ _) trivial
theorem DG {f:Operand} {args:Array Operand} {ts:Array TypeId} {g:FuncId} {first caps:AV} {bs9 avs:List AV} {h0 rows:List (Nat×Row)} {res v:AV} {u:Upds} (l:bC)
  (hfn:FnIs P g avs h0 res rows) (hf:ai env f=some (.fn (.func g) first caps)) (hl:evL (ai env) args.toList=some bs9) (hc1:first.chain=true) (hc2:caps.chain=true)
  (ha:bU (aQ h) (rho l) (bw first++(bs9++bw caps)) avs) (hr:RowsIn (aQ h) l h0) (hi:ey (rho l) (aU h0)=true) (hk:ga l h0=true)
  (hm:bY (bw first++(bs9++bw caps)) avs=true∨h0=[]∧cr res rows) (hv:res.ren (eb l n)=v) (hu:bA l n h0 rows=u) :
  ab P (.call { callee :=.value f,args:=args,argTypes:=ts }) env h n (some v) u:=by
 have:=ab.call (n:=n) (ts:=ts) (h0:=h0) (rows:=rows) (res:=res) l hfn hf hl hc1 hc2 ha hr hi hk hm
 rw[hv,hu]at this
 exact this
theorem wS {look:Nat→Option Row} {ρ:Nat→Option Nat} {f:Fn} {r k:Nat} {p:List Step} {bs9 avs:List AV} (hr:ρ r=some k) (h64:Nat.blt r 64=true) (h:bU look ρ bs9 avs) :
  bU look ρ (.fn f (.acons (.ptr k p) .anil) .anil::bs9) (.fn f (.acons (.ptr r p) .anil) .anil::avs):=
 ⟨_,avs,rfl,⟨rfl,by simp[AV.lt,h64]⟩,AVLe.of_eq (by simp only[AV.ren,hr]),h⟩
end
theorem aM.ds_map {t:TypeId} {s:Nat} {ex:Bool} {α β:Type} {enc:α→D} {enc':β→D} (g:α→β) {xs:List α} {ys:List β} (hy:ys=xs.map g) (hg:∀x∈xs,DLe (enc x) (enc' (g x))):aM (.ds t s ex enc xs) (.ds t s ex enc' ys):=by
 subst hy
 intro σ w X r h
 rcases h with ⟨h1,rfl⟩ | ⟨b,c,cur,h1,h0,h2,h3,h4,h5,f,hf,h6⟩
 ·exact .inl ⟨h1,rfl⟩
 ·refine .inr ⟨b,c,cur,h1,by rw[List.length_map]; exact h0,h2,h3,by rw[List.length_map]; exact h4,h5,f,fun i hi=>?_,by rw[List.length_map]; exact h6⟩
  rw[List.length_map]at hi
  refine⟨?_,(hf i hi).2⟩
  rw[List.getElem_map]
  exact hg _ (List.getElem_mem _) _ _ _ (hf i hi).1
end Go.Eng
namespace Go.Eng
open Go.RowKit
variable {P : Program} {op : Op} {env : Env} {h : Upds} {n : Nat} {av av' : AV} {row : Row}
theorem ab.frozen (hs:ab P op env h n (some av) [(n,some row)]) (hf:Frz n row av av'):ab P op env h n (some av') []:=by
 intro C G st σ w a o ho hA hd hst hn hb next Q hnext
 refine hs C G st σ w a o ho hA hd hst hn hb next Q fun x w' σ' G' hst' h1 h2=>?_
 have hnr:∀q row',st.row q=some row'→q≠n:=fun q row' hq e=>by
  subst e
  exact hn q (Nat.le_refl _) (by omega) (hst.rowsG _ _ hq).1
 have hrow:(st.put o.dst (some av) [(n,some row)]).row n=some row:=by
  simp[St.put,St.row,aN]
 have hrow2:∀q row',q≠n→st.row q=some row'→(st.put o.dst (some av) [(n,some row)]).row q=some row':=fun q row' hq hr=>by
  simp only[St.put,St.row,List.cons_append,List.nil_append,aN,if_neg (Ne.symm hq)]
  exact hr
 refine hnext x w' σ' G' (hst'.freeze (st':=st.put o.dst (some av') []) n row hrow (fun i v' hi=>?_) (fun q x' hq=>?_) rfl rfl) h1 h2
 ·cases hdst:o.dst with
  | none =>
   simp only[St.put,hdst]at hi ⊢
   exact⟨v',hi,.refl _⟩
  | some d =>
   simp only[St.put,hdst,aN]at hi ⊢
   split at hi
   ·rename_i e
    rw[if_pos e]
    simp only[Option.some.injEq]at hi
    exact⟨av,rfl,by rw[←hi]; exact hf⟩
   ·rename_i e
    rw[if_neg e]
    exact⟨v',hi,.refl _⟩
 ·have hq':st.row q=some x':=hq
  exact⟨hnr q x' hq',x',hrow2 q x' (hnr q x' hq') hq',.refl _⟩
end Go.Eng
namespace Go.Eng
open Go.RowKit
variable {P : Program} {T : Tab} {env : Env} {h : Upds} {n : Nat}
def o4 (e s:Nat):Nat→List (Nat×Nat)
 | 0=>[]
 | k+1=>o4 e s k++[(k*s,e)]
theorem ku (e s:Nat):∀k,(o4 e s k).length=k
 | 0=>rfl
 | k+1=>by rw[o4,List.length_append,ku e s k]; rfl
theorem qw {e s:Nat}:∀(m k o t:Nat),(o4 e s m)[k]?=some (o,t)→t=e∧o=k*s
 | 0,k,o,t,h=>by simp[o4]at h
 | m+1,k,o,t,h=>by
  rw[o4]at h
  rcases Nat.lt_or_ge k m with hk | hk
  ·rw[List.getElem?_append_left (by rw[ku]; exact hk)]at h
   exact qw m k o t h
  ·rw[List.getElem?_append_right (by rw[ku]; exact hk),ku]at h
   have:k-m=0:=by
    rcases Nat.eq_zero_or_pos (k-m)with e | e
    ·exact e
    ·rw[List.getElem?_eq_none (by simp; omega)]at h; cases h
   rw[this]at h
   simp only[List.getElem?_cons_zero,Option.some.injEq,Prod.mk.injEq]at h
   have e:k=m:=by omega
   subst e
   exact⟨h.2.symm,h.1.symm⟩
theorem kN (hT:aj P T) {t e len:Nat} {r re:TyR} {parts:Array (Nat×Operand)} {q:AV} (ht:lk T t=some r) (hd:r.desc=.array len e) (he:lk T e=some re) (hq:j7 T (o4 e re.size len) (ai env) parts.toList (.d r.zero)=some q) (hag:q.isAgg=true) :
  ab P (.build t parts) env h n (some q) []:=.of_comes fun C G st σ w a o ho hA hdst hst hn=>by
 obtain⟨u,hu,hdu⟩:=(hT t r ht).und
 rw[hd]at hdu
 cases hdu
 obtain⟨z,hz,hzc⟩:=(hT t r ht).run_zero w
 have henc:Rel σ w (st.X C.X0 σ) (.d r.zero) false z.cells.toList:=by rw[←hzc]; exact Enc.closed _ _ _ (hT t r ht).zero
 obtain⟨cs',hfill,h1,h2,h3⟩:=gk hT hst hA (pl:=fun k=>some (k*re.size,re.size)) (fun k o t' r' ho hr'=>by
  obtain⟨rfl,rfl⟩:=qw _ _ _ _ ho
  rw[he]at hr'
  cases hr'
  rfl) parts.toList (.d r.zero) q z.cells.toList hq rfl trivial henc
 refine .quiet (u :=.agg cs'.toArray) hst hdst ⟨rfl,rfl⟩ ?_ (by unfold RelV; rw[if_pos hag]; exact⟨cs',rfl,h1⟩) h3
 have hcs:z.cells.toList.toArray=z.cells:=by simp
 have hpt:(parts.map fun x=>(x.1,a.eval x.2)).toList=parts.toList.map fun x=>(x.1,a.eval x.2):=by simp
 rw[hcs,←hpt]at hfill
 have hb:(Instr.build t (parts.map fun x=>(x.1,a.eval x.2))).run P w=.ok (.agg cs'.toArray) w:=by
  simp only[Instr.build,Sem.run_bind,hz,Result.andThen_ok,run_underlying hu,(hT e re he).run_size,hfill,Sem.run_pure]
 simp only[execOp,ho,Sem.run_bind]
 rw[show (parts.map fun (x:Nat×Operand)=>match x with | (i,x)=>(i,a.eval x))=parts.map fun x=>(x.1,a.eval x.2) from rfl,hb]
 rfl
end Go.Eng
namespace Go.Eng
open Go.RowKit
theorem Frz.ownxe {r te s:Nat} {α:Type} {enc:α→D} {xs:List α} {len:Nat} (hl:len=xs.length):Frz r (.ds te s true enc xs) (.own r 0 len s none) (.d (.arx s enc xs)):=by
 subst hl
 refine⟨rfl,fun _=>rfl,fun _ _=>trivial,fun σ w X X' hx hn hr cs h=>?_⟩
 rcases h with ⟨h0,_,hl,_,rfl⟩ | ⟨b,c,ad,hb,rfl,hle1,hle2,hle3,had⟩
 ·exact .inl ⟨List.eq_nil_of_length_eq_zero hl,none,rfl⟩
 ·rcases hr with ⟨h0,rfl⟩ | ⟨b',c',cur,hb',hex,hh,hsz,hlen,hmax,f,hf,htake⟩
  ·rw[hb]at h0; cases h0
  ·rw[hb]at hb'
   cases hb'
   have hc:c=xs.length:=hex rfl
   subst hc
   refine .inr ⟨ad,by simp,hmax,f,fun i hi=>?_⟩
   obtain⟨h1,h2⟩:=hf i hi
   have hoff:ad=⟨b,0*s,none⟩:=had (by omega)
   subst hoff
   refine⟨Enc.sub hx _ _ h1,h2,fun j u hj=>⟨?_,hn b _ hb⟩⟩
   rw[eB,cell_of_row w b _ cur te (0,0) hh]
   have hjs:j<s:=by rw[←h2]; exact (List.getElem?_eq_some_iff.1 hj).1
   have hcg:=eH (f:=f) (s:=s) xs.length (fun i hi=>(hf i hi).2) i j hi hjs
   rw[←htake,hj,List.getElem?_take]at hcg
   have hlt2:i*s+j<xs.length*s:=by
    have:(i+1)*s≤xs.length*s:=Nat.mul_le_mul_right s hi
    rw[Nat.add_mul]at this; omega
   rw[if_pos hlt2]at hcg
   rw[←Array.getElem?_toList,Nat.zero_mul,Nat.zero_add]
   exact hcg
section
variable {P : Program} {T : Tab} {env : Env} {h : Upds} {n : Nat}
end
end Go.Eng
namespace Go.Proofs.Ytmdgmolbamlicaa
open Go.Eng Go.Plain
set_option maxHeartbeats 32000000
set_option maxRecDepth 20000
attribute [local irreducible] WC RegS RegD SeqQ BlkQ ScoQ RegK CutK Sat SatN FnIs LoopQ ab OpIs
theorem Cd (l:List Int) (hp:0<l.length) (hlen:l.length≤1048576):FnIs Try.prog 89 [.d (.arr 1 cN l)] [] (.own 64 0 l.length 1 none) [(64,.ds 5 1 true cN l)]:=by
 have hd:decide ((l.length:Int)=0)=false:=dF (by omega)
 have hcp:l.take (List.replicate l.length (0:Int)).length++(List.replicate l.length (0:Int)).drop l.length=l:=by simp
 have hmin:min l.length (List.replicate l.length (0:Int)).length=l.length:=by simp
 refine aq aa Try.func89 rfl rfl rfl ?_;refine z20 ?_;refine aO (dA (enc:=cN) (s:=1) (N:=l.length) aa 0 rfl rfl rfl rfl rfl rfl rfl hlen rfl) rfl ?_;refine z7 ?_;refine aO (tO (r:=64+8+8+8+8+8+8) (xs:=List.replicate l.length (0:Int)) (ys:=l) (enc:=cN) (zs:=l) (m:=l.length) aa rfl rfl rfl rfl (by rw[List.length_replicate]; rfl) rfl rfl hcp hmin) rfl ?_;refine z9 ?_
 exact⟨trivial,[(64,some _)],lg zV ⟨zR,trivial⟩⟩
theorem Dz (l:List UInt8) (hlen:l.length≤1048576):FnIs Try.prog 89 [.d (encB l)] [] (.d (encB l)) []:=by
 cases l with
 | nil =>
  have hd:decide ((0:Int)=0)=true:=rfl
  refine aq aa Try.func89 rfl rfl rfl ?_;refine z21 ?_
  exact⟨trivial,[],lg ⟨⟨_,rfl,nil_arr _ _⟩,rfl,trivial⟩ trivial⟩
 | cons a l=>exact (Cd (byI (a::l)) (by simp[byI]) (by rw[fO]; exact hlen)).freeze_out 64 _ rfl (Frz.own rfl) trivial
def zPOp:D :=.cons (u8s 0) (.cons (i6 0) (.cons (.sc (.slice none 0 0)) .nil))
def qP:Option HOp→D
 | none=>.cons (i6 0) (.cons (i6 0) (.cons (i6 0) (.cons zPOp (.cons (i6 0) (.cons (i6 0) (.cons (.vec 32 1 cN (List.replicate 32 0)) (.cons (i6 0) .nil)))))))
 | some x=>a9 x
def encEN:Option HEv→D
 | none=>.cons (u8s 0) (.cons (i6 0) (.cons zPOp (.cons (.vec 32 1 cN (List.replicate 32 0)) (.cons (i6 0) .nil))))
 | some x=>bu x
abbrev fv (l:List HOp):D :=.arx 41 a9 l
abbrev Fm (l:List HEv):D :=.arx 38 bu l
def FH:Option (List HEv)→D
 | none=>.sc (.slice none 0 0)
 | some x=>Fm x
theorem C9 (l:List HOp):gK [.d (bS l)] [.d (.arr 41 qP (l.map some))]:=⟨⟨AVLe.d (Ck rfl fun _ _ _ _ _ h=>h) rfl,fun _ _=>trivial⟩,trivial⟩
theorem BQ (l:List HOp):aM (.ds 67 41 true qP (l.map some)) (.ds 67 41 true a9 l):=
 aM.ds_map (fun o=>match o with | some x=>x | none=>⟨0,0,0,zOp,0,0,[],0⟩) (by rw[List.map_map]; exact (List.map_id _).symm) fun x hx=>by
  obtain⟨y,_,rfl⟩:=List.mem_map.1 hx
  exact fun _ _ _ h=>h
theorem Cc (l:List (Option HOp)) (hp:0<l.length) (hlen:l.length≤1048576):FnIs Try.prog 82 [.d (.arr 41 qP l)] [] (.own 64 0 l.length 41 none) [(64,.ds 67 41 true qP l)]:=by
 have hd:decide ((l.length:Int)=0)=false:=dF (by omega)
 have hcp:l.take (List.replicate l.length (none:Option HOp)).length++(List.replicate l.length (none:Option HOp)).drop l.length=l:=by simp
 have hmin:min l.length (List.replicate l.length (none:Option HOp)).length=l.length:=by simp
 refine aq aa Try.func82 rfl rfl rfl ?_;refine z20 ?_;refine aO (dA (enc:=qP) (s:=41) (N:=l.length) aa none rfl rfl rfl rfl rfl rfl rfl hlen rfl) rfl ?_;refine z7 ?_;refine aO (tO (r:=64+8+8+8+8+8+8) (xs:=List.replicate l.length none) (ys:=l) (enc:=qP) (zs:=l) (m:=l.length) aa rfl rfl rfl rfl (by rw[List.length_replicate]; rfl) rfl rfl hcp hmin) rfl ?_;refine z9 ?_
 exact⟨trivial,[(64,some _)],lg zV ⟨zR,trivial⟩⟩
theorem Dy (l:List HOp) (hlen:l.length≤1048576):FnIs Try.prog 82 [.d (.arr 41 a9 l)] [] (.d (.arx 41 a9 l)) []:=by
 cases l with
 | nil =>
  have hd:decide ((0:Int)=0)=true:=rfl
  refine aq aa Try.func82 rfl rfl rfl ?_;refine z21 ?_
  exact⟨trivial,[],lg ⟨⟨_,rfl,jf _ _⟩,rfl,trivial⟩ trivial⟩
 | cons a l=>exact FnIs.args_le (C9 (a::l)) ((Cc ((a::l).map some) (by simp) (by rw[List.length_map]; exact hlen)).freeze_out 64 _ rfl (Frz.row_le (BQ (a::l)) (Frz.ownxe (by simp))) trivial)
theorem Cr (x:POp) (c1 c2:Bool) (h1:decide (x.kind=0)=c1) (h2:decide (x.index=0)=c2):FnIs Try.prog 90 [.d (ce x)] [] (.bool (c1&&c2&&decide (((byI x.data).length:Int)=0))) []:=by
 refine aq aa Try.func90 rfl rfl rfl ?_;refine z12 ?_
 cases c1 with
 | false =>
  refine z14 ?_
  exact⟨trivial,[],lf⟩
 | true =>
  refine z8 ?_
  cases c2 with
  | false =>
   refine z9 ?_
   exact⟨trivial,[],lf⟩
  | true =>
   refine z13 ?_
   exact⟨trivial,[],lf⟩
theorem Bp (x:POp):(decide (x.kind=0)&&decide (x.index=0)&&decide (((byI x.data).length:Int)=0))=decide (x=zOp):=by
 obtain⟨k,i,d⟩:=x
 rw[fO]
 have:decide (((d.length:Nat):Int)=0)=decide (d=[]):=decide_eq_decide.2 (by rw[←List.length_eq_zero_iff]; omega)
 simp only[this,zOp,POp.mk.injEq]
 by_cases h1:k=0 <;> by_cases h2:i=0 <;> by_cases h3:d=[] <;> simp[h1,h2,h3]
theorem pJ (x:POp):FnIs Try.prog 90 [.d (ce x)] [] (.bool (decide (x=zOp))) []:=by
 have:=Cr x _ _ rfl rfl
 rwa [Bp]at this
theorem CT:DLe (.cons (.sc (.int .u8 0)) (.cons (.sc (.int .i64 0)) (.cons (.sc nil_) .nil))) (ce zOp):=by
 rintro w X cs ⟨c1,r1,rfl,h1,c2,r2,rfl,h2,c3,r3,rfl,h3,h4⟩
 exact⟨c1,_,rfl,h1,c2,_,rfl,h2,c3,r3,rfl,.inl ⟨rfl,h3.1⟩,h4⟩
def befB (a b:HOp):Bool:=if a.era=b.era then decide (0≤a.returned)&&decide (a.returned<b.invoked) else decide (a.era<b.era)
theorem kO (a b:HOp):FnIs Try.prog 55 [.d (a9 a),.d (a9 b)] [] (.bool (befB a b)) []:=by
 refine aq aa Try.func55 rfl rfl rfl ?_
 unfold befB
 refine z17 ?_
 by_cases h:a.era=b.era
 ·have hd:(!decide (a.era=b.era))=false:=by rw[dT h]; rfl
  rw[if_pos h]
  obtain⟨c,hc⟩:∃c,decide (0≤a.returned)=c:=⟨_,rfl⟩
  rw[hc]
  refine z9 ?_
  cases c with
  | true =>
   refine z15 ?_
   exact⟨trivial,[],lf⟩
  | false =>
   refine z10 ?_
   exact⟨trivial,[],lf⟩
 ·have hd:(!decide (a.era=b.era))=true:=by rw[dF h]; rfl
  rw[if_neg h]
  refine z13 ?_
  exact⟨trivial,[],lf⟩
theorem xr (a b:HOp) (c1 c2 c3 c4:Bool) (h1:decide (a.era<b.era)=c1) (h2:decide (a.era=b.era)=c2) (h3:decide (-1<a.returned)=c3) (h4:decide (a.returned<b.invoked)=c4):FnIs Try.prog 65 [.d (a9 a),.d (a9 b)] [] (.d (i6 (if c1||c2&&c3&&c4 then 1 else 0))) []:=by
 refine aq aa Try.func65 rfl rfl rfl ?_;refine z16 ?_
 cases c1 with
 | true =>
  refine z28 ?_
  exact⟨trivial,[],lf⟩
 | false =>
  refine z12 ?_
  cases c2 with
  | false =>
   refine z26 ?_
   exact⟨trivial,[],lf⟩
  | true =>
   refine z10 ?_
   cases c3 with
   | false =>
    refine z19 ?_
    exact⟨trivial,[],lf⟩
   | true =>
    refine z15 ?_
    cases c4 with
    | false =>
     refine z9 ?_
     exact⟨trivial,[],lf⟩
    | true =>
     refine z8 ?_
     exact⟨trivial,[],lf⟩
theorem ln (a b:HOp):FnIs Try.prog 65 [.d (a9 a),.d (a9 b)] [] (.d (i6 (if befB a b then 1 else 0))) []:=by
 have:=xr a b _ _ _ _ rfl rfl rfl rfl
 have e:(decide (a.era<b.era)||decide (a.era=b.era)&&decide (-1<a.returned)&&decide (a.returned<b.invoked))=befB a b:=by
  unfold befB
  have e1:decide (-1<a.returned)=decide (0≤a.returned):=decide_eq_decide.2 (by omega)
  rw[e1]
  by_cases h:a.era=b.era
  ·rw[if_pos h,dT h,dF (by omega:¬a.era<b.era)]; simp
  ·rw[if_neg h,dF h]; simp
 rwa [e]at this
theorem Dj (n:Int) (xs:List Int) (hL:xs.length≤1000000000):FnIs Try.prog 92 [.d (.arr 1 i6 xs),.int .i64 n] [] (.int .i64 (idxF (fun y=>decide (n=y)) xs)) []:=by
 refine aq aa Try.func92 rfl rfl rfl ?_;refine z14 ?_
 refine wc_inv (fun i:Nat=>⟨[(8,.int .i64 i),(7,.int .i64 xs.length),(1,.int .i64 n),(0,.d (.arr 1 i6 xs))],[],72,Try.f92.ntmps,64⟩) (fun i=>i≤xs.length∧∀j,j<i→∀y,xs[j]?=some y→decide (n=y)=false) (fun i=>xs.length-i) 0 [] ⟨Nat.zero_le _,fun j hj=>absurd hj (Nat.not_lt_zero _)⟩
  (lg zi trivial) ?_
 rintro i ⟨hi,hno⟩
 refine bt ?_;refine z6 ?_
 refine eW rfl (fun h2=>?_) (fun h2=>?_)
 ·have hlt:i<xs.length:=by have:=of_decide_eq_true h2; omega
  obtain⟨x,hx⟩:∃u,xs[i]?=some u:=⟨_,List.getElem?_eq_getElem hlt⟩
  have hx':xs[((i:Int)).toNat]?=some x:=by rw[Int.toNat_natCast]; exact hx
  cases hp:decide (n=x) with
  | true =>
   refine z33 ?_
   exact⟨trivial,[],lg ⟨⟨_,rfl,AVLe.of_eq (by rw[xP (p:=fun y=>decide (n=y)) hx hp hno]; rfl)⟩,rfl,trivial⟩ trivial⟩
  | false =>
   refine z28 ?_;refine an (i+1) [] ⟨hlt,fun j hj y hy=>?_⟩ (by omega) ?_
   ·by_cases e:j=i
    ·subst e
     rw[hx]at hy
     cases hy
     exact hp
    ·exact hno j (by omega) y hy
   ·exact lg zi trivial
 ·have he:i=xs.length:=by have:=of_decide_eq_false h2; omega
  refine z11 ?_
  exact⟨trivial,[],lg ⟨⟨_,rfl,AVLe.of_eq (by
   rw[xQ (p:=fun y=>decide (n=y)) fun j y hy=>hno j (by have:=(List.getElem?_eq_some_iff.1 hy).1; omega) y hy]
   rfl)⟩,rfl,trivial⟩ trivial⟩
theorem A3 (n:Int) (xs:List Int) (hL:xs.length≤1000000000):FnIs Try.prog 91 [.d (.arr 1 i6 xs),.int .i64 n] [] (.bool (xs.any fun y=>decide (n=y))) []:=by
 refine aq aa Try.func91 rfl rfl rfl ?_;refine z9 ?_;refine rQ (yK (Dj n xs hL)) ?_;refine z5 ?_
 exact⟨trivial,[],lg ⟨⟨_,rfl,AVLe.of_eq (by rw[←AD]; rfl)⟩,rfl,trivial⟩ trivial⟩
end Go.Proofs.Ytmdgmolbamlicaa
namespace Go.Proofs.Ytmdgmolbamlicaa
open Go.Eng Go.Plain
set_option maxHeartbeats 32000000
set_option maxRecDepth 20000
structure RdS where
 busy:List Int
 number:List Int
 era:Int
 read:Int
 all:List HOp
def fl:List Int:=[0,0,0,0,0,0,0,0]
def rd0:RdS:=⟨fl,fl,0,0,[]⟩
def kn4 (e:Int):Bool:=decide (e=0)||decide (e=1)||decide (e=8)||decide (e=9)
def inv1 (s:RdS) (x:HEv):Bool:=decide (0≤x.client)&&decide (x.client<8)&&decide (s.busy[x.client.toNat]?=some 0)&&decide (x.op.data.length≤64)&&decide (x.value=zBk)&&decide (x.err=0)
def opOf (s:RdS) (x:HEv):Option HOp:=match s.busy[x.client.toNat]? with
 | some b=>s.all[(b-1).toNat]?
 | none=>none
def ret1 (s:RdS) (x:HEv):Bool:=decide (0≤x.client)&&decide (x.client<8) && !decide (s.busy[x.client.toNat]?=some 0)&&decide (x.op=zOp)&&kn4 x.err&&(decide (x.value=zBk)||(match opOf s x with | some o=>decide (o.op.kind=1)&&decide (x.err=0) | none=>false))
def sj (x:HEv):Bool:=decide (x.client=0)&&decide (x.op=zOp)&&decide (x.value=zBk)&&decide (x.err=0)
def bR (s:RdS) (x:HEv):RdS×Bool :=
 let c:=x.client.toNat
 if x.kind=1 then
  if inv1 s x then (⟨s.busy.set c (s.all.length+1),s.number.set c ((s.number[c]?.getD 0)+1),s.era,s.read+1,s.all++[⟨x.client,s.number[c]?.getD 0,s.era,x.op,s.read,-1,zBk,0⟩]⟩,true)
  else ({ s with read:=s.read+1 },false)
 else if x.kind=2 then
  if ret1 s x then (⟨s.busy.set c 0,s.number,s.era,s.read+1,match opOf s x with | some o=>s.all.set ((s.busy[c]?.getD 0)-1).toNat { o with returned:=s.read,value:=x.value,err:=x.err } | none=>s.all⟩,true)
  else ({ s with read:=s.read+1 },false)
 else if x.kind=3 then (⟨fl,s.number,s.era+1,s.read+1,s.all⟩,sj x)
 else ({ s with read:=s.read+1 },false)
structure RdS.Ok (s:RdS) (n:Nat):Prop where
 blen:s.busy.length=8
 nlen:s.number.length=8
 busy:∀b∈s.busy,0≤b∧b≤s.all.length
 number:∀b∈s.number,0≤b∧b≤n
 era:0≤s.era∧s.era≤n
 read:s.read=n
 all:s.all.length≤n
theorem rz:rd0.Ok 0:=⟨rfl,rfl,by decide,by decide,by decide,rfl,by decide⟩
theorem RdS.Ok.next {s:RdS} {n:Nat} (h:s.Ok n) (x:HEv):(bR s x).1.Ok (n+1):=by
 have mset:∀ {l:List Int} {c:Nat} {v b:Int},b∈l.set c v→b=v∨b∈l:=fun hb=>by
  rcases List.mem_or_eq_of_mem_set hb with h | h
  ·exact .inr h
  ·exact .inl h
 have hnum:∀c:Nat,0≤s.number[c]?.getD 0∧s.number[c]?.getD 0≤n:=fun c=>by
  cases hc:s.number[c]? with
  | none=>simp
  | some b=>exact h.number b (List.mem_of_getElem? hc)
 have hbase:({ s with read:=s.read+1 }:RdS).Ok (n+1):=⟨h.blen,h.nlen,h.busy,fun b hb=>by have:=h.number b hb; omega,by have:=h.era; constructor <;> simp only <;> omega,by have:=h.read; simp only; omega,by have:=h.all; simp only; omega⟩
 have h1:=h.era
 have h2:=h.read
 have h3:=h.all
 unfold bR
 simp only
 by_cases k1:x.kind=1
 ·rw[if_pos k1]
  cases hi:inv1 s x with
  | false=>simpa using hbase
  | true =>
   simp only[if_pos]
   refine⟨by simp[h.blen],by simp[h.nlen],fun b hb=>?_,fun b hb=>?_,by constructor <;> simp only <;> omega,by simp only; omega,by simp; omega⟩
   ·rcases mset hb with rfl | hb
    ·constructor
     ·omega
     ·simp
    ·have:=h.busy b hb
     simp; omega
   ·rcases mset hb with rfl | hb
    ·have:=hnum x.client.toNat
     omega
    ·have:=h.number b hb; omega
 ·rw[if_neg k1]
  by_cases k2:x.kind=2
  ·rw[if_pos k2]
   cases hi:ret1 s x with
   | false=>simpa using hbase
   | true =>
    simp only[if_pos]
    have hl:(match opOf s x with | some o=>s.all.set ((s.busy[x.client.toNat]?.getD 0)-1).toNat { o with returned:=s.read,value:=x.value,err:=x.err } | none=>s.all).length=s.all.length:=by
     cases opOf s x <;> simp
    refine⟨by simp[h.blen],h.nlen,fun b hb=>?_,fun b hb=>by have:=h.number b hb; omega,by constructor <;> simp only <;> omega,by simp only; omega,by simp only[hl]; omega⟩
    simp only[hl]
    rcases mset hb with rfl | hb
    ·omega
    ·exact h.busy b hb
  ·rw[if_neg k2]
   by_cases k3:x.kind=3
   ·rw[if_pos k3]
    refine⟨rfl,h.nlen,fun b hb=>?_,fun b hb=>by have:=h.number b hb; omega,by constructor <;> simp only <;> omega,by simp only; omega,by simp only; omega⟩
    have:b=0:=by simpa[fl]using hb
    simp only
    omega
   ·rw[if_neg k3]; exact hbase
end Go.Proofs.Ytmdgmolbamlicaa
namespace Go.Proofs.Ytmdgmolbamlicaa
open Go.Eng Go.Plain
set_option maxHeartbeats 32000000
set_option maxRecDepth 20000
attribute [local irreducible] WC RegS RegD SeqQ BlkQ ScoQ RegK CutK Sat SatN FnIs LoopQ ab OpIs
abbrev it (s:RdS) (r:Nat):Row :=.box 160 (.acons (.d (.vec 8 1 i6 s.busy)) (.acons (.d (.vec 8 1 i6 s.number)) (.acons (.d (i6 s.era)) (.acons (.d (i6 s.read)) (.acons (.own r 0 s.all.length 41 none) .anil)))))
abbrev dN (l:List HOp):Row :=.ds 67 41 false a9 l
abbrev jD (s:RdS) (x:HEv) (s':RdS) (b:Bool):Prop:=FnIs Try.prog 86 [.ptr 0 [],.d (bu x)] [(0,it s 1),(1,dN s.all)] (.bool b) [(0,it s' 64),(64,dN s'.all)]
theorem uu (s:RdS) (x:HEv) (n:Nat) (hs:s.Ok n) (hn:n≤1000000) (k1:x.kind≠1) (k2:x.kind≠2) (k3:x.kind≠3) (c0:Bool) (h0:decide (0≤x.client)=c0):jD s x { s with read:=s.read+1 } false:=by
 have hr:=hs.read
 have d1:decide (x.kind=1)=false:=dF k1
 have d2:decide (x.kind=2)=false:=dF k2
 have d3:decide (x.kind=3)=false:=dF k3
 have hw:IntKind.i64.wrap (s.read+1)=s.read+1:=aH (by omega) (by omega)
 refine aq aa Try.func86 rfl rfl rfl ?_;refine z24 ?_;refine bH (aG aa rfl rfl rfl ⟨_,⟨_,⟨rfl,rfl,rfl⟩,rfl⟩,rfl⟩ rfl) ?_;refine z8 ?_
 cases c0 with
 | false =>
  refine z11 ?_;refine rQ (bB aa rfl rfl rfl) ?_;refine rQ (dW rfl rfl rfl rfl (by kernel_rfl) (by decide) (cJ x.value zBk)) ?_;refine z40 ?_
  exact⟨trivial,[(64,some 1)],lg zV ⟨zR,zR,trivial⟩⟩
 | true =>
  refine z14 ?_;refine rQ (bB aa rfl rfl rfl) ?_;refine rQ (dW rfl rfl rfl rfl (by kernel_rfl) (by decide) (cJ x.value zBk)) ?_;refine z40 ?_
  exact⟨trivial,[(64,some 1)],lg zV ⟨zR,zR,trivial⟩⟩
theorem uv (s:RdS) (x:HEv) (n:Nat) (hs:s.Ok n) (hn:n≤1000000) (k3:x.kind=3) (c0 c1 c2 c3:Bool) (h0:decide (0≤x.client)=c0) (h1:decide (x.client=0)=c1) (h2:decide (x.op=zOp)=c2) (h3:decide (x.value=zBk)=c3):jD s x ⟨fl,s.number,s.era+1,s.read+1,s.all⟩ (c1&&c2&&c3&&decide (x.err=0)):=by
 have hr:=hs.read
 have he:=hs.era
 have d1:decide (x.kind=1)=false:=dF (by omega)
 have d2:decide (x.kind=2)=false:=dF (by omega)
 have d3:decide (x.kind=3)=true:=dT k3
 have hw:IntKind.i64.wrap (s.read+1)=s.read+1:=aH (by omega) (by omega)
 have hw2:IntKind.i64.wrap (s.era+1)=s.era+1:=aH (by omega) (by omega)
 refine aq aa Try.func86 rfl rfl rfl ?_;refine z24 ?_;refine bH (aG aa rfl rfl rfl ⟨_,⟨_,⟨rfl,rfl,rfl⟩,rfl⟩,rfl⟩ rfl) ?_;refine z8 ?_
 cases c0 with
 | false =>
  have e1:c1=false:=by rw[←h1]; exact dF (by have:=of_decide_eq_false h0; omega)
  subst e1
  refine z11 ?_;refine rQ (bB aa rfl rfl rfl) ?_;refine rQ (dW rfl rfl rfl rfl (by kernel_rfl) (by decide) (cJ x.value zBk)) ?_;refine z37 ?_;refine rQ (mL aa rfl rfl rfl) ?_;refine bE rfl (qW (enc:=i6) (s:=1) (L:=8) aa (0:Int) rfl rfl rfl rfl rfl rfl rfl rfl ⟨_,⟨_,⟨rfl,rfl,rfl⟩,rfl⟩,rfl⟩) rfl rfl ?_;refine z11 ?_;refine bH (aG aa rfl rfl rfl ⟨_,⟨_,⟨rfl,rfl,rfl⟩,rfl⟩,rfl⟩ rfl) ?_;refine z26 ?_
  exact⟨trivial,[(64,some 1)],lg zV ⟨zR,zR,trivial⟩⟩
 | true =>
  refine z14 ?_;refine rQ (bB aa rfl rfl rfl) ?_;refine rQ (dW rfl rfl rfl rfl (by kernel_rfl) (by decide) (cJ x.value zBk)) ?_;refine z37 ?_;refine rQ (mL aa rfl rfl rfl) ?_;refine bE rfl (qW (enc:=i6) (s:=1) (L:=8) aa (0:Int) rfl rfl rfl rfl rfl rfl rfl rfl ⟨_,⟨_,⟨rfl,rfl,rfl⟩,rfl⟩,rfl⟩) rfl rfl ?_;refine z11 ?_;refine bH (aG aa rfl rfl rfl ⟨_,⟨_,⟨rfl,rfl,rfl⟩,rfl⟩,rfl⟩ rfl) ?_;refine z8 ?_
  cases c1 with
  | false =>
   refine z18 ?_
   exact⟨trivial,[(64,some 1)],lg zV ⟨zR,zR,trivial⟩⟩
  | true =>
   refine z5 ?_;refine rQ (yK (pJ x.op)) ?_;refine z2 ?_
   cases c2 with
   | false =>
    refine z13 ?_
    exact⟨trivial,[(64,some 1)],lg zV ⟨zR,zR,trivial⟩⟩
   | true =>
    refine z4 ?_
    cases c3 with
    | false =>
     refine z10 ?_
     exact⟨trivial,[(64,some 1)],lg zV ⟨zR,zR,trivial⟩⟩
    | true =>
     refine z13 ?_
     exact⟨trivial,[(64,some 1)],lg zV ⟨zR,zR,trivial⟩⟩
theorem yv (s:RdS) (x:HEv) (n:Nat) (hs:s.Ok n) (hn:n≤1000000) (k1:x.kind=1) (m:Int) (hc0:0≤x.client) (hc8:x.client<8) (hbg:s.busy[x.client.toNat]?=some 0) (hng:s.number[x.client.toNat]?=some m) (hd64:x.op.data.length≤64) (hval:x.value=zBk) (herr:x.err=0) :
  jD s x ⟨s.busy.set x.client.toNat ((s.all.length+1:Nat):Int),s.number.set x.client.toNat (m+1),s.era,s.read+1,s.all++[⟨x.client,m,s.era,x.op,s.read,-1,zBk,0⟩]⟩ true:=by
 have hr:=hs.read
 have ha:=hs.all
 have hm:=hs.number m (List.mem_of_getElem? hng)
 have d1:decide (x.kind=1)=true:=dT k1
 have c0:decide (0≤x.client)=true:=dT hc0
 have c8:decide (x.client<8)=true:=dT hc8
 have n8:(!decide (x.client<8))=false:=by rw[c8]; rfl
 have b0:decide ((0:Int)<0)=false:=rfl
 have l64:decide ((64:Int)<((byI x.op.data).length:Int))=false:=dF (by rw[fO]; omega)
 have v0:(!decide (x.value=zBk))=false:=by rw[dT hval]; rfl
 have e0:(!decide (x.err=0))=false:=by rw[dT herr]; rfl
 have hw:IntKind.i64.wrap (s.read+1)=s.read+1:=aH (by omega) (by omega)
 have hwm:IntKind.i64.wrap (m+1)=m+1:=aH (by omega) (by omega)
 have hlen:x.op.data.length≤1048576:=by omega
 have hal:s.all.length+1≤1048576:=by omega
 simp only[jD,it,List.length_append,List.length_cons,List.length_nil,Nat.zero_add]
 refine aq aa Try.func86 rfl rfl rfl ?_;refine z24 ?_;refine bH (aG aa rfl rfl rfl ⟨_,⟨_,⟨rfl,rfl,rfl⟩,rfl⟩,rfl⟩ rfl) ?_;refine z22 ?_;refine rQ (bB aa rfl rfl rfl) ?_;refine rQ (dW rfl rfl rfl rfl (by kernel_rfl) (by decide) (cJ x.value zBk)) ?_;refine z22 ?_;refine aD [39,41] [64] rfl rfl (by assumption) rfl (ay aa rfl rfl ⟨_,rfl,rfl⟩ rfl) ?_;refine z3 ?_;refine aD [39,45] [0] rfl rfl (by assumption) rfl (ay aa rfl rfl ⟨_,⟨rfl,_,hbg,rfl⟩,rfl⟩ rfl) ?_;refine z5 ?_;refine aD [49,51] [64] rfl rfl rfl rfl (ay aa rfl rfl ⟨_,rfl,rfl⟩ rfl) ?_;refine z9 ?_;refine aD [60,61] [64] rfl rfl (by assumption) rfl (ay aa rfl rfl ⟨_,rfl,rfl⟩ rfl) ?_;refine z12 ?_;refine rQ (yK (Dz x.op.data hlen)) ?_;refine z2 ?_;refine bH (aG aa rfl rfl rfl ⟨_,⟨_,⟨_,⟨_,⟨rfl,rfl,rfl⟩,rfl⟩,rfl⟩,rfl⟩,rfl⟩ rfl) ?_;refine z8 ?_;refine dQ [74] [0] iM ?_;refine z1 ?_;refine dQ [76] [64] iB ?_;refine z2 ?_;refine dQ [79] [64] iB ?_;refine z3 ?_;refine dQ [83] [0] (ay aa rfl rfl ⟨_,⟨rfl,_,hng,rfl⟩,rfl⟩ rfl) ?_;refine z3 ?_;refine dQ [87] [0] iM ?_;refine z1 ?_;refine dQ [89] [64] iB ?_;refine z2 ?_;refine c9 [92] [] rfl (ae (s:=41) aa rfl rfl rfl rfl rfl rfl rfl rfl) ?_;refine jv [75,93] [1,784] rfl (aJ (enc:=a9) (s:=41) (xs:=s.all) aa ⟨x.client,m,s.era,x.op,s.read,-1,zBk,0⟩ rfl rfl rfl rfl rfl rfl rfl rfl rfl hal rfl) ?_;refine z2 ?_;refine bj [96,94] [0] (aG aa rfl rfl rfl ⟨_,⟨_,⟨rfl,rfl,rfl⟩,rfl⟩,rfl⟩ rfl) ?_;refine z6 ?_;refine dQ [98] [64] iB ?_;refine z3 ?_;refine dQ [102] [0] (ay aa rfl rfl ⟨_,⟨rfl,_,hng,rfl⟩,rfl⟩ rfl) ?_;refine z4 ?_;refine bj [107,104] [0] (aG aa rfl rfl rfl ⟨_,⟨_,⟨_,⟨rfl,_,m+1,hng,⟨rfl,rfl,rfl⟩,rfl⟩,rfl⟩,rfl⟩,rfl⟩ rfl) ?_;refine z5 ?_;refine dQ [109] [64] iB ?_;refine z3 ?_;refine dQ [113] [0] iM ?_;refine dQ [114] [792] (ee aa rfl rfl) ?_;refine z3 ?_;refine bj [118,115] [0] (aG aa rfl rfl rfl ⟨_,⟨_,⟨_,⟨rfl,_,((s.all.length+1:Nat):Int),hbg,⟨rfl,rfl,rfl⟩,rfl⟩,rfl⟩,rfl⟩,rfl⟩ rfl) ?_;refine z9 ?_
 exact⟨trivial,[(64,some _)],lg zV ⟨zR,zR,trivial⟩⟩
theorem sA (s:RdS) (x:HEv) (n:Nat) (hs:s.Ok n) (hn:n≤1000000) (k1:x.kind=1) (hno:inv1 s x=false):jD s x { s with read:=s.read+1 } false:=by
 have hr:=hs.read
 have d1:decide (x.kind=1)=true:=dT k1
 have hw:IntKind.i64.wrap (s.read+1)=s.read+1:=aH (by omega) (by omega)
 refine aq aa Try.func86 rfl rfl rfl ?_;refine z24 ?_;refine bH (aG aa rfl rfl rfl ⟨_,⟨_,⟨rfl,rfl,rfl⟩,rfl⟩,rfl⟩ rfl) ?_;refine z8 ?_
 by_cases hc0:0≤x.client
 ·have c0:decide (0≤x.client)=true:=dT hc0
  refine z14 ?_;refine rQ (bB aa rfl rfl rfl) ?_;refine rQ (dW rfl rfl rfl rfl (by kernel_rfl) (by decide) (cJ x.value zBk)) ?_;refine z20 ?_
  by_cases hc8:x.client<8
  ·have c8:decide (x.client<8)=true:=dT hc8
   have n8:(!decide (x.client<8))=false:=by rw[c8]; rfl
   obtain⟨b,hbg⟩:∃b,s.busy[x.client.toNat]?=some b:=⟨_,List.getElem?_eq_getElem (by rw[hs.blen]; omega)⟩
   have hb:=hs.busy b (List.mem_of_getElem? hbg)
   refine z2 ?_;refine aD [39,41] [64] rfl rfl (by assumption) rfl (ay aa rfl rfl ⟨_,rfl,rfl⟩ rfl) ?_;refine z3 ?_;refine aD [39,45] [0] rfl rfl (by assumption) rfl (ay aa rfl rfl ⟨_,⟨rfl,_,hbg,rfl⟩,rfl⟩ rfl) ?_;refine z3 ?_
   by_cases hb0:b=0
   ·have b0:decide (0<b)=false:=dF (by omega)
    refine z2 ?_;refine aD [49,51] [64] rfl rfl (by assumption) rfl (ay aa rfl rfl ⟨_,rfl,rfl⟩ rfl) ?_;refine z4 ?_
    by_cases hd:x.op.data.length≤64
    ·have l64:decide ((64:Int)<((byI x.op.data).length:Int))=false:=dF (by rw[fO]; omega)
     refine z4 ?_
     by_cases hv:x.value=zBk
     ·have v0:(!decide (x.value=zBk))=false:=by rw[dT hv]; rfl
      have e0:(!decide (x.err=0))=true:=by
       skip
       cases h:decide (x.err=0) with
       | false=>rfl
       | true =>
        rw[inv1,c0,c8,hbg,hb0,dT hd,dT hv,h]at hno
        cases hno
      refine z1 ?_;refine aD [60,61] [64] rfl rfl (by assumption) rfl (ay aa rfl rfl ⟨_,rfl,rfl⟩ rfl) ?_;refine z14 ?_
      exact⟨trivial,[(64,some 1)],lg zV ⟨zR,zR,trivial⟩⟩
     ·have v0:(!decide (x.value=zBk))=true:=by rw[dF hv]; rfl
      refine z16 ?_
      exact⟨trivial,[(64,some 1)],lg zV ⟨zR,zR,trivial⟩⟩
    ·have l64:decide ((64:Int)<((byI x.op.data).length:Int))=true:=dT (by rw[fO]; omega)
     refine z20 ?_
     exact⟨trivial,[(64,some 1)],lg zV ⟨zR,zR,trivial⟩⟩
   ·have b0:decide (0<b)=true:=dT (by omega)
    refine z27 ?_
    exact⟨trivial,[(64,some 1)],lg zV ⟨zR,zR,trivial⟩⟩
  ·have c8:decide (x.client<8)=false:=dF hc8
   have n8:(!decide (x.client<8))=true:=by rw[c8]; rfl
   refine z37 ?_
   exact⟨trivial,[(64,some 1)],lg zV ⟨zR,zR,trivial⟩⟩
 ·have c0:decide (0≤x.client)=false:=dF hc0
  refine z11 ?_;refine rQ (bB aa rfl rfl rfl) ?_;refine rQ (dW rfl rfl rfl rfl (by kernel_rfl) (by decide) (cJ x.value zBk)) ?_;refine z57 ?_
  exact⟨trivial,[(64,some 1)],lg zV ⟨zR,zR,trivial⟩⟩
theorem wq (e:Int):([0,1,8,9]:List Int).any (fun y=>decide (e=y))=kn4 e:=by simp[kn4,Bool.or_assoc]
theorem ut (s:RdS) (x:HEv) (n:Nat) (hs:s.Ok n) (hn:n≤1000000) (k2:x.kind=2) (b:Int) (o:HOp) (hc0:0≤x.client) (hc8:x.client<8) (hbg:s.busy[x.client.toNat]?=some b) (hb0:b≠0) (hog:s.all[(b-1).toNat]?=some o) (hz:x.op=zOp) (c1 c2 c3:Bool) (h1:(!([0,1,8,9]:List Int).any (fun y=>decide (x.err=y)))=c1) (h2:(!decide (x.value=zBk))=c2) (h3:(!decide (o.op.kind=1))=c3) (h4:(c1||c2&&(c3 || !decide (x.err=0)))=false) :
  jD s x ⟨s.busy.set x.client.toNat 0,s.number,s.era,s.read+1,s.all.set (b-1).toNat { o with returned:=s.read,value:=x.value,err:=x.err }⟩ true:=by
 have hr:=hs.read
 have ha:=hs.all
 have hb:=hs.busy b (List.mem_of_getElem? hbg)
 have d1:decide (x.kind=1)=false:=dF (by omega)
 have d2:decide (x.kind=2)=true:=dT k2
 have c0:decide (0≤x.client)=true:=dT hc0
 have c8:decide (x.client<8)=true:=dT hc8
 have n8:(!decide (x.client<8))=false:=by rw[c8]; rfl
 have b0:decide (b=0)=false:=dF hb0
 have z0:(!decide (x.op=zOp))=false:=by rw[dT hz]; rfl
 have hw:IntKind.i64.wrap (s.read+1)=s.read+1:=aH (by omega) (by omega)
 have hwb:IntKind.i64.wrap (b-1)=b-1:=aH (by omega) (by omega)
 have hlt:b-1<(s.all.length:Int):=by omega
 have hge:0≤b-1:=by omega
 have hjl:=(List.getElem?_eq_some_iff.1 hog).1
 have hog1:(s.all.set (b-1).toNat { o with returned:=s.read })[(b-1).toNat]?=some { o with returned:=s.read }:=List.getElem?_set_self hjl
 have hog2:(s.all.set (b-1).toNat { o with returned:=s.read,value:=x.value })[(b-1).toNat]?=some { o with returned:=s.read,value:=x.value }:=List.getElem?_set_self hjl
 simp only[jD,it,List.length_set]
 refine aq aa Try.func86 rfl rfl rfl ?_;refine z24 ?_;refine bH (aG aa rfl rfl rfl ⟨_,⟨_,⟨rfl,rfl,rfl⟩,rfl⟩,rfl⟩ rfl) ?_;refine z22 ?_;refine rQ (bB aa rfl rfl rfl) ?_;refine rQ (dW rfl rfl rfl rfl (by kernel_rfl) (by decide) (cJ x.value zBk)) ?_;refine z31 ?_;refine aD [125,127] [64] rfl rfl (by assumption) rfl (ay aa rfl rfl ⟨_,rfl,rfl⟩ rfl) ?_;refine z3 ?_;refine aD [125,131] [0] rfl rfl (by assumption) rfl (ay aa rfl rfl ⟨_,⟨rfl,_,hbg,rfl⟩,rfl⟩ rfl) ?_;refine z4 ?_;refine aD [135,136] [64] rfl rfl (by assumption) rfl (ay aa rfl rfl ⟨_,rfl,rfl⟩ rfl) ?_;refine yO (yK (pJ x.op)) ?_;refine z12 ?_;refine dQ [143] [0] iM ?_;refine z2 ?_;refine dQ [146] [64] iB ?_;refine z3 ?_;refine dQ [150] [0] (ay aa rfl rfl ⟨_,⟨rfl,_,hbg,rfl⟩,rfl⟩ rfl) ?_;refine yA (cm aa rfl rfl hwb) ?_;refine z6 ?_;refine rQ (ab.frozen (ae (s:=1) aa rfl rfl rfl rfl rfl rfl rfl rfl) (Frz.litsN (enc:=i6) [0,1,8,9] rfl (fun _ _=>rfl))) ?_;refine z2 ?_;refine rQ (yK (A3 x.err [0,1,8,9] (by decide))) ?_;refine z9 ?_
 cases c1 with
 | true=>cases h4
 | false =>
  refine z6 ?_
  cases c2 with
  | false =>
   refine z26 ?_;refine dQ [181] [64] iB ?_;refine z1 ?_;refine dQ [183] [64] iB ?_;refine z2 ?_;refine bj [186,180] [1] (aG (row':=dN (s.all.set (b-1).toNat { o with returned:=s.read })) aa rfl rfl rfl ⟨rfl,o, { o with returned:=s.read },hog,⟨_,⟨rfl,rfl,rfl⟩,rfl⟩,rfl⟩ rfl) ?_;refine z2 ?_;refine bj [188,182] [1] (aG (row':=dN (s.all.set (b-1).toNat { o with returned:=s.read,value:=x.value })) aa rfl rfl rfl ⟨rfl,_, { o with returned:=s.read,value:=x.value },hog1,⟨_,⟨rfl,rfl,rfl⟩,rfl⟩,(by rw[List.set_set])⟩ rfl) ?_;refine z2 ?_;refine bj [190,184] [1] (aG (row':=dN (s.all.set (b-1).toNat { o with returned:=s.read,value:=x.value,err:=x.err })) aa rfl rfl rfl ⟨rfl,_, { o with returned:=s.read,value:=x.value,err:=x.err },hog2,⟨_,⟨rfl,rfl,rfl⟩,rfl⟩,(by rw[List.set_set])⟩ rfl) ?_;refine z5 ?_;refine dQ [192] [64] iB ?_;refine z3 ?_;refine bj [196] [0] (aG aa rfl rfl rfl ⟨_,⟨_,⟨_,⟨rfl,_,0,hbg,⟨rfl,rfl,rfl⟩,rfl⟩,rfl⟩,rfl⟩,rfl⟩ rfl) ?_;refine z9 ?_
   exact⟨trivial,[(64,some 1)],lg zV ⟨zR,zR,trivial⟩⟩
  | true =>
   refine z9 ?_;refine rQ (aX aa rfl rfl ⟨rfl,o,hog,_,rfl,rfl⟩ rfl) ?_;refine z4 ?_
   cases c3 with
   | true=>cases h4
   | false =>
    have e0:(!decide (x.err=0))=false:=h4
    refine z23 ?_;refine dQ [181] [64] iB ?_;refine z1 ?_;refine dQ [183] [64] iB ?_;refine z2 ?_;refine bj [186,180] [1] (aG (row':=dN (s.all.set (b-1).toNat { o with returned:=s.read })) aa rfl rfl rfl ⟨rfl,o, { o with returned:=s.read },hog,⟨_,⟨rfl,rfl,rfl⟩,rfl⟩,rfl⟩ rfl) ?_;refine z2 ?_;refine bj [188,182] [1] (aG (row':=dN (s.all.set (b-1).toNat { o with returned:=s.read,value:=x.value })) aa rfl rfl rfl ⟨rfl,_, { o with returned:=s.read,value:=x.value },hog1,⟨_,⟨rfl,rfl,rfl⟩,rfl⟩,(by rw[List.set_set])⟩ rfl) ?_;refine z2 ?_;refine bj [190,184] [1] (aG (row':=dN (s.all.set (b-1).toNat { o with returned:=s.read,value:=x.value,err:=x.err })) aa rfl rfl rfl ⟨rfl,_, { o with returned:=s.read,value:=x.value,err:=x.err },hog2,⟨_,⟨rfl,rfl,rfl⟩,rfl⟩,(by rw[List.set_set])⟩ rfl) ?_;refine z5 ?_;refine dQ [192] [64] iB ?_;refine z3 ?_;refine bj [196] [0] (aG aa rfl rfl rfl ⟨_,⟨_,⟨_,⟨rfl,_,0,hbg,⟨rfl,rfl,rfl⟩,rfl⟩,rfl⟩,rfl⟩,rfl⟩ rfl) ?_;refine z9 ?_
    exact⟨trivial,[(64,some 1)],lg zV ⟨zR,zR,trivial⟩⟩
theorem sy (s:RdS) (x:HEv) (n:Nat) (hs:s.Ok n) (hn:n≤1000000) (k2:x.kind=2) (hno:ret1 s x=false):jD s x { s with read:=s.read+1 } false:=by
 have hr:=hs.read
 have ha:=hs.all
 have d1:decide (x.kind=1)=false:=dF (by omega)
 have d2:decide (x.kind=2)=true:=dT k2
 have hw:IntKind.i64.wrap (s.read+1)=s.read+1:=aH (by omega) (by omega)
 refine aq aa Try.func86 rfl rfl rfl ?_;refine z24 ?_;refine bH (aG aa rfl rfl rfl ⟨_,⟨_,⟨rfl,rfl,rfl⟩,rfl⟩,rfl⟩ rfl) ?_;refine z8 ?_
 by_cases hc0:0≤x.client
 ·have c0:decide (0≤x.client)=true:=dT hc0
  refine z14 ?_;refine rQ (bB aa rfl rfl rfl) ?_;refine rQ (dW rfl rfl rfl rfl (by kernel_rfl) (by decide) (cJ x.value zBk)) ?_;refine z29 ?_
  by_cases hc8:x.client<8
  ·have c8:decide (x.client<8)=true:=dT hc8
   have n8:(!decide (x.client<8))=false:=by rw[c8]; rfl
   obtain⟨b,hbg⟩:∃b,s.busy[x.client.toNat]?=some b:=⟨_,List.getElem?_eq_getElem (by rw[hs.blen]; omega)⟩
   have hb:=hs.busy b (List.mem_of_getElem? hbg)
   refine z2 ?_;refine aD [125,127] [64] rfl rfl (by assumption) rfl (ay aa rfl rfl ⟨_,rfl,rfl⟩ rfl) ?_;refine z3 ?_;refine aD [125,131] [0] rfl rfl (by assumption) rfl (ay aa rfl rfl ⟨_,⟨rfl,_,hbg,rfl⟩,rfl⟩ rfl) ?_;refine z3 ?_
   by_cases hb0:b=0
   ·have b0:decide (b=0)=true:=dT hb0
    refine z17 ?_
    exact⟨trivial,[(64,some 1)],lg zV ⟨zR,zR,trivial⟩⟩
   ·have b0:decide (b=0)=false:=dF hb0
    refine z1 ?_;refine aD [135,136] [64] rfl rfl (by assumption) rfl (ay aa rfl rfl ⟨_,rfl,rfl⟩ rfl) ?_;refine yO (yK (pJ x.op)) ?_;refine z4 ?_
    by_cases hz:x.op=zOp
    ·have z0:(!decide (x.op=zOp))=false:=by rw[dT hz]; rfl
     have hwb:IntKind.i64.wrap (b-1)=b-1:=aH (by omega) (by omega)
     have hlt:b-1<(s.all.length:Int):=by omega
     have hge:0≤b-1:=by omega
     obtain⟨o,hog⟩:∃o,s.all[(b-1).toNat]?=some o:=⟨_,List.getElem?_eq_getElem (by omega)⟩
     obtain⟨c1,h1⟩:∃c,(!([0,1,8,9]:List Int).any (fun y=>decide (x.err=y)))=c:=⟨_,rfl⟩
     obtain⟨c2,h2⟩:∃c,(!decide (x.value=zBk))=c:=⟨_,rfl⟩
     obtain⟨c3,h3⟩:∃c,(!decide (o.op.kind=1))=c:=⟨_,rfl⟩
     obtain⟨c4,h4⟩:∃c,(!decide (x.err=0))=c:=⟨_,rfl⟩
     have hc:(c1||c2&&(c3||c4))=true:=by
      have hkn:kn4 x.err = !c1:=by rw[←h1,←wq,Bool.not_not]
      have hv2:decide (x.value=zBk) = !c2:=by rw[←h2,Bool.not_not]
      have hk3:decide (o.op.kind=1) = !c3:=by rw[←h3,Bool.not_not]
      have he4:decide (x.err=0) = !c4:=by rw[←h4,Bool.not_not]
      have hb':decide (some b=some (0:Int))=false:=dF (by simpa using hb0)
      have ho:opOf s x=some o:=by rw[opOf,hbg]; exact hog
      rw[ret1,c0,c8,hbg,hb',dT hz,hkn,hv2,ho]at hno
      simp only[hk3,he4]at hno
      revert hno
      cases c1 <;> cases c2 <;> cases c3 <;> cases c4 <;> decide
     refine z8 ?_;refine dQ [143] [0] iM ?_;refine z2 ?_;refine dQ [146] [64] iB ?_;refine z3 ?_;refine dQ [150] [0] (ay aa rfl rfl ⟨_,⟨rfl,_,hbg,rfl⟩,rfl⟩ rfl) ?_;refine yA (cm aa rfl rfl hwb) ?_;refine z6 ?_;refine rQ (ab.frozen (ae (s:=1) aa rfl rfl rfl rfl rfl rfl rfl rfl) (Frz.litsN (enc:=i6) [0,1,8,9] rfl (fun _ _=>rfl))) ?_;refine z2 ?_;refine rQ (yK (A3 x.err [0,1,8,9] (by decide))) ?_;refine z9 ?_
     cases c1 with
     | true =>
      refine z28 ?_
      exact⟨trivial,[(64,some 1)],lg zV ⟨zR,zR,trivial⟩⟩
     | false =>
      refine z6 ?_
      cases c2 with
      | false=>cases hc
      | true =>
       refine z9 ?_;refine rQ (aX aa rfl rfl ⟨rfl,o,hog,_,rfl,rfl⟩ rfl) ?_;refine z4 ?_
       cases c3 with
       | true =>
        refine z20 ?_
        exact⟨trivial,[(64,some 1)],lg zV ⟨zR,zR,trivial⟩⟩
       | false =>
        refine z13 ?_
        cases c4 with
        | false=>cases hc
        | true =>
         refine z10 ?_
         exact⟨trivial,[(64,some 1)],lg zV ⟨zR,zR,trivial⟩⟩
    ·have z0:(!decide (x.op=zOp))=true:=by rw[dF hz]; rfl
     refine z10 ?_
     exact⟨trivial,[(64,some 1)],lg zV ⟨zR,zR,trivial⟩⟩
  ·have c8:decide (x.client<8)=false:=dF hc8
   have n8:(!decide (x.client<8))=true:=by rw[c8]; rfl
   refine z27 ?_
   exact⟨trivial,[(64,some 1)],lg zV ⟨zR,zR,trivial⟩⟩
 ·have c0:decide (0≤x.client)=false:=dF hc0
  refine z11 ?_;refine rQ (bB aa rfl rfl rfl) ?_;refine rQ (dW rfl rfl rfl rfl (by kernel_rfl) (by decide) (cJ x.value zBk)) ?_;refine z56 ?_
  exact⟨trivial,[(64,some 1)],lg zV ⟨zR,zR,trivial⟩⟩
theorem Bx (s:RdS) (x:HEv) (n:Nat) (hs:s.Ok n) (hn:n≤1000000):jD s x (bR s x).1 (bR s x).2:=by
 by_cases k1:x.kind=1
 ·cases hi:inv1 s x with
  | false =>
   have h:=sA s x n hs hn k1 hi
   have e:bR s x=({ s with read:=s.read+1 },false):=by simp[bR,k1,hi]
   rw[e]; exact h
  | true =>
   have hi':=hi
   simp only[inv1,Bool.and_eq_true,decide_eq_true_eq]at hi'
   obtain⟨⟨⟨⟨⟨h1,h2⟩,h3⟩,h4⟩,h5⟩,h6⟩:=hi'
   obtain⟨m,hm⟩:∃m,s.number[x.client.toNat]?=some m:=⟨_,List.getElem?_eq_getElem (by rw[hs.nlen]; omega)⟩
   have h:=yv s x n hs hn k1 m h1 h2 h3 hm h4 h5 h6
   have e:bR s x=(⟨s.busy.set x.client.toNat ((s.all.length+1:Nat):Int),s.number.set x.client.toNat (m+1),s.era,s.read+1,s.all++[⟨x.client,m,s.era,x.op,s.read,-1,zBk,0⟩]⟩,true):=by
    simp[bR,k1,hi,hm]
   rw[e]; exact h
 ·by_cases k2:x.kind=2
  ·cases hi:ret1 s x with
   | false =>
    have h:=sy s x n hs hn k2 hi
    have e:bR s x=({ s with read:=s.read+1 },false):=by simp[bR,k2,hi]
    rw[e]; exact h
   | true =>
    have hi':=hi
    simp only[ret1,Bool.and_eq_true,decide_eq_true_eq]at hi'
    obtain⟨⟨⟨⟨⟨h1,h2⟩,h3⟩,h4⟩,h5⟩,h6⟩:=hi'
    obtain⟨b,hbg⟩:∃b,s.busy[x.client.toNat]?=some b:=⟨_,List.getElem?_eq_getElem (by rw[hs.blen]; omega)⟩
    have hb:=hs.busy b (List.mem_of_getElem? hbg)
    have hb0:b≠0:=by rw[hbg]at h3; simpa using h3
    obtain⟨o,hog⟩:∃o,s.all[(b-1).toNat]?=some o:=⟨_,List.getElem?_eq_getElem (by omega)⟩
    have ho:opOf s x=some o:=by rw[opOf,hbg]; exact hog
    rw[ho]at h6
    have h:=ut s x n hs hn k2 b o h1 h2 hbg hb0 hog h4 _ _ _ rfl rfl rfl (by
     rw[wq,h5]
     simp only at h6
     revert h6
     cases decide (x.value=zBk) <;> cases decide (o.op.kind=1) <;> cases decide (x.err=0) <;> decide)
    have e:bR s x=(⟨s.busy.set x.client.toNat 0,s.number,s.era,s.read+1,s.all.set (b-1).toNat { o with returned:=s.read,value:=x.value,err:=x.err }⟩,true):=by
     simp[bR,k2,hi,ho,hbg]
    rw[e]; exact h
  ·by_cases k3:x.kind=3
   ·have h:=uv s x n hs hn k3 _ _ _ _ rfl rfl rfl rfl
    have e:bR s x=(⟨fl,s.number,s.era+1,s.read+1,s.all⟩,sj x):=by simp[bR,k3]
    rw[e]; exact h
   ·have h:=uu s x n hs hn k1 k2 k3 _ rfl
    have e:bR s x=({ s with read:=s.read+1 },false):=by simp[bR,k1,k2,k3]
    rw[e]; exact h
abbrev fnT (r:Nat):AV :=.fn (.func 86) (.acons (.ptr r []) .anil) .anil
abbrev fnF (r:Nat):AV :=.fn (.func 88) .anil (.acons (.ptr r []) .anil)
def goS:RdS→List HEv→Nat→RdS×Int
 | s,[],_=>(s,-1)
 | s,x::l,i=>if (bR s x).2 then goS (bR s x).1 l (i+1) else ((bR s x).1,(i:Int))
theorem xY (s:RdS) (x:HEv) (n:Nat) (hs:s.Ok n) (hn:n≤1000000):FnIs Try.prog 88 [.d (bu x),.ptr 0 []] [(0,.box 163 (fnT 1)),(1,it s 2),(2,dN s.all)] (.bool (!(bR s x).2)) [(0,.box 163 (fnT 1)),(1,it (bR s x).1 64),(64,dN (bR s x).1.all)]:=by
 refine aq aa Try.func88 rfl rfl rfl ?_;refine z10 ?_;refine bE rfl (DG [(0,some 1),(1,some 2)] (Bx s x n hs hn) rfl rfl rfl rfl (aT rfl rfl (aE au)) ⟨zH,zH,trivial⟩ rfl rfl (.inl rfl) rfl rfl) rfl rfl ?_;refine z5 ?_
 exact⟨trivial,[(64,some _)],lg zV ⟨zR,zR,zR,trivial⟩⟩
theorem mf {s:RdS} {h:List HEv} {i:Nat} {x:HEv} (hx:h[i]?=some x):goS s (h.drop i) i=if (bR s x).2 then goS (bR s x).1 (h.drop (i+1)) (i+1) else ((bR s x).1,(i:Int)):=by
 have hlt:=(List.getElem?_eq_some_iff.1 hx).1
 rw[List.drop_eq_getElem_cons hlt,(List.getElem?_eq_some_iff.1 hx).2]
 rfl
theorem Di (h:List HEv) (hL:h.length≤1000000) (s0:RdS) (hs0:s0.Ok 0):FnIs Try.prog 87 [.d (encH h),fnF 0] [(0,.box 163 (fnT 1)),(1,it s0 2),(2,dN s0.all)] (.int .i64 (goS s0 h 0).2) [(0,.box 163 (fnT 1)),(1,it (goS s0 h 0).1 64),(64,dN (goS s0 h 0).1.all)]:=by
 refine aq aa Try.func87 rfl rfl rfl ?_;refine z14 ?_
 refine wc_inv (fun q:RdS×Nat=>⟨[(8,.int .i64 q.2),(7,.int .i64 h.length),(1,fnF 0),(0,.d (encH h))],[(0,some (.box 163 (fnT 1))),(1,some (it q.1 65)),(65,some (dN q.1.all))],72,Try.f87.ntmps,64⟩) (fun q=>q.2≤h.length∧q.1.Ok q.2∧goS q.1 (h.drop q.2) q.2=goS s0 h 0) (fun q=>h.length-q.2) (s0,0) [(65,some 2)] ⟨Nat.zero_le _,hs0,rfl⟩
  (lg zi ⟨zR,zR,zR,trivial⟩) ?_
 rintro⟨s,i⟩ ⟨hi,hs,hgo⟩
 refine bt ?_;refine z6 ?_
 refine eW rfl (fun h2=>?_) (fun h2=>?_)
 ·have hlt:i<h.length:=by have:=of_decide_eq_true h2; omega
  obtain⟨x,hx⟩:∃u,h[i]?=some u:=⟨_,List.getElem?_eq_getElem hlt⟩
  have hx':h[((i:Int)).toNat]?=some x:=by rw[Int.toNat_natCast]; exact hx
  have hfst:=xY s x i hs (by omega)
  have hst:=mf (s:=s) hx
  rw[hgo]at hst
  cases hb:(bR s x).2 with
  | false =>
   rw[hb]at hst hfst
   rw[hst]
   refine z17 ?_;refine bE rfl (aS [(0,some 0),(1,some 1),(2,some 65)] hfst rfl rfl rfl (aE (aT rfl rfl au)) ⟨zH,zH,zH,trivial⟩ rfl rfl (.inl rfl) rfl rfl) rfl rfl ?_;refine z15 ?_
   exact⟨trivial,[(64,some _)],lg zV ⟨zR,zR,zR,trivial⟩⟩
  | true =>
   rw[hb]at hst hfst
   refine z17 ?_;refine bE rfl (aS [(0,some 0),(1,some 1),(2,some 65)] hfst rfl rfl rfl (aE (aT rfl rfl au)) ⟨zH,zH,zH,trivial⟩ rfl rfl (.inl rfl) rfl rfl) rfl rfl ?_;refine z10 ?_
   exact an ((bR s x).1,i+1) [(65,some _)] ⟨hlt,hs.next x,hst.symm⟩ (by show h.length-(i+1)<h.length-i; omega) (lg zi ⟨zR,zR,zR,trivial⟩)
 ·have he:i=h.length:=by have:=of_decide_eq_false h2; omega
  subst he
  rw[List.drop_length]at hgo
  rw[←hgo]
  refine z11 ?_
  exact⟨trivial,[(64,some _)],lg zV ⟨zR,zR,zR,trivial⟩⟩
theorem tF (h:List HEv) (hL:h.length≤1000000) (s0:RdS) (hs0:s0.Ok 0):FnIs Try.prog 85 [.d (encH h),fnT 0] [(0,it s0 1),(1,dN s0.all)] (.int .i64 (goS s0 h 0).2) [(0,it (goS s0 h 0).1 64),(64,dN (goS s0 h 0).1.all)]:=by
 refine aq aa Try.func85 rfl rfl rfl ?_;refine z10 ?_;refine bE rfl (aS [(0,some 64),(1,some 0),(2,some 1)] (Di h hL s0 hs0) rfl rfl rfl (aE (cU rfl rfl au)) ⟨zH,zH,zH,trivial⟩ rfl rfl (.inl rfl) rfl rfl) rfl rfl ?_;refine z4 ?_
 exact⟨trivial,[(64,some _)],lg zV ⟨zR,zR,trivial⟩⟩
abbrev ch8:D :=.cons (.sc (.int .i64 0)) (.cons (.sc (.int .i64 0)) (.cons (.sc (.int .i64 0)) (.cons (.sc (.int .i64 0)) (.cons (.sc (.int .i64 0)) (.cons (.sc (.int .i64 0)) (.cons (.sc (.int .i64 0)) (.cons (.sc (.int .i64 0)) .nil)))))))
theorem Ba:DLe ch8 (.vec 8 1 i6 fl):=by
 rintro w X cs ⟨a1,r1,rfl,⟨rfl,o1⟩,a2,r2,rfl,⟨rfl,_⟩,a3,r3,rfl,⟨rfl,_⟩,a4,r4,rfl,⟨rfl,_⟩,a5,r5,rfl,⟨rfl,_⟩,a6,r6,rfl,⟨rfl,_⟩,a7,r7,rfl,⟨rfl,_⟩,a8,r8,rfl,⟨rfl,_⟩,rfl⟩
 refine⟨rfl,fun _=>[.int .i64 0],fun i hi=>⟨?_,rfl⟩,rfl⟩
 have hz:∀b∈fl,b=0:=by decide
 rw[hz _ (List.getElem_mem hi)]
 exact⟨rfl,o1⟩
theorem C5:aM (.box 160 (.d (.cons ch8 (.cons ch8 (.cons (.sc (.int .i64 0)) (.cons (.sc (.int .i64 0)) (.cons (.sc (.slice none 0 0)) .nil)))))))
  (.box 160 (.acons (.d (.vec 8 1 i6 fl)) (.acons (.d (.vec 8 1 i6 fl)) (.acons (.d (i6 0)) (.acons (.d (i6 0)) (.acons (.d (.sc nil_)) .anil)))))):=by
 rintro σ w X r ⟨hf,b,cs,h1,h2,a1,r1,h3,h4,a2,r2,rfl,h5,a3,r3,rfl,h6,a4,r4,rfl,h7,a5,r5,rfl,h8,rfl⟩
 exact⟨rfl,b,cs,h1,h2,a1,_,h3,Ba _ _ _ h4,a2,_,rfl,Ba _ _ _ h5,a3,_,rfl,h6,a4,_,rfl,h7,a5,_,rfl,h8,rfl⟩
def rdH (h:List HEv):RdS:=if 8192<h.length then rd0 else (goS rd0 h 0).1
def chkH (h:List HEv):Int×Int:=if 8192<h.length then (0,3) else if 0≤(goS rd0 h 0).2 then ((goS rd0 h 0).2,18) else (0,0)
theorem BJ (h:List HEv) (hh:h.length≤9223372036854775807):FnIs Try.prog 81 [.d (encH h)] [] (.tup (.acons (.ptr 64 []) (.acons (.int .i64 (chkH h).1) (.acons (.int .i64 (chkH h).2) .anil)))) [(64,it (rdH h) 65),(65,dN (rdH h).all)]:=by
 unfold rdH chkH
 obtain⟨Z,hZ⟩:∃Z,decide ((8192:Int)<(h.length:Int))=Z:=⟨_,rfl⟩
 refine aq aa Try.func81 rfl rfl rfl ?_;refine z14 ?_;refine gM (env':=[(2,.ptr 64 []),(0,.d (encH h))]) (h':=[(64,some (it rd0 65)),(65,some (dN []))]) 72 [(64,some 96),(65,none)] (lg zk ⟨⟨rfl,rfl,_,rfl,C5⟩,⟨rfl,rfl,rfl⟩,trivial⟩) ?_
 cases Z with
 | true =>
  have h8:8192<h.length:=by have:=of_decide_eq_true hZ; omega
  rw[if_pos h8,if_pos h8]
  refine z19 ?_
  exact⟨trivial,[(64,some _),(65,some _)],lg zV ⟨zR,zR,trivial⟩⟩
 | false =>
  have h8:¬8192<h.length:=by have:=of_decide_eq_false hZ; omega
  have hL:h.length≤1000000:=by omega
  rw[if_neg h8,if_neg h8]
  by_cases h0:0≤(goS rd0 h 0).2
  ·have d0:decide (0≤(goS rd0 h 0).2)=true:=dT h0
   rw[if_pos h0]
   refine z17 ?_;refine bE rfl (aS [(0,some 64),(1,some 65)] (tF h hL rd0 rz) rfl rfl rfl (aE (wS rfl rfl au)) ⟨zH,zH,trivial⟩ rfl rfl (.inl rfl) rfl rfl) rfl rfl ?_;refine z21 ?_
   exact⟨trivial,[(64,some _),(65,some _)],lg zV ⟨zR,zR,trivial⟩⟩
  ·have d0:decide (0≤(goS rd0 h 0).2)=false:=dF h0
   rw[if_neg h0]
   refine z17 ?_;refine bE rfl (aS [(0,some 64),(1,some 65)] (tF h hL rd0 rz) rfl rfl rfl (aE (wS rfl rfl au)) ⟨zH,zH,trivial⟩ rfl rfl (.inl rfl) rfl rfl) rfl rfl ?_;refine z21 ?_
   exact⟨trivial,[(64,some _),(65,some _)],lg zV ⟨zR,zR,trivial⟩⟩
def opsH (h:List HEv):List HOp:=if (chkH h).2=0 then (rdH h).all else[]
theorem wu (h:List HEv) (hh:h.length≤9223372036854775807) (hal:(rdH h).all.length≤1048576):FnIs Try.prog 61 [.d (encH h)] [] (.tup (.acons (.d (fv (opsH h))) (.acons (.int .i64 (chkH h).2) .anil))) []:=by
 unfold opsH
 refine aq aa Try.func61 rfl rfl rfl ?_;refine z9 ?_;refine aC (aS [] (BJ h hh) rfl rfl rfl (aE au) trivial rfl rfl (.inl rfl) rfl rfl) rfl ?_;refine z16 ?_
 by_cases h0:(chkH h).2=0
 ·have d0:(!decide ((chkH h).2=0))=false:=by rw[dT h0]; rfl
  rw[if_pos h0,h0]
  refine z9 ?_;refine oO (env':=[(19,_)]) (h':=[]) 89 _ rfl ⟨⟨_,rfl,Frz.own rfl⟩,trivial⟩ trivial ?_;refine rQ (yK (Dy (rdH h).all hal)) ?_;refine z5 ?_
  exact⟨trivial,[],lf⟩
 ·have d0:(!decide ((chkH h).2=0))=true:=by rw[dF h0]; rfl
  rw[if_neg h0]
  refine z10 ?_
  exact⟨trivial,[],lg ⟨⟨_,rfl,AVLe.tup1 (jf _ _) rfl⟩,rfl,trivial⟩ trivial⟩
def CM:List HEv→List (List HEv)→List HEv→List (List HEv)
 | [],out,era=>out++[era]
 | x::l,out,era=>if x.kind=3 then CM l (out++[era]) [] else CM l out (era++[x])
def projB (c:Int) (x:HEv):Bool:=decide (x.kind=3)||decide (x.client=c)
def projE (c:Int) (h:List HEv):Int:=if (chkH h).2=0 then (if c<0∨8≤c then 1 else 0) else (chkH h).2
def eo (c:Int) (i:Nat) (a:Int) (x:HEv):Int:=if x.kind=3 then-1 else if x.kind=1 then (if x.client=c then (i:Int) else a) else if x.kind=2 then (if x.client=c then-1 else a) else a
def kU (c:Int):List HEv→Nat→Int→Int
 | [],_,a=>a
 | x::l,i,a=>kU c l (i+1) (eo c i a x)
def pend (h:List HEv) (c:Int):Int:=kU c h 0 (-1)
theorem oU (c:Int) (x:HEv):∀(l:List HEv) (i:Nat) (a:Int),kU c (l++[x]) i a=eo c (i+l.length) (kU c l i a) x
 | [],i,a=>rfl
 | y::l,i,a=>by
  rw[List.cons_append,kU,kU,oU c x l]
  rw[List.length_cons,show i+1+l.length=i+(l.length+1) by omega]
theorem cL (l:List HEv) (c:Int) (x:HEv):pend (l++[x]) c=eo c l.length (pend l c) x:=by
 rw[pend,oU,Nat.zero_add]; rfl
theorem xz {h:List HEv} {c:Int} {i:Nat} {x:HEv} (hx:h[i]?=some x):pend (h.take (i+1)) c=eo c i (pend (h.take i) c) x:=by
 have hlt:=(List.getElem?_eq_some_iff.1 hx).1
 rw[List.take_add_one,hx,Option.toList_some,cL,List.length_take,Nat.min_eq_left (by omega)]
theorem zZ (c:Int) (i:Nat) (a:Int) (x:HEv):eo c i a x = -1∨eo c i a x=i∨eo c i a x=a:=by
 unfold eo
 by_cases h1:x.kind=3
 ·simp[h1]
 ·by_cases h2:x.kind=1
  ·by_cases h3:x.client=c <;> simp[h2,h3]
  ·by_cases h4:x.kind=2
   ·by_cases h3:x.client=c <;> simp[h4,h3]
   ·simp[h1,h2,h4]
theorem wg (c:Int):∀(l:List HEv) (i:Nat) (a:Int),-1≤a∧a<i → -1≤kU c l i a∧kU c l i a<(i+l.length:Nat)
 | [],i,a,h=>by simpa[kU]using h
 | x::l,i,a,h=>by
  have hs:=zZ c i a x
  have:=wg c l (i+1) (eo c i a x) (by omega)
  rw[kU,List.length_cons]
  omega
theorem rD (h:List HEv) (c:Int) : -1≤pend h c∧pend h c<h.length:=by
 have:=wg c h 0 (-1) (by decide)
 rw[Nat.zero_add]at this
 exact this
theorem wh (h:List HEv) (c:Int) (hL:h.length≤9223372036854775807):FnIs Try.prog 47 [.d (encH h),.int .i64 c] [] (.int .i64 (pend h c)) []:=by
 refine aq aa Try.func47 rfl rfl rfl ?_;refine z17 ?_
 refine wc_inv (fun i:Nat=>⟨[(6,.int .i64 i),(5,.int .i64 (pend (h.take i) c)),(1,.int .i64 c),(0,.d (encH h))],[],72,Try.f47.ntmps,64⟩) (fun i=>i≤h.length) (fun i=>h.length-i) 0 [] (Nat.zero_le _)
  (lg zi trivial) ?_
 intro i hi
 refine bt ?_;refine z9 ?_
 refine eW rfl (fun h3=>?_) (fun h3=>?_)
 ·have hlt:i<h.length:=by have:=of_decide_eq_true h3; omega
  obtain⟨x,hx⟩:∃x,h[i]?=some x:=⟨_,List.getElem?_eq_getElem hlt⟩
  have hx':h[((i:Int)).toNat]?=some x:=by rw[Int.toNat_natCast]; exact hx
  have hp:=xz (c:=c) hx
  unfold eo at hp
  by_cases k3:x.kind=3
  ·have d3:decide (x.kind=3)=true:=dT k3
   have d1:decide (x.kind=1)=false:=dF (by omega)
   have d2:decide (x.kind=2)=false:=dF (by omega)
   rw[if_pos k3]at hp
   refine z60 ?_;refine z11 ?_
   exact an (i+1) [] hlt (by omega) (lg ⟨zE,rfl,⟨_,rfl,AVLe.of_eq (congrArg (fun n=>AV.int .i64 n) hp.symm)⟩,rfl,zE,rfl,zE,rfl,trivial⟩ trivial)
  ·have d3:decide (x.kind=3)=false:=dF k3
   rw[if_neg k3]at hp
   by_cases k1:x.kind=1
   ·have d1:decide (x.kind=1)=true:=dT k1
    have d2:decide (x.kind=2)=false:=dF (by omega)
    rw[if_pos k1]at hp
    by_cases kc:x.client=c
    ·have dc:decide (x.client=c)=true:=dT kc
     rw[if_pos kc]at hp
     refine z60 ?_;refine z19 ?_
     exact an (i+1) [] hlt (by omega) (lg ⟨zE,rfl,⟨_,rfl,AVLe.of_eq (congrArg (fun n=>AV.int .i64 n) hp.symm)⟩,rfl,zE,rfl,zE,rfl,trivial⟩ trivial)
    ·have dc:decide (x.client=c)=false:=dF kc
     rw[if_neg kc]at hp
     refine z60 ?_;refine z16 ?_
     exact an (i+1) [] hlt (by omega) (lg ⟨zE,rfl,⟨_,rfl,AVLe.of_eq (congrArg (fun n=>AV.int .i64 n) hp.symm)⟩,rfl,zE,rfl,zE,rfl,trivial⟩ trivial)
   ·have d1:decide (x.kind=1)=false:=dF k1
    rw[if_neg k1]at hp
    by_cases k2:x.kind=2
    ·have d2:decide (x.kind=2)=true:=dT k2
     rw[if_pos k2]at hp
     by_cases kc:x.client=c
     ·have dc:decide (x.client=c)=true:=dT kc
      rw[if_pos kc]at hp
      refine z60 ?_;refine z18 ?_
      exact an (i+1) [] hlt (by omega) (lg ⟨zE,rfl,⟨_,rfl,AVLe.of_eq (congrArg (fun n=>AV.int .i64 n) hp.symm)⟩,rfl,zE,rfl,zE,rfl,trivial⟩ trivial)
     ·have dc:decide (x.client=c)=false:=dF kc
      rw[if_neg kc]at hp
      refine z60 ?_;refine z16 ?_
      exact an (i+1) [] hlt (by omega) (lg ⟨zE,rfl,⟨_,rfl,AVLe.of_eq (congrArg (fun n=>AV.int .i64 n) hp.symm)⟩,rfl,zE,rfl,zE,rfl,trivial⟩ trivial)
    ·have d2:decide (x.kind=2)=false:=dF k2
     rw[if_neg k2]at hp
     refine z60 ?_;refine z9 ?_
     exact an (i+1) [] hlt (by omega) (lg ⟨zE,rfl,⟨_,rfl,AVLe.of_eq (congrArg (fun n=>AV.int .i64 n) hp.symm)⟩,rfl,zE,rfl,zE,rfl,trivial⟩ trivial)
 ·have he:i=h.length:=by have:=of_decide_eq_false h3; omega
  subst he
  rw[List.take_length]
  refine z12 ?_
  exact⟨trivial,[],lf⟩
def fit1 (h:List HEv) (x:HEv):Bool:=decide (0≤x.client)&&decide (x.client≤7)&&decide (pend h x.client<0)&&decide (x.op.data.length≤64)&&decide (x.value=zBk)&&decide (x.err=0)
def fit2 (h:List HEv) (x:HEv):Bool:=decide (0≤x.client)&&decide (x.client≤7) && !decide (pend h x.client<0)&&decide (x.op=zOp)&&kn4 x.err&&((match h[(pend h x.client).toNat]? with | some y=>decide (y.op.kind=1)&&decide (x.err=0) | none=>false)||decide (x.value=zBk))
def fitB (h:List HEv) (x:HEv):Bool:=if x.kind=1 then fit1 h x else if x.kind=2 then fit2 h x else if x.kind=3 then sj x else false
def qe (h:List HEv):Nat→Nat→Int×Int
 | 0,_=>(0,0)
 | n+1,i=>match h[i]? with
  | none=>(0,0)
  | some x=>if fitB (h.take i) x then qe h n (i+1) else ((i:Int),18)
def rchk (h:List HEv):Int×Int:=if 8192<h.length then (0,3) else qe h h.length 0
def fewB (h:List HEv):Bool:=decide (h.length≤60)&&h.all fun x=>decide (x.op.data.length≤70)
def cntC (l:List HOp) (c:Int):Int:=(l.countP fun o=>decide (o.client=c):Nat)
def aW (c:Int):List HEv→Nat→Option (Nat×HEv)
 | [],_=>none
 | x::l,k=>if x.kind=3 then none else if x.client=c then some (k,x) else aW c l (k+1)
def bF (x:HEv) (i:Nat) (era n:Int):HOp:=⟨x.client,n,era,x.op,i,-1,zBk,0⟩
def co (o:HOp):Option (Nat×HEv)→HOp
 | none=>o
 | some (k,y) => { o with returned:=k,value:=y.value,err:=y.err }
def mkOp (h:List HEv) (i:Nat) (x:HEv) (out:List HOp) (era:Int):HOp:=co (bF x i era (cntC out x.client)) (aW x.client (h.drop (i+1)) (i+1))
def eS (h:List HEv):Nat→Nat→List HOp→Int→List HOp
 | 0,_,out,_=>out
 | n+1,i,out,era=>match h[i]? with
  | none=>out
  | some x=>if x.kind=3 then eS h n (i+1) out (era+1) else if x.kind=1 then eS h n (i+1) (out++[mkOp h i x out era]) era else eS h n (i+1) out era
def opsR (h:List HEv):List HOp:=eS h h.length 0 [] 0
theorem yd {l:List HOp} {k:Nat} {o:HOp} (c:Int) (ho:l[k]?=some o):cntC (l.take (k+1)) c=cntC (l.take k) c+(if o.client=c then 1 else 0):=by
 rw[cntC,cntC,List.take_add_one,ho,Option.toList_some,List.countP_append]
 by_cases h:o.client=c <;> simp[h]
theorem Cm (l:List HOp) (c:Int):0≤cntC l c∧cntC l c≤l.length:=by
 have:=List.countP_le_length (p:=fun o:HOp=>decide (o.client=c)) (l:=l)
 unfold cntC
 omega
theorem gB {h:List HEv} {k:Nat} {y:HEv} (c:Int) (hy:h[k]?=some y):aW c (h.drop k) k=if y.kind=3 then none else if y.client=c then some (k,y) else aW c (h.drop (k+1)) (k+1):=by
 have hlt:=(List.getElem?_eq_some_iff.1 hy).1
 rw[List.drop_eq_getElem_cons hlt,(List.getElem?_eq_some_iff.1 hy).2]
 rfl
theorem yZ (h:List HEv) (hL:h.length≤1000000):FnIs Try.prog 28 [.d (encH h)] [] (.own 64 0 (opsR h).length 41 none) [(64,dN (opsR h))]:=by
 refine aq aa Try.func28 rfl rfl rfl ?_;refine z22 ?_
 refine wc_inv (fun q:Nat×List HOp×Int=>⟨[(5,.int .i64 q.1),(4,.int .i64 q.2.2),(3,.own 65 0 q.2.1.length 41 none),(0,.d (encH h))],[(65,some (dN q.2.1))],72,Try.f28.ntmps,64⟩) (fun q=>q.1≤h.length∧q.2.1.length≤q.1∧0≤q.2.2∧q.2.2≤q.1∧eS h (h.length-q.1) q.1 q.2.1 q.2.2=opsR h) (fun q=>h.length-q.1) (0,[],0) [(65,none)] ⟨Nat.zero_le _,Nat.le_refl _,Int.le_refl _,Int.le_refl _,rfl⟩
  (lg zi ⟨⟨rfl,rfl,rfl⟩,trivial⟩) ?_
 rintro⟨i,out,era⟩ ⟨hi,ho,he0,he1,hgo⟩
 simp only at hi ho he0 he1 hgo
 refine bt ?_;refine z9 ?_
 refine eW rfl (fun h2=>?_) (fun h2=>?_)
 ·have hlt:i<h.length:=by have:=of_decide_eq_true h2; omega
  obtain⟨x,hx⟩:∃u,h[i]?=some u:=⟨_,List.getElem?_eq_getElem hlt⟩
  have hx':h[((i:Int)).toNat]?=some x:=by rw[Int.toNat_natCast]; exact hx
  have hw22:IntKind.i64.wrap (era+1)=era+1:=aH (by omega) (by omega)
  obtain⟨n,hn⟩:∃n,h.length-i=n+1:=⟨h.length-i-1,by omega⟩
  have hn':h.length-(i+1)=n:=by omega
  rw[hn,eS,hx]at hgo
  simp only at hgo
  refine z15 ?_
  by_cases k3:x.kind=3
  ·have d3:decide (x.kind=3)=true:=dT k3
   have d1:(!decide (x.kind=1))=true:=by rw[dF (by omega)]; rfl
   rw[if_pos k3]at hgo
   refine z3 ?_;refine rQ (bM (m:=era+1) aa rfl rfl hw22) ?_;refine z24 ?_
   exact an (i+1,out,era+1) [(65,some 65)] ⟨hlt,by simp only; omega,by simp only; omega,by simp only; omega,by simp only[hn']; exact hgo⟩ (by show h.length-(i+1)<h.length-i; omega) (lg zi ⟨zR,trivial⟩)
  ·have d3:decide (x.kind=3)=false:=dF k3
   rw[if_neg k3]at hgo
   refine z14 ?_
   by_cases k1:x.kind=1
   ·have d1:(!decide (x.kind=1))=false:=by rw[dT k1]; rfl
    rw[if_pos k1]at hgo
    refine z18 ?_;refine c9 [] [] rfl (bD aa (fun K hk=>hk)) ?_;refine bj [6,41] [304] (aG aa rfl rfl rfl ⟨_,⟨rfl,rfl,rfl⟩,rfl⟩ rfl) ?_;refine z9 ?_
    refine wc_inv (fun k:Nat=>⟨[(7,.int .i64 k),(6,.ptr 66 []),(5,.int .i64 i),(4,.int .i64 era),(3,.own 65 0 out.length 41 none),(0,.d (encH h))],[(65,some (dN out)),(66,some (.box 67 (.d (a9 (bF x i era (cntC (out.take k) x.client))))))],72,Try.f28.ntmps,64⟩) (fun k=>k≤out.length) (fun k=>out.length-k) 0 [(65,some 65),(66,some _)] (Nat.zero_le _)
     (lg zg ⟨zR,zR,trivial⟩) ?_
    intro k hk
    refine bt ?_;refine z9 ?_
    refine eW rfl (fun h4=>?_) (fun h4=>?_)
    ·have hkl:k<out.length:=by have:=of_decide_eq_true h4; omega
     obtain⟨q,hq⟩:∃q,out[k]?=some q:=⟨_,List.getElem?_eq_getElem hkl⟩
     have hq':out[((k:Int)).toNat]?=some q:=by rw[Int.toNat_natCast]; exact hq
     have hcn:=yd x.client hq
     have hcl:=Cm (out.take k) x.client
     rw[List.length_take]at hcl
     have hw58:IntKind.i64.wrap (cntC (out.take k) x.client+1)=cntC (out.take k) x.client+1:=aH (by omega) (by omega)
     refine z10 ?_;refine dQ [51] [65] (aX aa rfl rfl ⟨rfl,q,hq',_,rfl,rfl⟩ rfl) ?_;refine z1 ?_;refine dQ [53] [66] iB ?_;refine z3 ?_
     by_cases kc:q.client=x.client
     ·have dc:decide (q.client=x.client)=true:=dT kc
      rw[if_pos kc]at hcn
      refine z4 ?_;refine rQ (bM aa rfl rfl hw58) ?_;refine z1 ?_;refine rX ?_;refine z8 ?_
      exact an (k+1) [(65,some 65),(66,some 66)] hkl (by omega) (lg zg ⟨zR,⟨rfl,rfl,_,rfl,aM.of_eq (congrArg (fun n=>Row.box 67 (.d (a9 (bF x i era n)))) hcn.symm)⟩,trivial⟩)
     ·have dc:decide (q.client=x.client)=false:=dF kc
      rw[if_neg kc,Int.add_zero]at hcn
      refine z9 ?_
      exact an (k+1) [(65,some 65),(66,some 66)] hkl (by omega) (lg zg ⟨zR,⟨rfl,rfl,_,rfl,aM.of_eq (congrArg (fun n=>Row.box 67 (.d (a9 (bF x i era n)))) hcn.symm)⟩,trivial⟩)
    ·have hke:k=out.length:=by have:=of_decide_eq_false h4; omega
     subst hke
     rw[List.take_length]
     refine z14 ?_
     have hal:out.length+1≤1048576:=by omega
     refine wc_inv (fun k:Nat=>⟨[(8,.int .i64 k),(6,.ptr 66 []),(5,.int .i64 i),(4,.int .i64 era),(3,.own 65 0 out.length 41 none),(0,.d (encH h))],[(65,some (dN out)),(66,some (.box 67 (.d (a9 (bF x i era (cntC out x.client))))))],72,Try.f28.ntmps,64⟩) (fun k=>k≤h.length∧aW x.client (h.drop k) k=aW x.client (h.drop (i+1)) (i+1)) (fun k=>h.length-k) (i+1) [(65,some 65),(66,some 66)] ⟨hlt,rfl⟩
      (lg zg ⟨zR,zR,trivial⟩) ?_
     rintro k ⟨hk2,hret⟩
     refine bt ?_;refine z8 ?_
     by_cases hkl:k<h.length
     ·have d66:decide ((k:Int)<(h.length:Int))=true:=dT (by omega)
      obtain⟨y,hy⟩:∃y,h[k]?=some y:=⟨_,List.getElem?_eq_getElem hkl⟩
      have hy':h[((k:Int)).toNat]?=some y:=by rw[Int.toNat_natCast]; exact hy
      have hst:=gB x.client hy
      rw[hret]at hst
      refine z15 ?_
      by_cases y3:y.kind=3
      ·have dy:(!decide (y.kind=3))=false:=by rw[dT y3]; rfl
       rw[if_pos y3]at hst
       have hmk:mkOp h i x out era=co (bF x i era (cntC out x.client)) none:=by rw[mkOp,hst]
       rw[hmk]at hgo
       have hl1:out.length+1=(out++[co (bF x i era (cntC out x.client)) none]).length:=by simp
       refine z9 ?_;refine aO (ae (s:=41) aa rfl rfl rfl rfl rfl rfl rfl rfl) rfl ?_;refine aC (aJ (enc:=a9) (s:=41) (xs:=out) aa (co (bF x i era (cntC out x.client)) none) rfl rfl rfl rfl rfl rfl rfl rfl rfl hal rfl) rfl ?_;refine z9 ?_
       exact an (i+1,out++[co (bF x i era (cntC out x.client)) none],era) [(65,some _)] ⟨hlt,by simp; omega,by simp only; omega,by simp only; omega,by simp only[hn']; exact hgo⟩ (by show h.length-(i+1)<h.length-i; omega) (lg ⟨zE,rfl,zE,rfl,⟨_,rfl,AVLe.of_eq (congrArg (fun n=>AV.own _ 0 n 41 none) hl1)⟩,rfl,zE,rfl,trivial⟩ ⟨zR,trivial⟩)
      ·have dy:(!decide (y.kind=3))=true:=by rw[dF y3]; rfl
       rw[if_neg y3]at hst
       refine z13 ?_;refine dQ [81] [66] iB ?_;refine z3 ?_
       by_cases yc:y.client=x.client
       ·have dc:decide (y.client=x.client)=true:=dT yc
        rw[if_pos yc]at hst
        have hmk:mkOp h i x out era=co (bF x i era (cntC out x.client)) (some (k,y)):=by rw[mkOp,hst]
        rw[hmk]at hgo
        have hl1:out.length+1=(out++[co (bF x i era (cntC out x.client)) (some (k,y))]).length:=by simp
        refine z5 ?_;refine rX ?_;refine z10 ?_;refine rX ?_;refine z10 ?_;refine rX ?_;refine z3 ?_;refine CR rfl ?_;refine z7 ?_;refine aO (ae (s:=41) aa rfl rfl rfl rfl rfl rfl rfl rfl) rfl ?_;refine aC (aJ (enc:=a9) (s:=41) (xs:=out) aa (co (bF x i era (cntC out x.client)) (some (k,y))) rfl rfl rfl rfl rfl rfl rfl rfl rfl hal rfl) rfl ?_;refine z9 ?_
        exact an (i+1,out++[co (bF x i era (cntC out x.client)) (some (k,y))],era) [(65,some _)] ⟨hlt,by simp; omega,by simp only; omega,by simp only; omega,by simp only[hn']; exact hgo⟩ (by show h.length-(i+1)<h.length-i; omega) (lg ⟨zE,rfl,zE,rfl,⟨_,rfl,AVLe.of_eq (congrArg (fun n=>AV.own _ 0 n 41 none) hl1)⟩,rfl,zE,rfl,trivial⟩ ⟨zR,trivial⟩)
       ·have dc:decide (y.client=x.client)=false:=dF yc
        rw[if_neg yc]at hst
        refine z9 ?_
        exact an (k+1) [(65,some 65),(66,some 66)] ⟨hkl,hst.symm⟩ (by omega) (lg zg ⟨zR,zR,trivial⟩)
     ·have d66:decide ((k:Int)<(h.length:Int))=false:=dF (by omega)
      have hst:aW x.client (h.drop (i+1)) (i+1)=none:=by rw[←hret,List.drop_eq_nil_of_le (by omega)]; rfl
      have hmk:mkOp h i x out era=co (bF x i era (cntC out x.client)) none:=by rw[mkOp,hst]
      rw[hmk]at hgo
      have hl1:out.length+1=(out++[co (bF x i era (cntC out x.client)) none]).length:=by simp
      refine z18 ?_;refine aO (ae (s:=41) aa rfl rfl rfl rfl rfl rfl rfl rfl) rfl ?_;refine aC (aJ (enc:=a9) (s:=41) (xs:=out) aa (co (bF x i era (cntC out x.client)) none) rfl rfl rfl rfl rfl rfl rfl rfl rfl hal rfl) rfl ?_;refine z9 ?_
      exact an (i+1,out++[co (bF x i era (cntC out x.client)) none],era) [(65,some _)] ⟨hlt,by simp; omega,by simp only; omega,by simp only; omega,by simp only[hn']; exact hgo⟩ (by show h.length-(i+1)<h.length-i; omega) (lg ⟨zE,rfl,zE,rfl,⟨_,rfl,AVLe.of_eq (congrArg (fun n=>AV.own _ 0 n 41 none) hl1)⟩,rfl,zE,rfl,trivial⟩ ⟨zR,trivial⟩)
   ·have d1:(!decide (x.kind=1))=true:=by rw[dF k1]; rfl
    rw[if_neg k1]at hgo
    refine z10 ?_
    exact an (i+1,out,era) [(65,some 65)] ⟨hlt,by simp only; omega,by simp only; omega,by simp only; omega,by simp only[hn']; exact hgo⟩ (by show h.length-(i+1)<h.length-i; omega) (lg zi ⟨zR,trivial⟩)
 ·have hi2:i=h.length:=by have:=of_decide_eq_false h2; omega
  subst hi2
  rw[Nat.sub_self]at hgo
  rw[←hgo]
  refine z12 ?_
  exact⟨trivial,[(64,some _)],lg zV ⟨zR,trivial⟩⟩
theorem lQ (h:List HEv) (hL:h.length≤1000000):FnIs Try.prog 28 [.d (encH h)] [] (.d (bS (opsR h))) []:=(yZ h hL).freeze_out 64 _ rfl (Frz.own rfl) trivial
end Go.Proofs.Ytmdgmolbamlicaa
namespace Go.Proofs.Ytmdgmolbamlicaa
open Go.Eng Go.Plain
set_option maxHeartbeats 32000000
set_option maxRecDepth 20000
structure nH (p:List HEv) (s:RdS):Prop where
 ok:s.Ok p.length
 idle:∀c:Nat,c<8→pend p c<0→s.busy[c]?=some 0
 busy:∀c:Nat,c<8→0≤pend p c→∃b o y,s.busy[c]?=some b∧0<b∧s.all[(b-1).toNat]?=some o∧p[(pend p c).toNat]?=some y∧o.op=y.op
 free:∀c d:Nat,c<8→d<8→c≠d→∀b,s.busy[c]?=some b→s.busy[d]?=some b→b=0
theorem CW:nH [] rd0:=⟨rz,fun c hc _=>by
 match c,hc with
 | 0,_=>rfl
 | 1,_=>rfl
 | 2,_=>rfl
 | 3,_=>rfl
 | 4,_=>rfl
 | 5,_=>rfl
 | 6,_=>rfl
 | 7,_=>rfl,fun c _ h=>absurd h (by rw[show pend [] ((c:Nat):Int) = -1 from rfl]; decide),fun c d hc hd _ b hb _=>by
 have:=List.mem_of_getElem? hb
 have hz:∀b∈rd0.busy,b=0:=by decide
 exact hz b this⟩
theorem nH.fits {p:List HEv} {s:RdS} (T:nH p s) (x:HEv):(bR s x).2=fitB p x:=by
 unfold bR fitB
 simp only
 by_cases k1:x.kind=1
 ·rw[if_pos k1,if_pos k1]
  have e:inv1 s x=fit1 p x:=by
   unfold inv1 fit1
   by_cases c0:0≤x.client
   ·by_cases c8:x.client<8
    ·have c7:x.client≤7:=by omega
     have hc:((x.client.toNat:Nat):Int)=x.client:=Int.toNat_of_nonneg c0
     have hb:decide (s.busy[x.client.toNat]?=some 0)=decide (pend p x.client<0):=by
      by_cases hp:pend p x.client<0
      ·rw[T.idle x.client.toNat (by omega) (by rw[hc]; exact hp),dT hp]; rfl
      ·obtain⟨b,o,y,h1,h2,_⟩:=T.busy x.client.toNat (by omega) (by rw[hc]; omega)
       rw[h1,dF hp]
       exact dF fun e=>by cases e; omega
     rw[hb,dT c8,dT c7]
    ·rw[dF c8,dF (by omega:¬x.client≤7)]; simp
   ·rw[dF c0]; simp
  rw[←e]
  cases inv1 s x <;> rfl
 ·rw[if_neg k1,if_neg k1]
  by_cases k2:x.kind=2
  ·rw[if_pos k2,if_pos k2]
   have e:ret1 s x=fit2 p x:=by
    unfold ret1 fit2
    by_cases c0:0≤x.client
    ·by_cases c8:x.client<8
     ·have c7:x.client≤7:=by omega
      have hc:((x.client.toNat:Nat):Int)=x.client:=Int.toNat_of_nonneg c0
      by_cases hp:pend p x.client<0
      ·rw[T.idle x.client.toNat (by omega) (by rw[hc]; exact hp),dT hp]
       simp
      ·obtain⟨b,o,y,h1,h2,h3,h4,h5⟩:=T.busy x.client.toNat (by omega) (by rw[hc]; omega)
       rw[hc]at h4
       rw[opOf,h1]
       simp only
       rw[h3,h4,dF hp,dT c8,dT c7,dT c0,dF (fun e=>by cases e; omega:¬some b=some 0)]
       simp only[h5]
       cases decide (x.op=zOp) <;> cases kn4 x.err <;> cases decide (x.value=zBk) <;> cases decide (y.op.kind=1) <;> cases decide (x.err=0) <;> rfl
     ·rw[dF c8,dF (by omega:¬x.client≤7)]; simp
    ·rw[dF c0]; simp
   rw[←e]
   cases ret1 s x <;> rfl
  ·rw[if_neg k2,if_neg k2]
   by_cases k3:x.kind=3
   ·rw[if_pos k3,if_pos k3]
   ·rw[if_neg k3,if_neg k3]
theorem p5 {s:RdS} {x:HEv} (h:(bR s x).2=true):x.kind=1∧inv1 s x=true∨x.kind=2∧ret1 s x=true∨x.kind=3∧sj x=true:=by
 unfold bR at h
 simp only at h
 by_cases k1:x.kind=1
 ·rw[if_pos k1]at h
  cases hi:inv1 s x with
  | true=>exact .inl ⟨k1,rfl⟩
  | false=>rw[hi]at h; cases h
 ·rw[if_neg k1]at h
  by_cases k2:x.kind=2
  ·rw[if_pos k2]at h
   cases hi:ret1 s x with
   | true=>exact .inr (.inl ⟨k2,rfl⟩)
   | false=>rw[hi]at h; cases h
  ·rw[if_neg k2]at h
   by_cases k3:x.kind=3
   ·rw[if_pos k3]at h; exact .inr (.inr ⟨k3,h⟩)
   ·rw[if_neg k3]at h; cases h
theorem tu {s:RdS} {x:HEv} (h:inv1 s x=true):0≤x.client∧x.client<8∧s.busy[x.client.toNat]?=some 0∧x.op.data.length≤64∧x.value=zBk∧x.err=0:=by
 simp only[inv1,Bool.and_eq_true,decide_eq_true_eq]at h
 obtain⟨⟨⟨⟨⟨h1,h2⟩,h3⟩,h4⟩,h5⟩,h6⟩:=h
 exact⟨h1,h2,h3,h4,h5,h6⟩
theorem sM {s:RdS} {x:HEv} {n:Nat} (hs:s.Ok n) (h:ret1 s x=true):0≤x.client∧x.client<8∧x.op=zOp∧kn4 x.err=true∧∃b o,s.busy[x.client.toNat]?=some b∧0<b∧s.all[(b-1).toNat]?=some o∧opOf s x=some o∧(x.value=zBk∨o.op.kind=1∧x.err=0):=by
 simp only[ret1,Bool.and_eq_true,decide_eq_true_eq]at h
 obtain⟨⟨⟨⟨⟨h1,h2⟩,h3⟩,h4⟩,h5⟩,h6⟩:=h
 obtain⟨b,hbg⟩:∃b,s.busy[x.client.toNat]?=some b:=⟨_,List.getElem?_eq_getElem (by rw[hs.blen]; omega)⟩
 have hb:=hs.busy b (List.mem_of_getElem? hbg)
 have hb0:b≠0:=by rw[hbg]at h3; simpa using h3
 obtain⟨o,hog⟩:∃o,s.all[(b-1).toNat]?=some o:=⟨_,List.getElem?_eq_getElem (by omega)⟩
 have ho:opOf s x=some o:=by rw[opOf,hbg]; exact hog
 rw[ho]at h6
 refine⟨h1,h2,h4,h5,b,o,hbg,by omega,hog,ho,?_⟩
 simpa[Bool.or_eq_true,Bool.and_eq_true]using h6
theorem nn {s:RdS} {x:HEv} (k1:x.kind=1) (h:inv1 s x=true):(bR s x).1=⟨s.busy.set x.client.toNat (s.all.length+1),s.number.set x.client.toNat ((s.number[x.client.toNat]?.getD 0)+1),s.era,s.read+1,s.all++[⟨x.client,s.number[x.client.toNat]?.getD 0,s.era,x.op,s.read,-1,zBk,0⟩]⟩:=by simp[bR,k1,h]
theorem nk {s:RdS} {x:HEv} {b:Int} {o:HOp} (k2:x.kind=2) (h:ret1 s x=true) (hb:s.busy[x.client.toNat]?=some b) (ho:opOf s x=some o):(bR s x).1=⟨s.busy.set x.client.toNat 0,s.number,s.era,s.read+1,s.all.set (b-1).toNat { o with returned:=s.read,value:=x.value,err:=x.err }⟩:=by simp[bR,k2,h,ho,hb]
theorem kQ {s:RdS} {x:HEv} (k3:x.kind=3):(bR s x).1=⟨fl,s.number,s.era+1,s.read+1,s.all⟩:=by simp[bR,k3]
theorem iJ {α:Type} {p:List α} {x y:α} {k:Nat} (h:p[k]?=some y):(p++[x])[k]?=some y:=by
 rw[List.getElem?_append_left (List.getElem?_eq_some_iff.1 h).1]; exact h
theorem nH.next {p:List HEv} {s:RdS} (T:nH p s) {x:HEv} (h:(bR s x).2=true):nH (p++[x]) (bR s x).1:=by
 have hok:=T.ok.next x
 have hlen:(p++[x]).length=p.length+1:=by simp
 rcases p5 h with ⟨k1,hi⟩ | ⟨k2,hi⟩ | ⟨k3,hi⟩
 ·obtain⟨c0,c8,hb,_,_,_⟩:=tu hi
  have e:=nn k1 hi
  rw[e]at hok ⊢
  have hps:∀d:Int,pend (p++[x]) d=if x.client=d then (p.length:Int) else pend p d:=fun d=>by
   rw[cL,eo,if_neg (by omega),if_pos k1]
  refine⟨by rw[hlen]; exact hok,fun d hd hp=>?_,fun d hd hp=>?_,fun c d hc hd hcd b h1 h2=>?_⟩
  ·rw[hps]at hp
   by_cases hcd:x.client=d
   ·rw[if_pos hcd]at hp; omega
   ·rw[if_neg hcd]at hp
    rw[List.getElem?_set_ne (by omega)]
    exact T.idle d hd hp
  ·rw[hps]at hp ⊢
   by_cases hcd:x.client=d
   ·rw[if_pos hcd]
    refine⟨s.all.length+1,_,x,by rw[show x.client.toNat=d by omega]; exact List.getElem?_set_self (by rw[T.ok.blen]; exact hd),by omega,by
     rw[show ((s.all.length:Int)+1-1).toNat=s.all.length by omega]
     exact List.getElem?_concat_length .., by
     rw[Int.toNat_natCast]
     exact List.getElem?_concat_length .., rfl⟩
   ·rw[if_neg hcd]at hp ⊢
    obtain⟨b,o,y,g1,g2,g3,g4,g5⟩:=T.busy d hd hp
    exact⟨b,o,y,by rw[List.getElem?_set_ne (by omega)]; exact g1,g2,iJ g3,iJ g4,g5⟩
  ·have hbb:∀(k:Nat) (b:Int),s.busy[k]?=some b→b≤s.all.length:=fun k b hk=>(T.ok.busy b (List.mem_of_getElem? hk)).2
   by_cases e1:x.client.toNat=c
   ·subst e1
    rw[List.getElem?_set_self (by rw[T.ok.blen]; exact hc)]at h1
    rw[List.getElem?_set_ne hcd]at h2
    have:=hbb _ _ h2
    cases h1
    omega
   ·rw[List.getElem?_set_ne e1]at h1
    by_cases e2:x.client.toNat=d
    ·subst e2
     rw[List.getElem?_set_self (by rw[T.ok.blen]; exact hd)]at h2
     have:=hbb _ _ h1
     cases h2
     omega
    ·rw[List.getElem?_set_ne e2]at h2
     exact T.free c d hc hd hcd b h1 h2
 ·obtain⟨c0,c8,_,_,b,o,hb,hb0,hog,ho,_⟩:=sM T.ok hi
  have e:=nk k2 hi hb ho
  rw[e]at hok ⊢
  have hps:∀d:Int,pend (p++[x]) d=if x.client=d then-1 else pend p d:=fun d=>by
   rw[cL,eo,if_neg (by omega),if_neg (by omega),if_pos k2]
  refine⟨by rw[hlen]; exact hok,fun d hd hp=>?_,fun d hd hp=>?_,fun c d hc hd hcd b' h1 h2=>?_⟩
  ·rw[hps]at hp
   by_cases hcd:x.client=d
   ·rw[show x.client.toNat=d by omega]; exact List.getElem?_set_self (by rw[T.ok.blen]; exact hd)
   ·rw[if_neg hcd]at hp
    rw[List.getElem?_set_ne (by omega)]
    exact T.idle d hd hp
  ·rw[hps]at hp ⊢
   by_cases hcd:x.client=d
   ·rw[if_pos hcd]at hp; omega
   ·rw[if_neg hcd]at hp ⊢
    obtain⟨b',o',y,g1,g2,g3,g4,g5⟩:=T.busy d hd hp
    have hne:b'≠b:=fun e=>by
     subst e
     have:=T.free x.client.toNat d (by omega) hd (by omega) _ hb g1
     omega
    exact⟨b',o',y,by rw[List.getElem?_set_ne (by omega)]; exact g1,g2,by rw[List.getElem?_set_ne (by omega)]; exact g3,iJ g4,g5⟩
  ·by_cases e1:x.client.toNat=c
   ·subst e1
    rw[List.getElem?_set_self (by rw[T.ok.blen]; exact hc)]at h1
    cases h1; rfl
   ·rw[List.getElem?_set_ne e1]at h1
    by_cases e2:x.client.toNat=d
    ·subst e2
     rw[List.getElem?_set_self (by rw[T.ok.blen]; exact hd)]at h2
     cases h2; rfl
    ·rw[List.getElem?_set_ne e2]at h2
     exact T.free c d hc hd hcd b' h1 h2
 ·have e:=kQ (s:=s) k3
  rw[e]at hok ⊢
  have hps:∀d:Int,pend (p++[x]) d = -1:=fun d=>by rw[cL,eo,if_pos k3]
  have hz:∀b∈fl,b=0:=by decide
  refine⟨by rw[hlen]; exact hok,fun d hd _=>?_,fun d hd hp=>by rw[hps]at hp; omega,fun c d _ _ _ b h1 _=>hz b (List.mem_of_getElem? h1)⟩
  obtain⟨b,hb⟩:∃b,fl[d]?=some b:=⟨_,List.getElem?_eq_getElem hd⟩
  show fl[d]?=some 0
  rw[hb,hz b (List.mem_of_getElem? hb)]
theorem sw (h:List HEv):∀(n:Nat) (s:RdS) (i:Nat),h.length-i=n→i≤h.length→nH (h.take i) s →
  qe h n i=(if 0≤(goS s (h.drop i) i).2 then ((goS s (h.drop i) i).2,18) else (0,0))∧((goS s (h.drop i) i).2<0→nH h (goS s (h.drop i) i).1)
 | 0,s,i,hn,hi,T=>by
  have he:i=h.length:=by omega
  subst he
  rw[List.drop_length]
  rw[List.take_length]at T
  exact⟨rfl,fun _=>T⟩
 | n+1,s,i,hn,hi,T=>by
  obtain⟨x,hx⟩:∃x,h[i]?=some x:=⟨_,List.getElem?_eq_getElem (by omega)⟩
  have htk:h.take (i+1)=h.take i++[x]:=by rw[List.take_add_one,hx]; rfl
  rw[mf hx,qe,hx]
  simp only
  rw[←T.fits x]
  cases hb:(bR s x).2 with
  | true =>
   simp only[if_pos]
   have T':=T.next hb
   rw[←htk]at T'
   exact sw h n _ (i+1) (by omega) (by omega) T'
  | false =>
   simp only[Bool.false_eq_true,if_false]
   rw[if_pos (by omega)]
   exact⟨rfl,fun hlt=>by omega⟩
theorem A9 (h:List HEv):chkH h=rchk h:=by
 unfold chkH rchk
 by_cases h8:8192<h.length
 ·rw[if_pos h8,if_pos h8]
 ·rw[if_neg h8,if_neg h8]
  exact (sw h h.length rd0 0 (by omega) (Nat.zero_le _) CW).1.symm
end Go.Proofs.Ytmdgmolbamlicaa
