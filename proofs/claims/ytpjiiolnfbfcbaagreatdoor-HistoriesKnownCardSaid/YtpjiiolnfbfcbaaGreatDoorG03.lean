/- Texts of the proof: KJP, KJQ, Eng69, Eng70, Eng71, PT, PP, PP2, PR, PTab, PDat, PL, Eng72, Eng73, TryzPlain, P3, P4, Eng74, P5, PU, P6, PW, P7, P9, P10. -/
import Derived.Test.YtpjiiolnfbfcbaaGreatDoorRows
import Derived.Test.YtpjiiolnfbfcbaaGreatDoorG02
import Derived.ProofKit
import Derived.LaidMore
import Derived.OpenShut
import Derived.Stop.Joined
import Derived.HandedShaped
import Derived.Shelf.Vars
import Derived.Lay
import Derived.SevenTiedAt
import Derived.Lib.AppendStr
import Derived.Lib.DecodeN
import Derived.Lib.ItoaMem
import Derived.Lib.ParseIntB
import Derived.Lib.ParseIntBCases
import Derived.Test.YtpjiiolnfbfcbaaGreatDoorChecked
import Derived.Test.YtpjiiolnfbfcbaaGreatDoorG01
import Derived.KernelRfl
import Derived.Lib.Split
import Derived.Lib.CountLaws
import Derived.Lib.CutLaws
import Derived.Lib.IndexBytes
import Derived.Shelf.Strings.Builder1
import Derived.Shelf.Small.Strs
import Derived.Shelf.Strconv.Atoi
import Derived.Shelf.Strconv.Itoa0
import Derived.Shelf.Strconv.Itoa1
import Derived.Shelf.LaysM
import Derived.Shelf.Strconv.Itoa2
import Derived.Shelf.Strconv.Itoa3
import Derived.Shelf.Strconv.AtoiErrFast
import Derived.Shelf.Strconv.ParseIntEmpty
import Derived.Shelf.Strconv.AtoiFail
import Derived.Shelf.Strconv.Clone
import Derived.Shelf.Strconv.SyntaxError
import Derived.Shelf.LaysC
import Derived.Shelf.Strconv.ToError
import Derived.Shelf.Strconv.Lower
import Derived.Shelf.Strconv.ParseUint10
import Derived.Shelf.Strconv.ParseUint10Empty
import Derived.Shelf.Strconv.ParseUint10Any
import Derived.Shelf.Strconv.ParseInt10
import Derived.Shelf.Strconv.AtoiLong
import Derived.Shelf.Strconv.AtoiInnerAll
import Derived.Shelf.Strconv.RangeError
import Derived.Shelf.Strconv.ToErrorRange
import Derived.Shelf.Strconv.AtoiAll
import Derived.Ground.MpProg
import Derived.Shelf.Pu.ParseUintPublic10
import Derived.Shelf.Strings.Search1
import Derived.Shelf.Strings.Search2
import Derived.Shelf.Strings.Search3
import Derived.Shelf.Strings.Cut
import Derived.Shelf.Strings.Count
import Derived.Shelf.Strings.Shaped
import Derived.Shelf.Strings.Prefix
import Derived.Shelf.Strings.Split
import Derived.Shelf.Strings.SplitShaped
import Derived.Shelf.Unicode.DecodeSlow
import Derived.Shelf.Bytes.SlEqualAll
import Derived.Shelf.Bytes.Small
import Derived.Test.YtpjiiolnfbfcbaaGreatDoorProg
import Derived.Lib.SmallJoins
import Derived.Lib.IndexLaws

set_option linter.unusedVariables false
set_option linter.unusedSimpArgs false
set_option linter.unusedSectionVars false
set_option maxRecDepth 10000

namespace Go.Proofs.YtpjiiolnfbfcbaaGreatDoor
open Go.ChangeShapes Go.WideShapes Go.ChangeAt Go.RowKit Go.Eng
theorem own:ownKnob Tryz.prog.godebug=none:=by kernel_rfl
theorem ye:laidOutB Tryz.prog=true:=by kernel_rfl
theorem gPow : Tryz.prog.globalNamed "internal/strconv.uint64pow10" = some 3 := by kernel_rfl
theorem gSyn : Tryz.prog.globalNamed "strconv.ErrSyntax" = some 1 := by kernel_rfl
theorem gRan : Tryz.prog.globalNamed "strconv.ErrRange" = some 2 := by kernel_rfl
theorem tPow:(Tryz.prog.globals[3]?).map (·.type)=some 187:=by kernel_rfl
theorem tSyn:(Tryz.prog.globals[1]?).map (·.type)=some 60:=by kernel_rfl
theorem tRan:(Tryz.prog.globals[2]?).map (·.type)=some 60:=by kernel_rfl
theorem gZ {P:Program} {w:World} {n:String} {g:Nat} {cs:Array Value} (hg:P.globalNamed n=some g) (h:w.var? P n=some cs):∃t fr,w.heap[g]?=some (.cells cs t fr):=by
 unfold World.var? at h
 rw[hg]at h
 simp only[Option.bind_some]at h
 split at h
 ·rename_i t fr hh
  cases h
  exact⟨_,_,hh⟩
 ·cases h
theorem wO {W:World} (hL:laidMetH Tryz.prog Rows.historiesKnownRow.laid W) (hsh:W.ShapedOpen Tryz.prog):∀x∈nW,x.2 (W.heap[x.1]?)∧x.1<W.heap.size:=by
 rw[MakeChecks.laidMetH_plain _ _ _ (by kernel_rfl)]at hL
 obtain⟨ps,⟨_,_,_,_,_,_,_,_,_,_,⟨_,_,_,_,_,_,_,_,_,_,⟨g3,t3,cs3,f3,p3,q3,hg3,ht3,hv3,hd3,⟨_,_,_,_,_,_,_,_,_,_,⟨g2,t2,cs2,f2,p2,q2,hg2,ht2,hv2,hd2,⟨g1,t1,cs1,f1,p1,q1,hg1,ht1,hv1,hd1,_,_⟩,_⟩,_⟩,_⟩,_⟩,_⟩,_,_⟩:=hL
 obtain rfl:=Option.some.inj (gPow.symm.trans hg3)
 obtain rfl:=Option.some.inj (gRan.symm.trans hg2)
 obtain rfl:=Option.some.inj (gSyn.symm.trans hg1)
 obtain rfl:=Option.some.inj (tPow.symm.trans ht3)
 obtain rfl:=Option.some.inj (tRan.symm.trans ht2)
 obtain rfl:=Option.some.inj (tSyn.symm.trans ht1)
 obtain⟨_,u2,v2,hc2,_,_⟩:=iface_of_trod Tryz.underlying60 hd2
 obtain⟨_,u1,v1,hc1,_,_⟩:=iface_of_trod Tryz.underlying60 hd1
 have hc3:cs3.toList=Lib.pow10Tab.map fun z=>Value.int .u64 z:=Lib.cells_of_tab (zs:=Lib.pow10Tab) Tryz.underlying187 Tryz.underlying163 (by kernel_rfl) (by kernel_rfl) hd3
 obtain⟨a3,b3,hb3⟩:=gZ gPow hv3
 obtain⟨a2,b2,hb2⟩:=gZ gRan hv2
 obtain⟨a1,b1,hb1⟩:=gZ gSyn hv1
 obtain⟨cs0,hh0,hs0,hr0⟩:=hsh.1 0 #[.int .i64 0] 3 (of_decide_eq_true (by kernel_rfl)) (by kernel_rfl)
 obtain⟨m,hm⟩:=cell_of_shapedOpen_int (g:=0) (zero := #[.int .i64 0]) (t:=3) hsh (of_decide_eq_true (by kernel_rfl)) (by kernel_rfl) rfl (by kernel_rfl) (by kernel_rfl) Tryz.underlying3
 have he0:∃fr,W.heap[0]?=some (.cells #[.int .i64 m] 3 fr):=by
  have h1:cs0[0]?=some (.int .i64 m):=by
   have:=hm
   simp only[World.cell?,hh0]at this
   exact this
  have h2:cs0 = #[.int .i64 m]:=by
   apply Array.ext'
   obtain⟨l⟩:=cs0
   have hl:l.length=1:=by simpa using hs0
   match l,hl,h1 with
   | [x],_,h1=>simpa using h1
  exact⟨_,by rw[hh0,h2]⟩
 obtain⟨fr0,he0⟩:=he0
 have e1:cs1 = #[.iface u1 v1]:=Array.ext' hc1
 have e2:cs2 = #[.iface u2 v2]:=Array.ext' hc2
 have e3:cs3=(Lib.pow10Tab.map fun z=>Value.int .u64 z).toArray:=Array.ext' (by simpa using hc3)
 intro x hx
 simp only[nW,List.mem_cons,List.not_mem_nil,or_false]at hx
 rcases hx with rfl | rfl | rfl | rfl
 ·exact⟨⟨m,3,fr0,he0⟩,(Array.getElem?_eq_some_iff.1 he0).1⟩
 ·refine⟨⟨.iface u1 v1,a1,b1,?_,.inr ⟨u1,v1,rfl⟩⟩,(Array.getElem?_eq_some_iff.1 hb1).1⟩
  rw[hb1,e1]
 ·refine⟨⟨.iface u2 v2,a2,b2,?_,.inr ⟨u2,v2,rfl⟩⟩,(Array.getElem?_eq_some_iff.1 hb2).1⟩
  rw[hb2,e2]
 ·refine⟨⟨a3,b3,?_⟩,(Array.getElem?_eq_some_iff.1 hb3).1⟩
  rw[hb3,e3]
theorem uM {H:Type} {enc:TypeId×Value→H} {a:Assume} {C:Checked} {os:Os} {f:FuncId} {fn:Func} {s:ChangeSpec} {conds:List PathCond} {apart fresh handsOn again:Bool} {X:World→Array Value→Prop}
  (hX:∀(w w':World) (args:Array Value),w.heap=w'.heap→X w args→X w' args)
  (own:ownKnob C.prog.godebug=none) (started:os.Started) (noInit:C.prog.inits.idxOf? f=none) (hfn:C.prog.funcs[f]?=some fn)
  (witness:∃(w:World) (tape:Tape) (i:Input),w.os=os∧(w.forCall tape i).Shaped C.prog∧i.vars=[]∧Input.okWide C.prog (w.forCall tape i) .any w.heap.size f i ∧
   ((s.pre enc C.prog fn conds apart (w.forCall tape i).memory i.args∧X (w.forCall tape i).memory i.args)∧sizedMet enc C.prog fn (OpenSpec.ofChange s) apart (w.forCall tape i).memory i.args)∧a.holds C.prog (lone (Frame.enter C.prog f i.args .normal) [] (w.forCall tape i)))
  (contract:∀(W:World) (base:Nat) (args:Array Value) (ds gs:List (DataW H)) (before:List MemPlace),
   (∀(j:Nat) t v,fn.params[j]?=some t→args[j]?=some v→Value.okWide C.prog W .any base t v) →
   DataW.Whole enc C.prog fn.params.toList s.vars apart W args.toList ds gs before →
   X W args→W.ShapedOpen C.prog →
   Calls C.prog f args W fun e W'=>∃v,e=.returned v∧s.post enc C.prog fn apart fresh handsOn again W args v W') :
  ReturnsInHanded a C os f .any (fun w args=>(s.pre enc C.prog fn conds apart w args∧X w args)∧sizedMet enc C.prog fn (OpenSpec.ofChange s) apart w args) (s.post enc C.prog fn apart fresh handsOn again):=by
 refine returnsInHanded_of_calls own started noInit witness ?_
 intro w tape i _ hsh _ hok hpre _
 obtain⟨_,_,_,fn',hfn',_,_,_,_,hval⟩:=hok
 have e:fn'=fn:=Option.some.inj (hfn'.symm.trans hfn)
 subst e
 obtain⟨⟨⟨ds,gs,before,hw,hc⟩,hx⟩,hz⟩:=hpre
 have hw':=DataW.Whole.of_heap (w':=w.forCall tape i) (by rfl) hw
 refine (contract (w.forCall tape i) w.heap.size i.args ds gs before hval hw' (hX _ _ _ (by rfl) hx) hsh).mono fun e W' ⟨v,he,hp⟩=>?_
 subst he
 exact ChangeSpec.post_blind hp
end Go.Proofs.YtpjiiolnfbfcbaaGreatDoor
namespace Go.Proofs.YtpjiiolnfbfcbaaGreatDoor
open Go
theorem and2 {a b:Bool} (h:a=true) (k:b=true):(a&&b)=true:=by rw[h,k]; rfl
theorem xW:mapsRowed Tryz.prog=true:=by kernel_rfl
theorem xY:(Rows.historiesKnownRow.plainKeys==Tryz.prog.plainKeys)=true:=by kernel_rfl
theorem wc:Tryz.prog.stopsHeard=true:=by kernel_rfl
theorem we:Tryz.prog.mayEnter=true:=by kernel_rfl
theorem wb:(Rows.historiesKnownRow.lifted==Tryz.prog.liftsFinal)=true:=by kernel_rfl
theorem xX:(Tryz.prog.make==some Rows.historiesKnownRow.make)=true:=by kernel_rfl
end Go.Proofs.YtpjiiolnfbfcbaaGreatDoor
namespace Go.Eng
open Go.RowKit
section
variable {P : Program} {T : Tab} {env : Env} {h : Upds} {n : Nat}
theorem tf {κ:Type} [DecidableEq κ] {σ:Place} {w w1:World} {X:Nat→Prop} {f:κ→Value} {kt m:Nat} {ds:TypeDesc} (hm:m≤10000) (hu:P.underlying kt=some ds) (he:∀a b,EqOk P m kt (.sc (f a)) (.sc (f b)) (decide (a=b)))
  (hs:∀a b,Instr.sameNow ds (f a) (f b)=some (decide (a=b))) {k:κ} {u:Value} (hk:RelV σ w X (.d (.sc (f k))) u) :
  ∀(l:List (κ×AV)) (es:List MapEntry) (i:Nat),ct σ w X (fun k=>.sc (f k)) l es→∃r,Instr.findNow ds u es i=some r∧(Instr.findAsking kt u es i).run P w1=.ok r w1
 | [],es,i,h=>by
  rw[show es=[] from h]
  exact⟨none,rfl,by simp[Instr.findAsking]⟩
 | (k',v)::l,es,i,h=>by
  obtain⟨e,es',rfl,h1,h2,h3⟩:=h
  have e1:=(RelV.sc.1 hk).1
  have e2:=(RelV.sc.1 h1).1
  have heq:=he k k' σ w1 X u e.key (10000-m) (RelV.sc.2 (RelV.sc.1 hk)) (RelV.sc.2 (RelV.sc.1 h1))
  rw[show 10000-m+m=10000 by omega]at heq
  have hsn:Instr.sameNow ds u e.key=some (decide (k=k')):=by rw[e1,e2]; exact hs k k'
  by_cases hkk:k=k'
  ·rw[decide_eq_true hkk]at heq hsn
   exact⟨some (i,e.val),by simp only[Instr.findNow,hsn],by simp[Instr.findAsking,Op.equal,Op.maxDepth,heq]⟩
  ·rw[decide_eq_false hkk]at heq hsn
   obtain⟨r,g1,g2⟩:=tf hm hu he hs hk l es' (i+1) h3
   exact⟨r,by simp only[Instr.findNow,hsn]; exact g1,by simp only[Instr.findAsking,Op.equal,Op.maxDepth,Sem.run_bind,heq,Result.andThen_ok]; simpa using g2⟩
theorem qj {κ:Type} [DecidableEq κ] {f:κ→Value} {kt m:Nat} {ds:TypeDesc} (hm:m≤10000) (hu:P.underlying kt=some ds) (ho:∀k,tL P m kt (.sc (f k))) (he:∀a b,EqOk P m kt (.sc (f a)) (.sc (f b)) (decide (a=b)))
  (hs:∀a b,Instr.sameNow ds (f a) (f b)=some (decide (a=b))) (hb:∀k n,Instr.sameBits n (f k) (f k)=true):fT P kt (fun k=>.sc (f k)) m :=
 ⟨hm,ho,he,fun σ w w1 X k u l es hk hl=>by
  obtain⟨r,g1,g2⟩:=tf (w1:=w1) hm hu he hs hk l es 0 hl
  simp only[Instr.findKey,Sem.run_bind,run_underlying hu,Result.andThen_ok,g1,Sem.run_pure,g2],fun k=>hb k⟩
theorem oV {kt:Nat} (hu:P.underlying kt=some .string):fT P kt (fun l:List UInt8=>strD l) 1:=by
 refine qj (f:=fun l=>.string (mkS l)) (by decide) hu (fun k=>sn hu) (fun a b=>?_) (fun a b=>?_) (fun k n=>by
  have:(mkS k==mkS k)=true:=by rw[sO]; exact decide_eq_true rfl
  cases n <;> simpa[Instr.sameBits]using this)
 ·have:=uS (P:=P) (a:=mkS a) (b:=mkS b) hu
  rwa [jg]at this
 ·show some ((mkS a==mkS b))=_
  rw[←jg,sO]
theorem uF {kt:Nat} {ki:IntKind} (hu:P.underlying kt=some (.int ki)) (k:IntKind):fT P kt (fun a:Int=>.sc (.int k a)) 1:=by
 refine qj (f:=fun a=>.int k a) (by decide) hu (fun a=>yf hu) (fun a b=>w8 hu) (fun a b=>?_) (fun k n=>by cases n <;> simp[Instr.sameBits])
 show (if k=k then some (a==b) else none)=_
 rw[if_pos rfl,Bool.beq_eq_decide_eq]
theorem cX {t kt et:TypeId} {κ:Type} [DecidableEq κ] {enc:κ→D} {m r j:Nat} {x y:Operand} {k:κ} {l:List (κ×AV)} {v:AV} (K:fT P kt enc m) (ht:P.underlying t=some (.map kt et))
  (hx:ay env x=some (.mapr r)) (hy:ay env y=some (.d (enc k))) (hr:bp h r=some (.mo (mapC enc l))) (hf:dK k l 0=some (j,v)) :
  an P (.lookup t x y true) env h n (some (.tup (.acons v (.acons (.bool true) .anil)))) []:=.of_comes fun C G st σ w a o ho hA hd hst hn=>by
 have h1:=(ao hst (hA.ev hx)).1
 have h2:=(ao hst (hA.ev hy)).1
 have hrow:=hA.row _ _ hr
 obtain⟨b,c,hs,hux⟩:=RelV.mapr.1 h1
 obtain⟨b',es,hb1,hb2,hb3,hb4⟩:=hst.rows r _ hrow
 rw[hs]at hb2
 cases hb2
 have hl:=(cQ l _).1 hb4
 have hfd:=K.found h2 hl
 rw[hf]at hfd
 obtain⟨e,e1,e2,e3,e4,e5⟩:=hfd
 refine .quiet (u :=.tuple #[e.val,.bool true]) hst hd ⟨rfl,rfl⟩ ?_ ?_ ?_
 ·have hget:(getObj b).run P w=.ok (.map es es.size) w:=by simp[getObj,Sem.run,hb3]
  simp only[execOp,ho,Instr.lookup,Sem.run_bind,run_underlying ht,Result.andThen_ok,hux,hget,Sem.run_pure,K.check h2,e1]
  rfl
 ·unfold RelV
  rw[if_neg (by simp[AV.isAgg])]
  exact⟨[e.val,.bool true],rfl,e.val,[.bool true],rfl,e4,.bool true,[],rfl,RelV.sc.2 ⟨rfl,rfl⟩,rfl⟩
 ·exact⟨(dH l).1 (hst.rowsG r _ hrow).2 (k,v) (List.mem_of_getElem? e5),trivial,trivial⟩
theorem jV {t kt et:TypeId} {κ:Type} [DecidableEq κ] {enc:κ→D} {m r:Nat} {x y:Operand} {k:κ} {l:List (κ×AV)} {d:D} (K:fT P kt enc m) (ht:P.underlying t=some (.map kt et)) (hz:jL P et d)
  (hx:ay env x=some (.mapr r)) (hy:ay env y=some (.d (enc k))) (hr:bp h r=some (.mo (mapC enc l))) (hf:dK k l 0=none) :
  an P (.lookup t x y true) env h n (some (.tup (.acons (.d d) (.acons (.bool false) .anil)))) []:=.of_comes fun C G st σ w a o ho hA hd hst hn=>by
 have h1:=(ao hst (hA.ev hx)).1
 have h2:=(ao hst (hA.ev hy)).1
 have hrow:=hA.row _ _ hr
 obtain⟨b,c,hs,hux⟩:=RelV.mapr.1 h1
 obtain⟨b',es,hb1,hb2,hb3,hb4⟩:=hst.rows r _ hrow
 rw[hs]at hb2
 cases hb2
 have hl:=(cQ l _).1 hb4
 have hfd:=K.found h2 hl
 rw[hf]at hfd
 obtain⟨z,hz,hzr⟩:=hz.run
 refine .quiet (u :=.tuple #[z,.bool false]) hst hd ⟨rfl,rfl⟩ ?_ ?_ ⟨trivial,trivial,trivial⟩
 ·have hget:(getObj b).run P w=.ok (.map es es.size) w:=by simp[getObj,Sem.run,hb3]
  simp only[execOp,ho,Instr.lookup,Sem.run_bind,run_underlying ht,Result.andThen_ok,hux,hget,Sem.run_pure,K.check h2,hfd,hz]
  rfl
 ·unfold RelV
  rw[if_neg (by simp[AV.isAgg])]
  exact⟨[z,.bool false],rfl,z,[.bool false],rfl,hzr _ _ _,.bool false,[],rfl,RelV.sc.2 ⟨rfl,rfl⟩,rfl⟩
end
end Go.Eng
namespace Go.Eng
open Go.RowKit Go.Lib
theorem xp (l:List Int):cat (fun i=>[Value.int .u8 (l.getD i 0)]) l.length=l.map fun v=>Value.int .u8 v:=by
 have key:∀n,n≤l.length→cat (fun i=>[Value.int .u8 (l.getD i 0)]) n=(l.take n).map fun v=>Value.int .u8 v:=by
  intro n
  induction n with
  | zero=>intro _; rfl
  | succ n ih =>
   intro hn
   have hlt:n<l.length:=by omega
   have e:l.take (n+1)=l.take n++[l[n]]:=by rw[List.take_add_one,List.getElem?_eq_getElem hlt]; rfl
   have e2:l.getD n 0=l[n]:=by rw[List.getD_eq_getElem?_getD,List.getElem?_eq_getElem hlt]; rfl
   rw[cat,ih (by omega),e,List.map_append,e2]
   rfl
 rw[key _ (Nat.le_refl _),List.take_length]
section
variable {P : Program} {T : Tab} {env : Env} {h : Upds} {n : Nat}
theorem lU (hT:aq P T) {t t2 e r:Nat} {re:TyR} {ex:Bool} {xs:List Int} {l:List UInt8} {x y:Operand} (ht:bh T t=some (.slice e)) (ht2:P.underlying t2=some .string) (he:lk T e=some re) (hs:re.size=1)
  (hx:ay env x=some (.own r 0 xs.length 1 none)) (hrow:bp h r=some (.ds e 1 ex bE xs)) (hy:ay env y=some (.d (strD l))) (hys:0<(byI l).length) (hlen:xs.length+(byI l).length≤maxLen) (hbytes:(xs.length+(byI l).length)*re.bytes≤140737488355328) :
  an P (.call { callee :=.builtin .append,args := #[x,y],argTypes := #[t,t2] }) env h n (some (.own n 0 (xs.length+(byI l).length) 1 none)) [(n,some (.ds e 1 false bE (xs++byI l))),(r,none)]:=.of_comes fun C G st σ w a o ho hA hd hst hn=>by
 obtain⟨hx1,hx2⟩:=ao hst (hA.ev hx)
 obtain⟨hu,_⟩:=RelV.sc.1 (ao hst (hA.ev hy)).1
 have hsz:(mkS l).size=(byI l).length:=by rw[cz]; simp[byI]
 have hsc:strCells (mkS l)=(byI l).map fun v=>Value.int .u8 v:=by simp[strCells,cZ,byI]
 obtain⟨g,hg,hgs⟩:∃g:Nat→List Value,(∀i (h:i<(byI l).length),Enc w (st.X C.X0 σ) (bE (byI l)[i]) (g i)∧(g i).length=1)∧cat g (byI l).length=strCells (mkS l):=by
  refine⟨fun i=>[Value.int .u8 ((byI l).getD i 0)],fun i hi=>⟨⟨by show[Value.int .u8 ((byI l).getD i 0)]=_; rw[List.getD_eq_getElem?_getD,List.getElem?_eq_getElem hi]; rfl,rfl⟩,rfl⟩,?_⟩
  rw[hsc,xp]
 have hr:=hA.row _ _ hrow
 obtain⟨i,z,hi,hi1,hi2,hi3,hi4⟩:=(hT e re he).info
 obtain⟨ud,hud,hdd⟩:=aS hT ht
 cases hdd
 have hz:z.cells.size=1:=by
  have h1:=Enc.len _ _ (Enc.closed w (fun _=>False) _ (hT e re he).zero)
  rw[hi4]at h1
  simpa[(hT e re he).zsize,hs]using h1
 have hi1':i.size=1:=by rw[hi1,hs]
 have hdm:(mkS l).data.map (fun b:UInt8=>Value.int .u8 (b.toNat:Int))=(cat g (byI l).length).toArray:=by
  rw[hgs]
  apply Array.ext'
  simp[strCells]
 have hnn:¬G n:=hn n (Nat.le_refl _) (by omega)
 have hgl:(cat g (byI l).length).length=(byI l).length*1:=cf _ fun i hi=>(hg i hi).2
 have fin:∀(b c:Nat) (cur:Array Value) (w':World),(∃c0,σ r=some (b,c0))∨w.heap.size≤b→w.grownBy w' ((σ r).map (·.1))→w'.heap[b]?=some (.cells cur e (0,0))→cur.size=c*1→xs.length+(byI l).length≤c→c≤maxLen →
   (∃f:Nat→List Value,(∀i (h:i<xs.length),Enc w (st.X C.X0 σ) (bE xs[i]) (f i)∧(f i).length=1)∧cur.toList.take ((xs.length+(byI l).length)*1)=cat f xs.length++cat g (byI l).length) →
   (Builtin.append_ #[t,t2] o.type #[a.eval x,a.eval y]).run P w=.ok (.slice (some ⟨b,0,none⟩) (xs.length+(byI l).length) c) w' →
   b5 P C G st n o a w (fun v' u'=>v'=some (.own n 0 (xs.length+(byI l).length) 1 none)∧u'=[(n,some (.ds e 1 false bE (xs++(byI l)))),(r,none)]):=by
  rintro b c cur w' hb hgr hh hcs hle hcm ⟨f,hf,htk⟩ hrun
  obtain⟨F,hF,hFc⟩:=jH hf hg
  have hsw:=hst.swap hnn hr hgr (c:=c) hb (.ds e 1 false bE (xs++(byI l))) trivial (fun σ' X' hk1 hk2 hσn=>by
   refine .inr ⟨b,c,cur,hσn,(fun e=>nomatch e),hh,hcs,by simpa using hle,hcm,F,fun i hi=>⟨hk2 _ _ (hF i hi).1,(hF i hi).2⟩,?_⟩
   rw[List.length_append,htk,←hFc,List.length_append])
  have hval:RelV (fun q=>if q=n then some (b,c) else σ q) w' ((st.upd [(n,some (.ds e 1 false bE (xs++(byI l)))),(r,none)]).X C.X0 (fun q=>if q=n then some (b,c) else σ q)) (.own n 0 (xs.length+(byI l).length) 1 none) (.slice (some ⟨b,0,none⟩) (xs.length+(byI l).length) c):=
   RelV.own.2 (.inr ⟨b,c,⟨b,0,none⟩,by simp,by simp,by simpa using hle,by simp,by simpa using hle,fun _=>by simp⟩)
  refine⟨_,_,.value (.slice (some ⟨b,0,none⟩) (xs.length+(byI l).length) c),_,w',_,fun q=>G q∨q=n,⟨rfl,rfl⟩,?_,.inl rfl,by rw[St.put_upd]; exact hsw.set hd hval (.inr rfl),fun r hr=>Or.inl hr,fun r hr=>Or.imp id (fun h=>⟨by omega,by omega⟩) hr⟩
  simp[execOp,ho,resolve,invoke,builtin,hrun]
 have h63:¬(9223372036854775807<xs.length+(byI l).length):=by simp only[maxLen]at hlen; omega
 rcases hst.rows r _ hr with ⟨hσ,hxs⟩ | ⟨b,c,cur,hσ,_,hh,hcs,hle,hcm,f,hf,htk⟩
 ·rcases RelV.own.1 hx1 with ⟨_,_,_,_,hv⟩ | ⟨b,c,_,hσ',_⟩
  ·subst hxs
   have hrun:=run_append_nil_string (P:=P) w t t2 o.type e i z hud ht2 hi hi3 (mkS l) (by rw[hsz]; exact hys) (by rw[hsz]; omega) (by rw[hsz,hi2]; simp at hbytes; omega)
   rw[hdm,hsz]at hrun
   refine fin w.heap.size (grownCap w (byI l).length 0 e) ((cat g (byI l).length).toArray++Builtin.zeroCells z.cells (grownCap w (byI l).length 0 e-(byI l).length)) _ (.inr (Nat.le_refl _)) (cR w _ _) (heap_alloc_new w.drew _) ?_ ?_ (grownCap_le_maxLen w (byI l).length 0 e (by simpa using hlen)) ⟨g,fun i hi=>by simp at hi,?_⟩ (by rw[hv,hu,hrun]; simp)
   ·have hge:=grownCap_ge w (byI l).length 0 e
    simp only[Array.size_append,List.size_toArray,size_zeroCells,hz,hgl,←Nat.add_mul]
    congr 1; omega
   ·simpa using grownCap_ge w (byI l).length 0 e
   ·simp only[Array.toList_append,List.length_nil,Nat.zero_add,cat,List.nil_append]
    rw[←hgl]
    exact List.take_left
  ·rw[hσ]at hσ'; cases hσ'
 ·rcases RelV.own.1 hx1 with ⟨hσ',_⟩ | ⟨b',c',a',hσ',hv,_,_,hlec,had⟩
  ·rw[hσ]at hσ'; cases hσ'
  ·rw[hσ]at hσ'
   cases hσ'
   simp only[Option.getD_none,Nat.sub_zero]at hv hlec
   have hfl:(cat f xs.length).length=xs.length*1:=cf _ fun i hi=>(hf i hi).2
   by_cases hroom:xs.length+(byI l).length≤c
   ·have:a'=⟨b,0,none⟩:=by have:=had (by omega); simpa using this
    subst this
    have hrun:=run_append_room_string (P:=P) w t t2 o.type e i hud ht2 hi hi1' b xs.length c cur hh (mkS l) (by rw[hsz]; exact hroom) (by rw[hsz,hcs]; omega)
    rw[hsz,←hgs]at hrun
    refine fin b c _ _ (.inl ⟨c,hσ⟩) ?_ (setRow_heap w b cur _ e _ hh) ?_ hroom hcm ⟨f,hf,?_⟩ (by rw[hv,hu,hrun])
    ·exact⟨rfl,rfl,rfl,by simp,fun k _ hk=>setRow_other w b k _ (fun e=>hk (by rw[hσ]; simp[e]))⟩
    ·simp only[List.size_toArray,List.length_append,List.length_take,List.length_drop,Array.length_toList,hi1,hs,hgl,hcs]
     omega
    ·rw[Nat.mul_one]at htk
     rw[htk,List.append_assoc,←List.append_assoc]
     have:(xs.length+(byI l).length)*1=(cat f xs.length++cat g (byI l).length).length:=by rw[List.length_append,hfl,hgl,Nat.add_mul]
     rw[this]
     exact List.take_left
   ·have hrun:=run_append_grow_string (P:=P) w t t2 o.type e i z hud ht2 hi hi3 a' xs.length c (cat f xs.length) (by rw[hfl,hi1,hs]) (fun j u hj=>by
     have hjl:j<xs.length*1:=by rw[←hfl]; exact (List.getElem?_eq_some_iff.1 hj).1
     have hc0:0<c:=by
      rcases Nat.eq_zero_or_pos c with rfl | h1
      ·have:xs.length=0:=by omega
       rw[this]at hjl; omega
      ·exact h1
     have:a'=⟨b,0,none⟩:=by have:=had hc0; simpa using this
     subst this
     rw[dr,cell_of_row w b _ cur e (0,0) hh]
     rw[←htk,List.getElem?_take,if_pos hjl]at hj
     rw[Nat.zero_add,←Array.getElem?_toList]
     exact hj) (mkS l) (by rw[hsz]; omega) (by rw[hsz]; omega) (by rw[hsz]; exact growslice_fits (by omega) (by rw[hi2]; exact hbytes))
    rw[hsz,←hgs]at hrun
    refine fin w.heap.size _ _ _ (.inr (Nat.le_refl _)) (cR w _ _) (heap_alloc_new w.drew _) ?_ (grownCap_ge w _ c e) (grownCap_le_maxLen w _ c e hlen) ⟨f,hf,?_⟩ (by rw[hv,hu,hrun])
    ·have hge:=grownCap_ge w (xs.length+(byI l).length) c e
     simp only[Array.size_append,List.size_toArray,size_zeroCells,hz,hgl,hfl,←Nat.add_mul]
     congr 1; omega
    ·simp only[Array.toList_append]
     have:(xs.length+(byI l).length)*1=(cat f xs.length++cat g (byI l).length).length:=by rw[List.length_append,hfl,hgl,Nat.add_mul]
     rw[this]
     exact List.take_left
theorem nr (hT:aq P T) {t t2 e r L:Nat} {re:TyR} {ex:Bool} {xs:List Int} {l:List UInt8} {x y:Operand} (ht:bh T t=some (.slice e)) (ht2:P.underlying t2=some .string) (he:lk T e=some re) (hs:Nat.beq re.size 1=true)
  (hx:ay env x=some (.own r 0 L 1 none)) (hL:L=xs.length) (hrow:bp h r=some (.ds e 1 ex bE xs)) (hy:ay env y=some (.d (strD l))) (hys0:0<l.length) (hlen0:xs.length+l.length≤1048576) (hbyt:Nat.ble re.bytes 134217728=true) :
  an P (.call { callee :=.builtin .append,args := #[x,y],argTypes := #[t,t2] }) env h n (some (.own n 0 (xs.length+l.length) 1 none)) [(n,some (.ds e 1 false bE (xs++byI l))),(r,none)]:=by
 subst hL
 have hs:=Nat.eq_of_beq_eq_true hs
 have hbl:(byI l).length=l.length:=by simp[byI]
 rw[←hbl]
 have hys:0<(byI l).length:=by rw[hbl]; exact hys0
 have hlen:xs.length+(byI l).length≤maxLen:=by rw[hbl]; simp only[maxLen]; omega
 have hbytes:(xs.length+(byI l).length)*re.bytes≤140737488355328:=by
  have:(xs.length+(byI l).length)*re.bytes≤1048576*134217728:=Nat.mul_le_mul (by omega) (Nat.le_of_ble_eq_true hbyt)
  omega
 refine lU hT ht ht2 he hs hx hrow hy hys hlen hbytes
end
end Go.Eng
namespace Go.Eng
open Go.RowKit
section
variable {P : Program} {T : Tab} {env : Env} {h : Upds} {n : Nat}
theorem ja (hT:aq P T) {t:Nat} {x:Operand} {l:List UInt8} (ht:bh T t=some .string) (hx:ay env x=some (.d (strD l))) :
  an P (.range t x) env h n (some (.ptr n [])) [(n,some (.si (mkS l) 0))]:=.of_comes fun C G st σ w a o ho hA hd hst hn=>by
 obtain⟨ud,hud,hdd⟩:=aS hT ht
 cases hdd
 obtain⟨hu,_⟩:=RelV.sc.1 (ao hst (hA.ev hx)).1
 have hnn:¬G n:=hn n (Nat.le_refl _) (by omega)
 have hnew:=aH.freshBy hst hnn (w':=w.alloc (.stringIter (mkS l) 0)) (by
   refine⟨rfl,rfl,rfl,by simp,fun k hk _=>?_⟩
   exact heap_alloc_old w _ hk) (Nat.le_refl _) (b:=w.heap.size) (c:=1) (.si (mkS l) 0) trivial (fun σ' X' _ _ hs=>⟨w.heap.size,hs,heap_alloc_new w _⟩)
 refine⟨some (.ptr n []),[(n,some (.si (mkS l) 0))],.value (.pointer (some ⟨w.heap.size,0,none⟩)),.pointer (some ⟨w.heap.size,0,none⟩),w.alloc (.stringIter (mkS l) 0),fun q=>if q=n then some (w.heap.size,1) else σ q,fun q=>G q∨q=n,⟨rfl,rfl⟩,?_,.inl rfl,?_,fun r hr=>.inl hr,fun r hr=>hr.imp id (fun e=>by omega)⟩
 ·simp[execOp,ho,Instr.range,run_underlying hud,hu,newObj,Sem.run]
 ·rw[St.put_upd]
  exact hnew.set hd (RelV.ptr.2 ⟨w.heap.size,1,by simp,by simp[aW]⟩) (.inr rfl)
theorem pN (P:Program) (w:World) (b:Nat) (o:Obj) {s:ByteArray} {p:Nat} (hb:w.heap[b]?=some (.stringIter s p)):(setObj b o).run P w=.ok () { w with heap:=w.heap.setIfInBounds b o }:=by
 simp[setObj,Sem.run,hb]
theorem gk {x:Operand} {r i:Nat} {l:List UInt8} (hx:ay env x=some (.ptr r [])) (hr:bp h r=some (.si (mkS l) i)) (hi:i<l.length) :
  an P (.next x true) env h n (some (.tup (.acons (.bool true) (.acons (.int .i64 i) (.acons (.int .i32 (Utf8.decode (mkS l) i).1) .anil))))) [(r,some (.si (mkS l) (i+(Utf8.decode (mkS l) i).2)))]:=.of_comes fun C G st σ w a o ho hA hd hst hn=>by
 have hrow:=hA.row _ _ hr
 obtain⟨b,hs,hh⟩:=hst.rows r _ hrow
 obtain⟨b',c',hs',hu⟩:=RelV.ptr.1 (ao hst (hA.ev hx)).1
 rw[hs]at hs'
 cases hs'
 have hst':=hst.writeObj (o' :=.stringIter (mkS l) (i+(Utf8.decode (mkS l) i).2)) (row :=.si (mkS l) (i+(Utf8.decode (mkS l) i).2)) hrow hs hh rfl trivial (fun w' _ hh'=>⟨b,hs,hh'⟩)
 refine⟨_,_,.value (.tuple #[.bool true,goInt i,.int .i32 (Utf8.decode (mkS l) i).1]),_, { w with heap:=w.heap.setIfInBounds b (.stringIter (mkS l) (i+(Utf8.decode (mkS l) i).2)) },σ,G,⟨rfl,rfl⟩,?_,.inl rfl,?_,fun _ h=>h,fun _ h=>.inl h⟩
 ·have hget:(getObj b).run P w=.ok (.stringIter (mkS l) i) w:=by simp[getObj,Sem.run,hh]
  have hset:=pN P w b (.stringIter (mkS l) (i+(Utf8.decode (mkS l) i).2)) hh
  have hsz:i<(mkS l).size:=by rw[cz]; exact hi
  simp only[execOp,ho,Instr.next,hu,aW,Sem.run_bind,hget,Result.andThen_ok,if_pos hsz,hset,Sem.run_pure]
 ·rw[St.put_upd]
  refine hst'.set hd ?_ ⟨trivial,trivial,trivial,trivial⟩
  show RelV σ _ _ (.tup _) _
  unfold RelV
  rw[if_neg (by simp[AV.isAgg])]
  exact⟨_,rfl,_,_,rfl,RelV.sc.2 ⟨rfl,rfl⟩,_,_,rfl,RelV.sc.2 ⟨rfl,rfl⟩,_,_,rfl,RelV.sc.2 ⟨rfl,rfl⟩,rfl⟩
theorem p7 {x:Operand} {r i:Nat} {l:List UInt8} (hx:ay env x=some (.ptr r [])) (hr:bp h r=some (.si (mkS l) i)) (hi:l.length≤i) :
  an P (.next x true) env h n (some (.tup (.acons (.bool false) .anil))) []:=.of_comes fun C G st σ w a o ho hA hd hst hn=>by
 have hrow:=hA.row _ _ hr
 obtain⟨b,hs,hh⟩:=hst.rows r _ hrow
 obtain⟨b',c',hs',hu⟩:=RelV.ptr.1 (ao hst (hA.ev hx)).1
 rw[hs]at hs'
 cases hs'
 refine .quiet (u :=.tuple #[.bool false]) hst hd ⟨rfl,rfl⟩ ?_ ?_ ⟨trivial,trivial⟩
 ·have hget:(getObj b).run P w=.ok (.stringIter (mkS l) i) w:=by simp[getObj,Sem.run,hh]
  have hsz:¬i<(mkS l).size:=by rw[cz]; omega
  simp only[execOp,ho,Instr.next,hu,aW,Sem.run_bind,hget,Result.andThen_ok,if_neg hsz,Sem.run_pure]
 ·unfold RelV
  rw[if_neg (by simp[AV.isAgg])]
  exact⟨_,rfl,_,_,rfl,RelV.sc.2 ⟨rfl,rfl⟩,rfl⟩
end
theorem gW {l:List UInt8} {i:Nat} {c:UInt8} (hc:l[i]?=some c) (h7:c.toNat<128):Utf8.decode (mkS l) i=(c.toNat,1):=by
 have hlt:=(List.getElem?_eq_some_iff.1 hc).1
 have hg:(mkS l).get! i=c:=by
  have e:(mkS l).get! i=l.toArray[i]!:=rfl
  rw[e,getElem!_pos l.toArray i (by simpa using hlt)]
  have:=(List.getElem?_eq_some_iff.1 hc).2
  simpa using this
 rw[Lib.decode_at,hg,Lib.decodeN,if_pos h7]
end Go.Eng
namespace Go.Plain
open Go.Eng Go.Lib
def bS:List UInt8→UInt8→List (List UInt8)
 | [],_=>[[]]
 | b::l,c=>if b=c then[]::bS l c else match bS l c with
  | []=>[[b]]
  | w::ws=>(b::w)::ws
theorem nE:∀(l:List UInt8) (c:UInt8),bS l c≠[]
 | [],_=>by simp[bS]
 | b::l,c=>by
  simp only[bS]
  split
  ·simp
  ·split <;> simp
theorem fv {c:UInt8}:∀ {l:List UInt8},c ∉ l→bS l c=[l]
 | [],_=>rfl
 | b::l,h=>by
  simp only[List.mem_cons,not_or]at h
  rw[bS,if_neg (Ne.symm h.1),fv h.2]
theorem cW {c:UInt8}:∀ {w:List UInt8} (l:List UInt8),c ∉ w→bS (w++c::l) c=w::bS l c
 | [],l,_=>by simp[bS]
 | b::w,l,h=>by
  simp only[List.mem_cons,not_or]at h
  rw[List.cons_append,bS,if_neg (Ne.symm h.1),cW l h.2]
def hexD:List UInt8:=[48,49,50,51,52,53,54,55,56,57,97,98,99,100,101,102]
def hexC (n:Nat):UInt8:=hexD.getD n 0
theorem kb {n:Nat} (h:n<16):hexD[n]?=some (hexC n):=by
 rw[hexC,List.getD_eq_getElem?_getD,List.getElem?_eq_getElem (show n<hexD.length from h)]
 rfl
def hexB (b:UInt8):List UInt8:=[hexC (b.toNat/16),hexC (b.toNat % 16)]
theorem da (l:List UInt8):(l.flatMap hexB).length=2*l.length:=by
 induction l with
 | nil=>rfl
 | cons b l ih=>simp only[List.flatMap_cons,List.length_append,ih,hexB,List.length_cons,List.length_nil]; omega
def hexP (l:List UInt8):List UInt8:=if l=[] then[45] else l.flatMap hexB
def nibO (c:UInt8):Option Nat:=if 0≤indexByte hexD c then some (indexByte hexD c).toNat else none
def eG:List UInt8→Option (List UInt8)
 | []=>some []
 | [_]=>none
 | a::b::l=>match nibO a,nibO b,eG l with
  | some x,some y,some r=>some ((x*16+y).toUInt8::r)
  | _,_,_=>none
def cL (s:List UInt8):Option (List UInt8):=if s=[45] then some [] else if s=[] then none else eG s
theorem gU:∀n,n<16→nibO (hexC n)=some n∧hexC n≠10∧hexC n≠32∧hexC n≠45:=by decide
theorem kB:∀(l:List UInt8),eG (l.flatMap hexB)=some l
 | []=>rfl
 | b::l=>by
  have hb:b.toNat<256:=b.toNat_lt
  have h1:=(gU (b.toNat/16) (by omega)).1
  have h2:=(gU (b.toNat % 16) (by omega)).1
  have e:(b.toNat/16*16+b.toNat % 16)=b.toNat:=by omega
  simp only[List.flatMap_cons,hexB,List.cons_append,List.nil_append,eG,h1,h2,kB l,e]
  simp
theorem s8 {l:List UInt8} {c:UInt8} (h:c∈l.flatMap hexB):c≠10∧c≠32∧c≠45:=by
 obtain⟨b,_,hb⟩:=List.mem_flatMap.1 h
 have hlt:b.toNat<256:=b.toNat_lt
 simp only[hexB,List.mem_cons,List.not_mem_nil,or_false]at hb
 rcases hb with rfl | rfl
 ·exact (gU _ (by omega)).2
 ·exact (gU _ (by omega)).2
theorem tV (l:List UInt8):cL (hexP l)=some l:=by
 cases l with
 | nil=>rfl
 | cons b l =>
  have h1:hexP (b::l)=(b::l).flatMap hexB:=by rw[hexP,if_neg (by simp)]
  have h2:(b::l).flatMap hexB≠[]:=by simp[hexB]
  have h3:(b::l).flatMap hexB≠[45]:=fun e=>by
   have:=da (b::l)
   rw[e]at this
   simp at this
   omega
  rw[h1,cL,if_neg h3,if_neg h2,kB]
theorem m5 {l:List UInt8} {c:UInt8} (h:c∈hexP l):c≠10∧c≠32:=by
 rw[hexP]at h
 split at h
 ·simp at h; subst h; decide
 ·exact⟨(s8 h).1,(s8 h).2.1⟩
/-! Numbers. -/
theorem tt:∀(u:Nat) (c:UInt8),c∈decDigits u→48≤c.toNat∧c.toNat≤57:=by
 intro u
 induction u using Nat.strongRecOn with
 | ind u ih =>
  intro c h
  rw[decDigits]at h
  split at h
  ·rename_i hu
   simp only[List.mem_singleton]at h
   subst h
   simp only[UInt8.toNat_ofNat']
   omega
  ·rename_i hu
   rcases List.mem_append.1 h with h | h
   ·exact ih (u/10) (by omega) c h
   ·simp only[List.mem_singleton]at h
    subst h
    simp only[UInt8.toNat_ofNat']
    omega
theorem sD (u:Nat):decDigits u≠[]:=by
 rw[decDigits]
 split <;> simp
theorem mF (M:Nat):∀(l r:List UInt8) (acc u:Nat),parseUintM M acc l=.ok u→parseUintM M acc (l++r)=parseUintM M u r
 | [],r,acc,u,h=>by
  simp only[parseUintM]at h
  injection h with h
  subst h
  rfl
 | c::l,r,acc,u,h=>by
  simp only[parseUintM,List.cons_append]at h ⊢
  split at h
  ·rename_i hc
   rw[if_pos hc]
   split at h
   ·cases h
   ·rename_i h1
    rw[if_neg h1]
    split at h
    ·cases h
    ·rename_i h2
     rw[if_neg h2]
     exact mF M l r _ u h
  ·cases h
theorem mE (M:Nat) (hM:M<18446744073709551616):∀(u:Nat),u≤M→parseUintM M 0 (decDigits u)=.ok u:=by
 intro u
 induction u using Nat.strongRecOn with
 | ind u ih =>
  intro hu
  rw[decDigits]
  split
  ·rename_i h10
   have e:(UInt8.ofNat (48+u)).toNat=48+u:=by simp only[UInt8.toNat_ofNat']; omega
   simp only[parseUintM,e]
   rw[if_pos (by omega),if_neg (by omega),if_neg (by omega)]
   congr 1
   omega
  ·rename_i h10
   have h1:=ih (u/10) (by omega) (by omega)
   rw[mF M _ _ _ _ h1]
   have e:(UInt8.ofNat (48+u % 10)).toNat=48+u % 10:=by simp only[UInt8.toNat_ofNat']; omega
   simp only[parseUintM,e]
   rw[if_pos (by omega),if_neg (by omega),if_neg (by omega)]
   congr 1
   omega
theorem rR {B u:Nat} (hB:B≤64) (hu:u<2 ^ B):parseUintB B (decDigits u)=.ok u:=by
 have h64:2 ^ B≤2 ^ 64:=Nat.pow_le_pow_right (by decide) hB
 rw[parseUintB,if_neg (sD u)]
 exact mE _ (by omega) u (by omega)
theorem lw {u:Nat} (hu:u<18446744073709551616):parseUint10 0 (decDigits u)=.ok u:=by
 rw[←parseUintM_64]
 exact mE _ (by omega) u (by omega)
theorem oo {n:Int} (h0 : -9223372036854775808≤n) (h1:n≤9223372036854775807):atoiAll (itoa n)=.ok n:=by
 rw[itoa]
 split
 ·rename_i hn
  have hp:parseMag (decDigits n.natAbs)=.ok n.natAbs:=by
   rw[parseMag,if_neg (sD _)]
   exact lw (by omega)
  simp only[atoiAll]
  rw[if_pos (by right; rfl),hp]
  simp only
  rw[if_neg (by simp),if_neg (by omega)]
  simp
  omega
 ·rename_i hn
  have hm:=tt n.toNat
  have hne:=sD n.toNat
  have hp:parseMag (decDigits n.toNat)=.ok n.toNat:=by
   rw[parseMag,if_neg hne]
   exact lw (by omega)
  cases hd:decDigits n.toNat with
  | nil=>exact absurd hd hne
  | cons c r =>
   rw[hd]at hm hp
   have hc:=hm c (by simp)
   simp only[atoiAll]
   rw[if_neg (by omega),hp]
   simp only
   rw[if_neg (by omega),if_neg (by omega),if_neg (by omega)]
   congr 1
   omega
theorem j1 {n:Int} {c:UInt8} (h:c∈itoa n):c≠10∧c≠32:=by
 have key:∀u,c∈decDigits u→c≠10∧c≠32:=fun u hc=>by
  have:=tt u c hc
  constructor <;> (rintro rfl; revert this; decide)
 rw[itoa]at h
 split at h
 ·rcases List.mem_cons.1 h with rfl | h
  ·decide
  ·exact key _ h
 ·exact key _ h
/-! Operations. -/
structure POp where
 kind:Int
 index:Int
 data:List UInt8
 deriving DecidableEq
structure POp.Ok (o:POp):Prop where
 kind:0≤o.kind∧o.kind≤255
 index : -9223372036854775808≤o.index∧o.index≤9223372036854775807
def ei:List UInt8:=[114,101,97,100]
def cn:List UInt8:=[119,114,105,116,101]
def ej:List UInt8:=[102,108,117,115,104]
def sOp:List UInt8:=[111,112]
def aI:List UInt8:=[99,108,105,101,110,116]
def bd (o:POp):List UInt8 :=
 if o.kind=1∧o.data=[] then ei++32::itoa o.index
 else if o.kind=2 then cn++32::(itoa o.index++32::hexP o.data)
 else if o.kind=3∧o.index=0∧o.data=[] then ej
 else sOp++32::(itoa o.kind++32::(itoa o.index++32::hexP o.data))
def opF (k i d:List UInt8):Option POp:=match parseUintB 8 k,atoiAll i,cL d with
 | .ok k,.ok i,some d=>some ⟨k,i,d⟩
 | _,_,_=>none
def cC (w:List (List UInt8)):Option POp:=match w with
 | []=>none
 | a::r=>if a=ei then (match r with | [i]=>opF [49] i [45] | _=>none)
  else if a=cn then (match r with | [i,d]=>opF [50] i d | _=>none)
  else if a=ej then (match r with | []=>opF [51] [48] [45] | _=>none)
  else if a=sOp then (match r with | [k,i,d]=>opF k i d | _=>none)
  else none
def fz (t:List UInt8):Option POp:=match cC (bS t 32) with
 | some o=>if bd o=t then some o else none
 | none=>none
theorem rV {k:Nat} {i:Int} {d:List UInt8} (hk:k≤255) (h0 : -9223372036854775808≤i) (h1:i≤9223372036854775807):opF (decDigits k) (itoa i) (hexP d)=some ⟨k,i,d⟩:=by
 simp only[opF,rR (B:=8) (by decide) (show k<2 ^ 8 by omega),oo h0 h1,tV]
theorem qV {o:POp} (h:o.Ok):cC (bS (bd o) 32)=some o:=by
 obtain⟨⟨k0,k1⟩,i0,i1⟩:=h
 obtain⟨k,i,d⟩:=o
 simp only at k0 k1 i0 i1
 have hi:∀n:Int,(32:UInt8) ∉ itoa n:=fun n hc=>(j1 hc).2 rfl
 have hh:(32:UInt8) ∉ hexP d:=fun hc=>(m5 hc).2 rfl
 have hd:d=[]→hexP d=[45]:=fun e=>by rw[e]; rfl
 rw[bd]
 simp only
 split
 ·rename_i hc
  obtain⟨rfl,rfl⟩:=hc
  rw[cW _ (by decide),fv (hi _)]
  have:=rV (k:=1) (d:=[]) (by decide) i0 i1
  rw[show decDigits 1=[49] by rw[decDigits_one (by decide)]; rfl]at this
  simp only[cC,if_pos]
  exact this
 ·split
  ·rename_i hc
   subst hc
   rw[cW _ (by decide),cW _ (hi _),fv hh]
   have:=rV (k:=2) (d:=d) (by decide) i0 i1
   rw[show decDigits 2=[50] by rw[decDigits_one (by decide)]; rfl]at this
   simp only[cC,if_neg (show ¬(cn=ei) by decide),if_pos]
   exact this
  ·split
   ·rename_i hc
    obtain⟨rfl,rfl,rfl⟩:=hc
    rfl
   ·rw[cW _ (by decide),cW _ (hi _),cW _ (hi _),fv hh]
    have:=rV (k:=k.toNat) (d:=d) (by omega) i0 i1
    simp only[cC,if_neg (show ¬(sOp=ei) by decide),if_neg (show ¬(sOp=cn) by decide),if_neg (show ¬(sOp=ej) by decide),if_pos]
    rw[itoa,if_neg (by omega),this]
    congr 2
    omega
theorem nG {o:POp} (h:o.Ok):fz (bd o)=some o:=by simp[fz,qV h]
theorem oN {k i d:List UInt8} {o:POp} (h:opF k i d=some o):o.Ok:=by
 simp only[opF]at h
 split at h
 ·rename_i k' i' d' h1 h2 h3
  cases h
  have hk:k'≤255:=by
   rw[parseUintB]at h1
   split at h1
   ·cases h1
   ·have:=parseUintM_le (2 ^ 8-1) _ 0 _ (by decide) h1
    omega
  refine⟨by simp only; omega,?_⟩
  cases i with
  | nil=>simp[atoiAll]at h2
  | cons c r =>
   simp only[atoiAll]at h2
   split at h2
   ·cases h2
   ·cases h2
   ·split at h2
    ·cases h2
    ·rename_i u hu g1
     split at h2
     ·cases h2
     ·rename_i g2
      injection h2 with h2
      subst h2
      simp only
      split <;> rename_i g3 <;> simp only[g3,not_true_eq_false,false_and,true_and,not_false_eq_true]at g1 g2 <;> omega
 ·cases h
theorem pV {w:List (List UInt8)} {o:POp} (h:cC w=some o):o.Ok:=by
 cases w with
 | nil=>cases h
 | cons a r =>
  simp only[cC]at h
  by_cases h1:a=ei
  ·rw[if_pos h1]at h
   split at h
   ·exact oN h
   ·cases h
  rw[if_neg h1]at h
  by_cases h2:a=cn
  ·rw[if_pos h2]at h
   split at h
   ·exact oN h
   ·cases h
  rw[if_neg h2]at h
  by_cases h3:a=ej
  ·rw[if_pos h3]at h
   split at h
   ·exact oN h
   ·cases h
  rw[if_neg h3]at h
  by_cases h4:a=sOp
  ·rw[if_pos h4]at h
   split at h
   ·exact oN h
   ·cases h
  rw[if_neg h4]at h
  cases h
theorem my {t:List UInt8} {o:POp} (h:fz t=some o):bd o=t∧o.Ok:=by
 simp only[fz]at h
 split at h
 ·rename_i o' ho
  split at h
  ·rename_i hl
   cases h
   exact⟨hl,pV ho⟩
  ·cases h
 ·cases h
theorem gj {a b:List UInt8} (h1:∀c∈a,c≠10) (h2:∀c∈b,c≠10):∀c∈a++b,c≠10:=fun c h=>by
 rcases List.mem_append.1 h with h | h
 ·exact h1 c h
 ·exact h2 c h
theorem jf {b:List UInt8} (h2:∀c∈b,c≠10):∀c∈(32:UInt8)::b,c≠10:=fun c h=>by
 rcases List.mem_cons.1 h with rfl | h
 ·decide
 ·exact h2 c h
theorem qe (o:POp):∀c∈bd o,c≠10:=by
 have hi:∀n:Int,∀c∈itoa n,c≠10:=fun n c h=>(j1 h).1
 have hh:∀c∈hexP o.data,c≠10:=fun c h=>(m5 h).1
 rw[bd]
 split
 ·exact gj (by decide) (jf (hi _))
 ·split
  ·exact gj (by decide) (jf (gj (hi _) (jf hh)))
  ·split
   ·decide
   ·exact gj (by decide) (jf (gj (hi _) (jf (gj (hi _) (jf hh)))))
theorem qf {o:POp} (h:o.Ok):bd o≠aI:=fun e=>by
 have:=nG h
 rw[e,show fz aI=none from rfl]at this
 cases this
def badP (p:List POp):Bool:=decide (64<p.length)||p.any fun o=>decide (64<o.data.length)
def chkP (l:List (List POp)):Int:=if 8<l.length then 3 else if l.any badP=true then 3 else 0
theorem dV {l:List (List POp)}:chkP l=0↔l.length≤8∧∀p∈l,badP p=false:=by
 unfold chkP
 constructor
 ·intro h
  split at h
  ·cases h
  ·split at h
   ·cases h
   ·rename_i h1 h2
    refine⟨by omega,fun p hp=>?_⟩
    simp only[List.any_eq_true,not_exists,not_and,Bool.not_eq_true]at h2
    exact h2 p hp
 ·rintro⟨h1,h2⟩
  rw[if_neg (by omega),if_neg]
  simp only[List.any_eq_true,not_exists,not_and,Bool.not_eq_true]
  exact h2
def ji (l:List (List POp)) (o:POp):List (List POp):=l.dropLast++[l.getLast?.getD []++[o]]
theorem eo (l:List (List POp)) (p:List POp) (o:POp):ji (l++[p]) o=l++[p++[o]]:=by
 simp[ji]
def addP (l:List (List POp)) (t:List UInt8):List (List POp)×Int :=
 if t=aI then (if 8<l.length+1 then ([],3) else (l++[[]],0))
 else match fz t with
  | none=>([],5)
  | some o=>if l=[] then ([],5) else if 64<(l.getLast?.getD []).length+1∨64<o.data.length then ([],3) else (ji l o,0)
def cutL:List UInt8→UInt8→Option (List UInt8×List UInt8)
 | [],_=>none
 | b::l,c=>if b=c then some ([],l) else match cutL l c with
  | none=>none
  | some (p,q)=>some (b::p,q)
theorem cM:∀ {l:List UInt8} {c:UInt8} {p q:List UInt8},cutL l c=some (p,q)→l=p++c::q∧c ∉ p
 | [],_,_,_,h=>by cases h
 | b::l,c,p,q,h=>by
  simp only[cutL]at h
  split at h
  ·rename_i e
   cases h
   subst e
   exact⟨rfl,by simp⟩
  ·rename_i e
   split at h
   ·cases h
   ·rename_i p' q' h2
    cases h
    obtain⟨h3,h4⟩:=cM h2
    subst h3
    refine⟨rfl,?_⟩
    simp only[List.mem_cons,not_or]
    exact⟨Ne.symm e,h4⟩
theorem oa:∀ {l:List UInt8} {c:UInt8},cutL l c=none→c ∉ l
 | [],_,_=>by simp
 | b::l,c,h=>by
  simp only[cutL]at h
  split at h
  ·cases h
  ·rename_i e
   split at h
   ·rename_i h2
    simp only[List.mem_cons,not_or]
    exact⟨Ne.symm e,oa h2⟩
   ·cases h
theorem fm {c:UInt8}:∀ {p:List UInt8} (q:List UInt8),c ∉ p→cutL (p++c::q) c=some (p,q)
 | [],q,_=>by simp[cutL]
 | b::p,q,h=>by
  simp only[List.mem_cons,not_or]at h
  rw[List.cons_append,cutL,if_neg (Ne.symm h.1),fm q h.2]
theorem nD (s:List UInt8) (c:UInt8):bS s c=match cutL s c with
  | none=>[s]
  | some (p,q)=>p::bS q c:=by
 cases h:cutL s c with
 | none=>exact fv (oa h)
 | some pq =>
  obtain⟨p,q⟩:=pq
  obtain⟨rfl,h2⟩:=cM h
  exact cW q h2
def bM (s:List UInt8) (l:List (List POp)) (n:Nat):List (List POp)×Nat×Int :=
 if s=[] then (l,0,0) else
 match _h:cutL s 10 with
 | none=>([],n,5)
 | some (t,r)=>if (addP l t).2=0 then bM r (addP l t).1 (n+1) else ([],n,(addP l t).2)
termination_by s.length
decreasing_by
 have := (cM _h).1
 rw [this]
 simp
 omega
theorem gM (l:List (List POp)) (n:Nat):bM [] l n=(l,0,0):=by rw[bM,if_pos rfl]
theorem lv {s:List UInt8} (l:List (List POp)) (n:Nat) (hs:s≠[]) (h:cutL s 10=none):bM s l n=([],n,5):=by
 rw[bM,if_neg hs]
 split
 ·rfl
 ·rename_i h2; rw[h]at h2; cases h2
theorem fM {s t r:List UInt8} (l:List (List POp)) (n:Nat) (hs:s≠[]) (h:cutL s 10=some (t,r)):bM s l n=if (addP l t).2=0 then bM r (addP l t).1 (n+1) else ([],n,(addP l t).2):=by
 rw[bM,if_neg hs]
 split
 ·rename_i h2; rw[h]at h2; cases h2
 ·rename_i h2; rw[h]at h2; cases h2; rfl
def oK:List (List UInt8)→Nat→List (List POp)→List (List POp)×Nat×Int
 | [],_,l=>(l,0,0)
 | [t],i,l=>if t=[] then (l,0,0) else ([],i+1,5)
 | t::u::ts,i,l=>if t=aI then (if 0<chkP (l++[[]]) then ([],i+1,3) else oK (u::ts) (i+1) (l++[[]]))
  else match fz t with
   | none=>([],i+1,5)
   | some o=>if l=[] then ([],i+1,5) else if 0<chkP (ji l o) then ([],i+1,3) else oK (u::ts) (i+1) (ji l o)
theorem sH {l:List (List POp)} (h:chkP l=0):chkP (l++[[]])=if 8<l.length+1 then 3 else 0:=by
 obtain⟨h1,h2⟩:=dV.1 h
 split
 ·rename_i h3
  unfold chkP
  rw[if_pos (by simpa using h3)]
 ·rename_i h3
  refine dV.2 ⟨by simp; omega,fun p hp=>?_⟩
  rcases List.mem_append.1 hp with hp | hp
  ·exact h2 p hp
  ·rw[List.mem_singleton.1 hp]; rfl
theorem xn {l:List (List POp)} (h:chkP l=0) (hl:l≠[]) (o:POp):chkP (ji l o)=if 64<(l.getLast?.getD []).length+1∨64<o.data.length then 3 else 0:=by
 obtain⟨h1,h2⟩:=dV.1 h
 obtain⟨m,p,rfl⟩:∃m p,l=m++[p]:=⟨l.dropLast,l.getLast hl,(List.dropLast_concat_getLast hl).symm⟩
 have hg:(m++[p]).getLast?.getD []=p:=by simp
 rw[eo,hg]
 have hp:=h2 p (by simp)
 simp only[badP,Bool.or_eq_false_iff,decide_eq_false_iff_not,List.any_eq_false,decide_eq_true_iff]at hp
 split
 ·rename_i h3
  unfold chkP
  rw[if_neg (by simpa using h1),if_pos]
  rw[List.any_append,Bool.or_eq_true]
  right
  simp only[List.any_cons,List.any_nil,Bool.or_false,badP,Bool.or_eq_true,decide_eq_true_iff,List.length_append,List.length_singleton,List.any_append]
  rcases h3 with h3 | h3
  ·exact .inl h3
  ·right; simp[h3]
 ·rename_i h3
  refine dV.2 ⟨by simpa using h1,fun q hq=>?_⟩
  rcases List.mem_append.1 hq with hq | hq
  ·exact h2 q (by simp[hq])
  ·rw[List.mem_singleton.1 hq]
   simp only[not_or]at h3
   simp only[badP,Bool.or_eq_false_iff,decide_eq_false_iff_not,List.any_eq_false,decide_eq_true_iff,List.length_append,List.length_singleton,List.mem_append,List.mem_singleton]
   refine⟨h3.1,fun x hx=>?_⟩
   rcases hx with hx | rfl
   ·exact hp.2 x hx
   ·exact h3.2
theorem mb {l l':List (List POp)} {t:List UInt8} (h:chkP l=0) (ha:addP l t=(l',0)):chkP l'=0:=by
 simp only[addP]at ha
 split at ha
 ·split at ha
  ·cases ha
  ·rename_i h3
   cases ha
   rw[sH h,if_neg h3]
 ·split at ha
  ·cases ha
  ·split at ha
   ·cases ha
   ·rename_i hl
    split at ha
    ·cases ha
    ·rename_i h3
     cases ha
     rw[xn h hl,if_neg h3]
def opsT (p:List POp):List UInt8:=p.flatMap fun o=>bd o++[10]
def bX (l:List (List POp)):List UInt8:=l.flatMap fun p=>aI++10::opsT p
theorem nM (p:List POp) (o:POp):opsT (p++[o])=opsT p++(bd o++[10]):=by simp[opsT]
theorem gE (l:List (List POp)) (p:List POp):bX (l++[p])=bX l++(aI++10::opsT p):=by simp[bX]
def OkL (l:List (List POp)):Prop:=∀p∈l,∀o∈p,o.Ok
theorem sQ {l:List (List POp)} (h:l.length+1≤8):addP l aI=(l++[[]],0):=by
 rw[addP,if_pos rfl,if_neg (by omega)]
theorem xI {l:List (List POp)} {p:List POp} {o:POp} (ho:o.Ok) (h1:p.length+1≤64) (h2:o.data.length≤64):addP (l++[p]) (bd o)=(l++[p++[o]],0):=by
 rw[addP,if_neg (qf ho),nG ho]
 simp only
 rw[if_neg (by simp),if_neg (by simp; omega),eo]
theorem nJ:∀(q:List POp) (p:List POp) (l:List (List POp)) (r:List UInt8) (n:Nat),(∀o∈q,o.Ok∧o.data.length≤64)→p.length+q.length≤64 →
  bM (opsT q++r) (l++[p]) n=bM r (l++[p++q]) (n+q.length)
 | [],p,l,r,n,_,_=>by simp[opsT]
 | o::q,p,l,r,n,ho,hl=>by
  obtain⟨h1,h2⟩:=ho o (by simp)
  have e:opsT (o::q)++r=bd o++10::(opsT q++r):=by simp[opsT]
  have hc:=fm (c:=10) (opsT q++r) (fun hm=>qe o 10 hm rfl)
  simp only[List.length_cons]at hl
  rw[e,fM _ _ (by simp) hc,xI h1 (by omega) h2]
  simp only[if_pos]
  rw[nJ q (p++[o]) l r (n+1) (fun x hx=>ho x (by simp[hx])) (by simp; omega)]
  simp only[List.append_assoc,List.cons_append,List.nil_append,List.length_cons]
  congr 1
  omega
theorem mD:∀(l m:List (List POp)) (r:List UInt8) (n:Nat),OkL l→(∀p∈l,badP p=false)→m.length+l.length≤8 →
  bM (bX l++r) m n=bM r (m++l) (n+(l.map fun p=>1+p.length).sum)
 | [],m,r,n,_,_,_=>by simp[bX]
 | p::l,m,r,n,hok,hb,hl=>by
  have e:bX (p::l)++r=aI++10::(opsT p++(bX l++r)):=by simp[bX]
  have hc:=fm (c:=10) (p:=aI) (opsT p++(bX l++r)) (by decide)
  simp only[List.length_cons]at hl
  have hp:=hb p (by simp)
  simp only[badP,Bool.or_eq_false_iff,decide_eq_false_iff_not,List.any_eq_false,decide_eq_true_iff]at hp
  rw[e,fM _ _ (by simp) hc,sQ (by omega)]
  simp only[if_pos]
  rw[nJ p [] m (bX l++r) (n+1) (fun o ho=>⟨hok p (by simp) o ho,by have:=hp.2 o ho; omega⟩) (by simp; omega),List.nil_append,
   mD l (m++[p]) r _ (fun q hq=>hok q (by simp[hq])) (fun q hq=>hb q (by simp[hq])) (by simp; omega)]
  simp only[List.append_assoc,List.cons_append,List.nil_append,List.map_cons,List.sum_cons]
  congr 1
  omega
theorem rM {l:List (List POp)} (hok:OkL l) (hc:chkP l=0):bM (bX l) [] 1=(l,0,0):=by
 obtain⟨h1,h2⟩:=dV.1 hc
 have:=mD l [] [] 1 hok h2 (by simpa using h1)
 rw[List.append_nil,List.nil_append,gM]at this
 exact this
theorem xF {l l':List (List POp)} {t:List UInt8} (ha:addP l t=(l',0)):bX l'=bX l++(t++[10]):=by
 simp only[addP]at ha
 split at ha
 ·rename_i ht
  split at ha
  ·cases ha
  ·cases ha
   rw[gE,ht]
   simp[opsT]
 ·split at ha
  ·cases ha
  ·rename_i o ho
   split at ha
   ·cases ha
   ·rename_i hl
    split at ha
    ·cases ha
    ·cases ha
     obtain⟨m,p,rfl⟩:∃m p,l=m++[p]:=⟨l.dropLast,l.getLast hl,(List.dropLast_concat_getLast hl).symm⟩
     rw[eo,gE,gE,nM,(my ho).1]
     simp
theorem ph {l l':List (List POp)} {t:List UInt8} (hl:OkL l) (ha:addP l t=(l',0)):OkL l':=by
 simp only[addP]at ha
 split at ha
 ·split at ha
  ·cases ha
  ·cases ha
   intro p hp
   rcases List.mem_append.1 hp with hp | hp
   ·exact hl p hp
   ·rw[List.mem_singleton.1 hp]; simp
 ·split at ha
  ·cases ha
  ·rename_i o ho
   split at ha
   ·cases ha
   ·rename_i hnil
    split at ha
    ·cases ha
    ·cases ha
     obtain⟨m,p,rfl⟩:∃m p,l=m++[p]:=⟨l.dropLast,l.getLast hnil,(List.dropLast_concat_getLast hnil).symm⟩
     rw[eo]
     intro q hq x hx
     rcases List.mem_append.1 hq with hq | hq
     ·exact hl q (by simp[hq]) x hx
     ·rw[List.mem_singleton.1 hq]at hx
      rcases List.mem_append.1 hx with hx | hx
      ·exact hl p (by simp) x hx
      ·rw[List.mem_singleton.1 hx]; exact (my ho).2
theorem uu:∀(k:Nat) (s:List UInt8) (l m:List (List POp)) (n j:Nat),s.length≤k→chkP l=0→OkL l→bM s l n=(m,j,0)→j=0∧bX m=bX l++s∧chkP m=0∧OkL m:=by
 intro k
 induction k with
 | zero =>
  intro s l m n j hs hc hok h
  have:s=[]:=List.length_eq_zero_iff.1 (by omega)
  subst this
  rw[gM]at h
  cases h
  exact⟨rfl,by simp,hc,hok⟩
 | succ k ih =>
  intro s l m n j hs hc hok h
  by_cases he:s=[]
  ·subst he
   rw[gM]at h
   cases h
   exact⟨rfl,by simp,hc,hok⟩
  ·cases hcut:cutL s 10 with
   | none=>rw[lv l _ he hcut]at h; cases h
   | some pq =>
    obtain⟨t,r⟩:=pq
    rw[fM l _ he hcut]at h
    have hsr:=(cM hcut).1
    split at h
    ·rename_i ha
     have ha':addP l t=((addP l t).1,0):=by rw[←ha]
     obtain⟨g1,g2,g3⟩:=ih r (addP l t).1 m (n+1) j (by rw[hsr]at hs; simp at hs; omega) (mb hc ha') (ph hok ha') h
     refine⟨g1,?_,g3⟩
     rw[g2,xF ha',hsr]
     simp
    ·rename_i ha
     injection h with _ h
     injection h with _ h
     exact absurd h ha
def yk (sg:Int) (acc:Int) (c:UInt8):Int:=IntKind.i64.wrap (IntKind.i64.wrap (acc*10)+IntKind.i64.wrap (sg*((c.toNat:Int)-48)))
def Ck (c:UInt8):Bool:=decide (48≤c.toNat)&&decide (c.toNat≤57)
def sgOf (s:List UInt8):Int:=if s.head?=some 45 then-1 else 1
def xf (s:List UInt8):List UInt8:=if s.head?=some 45 then s.tail else s
def intV (s:List UInt8):Int:=(xf s).foldl (yk (sgOf s)) 0
def intR (s:List UInt8):Option Int:=if 19<(xf s).length then none else if (xf s).all Ck=false then none else if itoa (intV s)=s then some (intV s) else none
def CE (sg:Int) (acc:Int) (c:UInt8):Int:=acc*10+sg*((c.toNat:Int)-48)
theorem tu {u:Nat} (h:u≤9223372036854775808):(decDigits u).length≤19:=by
 rw[decDigits_length]
 have key:∀(k u:Nat),u<10 ^ k→0<k→nDigits u≤k:=by
  intro k
  induction k with
  | zero=>intro u _ h; omega
  | succ k ih =>
   intro u hu _
   rw[nDigits]
   split
   ·omega
   ·rename_i h10
    cases k with
    | zero=>omega
    | succ k =>
     have:=ih (u/10) (by rw[Nat.pow_succ]at hu; omega) (by omega)
     omega
 exact key 19 u (by omega) (by decide)
def opR (k:Int) (i d:List UInt8):Option POp:=match intR i,cL d with
 | some i,some d=>some ⟨k,i,d⟩
 | _,_=>none
def Cj (k:List UInt8):Option Int:=match intR k with
 | some n=>if n<0∨255<n then none else some n
 | none=>none
def y5 (w:List (List UInt8)):Option POp:=match w with
 | []=>none
 | a::r=>if a=ei∧r.length=1 then opR 1 (r.getD 0 []) [45]
  else if a=cn∧r.length=2 then opR 2 (r.getD 0 []) (r.getD 1 [])
  else if a=ej∧r.length=0 then opR 3 [48] [45]
  else if a=sOp∧r.length=3 then (match Cj (r.getD 0 []) with
   | some k=>opR k (r.getD 1 []) (r.getD 2 [])
   | none=>none)
  else none
def readR (s:List UInt8):Option POp:=match y5 (bS s 32) with
 | some o=>if bd o=s then some o else none
 | none=>none
end Go.Plain
namespace Go.Proofs.YtpjiiolnfbfcbaaGreatDoor
open Go.Eng
theorem dF {p:Prop} [Decidable p] (h:¬p):decide p=false:=decide_eq_false h
theorem dT {p:Prop} [Decidable p] (h:p):decide p=true:=decide_eq_true h
abbrev u0:TyR := { desc :=.cell,size:=1,bytes:=8,zero :=.sc .nilFunc }
abbrev u1:TyR := { desc :=.cell,size:=1,bytes:=8,zero :=.sc (.pointer none) }
abbrev u2:TyR := { desc :=.int .i64,size:=1,bytes:=8,zero :=.sc (.int .i64 0) }
abbrev u3:TyR := { desc :=.struct [(0,5),(1,5),(2,5)],size:=3,bytes:=3,zero :=.cons (.sc (.int .u8 0)) (.cons (.sc (.int .u8 0)) (.cons (.sc (.int .u8 0)) (.nil))) }
abbrev u4:TyR := { desc :=.int .u8,size:=1,bytes:=1,zero :=.sc (.int .u8 0) }
abbrev u5:TyR := { desc :=.int .u64,size:=1,bytes:=8,zero :=.sc (.int .u64 0) }
abbrev u6:TyR := { desc :=.cell,size:=1,bytes:=16,zero :=.sc .nilIface }
section
variable {p : Prop}
theorem zM (h:p:=by exact⟨rfl,mapD_lt _,_,rfl,bj.of_eq (by simp only[Row.ren,mapD_ren])⟩):p:=h
theorem zN (h:p:=by exact⟨rfl,mapD_lt _,_,_,rfl,rfl,bj.of_eq (by simp only[Row.ren,mapD_ren])⟩):p:=h
theorem zK (h:p:=by exact⟨rfl,mapD_lt _,mapD_okm _,rfl⟩):p:=h
theorem zR (h:p:=by exact⟨rfl,rfl,_,rfl,.refl _⟩):p:=h
theorem zH (h:p:=by exact⟨rfl,rfl,_,_,rfl,rfl,.refl _⟩):p:=h
theorem zF (h:p:=by exact⟨rfl,_,rfl,FrzR.refl _⟩):p:=h
theorem zV (h:p:=by exact⟨⟨_,rfl,AVLe.of_eq rfl⟩,rfl,trivial⟩):p:=h
theorem za (h:p:=by exact⟨⟨_,rfl,.refl _⟩,rfl,⟨_,rfl,.refl _⟩,rfl,⟨_,rfl,.refl _⟩,rfl,⟨_,rfl,.refl _⟩,rfl,⟨_,rfl,.refl _⟩,rfl,⟨_,rfl,.refl _⟩,rfl,⟨_,rfl,.refl _⟩,rfl,⟨_,rfl,.refl _⟩,rfl,⟨_,rfl,.refl _⟩,rfl,⟨_,rfl,.refl _⟩,rfl,⟨_,rfl,.refl _⟩,rfl,⟨_,rfl,.refl _⟩,rfl,trivial⟩):p:=h
theorem zb (h:p:=by exact⟨⟨_,rfl,.refl _⟩,rfl,⟨_,rfl,.refl _⟩,rfl,⟨_,rfl,.refl _⟩,rfl,⟨_,rfl,.refl _⟩,rfl,⟨_,rfl,.refl _⟩,rfl,⟨_,rfl,.refl _⟩,rfl,⟨_,rfl,.refl _⟩,rfl,⟨_,rfl,.refl _⟩,rfl,⟨_,rfl,.refl _⟩,rfl,⟨_,rfl,.refl _⟩,rfl,⟨_,rfl,.refl _⟩,rfl,trivial⟩):p:=h
theorem zc (h:p:=by exact⟨⟨_,rfl,.refl _⟩,rfl,⟨_,rfl,.refl _⟩,rfl,⟨_,rfl,.refl _⟩,rfl,⟨_,rfl,.refl _⟩,rfl,⟨_,rfl,.refl _⟩,rfl,⟨_,rfl,.refl _⟩,rfl,⟨_,rfl,.refl _⟩,rfl,⟨_,rfl,.refl _⟩,rfl,⟨_,rfl,.refl _⟩,rfl,⟨_,rfl,.refl _⟩,rfl,trivial⟩):p:=h
theorem zd (h:p:=by exact⟨⟨_,rfl,.refl _⟩,rfl,⟨_,rfl,.refl _⟩,rfl,⟨_,rfl,.refl _⟩,rfl,⟨_,rfl,.refl _⟩,rfl,⟨_,rfl,.refl _⟩,rfl,⟨_,rfl,.refl _⟩,rfl,⟨_,rfl,.refl _⟩,rfl,⟨_,rfl,.refl _⟩,rfl,⟨_,rfl,.refl _⟩,rfl,trivial⟩):p:=h
theorem ze (h:p:=by exact⟨⟨_,rfl,.refl _⟩,rfl,⟨_,rfl,.refl _⟩,rfl,⟨_,rfl,.refl _⟩,rfl,⟨_,rfl,.refl _⟩,rfl,⟨_,rfl,.refl _⟩,rfl,⟨_,rfl,.refl _⟩,rfl,⟨_,rfl,.refl _⟩,rfl,⟨_,rfl,.refl _⟩,rfl,trivial⟩):p:=h
theorem zf (h:p:=by exact⟨⟨_,rfl,.refl _⟩,rfl,⟨_,rfl,.refl _⟩,rfl,⟨_,rfl,.refl _⟩,rfl,⟨_,rfl,.refl _⟩,rfl,⟨_,rfl,.refl _⟩,rfl,⟨_,rfl,.refl _⟩,rfl,⟨_,rfl,.refl _⟩,rfl,trivial⟩):p:=h
theorem zg (h:p:=by exact⟨⟨_,rfl,.refl _⟩,rfl,⟨_,rfl,.refl _⟩,rfl,⟨_,rfl,.refl _⟩,rfl,⟨_,rfl,.refl _⟩,rfl,⟨_,rfl,.refl _⟩,rfl,⟨_,rfl,.refl _⟩,rfl,trivial⟩):p:=h
theorem zh (h:p:=by exact⟨⟨_,rfl,.refl _⟩,rfl,⟨_,rfl,.refl _⟩,rfl,⟨_,rfl,.refl _⟩,rfl,⟨_,rfl,.refl _⟩,rfl,⟨_,rfl,.refl _⟩,rfl,trivial⟩):p:=h
theorem zi (h:p:=by exact⟨⟨_,rfl,.refl _⟩,rfl,⟨_,rfl,.refl _⟩,rfl,⟨_,rfl,.refl _⟩,rfl,⟨_,rfl,.refl _⟩,rfl,trivial⟩):p:=h
theorem zj (h:p:=by exact⟨⟨_,rfl,.refl _⟩,rfl,⟨_,rfl,.refl _⟩,rfl,⟨_,rfl,.refl _⟩,rfl,trivial⟩):p:=h
theorem zk (h:p:=by exact⟨⟨_,rfl,.refl _⟩,rfl,⟨_,rfl,.refl _⟩,rfl,trivial⟩):p:=h
theorem zl (h:p:=by exact⟨⟨_,rfl,.refl _⟩,rfl,trivial⟩):p:=h
theorem zE (h:p:=by exact⟨_,rfl,.refl _⟩):p:=h
end
theorem lg {l:cp} {st st':St} (h6:lN (rho l) st.env st'.next st'.env) (h7:iN (rho l) st st'.next st'.heap) (h1:gn (rho l) (bZ st'.heap)=true:=by exact rfl) (h2:st'.sz=st.sz:=by exact rfl) (h3:st'.bs=st.bs:=by exact rfl) (h4:Nat.ble st'.bs st'.next=true:=by exact rfl) (h5:eI st'.bs l=true:=by exact rfl):Le l st st' :=.of h1 h2 h3 h4 h5 h6 h7
theorem mT {t:Nat} {r:TyR} {u:TypeDesc} (h3:Tryz.prog.underlying t=some u) (h1:(Tryz.prog.info? t).map (fun i=>(i.size,i.bytes,i.zero))=some (r.size,r.bytes,some (zval r.zero)):=by kernel_rfl) (h2:(r.zero.okC&&Nat.beq r.zero.size r.size)=true:=by kernel_rfl) (h4:n9 Tryz.prog r.desc u=true:=by kernel_rfl) (h5:r.desc.isAgg=r.zero.isAgg:=by kernel_rfl):TyOk Tryz.prog t r:=TyOk.mk' h1 h2 h3 h4 h5
abbrev r1:TyR:=u0
theorem ty1:TyOk Tryz.prog 1 r1:=mT Tryz.underlying1
abbrev r2:TyR:=u2
theorem ty2:TyOk Tryz.prog 2 r2:=mT Tryz.underlying2
abbrev r3:TyR:=u2
theorem ty3:TyOk Tryz.prog 3 r3:=mT Tryz.underlying3
abbrev r4:TyR := { desc :=.bool,size:=1,bytes:=1,zero :=.sc (.bool false) }
theorem ty4:TyOk Tryz.prog 4 r4:=mT Tryz.underlying4
abbrev r5:TyR:=u4
theorem ty5:TyOk Tryz.prog 5 r5:=mT Tryz.underlying5
abbrev r9:TyR := { desc :=.string,size:=1,bytes:=16,zero :=.sc (.string ⟨#[]⟩) }
theorem ty9:TyOk Tryz.prog 9 r9:=mT Tryz.underlying9
abbrev r12:TyR:=u5
theorem ty12:TyOk Tryz.prog 12 r12:=mT Tryz.underlying12
abbrev r13:TyR := { desc :=.struct [(0,9),(1,12)],size:=2,bytes:=24,zero :=.cons (.sc (.string ⟨#[]⟩)) (.cons (.sc (.int .u64 0)) (.nil)) }
theorem ty13:TyOk Tryz.prog 13 r13:=mT Tryz.underlying13
abbrev r20:TyR:=u6
theorem ty20:TyOk Tryz.prog 20 r20:=mT Tryz.underlying20
abbrev r21:TyR := { desc :=.int .i32,size:=1,bytes:=4,zero :=.sc (.int .i32 0) }
theorem ty21:TyOk Tryz.prog 21 r21:=mT Tryz.underlying21
abbrev r22:TyR := { desc :=.slice 32,size:=1,bytes:=24,zero :=.sc (.slice none 0 0) }
theorem ty22:TyOk Tryz.prog 22 r22:=mT Tryz.underlying22
abbrev r23:TyR:=u4
theorem ty23:TyOk Tryz.prog 23 r23:=mT Tryz.underlying23
abbrev r24:TyR:=u4
theorem ty24:TyOk Tryz.prog 24 r24:=mT Tryz.underlying24
abbrev r25:TyR := { desc :=.slice 5,size:=1,bytes:=24,zero :=.sc (.slice none 0 0) }
theorem ty25:TyOk Tryz.prog 25 r25:=mT Tryz.underlying25
abbrev r26:TyR := { desc :=.struct [(0,24),(1,3),(2,25)],size:=3,bytes:=40,zero :=.cons (.sc (.int .u8 0)) (.cons (.sc (.int .i64 0)) (.cons (.sc (.slice none 0 0)) (.nil))) }
theorem ty26:TyOk Tryz.prog 26 r26:=mT Tryz.underlying26
abbrev r27:TyR := { desc :=.struct [(0,24),(1,3),(2,25)],size:=3,bytes:=40,zero :=.cons (.sc (.int .u8 0)) (.cons (.sc (.int .i64 0)) (.cons (.sc (.slice none 0 0)) (.nil))) }
theorem ty27:TyOk Tryz.prog 27 r27:=mT Tryz.underlying27
abbrev r28:TyR := { desc :=.array 32 5,size:=32,bytes:=32,zero :=.vec 32 1 bE (List.replicate 32 0) }
theorem ty28:TyOk Tryz.prog 28 r28:=mT Tryz.underlying28
abbrev r29:TyR := { desc :=.array 32 5,size:=32,bytes:=32,zero :=.vec 32 1 bE (List.replicate 32 0) }
theorem ty29:TyOk Tryz.prog 29 r29:=mT Tryz.underlying29
abbrev r30:TyR:=u2
theorem ty30:TyOk Tryz.prog 30 r30:=mT Tryz.underlying30
abbrev r31:TyR := { desc :=.struct [(0,23),(1,3),(2,27),(5,29),(37,30)],size:=38,bytes:=96,zero :=.cons (.sc (.int .u8 0)) (.cons (.sc (.int .i64 0)) (.cons (.cons (.sc (.int .u8 0)) (.cons (.sc (.int .i64 0)) (.cons (.sc (.slice none 0 0)) (.nil)))) (.cons (.vec 32 1 bE (List.replicate 32 0)) (.cons (.sc (.int .i64 0)) (.nil))))) }
theorem ty31:TyOk Tryz.prog 31 r31:=mT Tryz.underlying31
abbrev r32:TyR := { desc :=.struct [(0,23),(1,3),(2,27),(5,29),(37,30)],size:=38,bytes:=96,zero :=.cons (.sc (.int .u8 0)) (.cons (.sc (.int .i64 0)) (.cons (.cons (.sc (.int .u8 0)) (.cons (.sc (.int .i64 0)) (.cons (.sc (.slice none 0 0)) (.nil)))) (.cons (.vec 32 1 bE (List.replicate 32 0)) (.cons (.sc (.int .i64 0)) (.nil))))) }
theorem ty32:TyOk Tryz.prog 32 r32:=mT Tryz.underlying32
abbrev r34:TyR:=u0
theorem ty34:TyOk Tryz.prog 34 r34:=mT Tryz.underlying34
abbrev r36:TyR:=u0
theorem ty36:TyOk Tryz.prog 36 r36:=mT Tryz.underlying36
abbrev r38:TyR:=u0
theorem ty38:TyOk Tryz.prog 38 r38:=mT Tryz.underlying38
abbrev r39:TyR := { desc :=.slice 43,size:=1,bytes:=24,zero :=.sc (.slice none 0 0) }
theorem ty39:TyOk Tryz.prog 39 r39:=mT Tryz.underlying39
abbrev r41:TyR:=u0
theorem ty41:TyOk Tryz.prog 41 r41:=mT Tryz.underlying41
abbrev r42:TyR := { desc :=.struct [(0,3),(1,3),(2,3),(3,27),(6,3),(7,3),(8,29),(40,30)],size:=41,bytes:=120,zero :=.cons (.sc (.int .i64 0)) (.cons (.sc (.int .i64 0)) (.cons (.sc (.int .i64 0)) (.cons (.cons (.sc (.int .u8 0)) (.cons (.sc (.int .i64 0)) (.cons (.sc (.slice none 0 0)) (.nil)))) (.cons (.sc (.int .i64 0)) (.cons (.sc (.int .i64 0)) (.cons (.vec 32 1 bE (List.replicate 32 0)) (.cons (.sc (.int .i64 0)) (.nil)))))))) }
theorem ty42:TyOk Tryz.prog 42 r42:=mT Tryz.underlying42
abbrev r43:TyR := { desc :=.struct [(0,3),(1,3),(2,3),(3,27),(6,3),(7,3),(8,29),(40,30)],size:=41,bytes:=120,zero :=.cons (.sc (.int .i64 0)) (.cons (.sc (.int .i64 0)) (.cons (.sc (.int .i64 0)) (.cons (.cons (.sc (.int .u8 0)) (.cons (.sc (.int .i64 0)) (.cons (.sc (.slice none 0 0)) (.nil)))) (.cons (.sc (.int .i64 0)) (.cons (.sc (.int .i64 0)) (.cons (.vec 32 1 bE (List.replicate 32 0)) (.cons (.sc (.int .i64 0)) (.nil)))))))) }
theorem ty43:TyOk Tryz.prog 43 r43:=mT Tryz.underlying43
abbrev r44:TyR := { desc :=.slice 22,size:=1,bytes:=24,zero :=.sc (.slice none 0 0) }
theorem ty44:TyOk Tryz.prog 44 r44:=mT Tryz.underlying44
abbrev r45:TyR:=u0
theorem ty45:TyOk Tryz.prog 45 r45:=mT Tryz.underlying45
abbrev r46:TyR:=u3
theorem ty46:TyOk Tryz.prog 46 r46:=mT Tryz.underlying46
abbrev r47:TyR:=u3
theorem ty47:TyOk Tryz.prog 47 r47:=mT Tryz.underlying47
abbrev r48:TyR := { desc :=.slice 47,size:=1,bytes:=24,zero :=.sc (.slice none 0 0) }
theorem ty48:TyOk Tryz.prog 48 r48:=mT Tryz.underlying48
abbrev r49:TyR := { desc :=.struct [(0,48)],size:=1,bytes:=24,zero :=.cons (.sc (.slice none 0 0)) (.nil) }
theorem ty49:TyOk Tryz.prog 49 r49:=mT Tryz.underlying49
abbrev r50:TyR := { desc :=.struct [(0,48)],size:=1,bytes:=24,zero :=.cons (.sc (.slice none 0 0)) (.nil) }
theorem ty50:TyOk Tryz.prog 50 r50:=mT Tryz.underlying50
abbrev r51:TyR:=u0
theorem ty51:TyOk Tryz.prog 51 r51:=mT Tryz.underlying51
abbrev r52:TyR:=u0
theorem ty52:TyOk Tryz.prog 52 r52:=mT Tryz.underlying52
abbrev r53:TyR:=u0
theorem ty53:TyOk Tryz.prog 53 r53:=mT Tryz.underlying53
abbrev r54:TyR:=u0
theorem ty54:TyOk Tryz.prog 54 r54:=mT Tryz.underlying54
abbrev r55:TyR:=u0
theorem ty55:TyOk Tryz.prog 55 r55:=mT Tryz.underlying55
abbrev r56:TyR:=u1
theorem ty56:TyOk Tryz.prog 56 r56:=mT Tryz.underlying56
abbrev r57:TyR := { desc :=.struct [(0,56),(1,25)],size:=2,bytes:=32,zero :=.cons (.sc (.pointer none)) (.cons (.sc (.slice none 0 0)) (.nil)) }
theorem ty57:TyOk Tryz.prog 57 r57:=mT Tryz.underlying57
abbrev r58:TyR := { desc :=.struct [(0,56),(1,25)],size:=2,bytes:=32,zero :=.cons (.sc (.pointer none)) (.cons (.sc (.slice none 0 0)) (.nil)) }
theorem ty58:TyOk Tryz.prog 58 r58:=mT Tryz.underlying58
abbrev r59:TyR:=u6
theorem ty59:TyOk Tryz.prog 59 r59:=mT Tryz.underlying59
abbrev r60:TyR:=u6
theorem ty60:TyOk Tryz.prog 60 r60:=mT Tryz.underlying60
abbrev r62:TyR:=u0
theorem ty62:TyOk Tryz.prog 62 r62:=mT Tryz.underlying62
abbrev r63:TyR:=u0
theorem ty63:TyOk Tryz.prog 63 r63:=mT Tryz.underlying63
abbrev r64:TyR:=u0
theorem ty64:TyOk Tryz.prog 64 r64:=mT Tryz.underlying64
abbrev r65:TyR:=u1
theorem ty65:TyOk Tryz.prog 65 r65:=mT Tryz.underlying65
abbrev r66:TyR := { desc :=.array 8 3,size:=8,bytes:=64,zero :=.cons (.sc (.int .i64 0)) (.cons (.sc (.int .i64 0)) (.cons (.sc (.int .i64 0)) (.cons (.sc (.int .i64 0)) (.cons (.sc (.int .i64 0)) (.cons (.sc (.int .i64 0)) (.cons (.sc (.int .i64 0)) (.cons (.sc (.int .i64 0)) (.nil)))))))) }
theorem ty66:TyOk Tryz.prog 66 r66:=mT Tryz.underlying66
abbrev r67:TyR := { desc :=.struct [(0,66),(8,66),(16,3),(17,3),(18,39)],size:=19,bytes:=168,zero :=.cons (.cons (.sc (.int .i64 0)) (.cons (.sc (.int .i64 0)) (.cons (.sc (.int .i64 0)) (.cons (.sc (.int .i64 0)) (.cons (.sc (.int .i64 0)) (.cons (.sc (.int .i64 0)) (.cons (.sc (.int .i64 0)) (.cons (.sc (.int .i64 0)) (.nil))))))))) (.cons (.cons (.sc (.int .i64 0)) (.cons (.sc (.int .i64 0)) (.cons (.sc (.int .i64 0)) (.cons (.sc (.int .i64 0)) (.cons (.sc (.int .i64 0)) (.cons (.sc (.int .i64 0)) (.cons (.sc (.int .i64 0)) (.cons (.sc (.int .i64 0)) (.nil))))))))) (.cons (.sc (.int .i64 0)) (.cons (.sc (.int .i64 0)) (.cons (.sc (.slice none 0 0)) (.nil))))) }
theorem ty67:TyOk Tryz.prog 67 r67:=mT Tryz.underlying67
abbrev r68:TyR := { desc :=.struct [(0,66),(8,66),(16,3),(17,3),(18,39)],size:=19,bytes:=168,zero :=.cons (.cons (.sc (.int .i64 0)) (.cons (.sc (.int .i64 0)) (.cons (.sc (.int .i64 0)) (.cons (.sc (.int .i64 0)) (.cons (.sc (.int .i64 0)) (.cons (.sc (.int .i64 0)) (.cons (.sc (.int .i64 0)) (.cons (.sc (.int .i64 0)) (.nil))))))))) (.cons (.cons (.sc (.int .i64 0)) (.cons (.sc (.int .i64 0)) (.cons (.sc (.int .i64 0)) (.cons (.sc (.int .i64 0)) (.cons (.sc (.int .i64 0)) (.cons (.sc (.int .i64 0)) (.cons (.sc (.int .i64 0)) (.cons (.sc (.int .i64 0)) (.nil))))))))) (.cons (.sc (.int .i64 0)) (.cons (.sc (.int .i64 0)) (.cons (.sc (.slice none 0 0)) (.nil))))) }
theorem ty68:TyOk Tryz.prog 68 r68:=mT Tryz.underlying68
abbrev r69:TyR:=u0
theorem ty69:TyOk Tryz.prog 69 r69:=mT Tryz.underlying69
abbrev r71:TyR:=u0
theorem ty71:TyOk Tryz.prog 71 r71:=mT Tryz.underlying71
abbrev r73:TyR:=u0
theorem ty73:TyOk Tryz.prog 73 r73:=mT Tryz.underlying73
abbrev r74:TyR:=u0
theorem ty74:TyOk Tryz.prog 74 r74:=mT Tryz.underlying74
abbrev r75:TyR:=u0
theorem ty75:TyOk Tryz.prog 75 r75:=mT Tryz.underlying75
abbrev r77:TyR:=u0
theorem ty77:TyOk Tryz.prog 77 r77:=mT Tryz.underlying77
abbrev r78:TyR:=u0
theorem ty78:TyOk Tryz.prog 78 r78:=mT Tryz.underlying78
abbrev r79:TyR:=u0
theorem ty79:TyOk Tryz.prog 79 r79:=mT Tryz.underlying79
abbrev r81:TyR:=u0
theorem ty81:TyOk Tryz.prog 81 r81:=mT Tryz.underlying81
abbrev r83:TyR:=u0
theorem ty83:TyOk Tryz.prog 83 r83:=mT Tryz.underlying83
abbrev r85:TyR:=u0
theorem ty85:TyOk Tryz.prog 85 r85:=mT Tryz.underlying85
abbrev r86:TyR:=u0
theorem ty86:TyOk Tryz.prog 86 r86:=mT Tryz.underlying86
abbrev r87:TyR:=u0
theorem ty87:TyOk Tryz.prog 87 r87:=mT Tryz.underlying87
abbrev r88:TyR:=u0
theorem ty88:TyOk Tryz.prog 88 r88:=mT Tryz.underlying88
abbrev r89:TyR:=u0
theorem ty89:TyOk Tryz.prog 89 r89:=mT Tryz.underlying89
abbrev r90:TyR:=u0
theorem ty90:TyOk Tryz.prog 90 r90:=mT Tryz.underlying90
abbrev r91:TyR:=u0
theorem ty91:TyOk Tryz.prog 91 r91:=mT Tryz.underlying91
abbrev r92:TyR:=u0
theorem ty92:TyOk Tryz.prog 92 r92:=mT Tryz.underlying92
abbrev r93:TyR:=u0
theorem ty93:TyOk Tryz.prog 93 r93:=mT Tryz.underlying93
abbrev r94:TyR := { desc :=.slice 9,size:=1,bytes:=24,zero :=.sc (.slice none 0 0) }
theorem ty94:TyOk Tryz.prog 94 r94:=mT Tryz.underlying94
abbrev r95:TyR := { desc :=.array 3 30,size:=3,bytes:=24,zero :=.cons (.sc (.int .i64 0)) (.cons (.sc (.int .i64 0)) (.cons (.sc (.int .i64 0)) (.nil))) }
theorem ty95:TyOk Tryz.prog 95 r95:=mT Tryz.underlying95
abbrev r96:TyR:=u0
theorem ty96:TyOk Tryz.prog 96 r96:=mT Tryz.underlying96
abbrev r97:TyR:=u0
theorem ty97:TyOk Tryz.prog 97 r97:=mT Tryz.underlying97
abbrev r98:TyR:=u0
theorem ty98:TyOk Tryz.prog 98 r98:=mT Tryz.underlying98
abbrev r99:TyR := { desc :=.cell,size:=1,bytes:=8,zero :=.sc (.map none) }
theorem ty99:TyOk Tryz.prog 99 r99:=mT Tryz.underlying99
abbrev r100:TyR:=u0
theorem B9:TyOk Tryz.prog 100 r100:=mT Tryz.underlying100
abbrev r101:TyR:=u1
theorem B8:TyOk Tryz.prog 101 r101:=mT Tryz.underlying101
abbrev r102:TyR:=u0
theorem B7:TyOk Tryz.prog 102 r102:=mT Tryz.underlying102
abbrev r103:TyR:=u0
theorem B6:TyOk Tryz.prog 103 r103:=mT Tryz.underlying103
abbrev r104:TyR:=u1
theorem B5:TyOk Tryz.prog 104 r104:=mT Tryz.underlying104
abbrev r105:TyR:=u0
theorem B4:TyOk Tryz.prog 105 r105:=mT Tryz.underlying105
abbrev r106:TyR := { desc :=.slice 30,size:=1,bytes:=24,zero :=.sc (.slice none 0 0) }
theorem B3:TyOk Tryz.prog 106 r106:=mT Tryz.underlying106
abbrev r107:TyR := { desc :=.slice 3,size:=1,bytes:=24,zero :=.sc (.slice none 0 0) }
theorem B2:TyOk Tryz.prog 107 r107:=mT Tryz.underlying107
abbrev r108:TyR := { desc :=.slice 111,size:=1,bytes:=24,zero :=.sc (.slice none 0 0) }
theorem B1:TyOk Tryz.prog 108 r108:=mT Tryz.underlying108
abbrev r110:TyR:=u0
theorem B0:TyOk Tryz.prog 110 r110:=mT Tryz.underlying110
abbrev r111:TyR := { desc :=.slice 27,size:=1,bytes:=24,zero :=.sc (.slice none 0 0) }
theorem BZ:TyOk Tryz.prog 111 r111:=mT Tryz.underlying111
abbrev r113:TyR:=u0
theorem BY:TyOk Tryz.prog 113 r113:=mT Tryz.underlying113
abbrev r114:TyR:=u0
theorem BX:TyOk Tryz.prog 114 r114:=mT Tryz.underlying114
abbrev r115:TyR:=u0
theorem BW:TyOk Tryz.prog 115 r115:=mT Tryz.underlying115
abbrev r116:TyR:=u0
theorem BV:TyOk Tryz.prog 116 r116:=mT Tryz.underlying116
abbrev r117:TyR:=u0
theorem BU:TyOk Tryz.prog 117 r117:=mT Tryz.underlying117
abbrev r118:TyR:=u0
theorem BS:TyOk Tryz.prog 118 r118:=mT Tryz.underlying118
abbrev r119:TyR:=u0
theorem BR:TyOk Tryz.prog 119 r119:=mT Tryz.underlying119
abbrev r120:TyR:=u0
theorem BQ:TyOk Tryz.prog 120 r120:=mT Tryz.underlying120
abbrev r121:TyR:=u0
theorem BP:TyOk Tryz.prog 121 r121:=mT Tryz.underlying121
abbrev r122:TyR:=u0
theorem BO:TyOk Tryz.prog 122 r122:=mT Tryz.underlying122
abbrev r123:TyR:=u0
theorem BN:TyOk Tryz.prog 123 r123:=mT Tryz.underlying123
abbrev r124:TyR:=u0
theorem BM:TyOk Tryz.prog 124 r124:=mT Tryz.underlying124
abbrev r125:TyR:=u0
theorem BL:TyOk Tryz.prog 125 r125:=mT Tryz.underlying125
abbrev r127:TyR:=u0
theorem BK:TyOk Tryz.prog 127 r127:=mT Tryz.underlying127
abbrev r128:TyR:=u0
theorem BJ:TyOk Tryz.prog 128 r128:=mT Tryz.underlying128
abbrev r129:TyR:=u0
theorem BI:TyOk Tryz.prog 129 r129:=mT Tryz.underlying129
abbrev r130:TyR:=u0
theorem BH:TyOk Tryz.prog 130 r130:=mT Tryz.underlying130
abbrev r131:TyR:=u0
theorem BG:TyOk Tryz.prog 131 r131:=mT Tryz.underlying131
abbrev r132:TyR:=u0
theorem BF:TyOk Tryz.prog 132 r132:=mT Tryz.underlying132
abbrev r133:TyR:=u0
theorem BE:TyOk Tryz.prog 133 r133:=mT Tryz.underlying133
abbrev r134:TyR := { desc :=.cell,size:=1,bytes:=8,zero :=.sc (.map none) }
theorem BD:TyOk Tryz.prog 134 r134:=mT Tryz.underlying134
abbrev r135:TyR:=u0
theorem BC:TyOk Tryz.prog 135 r135:=mT Tryz.underlying135
abbrev r136:TyR:=u0
theorem BB:TyOk Tryz.prog 136 r136:=mT Tryz.underlying136
abbrev r137:TyR:=u0
theorem BA:TyOk Tryz.prog 137 r137:=mT Tryz.underlying137
abbrev r140:TyR:=u0
theorem Bz:TyOk Tryz.prog 140 r140:=mT Tryz.underlying140
abbrev r141:TyR:=u0
theorem By:TyOk Tryz.prog 141 r141:=mT Tryz.underlying141
abbrev r142:TyR:=u0
theorem Bx:TyOk Tryz.prog 142 r142:=mT Tryz.underlying142
abbrev r143:TyR:=u0
theorem Bw:TyOk Tryz.prog 143 r143:=mT Tryz.underlying143
abbrev r144:TyR:=u0
theorem Bv:TyOk Tryz.prog 144 r144:=mT Tryz.underlying144
abbrev r145:TyR:=u5
theorem Bu:TyOk Tryz.prog 145 r145:=mT Tryz.underlying145
abbrev r146:TyR:=u3
theorem Bt:TyOk Tryz.prog 146 r146:=mT Tryz.underlying146
abbrev r147:TyR:=u3
theorem Bs:TyOk Tryz.prog 147 r147:=mT Tryz.underlying147
abbrev r148:TyR:=u0
theorem Bq:TyOk Tryz.prog 148 r148:=mT Tryz.underlying148
abbrev r149:TyR:=u0
theorem Bp:TyOk Tryz.prog 149 r149:=mT Tryz.underlying149
abbrev r150:TyR:=u0
theorem Bo:TyOk Tryz.prog 150 r150:=mT Tryz.underlying150
abbrev r151:TyR:=u0
theorem Bn:TyOk Tryz.prog 151 r151:=mT Tryz.underlying151
abbrev r152:TyR:=u0
theorem Bm:TyOk Tryz.prog 152 r152:=mT Tryz.underlying152
abbrev r153:TyR:=u0
theorem Bl:TyOk Tryz.prog 153 r153:=mT Tryz.underlying153
abbrev r154:TyR:=u2
theorem Bk:TyOk Tryz.prog 154 r154:=mT Tryz.underlying154
abbrev r156:TyR:=u0
theorem Bj:TyOk Tryz.prog 156 r156:=mT Tryz.underlying156
abbrev r157:TyR:=u1
theorem Bi:TyOk Tryz.prog 157 r157:=mT Tryz.underlying157
abbrev r158:TyR:=u0
theorem Bh:TyOk Tryz.prog 158 r158:=mT Tryz.underlying158
abbrev r159:TyR:=u0
theorem Bg:TyOk Tryz.prog 159 r159:=mT Tryz.underlying159
abbrev r160:TyR:=u0
theorem Bf:TyOk Tryz.prog 160 r160:=mT Tryz.underlying160
abbrev r161:TyR:=u0
theorem Be:TyOk Tryz.prog 161 r161:=mT Tryz.underlying161
abbrev r162:TyR := { desc :=.array 24 5,size:=24,bytes:=24,zero :=.vec 24 1 bE (List.replicate 24 0) }
theorem Bc:TyOk Tryz.prog 162 r162:=mT Tryz.underlying162
abbrev r163:TyR:=u5
theorem Bb:TyOk Tryz.prog 163 r163:=mT Tryz.underlying163
abbrev r164:TyR:=u0
theorem Ba:TyOk Tryz.prog 164 r164:=mT Tryz.underlying164
abbrev r165:TyR:=u0
theorem A9:TyOk Tryz.prog 165 r165:=mT Tryz.underlying165
abbrev r167:TyR:=u0
theorem A8:TyOk Tryz.prog 167 r167:=mT Tryz.underlying167
abbrev r168:TyR:=u0
theorem A7:TyOk Tryz.prog 168 r168:=mT Tryz.underlying168
abbrev r169:TyR:=u0
theorem A6:TyOk Tryz.prog 169 r169:=mT Tryz.underlying169
abbrev r170:TyR:=u0
theorem A5:TyOk Tryz.prog 170 r170:=mT Tryz.underlying170
abbrev r171:TyR:=u0
theorem A4:TyOk Tryz.prog 171 r171:=mT Tryz.underlying171
abbrev r172:TyR := { desc :=.int .u32,size:=1,bytes:=4,zero :=.sc (.int .u32 0) }
theorem A3:TyOk Tryz.prog 172 r172:=mT Tryz.underlying172
abbrev r174:TyR:=u0
theorem A2:TyOk Tryz.prog 174 r174:=mT Tryz.underlying174
abbrev r176:TyR:=u0
theorem A1:TyOk Tryz.prog 176 r176:=mT Tryz.underlying176
abbrev r177:TyR:=u0
theorem A0:TyOk Tryz.prog 177 r177:=mT Tryz.underlying177
abbrev r178:TyR := { desc :=.struct [(0,9),(1,9),(2,60)],size:=3,bytes:=48,zero :=.cons (.sc (.string ⟨#[]⟩)) (.cons (.sc (.string ⟨#[]⟩)) (.cons (.sc .nilIface) (.nil))) }
theorem AZ:TyOk Tryz.prog 178 r178:=mT Tryz.underlying178
abbrev r179:TyR := { desc :=.struct [(0,9),(1,9),(2,60)],size:=3,bytes:=48,zero :=.cons (.sc (.string ⟨#[]⟩)) (.cons (.sc (.string ⟨#[]⟩)) (.cons (.sc .nilIface) (.nil))) }
theorem AY:TyOk Tryz.prog 179 r179:=mT Tryz.underlying179
abbrev r180:TyR:=u0
theorem AX:TyOk Tryz.prog 180 r180:=mT Tryz.underlying180
abbrev r182:TyR:=u0
theorem AW:TyOk Tryz.prog 182 r182:=mT Tryz.underlying182
abbrev r183:TyR := { desc :=.slice 94,size:=1,bytes:=24,zero :=.sc (.slice none 0 0) }
theorem AU:TyOk Tryz.prog 183 r183:=mT Tryz.underlying183
abbrev r184:TyR:=u0
theorem AT:TyOk Tryz.prog 184 r184:=mT Tryz.underlying184
abbrev r185:TyR:=u0
theorem AS:TyOk Tryz.prog 185 r185:=mT Tryz.underlying185
abbrev r186:TyR:=u0
theorem AR:TyOk Tryz.prog 186 r186:=mT Tryz.underlying186
abbrev r187:TyR := { desc :=.array 20 163,size:=20,bytes:=160,zero :=.cons (.sc (.int .u64 0)) (.cons (.sc (.int .u64 0)) (.cons (.sc (.int .u64 0)) (.cons (.sc (.int .u64 0)) (.cons (.sc (.int .u64 0)) (.cons (.sc (.int .u64 0)) (.cons (.sc (.int .u64 0)) (.cons (.sc (.int .u64 0)) (.cons (.sc (.int .u64 0)) (.cons (.sc (.int .u64 0)) (.cons (.sc (.int .u64 0)) (.cons (.sc (.int .u64 0)) (.cons (.sc (.int .u64 0)) (.cons (.sc (.int .u64 0)) (.cons (.sc (.int .u64 0)) (.cons (.sc (.int .u64 0)) (.cons (.sc (.int .u64 0)) (.cons (.sc (.int .u64 0)) (.cons (.sc (.int .u64 0)) (.cons (.sc (.int .u64 0)) (.nil)))))))))))))))))))) }
theorem AQ:TyOk Tryz.prog 187 r187:=mT Tryz.underlying187
abbrev r188:TyR := { desc :=.array 65 5,size:=65,bytes:=65,zero :=.vec 65 1 bE (List.replicate 65 0) }
theorem AP:TyOk Tryz.prog 188 r188:=mT Tryz.underlying188
abbrev r189:TyR:=u0
theorem AO:TyOk Tryz.prog 189 r189:=mT Tryz.underlying189
abbrev r190:TyR:=u0
theorem AN:TyOk Tryz.prog 190 r190:=mT Tryz.underlying190
abbrev r191:TyR:=u0
theorem AM:TyOk Tryz.prog 191 r191:=mT Tryz.underlying191
abbrev r192:TyR:=u0
theorem AL:TyOk Tryz.prog 192 r192:=mT Tryz.underlying192
abbrev r193:TyR:=u0
theorem AK:TyOk Tryz.prog 193 r193:=mT Tryz.underlying193
abbrev r194:TyR:=u0
theorem AJ:TyOk Tryz.prog 194 r194:=mT Tryz.underlying194
abbrev r195:TyR:=u1
theorem AI:TyOk Tryz.prog 195 r195:=mT Tryz.underlying195
abbrev r196:TyR := { desc :=.struct [(0,9)],size:=1,bytes:=16,zero :=.cons (.sc (.string ⟨#[]⟩)) (.nil) }
theorem AH:TyOk Tryz.prog 196 r196:=mT Tryz.underlying196
abbrev r197:TyR := { desc :=.struct [(0,9)],size:=1,bytes:=16,zero :=.cons (.sc (.string ⟨#[]⟩)) (.nil) }
theorem AF:TyOk Tryz.prog 197 r197:=mT Tryz.underlying197
abbrev r198:TyR:=u0
theorem AE:TyOk Tryz.prog 198 r198:=mT Tryz.underlying198
abbrev r200:TyR:=u0
theorem AD:TyOk Tryz.prog 200 r200:=mT Tryz.underlying200
abbrev r201:TyR:=u0
theorem AC:TyOk Tryz.prog 201 r201:=mT Tryz.underlying201
abbrev r202:TyR := { desc :=.array 64 5,size:=64,bytes:=64,zero :=.vec 64 1 bE (List.replicate 64 0) }
theorem AB:TyOk Tryz.prog 202 r202:=mT Tryz.underlying202
abbrev r203:TyR := { desc :=.array 256 5,size:=256,bytes:=256,zero :=.vec 256 1 bE (List.replicate 256 0) }
theorem AA:TyOk Tryz.prog 203 r203:=mT Tryz.underlying203
abbrev r204:TyR := { desc :=.struct [(0,5),(1,5)],size:=2,bytes:=2,zero :=.cons (.sc (.int .u8 0)) (.cons (.sc (.int .u8 0)) (.nil)) }
theorem Az:TyOk Tryz.prog 204 r204:=mT Tryz.underlying204
abbrev r205:TyR := { desc :=.struct [(0,5),(1,5)],size:=2,bytes:=2,zero :=.cons (.sc (.int .u8 0)) (.cons (.sc (.int .u8 0)) (.nil)) }
theorem Ay:TyOk Tryz.prog 205 r205:=mT Tryz.underlying205
abbrev r206:TyR := { desc :=.array 16 205,size:=32,bytes:=32,zero :=.cons (.cons (.sc (.int .u8 0)) (.cons (.sc (.int .u8 0)) (.nil))) (.cons (.cons (.sc (.int .u8 0)) (.cons (.sc (.int .u8 0)) (.nil))) (.cons (.cons (.sc (.int .u8 0)) (.cons (.sc (.int .u8 0)) (.nil))) (.cons (.cons (.sc (.int .u8 0)) (.cons (.sc (.int .u8 0)) (.nil))) (.cons (.cons (.sc (.int .u8 0)) (.cons (.sc (.int .u8 0)) (.nil))) (.cons (.cons (.sc (.int .u8 0)) (.cons (.sc (.int .u8 0)) (.nil))) (.cons (.cons (.sc (.int .u8 0)) (.cons (.sc (.int .u8 0)) (.nil))) (.cons (.cons (.sc (.int .u8 0)) (.cons (.sc (.int .u8 0)) (.nil))) (.cons (.cons (.sc (.int .u8 0)) (.cons (.sc (.int .u8 0)) (.nil))) (.cons (.cons (.sc (.int .u8 0)) (.cons (.sc (.int .u8 0)) (.nil))) (.cons (.cons (.sc (.int .u8 0)) (.cons (.sc (.int .u8 0)) (.nil))) (.cons (.cons (.sc (.int .u8 0)) (.cons (.sc (.int .u8 0)) (.nil))) (.cons (.cons (.sc (.int .u8 0)) (.cons (.sc (.int .u8 0)) (.nil))) (.cons (.cons (.sc (.int .u8 0)) (.cons (.sc (.int .u8 0)) (.nil))) (.cons (.cons (.sc (.int .u8 0)) (.cons (.sc (.int .u8 0)) (.nil))) (.cons (.cons (.sc (.int .u8 0)) (.cons (.sc (.int .u8 0)) (.nil))) (.nil)))))))))))))))) }
theorem Ax:TyOk Tryz.prog 206 r206:=mT Tryz.underlying206
abbrev r209:TyR := { desc :=.array 0 16,size:=0,bytes:=0,zero :=.nil }
theorem Aw:TyOk Tryz.prog 209 r209:=mT Tryz.underlying209
abbrev r212:TyR:=u0
theorem Av:TyOk Tryz.prog 212 r212:=mT Tryz.underlying212
abbrev r215:TyR:=u0
theorem Au:TyOk Tryz.prog 215 r215:=mT Tryz.underlying215
abbrev tab:Tab:=[(1,r1),(2,r2),(3,r3),(4,r4),(5,r5),(9,r9),(12,r12),(13,r13),(20,r20),(21,r21),(22,r22),(23,r23),(24,r24),(25,r25),(26,r26),(27,r27),(28,r28),(29,r29),(30,r30),(31,r31),(32,r32),(34,r34),(36,r36),(38,r38),(39,r39),(41,r41),(42,r42),(43,r43),(44,r44),(45,r45),(46,r46),(47,r47),(48,r48),(49,r49),(50,r50),(51,r51),(52,r52),(53,r53),(54,r54),(55,r55),(56,r56),(57,r57),(58,r58),(59,r59),(60,r60),(62,r62),(63,r63),(64,r64),(65,r65),(66,r66),(67,r67),(68,r68),(69,r69),(71,r71),(73,r73),(74,r74),(75,r75),(77,r77),(78,r78),(79,r79),(81,r81),(83,r83),(85,r85),(86,r86),(87,r87),(88,r88),(89,r89),(90,r90),(91,r91),(92,r92),(93,r93),(94,r94),(95,r95),(96,r96),(97,r97),(98,r98),(99,r99),(100,r100),(101,r101),(102,r102),(103,r103),(104,r104),(105,r105),(106,r106),(107,r107),(108,r108),(110,r110),(111,r111),(113,r113),(114,r114),(115,r115),(116,r116),(117,r117),(118,r118),(119,r119),(120,r120),(121,r121),(122,r122),(123,r123),(124,r124),(125,r125),(127,r127),(128,r128),(129,r129),(130,r130),(131,r131),(132,r132),(133,r133),(134,r134),(135,r135),(136,r136),(137,r137),(140,r140),(141,r141),(142,r142),(143,r143),(144,r144),(145,r145),(146,r146),(147,r147),(148,r148),(149,r149),(150,r150),(151,r151),(152,r152),(153,r153),(154,r154),(156,r156),(157,r157),(158,r158),(159,r159),(160,r160),(161,r161),(162,r162),(163,r163),(164,r164),(165,r165),(167,r167),(168,r168),(169,r169),(170,r170),(171,r171),(172,r172),(174,r174),(176,r176),(177,r177),(178,r178),(179,r179),(180,r180),(182,r182),(183,r183),(184,r184),(185,r185),(186,r186),(187,r187),(188,r188),(189,r189),(190,r190),(191,r191),(192,r192),(193,r193),(194,r194),(195,r195),(196,r196),(197,r197),(198,r198),(200,r200),(201,r201),(202,r202),(203,r203),(204,r204),(205,r205),(206,r206),(209,r209),(212,r212),(215,r215)]
theorem aa:aq Tryz.prog tab :=
 (aq.cons ty1 (aq.cons ty2 (aq.cons ty3 (aq.cons ty4 (aq.cons ty5 (aq.cons ty9 (aq.cons ty12 (aq.cons ty13 (aq.cons ty20 (aq.cons ty21 (aq.cons ty22 (aq.cons ty23 (aq.cons ty24 (aq.cons ty25 (aq.cons ty26 (aq.cons ty27 (aq.cons ty28 (aq.cons ty29 (aq.cons ty30 (aq.cons ty31 (aq.cons ty32 (aq.cons ty34 (aq.cons ty36 (aq.cons ty38 (aq.cons ty39 (aq.cons ty41 (aq.cons ty42 (aq.cons ty43 (aq.cons ty44 (aq.cons ty45 (aq.cons ty46 (aq.cons ty47 (aq.cons ty48 (aq.cons ty49 (aq.cons ty50 (aq.cons ty51 (aq.cons ty52 (aq.cons ty53 (aq.cons ty54 (aq.cons ty55 (aq.cons ty56 (aq.cons ty57 (aq.cons ty58 (aq.cons ty59 (aq.cons ty60 (aq.cons ty62 (aq.cons ty63 (aq.cons ty64 (aq.cons ty65 (aq.cons ty66 (aq.cons ty67 (aq.cons ty68 (aq.cons ty69 (aq.cons ty71 (aq.cons ty73 (aq.cons ty74 (aq.cons ty75 (aq.cons ty77 (aq.cons ty78 (aq.cons ty79 (aq.cons ty81 (aq.cons ty83 (aq.cons ty85 (aq.cons ty86 (aq.cons ty87 (aq.cons ty88 (aq.cons ty89 (aq.cons ty90 (aq.cons ty91 (aq.cons ty92 (aq.cons ty93 (aq.cons ty94 (aq.cons ty95 (aq.cons ty96 (aq.cons ty97 (aq.cons ty98 (aq.cons ty99 (aq.cons B9 (aq.cons B8 (aq.cons B7 (aq.cons B6 (aq.cons B5 (aq.cons B4 (aq.cons B3 (aq.cons B2 (aq.cons B1 (aq.cons B0 (aq.cons BZ (aq.cons BY (aq.cons BX (aq.cons BW (aq.cons BV (aq.cons BU (aq.cons BS (aq.cons BR (aq.cons BQ (aq.cons BP (aq.cons BO (aq.cons BN (aq.cons BM (aq.cons BL (aq.cons BK (aq.cons BJ (aq.cons BI (aq.cons BH (aq.cons BG (aq.cons BF (aq.cons BE (aq.cons BD (aq.cons BC (aq.cons BB (aq.cons BA (aq.cons Bz (aq.cons By (aq.cons Bx (aq.cons Bw (aq.cons Bv (aq.cons Bu (aq.cons Bt (aq.cons Bs (aq.cons Bq (aq.cons Bp (aq.cons Bo (aq.cons Bn (aq.cons Bm (aq.cons Bl (aq.cons Bk (aq.cons Bj (aq.cons Bi (aq.cons Bh (aq.cons Bg (aq.cons Bf (aq.cons Be (aq.cons Bc (aq.cons Bb (aq.cons Ba (aq.cons A9 (aq.cons A8 (aq.cons A7 (aq.cons A6 (aq.cons A5 (aq.cons A4 (aq.cons A3 (aq.cons A2 (aq.cons A1 (aq.cons A0 (aq.cons AZ (aq.cons AY (aq.cons AX (aq.cons AW (aq.cons AU (aq.cons AT (aq.cons AS (aq.cons AR (aq.cons AQ (aq.cons AP (aq.cons AO (aq.cons AN (aq.cons AM (aq.cons AL (aq.cons AK (aq.cons AJ (aq.cons AI (aq.cons AH (aq.cons AF (aq.cons AE (aq.cons AD (aq.cons AC (aq.cons AB (aq.cons AA (aq.cons Az (aq.cons Ay (aq.cons Ax (aq.cons Aw (aq.cons Av (aq.cons Au aq.nil))))))))))))))))))))))))))))))))))))))))))))))))))))))))))))))))))))))))))))))))))))))))))))))))))))))))))))))))))))))))))))))))))))))))))))))))))))))))))))))))))))))))))))))))
end Go.Proofs.YtpjiiolnfbfcbaaGreatDoor
namespace Go.Proofs.YtpjiiolnfbfcbaaGreatDoor
open Go.Eng
section
variable {sz n : Nat} {env : Env} {h : Upds} {all l : List Oper} {Q : Exit → St → Prop} {y : Code} {id : Nat} {ops : Array Oper} {K : Env → Upds → Nat → Prop} {d : Tmp} {op : Op} {ty : TypeId} {pos : String} {af : Array Edge} {v : AV}
theorem rC (h1:RegS Tryz.prog all sz l (n+8) ((d,v)::env) h K) (hd:Nat.blt d sz=true:=by exact rfl) (hop:∀K:Option AV→Upds→Prop,K (some v) []→opD tab op (ay env) (bp h) n K:=by exact fun _ h=>h) :
  RegS Tryz.prog all sz (⟨some d,op,ty,pos,af,none⟩::l) n env h K:=nF hd (aw aa hop) h1
theorem rQ (hs:an Tryz.prog op env h n (some v) []) (h1:RegS Tryz.prog all sz l (n+8) ((d,v)::env) h K) (hd:Nat.blt d sz=true:=by exact rfl) :
  RegS Tryz.prog all sz (⟨some d,op,ty,pos,af,none⟩::l) n env h K:=nF hd hs h1
theorem rN {x:Nat×Option Row} (h1:RegS Tryz.prog all sz l (n+8) ((d,v)::env) (x::h) K) (hd:Nat.blt d sz=true:=by exact rfl) (hop:∀K:Option AV→Upds→Prop,K (some v) [x]→opD tab op (ay env) (bp h) n K:=by exact fun _ h=>h) :
  RegS Tryz.prog all sz (⟨some d,op,ty,pos,af,none⟩::l) n env h K:=aJ (aw aa hop) hd h1
theorem nS {b:Code} (h1:WC Tryz.prog sz b Q env h n):RegS Tryz.prog all sz [] n env h (RegK (SeqQ Tryz.prog b Q) sz):=aA (aM h1)
theorem sR (h1:RegS Tryz.prog ops.toList sz ops.toList n env h (RegK (SeqQ Tryz.prog y Q) sz)):WC Tryz.prog sz (.seq (.region id ops false) y) Q env h n:=bk (am h1)
theorem kS {b:Code} (h1:WC Tryz.prog sz b Q env h n):WC Tryz.prog sz .skip (SeqQ Tryz.prog b Q) env h n:=aL (aM h1)
theorem nQ {b c:Code} (h1:WC Tryz.prog sz b (SeqQ Tryz.prog c Q) env h n):RegS Tryz.prog all sz [] n env h (RegK (SeqQ Tryz.prog (.seq b c) Q) sz):=nS (bk h1)
theorem qR {c:Code} (h1:RegS Tryz.prog ops.toList sz ops.toList n env h (RegK (SeqQ Tryz.prog y (SeqQ Tryz.prog c Q)) sz)):WC Tryz.prog sz (.seq (.seq (.region id ops false) y) c) Q env h n:=bk (sR h1)
theorem lf {l:cp} {st st':St} (h1:gn (rho l) (bZ st'.heap)=true:=by exact rfl) (h2:st'.sz=st.sz:=by exact rfl) (h3:st'.bs=st.bs:=by exact rfl) (h4:Nat.ble st'.bs st'.next=true:=by exact rfl) (h5:eI st'.bs l=true:=by exact rfl)
  (h6:lN (rho l) st.env st'.next st'.env:=by exact⟨⟨_,rfl,AVLe.of_eq rfl⟩,rfl,trivial⟩) (h7:iN (rho l) st st'.next st'.heap:=by exact trivial):Le l st st' :=.of h1 h2 h3 h4 h5 h6 h7
theorem nR (h1:RegS Tryz.prog ops.toList sz ops.toList n env h (RegK (SeqQ Tryz.prog y Q) sz)):RegS Tryz.prog all sz [] n env h (RegK (SeqQ Tryz.prog (.seq (.region id ops false) y) Q) sz):=nS (sR h1)
section
variable {dd : Option Tmp} {j g : Nat} {want b : Bool} {env' : Env}
theorem rO (h1:RegS Tryz.prog all sz (⟨dd,op,ty,pos,af,none⟩::l) n env h K) (hj:((all[j]?).bind (·.dst))=some g:=by exact rfl) (hb:lk env g=some (.bool b):=by exact rfl) (he:b=want:=by assumption) :
  RegS Tryz.prog all sz (⟨dd,op,ty,pos,af,some (j,want)⟩::l) n env h K:=vR hj hb he h1
theorem rP (h1:RegS Tryz.prog all sz (⟨dd,op,ty,pos,af,none⟩::l) n env h K) (hj:((all[j]?).bind (·.dst))=some g:=by exact rfl) (hb:lk env g=some (.bool b):=by exact rfl) (he:b=want:=by exact rfl) :
  RegS Tryz.prog all sz (⟨dd,op,ty,pos,af,some (j,want)⟩::l) n env h K:=vR hj hb he h1
theorem rS (h1:RegS Tryz.prog all sz l (n+8) env' h K) (hj:((all[j]?).bind (·.dst))=some g:=by exact rfl) (hb:lk env g=some (.bool b):=by exact rfl) (he:b = !want:=by assumption) (hd:fP dd sz=true:=by exact rfl) (he':putE dd none env=env':=by exact rfl) :
  RegS Tryz.prog all sz (⟨dd,op,ty,pos,af,some (j,want)⟩::l) n env h K:=pT hj hb he hd he' h1
theorem rT (h1:RegS Tryz.prog all sz l (n+8) env' h K) (hj:((all[j]?).bind (·.dst))=some g:=by exact rfl) (hb:lk env g=some (.bool b):=by exact rfl) (he:b = !want:=by exact rfl) (hd:fP dd sz=true:=by exact rfl) (he':putE dd none env=env':=by exact rfl) :
  RegS Tryz.prog all sz (⟨dd,op,ty,pos,af,some (j,want)⟩::l) n env h K:=pT hj hb he hd he' h1
theorem rU (h1:RegS Tryz.prog all sz l (n+8) env' h K) (hj:((all[j]?).bind (·.dst))=some g:=by exact rfl) (hb:lk env g=some .undef:=by exact rfl) (hd:fP dd sz=true:=by exact rfl) (he':putE dd none env=env':=by exact rfl) :
  RegS Tryz.prog all sz (⟨dd,op,ty,pos,af,some (j,want)⟩::l) n env h K:=un hj hb hd he' h1
end
section
variable {t t' e s m : Nat} {x z i : Operand}
theorem iA {re:TyR} {α:Type} {enc:α→D} {xs:List α} {k:IntKind} {m:Int} {el:α} (hx:ay env x=some (.d (.arr s enc xs)):=by exact rfl) (hi:ay env i=some (.int k m):=by exact rfl) (ht:bh tab t=some (.slice e):=by exact rfl) (he:lk tab e=some re:=by exact rfl) (hs:Nat.beq re.size s=true:=by exact rfl)
  (h0:0≤m:=by omega) (hel:xs[m.toNat]?=some el:=by assumption):an Tryz.prog (.indexAddr t x i) env h n (some (.iptr (enc el))) []:=aF aa ht he hs hx hi h0 hel
theorem iL {y:D} (hx:ay env x=some (.iptr y):=by exact rfl) (hs:bK tab t (.d y)=true:=by exact rfl):an Tryz.prog (.load t x) env h n (some (.d y)) []:=cT aa hx hs
theorem iB {r:Nat} {p:List Step} {ty:TypeId} {a v:AV} (hx:ay env x=some (.ptr r p):=by exact rfl) (hr:bp h r=some (.box ty a):=by exact rfl) (hv:ASub a p v:=by exact⟨_,rfl,rfl⟩) (hs:bK tab t v=true:=by exact rfl):an Tryz.prog (.load t x) env h n (some v) []:=bc aa hx hr hv hs
theorem iM {r:Nat} {p:List Step} {ty:TypeId} {a v:AV} (hx:ay env x=some (.ptr r p):=by exact rfl) (hr:bp h r=some (.box ty a):=by exact rfl) (hv:ASub a p v:=by exact rfl) (hs:bK tab t v=true:=by exact rfl):an Tryz.prog (.load t x) env h n (some v) []:=bc aa hx hr hv hs
theorem iE {α:Type} {enc:α→D} {xs:List α} (hx:ay env x=some (.d (.arr s enc xs)):=by exact rfl) (ht:bh tab t=some (.slice e):=by exact rfl) :
  an Tryz.prog (.call { callee :=.builtin .len,args := #[x],argTypes := #[t] }) env h n (some (.int .i64 xs.length)) []:=jY aa hx ht
theorem iF {c x y:Operand} {b:Bool} {v:AV} (hc:ay env c=some (.bool b):=by exact rfl) (hb:b=false:=by assumption) (hv:ay env y=some v:=by exact rfl):an Tryz.prog (.pick c x y) env h n (some v) []:=ij aa hc hb hv
theorem iG {c x y:Operand} {b:Bool} {v:AV} (hc:ay env c=some (.bool b):=by exact rfl) (hb:b=false:=by exact rfl) (hv:ay env y=some v:=by exact rfl):an Tryz.prog (.pick c x y) env h n (some v) []:=ij aa hc hb hv
theorem iT {c x y:Operand} {b:Bool} {v:AV} (hc:ay env c=some (.bool b):=by exact rfl) (hb:b=true:=by assumption) (hv:ay env x=some v:=by exact rfl):an Tryz.prog (.pick c x y) env h n (some v) []:=ii aa hc hb hv
theorem iU {c x y:Operand} {b:Bool} {v:AV} (hc:ay env c=some (.bool b):=by exact rfl) (hb:b=true:=by exact rfl) (hv:ay env x=some v:=by exact rfl):an Tryz.prog (.pick c x y) env h n (some v) []:=ii aa hc hb hv
theorem iD {x y:Operand} {t t':TypeId} {a b:Int} (hx:ay env x=some (.int .i64 a):=by exact rfl) (hy:ay env y=some (.int .i64 b):=by exact rfl) (h0 : -9223372036854775808≤a+b:=by omega) (h1:a+b≤9223372036854775807:=by omega) :
  an Tryz.prog (.binOp .add t x y t') env h n (some (.int .i64 (a+b))) []:=cJ aa hx hy (aO h0 h1)
theorem iS {r:TyR} {offs:List (Nat×Nat)} {parts:Array (Nat×Operand)} {q:AV} (ht:lk tab t=some r:=by exact rfl) (hd:r.desc=.struct offs:=by exact rfl) (hq:iC tab offs (ay env) parts.toList (.d r.zero)=some q:=by exact rfl) (hag:q.isAgg=true:=by exact rfl) :
  an Tryz.prog (.build t parts) env h n (some q) []:=aX aa ht hd hq hag
theorem rW {y:Operand} {r:Nat} {p:List Step} {row row':Row} (h1:RegS Tryz.prog all sz l (n+8) env ((r,some row')::h) K) (hx:ay env x=some (.ptr r p):=by exact rfl) (hy:ay env y=some v:=by exact rfl) (hr:bp h r=some row:=by exact rfl) (hv:RUpd row p v row':=by exact⟨_,⟨rfl,rfl,rfl⟩,rfl⟩) (hs:bK tab t v=true:=by exact rfl) :
  RegS Tryz.prog all sz (⟨none,.store t x y,ty,pos,af,none⟩::l) n env h K:=bg (aD aa hx hy hr hv hs) h1
theorem rX {y:Operand} {r:Nat} {p:List Step} {row row':Row} (h1:RegS Tryz.prog all sz l (n+8) env ((r,some row')::h) K) (hx:ay env x=some (.ptr r p):=by exact rfl) (hy:ay env y=some v:=by exact rfl) (hr:bp h r=some row:=by exact rfl) (hv:RUpd row p v row':=by exact⟨_,⟨_,⟨_,⟨rfl,rfl,rfl⟩,rfl⟩,rfl⟩,rfl⟩) (hs:bK tab t v=true:=by exact rfl) :
  RegS Tryz.prog all sz (⟨none,.store t x y,ty,pos,af,none⟩::l) n env h K:=bg (aD aa hx hy hr hv hs) h1
end
section
variable {c : Operand} {x y : Code} {b : Bool}
theorem wT (h1:WC Tryz.prog sz x Q env h n) (hc:ay env c=some (.bool b):=by exact rfl) (hb:b=true:=by assumption):WC Tryz.prog sz (.cond c x y) Q env h n:=sV hc hb h1
theorem wV (h1:WC Tryz.prog sz x Q env h n) (hc:ay env c=some (.bool b):=by exact rfl) (hb:b=true:=by exact rfl):WC Tryz.prog sz (.cond c x y) Q env h n:=sV hc hb h1
theorem wF (h1:WC Tryz.prog sz y Q env h n) (hc:ay env c=some (.bool b):=by exact rfl) (hb:b=false:=by assumption):WC Tryz.prog sz (.cond c x y) Q env h n:=pk hc hb h1
theorem wG (h1:WC Tryz.prog sz y Q env h n) (hc:ay env c=some (.bool b):=by exact rfl) (hb:b=false:=by exact rfl):WC Tryz.prog sz (.cond c x y) Q env h n:=pk hc hb h1
end
section
variable {acc : List bW}
theorem dC (ks rs:List Nat) (h1:RegD Tryz.prog all sz l (n+8) ((d,v)::env) h (⟨⟨some d,op,ty,pos,af,none⟩,ks,rs,some v,[]⟩::acc) K) (hd:Nat.blt d sz=true:=by exact rfl) (hop:∀K:Option AV→Upds→Prop,K (some v) []→opD tab op (ay (only ks env)) (bp (only rs h)) n K:=by exact fun _ h=>h) :
  RegD Tryz.prog all sz (⟨some d,op,ty,pos,af,none⟩::l) n env h acc K:=xd ks rs hd (aw aa hop) h1
theorem dQ (ks rs:List Nat) (hs:an Tryz.prog op (only ks env) (only rs h) n (some v) []) (h1:RegD Tryz.prog all sz l (n+8) ((d,v)::env) h (⟨⟨some d,op,ty,pos,af,none⟩,ks,rs,some v,[]⟩::acc) K) (hd:Nat.blt d sz=true:=by exact rfl) :
  RegD Tryz.prog all sz (⟨some d,op,ty,pos,af,none⟩::l) n env h acc K:=xd ks rs hd hs h1
end
end
section
variable {sz n : Nat} {env : Env} {h : Upds} {all l : List Oper} {Q : Exit → St → Prop} {st : St} {b x y c : Code} {id : Nat} {ops : Array Oper} {cc : Operand} {bb : Bool}
theorem zT (h1:Q .ret ⟨env,h,n,sz,64⟩):RegS Tryz.prog all sz [] n env h (RegK (SeqQ Tryz.prog .ret Q) sz):=nS (bR h1)
theorem zB (h1:Q .ret st):BlkQ id (SeqQ Tryz.prog b Q) .ret st:=h1
theorem zC (h1:WC Tryz.prog sz b Q env h n):BlkQ id (SeqQ Tryz.prog b Q) .normal ⟨env,h,n,sz,64⟩:=h1
theorem zW (h1:RegS Tryz.prog ops.toList sz ops.toList n env h (RegK (SeqQ Tryz.prog y (SeqQ Tryz.prog c Q)) sz)):RegS Tryz.prog all sz [] n env h (RegK (SeqQ Tryz.prog (.seq (.seq (.region id ops false) y) c) Q) sz):=nQ (sR h1)
theorem zS {i:Nat} (h1:RegS Tryz.prog ops.toList sz ops.toList n env h (RegK (SeqQ Tryz.prog y (BlkQ i Q)) sz)):WC Tryz.prog sz (.block i (.seq (.region id ops false) y)) Q env h n:=aZ (sR h1)
theorem zP (h1:WC Tryz.prog sz c (BlkQ id Q) env h n):RegS Tryz.prog all sz [] n env h (RegK (SeqQ Tryz.prog (.block id c) Q) sz):=nS (aZ h1)
theorem zG (h1:WC Tryz.prog sz y Q env h n) (hc:ay env cc=some (.bool bb):=by exact rfl) (hb:bb=false:=by assumption):RegS Tryz.prog all sz [] n env h (RegK (SeqQ Tryz.prog (.cond cc x y) Q) sz):=nS (wF h1 hc hb)
theorem zI (h1:WC Tryz.prog sz x Q env h n) (hc:ay env cc=some (.bool bb):=by exact rfl) (hb:bb=true:=by assumption):RegS Tryz.prog all sz [] n env h (RegK (SeqQ Tryz.prog (.cond cc x y) Q) sz):=nS (wT h1 hc hb)
theorem zJ (h1:WC Tryz.prog sz y Q env h n) (hc:ay env cc=some (.bool bb):=by exact rfl) (hb:bb=false:=by exact rfl):RegS Tryz.prog all sz [] n env h (RegK (SeqQ Tryz.prog (.cond cc x y) Q) sz):=nS (wG h1 hc hb)
theorem zO (h1:WC Tryz.prog sz x Q env h n) (hc:ay env cc=some (.bool bb):=by exact rfl) (hb:bb=true:=by exact rfl):RegS Tryz.prog all sz [] n env h (RegK (SeqQ Tryz.prog (.cond cc x y) Q) sz):=nS (wV h1 hc hb)
theorem zQ (h1:WC Tryz.prog sz x (SeqQ Tryz.prog y Q) env h n):WC Tryz.prog sz .skip (SeqQ Tryz.prog (.seq x y) Q) env h n:=kS (bk h1)
theorem zX.{u} {α:Type u} {mk:α→St} {Inv:α→Prop} {μ:α→Nat} {a:α} (h1:WC Tryz.prog sz b Q env h n):WC Tryz.prog sz (.exit id) (SeqQ Tryz.prog y (LoopQ (BlkQ id (SeqQ Tryz.prog b Q)) mk Inv μ a)) env h n:=cv (ew (fe (eD (aM h1))))
variable {K : Env → Upds → Nat → Prop} {d e f : Tmp} {op oq o3 : Op} {ty tz t3 : TypeId} {pos pot p3 : String} {af ag a3 : Array Edge} {v w u : AV}
theorem zD (h1:RegS Tryz.prog all sz l (n+8+8) ((e,w)::(d,v)::env) h K) (hd:Nat.blt d sz=true:=by exact rfl) (hop:∀K:Option AV→Upds→Prop,K (some v) []→opD tab op (ay env) (bp h) n K:=by exact fun _ h=>h) (he:Nat.blt e sz=true:=by exact rfl) (hoq:∀K:Option AV→Upds→Prop,K (some w) []→opD tab oq (ay ((d,v)::env)) (bp h) (n+8) K:=by exact fun _ h=>h) :
  RegS Tryz.prog all sz (⟨some d,op,ty,pos,af,none⟩::⟨some e,oq,tz,pot,ag,none⟩::l) n env h K:=rC (rC h1 he hoq) hd hop
theorem zU (h1:RegS Tryz.prog all sz l (n+8+8+8) ((f,u)::(e,w)::(d,v)::env) h K) (hd:Nat.blt d sz=true:=by exact rfl) (hop:∀K:Option AV→Upds→Prop,K (some v) []→opD tab op (ay env) (bp h) n K:=by exact fun _ h=>h) (he:Nat.blt e sz=true:=by exact rfl) (hoq:∀K:Option AV→Upds→Prop,K (some w) []→opD tab oq (ay ((d,v)::env)) (bp h) (n+8) K:=by exact fun _ h=>h) (hf:Nat.blt f sz=true:=by exact rfl) (ho3:∀K:Option AV→Upds→Prop,K (some u) []→opD tab o3 (ay ((e,w)::(d,v)::env)) (bp h) (n+8+8) K:=by exact fun _ h=>h) :
  RegS Tryz.prog all sz (⟨some d,op,ty,pos,af,none⟩::⟨some e,oq,tz,pot,ag,none⟩::⟨some f,o3,t3,p3,a3,none⟩::l) n env h K:=rC (zD h1 he hoq hf ho3) hd hop
end
end Go.Proofs.YtpjiiolnfbfcbaaGreatDoor
namespace Go.Proofs.YtpjiiolnfbfcbaaGreatDoor
open Go.Eng Go.Plain
set_option maxHeartbeats 32000000
set_option maxRecDepth 20000
abbrev bo (b:Bool):D :=.sc (.bool b)
abbrev i6 (n:Int):D :=.sc (.int .i64 n)
abbrev u8s (n:Int):D :=.sc (.int .u8 n)
abbrev encB (l:List UInt8):D :=.arr 1 bE (byI l)
theorem l9 (a b:List UInt8):byI a++byI b=byI (a++b):=by simp[byI]
theorem b6 (l:List UInt8):(byI l).length=l.length:=by simp[byI]
theorem o9 {l:List UInt8} {j:Nat} {b:UInt8} (h:l[j]?=some b):(byI l)[j]?=some (b.toNat:Int):=by simp[byI,h]
def bu (o:POp):D :=.cons (u8s o.kind) (.cons (i6 o.index) (.cons (encB o.data) .nil))
abbrev encP (p:List POp):D :=.arr 3 bu p
abbrev lF (l:List (List POp)):D :=.arr 1 encP l
def idxF {α:Type} (p:α→Bool) (l:List α):Int:=match l.findIdx? p with
 | some i=>i
 | none => -1
theorem kH {α:Type} {p:α→Bool} {l:List α} {i:Nat} {x:α} (hx:l[i]?=some x) (hp:p x=true) (hn:∀j,j<i→∀y,l[j]?=some y→p y=false):idxF p l=i:=by
 have:l.findIdx? p=some i:=by
  rw[List.findIdx?_eq_some_iff_getElem]
  obtain⟨h1,h2⟩:=List.getElem?_eq_some_iff.1 hx
  refine⟨h1,by rw[h2]; exact hp,fun j hj=>?_⟩
  have:=hn j hj _ (List.getElem?_eq_getElem (by omega))
  simp[this]
 simp[idxF,this]
theorem kI {α:Type} {p:α→Bool} {l:List α} (hn:∀(j:Nat) (y:α),l[j]?=some y→p y=false):idxF p l = -1:=by
 have:l.findIdx? p=none:=by
  rw[List.findIdx?_eq_none_iff]
  intro x hx
  obtain⟨j,hj⟩:=List.mem_iff_getElem?.1 hx
  exact hn j x hj
 simp[idxF,this]
theorem mV {α:Type} (p:α→Bool) (l:List α):decide (0≤idxF p l)=l.any p:=by
 cases h:l.any p with
 | true =>
  have:(l.findIdx? p).isSome=true:=by rw[List.findIdx?_isSome]; exact h
  obtain⟨i,hi⟩:=Option.isSome_iff_exists.1 this
  simp only[idxF,hi]
  exact dT (by omega)
 | false =>
  have:l.findIdx? p=none:=by
   rw[List.findIdx?_eq_none_iff]
   intro x hx
   rw[List.any_eq_false]at h
   simpa using h x hx
  simp only[idxF,this]
  rfl
end Go.Proofs.YtpjiiolnfbfcbaaGreatDoor
namespace Go.Plain
open Go.Eng Go.Lib
theorem sE {c:UInt8}:∀ {l:List UInt8},match cutL l c with
  | none=>indexByte l c = -1
  | some (p,_)=>indexByte l c=(p.length:Int)
 | []=>rfl
 | b::l=>by
  simp only[cutL]
  by_cases e:b=c
  ·rw[if_pos e]
   subst e
   simp[indexByte]
  ·rw[if_neg e]
   have ih :=@sE c l
   have hb:(b==c)=false:=by simpa using e
   cases h:cutL l c with
   | none =>
    rw[h]at ih
    simp only at ih ⊢
    simp[indexByte,hb,ih]
   | some pq =>
    obtain⟨p,q⟩:=pq
    rw[h]at ih
    simp only at ih ⊢
    have h1:¬((p.length:Int) = -1):=by omega
    simp[indexByte,hb,ih,h1]
theorem yd (l:List UInt8) (c:UInt8):cut l [c]=match cutL l c with
  | none=>(l,[],false)
  | some (p,q)=>(p,q,true):=by
 have :=@sE c l
 rw[cut,index_one]
 cases h:cutL l c with
 | none =>
  rw[h]at this
  simp only at this
  rw[this,if_neg (by omega)]
 | some pq =>
  obtain⟨p,q⟩:=pq
  rw[h]at this
  simp only at this
  obtain⟨rfl,_⟩:=cM h
  rw[this,if_pos (by omega)]
  simp
theorem kG (l:List UInt8) (c:UInt8):indexB (mkS l) (mkS [c])=indexByte l c:=by
 rw[indexB,cZ,cZ,index_one]
theorem jB:∀(l:List UInt8) (c:UInt8),(bS l c).length≤l.length+1
 | [],_=>by simp[bS]
 | b::l,c=>by
  have:=jB l c
  simp only[bS]
  split
  ·simpa using this
  ·split
   ·simp
   ·rename_i h
    rw[h]at this
    simp only[List.length_cons]at this ⊢
    omega
theorem uC {c:UInt8}:∀(k:Nat) (l:List UInt8),l.length≤k→splitB (mkS [c]) 0 (countB (mkS l) (mkS [c])) (mkS l)=(bS l c).map mkS∧countB (mkS l) (mkS [c])+1=(bS l c).length:=by
 intro k
 induction k with
 | zero =>
  intro l hl
  obtain rfl:l=[]:=List.eq_nil_of_length_eq_zero (by omega)
  have h:=kG [] c
  have hm:indexB (mkS []) (mkS [c]) = -1:=by rw[h]; rfl
  rw[countB_miss _ _ hm,splitB_zero]
  exact⟨rfl,rfl⟩
 | succ k ih =>
  intro l hl
  have hib :=@sE c l
  rw[nD]
  cases h:cutL l c with
  | none =>
   rw[h]at hib
   simp only at hib
   have hm:indexB (mkS l) (mkS [c]) = -1:=by rw[kG,hib]
   rw[countB_miss _ _ hm,splitB_zero]
   exact⟨rfl,rfl⟩
  | some pq =>
   obtain⟨p,q⟩:=pq
   rw[h]at hib
   simp only at hib
   obtain⟨rfl,_⟩:=cM h
   have hm:indexB (mkS (p++c::q)) (mkS [c])=(p.length:Nat):=by rw[kG,hib]
   have hx:(mkS (p++c::q)).extract (p.length+(mkS [c]).size) (mkS (p++c::q)).size=mkS q:=by
    rw[io,cz,cz]
    congr 1
    have e1:(p++c::q).drop (p.length+[c].length)=q:=by
     rw[List.drop_append,List.drop_eq_nil_of_le (by simp)]
     simp
    rw[e1]
    exact List.take_of_length_le (by simp; omega)
   have hy:(mkS (p++c::q)).extract 0 (p.length+0)=mkS p:=by
    rw[io]
    congr 1
    simp
   have hq:q.length≤k:=by simp at hl; omega
   obtain⟨h1,h2⟩:=ih q hq
   rw[countB_hit _ _ p.length (by rw[cz]; exact Nat.le_refl 1) hm,hx,Nat.add_comm 1,splitB_hit _ _ _ _ _ hm,hx,hy,h1]
   refine⟨rfl,?_⟩
   simp only[List.length_cons]
   omega
end Go.Plain
namespace Go.Eng
open Go.RowKit
theorem RelV.er {σ:Place} {w:World} {X:Nat→Prop} {u:Value}:RelV σ w X .er u ↔ ∃t v,u=.iface t v:=by
 unfold RelV
 rw[if_neg (by simp[AV.isAgg])]
 simp only[Rel,List.cons.injEq,and_true]
theorem lZ {σ:Place} {w:World} {X:Nat→Prop} {v v1:Value} {t:TypeId} (h1:v.oneCell'=true):RelV σ w X (.tup (.acons (.d (.sc v)) (.acons .er .anil))) (.tuple #[v,.iface t v1]):=by
 unfold RelV
 rw[if_neg (by simp[AV.isAgg])]
 exact⟨_,rfl,_,_,rfl,RelV.sc.2 ⟨rfl,h1⟩,_,_,rfl,RelV.er.2 ⟨_,_,rfl⟩,rfl⟩
theorem pS {σ:Place} {w:World} {X:Nat→Prop} {v v1:Value} (h1:v.oneCell'=true) (h2:v1.oneCell'=true):RelV σ w X (.tup (.acons (.d (.sc v)) (.acons (.d (.sc v1)) .anil))) (.tuple #[v,v1]):=by
 unfold RelV
 rw[if_neg (by simp[AV.isAgg])]
 exact⟨_,rfl,_,_,rfl,RelV.sc.2 ⟨rfl,h1⟩,_,_,rfl,RelV.sc.2 ⟨rfl,h2⟩,rfl⟩
theorem vQ {σ:Place} {w:World} {X:Nat→Prop} {v v1 v2:Value} (h1:v.oneCell'=true) (h2:v1.oneCell'=true) (h3:v2.oneCell'=true):RelV σ w X (.tup (.acons (.d (.sc v)) (.acons (.d (.sc v1)) (.acons (.d (.sc v2)) .anil)))) (.tuple #[v,v1,v2]):=by
 unfold RelV
 rw[if_neg (by simp[AV.isAgg])]
 exact⟨_,rfl,_,_,rfl,RelV.sc.2 ⟨rfl,h1⟩,_,_,rfl,RelV.sc.2 ⟨rfl,h2⟩,_,_,rfl,RelV.sc.2 ⟨rfl,h3⟩,rfl⟩
section
variable {P : Program} {T : Tab} {env : Env} {h : Upds} {n : Nat}
theorem rn {t:Nat} {w:World} {ms} (hud:P.underlying t=some (.interface ms)):(binOp .eql t .nilIface .nilIface).run P w=.ok (.bool true) w:=by
 have h1:(Op.equalIn 10000 t .nilIface .nilIface).run P w=.ok true w:=by
  rw[show (10000:Nat)=9999+1 from rfl,Op.equalIn]
  simp only[Sem.run_bind,run_underlying hud,Result.andThen_ok,Sem.run_pure]
 show (do let b ←Op.equalIn 10000 t _ _; pure (Value.bool b):Sem Value).run P w=_
 simp only[Sem.run_bind,h1,Result.andThen_ok,Sem.run_pure]
theorem rp {t t1:Nat} {w:World} {ms} {v:Value} (hud:P.underlying t=some (.interface ms)):(binOp .eql t (.iface t1 v) .nilIface).run P w=.ok (.bool false) w:=by
 have h1:(Op.equalIn 10000 t (.iface t1 v) .nilIface).run P w=.ok false w:=by
  rw[show (10000:Nat)=9999+1 from rfl,Op.equalIn]
  simp only[Sem.run_bind,run_underlying hud,Result.andThen_ok,Sem.run_pure]
 show (do let b ←Op.equalIn 10000 t _ _; pure (Value.bool b):Sem Value).run P w=_
 simp only[Sem.run_bind,h1,Result.andThen_ok,Sem.run_pure]
theorem gu {t t':Nat} {x:Operand} {ms} (hu:P.underlying t=some (.interface ms)) (hx:ay env x=some (.d (.sc .nilIface))) :
  an P (.binOp .eql t x (.const .nilIface) t') env h n (some (.bool true)) []:=.of_comes fun C G st σ w ac o ho hA hdst hst hn=>by
 obtain⟨hv,_⟩:=RelV.sc.1 (ao hst (hA.ev hx)).1
 refine .quiet (u :=.bool true) hst hdst ⟨rfl,rfl⟩ ?_ (RelV.sc.2 ⟨rfl,rfl⟩) trivial
 have hg:(eqGuard .eql t x (.const .nilIface) .nilIface .nilIface).run P w=.ok () w:=by
  simp[eqGuard]
  try (cases x <;> rfl)
 have hc:ac.eval (.const .nilIface)=.nilIface:=rfl
 simp only[execOp,ho,hv,hc,Sem.run_bind,hg,Result.andThen_ok,rn hu,Sem.run_pure]
theorem nf {t t':Nat} {x:Operand} {ms} (hu:P.underlying t=some (.interface ms)) (hx:ay env x=some .er) :
  an P (.binOp .eql t x (.const .nilIface) t') env h n (some (.bool false)) []:=.of_comes fun C G st σ w ac o ho hA hdst hst hn=>by
 obtain⟨t1,v,hv⟩:=RelV.er.1 (ao hst (hA.ev hx)).1
 refine .quiet (u :=.bool false) hst hdst ⟨rfl,rfl⟩ ?_ (RelV.sc.2 ⟨rfl,rfl⟩) trivial
 have hg:(eqGuard .eql t x (.const .nilIface) (.iface t1 v) .nilIface).run P w=.ok () w:=rfl
 have hc:ac.eval (.const .nilIface)=.nilIface:=rfl
 simp only[execOp,ho,hv,hc,Sem.run_bind,hg,Result.andThen_ok,rp hu,Sem.run_pure]
end
end Go.Eng
namespace Go.Eng
open Go.RowKit
section
variable {P : Program} {T : Tab} {env : Env} {h : Upds} {n : Nat}
theorem yW (a:Addr) (i j:Nat):(a.add i).add j=a.add (i+j):=by
 cases a with
 | mk b o w =>
  simp only[Addr.add]
  by_cases h1:i=0 <;> by_cases h2:j=0 <;> simp[h1,h2,Nat.add_assoc]
theorem dY (hT:aq P T) {t e:Nat} {re:TyR} {x i:Operand} {α:Type} {s:Nat} {enc:α→D} {xs:List α} {k:IntKind} {m:Nat} (ht:bh T t=some (.slice e)) (he:lk T e=some re) (hs:Nat.beq re.size s=true)
  (hx:ay env x=some (.d (.arr s enc xs))) (hi:ay env i=some (.int k m)) (h1:m≤xs.length):an P (.slice t x (some i) none none) env h n (some (.d (.arr s enc (xs.drop m)))) []:=.of_comes fun C G st σ w a o ho hA hdst hst hn=>by
 obtain⟨ud,hud,hdd⟩:=aS hT ht
 cases hdd
 have hs:=Nat.eq_of_beq_eq_true hs
 obtain⟨hx1,_⟩:=ao hst (hA.ev hx)
 obtain⟨hi1,_⟩:=RelV.sc.1 (ao hst (hA.ev hi)).1
 have hsz:=(hT e re he).run_size (P:=P)
 have hlen:(xs.drop m).length=xs.length-m:=by rw[List.length_drop]
 rcases RelV.arr.1 hx1 with ⟨rfl,hv⟩ | ⟨ad,c,hv,hc1,hc2,f,hf⟩
 ·have hm0:m=0:=by simpa using h1
  subst hm0
  refine .quiet (u :=.slice none 0 0) hst hdst ⟨rfl,rfl⟩ ?_ (RelV.arr.2 (.inl ⟨rfl,rfl⟩)) trivial
  simp[execOp,ho,Instr.sliceAt,Instr.slice,hv,hi1,run_underlying hud,Instr.sliceBounds,Instr.sliceBound,asIntOf,hsz,Sem.run_bind,Sem.run_pure,Result.andThen_ok]
 ·have hlen2:¬xs.length<m:=by omega
  refine .quiet (u :=.slice (some (if c=m then ad else ad.add (m*s))) (xs.length-m) (c-m)) hst hdst ⟨rfl,rfl⟩ ?_ (RelV.arr.2 (.inr ⟨_,c-m,by rw[hlen],by rw[hlen]; omega,by omega,fun j=>f (j+m),fun j hj=>?_⟩)) trivial
  ·have hcm:¬c<m:=by omega
   simp[execOp,ho,Instr.sliceAt,Instr.slice,hv,hi1,run_underlying hud,Instr.sliceBounds,Instr.sliceBound,asIntOf,hsz,hs,Sem.run_bind,Sem.run_pure,Result.andThen_ok,hlen2,hcm]
   rw[if_pos h1]
   split <;> rfl
  ·have hj2:j+m<xs.length:=by rw[hlen]at hj; omega
   obtain⟨g1,g2,g3⟩:=hf (j+m) hj2
   refine⟨by rw[List.getElem_drop]; simpa[Nat.add_comm]using g1,g2,fun q u hu=>?_⟩
   have:=g3 q u hu
   rw[if_neg (by omega),yW,Addr.add_block]
   rw[show m*s+(j*s+q)=(j+m)*s+q by rw[Nat.add_mul]; omega]
   exact this
end
end Go.Eng
namespace Go.Proofs
open Go.Shelf
def Tryz.lays137_ren:Go.Shelf.Ren:=⟨fun | 137=>80 | 217=>93 | 266=>119 | n=>n,fun | 9=>9 | 5=>5 | 3=>3 | n=>n,fun | n=>n⟩
theorem Tryz.lays137:Go.Proofs.Lays.n137 Tryz.prog Tryz.lays137_ren := {
 mixed:=by kernel_rfl
 f137:=Tryz.func80.trans (congrArg some (by kernel_rfl))
 f217:=Tryz.func93.trans (congrArg some (by kernel_rfl))
 f266:=Tryz.func119.trans (congrArg some (by kernel_rfl))
 t3:=Tryz.underlying3
 a3:=Tryz.isAgg3
 z3:=Tryz.sizeOf3
 v3:=Tryz.zeroValue3
 t5:=Tryz.underlying5
 a5:=Tryz.isAgg5
 z5:=Tryz.sizeOf5
 v5:=Tryz.zeroValue5
 t9:=Tryz.underlying9
 a9:=Tryz.isAgg9
 z9:=Tryz.sizeOf9
 v9:=Tryz.zeroValue9 }
open Go.RowKit in
theorem Tryz.strings_IndexByte (s:ByteArray) (c:Int) (w:World) :
  Calls Tryz.prog 80 #[.string s,.int .u8 c] w fun e w'=>e=.returned (.int .i64 (Lib.indexByte s.data.toList c.toNat.toUInt8))∧w'=w:=Any.strings_IndexByte Tryz.lays137 s c w
def Tryz.lays172_ren:Go.Shelf.Ren:=⟨fun | 172=>46 | 244=>70 | 245=>71 | 247=>97 | 279=>98 | 280=>99 | 281=>100 | 282=>101 | 287=>121 | 316=>122 | 171=>38 | 205=>123 | 321=>137 | 322=>138 | 243=>63 | 246=>89 | 283=>109 | 284=>110 | 285=>111 | 286=>112 | 129=>131 | 317=>130 | 318=>132 | 319=>133 | 320=>134 | 337=>142 | 338=>143 | n=>n,fun | 9=>9 | 3=>3 | 75=>60 | 76=>61 | 4=>4 | 5=>5 | 167=>154 | 37=>25 | 0=>0 | 85=>155 | 2=>2 | 168=>157 | 53=>163 | 175=>175 | 46=>145 | 210=>179 | 127=>101 | 145=>197 | 143=>195 | 21=>21 | 171=>162 | 173=>166 | 212=>187 | 51=>172 | 20=>20 | 213=>188 | 232=>28 | 233=>202 | 80=>64 | n=>n,fun | 15=>1 | 16=>2 | 17=>3 | 18=>4 | 19=>5 | n=>n⟩
def Tryz.laysM246_ren:Go.Shelf.Ren:=⟨fun | 246=>89 | 283=>109 | 284=>110 | 285=>111 | 286=>112 | 129=>131 | 317=>130 | 318=>132 | 319=>133 | 320=>134 | 337=>142 | 338=>143 | n=>n,fun | 2=>2 | 3=>3 | 9=>9 | 4=>4 | 171=>162 | 0=>0 | 53=>163 | 37=>25 | 5=>5 | 173=>166 | 212=>187 | 51=>172 | 20=>20 | 213=>188 | 46=>145 | 232=>28 | 233=>202 | n=>n,fun | 17=>3 | 18=>4 | 19=>5 | n=>n⟩
def Tryz.laysM243_ren:Go.Shelf.Ren:=⟨fun | 243=>63 | 246=>89 | 283=>109 | 284=>110 | 285=>111 | 286=>112 | 129=>131 | 317=>130 | 318=>132 | 319=>133 | 320=>134 | 337=>142 | 338=>143 | n=>n,fun | 3=>3 | 9=>9 | 2=>2 | 4=>4 | 171=>162 | 0=>0 | 53=>163 | 37=>25 | 5=>5 | 173=>166 | 212=>187 | 51=>172 | 20=>20 | 213=>188 | 46=>145 | 232=>28 | 233=>202 | n=>n,fun | 17=>3 | 18=>4 | 19=>5 | n=>n⟩
def Tryz.laysM171_ren:Go.Shelf.Ren:=⟨fun | 171=>38 | 243=>63 | 246=>89 | 283=>109 | 284=>110 | 285=>111 | 286=>112 | 129=>131 | 317=>130 | 318=>132 | 319=>133 | 320=>134 | 337=>142 | 338=>143 | n=>n,fun | 3=>3 | 9=>9 | 2=>2 | 4=>4 | 171=>162 | 0=>0 | 53=>163 | 37=>25 | 5=>5 | 173=>166 | 212=>187 | 51=>172 | 20=>20 | 213=>188 | 46=>145 | 232=>28 | 233=>202 | n=>n,fun | 17=>3 | 18=>4 | 19=>5 | n=>n⟩
theorem Tryz.laysM171:Go.Proofs.LaysM.n171 Tryz.prog Tryz.laysM171_ren := {
 mixed:=by kernel_rfl
 f129:=Tryz.func131.trans (congrArg some (by kernel_rfl))
 f171:=Tryz.func38.trans (congrArg some (by kernel_rfl))
 f243:=Tryz.func63.trans (congrArg some (by kernel_rfl))
 f246:=Tryz.func89.trans (congrArg some (by kernel_rfl))
 f283:=Tryz.func109.trans (congrArg some (by kernel_rfl))
 f284:=Tryz.func110.trans (congrArg some (by kernel_rfl))
 f285:=Tryz.func111.trans (congrArg some (by kernel_rfl))
 f286:=Tryz.func112.trans (congrArg some (by kernel_rfl))
 f317:=Tryz.func130.trans (congrArg some (by kernel_rfl))
 f318:=Tryz.func132.trans (congrArg some (by kernel_rfl))
 f319:=Tryz.func133.trans (congrArg some (by kernel_rfl))
 f320:=Tryz.func134.trans (congrArg some (by kernel_rfl))
 f337:=Tryz.func142.trans (congrArg some (by kernel_rfl))
 f338:=Tryz.func143.trans (congrArg some (by kernel_rfl))
 t0:=Tryz.underlying0
 a0:=Tryz.isAgg0
 z0:=Tryz.sizeOf0
 v0:=Tryz.zeroValue0
 t2:=Tryz.underlying2
 a2:=Tryz.isAgg2
 z2:=Tryz.sizeOf2
 v2:=Tryz.zeroValue2
 t3:=Tryz.underlying3
 a3:=Tryz.isAgg3
 z3:=Tryz.sizeOf3
 v3:=Tryz.zeroValue3
 t4:=Tryz.underlying4
 a4:=Tryz.isAgg4
 z4:=Tryz.sizeOf4
 v4:=Tryz.zeroValue4
 t5:=Tryz.underlying5
 a5:=Tryz.isAgg5
 z5:=Tryz.sizeOf5
 v5:=Tryz.zeroValue5
 t9:=Tryz.underlying9
 a9:=Tryz.isAgg9
 z9:=Tryz.sizeOf9
 v9:=Tryz.zeroValue9
 t20:=Tryz.underlying20
 a20:=Tryz.isAgg20
 z20:=Tryz.sizeOf20
 v20:=Tryz.zeroValue20
 t37:=Tryz.underlying25
 a37:=Tryz.isAgg25
 z37:=Tryz.sizeOf25
 v37:=Tryz.zeroValue25
 t46:=Tryz.underlying145
 a46:=Tryz.isAgg145
 z46:=Tryz.sizeOf145
 v46:=Tryz.zeroValue145
 t51:=Tryz.underlying172
 a51:=Tryz.isAgg172
 z51:=Tryz.sizeOf172
 v51:=Tryz.zeroValue172
 t53:=Tryz.underlying163
 a53:=Tryz.isAgg163
 z53:=Tryz.sizeOf163
 v53:=Tryz.zeroValue163
 t171:=Tryz.underlying162
 a171:=Tryz.isAgg162
 z171:=Tryz.sizeOf162
 v171:=Tryz.zeroValue162
 t173:=Tryz.underlying166
 a173:=Tryz.isAgg166
 z173:=Tryz.sizeOf166
 v173:=Tryz.zeroValue166
 t212:=Tryz.underlying187
 a212:=Tryz.isAgg187
 z212:=Tryz.sizeOf187
 v212:=Tryz.zeroValue187
 t213:=Tryz.underlying188
 a213:=Tryz.isAgg188
 z213:=Tryz.sizeOf188
 t232:=Tryz.underlying28
 a232:=Tryz.isAgg28
 z232:=Tryz.sizeOf28
 v232:=Tryz.zeroValue28
 t233:=Tryz.underlying202
 a233:=Tryz.isAgg202
 z233:=Tryz.sizeOf202
 v233:=Tryz.zeroValue202
 g17:=by kernel_rfl
 g18:=by kernel_rfl
 g19:=by kernel_rfl
 i0:=by kernel_rfl
 i2:=by kernel_rfl
 i3:=by kernel_rfl
 i4:=by kernel_rfl
 i5:=by kernel_rfl
 i9:=by kernel_rfl
 i20:=by kernel_rfl
 i37:=by kernel_rfl
 i46:=by kernel_rfl
 i51:=by kernel_rfl
 i53:=by kernel_rfl
 i171:=by kernel_rfl
 i173:=by kernel_rfl
 i212:=by kernel_rfl
 i232:=by kernel_rfl
 i233:=by kernel_rfl
 m17:=by kernel_rfl
 m18:=by kernel_rfl
 m19:=by kernel_rfl }
open Go.RowKit Go.Sort Go.Lib in
theorem Tryz.strconv_Itoa (n : Int) (h0 : -9223372036854775808 ≤ n) (h1 : n ≤ 9223372036854775807) (w : World) (htab : Lib.TabIs Tryz.prog w "internal/strconv.uint64pow10" .u64 Lib.pow10Tab) :
  Calls Tryz.prog 38 #[.int .i64 n] w fun e w'=>e=.returned (.string ⟨(Lib.itoa n).toArray⟩)∧∃k os,w'=grow (w.drewN k) os:=Any.strconv_Itoa Tryz.laysM171 n h0 h1 w htab
def Tryz.laysC172_ren:Go.Shelf.Ren:=⟨fun | 172=>46 | 244=>70 | 245=>71 | 247=>97 | 279=>98 | 280=>99 | 281=>100 | 282=>101 | 287=>121 | 316=>122 | 171=>38 | 205=>123 | 321=>137 | 322=>138 | 243=>63 | 246=>89 | 283=>109 | 284=>110 | 285=>111 | 286=>112 | 129=>131 | 317=>130 | 318=>132 | 319=>133 | 320=>134 | 337=>142 | 338=>143 | n=>n,fun | 9=>9 | 3=>3 | 75=>60 | 76=>61 | 4=>4 | 5=>5 | 167=>154 | 37=>25 | 0=>0 | 85=>155 | 2=>2 | 168=>157 | 53=>163 | 175=>175 | 46=>145 | 210=>179 | 127=>101 | 145=>197 | 143=>195 | 21=>21 | 171=>162 | 173=>166 | 212=>187 | 51=>172 | 20=>20 | 213=>188 | 232=>28 | 233=>202 | 80=>64 | n=>n,fun | 15=>1 | 16=>2 | 17=>3 | 18=>4 | 19=>5 | n=>n⟩
theorem Tryz.laysC172:Go.Proofs.LaysC.n172 Tryz.prog Tryz.laysC172_ren := {
 mixed:=by kernel_rfl
 f129:=Tryz.func131.trans (congrArg some (by kernel_rfl))
 f171:=Tryz.func38.trans (congrArg some (by kernel_rfl))
 f172:=Tryz.func46.trans (congrArg some (by kernel_rfl))
 f205:=Tryz.func123.trans (congrArg some (by kernel_rfl))
 f243:=Tryz.func63.trans (congrArg some (by kernel_rfl))
 f244:=Tryz.func70.trans (congrArg some (by kernel_rfl))
 f245:=Tryz.func71.trans (congrArg some (by kernel_rfl))
 f246:=Tryz.func89.trans (congrArg some (by kernel_rfl))
 f247:=Tryz.func97.trans (congrArg some (by kernel_rfl))
 f279:=Tryz.func98.trans (congrArg some (by kernel_rfl))
 f280:=Tryz.func99.trans (congrArg some (by kernel_rfl))
 f281:=Tryz.func100.trans (congrArg some (by kernel_rfl))
 f282:=Tryz.func101.trans (congrArg some (by kernel_rfl))
 f283:=Tryz.func109.trans (congrArg some (by kernel_rfl))
 f284:=Tryz.func110.trans (congrArg some (by kernel_rfl))
 f285:=Tryz.func111.trans (congrArg some (by kernel_rfl))
 f286:=Tryz.func112.trans (congrArg some (by kernel_rfl))
 f287:=Tryz.func121.trans (congrArg some (by kernel_rfl))
 f316:=Tryz.func122.trans (congrArg some (by kernel_rfl))
 f317:=Tryz.func130.trans (congrArg some (by kernel_rfl))
 f318:=Tryz.func132.trans (congrArg some (by kernel_rfl))
 f319:=Tryz.func133.trans (congrArg some (by kernel_rfl))
 f320:=Tryz.func134.trans (congrArg some (by kernel_rfl))
 f321:=Tryz.func137.trans (congrArg some (by kernel_rfl))
 f322:=Tryz.func138.trans (congrArg some (by kernel_rfl))
 f337:=Tryz.func142.trans (congrArg some (by kernel_rfl))
 f338:=Tryz.func143.trans (congrArg some (by kernel_rfl))
 t0:=Tryz.underlying0
 a0:=Tryz.isAgg0
 z0:=Tryz.sizeOf0
 v0:=Tryz.zeroValue0
 t2:=Tryz.underlying2
 a2:=Tryz.isAgg2
 z2:=Tryz.sizeOf2
 v2:=Tryz.zeroValue2
 t3:=Tryz.underlying3
 a3:=Tryz.isAgg3
 z3:=Tryz.sizeOf3
 v3:=Tryz.zeroValue3
 t4:=Tryz.underlying4
 a4:=Tryz.isAgg4
 z4:=Tryz.sizeOf4
 v4:=Tryz.zeroValue4
 t5:=Tryz.underlying5
 a5:=Tryz.isAgg5
 z5:=Tryz.sizeOf5
 v5:=Tryz.zeroValue5
 t9:=Tryz.underlying9
 a9:=Tryz.isAgg9
 z9:=Tryz.sizeOf9
 v9:=Tryz.zeroValue9
 t20:=Tryz.underlying20
 a20:=Tryz.isAgg20
 z20:=Tryz.sizeOf20
 v20:=Tryz.zeroValue20
 t21:=Tryz.underlying21
 a21:=Tryz.isAgg21
 z21:=Tryz.sizeOf21
 v21:=Tryz.zeroValue21
 t37:=Tryz.underlying25
 a37:=Tryz.isAgg25
 z37:=Tryz.sizeOf25
 v37:=Tryz.zeroValue25
 t46:=Tryz.underlying145
 a46:=Tryz.isAgg145
 z46:=Tryz.sizeOf145
 v46:=Tryz.zeroValue145
 t51:=Tryz.underlying172
 a51:=Tryz.isAgg172
 z51:=Tryz.sizeOf172
 v51:=Tryz.zeroValue172
 t53:=Tryz.underlying163
 a53:=Tryz.isAgg163
 z53:=Tryz.sizeOf163
 v53:=Tryz.zeroValue163
 t75:=Tryz.underlying60
 a75:=Tryz.isAgg60
 z75:=Tryz.sizeOf60
 v75:=Tryz.zeroValue60
 t76:=Tryz.underlying61
 a76:=Tryz.isAgg61
 z76:=Tryz.sizeOf61
 v76:=Tryz.zeroValue61
 t85:=Tryz.underlying155
 a85:=Tryz.isAgg155
 z85:=Tryz.sizeOf155
 v85:=Tryz.zeroValue155
 t127:=Tryz.underlying101
 a127:=Tryz.isAgg101
 z127:=Tryz.sizeOf101
 v127:=Tryz.zeroValue101
 t143:=Tryz.underlying195
 a143:=Tryz.isAgg195
 z143:=Tryz.sizeOf195
 v143:=Tryz.zeroValue195
 t145:=Tryz.underlying197
 a145:=Tryz.isAgg197
 z145:=Tryz.sizeOf197
 v145:=Tryz.zeroValue197
 t167:=Tryz.underlying154
 a167:=Tryz.isAgg154
 z167:=Tryz.sizeOf154
 v167:=Tryz.zeroValue154
 t168:=Tryz.underlying157
 a168:=Tryz.isAgg157
 z168:=Tryz.sizeOf157
 v168:=Tryz.zeroValue157
 t171:=Tryz.underlying162
 a171:=Tryz.isAgg162
 z171:=Tryz.sizeOf162
 v171:=Tryz.zeroValue162
 t173:=Tryz.underlying166
 a173:=Tryz.isAgg166
 z173:=Tryz.sizeOf166
 v173:=Tryz.zeroValue166
 t175:=Tryz.underlying175
 a175:=Tryz.isAgg175
 z175:=Tryz.sizeOf175
 v175:=Tryz.zeroValue175
 t210:=Tryz.underlying179
 a210:=Tryz.isAgg179
 z210:=Tryz.sizeOf179
 v210:=Tryz.zeroValue179
 t212:=Tryz.underlying187
 a212:=Tryz.isAgg187
 z212:=Tryz.sizeOf187
 v212:=Tryz.zeroValue187
 t213:=Tryz.underlying188
 a213:=Tryz.isAgg188
 z213:=Tryz.sizeOf188
 t232:=Tryz.underlying28
 a232:=Tryz.isAgg28
 z232:=Tryz.sizeOf28
 v232:=Tryz.zeroValue28
 t233:=Tryz.underlying202
 a233:=Tryz.isAgg202
 z233:=Tryz.sizeOf202
 v233:=Tryz.zeroValue202
 g15:=by kernel_rfl
 g16:=by kernel_rfl
 g17:=by kernel_rfl
 g18:=by kernel_rfl
 g19:=by kernel_rfl
 t80:=Tryz.underlying64
 a80:=Tryz.isAgg64
 z80:=Tryz.sizeOf64
 v80:=Tryz.zeroValue64
 i0:=by kernel_rfl
 i2:=by kernel_rfl
 i3:=by kernel_rfl
 i4:=by kernel_rfl
 i5:=by kernel_rfl
 i9:=by kernel_rfl
 i20:=by kernel_rfl
 i21:=by kernel_rfl
 i37:=by kernel_rfl
 i46:=by kernel_rfl
 i51:=by kernel_rfl
 i53:=by kernel_rfl
 i75:=by kernel_rfl
 i76:=by kernel_rfl
 i80:=by kernel_rfl
 i85:=by kernel_rfl
 i127:=by kernel_rfl
 i143:=by kernel_rfl
 i145:=by kernel_rfl
 i167:=by kernel_rfl
 i168:=by kernel_rfl
 i171:=by kernel_rfl
 i173:=by kernel_rfl
 i175:=by kernel_rfl
 i210:=by kernel_rfl
 i212:=by kernel_rfl
 i232:=by kernel_rfl
 i233:=by kernel_rfl
 m15:=by kernel_rfl
 m16:=by kernel_rfl
 m17:=by kernel_rfl
 m18:=by kernel_rfl
 m19:=by kernel_rfl
 c0:=by kernel_rfl
 c2:=by kernel_rfl
 c3:=by kernel_rfl
 c4:=by kernel_rfl
 c5:=by kernel_rfl
 c9:=by kernel_rfl
 c20:=by kernel_rfl
 c21:=by kernel_rfl
 c37:=by kernel_rfl
 c46:=by kernel_rfl
 c51:=by kernel_rfl
 c53:=by kernel_rfl
 c75:=by kernel_rfl
 c76:=by kernel_rfl
 c80:=by kernel_rfl
 c85:=by kernel_rfl
 c127:=by kernel_rfl
 c143:=by kernel_rfl
 c145:=by kernel_rfl
 c167:=by kernel_rfl
 c168:=by kernel_rfl
 c171:=by kernel_rfl
 c173:=by kernel_rfl
 c175:=by kernel_rfl
 c210:=by kernel_rfl
 c212:=by kernel_rfl
 c213:=by kernel_rfl
 c232:=by kernel_rfl
 c233:=by kernel_rfl }
open Go.RowKit in
theorem Tryz.strconv_Atoi_ok (s:ByteArray) (hmax:s.size≤9223372036854775806) (v:Int) (h:Lib.atoiAll s.data.toList=.ok v) (w:World) :
  Calls Tryz.prog 46 #[.string s] w fun e w'=>e=.returned (.tuple #[.int .i64 v,.nilIface])∧(w'=w∨∃t,w'=Lib.bytesWorld w 5 t):=Any.strconv_Atoi_ok Tryz.laysC172 s hmax v h w
open Go.RowKit in
theorem Tryz.strconv_Atoi_syntax (s:ByteArray) (hlim:s.size≤281474976710656) (h:Lib.atoiAll s.data.toList=Lib.atoiAll []) (ev:Value) (w:World) (hv:w.cell? ⟨1,0,none⟩=some ev) (hev:ev=.nilIface∨∃te pe,ev=.iface te pe) :
  Calls Tryz.prog 46 #[.string s] w fun e w'=>∃N,e=.returned (.tuple #[.int .i64 (0),.iface 157 (.pointer (some ⟨N,0,none⟩))])∧w.heap.size≤N∧w'.heap[N]?=some (.cells #[.string ⟨#[65,116,111,105]⟩,.string s,ev] 179 (0,0))∧Below w.heap.size w w':=Any.strconv_Atoi_syntax Tryz.laysC172 s hlim h ev w hv hev
open Go.RowKit in
theorem Tryz.strconv_Atoi_range (s:ByteArray) (hlim:s.size≤281474976710656) (h:Lib.atoiAll s.data.toList=.range) (ev:Value) (w:World) (hv:w.cell? ⟨2,0,none⟩=some ev) (hev:ev=.nilIface∨∃te pe,ev=.iface te pe) :
  Calls Tryz.prog 46 #[.string s] w fun e w'=>∃N,e=.returned (.tuple #[.int .i64 (Lib.atoiSat s.data.toList),.iface 157 (.pointer (some ⟨N,0,none⟩))])∧w.heap.size≤N∧w'.heap[N]?=some (.cells #[.string ⟨#[65,116,111,105]⟩,.string s,ev] 179 (0,0))∧Below w.heap.size w w':=Any.strconv_Atoi_range Tryz.laysC172 s hlim h ev w hv hev
def Tryz.laysPu14_ren:Go.Shelf.Ren:=⟨fun | 14=>124 | 16=>121 | 17=>71 | 19=>137 | 20=>138 | 21=>98 | 22=>99 | 23=>100 | 24=>101 | 25=>122 | 27=>38 | 26=>123 | 28=>63 | 29=>89 | 30=>109 | 31=>110 | 32=>111 | 33=>112 | 35=>131 | 34=>130 | 36=>132 | 37=>133 | 38=>134 | 39=>142 | 40=>143 | n=>n,fun | 9=>9 | 3=>3 | 22=>163 | 24=>60 | 25=>175 | 4=>4 | 34=>154 | 5=>5 | 36=>145 | 37=>25 | 0=>0 | 39=>157 | 21=>21 | 44=>179 | 47=>101 | 50=>197 | 48=>195 | 2=>2 | 52=>162 | 55=>166 | 59=>187 | 60=>172 | 20=>20 | 61=>188 | 65=>28 | 66=>202 | 67=>64 | n=>n,fun | 0=>1 | 1=>2 | 2=>3 | 3=>4 | 4=>5 | n=>n⟩
theorem Tryz.laysPu14:Go.Proofs.LaysPu.n14 Tryz.prog Tryz.laysPu14_ren := {
 mixed:=by kernel_rfl
 f14:=Tryz.func124.trans (congrArg some (by kernel_rfl))
 f16:=Tryz.func121.trans (congrArg some (by kernel_rfl))
 f17:=Tryz.func71.trans (congrArg some (by kernel_rfl))
 f19:=Tryz.func137.trans (congrArg some (by kernel_rfl))
 f20:=Tryz.func138.trans (congrArg some (by kernel_rfl))
 f21:=Tryz.func98.trans (congrArg some (by kernel_rfl))
 f22:=Tryz.func99.trans (congrArg some (by kernel_rfl))
 f23:=Tryz.func100.trans (congrArg some (by kernel_rfl))
 f24:=Tryz.func101.trans (congrArg some (by kernel_rfl))
 f25:=Tryz.func122.trans (congrArg some (by kernel_rfl))
 f26:=Tryz.func123.trans (congrArg some (by kernel_rfl))
 f27:=Tryz.func38.trans (congrArg some (by kernel_rfl))
 f28:=Tryz.func63.trans (congrArg some (by kernel_rfl))
 f29:=Tryz.func89.trans (congrArg some (by kernel_rfl))
 f30:=Tryz.func109.trans (congrArg some (by kernel_rfl))
 f31:=Tryz.func110.trans (congrArg some (by kernel_rfl))
 f32:=Tryz.func111.trans (congrArg some (by kernel_rfl))
 f33:=Tryz.func112.trans (congrArg some (by kernel_rfl))
 f34:=Tryz.func130.trans (congrArg some (by kernel_rfl))
 f35:=Tryz.func131.trans (congrArg some (by kernel_rfl))
 f36:=Tryz.func132.trans (congrArg some (by kernel_rfl))
 f37:=Tryz.func133.trans (congrArg some (by kernel_rfl))
 f38:=Tryz.func134.trans (congrArg some (by kernel_rfl))
 f39:=Tryz.func142.trans (congrArg some (by kernel_rfl))
 f40:=Tryz.func143.trans (congrArg some (by kernel_rfl))
 t0:=Tryz.underlying0
 a0:=Tryz.isAgg0
 z0:=Tryz.sizeOf0
 v0:=Tryz.zeroValue0
 i0:=by kernel_rfl
 t2:=Tryz.underlying2
 a2:=Tryz.isAgg2
 z2:=Tryz.sizeOf2
 v2:=Tryz.zeroValue2
 i2:=by kernel_rfl
 t3:=Tryz.underlying3
 a3:=Tryz.isAgg3
 z3:=Tryz.sizeOf3
 v3:=Tryz.zeroValue3
 i3:=by kernel_rfl
 t4:=Tryz.underlying4
 a4:=Tryz.isAgg4
 z4:=Tryz.sizeOf4
 v4:=Tryz.zeroValue4
 i4:=by kernel_rfl
 t5:=Tryz.underlying5
 a5:=Tryz.isAgg5
 z5:=Tryz.sizeOf5
 v5:=Tryz.zeroValue5
 i5:=by kernel_rfl
 t9:=Tryz.underlying9
 a9:=Tryz.isAgg9
 z9:=Tryz.sizeOf9
 v9:=Tryz.zeroValue9
 i9:=by kernel_rfl
 t20:=Tryz.underlying20
 a20:=Tryz.isAgg20
 z20:=Tryz.sizeOf20
 v20:=Tryz.zeroValue20
 i20:=by kernel_rfl
 t21:=Tryz.underlying21
 a21:=Tryz.isAgg21
 z21:=Tryz.sizeOf21
 v21:=Tryz.zeroValue21
 i21:=by kernel_rfl
 t22:=Tryz.underlying163
 a22:=Tryz.isAgg163
 z22:=Tryz.sizeOf163
 v22:=Tryz.zeroValue163
 i22:=by kernel_rfl
 t24:=Tryz.underlying60
 a24:=Tryz.isAgg60
 z24:=Tryz.sizeOf60
 v24:=Tryz.zeroValue60
 i24:=by kernel_rfl
 t25:=Tryz.underlying175
 a25:=Tryz.isAgg175
 z25:=Tryz.sizeOf175
 v25:=Tryz.zeroValue175
 i25:=by kernel_rfl
 t34:=Tryz.underlying154
 a34:=Tryz.isAgg154
 z34:=Tryz.sizeOf154
 v34:=Tryz.zeroValue154
 i34:=by kernel_rfl
 c34:=by kernel_rfl
 t36:=Tryz.underlying145
 a36:=Tryz.isAgg145
 z36:=Tryz.sizeOf145
 v36:=Tryz.zeroValue145
 i36:=by kernel_rfl
 t37:=Tryz.underlying25
 a37:=Tryz.isAgg25
 z37:=Tryz.sizeOf25
 v37:=Tryz.zeroValue25
 i37:=by kernel_rfl
 t39:=Tryz.underlying157
 a39:=Tryz.isAgg157
 z39:=Tryz.sizeOf157
 v39:=Tryz.zeroValue157
 i39:=by kernel_rfl
 t44:=Tryz.underlying179
 a44:=Tryz.isAgg179
 z44:=Tryz.sizeOf179
 v44:=Tryz.zeroValue179
 i44:=by kernel_rfl
 t47:=Tryz.underlying101
 a47:=Tryz.isAgg101
 z47:=Tryz.sizeOf101
 v47:=Tryz.zeroValue101
 i47:=by kernel_rfl
 t48:=Tryz.underlying195
 a48:=Tryz.isAgg195
 z48:=Tryz.sizeOf195
 v48:=Tryz.zeroValue195
 i48:=by kernel_rfl
 t50:=Tryz.underlying197
 a50:=Tryz.isAgg197
 z50:=Tryz.sizeOf197
 v50:=Tryz.zeroValue197
 i50:=by kernel_rfl
 t52:=Tryz.underlying162
 a52:=Tryz.isAgg162
 z52:=Tryz.sizeOf162
 v52:=Tryz.zeroValue162
 i52:=by kernel_rfl
 t55:=Tryz.underlying166
 a55:=Tryz.isAgg166
 z55:=Tryz.sizeOf166
 v55:=Tryz.zeroValue166
 i55:=by kernel_rfl
 t59:=Tryz.underlying187
 a59:=Tryz.isAgg187
 z59:=Tryz.sizeOf187
 v59:=Tryz.zeroValue187
 i59:=by kernel_rfl
 t60:=Tryz.underlying172
 a60:=Tryz.isAgg172
 z60:=Tryz.sizeOf172
 v60:=Tryz.zeroValue172
 i60:=by kernel_rfl
 t61:=Tryz.underlying188
 a61:=Tryz.isAgg188
 z61:=Tryz.sizeOf188
 t65:=Tryz.underlying28
 a65:=Tryz.isAgg28
 z65:=Tryz.sizeOf28
 v65:=Tryz.zeroValue28
 i65:=by kernel_rfl
 t66:=Tryz.underlying202
 a66:=Tryz.isAgg202
 z66:=Tryz.sizeOf202
 v66:=Tryz.zeroValue202
 i66:=by kernel_rfl
 t67:=Tryz.underlying64
 a67:=Tryz.isAgg64
 z67:=Tryz.sizeOf64
 v67:=Tryz.zeroValue64
 i67:=by kernel_rfl
 g0:=by kernel_rfl
 m0:=by kernel_rfl
 g1:=by kernel_rfl
 m1:=by kernel_rfl
 g2:=by kernel_rfl
 m2:=by kernel_rfl
 g3:=by kernel_rfl
 m3:=by kernel_rfl
 g4:=by kernel_rfl
 m4:=by kernel_rfl }
open Go.RowKit in
theorem Tryz.strconv_ParseUint_10_at8_ok (s:ByteArray) (hmax:s.size≤9223372036854775806) (u:Nat) (h:Lib.parseUintB 8 s.data.toList=.ok u) (w:World) :
  Calls Tryz.prog 124 #[.string s,.int .i64 10,.int .i64 8] w fun e w'=>e=.returned (.tuple #[.int .u64 u,.nilIface])∧(w'=w∨w'=Lib.bytesWorld w 5 s):=Any.strconv_ParseUint_10_at8_ok Tryz.laysPu14 s hmax u h w
open Go.RowKit in
theorem Tryz.strconv_ParseUint_10_at8_syntax (s:ByteArray) (hlim:s.size≤281474976710656) (h:Lib.parseUintB 8 s.data.toList=Lib.parseUintB 8 []) (ev:Value) (w:World) (hv:w.cell? ⟨1,0,none⟩=some ev) (hev:ev=.nilIface∨∃te pe,ev=.iface te pe) :
  Calls Tryz.prog 124 #[.string s,.int .i64 10,.int .i64 8] w fun e w'=>∃N,e=.returned (.tuple #[.int .u64 0,.iface 157 (.pointer (some ⟨N,0,none⟩))])∧w.heap.size≤N∧w'.heap[N]?=some (.cells #[.string ⟨#[80,97,114,115,101,85,105,110,116]⟩,.string s,ev] 179 (0,0))∧Below w.heap.size w w':=Any.strconv_ParseUint_10_at8_syntax Tryz.laysPu14 s hlim h ev w hv hev
open Go.RowKit in
theorem Tryz.strconv_ParseUint_10_at8_range (s:ByteArray) (hlim:s.size≤281474976710656) (h:Lib.parseUintB 8 s.data.toList=.range) (ev:Value) (w:World) (hv:w.cell? ⟨2,0,none⟩=some ev) (hev:ev=.nilIface∨∃te pe,ev=.iface te pe) :
  Calls Tryz.prog 124 #[.string s,.int .i64 10,.int .i64 8] w fun e w'=>∃N,e=.returned (.tuple #[.int .u64 255,.iface 157 (.pointer (some ⟨N,0,none⟩))])∧w.heap.size≤N∧w'.heap[N]?=some (.cells #[.string ⟨#[80,97,114,115,101,85,105,110,116]⟩,.string s,ev] 179 (0,0))∧Below w.heap.size w w':=Any.strconv_ParseUint_10_at8_range Tryz.laysPu14 s hlim h ev w hv hev
def Tryz.lays219_ren:Go.Shelf.Ren:=⟨fun | 219=>69 | 217=>93 | 225=>94 | 224=>95 | 267=>96 | 266=>119 | 314=>120 | n=>n,fun | 9=>9 | 3=>3 | 4=>4 | 5=>5 | 46=>145 | 146=>173 | 51=>172 | n=>n,fun | 1=>0 | n=>n⟩
def Tryz.lays145_ren:Go.Shelf.Ren:=⟨fun | 145=>18 | 220=>45 | 219=>69 | 217=>93 | 225=>94 | 224=>95 | 267=>96 | 266=>119 | 314=>120 | n=>n,fun | 9=>9 | 4=>4 | 59=>70 | 3=>3 | 5=>5 | 46=>145 | 146=>173 | 51=>172 | n=>n,fun | 1=>0 | n=>n⟩
theorem Tryz.lays145:Go.Proofs.Lays.n145 Tryz.prog Tryz.lays145_ren := {
 mixed:=by kernel_rfl
 f145:=Tryz.func18.trans (congrArg some (by kernel_rfl))
 f217:=Tryz.func93.trans (congrArg some (by kernel_rfl))
 f219:=Tryz.func69.trans (congrArg some (by kernel_rfl))
 f220:=Tryz.func45.trans (congrArg some (by kernel_rfl))
 f224:=Tryz.func95.trans (congrArg some (by kernel_rfl))
 f225:=Tryz.func94.trans (congrArg some (by kernel_rfl))
 f266:=Tryz.func119.trans (congrArg some (by kernel_rfl))
 f267:=Tryz.func96.trans (congrArg some (by kernel_rfl))
 f314:=Tryz.func120.trans (congrArg some (by kernel_rfl))
 t3:=Tryz.underlying3
 a3:=Tryz.isAgg3
 z3:=Tryz.sizeOf3
 v3:=Tryz.zeroValue3
 t4:=Tryz.underlying4
 a4:=Tryz.isAgg4
 z4:=Tryz.sizeOf4
 v4:=Tryz.zeroValue4
 t5:=Tryz.underlying5
 a5:=Tryz.isAgg5
 z5:=Tryz.sizeOf5
 v5:=Tryz.zeroValue5
 t9:=Tryz.underlying9
 a9:=Tryz.isAgg9
 z9:=Tryz.sizeOf9
 v9:=Tryz.zeroValue9
 t46:=Tryz.underlying145
 a46:=Tryz.isAgg145
 z46:=Tryz.sizeOf145
 v46:=Tryz.zeroValue145
 t51:=Tryz.underlying172
 a51:=Tryz.isAgg172
 z51:=Tryz.sizeOf172
 v51:=Tryz.zeroValue172
 t59:=Tryz.underlying70
 a59:=Tryz.isAgg70
 z59:=Tryz.sizeOf70
 v59:=Tryz.zeroValue70
 t146:=Tryz.underlying173
 a146:=Tryz.isAgg173
 z146:=Tryz.sizeOf173
 v146:=Tryz.zeroValue173
 g1:=by kernel_rfl }
open Go.RowKit Go.Lib in
theorem Tryz.strings_Cut (s sep:ByteArray) (m:Int) (w:World) (hs:s.size<4294967281) (hm:w.cell? ⟨0,0,none⟩=some (.int .i64 m)) :
  Calls Tryz.prog 18 #[.string s,.string sep] w fun e w'=>e=.returned (.tuple #[.string ⟨(Lib.cut s.data.toList sep.data.toList).1.toArray⟩,.string ⟨(Lib.cut s.data.toList sep.data.toList).2.1.toArray⟩,.bool (Lib.cut s.data.toList sep.data.toList).2.2])∧∃n,w'=w.drewN n:=Any.strings_Cut Tryz.lays145 s sep m w hs hm
def Tryz.lays206_ren:Go.Shelf.Ren:=⟨fun | 206=>118 | n=>n,fun | 9=>9 | 4=>4 | 3=>3 | n=>n,fun | n=>n⟩
def Tryz.lays101_ren:Go.Shelf.Ren:=⟨fun | 101=>66 | 208=>92 | 206=>118 | n=>n,fun | 9=>9 | 4=>4 | 3=>3 | n=>n,fun | n=>n⟩
theorem Tryz.lays101:Go.Proofs.Lays.n101 Tryz.prog Tryz.lays101_ren := {
 mixed:=by kernel_rfl
 f101:=Tryz.func66.trans (congrArg some (by kernel_rfl))
 f206:=Tryz.func118.trans (congrArg some (by kernel_rfl))
 f208:=Tryz.func92.trans (congrArg some (by kernel_rfl))
 t3:=Tryz.underlying3
 a3:=Tryz.isAgg3
 z3:=Tryz.sizeOf3
 v3:=Tryz.zeroValue3
 t4:=Tryz.underlying4
 a4:=Tryz.isAgg4
 z4:=Tryz.sizeOf4
 v4:=Tryz.zeroValue4
 t9:=Tryz.underlying9
 a9:=Tryz.isAgg9
 z9:=Tryz.sizeOf9
 v9:=Tryz.zeroValue9 }
open Go.RowKit Go.Lib in
theorem Tryz.strings_TrimPrefix (s p:ByteArray) (w:World) :
  Calls Tryz.prog 66 #[.string s,.string p] w fun e w'=>e=.returned (.string ⟨(Lib.trimPrefix s.data.toList p.data.toList).toArray⟩)∧w'=w:=Any.strings_TrimPrefix Tryz.lays101 s p w
def Tryz.lays102_ren:Go.Shelf.Ren:=⟨fun | 102=>65 | 209=>91 | 207=>117 | n=>n,fun | 9=>9 | 4=>4 | 3=>3 | n=>n,fun | n=>n⟩
theorem Tryz.lays102:Go.Proofs.Lays.n102 Tryz.prog Tryz.lays102_ren := {
 mixed:=by kernel_rfl
 f102:=Tryz.func65.trans (congrArg some (by kernel_rfl))
 f207:=Tryz.func117.trans (congrArg some (by kernel_rfl))
 f209:=Tryz.func91.trans (congrArg some (by kernel_rfl))
 t3:=Tryz.underlying3
 a3:=Tryz.isAgg3
 z3:=Tryz.sizeOf3
 v3:=Tryz.zeroValue3
 t4:=Tryz.underlying4
 a4:=Tryz.isAgg4
 z4:=Tryz.sizeOf4
 v4:=Tryz.zeroValue4
 t9:=Tryz.underlying9
 a9:=Tryz.isAgg9
 z9:=Tryz.sizeOf9
 v9:=Tryz.zeroValue9 }
open Go.RowKit Go.Lib in
theorem Tryz.strings_TrimSuffix (s p:ByteArray) (w:World) (hs:s.size≤9223372036854775807) :
  Calls Tryz.prog 65 #[.string s,.string p] w fun e w'=>e=.returned (.string ⟨(Lib.trimSuffix s.data.toList p.data.toList).toArray⟩)∧w'=w:=Any.strings_TrimSuffix Tryz.lays102 s p w hs
def Tryz.lays221_ren:Go.Shelf.Ren:=⟨fun | 221=>107 | 268=>127 | 138=>128 | 143=>129 | 195=>139 | 197=>140 | 218=>141 | 219=>69 | 260=>144 | 217=>93 | 225=>94 | 224=>95 | 267=>96 | 266=>119 | 314=>120 | n=>n,fun | 9=>9 | 3=>3 | 31=>94 | 4=>4 | 0=>0 | 105=>199 | 21=>21 | 5=>5 | 46=>145 | 119=>203 | 139=>206 | 138=>205 | 146=>173 | 51=>172 | n=>n,fun | 1=>0 | 3=>6 | 4=>7 | n=>n⟩
def Tryz.lays146_ren:Go.Shelf.Ren:=⟨fun | 146=>74 | 221=>107 | 268=>127 | 138=>128 | 143=>129 | 195=>139 | 197=>140 | 218=>141 | 219=>69 | 260=>144 | 217=>93 | 225=>94 | 224=>95 | 267=>96 | 266=>119 | 314=>120 | n=>n,fun | 9=>9 | 31=>94 | 3=>3 | 4=>4 | 0=>0 | 105=>199 | 21=>21 | 5=>5 | 46=>145 | 119=>203 | 139=>206 | 138=>205 | 146=>173 | 51=>172 | n=>n,fun | 1=>0 | 3=>6 | 4=>7 | n=>n⟩
theorem Tryz.lays146:Go.Proofs.Lays.n146 Tryz.prog Tryz.lays146_ren := {
 mixed:=by kernel_rfl
 f138:=Tryz.func128.trans (congrArg some (by kernel_rfl))
 f143:=Tryz.func129.trans (congrArg some (by kernel_rfl))
 f146:=Tryz.func74.trans (congrArg some (by kernel_rfl))
 f195:=Tryz.func139.trans (congrArg some (by kernel_rfl))
 f197:=Tryz.func140.trans (congrArg some (by kernel_rfl))
 f217:=Tryz.func93.trans (congrArg some (by kernel_rfl))
 f218:=Tryz.func141.trans (congrArg some (by kernel_rfl))
 f219:=Tryz.func69.trans (congrArg some (by kernel_rfl))
 f221:=Tryz.func107.trans (congrArg some (by kernel_rfl))
 f224:=Tryz.func95.trans (congrArg some (by kernel_rfl))
 f225:=Tryz.func94.trans (congrArg some (by kernel_rfl))
 f260:=Tryz.func144.trans (congrArg some (by kernel_rfl))
 f266:=Tryz.func119.trans (congrArg some (by kernel_rfl))
 f267:=Tryz.func96.trans (congrArg some (by kernel_rfl))
 f268:=Tryz.func127.trans (congrArg some (by kernel_rfl))
 f314:=Tryz.func120.trans (congrArg some (by kernel_rfl))
 t0:=Tryz.underlying0
 a0:=Tryz.isAgg0
 z0:=Tryz.sizeOf0
 v0:=Tryz.zeroValue0
 t3:=Tryz.underlying3
 a3:=Tryz.isAgg3
 z3:=Tryz.sizeOf3
 v3:=Tryz.zeroValue3
 t4:=Tryz.underlying4
 a4:=Tryz.isAgg4
 z4:=Tryz.sizeOf4
 v4:=Tryz.zeroValue4
 t5:=Tryz.underlying5
 a5:=Tryz.isAgg5
 z5:=Tryz.sizeOf5
 v5:=Tryz.zeroValue5
 t9:=Tryz.underlying9
 a9:=Tryz.isAgg9
 z9:=Tryz.sizeOf9
 v9:=Tryz.zeroValue9
 t21:=Tryz.underlying21
 a21:=Tryz.isAgg21
 z21:=Tryz.sizeOf21
 v21:=Tryz.zeroValue21
 t31:=Tryz.underlying94
 a31:=Tryz.isAgg94
 z31:=Tryz.sizeOf94
 v31:=Tryz.zeroValue94
 t46:=Tryz.underlying145
 a46:=Tryz.isAgg145
 z46:=Tryz.sizeOf145
 v46:=Tryz.zeroValue145
 t51:=Tryz.underlying172
 a51:=Tryz.isAgg172
 z51:=Tryz.sizeOf172
 v51:=Tryz.zeroValue172
 t105:=Tryz.underlying199
 a105:=Tryz.isAgg199
 z105:=Tryz.sizeOf199
 v105:=Tryz.zeroValue199
 t119:=Tryz.underlying203
 a119:=Tryz.isAgg203
 z119:=Tryz.sizeOf203
 t138:=Tryz.underlying205
 a138:=Tryz.isAgg205
 z138:=Tryz.sizeOf205
 v138:=Tryz.zeroValue205
 t139:=Tryz.underlying206
 a139:=Tryz.isAgg206
 z139:=Tryz.sizeOf206
 v139:=Tryz.zeroValue206
 t146:=Tryz.underlying173
 a146:=Tryz.isAgg173
 z146:=Tryz.sizeOf173
 v146:=Tryz.zeroValue173
 g1:=by kernel_rfl
 g3:=by kernel_rfl
 g4:=by kernel_rfl }
open Go.RowKit Go.Lib in
theorem Tryz.strings_Split (s sep:ByteArray) (m:Int) (w:World) (hs:s.size<4294967281) (hm:w.cell? ⟨0,0,none⟩=some (.int .i64 m)) (h1:1≤sep.size) :
  Calls Tryz.prog 74 #[.string s,.string sep] w fun e w' =>
   e=.returned (.slice (some ⟨w.heap.size,0,none⟩) (Lib.countB s sep+1) (Lib.countB s sep+1))∧w'=w.alloc (.cells ((Lib.splitB sep 0 (Lib.countB s sep) s).map Value.string).toArray 9):=Any.strings_Split Tryz.lays146 (by kernel_rfl) s sep m w hs hm h1
end Go.Proofs
namespace Go.Proofs.YtpjiiolnfbfcbaaGreatDoor
open Go.Eng Go.Plain Go.RowKit
set_option maxHeartbeats 32000000
set_option maxRecDepth 20000
theorem qp {w:World} (h:ju w):∃m,w.cell? ⟨0,0,none⟩=some (.int .i64 m):=by
 obtain⟨⟨m,t,fr,h1⟩,_⟩:=h _ (List.mem_cons_self ..)
 exact⟨m,by simp[World.cell?,h1]⟩
theorem ke {w:World} (h:ju w) (i:Nat) (hi:i=1∨i=2):∃ev,w.cell? ⟨i,0,none⟩=some ev∧(ev=.nilIface∨∃te pe,ev=.iface te pe):=by
 have hm:(i,la)∈nW:=by
  rcases hi with rfl | rfl
  ·exact .tail _ (.head _)
  ·exact .tail _ (.tail _ (.head _))
 obtain⟨⟨ev,t,fr,h1,h2⟩,_⟩:=h _ hm
 exact⟨ev,by simp only at h1; simp[World.cell?,h1],h2⟩
theorem v8 : Tryz.prog.globalNamed "internal/strconv.uint64pow10" = some 3 := by kernel_rfl
theorem wP {w : World} (h : ju w) : Lib.TabIs Tryz.prog w "internal/strconv.uint64pow10" .u64 Lib.pow10Tab := by
 obtain⟨⟨t,fr,h1⟩,_⟩:=h _ (.tail _ (.tail _ (.tail _ (.head _))))
 simp only at h1
 unfold Lib.TabIs World.var?
 rw[v8]
 simp only[Option.bind_some,h1]
theorem lK (w:World) (e:TypeId) (t:ByteArray):Below w.heap.size w (Lib.bytesWorld w e t):=Go.Joins.below_bytesWorld _ _ _ _ (Nat.le_refl _)
theorem sM (w:World) (q:Nat) (os:Array Obj):Below w.heap.size w (Sort.grow (w.drewN q) os):=
 ⟨rfl,rfl,rfl,by simp[Sort.grow],fun i hi=>by
  show ((w.drewN q).heap++os)[i]?=_
  rw[Array.getElem?_append_left (by show i<w.heap.size; omega)]
  rfl⟩
theorem dU {n:Int} (h0 : -9223372036854775808≤n) (h1:n≤9223372036854775807):FnIs Tryz.prog 38 [.int .i64 n] [] (.d (strD (Lib.itoa n))) []:=
 .of_calls1 rfl ⟨_,Tryz.func38,by kernel_rfl,by kernel_rfl⟩ fun σ w X vs ha hg=>by
  rw[ha.one]
  refine (Tryz.strconv_Itoa n h0 h1 w (wP hg)).mono ?_
  rintro e w' ⟨rfl,k,os,rfl⟩
  exact⟨rfl,sM _ _ _⟩
def db (l:List UInt8):Int:=match Lib.atoiAll l with
 | .ok v=>v
 | .range=>Lib.atoiSat l
 | _=>0
def okA {α:Type} (p:α→Bool) (x:α):AV:=bif p x then .d (.sc .nilIface) else .er
def cr (l:List UInt8):Bool:=match Lib.atoiAll l with
 | .ok _=>true
 | _=>false
def puOk (l:List UInt8):Bool:=match Lib.parseUintB 8 l with
 | .ok _=>true
 | _=>false
def puV (l:List UInt8):Int:=match Lib.parseUintB 8 l with
 | .ok u=>u
 | .range=>255
 | _=>0
def erA (b:Bool):AV:=bif b then .d (.sc .nilIface) else .er
theorem tH {l:List UInt8} (hl:l.length≤281474976710656):FnIs Tryz.prog 46 [.d (strD l)] [] (.tup (.acons (.int .i64 (db l)) (.acons (erA (cr l)) .anil))) []:=by
 refine .of_calls (fun G=>⟨trivial,by unfold erA; cases cr l <;> trivial,trivial⟩) ⟨_,Tryz.func46,by kernel_rfl,by kernel_rfl⟩ fun σ w X vs _ ha hg=>?_
 rw[ha.one]
 have hd:=cZ l
 have hsz:(mkS l).size≤281474976710656:=by rw[cz]; exact hl
 cases h:Lib.atoiAll l
 case ok v =>
  refine (Tryz.strconv_Atoi_ok (mkS l) (by omega) v (by rw[hd]; exact h) w).mono ?_
  rintro e w' ⟨rfl,hw⟩
  refine⟨_,rfl,?_,by simp only[db,cr,erA,h,cond_true]; exact pS rfl rfl⟩
  rcases hw with rfl | ⟨t,rfl⟩
  ·exact Below.refl _ _
  ·exact lK _ _ _
 case range =>
  obtain⟨ev,h1,h2⟩:=ke hg 2 (.inr rfl)
  refine (Tryz.strconv_Atoi_range (mkS l) hsz (by rw[hd]; exact h) ev w h1 h2).mono ?_
  rintro e w' ⟨N,rfl,_,_,hb⟩
  exact⟨_,rfl,hb,by simp only[db,cr,erA,h,cond_false]; rw[hd]; exact lZ rfl⟩
 next =>
  obtain⟨ev,h1,h2⟩:=ke hg 1 (.inl rfl)
  refine (Tryz.strconv_Atoi_syntax (mkS l) hsz (by rw[hd]; exact h) ev w h1 h2).mono ?_
  rintro e w' ⟨N,rfl,_,_,hb⟩
  exact⟨_,rfl,hb,by simp only[db,cr,erA,h,cond_false]; exact lZ rfl⟩
theorem Cb {l:List UInt8} (hl:l.length≤281474976710656):FnIs Tryz.prog 124 [.d (strD l),.int .i64 10,.int .i64 8] [] (.tup (.acons (.int .u64 (puV l)) (.acons (erA (puOk l)) .anil))) []:=by
 refine .of_calls (fun G=>⟨trivial,by unfold erA; cases puOk l <;> trivial,trivial⟩) ⟨_,Tryz.func124,by kernel_rfl,by kernel_rfl⟩ fun σ w X vs _ ha hg=>?_
 rw[ha.three]
 have hd:=cZ l
 have hsz:(mkS l).size≤281474976710656:=by rw[cz]; exact hl
 cases h:Lib.parseUintB 8 l
 case ok v =>
  refine (Tryz.strconv_ParseUint_10_at8_ok (mkS l) (by omega) v (by rw[hd]; exact h) w).mono ?_
  rintro e w' ⟨rfl,hw⟩
  refine⟨_,rfl,?_,by simp only[puV,puOk,erA,h,cond_true]; exact pS rfl rfl⟩
  rcases hw with rfl | rfl
  ·exact Below.refl _ _
  ·exact lK _ _ _
 case range =>
  obtain⟨ev,h1,h2⟩:=ke hg 2 (.inr rfl)
  refine (Tryz.strconv_ParseUint_10_at8_range (mkS l) hsz (by rw[hd]; exact h) ev w h1 h2).mono ?_
  rintro e w' ⟨N,rfl,_,_,hb⟩
  exact⟨_,rfl,hb,by simp only[puV,puOk,erA,h,cond_false]; exact lZ rfl⟩
 next =>
  obtain⟨ev,h1,h2⟩:=ke hg 1 (.inl rfl)
  refine (Tryz.strconv_ParseUint_10_at8_syntax (mkS l) hsz (by rw[hd]; exact h) ev w h1 h2).mono ?_
  rintro e w' ⟨N,rfl,_,_,hb⟩
  exact⟨_,rfl,hb,by simp only[puV,puOk,erA,h,cond_false]; exact lZ rfl⟩
def cutA (l:List UInt8) (c:UInt8):List UInt8×List UInt8×Bool:=match cutL l c with
 | none=>(l,[],false)
 | some (p,q)=>(p,q,true)
theorem kX {l:List UInt8} {c:UInt8} (hl:l.length<4294967281):FnIs Tryz.prog 18 [.d (strD l),.d (strD [c])] [] (.tup (.acons (.d (strD (cutA l c).1)) (.acons (.d (strD (cutA l c).2.1)) (.acons (.bool (cutA l c).2.2) .anil)))) []:=by
 refine .of_calls (fun G=>⟨trivial,trivial,trivial,trivial⟩) ⟨_,Tryz.func18,by kernel_rfl,by kernel_rfl⟩ fun σ w X vs _ ha hg=>?_
 rw[ha.two]
 obtain⟨m,hm⟩:=qp hg
 refine (Tryz.strings_Cut (mkS l) (mkS [c]) m w (by rw[cz]; exact hl) hm).mono ?_
 rintro e w' ⟨rfl,k,rfl⟩
 refine⟨_,rfl,Go.Joins.below_draws _ _ _,?_⟩
 have e1:Lib.cut (mkS l).data.toList (mkS [c]).data.toList=cutA l c:=by
  rw[cZ,cZ,yd]
  rfl
 rw[e1]
 exact vQ rfl rfl rfl
theorem ql {l:List UInt8} {c:Int}:FnIs Tryz.prog 80 [.d (strD l),.int .u8 c] [] (.int .i64 (Lib.indexByte l c.toNat.toUInt8)) []:=
 .of_calls1 rfl ⟨_,Tryz.func80,by kernel_rfl,by kernel_rfl⟩ fun σ w X vs ha hg=>by
  rw[ha.two]
  refine (Tryz.strings_IndexByte (mkS l) c w).mono ?_
  rintro e w' ⟨rfl,rfl⟩
  exact⟨by rw[cZ],Below.refl _ _⟩
theorem gb {l:List UInt8} {c:UInt8} (hl:l.length<4294967281):FnIs Tryz.prog 74 [.d (strD l),.d (strD [c])] [] (.d (.arr 1 strD (bS l c))) []:=by
 refine .of_calls (fun G=>trivial) ⟨_,Tryz.func74,by kernel_rfl,by kernel_rfl⟩ fun σ w X vs hX ha hg=>?_
 rw[ha.two]
 obtain⟨m,hm⟩:=qp hg
 refine (Tryz.strings_Split (mkS l) (mkS [c]) m w (by rw[cz]; exact hl) hm (by rw[cz]; exact Nat.le_refl 1)).mono ?_
 rintro e w' ⟨rfl,rfl⟩
 obtain⟨h1,h2⟩:=uC (c:=c) l.length l (Nat.le_refl _)
 rw[h1,h2]
 have hlen:(bS l c).length≤l.length+1:=jB l c
 refine⟨_,rfl,Go.Joins.below_alloc1 _ _,RelV.arr.2 (.inr ⟨_,_,rfl,Nat.le_refl _,by unfold maxLen; omega,fun i=>[.string (mkS ((bS l c).getD i []))],fun i hi=>⟨?_,rfl,fun j u hu=>?_⟩⟩)⟩
 ·show Enc _ _ _ [.string (mkS ((bS l c).getD i []))]
  rw[List.getD_eq_getElem?_getD,List.getElem?_eq_getElem hi]
  exact⟨rfl,rfl⟩
 ·match j,hu with
  | 0,hu =>
   simp only[List.getElem?_cons_zero,Option.some.injEq]at hu
   subst hu
   refine⟨?_,fun hx=>absurd (hX _ hx) (Nat.lt_irrefl _)⟩
   rw[dr]
   simp only[Nat.mul_one,Nat.add_zero,Nat.zero_add]
   rw[World.cell?]
   simp only[heap_alloc_new]
   simp[List.getElem?_eq_getElem hi,List.getD_eq_getElem?_getD]
end Go.Proofs.YtpjiiolnfbfcbaaGreatDoor
namespace Go.Proofs.YtpjiiolnfbfcbaaGreatDoor
open Go.Eng
attribute [local irreducible] WC RegS RegD SeqQ BlkQ ScoQ RegK CutK Sat SatN FnIs LoopQ an OpIs
def bAV (b:Bool) (r:Nat):AV:=match b with
 | true=>.d (.sc nilp)
 | false=>.ptr r []
abbrev cY (b:Bool) (r q n:Nat):Row :=.box 58 (.acons (bAV b r) (.acons (.own q 0 n 1 none) (.d .nil)))
abbrev rowT (l:List UInt8):Row :=.ds 5 1 false bE (byI l)
theorem g9 (l:List UInt8) (n:Nat):FnIs Tryz.prog 37 [.ptr 0 []] [(0,.box 58 (.acons (.d (.sc nilp)) (.acons (.own 1 0 n 1 none) (.d .nil)))),(1,rowT l)] (.tup .anil) [(0,.box 58 (.acons (.ptr 0 []) (.acons (.own 1 0 n 1 none) (.d .nil)))),(1,rowT l)]:=by
 refine au aa Tryz.func37 rfl rfl rfl ?_;refine sR<|zU ?_;refine rQ iM ?_;refine rQ (Ah rfl rfl rfl) ?_;refine zO<|am ?_;refine zD ?_;refine rQ (qB aa rfl rfl rfl rfl rfl rfl rfl rfl) ?_;refine rQ (p8 rfl rfl rfl rfl rfl rfl) ?_;refine rQ (nA aa rfl rfl rfl rfl rfl rfl (by kernel_rfl)) ?_;refine zD ?_;refine bg (aD aa rfl rfl rfl ⟨_,⟨_,⟨rfl,rfl,rfl⟩,rfl⟩,rfl⟩ rfl)<|aA ?_
 exact⟨trivial,[],lg zV ⟨zR,zR,trivial⟩⟩
theorem iy (l:List UInt8) (n:Nat):FnIs Tryz.prog 37 [.ptr 0 []] [(0,.box 58 (.acons (.ptr 0 []) (.acons (.own 1 0 n 1 none) (.d .nil)))),(1,rowT l)] (.tup .anil) [(0,.box 58 (.acons (.ptr 0 []) (.acons (.own 1 0 n 1 none) (.d .nil)))),(1,rowT l)]:=by
 refine au aa Tryz.func37 rfl rfl rfl ?_;refine sR<|zU ?_;refine rQ iM ?_;refine rQ (yC rfl rfl rfl) ?_;refine zJ<|sR ?_;refine zU ?_;refine rQ iM ?_;refine rC ?_;refine rQ (wt aa rfl rfl rfl rfl) ?_;refine zJ<|aL ?_
 exact⟨trivial,[],lg zV ⟨zR,zR,trivial⟩⟩
theorem lO (l:List UInt8) (c:UInt8) (n:Nat) (hn:l.length=n) (hlen:n+1≤1048576):FnIs Tryz.prog 67 [.ptr 0 [],.int .u8 c.toNat] [(0,cY true 0 1 n),(1,rowT l)] (.d (.sc .nilIface)) [(0,cY false 0 64 (n+1)),(64,rowT (l++[c]))]:=by
 obtain rfl:(byI l).length=n:=by rw[b6]; exact hn
 have hcc:=g9 l (byI l).length
 have hlen2:(byI l).length+1≤1048576:=hlen
 refine au aa Tryz.func67 rfl rfl rfl ?_;refine sR<|rC<|nR ?_;refine rC ?_;refine bB rfl (bJ [(0,some 0),(1,some 1)] hcc rfl rfl rfl (bC rfl rfl ab) ⟨zH,zH,trivial⟩ rfl rfl (.inl rfl) rfl rfl) rfl rfl<|nR ?_;iterate 4 refine rC ?_
 refine rQ iM ?_;refine rC ?_;refine aJ (aC aa rfl rfl rfl rfl rfl rfl rfl rfl) rfl ?_;refine aT (aR (s:=1) (enc:=bE) aa (c.toNat:Int) rfl rfl rfl rfl rfl rfl rfl rfl rfl hlen2 rfl) rfl ?_;refine zD ?_;refine bg (aD aa rfl rfl rfl ⟨_,⟨_,⟨rfl,rfl,rfl⟩,rfl⟩,rfl⟩ rfl)<|nR ?_;refine rC<|zT ?_
 rw[show byI l++[(c.toNat:Int)]=byI (l++[c]) from l9 l [c]]
 exact⟨trivial,[(64,some 144)],lg zV ⟨zR,zR,trivial⟩⟩
theorem mf (l:List UInt8) (c:UInt8) (n:Nat) (hn:l.length=n) (hlen:n+1≤1048576):FnIs Tryz.prog 67 [.ptr 0 [],.int .u8 c.toNat] [(0,cY false 0 1 n),(1,rowT l)] (.d (.sc .nilIface)) [(0,cY false 0 64 (n+1)),(64,rowT (l++[c]))]:=by
 obtain rfl:(byI l).length=n:=by rw[b6]; exact hn
 have hcc:=iy l (byI l).length
 have hlen2:(byI l).length+1≤1048576:=hlen
 refine au aa Tryz.func67 rfl rfl rfl ?_;refine sR<|rC<|nR ?_;refine rC ?_;refine bB rfl (bJ [(0,some 0),(1,some 1)] hcc rfl rfl rfl (bC rfl rfl ab) ⟨zH,zH,trivial⟩ rfl rfl (.inl rfl) rfl rfl) rfl rfl<|nR ?_;iterate 4 refine rC ?_
 refine rQ iM ?_;refine rC ?_;refine aJ (aC aa rfl rfl rfl rfl rfl rfl rfl rfl) rfl ?_;refine aT (aR (s:=1) (enc:=bE) aa (c.toNat:Int) rfl rfl rfl rfl rfl rfl rfl rfl rfl hlen2 rfl) rfl ?_;refine zD ?_;refine bg (aD aa rfl rfl rfl ⟨_,⟨_,⟨rfl,rfl,rfl⟩,rfl⟩,rfl⟩ rfl)<|nR ?_;refine rC<|zT ?_
 rw[show byI l++[(c.toNat:Int)]=byI (l++[c]) from l9 l [c]]
 exact⟨trivial,[(64,some 144)],lg zV ⟨zR,zR,trivial⟩⟩
theorem fi (b:Bool) (l:List UInt8) (c:UInt8) (n:Nat) (hn:l.length=n) (hlen:n+1≤1048576):FnIs Tryz.prog 67 [.ptr 0 [],.int .u8 c.toNat] [(0,cY b 0 1 n),(1,rowT l)] (.d (.sc .nilIface)) [(0,cY false 0 64 (n+1)),(64,rowT (l++[c]))]:=by
 cases b with
 | true=>exact lO l c n hn hlen
 | false=>exact mf l c n hn hlen
theorem gY (l:List UInt8) (n:Nat) (hn:l.length=n) (hne:l≠[]) (hlen:n≤1048576):FnIs Tryz.prog 16 [.ptr 0 []] [(0,cY false 0 1 n),(1,rowT l)] (.d (strD l)) []:=by
 have h0:0<n:=by rw[←hn]; exact List.length_pos_iff.2 hne
 have h63:l.length≤9223372036854775807:=by omega
 refine au aa Tryz.func16 rfl rfl rfl ?_;refine sR<|rC<|nQ ?_;refine aE (by kernel_rfl) ?_;refine dC [0] [] ?_;refine dC [3] [] ?_;refine dC [4] [] ?_;refine dQ [5] [0] iM ?_;refine dQ [6] [1] (rb rfl h0) ?_;refine dC [0] [] ?_;refine dC [8] [] ?_;refine dC [9] [] ?_;refine dQ [10] [0] iM ?_;refine dQ [11] [1] (bP aa rfl rfl) ?_;refine fD [7,12] [1] rfl (qX (l:=l) rfl rfl rfl rfl rfl hn hne h63) ?_;refine dC [13] [] ?_;refine aB (by kernel_rfl)<|aM<|bR ?_
 exact⟨trivial,[],lf⟩
theorem km:FnIs Tryz.prog 16 [.ptr 0 []] [(0,.box 58 (.d (.cons (.sc nilp) (.cons (.sc nil_) .nil))))] (.d (strD [])) []:=by
 refine au aa Tryz.func16 rfl rfl rfl ?_;refine sR<|rC<|nQ ?_;refine aE (by kernel_rfl) ?_;refine dC [0] [] ?_;refine dC [3] [] ?_;refine dC [4] [] ?_;refine dQ [5] [0] iB ?_;refine dQ [6] [] (mu rfl) ?_;refine dC [0] [] ?_;refine dC [8] [] ?_;refine dC [9] [] ?_;refine dQ [10] [0] iB ?_;refine dQ [11] [] (oT aa rfl rfl) ?_;refine dQ [7,12] [] (pm rfl rfl) ?_;refine dC [13] [] ?_;refine aB (by kernel_rfl)<|aM<|bR ?_
 exact⟨trivial,[],lf⟩
theorem me (l s:List UInt8) (n:Nat) (hn:l.length=n) (hs0:0<s.length) (hlen:n+s.length≤1048576):FnIs Tryz.prog 14 [.ptr 0 [],.d (strD s)] [(0,cY true 0 1 n),(1,rowT l)] (.tup (.acons (.int .i64 s.length) (.acons (.d (.sc .nilIface)) .anil))) [(0,cY false 0 64 (n+s.length)),(64,rowT (l++s))]:=by
 have hbl:n=(byI l).length:=by rw[b6]; exact hn.symm
 have hcc:=g9 l n
 have hlen2:(byI l).length+s.length≤1048576:=by rw[←hbl]; exact hlen
 refine au aa Tryz.func14 rfl rfl rfl ?_;refine sR<|zD<|nR ?_;refine rC ?_;refine bB rfl (bJ [(0,some 0),(1,some 1)] hcc rfl rfl rfl (bC rfl rfl ab) ⟨zH,zH,trivial⟩ rfl rfl (.inl rfl) rfl rfl) rfl rfl<|nR ?_;iterate 4 refine rC ?_
 refine rQ iM ?_;refine rC ?_;refine aT (nr (l:=s) aa rfl Tryz.underlying9 rfl rfl rfl hbl rfl rfl hs0 hlen2 rfl) rfl ?_;refine zD ?_;refine bg (aD aa rfl rfl rfl ⟨_,⟨_,⟨rfl,rfl,rfl⟩,rfl⟩,rfl⟩ rfl)<|nR ?_;refine rC ?_;refine rQ (ek aa rfl rfl) ?_;refine zD<|zT ?_
 rw[l9 l s]
 exact⟨trivial,[(64,some 144)],lg zV ⟨⟨rfl,rfl,_,rfl,bj.of_eq (by rw[hbl]; rfl)⟩,zR,trivial⟩⟩
theorem nw (l s:List UInt8) (n:Nat) (hn:l.length=n) (hs0:0<s.length) (hlen:n+s.length≤1048576):FnIs Tryz.prog 14 [.ptr 0 [],.d (strD s)] [(0,cY false 0 1 n),(1,rowT l)] (.tup (.acons (.int .i64 s.length) (.acons (.d (.sc .nilIface)) .anil))) [(0,cY false 0 64 (n+s.length)),(64,rowT (l++s))]:=by
 have hbl:n=(byI l).length:=by rw[b6]; exact hn.symm
 have hcc:=iy l n
 have hlen2:(byI l).length+s.length≤1048576:=by rw[←hbl]; exact hlen
 refine au aa Tryz.func14 rfl rfl rfl ?_;refine sR<|zD<|nR ?_;refine rC ?_;refine bB rfl (bJ [(0,some 0),(1,some 1)] hcc rfl rfl rfl (bC rfl rfl ab) ⟨zH,zH,trivial⟩ rfl rfl (.inl rfl) rfl rfl) rfl rfl<|nR ?_;iterate 4 refine rC ?_
 refine rQ iM ?_;refine rC ?_;refine aT (nr (l:=s) aa rfl Tryz.underlying9 rfl rfl rfl hbl rfl rfl hs0 hlen2 rfl) rfl ?_;refine zD ?_;refine bg (aD aa rfl rfl rfl ⟨_,⟨_,⟨rfl,rfl,rfl⟩,rfl⟩,rfl⟩ rfl)<|nR ?_;refine rC ?_;refine rQ (ek aa rfl rfl) ?_;refine zD<|zT ?_
 rw[l9 l s]
 exact⟨trivial,[(64,some 144)],lg zV ⟨⟨rfl,rfl,_,rfl,bj.of_eq (by rw[hbl]; rfl)⟩,zR,trivial⟩⟩
theorem ia (b:Bool) (l s:List UInt8) (n:Nat) (hn:l.length=n) (hs0:0<s.length) (hlen:n+s.length≤1048576):FnIs Tryz.prog 14 [.ptr 0 [],.d (strD s)] [(0,cY b 0 1 n),(1,rowT l)] (.tup (.acons (.int .i64 s.length) (.acons (.d (.sc .nilIface)) .anil))) [(0,cY false 0 64 (n+s.length)),(64,rowT (l++s))]:=by
 cases b with
 | true=>exact me l s n hn hs0 hlen
 | false=>exact nw l s n hn hs0 hlen
end Go.Proofs.YtpjiiolnfbfcbaaGreatDoor
namespace Go.Eng
open Go.RowKit
section
variable {P : Program} {T : Tab} {env : Env} {h : Upds} {n : Nat}
theorem bH (hT:aq P T) {x y:Operand} {t t':TypeId} {k:IntKind} {a b:Nat} {c:Int} (hx:ay env x=some (.int k a)) (hy:ay env y=some (.int k c)) (hc:c=(b:Int)) (hb:b≠0):an P (.binOp .rem t x y t') env h n (some (.int k ((a % b:Nat):Int))) []:=by
 subst hc
 have:=xS (P:=P) (h:=h) (n:=n) (t:=t) (t':=t') hT hx hy (by omega:(b:Int)≠0)
 rwa [show ((a:Int).tmod b)=((a % b:Nat):Int) from rfl]at this
theorem dL (hT:aq P T) {x y:Operand} {t t':TypeId} {k:IntKind} {a b:Nat} {c:Int} (hx:ay env x=some (.int k a)) (hy:ay env y=some (.int k c)) (hc:c=(b:Int)) (hb:b≠0) (hw:k.wrap ((a/b:Nat):Int)=((a/b:Nat):Int)):an P (.binOp .quo t x y t') env h n (some (.int k ((a/b:Nat):Int))) []:=by
 subst hc
 exact xV hT hx hy (by omega:(b:Int)≠0) (by rw[show ((a:Int).tdiv b)=((a/b:Nat):Int) from rfl]; exact hw)
theorem ci {a:Nat} (h:a<256):IntKind.u8.wrap (a:Int)=(a:Int):=by
 simp[IntKind.wrap,IntKind.signed,IntKind.bits]
 omega
end
end Go.Eng
namespace Go.Proofs.YtpjiiolnfbfcbaaGreatDoor
open Go.Eng Go.Plain
set_option maxHeartbeats 32000000
set_option maxRecDepth 20000
attribute [local irreducible] WC RegS RegD SeqQ BlkQ ScoQ RegK CutK Sat SatN FnIs LoopQ an OpIs
theorem mY {l:List UInt8} {i:Nat} {b:UInt8} (hb:l[i]?=some b):(l.take i).flatMap hexB++[hexC (b.toNat/16)]++[hexC (b.toNat % 16)]=(l.take (i+1)).flatMap hexB:=by
 rw[List.take_add_one,hb]
 simp[hexB]
theorem yp:FnIs Tryz.prog 108 [.d (encB [])] [] (.d (strD (hexP []))) []:=by
 refine au aa Tryz.func108 rfl rfl rfl ?_;refine sR<|rC<|zW ?_;refine rC ?_;refine rQ iE ?_;refine rC ?_;refine zO<|sR ?_;refine rC<|zT<|aP ?_
 exact⟨trivial,[],lf⟩
theorem wK (l:List UInt8) (hne:l≠[]) (hL:l.length≤524288):FnIs Tryz.prog 108 [.d (encB l)] [] (.d (strD (hexP l))) []:=by
 have hpos:0<l.length:=List.length_pos_iff.2 hne
 have hbl:(byI l).length=l.length:=b6 l
 have hz:decide (((byI l).length:Int)=0)=false:=dF (by omega)
 refine au aa Tryz.func108 rfl rfl rfl ?_;refine sR<|rC<|zW ?_;refine rC ?_;refine rQ iE ?_;refine rC ?_;refine zG<|kS<|sR ?_;refine rN<|zW ?_;refine rC ?_;refine rQ iE ?_;refine rC<|zP ?_
 refine wc_inv (fun i:Nat=>⟨[(11,.int .i64 i),(10,.int .i64 (byI l).length),(9,.d (encB l)),(3,.ptr 65 [])],[(65,some (cY (Nat.beq i 0) 65 66 (2*i))),(66,some (rowT ((l.take i).flatMap hexB)))],72,Tryz.f108.ntmps,64⟩) (fun i=>i≤l.length) (fun i=>l.length-i) 0 [(65,some 96),(66,none)] (Nat.zero_le _)
  (lg zi ⟨⟨rfl,rfl,_,rfl,bj.split2⟩,⟨rfl,rfl,rfl⟩,trivial⟩) ?_
 intro i hi
 refine bG<|sR ?_;refine rC<|nQ ?_
 refine bO rfl (fun h3=>?_) (fun h3=>?_)
 ·have hlt:i<l.length:=by have:=of_decide_eq_true h3; omega
  obtain⟨b,hb⟩:∃b,l[i]?=some b:=⟨_,List.getElem?_eq_getElem hlt⟩
  have hb':(byI l)[((i:Int)).toNat]?=some (b.toNat:Int):=by rw[Int.toNat_natCast]; exact o9 hb
  have hb8:b.toNat<256:=b.toNat_lt
  have hw16:IntKind.u8.wrap ((b.toNat/16:Nat):Int)=((b.toNat/16:Nat):Int):=ci (by omega)
  have hd1:=kb (n:=b.toNat/16) (by omega)
  have hd2:=kb (n:=b.toNat % 16) (by omega)
  have hpl:((l.take i).flatMap hexB).length=2*i:=by rw[da,List.length_take,Nat.min_eq_left hi]
  have hp1:2*i+1≤1048576:=by omega
  have hpl2:((l.take i).flatMap hexB++[hexC (b.toNat/16)]).length=2*i+1:=by rw[List.length_append,hpl]; rfl
  have hp2:2*i+1+1≤1048576:=by omega
  have hgo:=mY hb
  refine zQ<|zS<|rQ iA ?_;refine rQ iL ?_;refine rC<|nR ?_;refine rC ?_;refine rQ (dL (a:=b.toNat) (b:=16) aa rfl rfl rfl (by decide) hw16) ?_;refine rQ (eT (l:=hexD) (m:=b.toNat/16) aa rfl rfl rfl hd1) ?_;refine bB rfl (bJ [(0,some 65),(1,some 66)] (fi (Nat.beq i 0) ((l.take i).flatMap hexB) (hexC (b.toNat/16)) (2*i) hpl hp1) rfl rfl rfl (bC rfl rfl (aj ab)) ⟨⟨rfl,(by cases Nat.beq i 0 <;> rfl),_,_,rfl,rfl,(by cases Nat.beq i 0 <;> exact .refl _)⟩,zH,trivial⟩ rfl rfl (.inl rfl) rfl rfl) rfl rfl<|nS<|am ?_;refine rC ?_;refine rQ (bH (a:=b.toNat) (b:=16) aa rfl rfl rfl (by decide)) ?_;refine rQ (eT (l:=hexD) (m:=b.toNat % 16) aa rfl rfl rfl hd2) ?_;refine bB rfl (bJ [(0,some 65),(1,some 128)] (fi false ((l.take i).flatMap hexB++[hexC (b.toNat/16)]) (hexC (b.toNat % 16)) (2*i+1) hpl2 hp2) rfl rfl rfl (bC rfl rfl (aj ab)) ⟨zH,zH,trivial⟩ rfl rfl (.inl rfl) rfl rfl) rfl rfl<|aA<|zC<|am ?_;refine rQ iD ?_;refine rC<|aA ?_
  exact aN (i+1) [(66,some 160)] hlt (by omega) (lg zi ⟨zR,⟨rfl,rfl,_,rfl,bj.of_eq (congrArg rowT hgo)⟩,trivial⟩)
 ·have he:i=l.length:=by have:=of_decide_eq_false h3; omega
  subst he
  have hnn:l.flatMap hexB≠[]:=fun e=>by have:=da l; rw[e]at this; simp at this; omega
  have hp4:2*l.length≤1048576:=by omega
  have hbz:Nat.beq l.length 0=false:=by
   cases hz:Nat.beq l.length 0 with
   | false=>rfl
   | true=>have:=Nat.eq_of_beq_eq_true hz; omega
  rw[hbz,List.take_length]
  refine zX<|sR<|aT (bJ [(0,some 65),(1,some 66)] (gY (l.flatMap hexB) (2*l.length) (da l) hnn hp4) rfl rfl rfl (bC rfl rfl ab) ⟨zH,zH,trivial⟩ rfl rfl (.inl rfl) rfl rfl) rfl ?_;refine rC<|zT ?_
  rw[show hexP l=l.flatMap hexB from if_neg hne]
  exact⟨trivial,[],lf⟩
theorem mZ (l:List UInt8) (hL:l.length≤524288):FnIs Tryz.prog 108 [.d (encB l)] [] (.d (strD (hexP l))) []:=by
 by_cases h:l=[]
 ·subst h; exact yp
 ·exact wK l h hL
end Go.Proofs.YtpjiiolnfbfcbaaGreatDoor
namespace Go.Plain
open Go.Eng Go.Lib
def nibV (c:UInt8):Nat:=(indexByte hexD c).toNat
def cS:List UInt8→List Int
 | []=>[]
 | [a]=>[(nibV a:Int)]
 | a::b::l=>((nibV a*16+nibV b:Nat):Int)::cS l
theorem wI {c:UInt8} (h:0≤indexByte hexD c):hexD[(indexByte hexD c).toNat]?=some c:=(indexByte_some (show indexByte hexD c=((indexByte hexD c).toNat:Nat) by omega)).1
theorem eR (c:UInt8):nibV c<16:=by
 by_cases h:0≤indexByte hexD c
 ·have:=(List.getElem?_eq_some_iff.1 (wI h)).1
  exact this
 ·unfold nibV; omega
theorem ka {c:UInt8} (h:0≤indexByte hexD c):c.toNat<128:=by
 have hm:c∈hexD:=List.mem_of_getElem? (wI h)
 have:∀c∈hexD,c.toNat<128:=by decide
 exact this c hm
theorem rJ:∀l,(cS l).length=(l.length+1)/2
 | []=>rfl
 | [_]=>by simp[cS]
 | _::_::l=>by simp only[cS,List.length_cons,rJ l]; omega
theorem s1:∀(l:List UInt8) (c:UInt8),l.length % 2=0→cS (l++[c])=cS l++[(nibV c:Int)]
 | [],_,_=>rfl
 | [_],_,h=>by simp at h
 | a::b::l,c,h=>by
  have:=s1 l c (by simp only[List.length_cons]at h; omega)
  simp only[List.cons_append,cS,this]
theorem v6:∀(l:List UInt8) (c:UInt8),l.length % 2=1→∃(r:List Int) (x:Nat),x<16∧cS l=r++[(x:Int)]∧cS (l++[c])=r++[((x*16+nibV c:Nat):Int)]
 | [],_,h=>by simp at h
 | [a],c,_=>⟨[],nibV a,eR a,rfl,rfl⟩
 | a::b::l,c,h=>by
  obtain⟨r,x,h1,h2,h3⟩:=v6 l c (by simp only[List.length_cons]at h; omega)
  exact⟨((nibV a*16+nibV b:Nat):Int)::r,x,h1,by simp only[cS,h2,List.cons_append],by simp only[List.cons_append,cS,h3]⟩
def uX (m:Nat) (s:List UInt8) (i:Nat):List Int:=cS (s.take i)++List.replicate (m-(i+1)/2) 0
theorem lW (m:Nat) (s:List UInt8):uX m s 0=List.replicate m 0:=by simp[uX,cS]
theorem lX {m i:Nat} {s:List UInt8} {c:UInt8} (hc:s[i]?=some c) (hm:s.length=2*m):∃x:Nat,x<16∧(uX m s i)[i/2]?=some (x:Int)∧(uX m s i).set (i/2) ((x*16+nibV c:Nat):Int)=uX m s (i+1):=by
 have hi:i<s.length:=(List.getElem?_eq_some_iff.1 hc).1
 have hl:(s.take i).length=i:=by rw[List.length_take,Nat.min_eq_left (by omega)]
 have ht:s.take (i+1)=s.take i++[c]:=by rw[List.take_add_one,hc]; rfl
 have hpl:(cS (s.take i)).length=(i+1)/2:=by rw[rJ,hl]
 by_cases he:i % 2=0
 ·have e1:(i+1)/2=i/2:=by omega
  have e2:(i+1+1)/2=i/2+1:=by omega
  have e3:m-i/2=(m-(i/2+1))+1:=by omega
  refine⟨0,by decide,?_,?_⟩
  ·simp only[uX]
   rw[List.getElem?_append_right (by omega),hpl,e1,Nat.sub_self,e3,List.replicate_succ]
   rfl
  ·simp only[uX]
   rw[List.set_append_right _ _ (by omega),hpl,e1,Nat.sub_self,e3,List.replicate_succ,List.set_cons_zero,ht,s1 _ _ (by rw[hl]; exact he),e2]
   simp
 ·obtain⟨r,x,h1,h2,h3⟩:=v6 (s.take i) c (by rw[hl]; omega)
  have hr:r.length=i/2:=by
   have:=congrArg List.length h2
   rw[hpl]at this
   simp at this
   omega
  have e2:(i+1+1)/2=(i+1)/2:=by omega
  refine⟨x,h1,?_,?_⟩
  ·simp only[uX,h2]
   rw[List.append_assoc,List.getElem?_append_right (by omega),hr,Nat.sub_self]
   rfl
  ·simp only[uX,h2]
   rw[List.append_assoc,List.set_append_right _ _ (by omega),hr,Nat.sub_self,ht,h3,e2]
   simp
theorem gN:∀(s:List UInt8),s.length % 2=0→(∀c∈s,0≤indexByte hexD c)→∃t,eG s=some t∧byI t=cS s
 | [],_,_=>⟨[],rfl,rfl⟩
 | [_],h,_=>by simp at h
 | a::b::l,h,hd=>by
  obtain⟨t,h1,h2⟩:=gN l (by simp only[List.length_cons]at h; omega) fun c hc=>hd c (by simp[hc])
  have ha:=hd a (by simp)
  have hb:=hd b (by simp)
  have na:=eR a
  have nb:=eR b
  refine⟨(nibV a*16+nibV b).toUInt8::t,?_,?_⟩
  ·simp only[eG,nibO,if_pos ha,if_pos hb,h1,nibV]
  ·simp only[byI,List.map_cons,cS]
   rw[show (t.map fun b=>(b.toNat:Int))=byI t from rfl,h2]
   congr 1
   have:(nibV a*16+nibV b).toUInt8.toNat=nibV a*16+nibV b:=by simp; omega
   rw[this]
theorem kC:∀(s:List UInt8) (c:UInt8),c∈s→indexByte hexD c<0→eG s=none
 | [],_,h,_=>by simp at h
 | [_],_,_,_=>rfl
 | a::b::l,c,h,hc=>by
  have hn:nibO c=none:=by unfold nibO; rw[if_neg (by omega)]
  simp only[List.mem_cons]at h
  simp only[eG]
  rcases h with rfl | rfl | h
  ·rw[hn]
  ·rw[hn]
   cases nibO a <;> rfl
  ·rw[kC l c h hc]
   cases nibO a <;> cases nibO b <;> rfl
theorem nK:∀(s:List UInt8),s.length % 2=1→eG s=none
 | [],h=>by simp at h
 | [_],_=>rfl
 | a::b::l,h=>by
  simp only[eG]
  rw[nK l (by simp only[List.length_cons]at h; omega)]
  cases nibO a <;> cases nibO b <;> rfl
end Go.Plain
namespace Go.Proofs.YtpjiiolnfbfcbaaGreatDoor
open Go.Eng Go.Plain
set_option maxHeartbeats 32000000
set_option maxRecDepth 20000
attribute [local irreducible] WC RegS RegD SeqQ BlkQ ScoQ RegK CutK Sat SatN FnIs LoopQ an OpIs
abbrev unR (o:Option (List UInt8)):AV :=.tup (.acons (.d (encB (o.getD []))) (.acons (.bool o.isSome) .anil))
theorem gQ {α:Type} (s:Nat) (enc:α→D):AVLe (.d (.sc nil_)) (.d (.arr s enc [])):=fun σ w X v h=>AVLe.empty_arr s enc σ w X v (AVLe.nil_empty σ w X v h)
theorem pn:FnIs Tryz.prog 125 [.d (strD [45])] [] (unR (cL [45])) []:=by
 refine au aa Tryz.func125 rfl rfl rfl ?_;refine sR<|zD<|zW ?_;refine rC ?_;refine rQ (bV aa rfl rfl rfl) ?_;refine zO<|sR ?_;refine zD<|zT<|aP ?_
 exact⟨trivial,[],lg ⟨⟨_,rfl,AVLe.tup1 (gQ _ _) rfl⟩,rfl,trivial⟩ trivial⟩
theorem po (s:List UInt8) (hs:s=[]):FnIs Tryz.prog 125 [.d (strD s)] [] (unR (cL s)) []:=by
 have h0:decide (s=[45])=false:=by rw[hs]; rfl
 have h1:decide ((s.length:Int)=0)=true:=by rw[hs]; rfl
 rw[show cL s=none by rw[hs]; rfl]
 refine au aa Tryz.func125 rfl rfl rfl ?_;refine sR<|zD<|zW ?_;refine rC ?_;refine rQ (bV (a:=s) (b:=[45]) aa rfl rfl rfl) ?_;refine zG<|kS<|qR ?_;refine rC ?_;refine rQ (ek aa rfl rfl) ?_;refine zD ?_
 iterate 4 refine rS ?_
 refine rQ iT ?_;refine zO<|sR ?_;refine zD<|zT<|aP ?_
 exact⟨trivial,[],lg ⟨⟨_,rfl,AVLe.tup1 (gQ _ _) rfl⟩,rfl,trivial⟩ trivial⟩
theorem tT (s:List UInt8) (hs:s.length % 2=1):FnIs Tryz.prog 125 [.d (strD s)] [] (unR (if s=[45] then some [] else none)) []:=by
 by_cases h45:s=[45]
 ·rw[if_pos h45,h45]; exact pn
 have h0:decide (s=[45])=false:=dF h45
 have h1:decide ((s.length:Int)=0)=false:=dF (by omega)
 have h2:(!decide (((s.length % 2:Nat):Int)=0))=true:=by rw[hs]; rfl
 rw[if_neg h45]
 refine au aa Tryz.func125 rfl rfl rfl ?_;refine sR<|zD<|zW ?_;refine rC ?_;refine rQ (bV (a:=s) (b:=[45]) aa rfl rfl rfl) ?_;refine zG<|kS<|qR ?_;refine rC ?_;refine rQ (ek aa rfl rfl) ?_;refine zD ?_;refine rO ?_;refine rC ?_;refine rO ?_;refine rQ (ek aa rfl rfl) ?_;refine rO ?_;refine rQ (bH (a:=s.length) (b:=2) aa rfl rfl rfl (by decide)) ?_;refine rO ?_;refine rC ?_;refine rQ iF ?_;refine zI<|sR ?_;refine zD<|zT<|aP ?_
 exact⟨trivial,[],lg ⟨⟨_,rfl,AVLe.tup1 (gQ _ _) rfl⟩,rfl,trivial⟩ trivial⟩
theorem tW (s:List UInt8) (m:Nat) (hm:s.length=2*m) (hpos:s≠[]) (hL:s.length≤1048576) (hbad:∃c∈s,Lib.indexByte hexD c<0):FnIs Tryz.prog 125 [.d (strD s)] [] (unR (cL s)) []:=by
 have h45:s≠[45]:=fun e=>by rw[e]at hm; simp at hm; omega
 have hlen:0<s.length:=List.length_pos_iff.2 hpos
 have h0:decide (s=[45])=false:=dF h45
 have h1:decide ((s.length:Int)=0)=false:=dF (by omega)
 have h2:(!decide (((s.length % 2:Nat):Int)=0))=false:=by rw[show s.length % 2=0 by omega]; rfl
 have hm2:m=s.length/2:=by omega
 have hwl:IntKind.i64.wrap ((s.length/2:Nat):Int)=((s.length/2:Nat):Int):=aO (by omega) (by omega)
 refine au aa Tryz.func125 rfl rfl rfl ?_;refine sR<|zD<|zW ?_;refine rC ?_;refine rQ (bV (a:=s) (b:=[45]) aa rfl rfl rfl) ?_;refine zG<|kS<|qR ?_;refine rC ?_;refine rQ (ek aa rfl rfl) ?_;refine zD ?_;refine rO ?_;refine rC ?_;refine rO ?_;refine rQ (ek aa rfl rfl) ?_;refine rO ?_;refine rQ (bH (a:=s.length) (b:=2) aa rfl rfl rfl (by decide)) ?_;refine rO ?_;refine rC ?_;refine rQ iF ?_;refine zG<|kS<|sR ?_;refine rC ?_;refine rQ (ek aa rfl rfl) ?_;refine rQ (dL (a:=s.length) (b:=2) aa rfl rfl rfl (by decide) hwl) ?_;refine aJ (de (enc:=bE) (s:=1) (N:=s.length/2) aa 0 rfl rfl rfl rfl rfl rfl rfl (by omega) rfl) rfl ?_;refine rC<|zW ?_;refine rC ?_;refine aJ (ja aa rfl rfl) rfl<|zP ?_
 refine wc_inv (fun i:Nat=>⟨[(23,.ptr 66 []),(4,.own 65 0 (s.length/2) 1 none),(0,.d (strD s))],[(65,some (.ds 5 1 true bE (uX m s i))),(66,some (.si (mkS s) i))],72,Tryz.f125.ntmps,64⟩) (fun i=>i≤s.length∧∀c∈s.take i,0≤Lib.indexByte hexD c) (fun i=>s.length-i) 0 [(65,some 192),(66,some 216)] ⟨Nat.zero_le _,by simp⟩
  (lg zj ⟨⟨rfl,rfl,_,rfl,bj.of_eq (by rw[lW,hm2]; rfl)⟩,zR,trivial⟩) ?_
 intro i hi
 refine bG ?_
 obtain⟨hi,hdig⟩:=hi
 by_cases hlt:i<s.length
 ·obtain⟨c,hc⟩:∃c,s[i]?=some c:=⟨_,List.getElem?_eq_getElem hlt⟩
  have hib:FnIs Tryz.prog 80 [.d (strD hexD),.int .u8 c.toNat] [] (.int .i64 (Lib.indexByte hexD c)) []:=by
   have:=ql (l:=hexD) (c:=(c.toNat:Int))
   rwa [show ((c.toNat:Int)).toNat.toUInt8=c by simp]at this
  by_cases hneg:Lib.indexByte hexD c<0
  ·have hd:=dT hneg
   have hnone:cL s=none:=by rw[cL,if_neg h45,if_neg hpos,kC s c (List.mem_of_getElem? hc) hneg]
   rw[hnone]
   refine sR<|aJ (gk rfl rfl (by omega)) rfl ?_;refine rC<|nQ ?_;refine wV<|kS<|zS ?_;refine zD<|nR ?_;refine zD ?_;refine rQ (eT (l:=s) (m:=i) aa rfl rfl rfl hc) ?_;refine rQ (ak hib rfl rfl (aj (aj ab)) (.inl rfl) (fun _=>rfl)) ?_;refine rC<|nQ<|sR ?_;refine zD ?_;refine zI<|sR ?_;refine zD<|zT<|aP<|iH<|ce<|zB ?_
   exact⟨trivial,[],lg ⟨⟨_,rfl,AVLe.tup1 (gQ _ _) rfl⟩,rfl,trivial⟩ trivial⟩
  ·have hd:decide (Lib.indexByte hexD c<0)=false:=dF hneg
   obtain⟨x,hx1,hx2,hx3⟩:=lX hc hm
   replace hx2:(uX m s i)[(((i/2:Nat):Int)).toNat]?=some (x:Int):=by rw[Int.toNat_natCast]; exact hx2
   have hn16:=eR c
   have hwi:IntKind.i64.wrap ((i/2:Nat):Int)=((i/2:Nat):Int):=aO (by omega) (by omega)
   have hw1:IntKind.u8.wrap ((x:Int)*16)=((x*16:Nat):Int):=ci (a:=x*16) (by omega)
   have hw2:IntKind.u8.wrap (Lib.indexByte hexD c)=(nibV c:Int):=by
    rw[show Lib.indexByte hexD c=(nibV c:Int) by unfold nibV; omega]
    exact ci (by omega)
   have hw3:IntKind.u8.wrap (((x*16:Nat):Int)+(nibV c:Int))=((x*16+nibV c:Nat):Int):=ci (a:=x*16+nibV c) (by omega)
   have hlow:=gW (i:=i) hc (ka (by omega))
   refine sR<|aJ (gk rfl rfl (by omega)) rfl ?_;refine rC<|nQ ?_;refine wV<|kS<|zS ?_;refine zD<|nR ?_;refine zD ?_;refine rQ (eT (l:=s) (m:=i) aa rfl rfl rfl hc) ?_;refine rQ (ak hib rfl rfl (aj (aj ab)) (.inl rfl) (fun _=>rfl)) ?_;refine rC<|nQ<|sR ?_;refine zD ?_;refine zG<|kS<|am ?_;refine zD ?_;refine rQ (dL (a:=i) (b:=2) aa rfl rfl rfl (by decide) hwi) ?_;refine zD ?_;refine rQ (dL (a:=i) (b:=2) aa rfl rfl rfl (by decide) hwi) ?_;refine rQ (br aa rfl rfl rfl rfl rfl (by omega) (by omega)) ?_;refine rQ (bU aa rfl rfl ⟨rfl,(x:Int),hx2,_,rfl,rfl⟩ rfl) ?_;refine rQ (fk (m:=((x*16:Nat):Int)) aa rfl rfl hw1) ?_;refine rC ?_;refine rQ (bf (m:=(nibV c:Int)) aa rfl rfl rfl hw2) ?_;refine rQ (cJ (m:=((x*16+nibV c:Nat):Int)) aa rfl rfl hw3) ?_;refine rQ (br aa rfl rfl rfl rfl rfl (by omega) (by omega)) ?_;refine bg (aD aa rfl rfl rfl ⟨rfl,(x:Int),((x*16+nibV c:Nat):Int),hx2,⟨rfl,rfl,rfl⟩,rfl⟩ rfl)<|aA<|gw ?_
   exact aN (i+1) [] ⟨hlt,fun b hb=>by rw[List.take_add_one,hc]at hb; rcases List.mem_append.1 hb with hb | hb; exact hdig b hb; rw[show b=c by simpa using hb]; omega⟩ (by omega) (lg zj ⟨⟨rfl,rfl,_,rfl,bj.of_eq (congrArg (Row.ds 5 1 true bE) hx3)⟩,⟨rfl,rfl,_,rfl,bj.of_eq (by rw[hlow]; rfl)⟩,trivial⟩)
 ·have he:i=s.length:=by omega
  obtain⟨c,h3,h4⟩:=hbad
  have:=hdig c (by rw[he,List.take_length]; exact h3)
  omega
theorem tS (s:List UInt8) (m:Nat) (hm:s.length=2*m) (hpos:s≠[]) (hL:s.length≤1048576) (hall:∀c∈s,0≤Lib.indexByte hexD c):FnIs Tryz.prog 125 [.d (strD s)] [] (.tup (.acons (.own 64 0 (s.length/2) 1 none) (.acons (.bool true) .anil))) [(64,.ds 5 1 true bE (cS s))]:=by
 have h45:s≠[45]:=fun e=>by rw[e]at hm; simp at hm; omega
 have hlen:0<s.length:=List.length_pos_iff.2 hpos
 have h0:decide (s=[45])=false:=dF h45
 have h1:decide ((s.length:Int)=0)=false:=dF (by omega)
 have h2:(!decide (((s.length % 2:Nat):Int)=0))=false:=by rw[show s.length % 2=0 by omega]; rfl
 have hm2:m=s.length/2:=by omega
 have hrep:m-(s.length+1)/2=0:=by omega
 have hwl:IntKind.i64.wrap ((s.length/2:Nat):Int)=((s.length/2:Nat):Int):=aO (by omega) (by omega)
 refine au aa Tryz.func125 rfl rfl rfl ?_;refine sR<|zD<|zW ?_;refine rC ?_;refine rQ (bV (a:=s) (b:=[45]) aa rfl rfl rfl) ?_;refine zG<|kS<|qR ?_;refine rC ?_;refine rQ (ek aa rfl rfl) ?_;refine zD ?_;refine rO ?_;refine rC ?_;refine rO ?_;refine rQ (ek aa rfl rfl) ?_;refine rO ?_;refine rQ (bH (a:=s.length) (b:=2) aa rfl rfl rfl (by decide)) ?_;refine rO ?_;refine rC ?_;refine rQ iF ?_;refine zG<|kS<|sR ?_;refine rC ?_;refine rQ (ek aa rfl rfl) ?_;refine rQ (dL (a:=s.length) (b:=2) aa rfl rfl rfl (by decide) hwl) ?_;refine aJ (de (enc:=bE) (s:=1) (N:=s.length/2) aa 0 rfl rfl rfl rfl rfl rfl rfl (by omega) rfl) rfl ?_;refine rC<|zW ?_;refine rC ?_;refine aJ (ja aa rfl rfl) rfl<|zP ?_
 refine wc_inv (fun i:Nat=>⟨[(23,.ptr 66 []),(4,.own 65 0 (s.length/2) 1 none),(0,.d (strD s))],[(65,some (.ds 5 1 true bE (uX m s i))),(66,some (.si (mkS s) i))],72,Tryz.f125.ntmps,64⟩) (fun i=>i≤s.length∧∀c∈s.take i,0≤Lib.indexByte hexD c) (fun i=>s.length-i) 0 [(65,some 192),(66,some 216)] ⟨Nat.zero_le _,by simp⟩
  (lg zj ⟨⟨rfl,rfl,_,rfl,bj.of_eq (by rw[lW,hm2]; rfl)⟩,zR,trivial⟩) ?_
 intro i hi
 refine bG ?_
 obtain⟨hi,hdig⟩:=hi
 by_cases hlt:i<s.length
 ·obtain⟨c,hc⟩:∃c,s[i]?=some c:=⟨_,List.getElem?_eq_getElem hlt⟩
  have hib:FnIs Tryz.prog 80 [.d (strD hexD),.int .u8 c.toNat] [] (.int .i64 (Lib.indexByte hexD c)) []:=by
   have:=ql (l:=hexD) (c:=(c.toNat:Int))
   rwa [show ((c.toNat:Int)).toNat.toUInt8=c by simp]at this
  have hneg:¬Lib.indexByte hexD c<0:=by have:=hall c (List.mem_of_getElem? hc); omega
  have hd:decide (Lib.indexByte hexD c<0)=false:=dF hneg
  obtain⟨x,hx1,hx2,hx3⟩:=lX hc hm
  replace hx2:(uX m s i)[(((i/2:Nat):Int)).toNat]?=some (x:Int):=by rw[Int.toNat_natCast]; exact hx2
  have hn16:=eR c
  have hwi:IntKind.i64.wrap ((i/2:Nat):Int)=((i/2:Nat):Int):=aO (by omega) (by omega)
  have hw1:IntKind.u8.wrap ((x:Int)*16)=((x*16:Nat):Int):=ci (a:=x*16) (by omega)
  have hw2:IntKind.u8.wrap (Lib.indexByte hexD c)=(nibV c:Int):=by
   rw[show Lib.indexByte hexD c=(nibV c:Int) by unfold nibV; omega]
   exact ci (by omega)
  have hw3:IntKind.u8.wrap (((x*16:Nat):Int)+(nibV c:Int))=((x*16+nibV c:Nat):Int):=ci (a:=x*16+nibV c) (by omega)
  have hlow:=gW (i:=i) hc (ka (by omega))
  refine sR<|aJ (gk rfl rfl (by omega)) rfl ?_;refine rC<|nQ ?_;refine wV<|kS<|zS ?_;refine zD<|nR ?_;refine zD ?_;refine rQ (eT (l:=s) (m:=i) aa rfl rfl rfl hc) ?_;refine rQ (ak hib rfl rfl (aj (aj ab)) (.inl rfl) (fun _=>rfl)) ?_;refine rC<|nQ<|sR ?_;refine zD ?_;refine zG<|kS<|am ?_;refine zD ?_;refine rQ (dL (a:=i) (b:=2) aa rfl rfl rfl (by decide) hwi) ?_;refine zD ?_;refine rQ (dL (a:=i) (b:=2) aa rfl rfl rfl (by decide) hwi) ?_;refine rQ (br aa rfl rfl rfl rfl rfl (by omega) (by omega)) ?_;refine rQ (bU aa rfl rfl ⟨rfl,(x:Int),hx2,_,rfl,rfl⟩ rfl) ?_;refine rQ (fk (m:=((x*16:Nat):Int)) aa rfl rfl hw1) ?_;refine rC ?_;refine rQ (bf (m:=(nibV c:Int)) aa rfl rfl rfl hw2) ?_;refine rQ (cJ (m:=((x*16+nibV c:Nat):Int)) aa rfl rfl hw3) ?_;refine rQ (br aa rfl rfl rfl rfl rfl (by omega) (by omega)) ?_;refine bg (aD aa rfl rfl rfl ⟨rfl,(x:Int),((x*16+nibV c:Nat):Int),hx2,⟨rfl,rfl,rfl⟩,rfl⟩ rfl)<|aA<|gw ?_
  exact aN (i+1) [] ⟨hlt,fun b hb=>by rw[List.take_add_one,hc]at hb; rcases List.mem_append.1 hb with hb | hb; exact hdig b hb; rw[show b=c by simpa using hb]; omega⟩ (by omega) (lg zj ⟨⟨rfl,rfl,_,rfl,bj.of_eq (congrArg (Row.ds 5 1 true bE) hx3)⟩,⟨rfl,rfl,_,rfl,bj.of_eq (by rw[hlow]; rfl)⟩,trivial⟩)
 ·have he:i=s.length:=by omega
  subst he
  refine sR<|rQ (p7 rfl rfl (by omega)) ?_;refine rC<|nQ ?_;refine wG<|cv<|ew<|fe<|eD<|aM<|sR ?_;refine zU<|zT ?_
  exact⟨trivial,[(64,some 65)],lg zV ⟨⟨rfl,rfl,_,rfl,bj.of_eq (by simp only[uX,List.take_length,hrep]; simp; rfl)⟩,trivial⟩⟩
theorem vj (s:List UInt8) (hL:s.length≤1048576):FnIs Tryz.prog 125 [.d (strD s)] [] (unR (cL s)) []:=by
 by_cases hpos:s=[]
 ·exact po s hpos
 by_cases hodd:s.length % 2=1
 ·have:=tT s hodd
  rwa [show cL s=if s=[45] then some [] else none by rw[cL,if_neg hpos,nK s hodd]]
 have hm:s.length=2*(s.length/2):=by omega
 by_cases hall:∀c∈s,0≤Lib.indexByte hexD c
 ·obtain⟨t,h1,h2⟩:=gN s (by omega) hall
  have h45:s≠[45]:=fun e=>by rw[e]at hodd; simp at hodd
  have hu:cL s=some t:=by rw[cL,if_neg h45,if_neg hpos,h1]
  have:=tS s _ hm hpos hL hall
  rw[hu]
  rw[←h2]at this
  exact this.freeze_out 64 _ rfl (Frz.tup (.cons (Frz.own (by rw[show (some t).getD []=t from rfl,h2,rJ]; omega)) (.cons (.refl _) .nil))) trivial
 ·have hbad:∃c∈s,Lib.indexByte hexD c<0:=by
   simp only[Classical.not_forall]at hall
   obtain⟨c,h1,h2⟩:=hall
   exact⟨c,h1,by omega⟩
  exact tW s _ hm hpos hL hbad
end Go.Proofs.YtpjiiolnfbfcbaaGreatDoor
namespace Go.Plain
open Go.Eng Go.Lib
theorem kW:∀(k u:Nat),u<10 ^ (k+1)→(decDigits u).length≤k+1
 | 0,u,h=>by
  rw[decDigits,dif_pos (by simpa using h)]
  simp
 | k+1,u,h=>by
  rw[decDigits]
  split
  ·simp
  ·have h2:u/10<10 ^ (k+1):=by
    rw[Nat.div_lt_iff_lt_mul (by decide),←Nat.pow_succ]
    exact h
   have:=kW k (u/10) h2
   simp only[List.length_append,List.length_cons,List.length_nil]
   omega
theorem bA {n:Int} (h0 : -9223372036854775808≤n) (h1:n≤9223372036854775807):(itoa n).length≤20:=by
 rw[itoa]
 split
 ·have:=kW 18 n.natAbs (by omega)
  simp only[List.length_cons]
  omega
 ·have:=kW 18 n.toNat (by omega)
  omega
theorem cm (l:List UInt8):(hexP l).length≤2*l.length+1:=by
 rw[hexP]
 split
 ·simp
 ·rw[da]; omega
theorem iq {o:POp} (h:o.Ok):(bd o).length≤50+2*o.data.length:=by
 obtain⟨⟨k0,k1⟩,i0,i1⟩:=h
 have h1:=bA i0 i1
 have h2:=bA (n:=o.kind) (by omega) (by omega)
 have h3:=cm o.data
 rw[bd]
 split
 ·simp only[List.length_append,List.length_cons,ei,List.length_nil]; omega
 ·split
  ·simp only[List.length_append,List.length_cons,cn,List.length_nil]; omega
  ·split
   ·simp only[ej,List.length_cons,List.length_nil]; omega
   ·simp only[List.length_append,List.length_cons,sOp,List.length_nil]; omega
theorem s4 {D:Nat}:∀(p:List POp),(∀o∈p,o.Ok∧o.data.length≤D)→(opsT p).length≤(51+2*D)*p.length
 | [],_=>by simp[opsT]
 | o::p,h=>by
  have ih:=s4 p fun x hx=>h x (by simp[hx])
  obtain⟨h1,h2⟩:=h o (by simp)
  have h3:=iq h1
  simp only[opsT,List.flatMap_cons,List.length_append,List.length_cons,List.length_nil]at ih ⊢
  rw[Nat.mul_add]
  omega
theorem pv {D N:Nat}:∀(l:List (List POp)),(∀p∈l,p.length≤N∧∀o∈p,o.Ok∧o.data.length≤D)→(bX l).length≤(7+(51+2*D)*N)*l.length
 | [],_=>by simp[bX]
 | p::l,h=>by
  have ih:=pv l fun x hx=>h x (by simp[hx])
  obtain⟨h1,h2⟩:=h p (by simp)
  have h3:=s4 p h2
  have h4:(51+2*D)*p.length≤(51+2*D)*N:=Nat.mul_le_mul_left _ h1
  simp only[bX,List.flatMap_cons,List.length_append,List.length_cons,aI,List.length_nil]at ih ⊢
  rw[Nat.mul_add]
  omega
end Go.Plain
namespace Go.Proofs.YtpjiiolnfbfcbaaGreatDoor
open Go.Eng Go.Plain
set_option maxHeartbeats 32000000
set_option maxRecDepth 20000
attribute [local irreducible] WC RegS RegD SeqQ BlkQ ScoQ RegK CutK Sat SatN FnIs LoopQ an OpIs
theorem eX (l:List UInt8) (b:Bool) (h:decide (l=[])=b):decide (((byI l).length:Int)=0)=b:=by
 rw[←h]
 cases l with
 | nil=>rfl
 | cons a l=>simp[byI]; omega
theorem uz (o:POp) (hok:o.Ok) (hL:o.data.length≤524288) (hk:o.kind=1) (hd0:o.data=[]):FnIs Tryz.prog 75 [.d (bu o)] [] (.d (strD (bd o))) []:=by
 obtain⟨⟨kk0,kk1⟩,h0,h1⟩:=hok
 have k0 : -9223372036854775808≤o.kind:=by omega
 have k1:o.kind≤9223372036854775807:=by omega
 have hwk:IntKind.i64.wrap o.kind=o.kind:=aO (by omega) (by omega)
 have l1:=bA h0 h1
 have l2:=bA k0 k1
 have l3:=cm o.data
 have hk1:decide (o.kind=1)=true:=dT (by omega)
 have hd:=eX o.data true (dT hd0)
 rw[show bd o=ei++[32]++Lib.itoa o.index by rw[bd,if_pos ⟨hk,hd0⟩]; simp]
 refine au aa Tryz.func75 rfl rfl rfl ?_;refine sR<|rN ?_;refine rC<|nR ?_;refine rC ?_;refine rQ iB ?_;refine rQ (ak (dU h0 h1) rfl rfl (aj ab) (.inl rfl) (fun _=>rfl)) ?_;refine rC<|nQ<|zS ?_;refine rC ?_;refine rQ iB ?_;refine zD ?_;refine rO ?_;refine rC ?_;refine rO ?_;refine rQ iB ?_;refine rO ?_;refine rQ iE ?_;refine rO ?_;refine rC ?_;refine rQ iT ?_;refine rC ?_;refine zI<|sR ?_;refine rC ?_;refine rQ (aG (a:=ei++[32]) (b:=Lib.itoa o.index) rfl rfl (by simp[ei]; omega) rfl) ?_;refine rC<|zT<|zB ?_
 exact⟨trivial,[],lf⟩
theorem sb (o:POp) (hok:o.Ok) (hL:o.data.length≤524288) (hk:o.kind=2):FnIs Tryz.prog 75 [.d (bu o)] [] (.d (strD (bd o))) []:=by
 obtain⟨⟨kk0,kk1⟩,h0,h1⟩:=hok
 have k0 : -9223372036854775808≤o.kind:=by omega
 have k1:o.kind≤9223372036854775807:=by omega
 have hwk:IntKind.i64.wrap o.kind=o.kind:=aO (by omega) (by omega)
 have l1:=bA h0 h1
 have l2:=bA k0 k1
 have l3:=cm o.data
 have hk1:decide (o.kind=1)=false:=dF (by omega)
 have hk2:decide (o.kind=2)=true:=dT (by omega)
 rw[show bd o=cn++[32]++Lib.itoa o.index++[32]++hexP o.data by rw[bd,if_neg (fun h=>by have:=h.1; omega),if_pos hk]; simp]
 refine au aa Tryz.func75 rfl rfl rfl ?_;refine sR<|rN ?_;refine rC<|nR ?_;refine rC ?_;refine rQ iB ?_;refine rQ (ak (dU h0 h1) rfl rfl (aj ab) (.inl rfl) (fun _=>rfl)) ?_;refine rC<|nQ<|zS ?_;refine rC ?_;refine rQ iB ?_;refine zD ?_
 iterate 4 refine rS ?_
 refine rQ iF ?_;refine rC ?_;refine zJ<|sR ?_;refine rC ?_;refine rQ iB ?_;refine zD ?_;refine zI<|sR ?_;refine rC ?_;refine rQ (aG (a:=cn++[32]) (b:=Lib.itoa o.index) rfl rfl (by simp[cn]; omega) rfl) ?_;refine rQ (aG (a:=cn++[32]++Lib.itoa o.index) (b:=[32]) rfl rfl (by simp[cn]; omega) rfl) ?_;refine rC ?_;refine rQ iB ?_;refine rQ (ak (mZ o.data hL) rfl rfl (aj ab) (.inl rfl) (fun _=>rfl)) ?_;refine rQ (aG (a:=cn++[32]++Lib.itoa o.index++[32]) (b:=hexP o.data) rfl rfl (by simp[cn]; omega) rfl) ?_;refine rC<|zT<|zB ?_
 exact⟨trivial,[],lf⟩
theorem sd (o:POp) (hok:o.Ok) (hL:o.data.length≤524288) (hk:o.kind=3) (hi0:o.index=0) (hd0:o.data=[]):FnIs Tryz.prog 75 [.d (bu o)] [] (.d (strD (bd o))) []:=by
 obtain⟨⟨kk0,kk1⟩,h0,h1⟩:=hok
 have k0 : -9223372036854775808≤o.kind:=by omega
 have k1:o.kind≤9223372036854775807:=by omega
 have hwk:IntKind.i64.wrap o.kind=o.kind:=aO (by omega) (by omega)
 have l1:=bA h0 h1
 have l2:=bA k0 k1
 have l3:=cm o.data
 have hk1:decide (o.kind=1)=false:=dF (by omega)
 have hk2:decide (o.kind=2)=false:=dF (by omega)
 have hk3:decide (o.kind=3)=true:=dT (by omega)
 have hd:=eX o.data true (dT hd0)
 have hi:decide (o.index=0)=true:=dT hi0
 rw[show bd o=ej by rw[bd,if_neg (fun h=>by have:=h.1; omega),if_neg (by omega),if_pos ⟨hk,hi0,hd0⟩]]
 refine au aa Tryz.func75 rfl rfl rfl ?_;refine sR<|rN ?_;refine rC<|nR ?_;refine rC ?_;refine rQ iB ?_;refine rQ (ak (dU h0 h1) rfl rfl (aj ab) (.inl rfl) (fun _=>rfl)) ?_;refine rC<|nQ<|zS ?_;refine rC ?_;refine rQ iB ?_;refine zD ?_
 iterate 4 refine rS ?_
 refine rQ iF ?_;refine rC ?_;refine zJ<|sR ?_;refine rC ?_;refine rQ iB ?_;refine zD ?_;refine zG<|sR ?_;refine rC ?_;refine rQ iB ?_;refine zD ?_;refine rO ?_;refine rC ?_;refine rO ?_;refine rQ iB ?_;refine rO ?_;refine rC ?_;refine rQ iT ?_;refine rC ?_;refine rO ?_;refine rC ?_;refine rO ?_;refine rQ iB ?_;refine rO ?_;refine rQ iE ?_;refine rO ?_;refine rC ?_;refine rQ iT ?_;refine rC ?_;refine zI<|sR ?_;refine rC<|zT<|zB ?_
 exact⟨trivial,[],lf⟩
theorem wA (o:POp) (hok:o.Ok) (hL:o.data.length≤524288) (hk:o.kind=1) (hd0:¬o.data=[]):FnIs Tryz.prog 75 [.d (bu o)] [] (.d (strD (bd o))) []:=by
 obtain⟨⟨kk0,kk1⟩,h0,h1⟩:=hok
 have k0 : -9223372036854775808≤o.kind:=by omega
 have k1:o.kind≤9223372036854775807:=by omega
 have hwk:IntKind.i64.wrap o.kind=o.kind:=aO (by omega) (by omega)
 have l1:=bA h0 h1
 have l2:=bA k0 k1
 have l3:=cm o.data
 have hk1:decide (o.kind=1)=true:=dT (by omega)
 have hk2:decide (o.kind=2)=false:=dF (by omega)
 have hk3:decide (o.kind=3)=false:=dF (by omega)
 have hd:=eX o.data false (dF hd0)
 rw[show bd o=sOp++[32]++Lib.itoa o.kind++[32]++Lib.itoa o.index++[32]++hexP o.data by rw[bd,if_neg (fun h=>hd0 h.2),if_neg (by omega),if_neg (fun h=>by have:=h.1; omega)]; simp]
 refine au aa Tryz.func75 rfl rfl rfl ?_;refine sR<|rN ?_;refine rC<|nR ?_;refine rC ?_;refine rQ iB ?_;refine rQ (ak (dU h0 h1) rfl rfl (aj ab) (.inl rfl) (fun _=>rfl)) ?_;refine rC<|nQ<|zS ?_;refine rC ?_;refine rQ iB ?_;refine zD ?_;refine rO ?_;refine rC ?_;refine rO ?_;refine rQ iB ?_;refine rO ?_;refine rQ iE ?_;refine rO ?_;refine rC ?_;refine rQ iT ?_;refine rC ?_;refine zG<|sR ?_;refine rC ?_;refine rQ iB ?_;refine zD ?_;refine zG<|sR ?_;refine rC ?_;refine rQ iB ?_;refine zD ?_
 iterate 3 refine rS ?_
 refine rQ iF ?_;refine rC ?_;iterate 4 refine rT ?_
 refine rQ iG ?_;refine rC ?_;refine zJ<|aL<|zC<|bk ?_;refine aE (by kernel_rfl) ?_;refine dC [1] [] ?_;refine dQ [45] [64] iB ?_;refine dQ [46] [] (bf (m:=o.kind) aa rfl rfl rfl hwk) ?_;refine dQ [47] [] (ak (dU k0 k1) rfl rfl (aj ab) (.inl rfl) (fun _=>rfl)) ?_;refine dQ [48] [] (aG (a:=sOp++[32]) (b:=Lib.itoa o.kind) rfl rfl (by simp[sOp]; omega) rfl) ?_;refine dQ [49] [] (aG (a:=sOp++[32]++Lib.itoa o.kind) (b:=[32]) rfl rfl (by simp[sOp]; omega) rfl) ?_;refine dC [3] [] ?_;refine dQ [50,51] [] (aG (a:=sOp++[32]++Lib.itoa o.kind++[32]) (b:=Lib.itoa o.index) rfl rfl (by simp[sOp]; omega) rfl) ?_;refine dQ [52] [] (aG (a:=sOp++[32]++Lib.itoa o.kind++[32]++Lib.itoa o.index) (b:=[32]) rfl rfl (by simp[sOp]; omega) rfl) ?_;refine dC [1] [] ?_;refine dQ [54] [64] iB ?_;refine dQ [55] [] (ak (mZ o.data hL) rfl rfl (aj ab) (.inl rfl) (fun _=>rfl)) ?_;refine dQ [53,56] [] (aG (a:=sOp++[32]++Lib.itoa o.kind++[32]++Lib.itoa o.index++[32]) (b:=hexP o.data) rfl rfl (by simp[sOp]; omega) rfl) ?_;refine dC [57] [] ?_;refine aB (by kernel_rfl)<|aM<|bR ?_
 exact⟨trivial,[],lf⟩
theorem wz (o:POp) (hok:o.Ok) (hL:o.data.length≤524288) (hk1:¬o.kind=1) (hk2:¬o.kind=2) (hk3:¬o.kind=3):FnIs Tryz.prog 75 [.d (bu o)] [] (.d (strD (bd o))) []:=by
 obtain⟨⟨kk0,kk1⟩,h0,h1⟩:=hok
 have k0 : -9223372036854775808≤o.kind:=by omega
 have k1:o.kind≤9223372036854775807:=by omega
 have hwk:IntKind.i64.wrap o.kind=o.kind:=aO (by omega) (by omega)
 have l1:=bA h0 h1
 have l2:=bA k0 k1
 have l3:=cm o.data
 have hk1:decide (o.kind=1)=false:=dF (by omega)
 have hk2:decide (o.kind=2)=false:=dF (by omega)
 have hk3:decide (o.kind=3)=false:=dF (by omega)
 rw[show bd o=sOp++[32]++Lib.itoa o.kind++[32]++Lib.itoa o.index++[32]++hexP o.data by rw[bd,if_neg (fun h=>by have:=h.1; omega),if_neg (by omega),if_neg (fun h=>by have:=h.1; omega)]; simp]
 refine au aa Tryz.func75 rfl rfl rfl ?_;refine sR<|rN ?_;refine rC<|nR ?_;refine rC ?_;refine rQ iB ?_;refine rQ (ak (dU h0 h1) rfl rfl (aj ab) (.inl rfl) (fun _=>rfl)) ?_;refine rC<|nQ<|zS ?_;refine rC ?_;refine rQ iB ?_;refine zD ?_
 iterate 4 refine rS ?_
 refine rQ iF ?_;refine rC ?_;refine zJ<|sR ?_;refine rC ?_;refine rQ iB ?_;refine zD ?_;refine zG<|sR ?_;refine rC ?_;refine rQ iB ?_;refine zD ?_
 iterate 3 refine rS ?_
 refine rQ iF ?_;refine rC ?_;iterate 4 refine rT ?_
 refine rQ iG ?_;refine rC ?_;refine zJ<|aL<|zC<|bk ?_;refine aE (by kernel_rfl) ?_;refine dC [1] [] ?_;refine dQ [45] [64] iB ?_;refine dQ [46] [] (bf (m:=o.kind) aa rfl rfl rfl hwk) ?_;refine dQ [47] [] (ak (dU k0 k1) rfl rfl (aj ab) (.inl rfl) (fun _=>rfl)) ?_;refine dQ [48] [] (aG (a:=sOp++[32]) (b:=Lib.itoa o.kind) rfl rfl (by simp[sOp]; omega) rfl) ?_;refine dQ [49] [] (aG (a:=sOp++[32]++Lib.itoa o.kind) (b:=[32]) rfl rfl (by simp[sOp]; omega) rfl) ?_;refine dC [3] [] ?_;refine dQ [50,51] [] (aG (a:=sOp++[32]++Lib.itoa o.kind++[32]) (b:=Lib.itoa o.index) rfl rfl (by simp[sOp]; omega) rfl) ?_;refine dQ [52] [] (aG (a:=sOp++[32]++Lib.itoa o.kind++[32]++Lib.itoa o.index) (b:=[32]) rfl rfl (by simp[sOp]; omega) rfl) ?_;refine dC [1] [] ?_;refine dQ [54] [64] iB ?_;refine dQ [55] [] (ak (mZ o.data hL) rfl rfl (aj ab) (.inl rfl) (fun _=>rfl)) ?_;refine dQ [53,56] [] (aG (a:=sOp++[32]++Lib.itoa o.kind++[32]++Lib.itoa o.index++[32]) (b:=hexP o.data) rfl rfl (by simp[sOp]; omega) rfl) ?_;refine dC [57] [] ?_;refine aB (by kernel_rfl)<|aM<|bR ?_
 exact⟨trivial,[],lf⟩
theorem wy (o:POp) (hok:o.Ok) (hL:o.data.length≤524288) (hk:o.kind=3) (hi0:¬o.index=0):FnIs Tryz.prog 75 [.d (bu o)] [] (.d (strD (bd o))) []:=by
 obtain⟨⟨kk0,kk1⟩,h0,h1⟩:=hok
 have k0 : -9223372036854775808≤o.kind:=by omega
 have k1:o.kind≤9223372036854775807:=by omega
 have hwk:IntKind.i64.wrap o.kind=o.kind:=aO (by omega) (by omega)
 have l1:=bA h0 h1
 have l2:=bA k0 k1
 have l3:=cm o.data
 have hk1:decide (o.kind=1)=false:=dF (by omega)
 have hk2:decide (o.kind=2)=false:=dF (by omega)
 have hk3:decide (o.kind=3)=true:=dT (by omega)
 have hi:decide (o.index=0)=false:=dF hi0
 rw[show bd o=sOp++[32]++Lib.itoa o.kind++[32]++Lib.itoa o.index++[32]++hexP o.data by rw[bd,if_neg (fun h=>by have:=h.1; omega),if_neg (by omega),if_neg (fun h=>hi0 h.2.1)]; simp]
 refine au aa Tryz.func75 rfl rfl rfl ?_;refine sR<|rN ?_;refine rC<|nR ?_;refine rC ?_;refine rQ iB ?_;refine rQ (ak (dU h0 h1) rfl rfl (aj ab) (.inl rfl) (fun _=>rfl)) ?_;refine rC<|nQ<|zS ?_;refine rC ?_;refine rQ iB ?_;refine zD ?_
 iterate 4 refine rS ?_
 refine rQ iF ?_;refine rC ?_;refine zJ<|sR ?_;refine rC ?_;refine rQ iB ?_;refine zD ?_;refine zG<|sR ?_;refine rC ?_;refine rQ iB ?_;refine zD ?_;refine rO ?_;refine rC ?_;refine rO ?_;refine rQ iB ?_;refine rO ?_;refine rC ?_;refine rQ iT ?_;refine rC ?_;iterate 4 refine rS ?_
 refine rQ iF ?_;refine rC ?_;refine zJ<|aL<|zC<|bk ?_;refine aE (by kernel_rfl) ?_;refine dC [1] [] ?_;refine dQ [45] [64] iB ?_;refine dQ [46] [] (bf (m:=o.kind) aa rfl rfl rfl hwk) ?_;refine dQ [47] [] (ak (dU k0 k1) rfl rfl (aj ab) (.inl rfl) (fun _=>rfl)) ?_;refine dQ [48] [] (aG (a:=sOp++[32]) (b:=Lib.itoa o.kind) rfl rfl (by simp[sOp]; omega) rfl) ?_;refine dQ [49] [] (aG (a:=sOp++[32]++Lib.itoa o.kind) (b:=[32]) rfl rfl (by simp[sOp]; omega) rfl) ?_;refine dC [3] [] ?_;refine dQ [50,51] [] (aG (a:=sOp++[32]++Lib.itoa o.kind++[32]) (b:=Lib.itoa o.index) rfl rfl (by simp[sOp]; omega) rfl) ?_;refine dQ [52] [] (aG (a:=sOp++[32]++Lib.itoa o.kind++[32]++Lib.itoa o.index) (b:=[32]) rfl rfl (by simp[sOp]; omega) rfl) ?_;refine dC [1] [] ?_;refine dQ [54] [64] iB ?_;refine dQ [55] [] (ak (mZ o.data hL) rfl rfl (aj ab) (.inl rfl) (fun _=>rfl)) ?_;refine dQ [53,56] [] (aG (a:=sOp++[32]++Lib.itoa o.kind++[32]++Lib.itoa o.index++[32]) (b:=hexP o.data) rfl rfl (by simp[sOp]; omega) rfl) ?_;refine dC [57] [] ?_;refine aB (by kernel_rfl)<|aM<|bR ?_
 exact⟨trivial,[],lf⟩
theorem wx (o:POp) (hok:o.Ok) (hL:o.data.length≤524288) (hk:o.kind=3) (hi0:o.index=0) (hd0:¬o.data=[]):FnIs Tryz.prog 75 [.d (bu o)] [] (.d (strD (bd o))) []:=by
 obtain⟨⟨kk0,kk1⟩,h0,h1⟩:=hok
 have k0 : -9223372036854775808≤o.kind:=by omega
 have k1:o.kind≤9223372036854775807:=by omega
 have hwk:IntKind.i64.wrap o.kind=o.kind:=aO (by omega) (by omega)
 have l1:=bA h0 h1
 have l2:=bA k0 k1
 have l3:=cm o.data
 have hk1:decide (o.kind=1)=false:=dF (by omega)
 have hk2:decide (o.kind=2)=false:=dF (by omega)
 have hk3:decide (o.kind=3)=true:=dT (by omega)
 have hi:decide (o.index=0)=true:=dT hi0
 have hd:=eX o.data false (dF hd0)
 rw[show bd o=sOp++[32]++Lib.itoa o.kind++[32]++Lib.itoa o.index++[32]++hexP o.data by rw[bd,if_neg (fun h=>by have:=h.1; omega),if_neg (by omega),if_neg (fun h=>hd0 h.2.2)]; simp]
 refine au aa Tryz.func75 rfl rfl rfl ?_;refine sR<|rN ?_;refine rC<|nR ?_;refine rC ?_;refine rQ iB ?_;refine rQ (ak (dU h0 h1) rfl rfl (aj ab) (.inl rfl) (fun _=>rfl)) ?_;refine rC<|nQ<|zS ?_;refine rC ?_;refine rQ iB ?_;refine zD ?_
 iterate 4 refine rS ?_
 refine rQ iF ?_;refine rC ?_;refine zJ<|sR ?_;refine rC ?_;refine rQ iB ?_;refine zD ?_;refine zG<|sR ?_;refine rC ?_;refine rQ iB ?_;refine zD ?_;refine rO ?_;refine rC ?_;refine rO ?_;refine rQ iB ?_;refine rO ?_;refine rC ?_;refine rQ iT ?_;refine rC ?_;refine rO ?_;refine rC ?_;refine rO ?_;refine rQ iB ?_;refine rO ?_;refine rQ iE ?_;refine rO ?_;refine rC ?_;refine rQ iT ?_;refine rC ?_;refine zG<|aL<|zC<|bk ?_;refine aE (by kernel_rfl) ?_;refine dC [1] [] ?_;refine dQ [45] [64] iB ?_;refine dQ [46] [] (bf (m:=o.kind) aa rfl rfl rfl hwk) ?_;refine dQ [47] [] (ak (dU k0 k1) rfl rfl (aj ab) (.inl rfl) (fun _=>rfl)) ?_;refine dQ [48] [] (aG (a:=sOp++[32]) (b:=Lib.itoa o.kind) rfl rfl (by simp[sOp]; omega) rfl) ?_;refine dQ [49] [] (aG (a:=sOp++[32]++Lib.itoa o.kind) (b:=[32]) rfl rfl (by simp[sOp]; omega) rfl) ?_;refine dC [3] [] ?_;refine dQ [50,51] [] (aG (a:=sOp++[32]++Lib.itoa o.kind++[32]) (b:=Lib.itoa o.index) rfl rfl (by simp[sOp]; omega) rfl) ?_;refine dQ [52] [] (aG (a:=sOp++[32]++Lib.itoa o.kind++[32]++Lib.itoa o.index) (b:=[32]) rfl rfl (by simp[sOp]; omega) rfl) ?_;refine dC [1] [] ?_;refine dQ [54] [64] iB ?_;refine dQ [55] [] (ak (mZ o.data hL) rfl rfl (aj ab) (.inl rfl) (fun _=>rfl)) ?_;refine dQ [53,56] [] (aG (a:=sOp++[32]++Lib.itoa o.kind++[32]++Lib.itoa o.index++[32]) (b:=hexP o.data) rfl rfl (by simp[sOp]; omega) rfl) ?_;refine dC [57] [] ?_;refine aB (by kernel_rfl)<|aM<|bR ?_
 exact⟨trivial,[],lf⟩
theorem oS (o:POp) (hok:o.Ok) (hL:o.data.length≤524288):FnIs Tryz.prog 75 [.d (bu o)] [] (.d (strD (bd o))) []:=by
 by_cases k1:o.kind=1
 ·by_cases hd:o.data=[]
  ·exact uz o hok hL k1 hd
  ·exact wA o hok hL k1 hd
 by_cases k2:o.kind=2
 ·exact sb o hok hL k2
 by_cases k3:o.kind=3
 ·by_cases hi:o.index=0
  ·by_cases hd:o.data=[]
   ·exact sd o hok hL k3 hi hd
   ·exact wx o hok hL k3 hi hd
  ·exact wy o hok hL k3 hi
 ·exact wz o hok hL k1 k2 k3
abbrev rowS (l:List (List UInt8)):Row :=.ds 9 1 false strD l
theorem yq (m:Nat) (hm:0<m) (hlen:m≤1048576):FnIs Tryz.prog 126 [.d (.sc nil_),.int .i64 m] [] (.own 64 0 0 1 none) [(64,rowS [])]:=by
 have d0:decide ((m:Int)<0)=false:=dF (by omega)
 have d1:decide (0<(m:Int))=true:=dT (by omega)
 have hw:IntKind.i64.wrap ((m:Int)-0)=m:=by rw[Int.sub_zero]; exact aO (by omega) (by omega)
 refine au aa Tryz.func126 rfl rfl rfl ?_;refine sR<|rC<|zW ?_;refine zD ?_;refine zJ<|kS<|qR ?_;refine zD ?_;refine rQ (tE aa rfl rfl) ?_;refine rC ?_;refine rQ (oT aa rfl rfl) ?_;refine rQ (cH (m:=0) aa rfl rfl rfl) ?_;refine rQ (cH (m:=(m:Int)) aa rfl rfl hw) ?_;refine rC<|nR ?_;refine zD ?_;refine zI<|am ?_;refine zD ?_;refine rQ (tE aa rfl rfl) ?_;refine rQ (vG aa rfl rfl rfl rfl) ?_;refine rC ?_;refine aJ (pa (m:=m) (s:=1) (e:=9) (re:=r9) aa strD rfl Tryz.underlying3 rfl rfl rfl rfl rfl hm hlen rfl) rfl ?_;refine rC ?_;refine rQ (oT aa rfl rfl) ?_;refine rQ (oB aa rfl rfl rfl rfl (Nat.zero_le _)) ?_;refine rC<|nR ?_;refine zD<|zT ?_
 exact⟨trivial,[(64,some 208)],lg zV ⟨zR,trivial⟩⟩
abbrev lD (x:List (List UInt8)):D :=.arr 1 strD x
abbrev FL (ls:List (List (List UInt8))) (i:Nat):Nat:=(ls.take i).flatten.length
theorem y1 {ls:List (List (List UInt8))} {i:Nat} {x:List (List UInt8)} (h:ls[i]?=some x):(ls.take (i+1)).flatten=(ls.take i).flatten++x:=by
 rw[List.take_add_one,h]
 simp
theorem yZ (ls:List (List (List UInt8))) (i:Nat):FL ls i≤ls.flatten.length:=by
 have:=congrArg List.flatten (List.take_append_drop i ls)
 rw[List.flatten_append]at this
 have:=congrArg List.length this
 rw[List.length_append]at this
 simp only[FL]
 omega
theorem uW (ls:List (List (List UInt8))) (hp:0<ls.flatten.length) (hL:ls.flatten.length≤1048576) (hn:ls.length≤1000000):FnIs Tryz.prog 104 [.d (.arr 1 lD ls)] [] (.own 64 0 ls.flatten.length 1 none) [(64,rowS ls.flatten)]:=by
 refine au aa Tryz.func104 rfl rfl rfl ?_;refine sR<|rC<|nR ?_;refine rC<|zW ?_;refine rC ?_;refine rQ iE ?_;refine rC<|zP ?_
 refine wc_inv (fun i:Nat=>⟨[(11,.int .i64 i),(10,.int .i64 ls.length),(9,.d (.arr 1 lD ls)),(3,.int .i64 (FL ls i)),(0,.d (.arr 1 lD ls))],[],72,Tryz.f104.ntmps,64⟩) (fun i=>i≤ls.length) (fun i=>ls.length-i) 0 [] (Nat.zero_le _)
  (lg zh trivial) ?_
 intro i hi
 refine bG<|sR ?_;refine rC<|nQ ?_
 refine bO rfl (fun h2=>?_) (fun h2=>?_)
 ·have hlt:i<ls.length:=by have:=of_decide_eq_true h2; omega
  obtain⟨x,hx⟩:∃u,ls[i]?=some u:=⟨_,List.getElem?_eq_getElem hlt⟩
  have hx':ls[((i:Int)).toNat]?=some x:=by rw[Int.toNat_natCast]; exact hx
  have hg:FL ls (i+1)=FL ls i+x.length:=by simp only[FL,y1 hx,List.length_append]
  have hle:=yZ ls (i+1)
  have hw:IntKind.i64.wrap ((FL ls i:Int)+(x.length:Int))=(FL ls (i+1):Nat):=by rw[hg]; push_cast; exact aO (by omega) (by omega)
  have d0:decide (((FL ls (i+1):Nat):Int)<0)=false:=dF (by omega)
  refine zQ<|zS<|rQ iA ?_;refine rQ iL ?_;refine rC<|nR ?_;refine zD ?_;refine rQ iE ?_;refine rQ (cJ (m:=((FL ls (i+1):Nat):Int)) aa rfl rfl hw) ?_;refine rC<|nR ?_;refine zD ?_;refine zJ<|aL<|zC<|am ?_;refine rQ iD ?_;refine rC<|aA ?_;refine aN (i+1) [] hlt (by omega) ?_
  exact lg zh trivial
 ·have he:i=ls.length:=by have:=of_decide_eq_false h2; omega
  subst he
  have hF:FL ls ls.length=ls.flatten.length:=by simp only[FL,List.take_length]
  rw[hF]
  refine zX<|sR<|rC ?_;refine aJ (qH (yq ls.flatten.length hp hL) rfl rfl (aj (aj ab)) (.inl rfl) rfl rfl) rfl ?_;refine rC<|zW ?_;refine rC ?_;refine rQ iE ?_;refine rC<|zP ?_
  refine wc_inv (fun i:Nat=>⟨[(27,.int .i64 i),(26,.int .i64 ls.length),(25,.d (.arr 1 lD ls)),(6,.own 64 0 (FL ls i) 1 none)],[(64,some (rowS (ls.take i).flatten))],72,Tryz.f104.ntmps,64⟩) (fun i=>i≤ls.length) (fun i=>ls.length-i) 0 [(64,some 88)] (Nat.zero_le _)
   (lg zi ⟨zR,trivial⟩) ?_
  intro i hi
  refine bG<|sR ?_;refine rC<|nQ ?_
  refine bO rfl (fun h2=>?_) (fun h2=>?_)
  ·have hlt:i<ls.length:=by have:=of_decide_eq_true h2; omega
   obtain⟨x,hx⟩:∃u,ls[i]?=some u:=⟨_,List.getElem?_eq_getElem hlt⟩
   have hx':ls[((i:Int)).toNat]?=some x:=by rw[Int.toNat_natCast]; exact hx
   have hg:=y1 hx
   have hle:=yZ ls (i+1)
   cases x with
   | nil =>
    rw[List.append_nil]at hg
    refine zQ<|zS<|rQ iA ?_;refine rQ iL ?_;refine rC<|nS<|am ?_;refine zD ?_;refine rQ (pb (α:=(List UInt8)) (s':=1) (enc:=strD) aa rfl rfl rfl rfl) ?_;refine rC<|aA<|zC<|am ?_;refine rQ iD ?_;refine rC<|aA ?_;refine aN (i+1) [] hlt (by omega) ?_
    simp only[FL,hg]
    exact lg zi ⟨zR,trivial⟩
   | cons y ys =>
    have hgl:FL ls (i+1)=FL ls i+(y::ys).length:=by simp only[FL,hg,List.length_append]
    have hlen:((ls.take i).flatten).length+(y::ys).length≤1048576:=by rw[←hgl]; omega
    refine zQ<|zS<|rQ iA ?_;refine rQ iL ?_;refine rC<|nS<|am ?_;refine zD ?_;refine aT (nu (xs:=(ls.take i).flatten) (ys:=y::ys) (enc:=strD) (s:=1) (ex:=false) aa rfl rfl rfl rfl rfl rfl rfl (Nat.succ_pos _) hlen rfl) rfl ?_;refine rC<|aA<|zC<|am ?_;refine rQ iD ?_;refine rC<|aA ?_;refine aN (i+1) [(64,some 120)] hlt (by omega) ?_
    rw[hgl,hg]
    exact lg zi ⟨zR,trivial⟩
  ·have he:i=ls.length:=by have:=of_decide_eq_false h2; omega
   subst he
   refine zX<|sR<|zD<|zT ?_
   simp only[FL,List.take_length]
   exact⟨trivial,[(64,some 64)],lg zV ⟨zR,trivial⟩⟩
def opV (k i d:List UInt8):POp:=⟨puV k,db i,(cL d).getD []⟩
def opOk (k i d:List UInt8):Bool:=(cL d).isSome&&puOk k&&cr i
abbrev opR (o:POp) (b:Bool):AV :=.tup (.acons (.d (bu o)) (.acons (.bool b) .anil))
def nN:POp:=⟨0,0,[]⟩
theorem zp (k:List UInt8):0≤puV k∧puV k≤255:=by
 unfold puV
 split
 ·rename_i u h
  rw[Lib.parseUintB]at h
  split at h
  ·cases h
  ·have:=Lib.parseUintM_le (2 ^ 8-1) _ 0 _ (by decide) h
   omega
 ·omega
 ·omega
theorem wr (k i d:List UInt8):opF k i d=if opOk k i d then some (opV k i d) else none:=by
 unfold opF opOk opV puOk puV cr db
 cases Lib.parseUintB 8 k <;> cases Lib.atoiAll i <;> cases cL d <;> rfl
theorem zw:AVLe (.d (.cons (.sc (.int .u8 0)) (.cons (.sc (.int .i64 0)) (.cons (.sc nil_) .nil)))) (.d (bu nN)):=by
 intro σ w X v h
 unfold RelV at h ⊢
 rw[if_pos (by rfl)]at h ⊢
 obtain⟨c,rfl,c1,r1,rfl,h1,c2,r2,rfl,h2,c3,r3,rfl,h3,h4⟩:=h
 exact⟨_,rfl,c1,_,rfl,h1,c2,_,rfl,h2,c3,r3,rfl,.inl ⟨rfl,h3.1⟩,h4⟩
theorem lP (w:List (List UInt8)) (h3:w.length≠3):FnIs Tryz.prog 103 [.d (.arr 1 strD w)] [] (opR nN false) []:=by
 have hn:(!decide ((w.length:Int)=3))=true:=by rw[dF (by omega)]; rfl
 refine au aa Tryz.func103 rfl rfl rfl ?_;refine sR<|rN ?_;refine rC<|zW ?_;refine rC ?_;refine rQ iE ?_;refine rC<|nS ?_;refine wT<|sR ?_;refine rQ iM ?_;refine rW ?_;refine rC<|zT<|aP ?_
 exact⟨trivial,_,rfl,[],lg ⟨⟨_,rfl,AVLe.tup1 zw rfl⟩,rfl,trivial⟩ trivial⟩
theorem mH (k i d:List UInt8) (hk:k.length≤281474976710656) (hi:i.length≤281474976710656) (hd:d.length≤1048576) (b1 b2 b3:Bool) (h1:(cL d).isSome=b1) (h2:puOk k=b2) (h3:cr i=b3):FnIs Tryz.prog 103 [.d (.arr 1 strD [k,i,d])] [] (opR (opV k i d) (opOk k i d)) []:=by
 have hw:IntKind.u8.wrap (puV k)=puV k:=by
  obtain⟨p1,p2⟩:=zp k
  rw[show puV k=((puV k).toNat:Int) by omega]
  exact ci (by omega)
 rw[show opOk k i d=(b1&&b2&&b3) by rw[opOk,h1,h2,h3]]
 have hp:=Cb hk
 have ha:=tH hi
 have hu:=vj d hd
 rw[h2]at hp
 rw[h3]at ha
 unfold unR at hu
 rw[h1]at hu
 refine au aa Tryz.func103 rfl rfl rfl ?_
 have g0:[k,i,d][((0:Int)).toNat]?=some k:=rfl
 have g1:[k,i,d][((1:Int)).toNat]?=some i:=rfl
 have g2:[k,i,d][((2:Int)).toNat]?=some d:=rfl
 cases b1 <;> cases b2 <;> cases b3
 ·refine sR<|rN ?_;refine rC<|zW ?_;refine rC ?_;refine rQ iE ?_;refine rC ?_;refine zJ<|kS<|sR ?_;refine rC ?_;refine rQ iA ?_;refine rQ iL ?_;refine rQ (ak hp rfl rfl (aj (aj (aj ab))) (.inl rfl) (fun _=>rfl)) ?_;iterate 5 refine rC ?_
  refine nR<|rC ?_;refine rQ iA ?_;refine rQ iL ?_;refine rQ (ak ha rfl rfl (aj ab) (.inl rfl) (fun _=>rfl)) ?_;iterate 5 refine rC ?_
  refine nR<|rC ?_;refine rQ iA ?_;refine rQ iL ?_;refine rQ (ak hu rfl rfl (aj ab) (.inl rfl) (fun _=>rfl)) ?_;iterate 5 refine rC ?_
  refine nQ<|aE (by kernel_rfl) ?_;refine dC [4] [] ?_;refine dQ [34] [] (bf (m:=puV k) aa rfl rfl rfl hw) ?_;refine dC [6] [] ?_;refine dC [8] [] ?_;refine dQ [35,36,37] [] iS ?_;refine dC [3] [] ?_;refine dC [39] [] ?_;refine ai [40,5] rfl rfl rfl rfl ?_;refine ai [40,41] rfl rfl rfl rfl ?_;refine dQ [40,42] [] iG ?_;refine dC [43] [] ?_;refine ai [44,7] rfl rfl rfl rfl ?_;refine ai [44,45] rfl rfl rfl rfl ?_;refine dQ [44,46] [] iG ?_;refine bI [2,38] [64] (aD aa rfl rfl rfl ⟨_,⟨rfl,rfl,rfl⟩,rfl⟩ rfl) ?_;refine dC [47] [] ?_;refine aB (by kernel_rfl)<|aM<|bR ?_
  exact⟨trivial,_,rfl,[],lf⟩
 ·refine sR<|rN ?_;refine rC<|zW ?_;refine rC ?_;refine rQ iE ?_;refine rC ?_;refine zJ<|kS<|sR ?_;refine rC ?_;refine rQ iA ?_;refine rQ iL ?_;refine rQ (ak hp rfl rfl (aj (aj (aj ab))) (.inl rfl) (fun _=>rfl)) ?_;iterate 5 refine rC ?_
  refine nR<|rC ?_;refine rQ iA ?_;refine rQ iL ?_;refine rQ (ak ha rfl rfl (aj ab) (.inl rfl) (fun _=>rfl)) ?_;iterate 5 refine rC ?_
  refine nR<|rC ?_;refine rQ iA ?_;refine rQ iL ?_;refine rQ (ak hu rfl rfl (aj ab) (.inl rfl) (fun _=>rfl)) ?_;iterate 5 refine rC ?_
  refine nQ<|aE (by kernel_rfl) ?_;refine dC [4] [] ?_;refine dQ [34] [] (bf (m:=puV k) aa rfl rfl rfl hw) ?_;refine dC [6] [] ?_;refine dC [8] [] ?_;refine dQ [35,36,37] [] iS ?_;refine dC [3] [] ?_;refine dC [39] [] ?_;refine ai [40,5] rfl rfl rfl rfl ?_;refine ai [40,41] rfl rfl rfl rfl ?_;refine dQ [40,42] [] iG ?_;refine dC [43] [] ?_;refine ai [44,7] rfl rfl rfl rfl ?_;refine ai [44,45] rfl rfl rfl rfl ?_;refine dQ [44,46] [] iG ?_;refine bI [2,38] [64] (aD aa rfl rfl rfl ⟨_,⟨rfl,rfl,rfl⟩,rfl⟩ rfl) ?_;refine dC [47] [] ?_;refine aB (by kernel_rfl)<|aM<|bR ?_
  exact⟨trivial,_,rfl,[],lf⟩
 ·refine sR<|rN ?_;refine rC<|zW ?_;refine rC ?_;refine rQ iE ?_;refine rC ?_;refine zJ<|kS<|sR ?_;refine rC ?_;refine rQ iA ?_;refine rQ iL ?_;refine rQ (ak hp rfl rfl (aj (aj (aj ab))) (.inl rfl) (fun _=>rfl)) ?_;iterate 5 refine rC ?_
  refine nR<|rC ?_;refine rQ iA ?_;refine rQ iL ?_;refine rQ (ak ha rfl rfl (aj ab) (.inl rfl) (fun _=>rfl)) ?_;iterate 5 refine rC ?_
  refine nR<|rC ?_;refine rQ iA ?_;refine rQ iL ?_;refine rQ (ak hu rfl rfl (aj ab) (.inl rfl) (fun _=>rfl)) ?_;iterate 5 refine rC ?_
  refine nQ<|aE (by kernel_rfl) ?_;refine dC [4] [] ?_;refine dQ [34] [] (bf (m:=puV k) aa rfl rfl rfl hw) ?_;refine dC [6] [] ?_;refine dC [8] [] ?_;refine dQ [35,36,37] [] iS ?_;refine dC [3] [] ?_;refine dC [39] [] ?_;refine ai [40,5] rfl rfl rfl rfl ?_;refine ai [40,41] rfl rfl rfl rfl ?_;refine dQ [40,42] [] iG ?_;refine dC [43] [] ?_;refine ai [44,7] rfl rfl rfl rfl ?_;refine ai [44,45] rfl rfl rfl rfl ?_;refine dQ [44,46] [] iG ?_;refine bI [2,38] [64] (aD aa rfl rfl rfl ⟨_,⟨rfl,rfl,rfl⟩,rfl⟩ rfl) ?_;refine dC [47] [] ?_;refine aB (by kernel_rfl)<|aM<|bR ?_
  exact⟨trivial,_,rfl,[],lf⟩
 ·refine sR<|rN ?_;refine rC<|zW ?_;refine rC ?_;refine rQ iE ?_;refine rC ?_;refine zJ<|kS<|sR ?_;refine rC ?_;refine rQ iA ?_;refine rQ iL ?_;refine rQ (ak hp rfl rfl (aj (aj (aj ab))) (.inl rfl) (fun _=>rfl)) ?_;iterate 5 refine rC ?_
  refine nR<|rC ?_;refine rQ iA ?_;refine rQ iL ?_;refine rQ (ak ha rfl rfl (aj ab) (.inl rfl) (fun _=>rfl)) ?_;iterate 5 refine rC ?_
  refine nR<|rC ?_;refine rQ iA ?_;refine rQ iL ?_;refine rQ (ak hu rfl rfl (aj ab) (.inl rfl) (fun _=>rfl)) ?_;iterate 5 refine rC ?_
  refine nQ<|aE (by kernel_rfl) ?_;refine dC [4] [] ?_;refine dQ [34] [] (bf (m:=puV k) aa rfl rfl rfl hw) ?_;refine dC [6] [] ?_;refine dC [8] [] ?_;refine dQ [35,36,37] [] iS ?_;refine dC [3] [] ?_;refine dC [39] [] ?_;refine ai [40,5] rfl rfl rfl rfl ?_;refine ai [40,41] rfl rfl rfl rfl ?_;refine dQ [40,42] [] iG ?_;refine dC [43] [] ?_;refine ai [44,7] rfl rfl rfl rfl ?_;refine ai [44,45] rfl rfl rfl rfl ?_;refine dQ [44,46] [] iG ?_;refine bI [2,38] [64] (aD aa rfl rfl rfl ⟨_,⟨rfl,rfl,rfl⟩,rfl⟩ rfl) ?_;refine dC [47] [] ?_;refine aB (by kernel_rfl)<|aM<|bR ?_
  exact⟨trivial,_,rfl,[],lf⟩
 ·refine sR<|rN ?_;refine rC<|zW ?_;refine rC ?_;refine rQ iE ?_;refine rC ?_;refine zJ<|kS<|sR ?_;refine rC ?_;refine rQ iA ?_;refine rQ iL ?_;refine rQ (ak hp rfl rfl (aj (aj (aj ab))) (.inl rfl) (fun _=>rfl)) ?_;iterate 5 refine rC ?_
  refine nR<|rC ?_;refine rQ iA ?_;refine rQ iL ?_;refine rQ (ak ha rfl rfl (aj ab) (.inl rfl) (fun _=>rfl)) ?_;iterate 5 refine rC ?_
  refine nR<|rC ?_;refine rQ iA ?_;refine rQ iL ?_;refine rQ (ak hu rfl rfl (aj ab) (.inl rfl) (fun _=>rfl)) ?_;iterate 5 refine rC ?_
  refine nQ<|aE (by kernel_rfl) ?_;refine dC [4] [] ?_;refine dQ [34] [] (bf (m:=puV k) aa rfl rfl rfl hw) ?_;refine dC [6] [] ?_;refine dC [8] [] ?_;refine dQ [35,36,37] [] iS ?_;refine dC [3] [] ?_;refine dC [39] [] ?_;refine ae [40,5] [] rfl rfl rfl rfl (aw aa (fun K hk=>hk)) ?_;refine ae [40,41] [] rfl rfl rfl rfl (nf Tryz.underlying60 rfl) ?_;refine dQ [40,42] [] iU ?_;refine dC [43] [] ?_;refine ai [44,7] rfl rfl rfl rfl ?_;refine ai [44,45] rfl rfl rfl rfl ?_;refine dQ [44,46] [] iG ?_;refine bI [2,38] [64] (aD aa rfl rfl rfl ⟨_,⟨rfl,rfl,rfl⟩,rfl⟩ rfl) ?_;refine dC [47] [] ?_;refine aB (by kernel_rfl)<|aM<|bR ?_
  exact⟨trivial,_,rfl,[],lf⟩
 ·refine sR<|rN ?_;refine rC<|zW ?_;refine rC ?_;refine rQ iE ?_;refine rC ?_;refine zJ<|kS<|sR ?_;refine rC ?_;refine rQ iA ?_;refine rQ iL ?_;refine rQ (ak hp rfl rfl (aj (aj (aj ab))) (.inl rfl) (fun _=>rfl)) ?_;iterate 5 refine rC ?_
  refine nR<|rC ?_;refine rQ iA ?_;refine rQ iL ?_;refine rQ (ak ha rfl rfl (aj ab) (.inl rfl) (fun _=>rfl)) ?_;iterate 5 refine rC ?_
  refine nR<|rC ?_;refine rQ iA ?_;refine rQ iL ?_;refine rQ (ak hu rfl rfl (aj ab) (.inl rfl) (fun _=>rfl)) ?_;iterate 5 refine rC ?_
  refine nQ<|aE (by kernel_rfl) ?_;refine dC [4] [] ?_;refine dQ [34] [] (bf (m:=puV k) aa rfl rfl rfl hw) ?_;refine dC [6] [] ?_;refine dC [8] [] ?_;refine dQ [35,36,37] [] iS ?_;refine dC [3] [] ?_;refine dC [39] [] ?_;refine ae [40,5] [] rfl rfl rfl rfl (aw aa (fun K hk=>hk)) ?_;refine ae [40,41] [] rfl rfl rfl rfl (nf Tryz.underlying60 rfl) ?_;refine dQ [40,42] [] iU ?_;refine dC [43] [] ?_;refine ai [44,7] rfl rfl rfl rfl ?_;refine ai [44,45] rfl rfl rfl rfl ?_;refine dQ [44,46] [] iG ?_;refine bI [2,38] [64] (aD aa rfl rfl rfl ⟨_,⟨rfl,rfl,rfl⟩,rfl⟩ rfl) ?_;refine dC [47] [] ?_;refine aB (by kernel_rfl)<|aM<|bR ?_
  exact⟨trivial,_,rfl,[],lf⟩
 ·refine sR<|rN ?_;refine rC<|zW ?_;refine rC ?_;refine rQ iE ?_;refine rC ?_;refine zJ<|kS<|sR ?_;refine rC ?_;refine rQ iA ?_;refine rQ iL ?_;refine rQ (ak hp rfl rfl (aj (aj (aj ab))) (.inl rfl) (fun _=>rfl)) ?_;iterate 5 refine rC ?_
  refine nR<|rC ?_;refine rQ iA ?_;refine rQ iL ?_;refine rQ (ak ha rfl rfl (aj ab) (.inl rfl) (fun _=>rfl)) ?_;iterate 5 refine rC ?_
  refine nR<|rC ?_;refine rQ iA ?_;refine rQ iL ?_;refine rQ (ak hu rfl rfl (aj ab) (.inl rfl) (fun _=>rfl)) ?_;iterate 5 refine rC ?_
  refine nQ<|aE (by kernel_rfl) ?_;refine dC [4] [] ?_;refine dQ [34] [] (bf (m:=puV k) aa rfl rfl rfl hw) ?_;refine dC [6] [] ?_;refine dC [8] [] ?_;refine dQ [35,36,37] [] iS ?_;refine dC [3] [] ?_;refine dC [39] [] ?_;refine ae [40,5] [] rfl rfl rfl rfl (aw aa (fun K hk=>hk)) ?_;refine ae [40,41] [] rfl rfl rfl rfl (gu Tryz.underlying60 rfl) ?_;refine dQ [40,42] [] iU ?_;refine dC [43] [] ?_;refine ae [44,7] [] rfl rfl rfl rfl (aw aa (fun K hk=>hk)) ?_;refine ae [44,45] [] rfl rfl rfl rfl (nf Tryz.underlying60 rfl) ?_;refine dQ [44,46] [] iU ?_;refine bI [2,38] [64] (aD aa rfl rfl rfl ⟨_,⟨rfl,rfl,rfl⟩,rfl⟩ rfl) ?_;refine dC [47] [] ?_;refine aB (by kernel_rfl)<|aM<|bR ?_
  exact⟨trivial,_,rfl,[],lf⟩
 ·refine sR<|rN ?_;refine rC<|zW ?_;refine rC ?_;refine rQ iE ?_;refine rC ?_;refine zJ<|kS<|sR ?_;refine rC ?_;refine rQ iA ?_;refine rQ iL ?_;refine rQ (ak hp rfl rfl (aj (aj (aj ab))) (.inl rfl) (fun _=>rfl)) ?_;iterate 5 refine rC ?_
  refine nR<|rC ?_;refine rQ iA ?_;refine rQ iL ?_;refine rQ (ak ha rfl rfl (aj ab) (.inl rfl) (fun _=>rfl)) ?_;iterate 5 refine rC ?_
  refine nR<|rC ?_;refine rQ iA ?_;refine rQ iL ?_;refine rQ (ak hu rfl rfl (aj ab) (.inl rfl) (fun _=>rfl)) ?_;iterate 5 refine rC ?_
  refine nQ<|aE (by kernel_rfl) ?_;refine dC [4] [] ?_;refine dQ [34] [] (bf (m:=puV k) aa rfl rfl rfl hw) ?_;refine dC [6] [] ?_;refine dC [8] [] ?_;refine dQ [35,36,37] [] iS ?_;refine dC [3] [] ?_;refine dC [39] [] ?_;refine ae [40,5] [] rfl rfl rfl rfl (aw aa (fun K hk=>hk)) ?_;refine ae [40,41] [] rfl rfl rfl rfl (gu Tryz.underlying60 rfl) ?_;refine dQ [40,42] [] iU ?_;refine dC [43] [] ?_;refine ae [44,7] [] rfl rfl rfl rfl (aw aa (fun K hk=>hk)) ?_;refine ae [44,45] [] rfl rfl rfl rfl (gu Tryz.underlying60 rfl) ?_;refine dQ [44,46] [] iU ?_;refine bI [2,38] [64] (aD aa rfl rfl rfl ⟨_,⟨rfl,rfl,rfl⟩,rfl⟩ rfl) ?_;refine dC [47] [] ?_;refine aB (by kernel_rfl)<|aM<|bR ?_
  exact⟨trivial,_,rfl,[],lf⟩
def opW (w:List (List UInt8)):POp×Bool:=match w with
 | [k,i,d]=>(opV k i d,opOk k i d)
 | _=>(nN,false)
theorem fj (w:List (List UInt8)) (hw:∀x∈w,x.length≤1048576):FnIs Tryz.prog 103 [.d (.arr 1 strD w)] [] (opR (opW w).1 (opW w).2) []:=by
 by_cases h3:w.length=3
 ·obtain⟨k,i,d,rfl⟩:∃k i d,w=[k,i,d]:=by
   match w,h3 with
   | [k,i,d],_=>exact⟨k,i,d,rfl⟩
  have hk:=hw k (by simp)
  have hi:=hw i (by simp)
  exact mH k i d (by omega) (by omega) (hw d (by simp)) _ _ _ rfl rfl rfl
 ·have:=lP w h3
  rwa [show opW w=(nN,false) by
   unfold opW
   split
   ·exact absurd rfl h3
   ·rfl]
end Go.Proofs.YtpjiiolnfbfcbaaGreatDoor
