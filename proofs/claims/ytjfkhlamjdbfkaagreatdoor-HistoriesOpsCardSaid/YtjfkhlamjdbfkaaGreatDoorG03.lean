/- Texts of the proof: OJP, OJQ, Eng69, Eng70, Eng71, PT, PP, PP2, PR, PTab, PDat, PL, Eng72, Eng73, TryzPlain, P3, P4, Eng74, P5, PU, P6, PW, P7, P9, P10. -/
import Derived.Test.YtjfkhlamjdbfkaaGreatDoorRows
import Derived.Test.YtjfkhlamjdbfkaaGreatDoorG02
import Derived.ProofKit
import Derived.LaidMore
import Derived.OpenShut
import Derived.Stop.Joined
import Derived.HandedShaped
import Derived.Shelf.Vars
import Derived.Lay
import Derived.SevenTiedAt
import Derived.Lib.AppendStr
import Derived.Lib.DecodeN
import Derived.Lib.ItoaMem
import Derived.Lib.ParseIntB
import Derived.Lib.ParseIntBCases
import Derived.Test.YtjfkhlamjdbfkaaGreatDoorChecked
import Derived.Test.YtjfkhlamjdbfkaaGreatDoorG01
import Derived.KernelRfl
import Derived.Lib.Split
import Derived.Lib.CountLaws
import Derived.Lib.CutLaws
import Derived.Lib.IndexBytes
import Derived.Shelf.Strings.Builder1
import Derived.Shelf.Small.Strs
import Derived.Shelf.Strconv.Atoi
import Derived.Shelf.Strconv.Itoa0
import Derived.Shelf.Strconv.Itoa1
import Derived.Shelf.LaysM
import Derived.Shelf.Strconv.Itoa2
import Derived.Shelf.Strconv.Itoa3
import Derived.Shelf.Strconv.AtoiErrFast
import Derived.Shelf.Strconv.ParseIntEmpty
import Derived.Shelf.Strconv.AtoiFail
import Derived.Shelf.Strconv.Clone
import Derived.Shelf.Strconv.SyntaxError
import Derived.Shelf.LaysC
import Derived.Shelf.Strconv.ToError
import Derived.Shelf.Strconv.Lower
import Derived.Shelf.Strconv.ParseUint10
import Derived.Shelf.Strconv.ParseUint10Empty
import Derived.Shelf.Strconv.ParseUint10Any
import Derived.Shelf.Strconv.ParseInt10
import Derived.Shelf.Strconv.AtoiLong
import Derived.Shelf.Strconv.AtoiInnerAll
import Derived.Shelf.Strconv.RangeError
import Derived.Shelf.Strconv.ToErrorRange
import Derived.Shelf.Strconv.AtoiAll
import Derived.Ground.MpProg
import Derived.Shelf.Pu.ParseUintPublic10
import Derived.Shelf.Strings.Search1
import Derived.Shelf.Strings.Search2
import Derived.Shelf.Strings.Search3
import Derived.Shelf.Strings.Cut
import Derived.Shelf.Strings.Count
import Derived.Shelf.Strings.Shaped
import Derived.Shelf.Strings.Prefix
import Derived.Shelf.Strings.Split
import Derived.Shelf.Strings.SplitShaped
import Derived.Shelf.Unicode.DecodeSlow
import Derived.Test.YtjfkhlamjdbfkaaGreatDoorProg
import Derived.Lib.SmallJoins
import Derived.Lib.IndexLaws

set_option linter.unusedVariables false
set_option linter.unusedSimpArgs false
set_option linter.unusedSectionVars false
set_option maxRecDepth 10000

namespace Go.Proofs.YtjfkhlamjdbfkaaGreatDoor
open Go.ChangeShapes Go.WideShapes Go.ChangeAt Go.RowKit Go.Eng
theorem own:ownKnob Tryz.prog.godebug=none:=by kernel_rfl
theorem qQ:laidOutB Tryz.prog=true:=by kernel_rfl
theorem gPow : Tryz.prog.globalNamed "internal/strconv.uint64pow10" = some 3 := by kernel_rfl
theorem gSyn : Tryz.prog.globalNamed "strconv.ErrSyntax" = some 1 := by kernel_rfl
theorem gRan : Tryz.prog.globalNamed "strconv.ErrRange" = some 2 := by kernel_rfl
theorem tPow:(Tryz.prog.globals[3]?).map (·.type)=some 171:=by kernel_rfl
theorem tSyn:(Tryz.prog.globals[1]?).map (·.type)=some 90:=by kernel_rfl
theorem tRan:(Tryz.prog.globals[2]?).map (·.type)=some 90:=by kernel_rfl
theorem fZ {P:Program} {w:World} {n:String} {g:Nat} {cs:Array Value} (hg:P.globalNamed n=some g) (h:w.var? P n=some cs):∃t fr,w.heap[g]?=some (.cells cs t fr):=by
 unfold World.var? at h
 rw[hg]at h
 simp only[Option.bind_some]at h
 split at h
 ·rename_i t fr hh
  cases h
  exact⟨_,_,hh⟩
 ·cases h
theorem uu {W:World} (hL:laidMetH Tryz.prog Rows.historiesOpsRow.laid W) (hsh:W.ShapedOpen Tryz.prog):∀x∈mH,x.2 (W.heap[x.1]?)∧x.1<W.heap.size:=by
 rw[MakeChecks.laidMetH_plain _ _ _ (by kernel_rfl)]at hL
 obtain⟨ps,⟨_,_,_,_,_,_,_,_,_,_,⟨_,_,_,_,_,_,_,_,_,_,⟨g3,t3,cs3,f3,p3,q3,hg3,ht3,hv3,hd3,⟨_,_,_,_,_,_,_,_,_,_,⟨g2,t2,cs2,f2,p2,q2,hg2,ht2,hv2,hd2,⟨g1,t1,cs1,f1,p1,q1,hg1,ht1,hv1,hd1,_,_⟩,_⟩,_⟩,_⟩,_⟩,_⟩,_,_⟩:=hL
 obtain rfl:=Option.some.inj (gPow.symm.trans hg3)
 obtain rfl:=Option.some.inj (gRan.symm.trans hg2)
 obtain rfl:=Option.some.inj (gSyn.symm.trans hg1)
 obtain rfl:=Option.some.inj (tPow.symm.trans ht3)
 obtain rfl:=Option.some.inj (tRan.symm.trans ht2)
 obtain rfl:=Option.some.inj (tSyn.symm.trans ht1)
 obtain⟨_,u2,v2,hc2,_,_⟩:=iface_of_trod Tryz.underlying90 hd2
 obtain⟨_,u1,v1,hc1,_,_⟩:=iface_of_trod Tryz.underlying90 hd1
 have hc3:cs3.toList=Lib.pow10Tab.map fun z=>Value.int .u64 z:=Lib.cells_of_tab (zs:=Lib.pow10Tab) Tryz.underlying171 Tryz.underlying147 (by kernel_rfl) (by kernel_rfl) hd3
 obtain⟨a3,b3,hb3⟩:=fZ gPow hv3
 obtain⟨a2,b2,hb2⟩:=fZ gRan hv2
 obtain⟨a1,b1,hb1⟩:=fZ gSyn hv1
 obtain⟨cs0,hh0,hs0,hr0⟩:=hsh.1 0 #[.int .i64 0] 3 (of_decide_eq_true (by kernel_rfl)) (by kernel_rfl)
 obtain⟨m,hm⟩:=cell_of_shapedOpen_int (g:=0) (zero := #[.int .i64 0]) (t:=3) hsh (of_decide_eq_true (by kernel_rfl)) (by kernel_rfl) rfl (by kernel_rfl) (by kernel_rfl) Tryz.underlying3
 have he0:∃fr,W.heap[0]?=some (.cells #[.int .i64 m] 3 fr):=by
  have h1:cs0[0]?=some (.int .i64 m):=by
   have:=hm
   simp only[World.cell?,hh0]at this
   exact this
  have h2:cs0 = #[.int .i64 m]:=by
   apply Array.ext'
   obtain⟨l⟩:=cs0
   have hl:l.length=1:=by simpa using hs0
   match l,hl,h1 with
   | [x],_,h1=>simpa using h1
  exact⟨_,by rw[hh0,h2]⟩
 obtain⟨fr0,he0⟩:=he0
 have e1:cs1 = #[.iface u1 v1]:=Array.ext' hc1
 have e2:cs2 = #[.iface u2 v2]:=Array.ext' hc2
 have e3:cs3=(Lib.pow10Tab.map fun z=>Value.int .u64 z).toArray:=Array.ext' (by simpa using hc3)
 intro x hx
 simp only[mH,List.mem_cons,List.not_mem_nil,or_false]at hx
 rcases hx with rfl | rfl | rfl | rfl
 ·exact⟨⟨m,3,fr0,he0⟩,(Array.getElem?_eq_some_iff.1 he0).1⟩
 ·refine⟨⟨.iface u1 v1,a1,b1,?_,.inr ⟨u1,v1,rfl⟩⟩,(Array.getElem?_eq_some_iff.1 hb1).1⟩
  rw[hb1,e1]
 ·refine⟨⟨.iface u2 v2,a2,b2,?_,.inr ⟨u2,v2,rfl⟩⟩,(Array.getElem?_eq_some_iff.1 hb2).1⟩
  rw[hb2,e2]
 ·refine⟨⟨a3,b3,?_⟩,(Array.getElem?_eq_some_iff.1 hb3).1⟩
  rw[hb3,e3]
theorem sv {H:Type} {enc:TypeId×Value→H} {a:Assume} {C:Checked} {os:Os} {f:FuncId} {fn:Func} {s:ChangeSpec} {conds:List PathCond} {apart fresh handsOn again:Bool} {X:World→Array Value→Prop}
  (hX:∀(w w':World) (args:Array Value),w.heap=w'.heap→X w args→X w' args)
  (own:ownKnob C.prog.godebug=none) (started:os.Started) (noInit:C.prog.inits.idxOf? f=none) (hfn:C.prog.funcs[f]?=some fn)
  (witness:∃(w:World) (tape:Tape) (i:Input),w.os=os∧(w.forCall tape i).Shaped C.prog∧i.vars=[]∧Input.okWide C.prog (w.forCall tape i) .any w.heap.size f i ∧
   ((s.pre enc C.prog fn conds apart (w.forCall tape i).memory i.args∧X (w.forCall tape i).memory i.args)∧sizedMet enc C.prog fn (OpenSpec.ofChange s) apart (w.forCall tape i).memory i.args)∧a.holds C.prog (lone (Frame.enter C.prog f i.args .normal) [] (w.forCall tape i)))
  (contract:∀(W:World) (base:Nat) (args:Array Value) (ds gs:List (DataW H)) (before:List MemPlace),
   (∀(j:Nat) t v,fn.params[j]?=some t→args[j]?=some v→Value.okWide C.prog W .any base t v) →
   DataW.Whole enc C.prog fn.params.toList s.vars apart W args.toList ds gs before →
   X W args→W.ShapedOpen C.prog →
   Calls C.prog f args W fun e W'=>∃v,e=.returned v∧s.post enc C.prog fn apart fresh handsOn again W args v W') :
  ReturnsInHanded a C os f .any (fun w args=>(s.pre enc C.prog fn conds apart w args∧X w args)∧sizedMet enc C.prog fn (OpenSpec.ofChange s) apart w args) (s.post enc C.prog fn apart fresh handsOn again):=by
 refine returnsInHanded_of_calls own started noInit witness ?_
 intro w tape i _ hsh _ hok hpre _
 obtain⟨_,_,_,fn',hfn',_,_,_,_,hval⟩:=hok
 have e:fn'=fn:=Option.some.inj (hfn'.symm.trans hfn)
 subst e
 obtain⟨⟨⟨ds,gs,before,hw,hc⟩,hx⟩,hz⟩:=hpre
 have hw':=DataW.Whole.of_heap (w':=w.forCall tape i) (by rfl) hw
 refine (contract (w.forCall tape i) w.heap.size i.args ds gs before hval hw' (hX _ _ _ (by rfl) hx) hsh).mono fun e W' ⟨v,he,hp⟩=>?_
 subst he
 exact ChangeSpec.post_blind hp
end Go.Proofs.YtjfkhlamjdbfkaaGreatDoor
namespace Go.Proofs.YtjfkhlamjdbfkaaGreatDoor
open Go
theorem and2 {a b:Bool} (h:a=true) (k:b=true):(a&&b)=true:=by rw[h,k]; rfl
theorem vv:mapsRowed Tryz.prog=true:=by kernel_rfl
theorem vx:(Rows.historiesOpsRow.plainKeys==Tryz.prog.plainKeys)=true:=by kernel_rfl
theorem tI:Tryz.prog.stopsHeard=true:=by kernel_rfl
theorem tJ:Tryz.prog.mayEnter=true:=by kernel_rfl
theorem tH:(Rows.historiesOpsRow.lifted==Tryz.prog.liftsFinal)=true:=by kernel_rfl
theorem vw:(Tryz.prog.make==some Rows.historiesOpsRow.make)=true:=by kernel_rfl
end Go.Proofs.YtjfkhlamjdbfkaaGreatDoor
namespace Go.Eng
open Go.RowKit
section
variable {P : Program} {T : Tab} {env : Env} {h : Upds} {n : Nat}
theorem qY {κ:Type} [DecidableEq κ] {σ:Place} {w w1:World} {X:Nat→Prop} {f:κ→Value} {kt m:Nat} {ds:TypeDesc} (hm:m≤10000) (hu:P.underlying kt=some ds) (he:∀a b,EqOk P m kt (.sc (f a)) (.sc (f b)) (decide (a=b)))
  (hs:∀a b,Instr.sameNow ds (f a) (f b)=some (decide (a=b))) {k:κ} {u:Value} (hk:RelV σ w X (.d (.sc (f k))) u) :
  ∀(l:List (κ×AV)) (es:List MapEntry) (i:Nat),cd σ w X (fun k=>.sc (f k)) l es→∃r,Instr.findNow ds u es i=some r∧(Instr.findAsking kt u es i).run P w1=.ok r w1
 | [],es,i,h=>by
  rw[show es=[] from h]
  exact⟨none,rfl,by simp[Instr.findAsking]⟩
 | (k',v)::l,es,i,h=>by
  obtain⟨e,es',rfl,h1,h2,h3⟩:=h
  have e1:=(RelV.sc.1 hk).1
  have e2:=(RelV.sc.1 h1).1
  have heq:=he k k' σ w1 X u e.key (10000-m) (RelV.sc.2 (RelV.sc.1 hk)) (RelV.sc.2 (RelV.sc.1 h1))
  rw[show 10000-m+m=10000 by omega]at heq
  have hsn:Instr.sameNow ds u e.key=some (decide (k=k')):=by rw[e1,e2]; exact hs k k'
  by_cases hkk:k=k'
  ·rw[decide_eq_true hkk]at heq hsn
   exact⟨some (i,e.val),by simp only[Instr.findNow,hsn],by simp[Instr.findAsking,Op.equal,Op.maxDepth,heq]⟩
  ·rw[decide_eq_false hkk]at heq hsn
   obtain⟨r,g1,g2⟩:=qY hm hu he hs hk l es' (i+1) h3
   exact⟨r,by simp only[Instr.findNow,hsn]; exact g1,by simp only[Instr.findAsking,Op.equal,Op.maxDepth,Sem.run_bind,heq,Result.andThen_ok]; simpa using g2⟩
theorem oL {κ:Type} [DecidableEq κ] {f:κ→Value} {kt m:Nat} {ds:TypeDesc} (hm:m≤10000) (hu:P.underlying kt=some ds) (ho:∀k,ru P m kt (.sc (f k))) (he:∀a b,EqOk P m kt (.sc (f a)) (.sc (f b)) (decide (a=b)))
  (hs:∀a b,Instr.sameNow ds (f a) (f b)=some (decide (a=b))) (hb:∀k n,Instr.sameBits n (f k) (f k)=true):fk P kt (fun k=>.sc (f k)) m :=
 ⟨hm,ho,he,fun σ w w1 X k u l es hk hl=>by
  obtain⟨r,g1,g2⟩:=qY (w1:=w1) hm hu he hs hk l es 0 hl
  simp only[Instr.findKey,Sem.run_bind,run_underlying hu,Result.andThen_ok,g1,Sem.run_pure,g2],fun k=>hb k⟩
theorem ny {kt:Nat} (hu:P.underlying kt=some .string):fk P kt (fun l:List UInt8=>strD l) 1:=by
 refine oL (f:=fun l=>.string (mkS l)) (by decide) hu (fun k=>qe hu) (fun a b=>?_) (fun a b=>?_) (fun k n=>by
  have:(mkS k==mkS k)=true:=by rw[qA]; exact decide_eq_true rfl
  cases n <;> simpa[Instr.sameBits]using this)
 ·have:=sD (P:=P) (a:=mkS a) (b:=mkS b) hu
  rwa [iJ]at this
 ·show some ((mkS a==mkS b))=_
  rw[←iJ,qA]
theorem sk {kt:Nat} {ki:IntKind} (hu:P.underlying kt=some (.int ki)) (k:IntKind):fk P kt (fun a:Int=>.sc (.int k a)) 1:=by
 refine oL (f:=fun a=>.int k a) (by decide) hu (fun a=>vT hu) (fun a b=>uE hu) (fun a b=>?_) (fun k n=>by cases n <;> simp[Instr.sameBits])
 show (if k=k then some (a==b) else none)=_
 rw[if_pos rfl,Bool.beq_eq_decide_eq]
theorem cE {t kt et:TypeId} {κ:Type} [DecidableEq κ] {enc:κ→D} {m r j:Nat} {x y:Operand} {k:κ} {l:List (κ×AV)} {v:AV} (K:fk P kt enc m) (ht:P.underlying t=some (.map kt et))
  (hx:au env x=some (.mapr r)) (hy:au env y=some (.d (enc k))) (hr:bd h r=some (.mo (mapC enc l))) (hf:cY k l 0=some (j,v)) :
  aq P (.lookup t x y true) env h n (some (.tup (.acons v (.acons (.bool true) .anil)))) []:=.of_comes fun C G st σ w a o ho hA hd hst hn=>by
 have h1:=(an hst (hA.ev hx)).1
 have h2:=(an hst (hA.ev hy)).1
 have hrow:=hA.row _ _ hr
 obtain⟨b,c,hs,hux⟩:=RelV.mapr.1 h1
 obtain⟨b',es,hb1,hb2,hb3,hb4⟩:=hst.rows r _ hrow
 rw[hs]at hb2
 cases hb2
 have hl:=(cv l _).1 hb4
 have hfd:=K.found h2 hl
 rw[hf]at hfd
 obtain⟨e,e1,e2,e3,e4,e5⟩:=hfd
 refine .quiet (u :=.tuple #[e.val,.bool true]) hst hd ⟨rfl,rfl⟩ ?_ ?_ ?_
 ·have hget:(getObj b).run P w=.ok (.map es es.size) w:=by simp[getObj,Sem.run,hb3]
  simp only[execOp,ho,Instr.lookup,Sem.run_bind,run_underlying ht,Result.andThen_ok,hux,hget,Sem.run_pure,K.check h2,e1]
  rfl
 ·unfold RelV
  rw[if_neg (by simp[AV.isAgg])]
  exact⟨[e.val,.bool true],rfl,e.val,[.bool true],rfl,e4,.bool true,[],rfl,RelV.sc.2 ⟨rfl,rfl⟩,rfl⟩
 ·exact⟨(cV l).1 (hst.rowsG r _ hrow).2 (k,v) (List.mem_of_getElem? e5),trivial,trivial⟩
theorem iK {t kt et:TypeId} {κ:Type} [DecidableEq κ] {enc:κ→D} {m r:Nat} {x y:Operand} {k:κ} {l:List (κ×AV)} {d:D} (K:fk P kt enc m) (ht:P.underlying t=some (.map kt et)) (hz:it P et d)
  (hx:au env x=some (.mapr r)) (hy:au env y=some (.d (enc k))) (hr:bd h r=some (.mo (mapC enc l))) (hf:cY k l 0=none) :
  aq P (.lookup t x y true) env h n (some (.tup (.acons (.d d) (.acons (.bool false) .anil)))) []:=.of_comes fun C G st σ w a o ho hA hd hst hn=>by
 have h1:=(an hst (hA.ev hx)).1
 have h2:=(an hst (hA.ev hy)).1
 have hrow:=hA.row _ _ hr
 obtain⟨b,c,hs,hux⟩:=RelV.mapr.1 h1
 obtain⟨b',es,hb1,hb2,hb3,hb4⟩:=hst.rows r _ hrow
 rw[hs]at hb2
 cases hb2
 have hl:=(cv l _).1 hb4
 have hfd:=K.found h2 hl
 rw[hf]at hfd
 obtain⟨z,hz,hzr⟩:=hz.run
 refine .quiet (u :=.tuple #[z,.bool false]) hst hd ⟨rfl,rfl⟩ ?_ ?_ ⟨trivial,trivial,trivial⟩
 ·have hget:(getObj b).run P w=.ok (.map es es.size) w:=by simp[getObj,Sem.run,hb3]
  simp only[execOp,ho,Instr.lookup,Sem.run_bind,run_underlying ht,Result.andThen_ok,hux,hget,Sem.run_pure,K.check h2,hfd,hz]
  rfl
 ·unfold RelV
  rw[if_neg (by simp[AV.isAgg])]
  exact⟨[z,.bool false],rfl,z,[.bool false],rfl,hzr _ _ _,.bool false,[],rfl,RelV.sc.2 ⟨rfl,rfl⟩,rfl⟩
end
end Go.Eng
namespace Go.Eng
open Go.RowKit Go.Lib
theorem uU (l:List Int):cat (fun i=>[Value.int .u8 (l.getD i 0)]) l.length=l.map fun v=>Value.int .u8 v:=by
 have key:∀n,n≤l.length→cat (fun i=>[Value.int .u8 (l.getD i 0)]) n=(l.take n).map fun v=>Value.int .u8 v:=by
  intro n
  induction n with
  | zero=>intro _; rfl
  | succ n ih =>
   intro hn
   have hlt:n<l.length:=by omega
   have e:l.take (n+1)=l.take n++[l[n]]:=by rw[List.take_add_one,List.getElem?_eq_getElem hlt]; rfl
   have e2:l.getD n 0=l[n]:=by rw[List.getD_eq_getElem?_getD,List.getElem?_eq_getElem hlt]; rfl
   rw[cat,ih (by omega),e,List.map_append,e2]
   rfl
 rw[key _ (Nat.le_refl _),List.take_length]
section
variable {P : Program} {T : Tab} {env : Env} {h : Upds} {n : Nat}
theorem kH (hT:ao P T) {t t2 e r:Nat} {re:TyR} {ex:Bool} {xs:List Int} {l:List UInt8} {x y:Operand} (ht:aW T t=some (.slice e)) (ht2:P.underlying t2=some .string) (he:lk T e=some re) (hs:re.size=1)
  (hx:au env x=some (.own r 0 xs.length 1 none)) (hrow:bd h r=some (.ds e 1 ex bt xs)) (hy:au env y=some (.d (strD l))) (hys:0<(byI l).length) (hlen:xs.length+(byI l).length≤maxLen) (hbytes:(xs.length+(byI l).length)*re.bytes≤140737488355328) :
  aq P (.call { callee :=.builtin .append,args := #[x,y],argTypes := #[t,t2] }) env h n (some (.own n 0 (xs.length+(byI l).length) 1 none)) [(n,some (.ds e 1 false bt (xs++byI l))),(r,none)]:=.of_comes fun C G st σ w a o ho hA hd hst hn=>by
 obtain⟨hx1,hx2⟩:=an hst (hA.ev hx)
 obtain⟨hu,_⟩:=RelV.sc.1 (an hst (hA.ev hy)).1
 have hsz:(mkS l).size=(byI l).length:=by rw[co]; simp[byI]
 have hsc:strCells (mkS l)=(byI l).map fun v=>Value.int .u8 v:=by simp[strCells,cH,byI]
 obtain⟨g,hg,hgs⟩:∃g:Nat→List Value,(∀i (h:i<(byI l).length),Enc w (st.X C.X0 σ) (bt (byI l)[i]) (g i)∧(g i).length=1)∧cat g (byI l).length=strCells (mkS l):=by
  refine⟨fun i=>[Value.int .u8 ((byI l).getD i 0)],fun i hi=>⟨⟨by show[Value.int .u8 ((byI l).getD i 0)]=_; rw[List.getD_eq_getElem?_getD,List.getElem?_eq_getElem hi]; rfl,rfl⟩,rfl⟩,?_⟩
  rw[hsc,uU]
 have hr:=hA.row _ _ hrow
 obtain⟨i,z,hi,hi1,hi2,hi3,hi4⟩:=(hT e re he).info
 obtain⟨ud,hud,hdd⟩:=aQ hT ht
 cases hdd
 have hz:z.cells.size=1:=by
  have h1:=Enc.len _ _ (Enc.closed w (fun _=>False) _ (hT e re he).zero)
  rw[hi4]at h1
  simpa[(hT e re he).zsize,hs]using h1
 have hi1':i.size=1:=by rw[hi1,hs]
 have hdm:(mkS l).data.map (fun b:UInt8=>Value.int .u8 (b.toNat:Int))=(cat g (byI l).length).toArray:=by
  rw[hgs]
  apply Array.ext'
  simp[strCells]
 have hnn:¬G n:=hn n (Nat.le_refl _) (by omega)
 have hgl:(cat g (byI l).length).length=(byI l).length*1:=ce _ fun i hi=>(hg i hi).2
 have fin:∀(b c:Nat) (cur:Array Value) (w':World),(∃c0,σ r=some (b,c0))∨w.heap.size≤b→w.grownBy w' ((σ r).map (·.1))→w'.heap[b]?=some (.cells cur e (0,0))→cur.size=c*1→xs.length+(byI l).length≤c→c≤maxLen →
   (∃f:Nat→List Value,(∀i (h:i<xs.length),Enc w (st.X C.X0 σ) (bt xs[i]) (f i)∧(f i).length=1)∧cur.toList.take ((xs.length+(byI l).length)*1)=cat f xs.length++cat g (byI l).length) →
   (Builtin.append_ #[t,t2] o.type #[a.eval x,a.eval y]).run P w=.ok (.slice (some ⟨b,0,none⟩) (xs.length+(byI l).length) c) w' →
   bR P C G st n o a w (fun v' u'=>v'=some (.own n 0 (xs.length+(byI l).length) 1 none)∧u'=[(n,some (.ds e 1 false bt (xs++(byI l)))),(r,none)]):=by
  rintro b c cur w' hb hgr hh hcs hle hcm ⟨f,hf,htk⟩ hrun
  obtain⟨F,hF,hFc⟩:=ir hf hg
  have hsw:=hst.swap hnn hr hgr (c:=c) hb (.ds e 1 false bt (xs++(byI l))) trivial (fun σ' X' hk1 hk2 hσn=>by
   refine .inr ⟨b,c,cur,hσn,(fun e=>nomatch e),hh,hcs,by simpa using hle,hcm,F,fun i hi=>⟨hk2 _ _ (hF i hi).1,(hF i hi).2⟩,?_⟩
   rw[List.length_append,htk,←hFc,List.length_append])
  have hval:RelV (fun q=>if q=n then some (b,c) else σ q) w' ((st.upd [(n,some (.ds e 1 false bt (xs++(byI l)))),(r,none)]).X C.X0 (fun q=>if q=n then some (b,c) else σ q)) (.own n 0 (xs.length+(byI l).length) 1 none) (.slice (some ⟨b,0,none⟩) (xs.length+(byI l).length) c):=
   RelV.own.2 (.inr ⟨b,c,⟨b,0,none⟩,by simp,by simp,by simpa using hle,by simp,by simpa using hle,fun _=>by simp⟩)
  refine⟨_,_,.value (.slice (some ⟨b,0,none⟩) (xs.length+(byI l).length) c),_,w',_,fun q=>G q∨q=n,⟨rfl,rfl⟩,?_,.inl rfl,by rw[St.put_upd]; exact hsw.set hd hval (.inr rfl),fun r hr=>Or.inl hr,fun r hr=>Or.imp id (fun h=>⟨by omega,by omega⟩) hr⟩
  simp[execOp,ho,resolve,invoke,builtin,hrun]
 have h63:¬(9223372036854775807<xs.length+(byI l).length):=by simp only[maxLen]at hlen; omega
 rcases hst.rows r _ hr with ⟨hσ,hxs⟩ | ⟨b,c,cur,hσ,_,hh,hcs,hle,hcm,f,hf,htk⟩
 ·rcases RelV.own.1 hx1 with ⟨_,_,_,_,hv⟩ | ⟨b,c,_,hσ',_⟩
  ·subst hxs
   have hrun:=run_append_nil_string (P:=P) w t t2 o.type e i z hud ht2 hi hi3 (mkS l) (by rw[hsz]; exact hys) (by rw[hsz]; omega) (by rw[hsz,hi2]; simp at hbytes; omega)
   rw[hdm,hsz]at hrun
   refine fin w.heap.size (grownCap w (byI l).length 0 e) ((cat g (byI l).length).toArray++Builtin.zeroCells z.cells (grownCap w (byI l).length 0 e-(byI l).length)) _ (.inr (Nat.le_refl _)) (cX w _ _) (heap_alloc_new w.drew _) ?_ ?_ (grownCap_le_maxLen w (byI l).length 0 e (by simpa using hlen)) ⟨g,fun i hi=>by simp at hi,?_⟩ (by rw[hv,hu,hrun]; simp)
   ·have hge:=grownCap_ge w (byI l).length 0 e
    simp only[Array.size_append,List.size_toArray,size_zeroCells,hz,hgl,←Nat.add_mul]
    congr 1; omega
   ·simpa using grownCap_ge w (byI l).length 0 e
   ·simp only[Array.toList_append,List.length_nil,Nat.zero_add,cat,List.nil_append]
    rw[←hgl]
    exact List.take_left
  ·rw[hσ]at hσ'; cases hσ'
 ·rcases RelV.own.1 hx1 with ⟨hσ',_⟩ | ⟨b',c',a',hσ',hv,_,_,hlec,had⟩
  ·rw[hσ]at hσ'; cases hσ'
  ·rw[hσ]at hσ'
   cases hσ'
   simp only[Option.getD_none,Nat.sub_zero]at hv hlec
   have hfl:(cat f xs.length).length=xs.length*1:=ce _ fun i hi=>(hf i hi).2
   by_cases hroom:xs.length+(byI l).length≤c
   ·have:a'=⟨b,0,none⟩:=by have:=had (by omega); simpa using this
    subst this
    have hrun:=run_append_room_string (P:=P) w t t2 o.type e i hud ht2 hi hi1' b xs.length c cur hh (mkS l) (by rw[hsz]; exact hroom) (by rw[hsz,hcs]; omega)
    rw[hsz,←hgs]at hrun
    refine fin b c _ _ (.inl ⟨c,hσ⟩) ?_ (setRow_heap w b cur _ e _ hh) ?_ hroom hcm ⟨f,hf,?_⟩ (by rw[hv,hu,hrun])
    ·exact⟨rfl,rfl,rfl,by simp,fun k _ hk=>setRow_other w b k _ (fun e=>hk (by rw[hσ]; simp[e]))⟩
    ·simp only[List.size_toArray,List.length_append,List.length_take,List.length_drop,Array.length_toList,hi1,hs,hgl,hcs]
     omega
    ·rw[Nat.mul_one]at htk
     rw[htk,List.append_assoc,←List.append_assoc]
     have:(xs.length+(byI l).length)*1=(cat f xs.length++cat g (byI l).length).length:=by rw[List.length_append,hfl,hgl,Nat.add_mul]
     rw[this]
     exact List.take_left
   ·have hrun:=run_append_grow_string (P:=P) w t t2 o.type e i z hud ht2 hi hi3 a' xs.length c (cat f xs.length) (by rw[hfl,hi1,hs]) (fun j u hj=>by
     have hjl:j<xs.length*1:=by rw[←hfl]; exact (List.getElem?_eq_some_iff.1 hj).1
     have hc0:0<c:=by
      rcases Nat.eq_zero_or_pos c with rfl | h1
      ·have:xs.length=0:=by omega
       rw[this]at hjl; omega
      ·exact h1
     have:a'=⟨b,0,none⟩:=by have:=had hc0; simpa using this
     subst this
     rw[cZ,cell_of_row w b _ cur e (0,0) hh]
     rw[←htk,List.getElem?_take,if_pos hjl]at hj
     rw[Nat.zero_add,←Array.getElem?_toList]
     exact hj) (mkS l) (by rw[hsz]; omega) (by rw[hsz]; omega) (by rw[hsz]; exact growslice_fits (by omega) (by rw[hi2]; exact hbytes))
    rw[hsz,←hgs]at hrun
    refine fin w.heap.size _ _ _ (.inr (Nat.le_refl _)) (cX w _ _) (heap_alloc_new w.drew _) ?_ (grownCap_ge w _ c e) (grownCap_le_maxLen w _ c e hlen) ⟨f,hf,?_⟩ (by rw[hv,hu,hrun])
    ·have hge:=grownCap_ge w (xs.length+(byI l).length) c e
     simp only[Array.size_append,List.size_toArray,size_zeroCells,hz,hgl,hfl,←Nat.add_mul]
     congr 1; omega
    ·simp only[Array.toList_append]
     have:(xs.length+(byI l).length)*1=(cat f xs.length++cat g (byI l).length).length:=by rw[List.length_append,hfl,hgl,Nat.add_mul]
     rw[this]
     exact List.take_left
theorem l6 (hT:ao P T) {t t2 e r L:Nat} {re:TyR} {ex:Bool} {xs:List Int} {l:List UInt8} {x y:Operand} (ht:aW T t=some (.slice e)) (ht2:P.underlying t2=some .string) (he:lk T e=some re) (hs:Nat.beq re.size 1=true)
  (hx:au env x=some (.own r 0 L 1 none)) (hL:L=xs.length) (hrow:bd h r=some (.ds e 1 ex bt xs)) (hy:au env y=some (.d (strD l))) (hys0:0<l.length) (hlen0:xs.length+l.length≤1048576) (hbyt:Nat.ble re.bytes 134217728=true) :
  aq P (.call { callee :=.builtin .append,args := #[x,y],argTypes := #[t,t2] }) env h n (some (.own n 0 (xs.length+l.length) 1 none)) [(n,some (.ds e 1 false bt (xs++byI l))),(r,none)]:=by
 subst hL
 have hs:=Nat.eq_of_beq_eq_true hs
 have hbl:(byI l).length=l.length:=by simp[byI]
 rw[←hbl]
 have hys:0<(byI l).length:=by rw[hbl]; exact hys0
 have hlen:xs.length+(byI l).length≤maxLen:=by rw[hbl]; simp only[maxLen]; omega
 have hbytes:(xs.length+(byI l).length)*re.bytes≤140737488355328:=by
  have:(xs.length+(byI l).length)*re.bytes≤1048576*134217728:=Nat.mul_le_mul (by omega) (Nat.le_of_ble_eq_true hbyt)
  omega
 refine kH hT ht ht2 he hs hx hrow hy hys hlen hbytes
end
end Go.Eng
namespace Go.Eng
open Go.RowKit
section
variable {P : Program} {T : Tab} {env : Env} {h : Upds} {n : Nat}
theorem gN (hT:ao P T) {t:Nat} {x:Operand} {l:List UInt8} (ht:aW T t=some .string) (hx:au env x=some (.d (strD l))) :
  aq P (.range t x) env h n (some (.ptr n [])) [(n,some (.si (mkS l) 0))]:=.of_comes fun C G st σ w a o ho hA hd hst hn=>by
 obtain⟨ud,hud,hdd⟩:=aQ hT ht
 cases hdd
 obtain⟨hu,_⟩:=RelV.sc.1 (an hst (hA.ev hx)).1
 have hnn:¬G n:=hn n (Nat.le_refl _) (by omega)
 have hnew:=aE.freshBy hst hnn (w':=w.alloc (.stringIter (mkS l) 0)) (by
   refine⟨rfl,rfl,rfl,by simp,fun k hk _=>?_⟩
   exact heap_alloc_old w _ hk) (Nat.le_refl _) (b:=w.heap.size) (c:=1) (.si (mkS l) 0) trivial (fun σ' X' _ _ hs=>⟨w.heap.size,hs,heap_alloc_new w _⟩)
 refine⟨some (.ptr n []),[(n,some (.si (mkS l) 0))],.value (.pointer (some ⟨w.heap.size,0,none⟩)),.pointer (some ⟨w.heap.size,0,none⟩),w.alloc (.stringIter (mkS l) 0),fun q=>if q=n then some (w.heap.size,1) else σ q,fun q=>G q∨q=n,⟨rfl,rfl⟩,?_,.inl rfl,?_,fun r hr=>.inl hr,fun r hr=>hr.imp id (fun e=>by omega)⟩
 ·simp[execOp,ho,Instr.range,run_underlying hud,hu,newObj,Sem.run]
 ·rw[St.put_upd]
  exact hnew.set hd (RelV.ptr.2 ⟨w.heap.size,1,by simp,by simp[aO]⟩) (.inr rfl)
theorem oh (P:Program) (w:World) (b:Nat) (o:Obj) {s:ByteArray} {p:Nat} (hb:w.heap[b]?=some (.stringIter s p)):(setObj b o).run P w=.ok () { w with heap:=w.heap.setIfInBounds b o }:=by
 simp[setObj,Sem.run,hb]
theorem fw {x:Operand} {r i:Nat} {l:List UInt8} (hx:au env x=some (.ptr r [])) (hr:bd h r=some (.si (mkS l) i)) (hi:i<l.length) :
  aq P (.next x true) env h n (some (.tup (.acons (.bool true) (.acons (.int .i64 i) (.acons (.int .i32 (Utf8.decode (mkS l) i).1) .anil))))) [(r,some (.si (mkS l) (i+(Utf8.decode (mkS l) i).2)))]:=.of_comes fun C G st σ w a o ho hA hd hst hn=>by
 have hrow:=hA.row _ _ hr
 obtain⟨b,hs,hh⟩:=hst.rows r _ hrow
 obtain⟨b',c',hs',hu⟩:=RelV.ptr.1 (an hst (hA.ev hx)).1
 rw[hs]at hs'
 cases hs'
 have hst':=hst.writeObj (o' :=.stringIter (mkS l) (i+(Utf8.decode (mkS l) i).2)) (row :=.si (mkS l) (i+(Utf8.decode (mkS l) i).2)) hrow hs hh rfl trivial (fun w' _ hh'=>⟨b,hs,hh'⟩)
 refine⟨_,_,.value (.tuple #[.bool true,goInt i,.int .i32 (Utf8.decode (mkS l) i).1]),_, { w with heap:=w.heap.setIfInBounds b (.stringIter (mkS l) (i+(Utf8.decode (mkS l) i).2)) },σ,G,⟨rfl,rfl⟩,?_,.inl rfl,?_,fun _ h=>h,fun _ h=>.inl h⟩
 ·have hget:(getObj b).run P w=.ok (.stringIter (mkS l) i) w:=by simp[getObj,Sem.run,hh]
  have hset:=oh P w b (.stringIter (mkS l) (i+(Utf8.decode (mkS l) i).2)) hh
  have hsz:i<(mkS l).size:=by rw[co]; exact hi
  simp only[execOp,ho,Instr.next,hu,aO,Sem.run_bind,hget,Result.andThen_ok,if_pos hsz,hset,Sem.run_pure]
 ·rw[St.put_upd]
  refine hst'.set hd ?_ ⟨trivial,trivial,trivial,trivial⟩
  show RelV σ _ _ (.tup _) _
  unfold RelV
  rw[if_neg (by simp[AV.isAgg])]
  exact⟨_,rfl,_,_,rfl,RelV.sc.2 ⟨rfl,rfl⟩,_,_,rfl,RelV.sc.2 ⟨rfl,rfl⟩,_,_,rfl,RelV.sc.2 ⟨rfl,rfl⟩,rfl⟩
theorem oA {x:Operand} {r i:Nat} {l:List UInt8} (hx:au env x=some (.ptr r [])) (hr:bd h r=some (.si (mkS l) i)) (hi:l.length≤i) :
  aq P (.next x true) env h n (some (.tup (.acons (.bool false) .anil))) []:=.of_comes fun C G st σ w a o ho hA hd hst hn=>by
 have hrow:=hA.row _ _ hr
 obtain⟨b,hs,hh⟩:=hst.rows r _ hrow
 obtain⟨b',c',hs',hu⟩:=RelV.ptr.1 (an hst (hA.ev hx)).1
 rw[hs]at hs'
 cases hs'
 refine .quiet (u :=.tuple #[.bool false]) hst hd ⟨rfl,rfl⟩ ?_ ?_ ⟨trivial,trivial⟩
 ·have hget:(getObj b).run P w=.ok (.stringIter (mkS l) i) w:=by simp[getObj,Sem.run,hh]
  have hsz:¬i<(mkS l).size:=by rw[co]; omega
  simp only[execOp,ho,Instr.next,hu,aO,Sem.run_bind,hget,Result.andThen_ok,if_neg hsz,Sem.run_pure]
 ·unfold RelV
  rw[if_neg (by simp[AV.isAgg])]
  exact⟨_,rfl,_,_,rfl,RelV.sc.2 ⟨rfl,rfl⟩,rfl⟩
end
theorem fW {l:List UInt8} {i:Nat} {c:UInt8} (hc:l[i]?=some c) (h7:c.toNat<128):Utf8.decode (mkS l) i=(c.toNat,1):=by
 have hlt:=(List.getElem?_eq_some_iff.1 hc).1
 have hg:(mkS l).get! i=c:=by
  have e:(mkS l).get! i=l.toArray[i]!:=rfl
  rw[e,getElem!_pos l.toArray i (by simpa using hlt)]
  have:=(List.getElem?_eq_some_iff.1 hc).2
  simpa using this
 rw[Lib.decode_at,hg,Lib.decodeN,if_pos h7]
end Go.Eng
namespace Go.Plain
open Go.Eng Go.Lib
def bC:List UInt8→UInt8→List (List UInt8)
 | [],_=>[[]]
 | b::l,c=>if b=c then[]::bC l c else match bC l c with
  | []=>[[b]]
  | w::ws=>(b::w)::ws
theorem mm:∀(l:List UInt8) (c:UInt8),bC l c≠[]
 | [],_=>by simp[bC]
 | b::l,c=>by
  simp only[bC]
  split
  ·simp
  ·split <;> simp
theorem eO {c:UInt8}:∀ {l:List UInt8},c ∉ l→bC l c=[l]
 | [],_=>rfl
 | b::l,h=>by
  simp only[List.mem_cons,not_or]at h
  rw[bC,if_neg (Ne.symm h.1),eO h.2]
theorem cD {c:UInt8}:∀ {w:List UInt8} (l:List UInt8),c ∉ w→bC (w++c::l) c=w::bC l c
 | [],l,_=>by simp[bC]
 | b::w,l,h=>by
  simp only[List.mem_cons,not_or]at h
  rw[List.cons_append,bC,if_neg (Ne.symm h.1),cD l h.2]
def hexD:List UInt8:=[48,49,50,51,52,53,54,55,56,57,97,98,99,100,101,102]
def hexC (n:Nat):UInt8:=hexD.getD n 0
theorem iZ {n:Nat} (h:n<16):hexD[n]?=some (hexC n):=by
 rw[hexC,List.getD_eq_getElem?_getD,List.getElem?_eq_getElem (show n<hexD.length from h)]
 rfl
def hexB (b:UInt8):List UInt8:=[hexC (b.toNat/16),hexC (b.toNat % 16)]
theorem dM (l:List UInt8):(l.flatMap hexB).length=2*l.length:=by
 induction l with
 | nil=>rfl
 | cons b l ih=>simp only[List.flatMap_cons,List.length_append,ih,hexB,List.length_cons,List.length_nil]; omega
def hexP (l:List UInt8):List UInt8:=if l=[] then[45] else l.flatMap hexB
def nibO (c:UInt8):Option Nat:=if 0≤indexByte hexD c then some (indexByte hexD c).toNat else none
def dY:List UInt8→Option (List UInt8)
 | []=>some []
 | [_]=>none
 | a::b::l=>match nibO a,nibO b,dY l with
  | some x,some y,some r=>some ((x*16+y).toUInt8::r)
  | _,_,_=>none
def cr (s:List UInt8):Option (List UInt8):=if s=[45] then some [] else if s=[] then none else dY s
theorem fU:∀n,n<16→nibO (hexC n)=some n∧hexC n≠10∧hexC n≠32∧hexC n≠45:=by decide
theorem ju:∀(l:List UInt8),dY (l.flatMap hexB)=some l
 | []=>rfl
 | b::l=>by
  have hb:b.toNat<256:=b.toNat_lt
  have h1:=(fU (b.toNat/16) (by omega)).1
  have h2:=(fU (b.toNat % 16) (by omega)).1
  have e:(b.toNat/16*16+b.toNat % 16)=b.toNat:=by omega
  simp only[List.flatMap_cons,hexB,List.cons_append,List.nil_append,dY,h1,h2,ju l,e]
  simp
theorem qU {l:List UInt8} {c:UInt8} (h:c∈l.flatMap hexB):c≠10∧c≠32∧c≠45:=by
 obtain⟨b,_,hb⟩:=List.mem_flatMap.1 h
 have hlt:b.toNat<256:=b.toNat_lt
 simp only[hexB,List.mem_cons,List.not_mem_nil,or_false]at hb
 rcases hb with rfl | rfl
 ·exact (fU _ (by omega)).2
 ·exact (fU _ (by omega)).2
theorem rD (l:List UInt8):cr (hexP l)=some l:=by
 cases l with
 | nil=>rfl
 | cons b l =>
  have h1:hexP (b::l)=(b::l).flatMap hexB:=by rw[hexP,if_neg (by simp)]
  have h2:(b::l).flatMap hexB≠[]:=by simp[hexB]
  have h3:(b::l).flatMap hexB≠[45]:=fun e=>by
   have:=dM (b::l)
   rw[e]at this
   simp at this
   omega
  rw[h1,cr,if_neg h3,if_neg h2,ju]
theorem lN {l:List UInt8} {c:UInt8} (h:c∈hexP l):c≠10∧c≠32:=by
 rw[hexP]at h
 split at h
 ·simp at h; subst h; decide
 ·exact⟨(qU h).1,(qU h).2.1⟩
/-! Numbers. -/
theorem rb:∀(u:Nat) (c:UInt8),c∈decDigits u→48≤c.toNat∧c.toNat≤57:=by
 intro u
 induction u using Nat.strongRecOn with
 | ind u ih =>
  intro c h
  rw[decDigits]at h
  split at h
  ·rename_i hu
   simp only[List.mem_singleton]at h
   subst h
   simp only[UInt8.toNat_ofNat']
   omega
  ·rename_i hu
   rcases List.mem_append.1 h with h | h
   ·exact ih (u/10) (by omega) c h
   ·simp only[List.mem_singleton]at h
    subst h
    simp only[UInt8.toNat_ofNat']
    omega
theorem qq (u:Nat):decDigits u≠[]:=by
 rw[decDigits]
 split <;> simp
theorem lm (M:Nat):∀(l r:List UInt8) (acc u:Nat),parseUintM M acc l=.ok u→parseUintM M acc (l++r)=parseUintM M u r
 | [],r,acc,u,h=>by
  simp only[parseUintM]at h
  injection h with h
  subst h
  rfl
 | c::l,r,acc,u,h=>by
  simp only[parseUintM,List.cons_append]at h ⊢
  split at h
  ·rename_i hc
   rw[if_pos hc]
   split at h
   ·cases h
   ·rename_i h1
    rw[if_neg h1]
    split at h
    ·cases h
    ·rename_i h2
     rw[if_neg h2]
     exact lm M l r _ u h
  ·cases h
theorem lj (M:Nat) (hM:M<18446744073709551616):∀(u:Nat),u≤M→parseUintM M 0 (decDigits u)=.ok u:=by
 intro u
 induction u using Nat.strongRecOn with
 | ind u ih =>
  intro hu
  rw[decDigits]
  split
  ·rename_i h10
   have e:(UInt8.ofNat (48+u)).toNat=48+u:=by simp only[UInt8.toNat_ofNat']; omega
   simp only[parseUintM,e]
   rw[if_pos (by omega),if_neg (by omega),if_neg (by omega)]
   congr 1
   omega
  ·rename_i h10
   have h1:=ih (u/10) (by omega) (by omega)
   rw[lm M _ _ _ _ h1]
   have e:(UInt8.ofNat (48+u % 10)).toNat=48+u % 10:=by simp only[UInt8.toNat_ofNat']; omega
   simp only[parseUintM,e]
   rw[if_pos (by omega),if_neg (by omega),if_neg (by omega)]
   congr 1
   omega
theorem p7 {B u:Nat} (hB:B≤64) (hu:u<2 ^ B):parseUintB B (decDigits u)=.ok u:=by
 have h64:2 ^ B≤2 ^ 64:=Nat.pow_le_pow_right (by decide) hB
 rw[parseUintB,if_neg (qq u)]
 exact lj _ (by omega) u (by omega)
theorem ka {u:Nat} (hu:u<18446744073709551616):parseUint10 0 (decDigits u)=.ok u:=by
 rw[←parseUintM_64]
 exact lj _ (by omega) u (by omega)
theorem mZ {n:Int} (h0 : -9223372036854775808≤n) (h1:n≤9223372036854775807):atoiAll (itoa n)=.ok n:=by
 rw[itoa]
 split
 ·rename_i hn
  have hp:parseMag (decDigits n.natAbs)=.ok n.natAbs:=by
   rw[parseMag,if_neg (qq _)]
   exact ka (by omega)
  simp only[atoiAll]
  rw[if_pos (by right; rfl),hp]
  simp only
  rw[if_neg (by simp),if_neg (by omega)]
  simp
  omega
 ·rename_i hn
  have hm:=rb n.toNat
  have hne:=qq n.toNat
  have hp:parseMag (decDigits n.toNat)=.ok n.toNat:=by
   rw[parseMag,if_neg hne]
   exact ka (by omega)
  cases hd:decDigits n.toNat with
  | nil=>exact absurd hd hne
  | cons c r =>
   rw[hd]at hm hp
   have hc:=hm c (by simp)
   simp only[atoiAll]
   rw[if_neg (by omega),hp]
   simp only
   rw[if_neg (by omega),if_neg (by omega),if_neg (by omega)]
   congr 1
   omega
theorem iW {n:Int} {c:UInt8} (h:c∈itoa n):c≠10∧c≠32:=by
 have key:∀u,c∈decDigits u→c≠10∧c≠32:=fun u hc=>by
  have:=rb u c hc
  constructor <;> (rintro rfl; revert this; decide)
 rw[itoa]at h
 split at h
 ·rcases List.mem_cons.1 h with rfl | h
  ·decide
  ·exact key _ h
 ·exact key _ h
/-! Operations. -/
structure POp where
 kind:Int
 index:Int
 data:List UInt8
 deriving DecidableEq
structure POp.Ok (o:POp):Prop where
 kind:0≤o.kind∧o.kind≤255
 index : -9223372036854775808≤o.index∧o.index≤9223372036854775807
def eC:List UInt8:=[114,101,97,100]
def cB:List UInt8:=[119,114,105,116,101]
def dX:List UInt8:=[102,108,117,115,104]
def sOp:List UInt8:=[111,112]
def aF:List UInt8:=[99,108,105,101,110,116]
def bg (o:POp):List UInt8 :=
 if o.kind=1∧o.data=[] then eC++32::itoa o.index
 else if o.kind=2 then cB++32::(itoa o.index++32::hexP o.data)
 else if o.kind=3∧o.index=0∧o.data=[] then dX
 else sOp++32::(itoa o.kind++32::(itoa o.index++32::hexP o.data))
def opF (k i d:List UInt8):Option POp:=match parseUintB 8 k,atoiAll i,cr d with
 | .ok k,.ok i,some d=>some ⟨k,i,d⟩
 | _,_,_=>none
def ch (w:List (List UInt8)):Option POp:=match w with
 | []=>none
 | a::r=>if a=eC then (match r with | [i]=>opF [49] i [45] | _=>none)
  else if a=cB then (match r with | [i,d]=>opF [50] i d | _=>none)
  else if a=dX then (match r with | []=>opF [51] [48] [45] | _=>none)
  else if a=sOp then (match r with | [k,i,d]=>opF k i d | _=>none)
  else none
def eR (t:List UInt8):Option POp:=match ch (bC t 32) with
 | some o=>if bg o=t then some o else none
 | none=>none
theorem p8 {k:Nat} {i:Int} {d:List UInt8} (hk:k≤255) (h0 : -9223372036854775808≤i) (h1:i≤9223372036854775807):opF (decDigits k) (itoa i) (hexP d)=some ⟨k,i,d⟩:=by
 simp only[opF,p7 (B:=8) (by decide) (show k<2 ^ 8 by omega),mZ h0 h1,rD]
theorem pu {o:POp} (h:o.Ok):ch (bC (bg o) 32)=some o:=by
 obtain⟨⟨k0,k1⟩,i0,i1⟩:=h
 obtain⟨k,i,d⟩:=o
 simp only at k0 k1 i0 i1
 have hi:∀n:Int,(32:UInt8) ∉ itoa n:=fun n hc=>(iW hc).2 rfl
 have hh:(32:UInt8) ∉ hexP d:=fun hc=>(lN hc).2 rfl
 have hd:d=[]→hexP d=[45]:=fun e=>by rw[e]; rfl
 rw[bg]
 simp only
 split
 ·rename_i hc
  obtain⟨rfl,rfl⟩:=hc
  rw[cD _ (by decide),eO (hi _)]
  have:=p8 (k:=1) (d:=[]) (by decide) i0 i1
  rw[show decDigits 1=[49] by rw[decDigits_one (by decide)]; rfl]at this
  simp only[ch,if_pos]
  exact this
 ·split
  ·rename_i hc
   subst hc
   rw[cD _ (by decide),cD _ (hi _),eO hh]
   have:=p8 (k:=2) (d:=d) (by decide) i0 i1
   rw[show decDigits 2=[50] by rw[decDigits_one (by decide)]; rfl]at this
   simp only[ch,if_neg (show ¬(cB=eC) by decide),if_pos]
   exact this
  ·split
   ·rename_i hc
    obtain⟨rfl,rfl,rfl⟩:=hc
    rfl
   ·rw[cD _ (by decide),cD _ (hi _),cD _ (hi _),eO hh]
    have:=p8 (k:=k.toNat) (d:=d) (by omega) i0 i1
    simp only[ch,if_neg (show ¬(sOp=eC) by decide),if_neg (show ¬(sOp=cB) by decide),if_neg (show ¬(sOp=dX) by decide),if_pos]
    rw[itoa,if_neg (by omega),this]
    congr 2
    omega
theorem mu {o:POp} (h:o.Ok):eR (bg o)=some o:=by simp[eR,pu h]
theorem nr {k i d:List UInt8} {o:POp} (h:opF k i d=some o):o.Ok:=by
 simp only[opF]at h
 split at h
 ·rename_i k' i' d' h1 h2 h3
  cases h
  have hk:k'≤255:=by
   rw[parseUintB]at h1
   split at h1
   ·cases h1
   ·have:=parseUintM_le (2 ^ 8-1) _ 0 _ (by decide) h1
    omega
  refine⟨by simp only; omega,?_⟩
  cases i with
  | nil=>simp[atoiAll]at h2
  | cons c r =>
   simp only[atoiAll]at h2
   split at h2
   ·cases h2
   ·cases h2
   ·split at h2
    ·cases h2
    ·rename_i u hu g1
     split at h2
     ·cases h2
     ·rename_i g2
      injection h2 with h2
      subst h2
      simp only
      split <;> rename_i g3 <;> simp only[g3,not_true_eq_false,false_and,true_and,not_false_eq_true]at g1 g2 <;> omega
 ·cases h
theorem ot {w:List (List UInt8)} {o:POp} (h:ch w=some o):o.Ok:=by
 cases w with
 | nil=>cases h
 | cons a r =>
  simp only[ch]at h
  by_cases h1:a=eC
  ·rw[if_pos h1]at h
   split at h
   ·exact nr h
   ·cases h
  rw[if_neg h1]at h
  by_cases h2:a=cB
  ·rw[if_pos h2]at h
   split at h
   ·exact nr h
   ·cases h
  rw[if_neg h2]at h
  by_cases h3:a=dX
  ·rw[if_pos h3]at h
   split at h
   ·exact nr h
   ·cases h
  rw[if_neg h3]at h
  by_cases h4:a=sOp
  ·rw[if_pos h4]at h
   split at h
   ·exact nr h
   ·cases h
  rw[if_neg h4]at h
  cases h
theorem lb {t:List UInt8} {o:POp} (h:eR t=some o):bg o=t∧o.Ok:=by
 simp only[eR]at h
 split at h
 ·rename_i o' ho
  split at h
  ·rename_i hl
   cases h
   exact⟨hl,ot ho⟩
  ·cases h
 ·cases h
theorem fv {a b:List UInt8} (h1:∀c∈a,c≠10) (h2:∀c∈b,c≠10):∀c∈a++b,c≠10:=fun c h=>by
 rcases List.mem_append.1 h with h | h
 ·exact h1 c h
 ·exact h2 c h
theorem gT {b:List UInt8} (h2:∀c∈b,c≠10):∀c∈(32:UInt8)::b,c≠10:=fun c h=>by
 rcases List.mem_cons.1 h with rfl | h
 ·decide
 ·exact h2 c h
theorem oH (o:POp):∀c∈bg o,c≠10:=by
 have hi:∀n:Int,∀c∈itoa n,c≠10:=fun n c h=>(iW h).1
 have hh:∀c∈hexP o.data,c≠10:=fun c h=>(lN h).1
 rw[bg]
 split
 ·exact fv (by decide) (gT (hi _))
 ·split
  ·exact fv (by decide) (gT (fv (hi _) (gT hh)))
  ·split
   ·decide
   ·exact fv (by decide) (gT (fv (hi _) (gT (fv (hi _) (gT hh)))))
theorem oJ {o:POp} (h:o.Ok):bg o≠aF:=fun e=>by
 have:=mu h
 rw[e,show eR aF=none from rfl]at this
 cases this
def badP (p:List POp):Bool:=decide (64<p.length)||p.any fun o=>decide (64<o.data.length)
def chkP (l:List (List POp)):Int:=if 8<l.length then 3 else if l.any badP=true then 3 else 0
theorem dA {l:List (List POp)}:chkP l=0↔l.length≤8∧∀p∈l,badP p=false:=by
 unfold chkP
 constructor
 ·intro h
  split at h
  ·cases h
  ·split at h
   ·cases h
   ·rename_i h1 h2
    refine⟨by omega,fun p hp=>?_⟩
    simp only[List.any_eq_true,not_exists,not_and,Bool.not_eq_true]at h2
    exact h2 p hp
 ·rintro⟨h1,h2⟩
  rw[if_neg (by omega),if_neg]
  simp only[List.any_eq_true,not_exists,not_and,Bool.not_eq_true]
  exact h2
def gU (l:List (List POp)) (o:POp):List (List POp):=l.dropLast++[l.getLast?.getD []++[o]]
theorem dK (l:List (List POp)) (p:List POp) (o:POp):gU (l++[p]) o=l++[p++[o]]:=by
 simp[gU]
def addP (l:List (List POp)) (t:List UInt8):List (List POp)×Int :=
 if t=aF then (if 8<l.length+1 then ([],3) else (l++[[]],0))
 else match eR t with
  | none=>([],5)
  | some o=>if l=[] then ([],5) else if 64<(l.getLast?.getD []).length+1∨64<o.data.length then ([],3) else (gU l o,0)
def cutL:List UInt8→UInt8→Option (List UInt8×List UInt8)
 | [],_=>none
 | b::l,c=>if b=c then some ([],l) else match cutL l c with
  | none=>none
  | some (p,q)=>some (b::p,q)
theorem ct:∀ {l:List UInt8} {c:UInt8} {p q:List UInt8},cutL l c=some (p,q)→l=p++c::q∧c ∉ p
 | [],_,_,_,h=>by cases h
 | b::l,c,p,q,h=>by
  simp only[cutL]at h
  split at h
  ·rename_i e
   cases h
   subst e
   exact⟨rfl,by simp⟩
  ·rename_i e
   split at h
   ·cases h
   ·rename_i p' q' h2
    cases h
    obtain⟨h3,h4⟩:=ct h2
    subst h3
    refine⟨rfl,?_⟩
    simp only[List.mem_cons,not_or]
    exact⟨Ne.symm e,h4⟩
theorem mR:∀ {l:List UInt8} {c:UInt8},cutL l c=none→c ∉ l
 | [],_,_=>by simp
 | b::l,c,h=>by
  simp only[cutL]at h
  split at h
  ·cases h
  ·rename_i e
   split at h
   ·rename_i h2
    simp only[List.mem_cons,not_or]
    exact⟨Ne.symm e,mR h2⟩
   ·cases h
theorem g7 {c:UInt8}:∀ {p:List UInt8} (q:List UInt8),c ∉ p→cutL (p++c::q) c=some (p,q)
 | [],q,_=>by simp[cutL]
 | b::p,q,h=>by
  simp only[List.mem_cons,not_or]at h
  rw[List.cons_append,cutL,if_neg (Ne.symm h.1),g7 q h.2]
theorem ml (s:List UInt8) (c:UInt8):bC s c=match cutL s c with
  | none=>[s]
  | some (p,q)=>p::bC q c:=by
 cases h:cutL s c with
 | none=>exact eO (mR h)
 | some pq =>
  obtain⟨p,q⟩:=pq
  obtain⟨rfl,h2⟩:=ct h
  exact cD q h2
def bz (s:List UInt8) (l:List (List POp)) (n:Nat):List (List POp)×Nat×Int :=
 if s=[] then (l,0,0) else
 match _h:cutL s 10 with
 | none=>([],n,5)
 | some (t,r)=>if (addP l t).2=0 then bz r (addP l t).1 (n+1) else ([],n,(addP l t).2)
termination_by s.length
decreasing_by
 have := (ct _h).1
 rw [this]
 simp
 omega
theorem fN (l:List (List POp)) (n:Nat):bz [] l n=(l,0,0):=by rw[bz,if_pos rfl]
theorem j9 {s:List UInt8} (l:List (List POp)) (n:Nat) (hs:s≠[]) (h:cutL s 10=none):bz s l n=([],n,5):=by
 rw[bz,if_neg hs]
 split
 ·rfl
 ·rename_i h2; rw[h]at h2; cases h2
theorem fa {s t r:List UInt8} (l:List (List POp)) (n:Nat) (hs:s≠[]) (h:cutL s 10=some (t,r)):bz s l n=if (addP l t).2=0 then bz r (addP l t).1 (n+1) else ([],n,(addP l t).2):=by
 rw[bz,if_neg hs]
 split
 ·rename_i h2; rw[h]at h2; cases h2
 ·rename_i h2; rw[h]at h2; cases h2; rfl
def np:List (List UInt8)→Nat→List (List POp)→List (List POp)×Nat×Int
 | [],_,l=>(l,0,0)
 | [t],i,l=>if t=[] then (l,0,0) else ([],i+1,5)
 | t::u::ts,i,l=>if t=aF then (if 0<chkP (l++[[]]) then ([],i+1,3) else np (u::ts) (i+1) (l++[[]]))
  else match eR t with
   | none=>([],i+1,5)
   | some o=>if l=[] then ([],i+1,5) else if 0<chkP (gU l o) then ([],i+1,3) else np (u::ts) (i+1) (gU l o)
theorem qu {l:List (List POp)} (h:chkP l=0):chkP (l++[[]])=if 8<l.length+1 then 3 else 0:=by
 obtain⟨h1,h2⟩:=dA.1 h
 split
 ·rename_i h3
  unfold chkP
  rw[if_pos (by simpa using h3)]
 ·rename_i h3
  refine dA.2 ⟨by simp; omega,fun p hp=>?_⟩
  rcases List.mem_append.1 hp with hp | hp
  ·exact h2 p hp
  ·rw[List.mem_singleton.1 hp]; rfl
theorem uR {l:List (List POp)} (h:chkP l=0) (hl:l≠[]) (o:POp):chkP (gU l o)=if 64<(l.getLast?.getD []).length+1∨64<o.data.length then 3 else 0:=by
 obtain⟨h1,h2⟩:=dA.1 h
 obtain⟨m,p,rfl⟩:∃m p,l=m++[p]:=⟨l.dropLast,l.getLast hl,(List.dropLast_concat_getLast hl).symm⟩
 have hg:(m++[p]).getLast?.getD []=p:=by simp
 rw[dK,hg]
 have hp:=h2 p (by simp)
 simp only[badP,Bool.or_eq_false_iff,decide_eq_false_iff_not,List.any_eq_false,decide_eq_true_iff]at hp
 split
 ·rename_i h3
  unfold chkP
  rw[if_neg (by simpa using h1),if_pos]
  rw[List.any_append,Bool.or_eq_true]
  right
  simp only[List.any_cons,List.any_nil,Bool.or_false,badP,Bool.or_eq_true,decide_eq_true_iff,List.length_append,List.length_singleton,List.any_append]
  rcases h3 with h3 | h3
  ·exact .inl h3
  ·right; simp[h3]
 ·rename_i h3
  refine dA.2 ⟨by simpa using h1,fun q hq=>?_⟩
  rcases List.mem_append.1 hq with hq | hq
  ·exact h2 q (by simp[hq])
  ·rw[List.mem_singleton.1 hq]
   simp only[not_or]at h3
   simp only[badP,Bool.or_eq_false_iff,decide_eq_false_iff_not,List.any_eq_false,decide_eq_true_iff,List.length_append,List.length_singleton,List.mem_append,List.mem_singleton]
   refine⟨h3.1,fun x hx=>?_⟩
   rcases hx with hx | rfl
   ·exact hp.2 x hx
   ·exact h3.2
theorem kT {l l':List (List POp)} {t:List UInt8} (h:chkP l=0) (ha:addP l t=(l',0)):chkP l'=0:=by
 simp only[addP]at ha
 split at ha
 ·split at ha
  ·cases ha
  ·rename_i h3
   cases ha
   rw[qu h,if_neg h3]
 ·split at ha
  ·cases ha
  ·split at ha
   ·cases ha
   ·rename_i hl
    split at ha
    ·cases ha
    ·rename_i h3
     cases ha
     rw[uR h hl,if_neg h3]
def opsT (p:List POp):List UInt8:=p.flatMap fun o=>bg o++[10]
def bL (l:List (List POp)):List UInt8:=l.flatMap fun p=>aF++10::opsT p
theorem mB (p:List POp) (o:POp):opsT (p++[o])=opsT p++(bg o++[10]):=by simp[opsT]
theorem fI (l:List (List POp)) (p:List POp):bL (l++[p])=bL l++(aF++10::opsT p):=by simp[bL]
def OkL (l:List (List POp)):Prop:=∀p∈l,∀o∈p,o.Ok
theorem qD {l:List (List POp)} (h:l.length+1≤8):addP l aF=(l++[[]],0):=by
 rw[addP,if_pos rfl,if_neg (by omega)]
theorem vg {l:List (List POp)} {p:List POp} {o:POp} (ho:o.Ok) (h1:p.length+1≤64) (h2:o.data.length≤64):addP (l++[p]) (bg o)=(l++[p++[o]],0):=by
 rw[addP,if_neg (oJ ho),mu ho]
 simp only
 rw[if_neg (by simp),if_neg (by simp; omega),dK]
theorem my:∀(q:List POp) (p:List POp) (l:List (List POp)) (r:List UInt8) (n:Nat),(∀o∈q,o.Ok∧o.data.length≤64)→p.length+q.length≤64 →
  bz (opsT q++r) (l++[p]) n=bz r (l++[p++q]) (n+q.length)
 | [],p,l,r,n,_,_=>by simp[opsT]
 | o::q,p,l,r,n,ho,hl=>by
  obtain⟨h1,h2⟩:=ho o (by simp)
  have e:opsT (o::q)++r=bg o++10::(opsT q++r):=by simp[opsT]
  have hc:=g7 (c:=10) (opsT q++r) (fun hm=>oH o 10 hm rfl)
  simp only[List.length_cons]at hl
  rw[e,fa _ _ (by simp) hc,vg h1 (by omega) h2]
  simp only[if_pos]
  rw[my q (p++[o]) l r (n+1) (fun x hx=>ho x (by simp[hx])) (by simp; omega)]
  simp only[List.append_assoc,List.cons_append,List.nil_append,List.length_cons]
  congr 1
  omega
theorem li:∀(l m:List (List POp)) (r:List UInt8) (n:Nat),OkL l→(∀p∈l,badP p=false)→m.length+l.length≤8 →
  bz (bL l++r) m n=bz r (m++l) (n+(l.map fun p=>1+p.length).sum)
 | [],m,r,n,_,_,_=>by simp[bL]
 | p::l,m,r,n,hok,hb,hl=>by
  have e:bL (p::l)++r=aF++10::(opsT p++(bL l++r)):=by simp[bL]
  have hc:=g7 (c:=10) (p:=aF) (opsT p++(bL l++r)) (by decide)
  simp only[List.length_cons]at hl
  have hp:=hb p (by simp)
  simp only[badP,Bool.or_eq_false_iff,decide_eq_false_iff_not,List.any_eq_false,decide_eq_true_iff]at hp
  rw[e,fa _ _ (by simp) hc,qD (by omega)]
  simp only[if_pos]
  rw[my p [] m (bL l++r) (n+1) (fun o ho=>⟨hok p (by simp) o ho,by have:=hp.2 o ho; omega⟩) (by simp; omega),List.nil_append,
   li l (m++[p]) r _ (fun q hq=>hok q (by simp[hq])) (fun q hq=>hb q (by simp[hq])) (by simp; omega)]
  simp only[List.append_assoc,List.cons_append,List.nil_append,List.map_cons,List.sum_cons]
  congr 1
  omega
theorem p6 {l:List (List POp)} (hok:OkL l) (hc:chkP l=0):bz (bL l) [] 1=(l,0,0):=by
 obtain⟨h1,h2⟩:=dA.1 hc
 have:=li l [] [] 1 hok h2 (by simpa using h1)
 rw[List.append_nil,List.nil_append,fN]at this
 exact this
theorem vd {l l':List (List POp)} {t:List UInt8} (ha:addP l t=(l',0)):bL l'=bL l++(t++[10]):=by
 simp only[addP]at ha
 split at ha
 ·rename_i ht
  split at ha
  ·cases ha
  ·cases ha
   rw[fI,ht]
   simp[opsT]
 ·split at ha
  ·cases ha
  ·rename_i o ho
   split at ha
   ·cases ha
   ·rename_i hl
    split at ha
    ·cases ha
    ·cases ha
     obtain⟨m,p,rfl⟩:∃m p,l=m++[p]:=⟨l.dropLast,l.getLast hl,(List.dropLast_concat_getLast hl).symm⟩
     rw[dK,fI,fI,mB,(lb ho).1]
     simp
theorem nL {l l':List (List POp)} {t:List UInt8} (hl:OkL l) (ha:addP l t=(l',0)):OkL l':=by
 simp only[addP]at ha
 split at ha
 ·split at ha
  ·cases ha
  ·cases ha
   intro p hp
   rcases List.mem_append.1 hp with hp | hp
   ·exact hl p hp
   ·rw[List.mem_singleton.1 hp]; simp
 ·split at ha
  ·cases ha
  ·rename_i o ho
   split at ha
   ·cases ha
   ·rename_i hnil
    split at ha
    ·cases ha
    ·cases ha
     obtain⟨m,p,rfl⟩:∃m p,l=m++[p]:=⟨l.dropLast,l.getLast hnil,(List.dropLast_concat_getLast hnil).symm⟩
     rw[dK]
     intro q hq x hx
     rcases List.mem_append.1 hq with hq | hq
     ·exact hl q (by simp[hq]) x hx
     ·rw[List.mem_singleton.1 hq]at hx
      rcases List.mem_append.1 hx with hx | hx
      ·exact hl p (by simp) x hx
      ·rw[List.mem_singleton.1 hx]; exact (lb ho).2
theorem rY:∀(k:Nat) (s:List UInt8) (l m:List (List POp)) (n j:Nat),s.length≤k→chkP l=0→OkL l→bz s l n=(m,j,0)→j=0∧bL m=bL l++s∧chkP m=0∧OkL m:=by
 intro k
 induction k with
 | zero =>
  intro s l m n j hs hc hok h
  have:s=[]:=List.length_eq_zero_iff.1 (by omega)
  subst this
  rw[fN]at h
  cases h
  exact⟨rfl,by simp,hc,hok⟩
 | succ k ih =>
  intro s l m n j hs hc hok h
  by_cases he:s=[]
  ·subst he
   rw[fN]at h
   cases h
   exact⟨rfl,by simp,hc,hok⟩
  ·cases hcut:cutL s 10 with
   | none=>rw[j9 l _ he hcut]at h; cases h
   | some pq =>
    obtain⟨t,r⟩:=pq
    rw[fa l _ he hcut]at h
    have hsr:=(ct hcut).1
    split at h
    ·rename_i ha
     have ha':addP l t=((addP l t).1,0):=by rw[←ha]
     obtain⟨g1,g2,g3⟩:=ih r (addP l t).1 m (n+1) j (by rw[hsr]at hs; simp at hs; omega) (kT hc ha') (nL hok ha') h
     refine⟨g1,?_,g3⟩
     rw[g2,vd ha',hsr]
     simp
    ·rename_i ha
     injection h with _ h
     injection h with _ h
     exact absurd h ha
def vX (sg:Int) (acc:Int) (c:UInt8):Int:=IntKind.i64.wrap (IntKind.i64.wrap (acc*10)+IntKind.i64.wrap (sg*((c.toNat:Int)-48)))
def zr (c:UInt8):Bool:=decide (48≤c.toNat)&&decide (c.toNat≤57)
def sgOf (s:List UInt8):Int:=if s.head?=some 45 then-1 else 1
def uK (s:List UInt8):List UInt8:=if s.head?=some 45 then s.tail else s
def intV (s:List UInt8):Int:=(uK s).foldl (vX (sgOf s)) 0
def intR (s:List UInt8):Option Int:=if 19<(uK s).length then none else if (uK s).all zr=false then none else if itoa (intV s)=s then some (intV s) else none
def Ag (sg:Int) (acc:Int) (c:UInt8):Int:=acc*10+sg*((c.toNat:Int)-48)
def opR (k:Int) (i d:List UInt8):Option POp:=match intR i,cr d with
 | some i,some d=>some ⟨k,i,d⟩
 | _,_=>none
def zq (k:List UInt8):Option Int:=match intR k with
 | some n=>if n<0∨255<n then none else some n
 | none=>none
def wM (w:List (List UInt8)):Option POp:=match w with
 | []=>none
 | a::r=>if a=eC∧r.length=1 then opR 1 (r.getD 0 []) [45]
  else if a=cB∧r.length=2 then opR 2 (r.getD 0 []) (r.getD 1 [])
  else if a=dX∧r.length=0 then opR 3 [48] [45]
  else if a=sOp∧r.length=3 then (match zq (r.getD 0 []) with
   | some k=>opR k (r.getD 1 []) (r.getD 2 [])
   | none=>none)
  else none
def readR (s:List UInt8):Option POp:=match wM (bC s 32) with
 | some o=>if bg o=s then some o else none
 | none=>none
end Go.Plain
namespace Go.Proofs.YtjfkhlamjdbfkaaGreatDoor
open Go.Eng
theorem dF {p:Prop} [Decidable p] (h:¬p):decide p=false:=decide_eq_false h
theorem dT {p:Prop} [Decidable p] (h:p):decide p=true:=decide_eq_true h
abbrev u0:TyR := { desc :=.cell,size:=1,bytes:=8,zero :=.sc .nilFunc }
abbrev u1:TyR := { desc :=.cell,size:=1,bytes:=8,zero :=.sc (.pointer none) }
abbrev u2:TyR := { desc :=.int .i64,size:=1,bytes:=8,zero :=.sc (.int .i64 0) }
abbrev u3:TyR := { desc :=.struct [(0,5),(1,5),(2,5)],size:=3,bytes:=3,zero :=.cons (.sc (.int .u8 0)) (.cons (.sc (.int .u8 0)) (.cons (.sc (.int .u8 0)) (.nil))) }
abbrev u4:TyR := { desc :=.int .u8,size:=1,bytes:=1,zero :=.sc (.int .u8 0) }
abbrev u5:TyR := { desc :=.int .u64,size:=1,bytes:=8,zero :=.sc (.int .u64 0) }
abbrev u6:TyR := { desc :=.cell,size:=1,bytes:=16,zero :=.sc .nilIface }
section
variable {p : Prop}
theorem zM (h:p:=by exact⟨rfl,mapD_lt _,_,rfl,aY.of_eq (by simp only[Row.ren,mapD_ren])⟩):p:=h
theorem zN (h:p:=by exact⟨rfl,mapD_lt _,_,_,rfl,rfl,aY.of_eq (by simp only[Row.ren,mapD_ren])⟩):p:=h
theorem zK (h:p:=by exact⟨rfl,mapD_lt _,mapD_okm _,rfl⟩):p:=h
theorem zR (h:p:=by exact⟨rfl,rfl,_,rfl,.refl _⟩):p:=h
theorem zH (h:p:=by exact⟨rfl,rfl,_,_,rfl,rfl,.refl _⟩):p:=h
theorem zF (h:p:=by exact⟨rfl,_,rfl,FrzR.refl _⟩):p:=h
theorem zV (h:p:=by exact⟨⟨_,rfl,AVLe.of_eq rfl⟩,rfl,trivial⟩):p:=h
theorem za (h:p:=by exact⟨⟨_,rfl,.refl _⟩,rfl,⟨_,rfl,.refl _⟩,rfl,⟨_,rfl,.refl _⟩,rfl,⟨_,rfl,.refl _⟩,rfl,⟨_,rfl,.refl _⟩,rfl,⟨_,rfl,.refl _⟩,rfl,⟨_,rfl,.refl _⟩,rfl,⟨_,rfl,.refl _⟩,rfl,⟨_,rfl,.refl _⟩,rfl,⟨_,rfl,.refl _⟩,rfl,⟨_,rfl,.refl _⟩,rfl,⟨_,rfl,.refl _⟩,rfl,trivial⟩):p:=h
theorem zb (h:p:=by exact⟨⟨_,rfl,.refl _⟩,rfl,⟨_,rfl,.refl _⟩,rfl,⟨_,rfl,.refl _⟩,rfl,⟨_,rfl,.refl _⟩,rfl,⟨_,rfl,.refl _⟩,rfl,⟨_,rfl,.refl _⟩,rfl,⟨_,rfl,.refl _⟩,rfl,⟨_,rfl,.refl _⟩,rfl,⟨_,rfl,.refl _⟩,rfl,⟨_,rfl,.refl _⟩,rfl,⟨_,rfl,.refl _⟩,rfl,trivial⟩):p:=h
theorem zc (h:p:=by exact⟨⟨_,rfl,.refl _⟩,rfl,⟨_,rfl,.refl _⟩,rfl,⟨_,rfl,.refl _⟩,rfl,⟨_,rfl,.refl _⟩,rfl,⟨_,rfl,.refl _⟩,rfl,⟨_,rfl,.refl _⟩,rfl,⟨_,rfl,.refl _⟩,rfl,⟨_,rfl,.refl _⟩,rfl,⟨_,rfl,.refl _⟩,rfl,⟨_,rfl,.refl _⟩,rfl,trivial⟩):p:=h
theorem zd (h:p:=by exact⟨⟨_,rfl,.refl _⟩,rfl,⟨_,rfl,.refl _⟩,rfl,⟨_,rfl,.refl _⟩,rfl,⟨_,rfl,.refl _⟩,rfl,⟨_,rfl,.refl _⟩,rfl,⟨_,rfl,.refl _⟩,rfl,⟨_,rfl,.refl _⟩,rfl,⟨_,rfl,.refl _⟩,rfl,⟨_,rfl,.refl _⟩,rfl,trivial⟩):p:=h
theorem ze (h:p:=by exact⟨⟨_,rfl,.refl _⟩,rfl,⟨_,rfl,.refl _⟩,rfl,⟨_,rfl,.refl _⟩,rfl,⟨_,rfl,.refl _⟩,rfl,⟨_,rfl,.refl _⟩,rfl,⟨_,rfl,.refl _⟩,rfl,⟨_,rfl,.refl _⟩,rfl,⟨_,rfl,.refl _⟩,rfl,trivial⟩):p:=h
theorem zf (h:p:=by exact⟨⟨_,rfl,.refl _⟩,rfl,⟨_,rfl,.refl _⟩,rfl,⟨_,rfl,.refl _⟩,rfl,⟨_,rfl,.refl _⟩,rfl,⟨_,rfl,.refl _⟩,rfl,⟨_,rfl,.refl _⟩,rfl,⟨_,rfl,.refl _⟩,rfl,trivial⟩):p:=h
theorem zg (h:p:=by exact⟨⟨_,rfl,.refl _⟩,rfl,⟨_,rfl,.refl _⟩,rfl,⟨_,rfl,.refl _⟩,rfl,⟨_,rfl,.refl _⟩,rfl,⟨_,rfl,.refl _⟩,rfl,⟨_,rfl,.refl _⟩,rfl,trivial⟩):p:=h
theorem zh (h:p:=by exact⟨⟨_,rfl,.refl _⟩,rfl,⟨_,rfl,.refl _⟩,rfl,⟨_,rfl,.refl _⟩,rfl,⟨_,rfl,.refl _⟩,rfl,⟨_,rfl,.refl _⟩,rfl,trivial⟩):p:=h
theorem zi (h:p:=by exact⟨⟨_,rfl,.refl _⟩,rfl,⟨_,rfl,.refl _⟩,rfl,⟨_,rfl,.refl _⟩,rfl,⟨_,rfl,.refl _⟩,rfl,trivial⟩):p:=h
theorem zj (h:p:=by exact⟨⟨_,rfl,.refl _⟩,rfl,⟨_,rfl,.refl _⟩,rfl,⟨_,rfl,.refl _⟩,rfl,trivial⟩):p:=h
theorem zk (h:p:=by exact⟨⟨_,rfl,.refl _⟩,rfl,⟨_,rfl,.refl _⟩,rfl,trivial⟩):p:=h
theorem zl (h:p:=by exact⟨⟨_,rfl,.refl _⟩,rfl,trivial⟩):p:=h
theorem zE (h:p:=by exact⟨_,rfl,.refl _⟩):p:=h
end
theorem lg {l:b4} {st st':St} (h6:kw (rho l) st.env st'.next st'.env) (h7:gF (rho l) st st'.next st'.heap) (h1:fy (rho l) (bP st'.heap)=true:=by exact rfl) (h2:st'.sz=st.sz:=by exact rfl) (h3:st'.bs=st.bs:=by exact rfl) (h4:Nat.ble st'.bs st'.next=true:=by exact rfl) (h5:ea st'.bs l=true:=by exact rfl):Le l st st' :=.of h1 h2 h3 h4 h5 h6 h7
theorem mT {t:Nat} {r:TyR} {u:TypeDesc} (h3:Tryz.prog.underlying t=some u) (h1:(Tryz.prog.info? t).map (fun i=>(i.size,i.bytes,i.zero))=some (r.size,r.bytes,some (zval r.zero)):=by kernel_rfl) (h2:(r.zero.okC&&Nat.beq r.zero.size r.size)=true:=by kernel_rfl) (h4:mQ Tryz.prog r.desc u=true:=by kernel_rfl) (h5:r.desc.isAgg=r.zero.isAgg:=by kernel_rfl):TyOk Tryz.prog t r:=TyOk.mk' h1 h2 h3 h4 h5
abbrev r1:TyR:=u0
theorem ty1:TyOk Tryz.prog 1 r1:=mT Tryz.underlying1
abbrev r2:TyR:=u2
theorem ty2:TyOk Tryz.prog 2 r2:=mT Tryz.underlying2
abbrev r3:TyR:=u2
theorem ty3:TyOk Tryz.prog 3 r3:=mT Tryz.underlying3
abbrev r4:TyR := { desc :=.bool,size:=1,bytes:=1,zero :=.sc (.bool false) }
theorem ty4:TyOk Tryz.prog 4 r4:=mT Tryz.underlying4
abbrev r5:TyR:=u4
theorem ty5:TyOk Tryz.prog 5 r5:=mT Tryz.underlying5
abbrev r9:TyR := { desc :=.string,size:=1,bytes:=16,zero :=.sc (.string ⟨#[]⟩) }
theorem ty9:TyOk Tryz.prog 9 r9:=mT Tryz.underlying9
abbrev r12:TyR:=u5
theorem ty12:TyOk Tryz.prog 12 r12:=mT Tryz.underlying12
abbrev r13:TyR := { desc :=.struct [(0,9),(1,12)],size:=2,bytes:=24,zero :=.cons (.sc (.string ⟨#[]⟩)) (.cons (.sc (.int .u64 0)) (.nil)) }
theorem ty13:TyOk Tryz.prog 13 r13:=mT Tryz.underlying13
abbrev r20:TyR:=u6
theorem ty20:TyOk Tryz.prog 20 r20:=mT Tryz.underlying20
abbrev r21:TyR := { desc :=.int .i32,size:=1,bytes:=4,zero :=.sc (.int .i32 0) }
theorem ty21:TyOk Tryz.prog 21 r21:=mT Tryz.underlying21
abbrev r22:TyR := { desc :=.slice 45,size:=1,bytes:=24,zero :=.sc (.slice none 0 0) }
theorem ty22:TyOk Tryz.prog 22 r22:=mT Tryz.underlying22
abbrev r23:TyR := { desc :=.struct [(0,22)],size:=1,bytes:=24,zero :=.cons (.sc (.slice none 0 0)) (.nil) }
theorem ty23:TyOk Tryz.prog 23 r23:=mT Tryz.underlying23
abbrev r24:TyR := { desc :=.struct [(0,22)],size:=1,bytes:=24,zero :=.cons (.sc (.slice none 0 0)) (.nil) }
theorem ty24:TyOk Tryz.prog 24 r24:=mT Tryz.underlying24
abbrev r25:TyR := { desc :=.slice 48,size:=1,bytes:=24,zero :=.sc (.slice none 0 0) }
theorem ty25:TyOk Tryz.prog 25 r25:=mT Tryz.underlying25
abbrev r26:TyR:=u0
theorem ty26:TyOk Tryz.prog 26 r26:=mT Tryz.underlying26
abbrev r27:TyR := { desc :=.slice 40,size:=1,bytes:=24,zero :=.sc (.slice none 0 0) }
theorem ty27:TyOk Tryz.prog 27 r27:=mT Tryz.underlying27
abbrev r28:TyR:=u2
theorem ty28:TyOk Tryz.prog 28 r28:=mT Tryz.underlying28
abbrev r30:TyR:=u0
theorem ty30:TyOk Tryz.prog 30 r30:=mT Tryz.underlying30
abbrev r31:TyR:=u0
theorem ty31:TyOk Tryz.prog 31 r31:=mT Tryz.underlying31
abbrev r32:TyR:=u0
theorem ty32:TyOk Tryz.prog 32 r32:=mT Tryz.underlying32
abbrev r33:TyR:=u4
theorem ty33:TyOk Tryz.prog 33 r33:=mT Tryz.underlying33
abbrev r34:TyR := { desc :=.slice 5,size:=1,bytes:=24,zero :=.sc (.slice none 0 0) }
theorem ty34:TyOk Tryz.prog 34 r34:=mT Tryz.underlying34
abbrev r35:TyR := { desc :=.struct [(0,33),(1,3),(2,34)],size:=3,bytes:=40,zero :=.cons (.sc (.int .u8 0)) (.cons (.sc (.int .i64 0)) (.cons (.sc (.slice none 0 0)) (.nil))) }
theorem ty35:TyOk Tryz.prog 35 r35:=mT Tryz.underlying35
abbrev r36:TyR := { desc :=.struct [(0,33),(1,3),(2,34)],size:=3,bytes:=40,zero :=.cons (.sc (.int .u8 0)) (.cons (.sc (.int .i64 0)) (.cons (.sc (.slice none 0 0)) (.nil))) }
theorem ty36:TyOk Tryz.prog 36 r36:=mT Tryz.underlying36
abbrev r37:TyR := { desc :=.array 32 5,size:=32,bytes:=32,zero :=.vec 32 1 bt (List.replicate 32 0) }
theorem ty37:TyOk Tryz.prog 37 r37:=mT Tryz.underlying37
abbrev r38:TyR := { desc :=.array 32 5,size:=32,bytes:=32,zero :=.vec 32 1 bt (List.replicate 32 0) }
theorem ty38:TyOk Tryz.prog 38 r38:=mT Tryz.underlying38
abbrev r39:TyR := { desc :=.struct [(0,3),(1,3),(2,3),(3,36),(6,3),(7,3),(8,38),(40,28)],size:=41,bytes:=120,zero :=.cons (.sc (.int .i64 0)) (.cons (.sc (.int .i64 0)) (.cons (.sc (.int .i64 0)) (.cons (.cons (.sc (.int .u8 0)) (.cons (.sc (.int .i64 0)) (.cons (.sc (.slice none 0 0)) (.nil)))) (.cons (.sc (.int .i64 0)) (.cons (.sc (.int .i64 0)) (.cons (.vec 32 1 bt (List.replicate 32 0)) (.cons (.sc (.int .i64 0)) (.nil)))))))) }
theorem ty39:TyOk Tryz.prog 39 r39:=mT Tryz.underlying39
abbrev r40:TyR := { desc :=.struct [(0,3),(1,3),(2,3),(3,36),(6,3),(7,3),(8,38),(40,28)],size:=41,bytes:=120,zero :=.cons (.sc (.int .i64 0)) (.cons (.sc (.int .i64 0)) (.cons (.sc (.int .i64 0)) (.cons (.cons (.sc (.int .u8 0)) (.cons (.sc (.int .i64 0)) (.cons (.sc (.slice none 0 0)) (.nil)))) (.cons (.sc (.int .i64 0)) (.cons (.sc (.int .i64 0)) (.cons (.vec 32 1 bt (List.replicate 32 0)) (.cons (.sc (.int .i64 0)) (.nil)))))))) }
theorem ty40:TyOk Tryz.prog 40 r40:=mT Tryz.underlying40
abbrev r41:TyR:=u0
theorem ty41:TyOk Tryz.prog 41 r41:=mT Tryz.underlying41
abbrev r42:TyR:=u0
theorem ty42:TyOk Tryz.prog 42 r42:=mT Tryz.underlying42
abbrev r43:TyR:=u0
theorem ty43:TyOk Tryz.prog 43 r43:=mT Tryz.underlying43
abbrev r44:TyR:=u3
theorem ty44:TyOk Tryz.prog 44 r44:=mT Tryz.underlying44
abbrev r45:TyR:=u3
theorem ty45:TyOk Tryz.prog 45 r45:=mT Tryz.underlying45
abbrev r46:TyR:=u4
theorem ty46:TyOk Tryz.prog 46 r46:=mT Tryz.underlying46
abbrev r47:TyR := { desc :=.struct [(0,46),(1,3),(2,36),(5,38),(37,28)],size:=38,bytes:=96,zero :=.cons (.sc (.int .u8 0)) (.cons (.sc (.int .i64 0)) (.cons (.cons (.sc (.int .u8 0)) (.cons (.sc (.int .i64 0)) (.cons (.sc (.slice none 0 0)) (.nil)))) (.cons (.vec 32 1 bt (List.replicate 32 0)) (.cons (.sc (.int .i64 0)) (.nil))))) }
theorem ty47:TyOk Tryz.prog 47 r47:=mT Tryz.underlying47
abbrev r48:TyR := { desc :=.struct [(0,46),(1,3),(2,36),(5,38),(37,28)],size:=38,bytes:=96,zero :=.cons (.sc (.int .u8 0)) (.cons (.sc (.int .i64 0)) (.cons (.cons (.sc (.int .u8 0)) (.cons (.sc (.int .i64 0)) (.cons (.sc (.slice none 0 0)) (.nil)))) (.cons (.vec 32 1 bt (List.replicate 32 0)) (.cons (.sc (.int .i64 0)) (.nil))))) }
theorem ty48:TyOk Tryz.prog 48 r48:=mT Tryz.underlying48
abbrev r49:TyR:=u0
theorem ty49:TyOk Tryz.prog 49 r49:=mT Tryz.underlying49
abbrev r50:TyR:=u0
theorem ty50:TyOk Tryz.prog 50 r50:=mT Tryz.underlying50
abbrev r51:TyR := { desc :=.slice 28,size:=1,bytes:=24,zero :=.sc (.slice none 0 0) }
theorem ty51:TyOk Tryz.prog 51 r51:=mT Tryz.underlying51
abbrev r52:TyR:=u0
theorem ty52:TyOk Tryz.prog 52 r52:=mT Tryz.underlying52
abbrev r53:TyR:=u0
theorem ty53:TyOk Tryz.prog 53 r53:=mT Tryz.underlying53
abbrev r54:TyR:=u1
theorem ty54:TyOk Tryz.prog 54 r54:=mT Tryz.underlying54
abbrev r56:TyR:=u0
theorem ty56:TyOk Tryz.prog 56 r56:=mT Tryz.underlying56
abbrev r57:TyR:=u0
theorem ty57:TyOk Tryz.prog 57 r57:=mT Tryz.underlying57
abbrev r58:TyR := { desc :=.array 8 3,size:=8,bytes:=64,zero :=.cons (.sc (.int .i64 0)) (.cons (.sc (.int .i64 0)) (.cons (.sc (.int .i64 0)) (.cons (.sc (.int .i64 0)) (.cons (.sc (.int .i64 0)) (.cons (.sc (.int .i64 0)) (.cons (.sc (.int .i64 0)) (.cons (.sc (.int .i64 0)) (.nil)))))))) }
theorem ty58:TyOk Tryz.prog 58 r58:=mT Tryz.underlying58
abbrev r59:TyR := { desc :=.struct [(0,58),(8,58),(16,3),(17,3),(18,27)],size:=19,bytes:=168,zero :=.cons (.cons (.sc (.int .i64 0)) (.cons (.sc (.int .i64 0)) (.cons (.sc (.int .i64 0)) (.cons (.sc (.int .i64 0)) (.cons (.sc (.int .i64 0)) (.cons (.sc (.int .i64 0)) (.cons (.sc (.int .i64 0)) (.cons (.sc (.int .i64 0)) (.nil))))))))) (.cons (.cons (.sc (.int .i64 0)) (.cons (.sc (.int .i64 0)) (.cons (.sc (.int .i64 0)) (.cons (.sc (.int .i64 0)) (.cons (.sc (.int .i64 0)) (.cons (.sc (.int .i64 0)) (.cons (.sc (.int .i64 0)) (.cons (.sc (.int .i64 0)) (.nil))))))))) (.cons (.sc (.int .i64 0)) (.cons (.sc (.int .i64 0)) (.cons (.sc (.slice none 0 0)) (.nil))))) }
theorem ty59:TyOk Tryz.prog 59 r59:=mT Tryz.underlying59
abbrev r60:TyR := { desc :=.struct [(0,58),(8,58),(16,3),(17,3),(18,27)],size:=19,bytes:=168,zero :=.cons (.cons (.sc (.int .i64 0)) (.cons (.sc (.int .i64 0)) (.cons (.sc (.int .i64 0)) (.cons (.sc (.int .i64 0)) (.cons (.sc (.int .i64 0)) (.cons (.sc (.int .i64 0)) (.cons (.sc (.int .i64 0)) (.cons (.sc (.int .i64 0)) (.nil))))))))) (.cons (.cons (.sc (.int .i64 0)) (.cons (.sc (.int .i64 0)) (.cons (.sc (.int .i64 0)) (.cons (.sc (.int .i64 0)) (.cons (.sc (.int .i64 0)) (.cons (.sc (.int .i64 0)) (.cons (.sc (.int .i64 0)) (.cons (.sc (.int .i64 0)) (.nil))))))))) (.cons (.sc (.int .i64 0)) (.cons (.sc (.int .i64 0)) (.cons (.sc (.slice none 0 0)) (.nil))))) }
theorem ty60:TyOk Tryz.prog 60 r60:=mT Tryz.underlying60
abbrev r61:TyR:=u0
theorem ty61:TyOk Tryz.prog 61 r61:=mT Tryz.underlying61
abbrev r62:TyR:=u0
theorem ty62:TyOk Tryz.prog 62 r62:=mT Tryz.underlying62
abbrev r64:TyR:=u0
theorem ty64:TyOk Tryz.prog 64 r64:=mT Tryz.underlying64
abbrev r65:TyR := { desc :=.slice 25,size:=1,bytes:=24,zero :=.sc (.slice none 0 0) }
theorem ty65:TyOk Tryz.prog 65 r65:=mT Tryz.underlying65
abbrev r67:TyR:=u0
theorem ty67:TyOk Tryz.prog 67 r67:=mT Tryz.underlying67
abbrev r69:TyR:=u0
theorem ty69:TyOk Tryz.prog 69 r69:=mT Tryz.underlying69
abbrev r71:TyR:=u0
theorem ty71:TyOk Tryz.prog 71 r71:=mT Tryz.underlying71
abbrev r72:TyR:=u0
theorem ty72:TyOk Tryz.prog 72 r72:=mT Tryz.underlying72
abbrev r73:TyR := { desc :=.slice 9,size:=1,bytes:=24,zero :=.sc (.slice none 0 0) }
theorem ty73:TyOk Tryz.prog 73 r73:=mT Tryz.underlying73
abbrev r75:TyR:=u0
theorem ty75:TyOk Tryz.prog 75 r75:=mT Tryz.underlying75
abbrev r76:TyR := { desc :=.array 3 28,size:=3,bytes:=24,zero :=.cons (.sc (.int .i64 0)) (.cons (.sc (.int .i64 0)) (.cons (.sc (.int .i64 0)) (.nil))) }
theorem ty76:TyOk Tryz.prog 76 r76:=mT Tryz.underlying76
abbrev r77:TyR:=u5
theorem ty77:TyOk Tryz.prog 77 r77:=mT Tryz.underlying77
abbrev r78:TyR:=u3
theorem ty78:TyOk Tryz.prog 78 r78:=mT Tryz.underlying78
abbrev r79:TyR:=u3
theorem ty79:TyOk Tryz.prog 79 r79:=mT Tryz.underlying79
abbrev r80:TyR:=u0
theorem ty80:TyOk Tryz.prog 80 r80:=mT Tryz.underlying80
abbrev r81:TyR:=u0
theorem ty81:TyOk Tryz.prog 81 r81:=mT Tryz.underlying81
abbrev r82:TyR:=u0
theorem ty82:TyOk Tryz.prog 82 r82:=mT Tryz.underlying82
abbrev r83:TyR:=u0
theorem ty83:TyOk Tryz.prog 83 r83:=mT Tryz.underlying83
abbrev r84:TyR:=u0
theorem ty84:TyOk Tryz.prog 84 r84:=mT Tryz.underlying84
abbrev r85:TyR:=u0
theorem ty85:TyOk Tryz.prog 85 r85:=mT Tryz.underlying85
abbrev r86:TyR:=u1
theorem ty86:TyOk Tryz.prog 86 r86:=mT Tryz.underlying86
abbrev r87:TyR := { desc :=.struct [(0,86),(1,34)],size:=2,bytes:=32,zero :=.cons (.sc (.pointer none)) (.cons (.sc (.slice none 0 0)) (.nil)) }
theorem ty87:TyOk Tryz.prog 87 r87:=mT Tryz.underlying87
abbrev r88:TyR := { desc :=.struct [(0,86),(1,34)],size:=2,bytes:=32,zero :=.cons (.sc (.pointer none)) (.cons (.sc (.slice none 0 0)) (.nil)) }
theorem ty88:TyOk Tryz.prog 88 r88:=mT Tryz.underlying88
abbrev r89:TyR:=u6
theorem ty89:TyOk Tryz.prog 89 r89:=mT Tryz.underlying89
abbrev r90:TyR:=u6
theorem ty90:TyOk Tryz.prog 90 r90:=mT Tryz.underlying90
abbrev r92:TyR:=u0
theorem ty92:TyOk Tryz.prog 92 r92:=mT Tryz.underlying92
abbrev r93:TyR:=u0
theorem ty93:TyOk Tryz.prog 93 r93:=mT Tryz.underlying93
abbrev r94:TyR:=u0
theorem ty94:TyOk Tryz.prog 94 r94:=mT Tryz.underlying94
abbrev r96:TyR:=u0
theorem ty96:TyOk Tryz.prog 96 r96:=mT Tryz.underlying96
abbrev r98:TyR:=u0
theorem ty98:TyOk Tryz.prog 98 r98:=mT Tryz.underlying98
abbrev r99:TyR:=u0
theorem ty99:TyOk Tryz.prog 99 r99:=mT Tryz.underlying99
abbrev r100:TyR:=u0
theorem y1:TyOk Tryz.prog 100 r100:=mT Tryz.underlying100
abbrev r101:TyR:=u1
theorem yZ:TyOk Tryz.prog 101 r101:=mT Tryz.underlying101
abbrev r102:TyR:=u0
theorem yY:TyOk Tryz.prog 102 r102:=mT Tryz.underlying102
abbrev r103:TyR := { desc :=.slice 3,size:=1,bytes:=24,zero :=.sc (.slice none 0 0) }
theorem yX:TyOk Tryz.prog 103 r103:=mT Tryz.underlying103
abbrev r104:TyR:=u0
theorem yW:TyOk Tryz.prog 104 r104:=mT Tryz.underlying104
abbrev r105:TyR:=u0
theorem yV:TyOk Tryz.prog 105 r105:=mT Tryz.underlying105
abbrev r106:TyR:=u0
theorem yU:TyOk Tryz.prog 106 r106:=mT Tryz.underlying106
abbrev r107:TyR := { desc :=.cell,size:=1,bytes:=8,zero :=.sc (.map none) }
theorem yT:TyOk Tryz.prog 107 r107:=mT Tryz.underlying107
abbrev r108:TyR:=u0
theorem yS:TyOk Tryz.prog 108 r108:=mT Tryz.underlying108
abbrev r109:TyR:=u1
theorem yR:TyOk Tryz.prog 109 r109:=mT Tryz.underlying109
abbrev r110:TyR := { desc :=.slice 113,size:=1,bytes:=24,zero :=.sc (.slice none 0 0) }
theorem yQ:TyOk Tryz.prog 110 r110:=mT Tryz.underlying110
abbrev r112:TyR:=u0
theorem yP:TyOk Tryz.prog 112 r112:=mT Tryz.underlying112
abbrev r113:TyR := { desc :=.slice 36,size:=1,bytes:=24,zero :=.sc (.slice none 0 0) }
theorem yO:TyOk Tryz.prog 113 r113:=mT Tryz.underlying113
abbrev r115:TyR:=u0
theorem yN:TyOk Tryz.prog 115 r115:=mT Tryz.underlying115
abbrev r116:TyR:=u0
theorem yM:TyOk Tryz.prog 116 r116:=mT Tryz.underlying116
abbrev r118:TyR:=u0
theorem yL:TyOk Tryz.prog 118 r118:=mT Tryz.underlying118
abbrev r119:TyR:=u0
theorem yK:TyOk Tryz.prog 119 r119:=mT Tryz.underlying119
abbrev r120:TyR:=u0
theorem yJ:TyOk Tryz.prog 120 r120:=mT Tryz.underlying120
abbrev r121:TyR:=u0
theorem yI:TyOk Tryz.prog 121 r121:=mT Tryz.underlying121
abbrev r122:TyR:=u0
theorem yH:TyOk Tryz.prog 122 r122:=mT Tryz.underlying122
abbrev r123:TyR:=u0
theorem yG:TyOk Tryz.prog 123 r123:=mT Tryz.underlying123
abbrev r124:TyR := { desc :=.cell,size:=1,bytes:=8,zero :=.sc (.map none) }
theorem yF:TyOk Tryz.prog 124 r124:=mT Tryz.underlying124
abbrev r125:TyR:=u0
theorem yE:TyOk Tryz.prog 125 r125:=mT Tryz.underlying125
abbrev r126:TyR:=u0
theorem yD:TyOk Tryz.prog 126 r126:=mT Tryz.underlying126
abbrev r127:TyR:=u0
theorem yC:TyOk Tryz.prog 127 r127:=mT Tryz.underlying127
abbrev r130:TyR:=u0
theorem yB:TyOk Tryz.prog 130 r130:=mT Tryz.underlying130
abbrev r131:TyR:=u0
theorem yA:TyOk Tryz.prog 131 r131:=mT Tryz.underlying131
abbrev r132:TyR:=u0
theorem yz:TyOk Tryz.prog 132 r132:=mT Tryz.underlying132
abbrev r133:TyR:=u0
theorem yy:TyOk Tryz.prog 133 r133:=mT Tryz.underlying133
abbrev r134:TyR:=u0
theorem yx:TyOk Tryz.prog 134 r134:=mT Tryz.underlying134
abbrev r135:TyR:=u0
theorem yw:TyOk Tryz.prog 135 r135:=mT Tryz.underlying135
abbrev r136:TyR:=u0
theorem yv:TyOk Tryz.prog 136 r136:=mT Tryz.underlying136
abbrev r137:TyR:=u2
theorem yu:TyOk Tryz.prog 137 r137:=mT Tryz.underlying137
abbrev r139:TyR:=u0
theorem yr:TyOk Tryz.prog 139 r139:=mT Tryz.underlying139
abbrev r140:TyR:=u1
theorem yq:TyOk Tryz.prog 140 r140:=mT Tryz.underlying140
abbrev r141:TyR:=u0
theorem yp:TyOk Tryz.prog 141 r141:=mT Tryz.underlying141
abbrev r142:TyR:=u0
theorem yo:TyOk Tryz.prog 142 r142:=mT Tryz.underlying142
abbrev r143:TyR:=u0
theorem yn:TyOk Tryz.prog 143 r143:=mT Tryz.underlying143
abbrev r144:TyR:=u0
theorem ym:TyOk Tryz.prog 144 r144:=mT Tryz.underlying144
abbrev r145:TyR:=u0
theorem yl:TyOk Tryz.prog 145 r145:=mT Tryz.underlying145
abbrev r146:TyR := { desc :=.array 24 5,size:=24,bytes:=24,zero :=.vec 24 1 bt (List.replicate 24 0) }
theorem yk:TyOk Tryz.prog 146 r146:=mT Tryz.underlying146
abbrev r147:TyR:=u5
theorem yj:TyOk Tryz.prog 147 r147:=mT Tryz.underlying147
abbrev r148:TyR:=u0
theorem yi:TyOk Tryz.prog 148 r148:=mT Tryz.underlying148
abbrev r149:TyR:=u0
theorem yh:TyOk Tryz.prog 149 r149:=mT Tryz.underlying149
abbrev r151:TyR:=u0
theorem yg:TyOk Tryz.prog 151 r151:=mT Tryz.underlying151
abbrev r152:TyR:=u0
theorem yf:TyOk Tryz.prog 152 r152:=mT Tryz.underlying152
abbrev r153:TyR:=u0
theorem ye:TyOk Tryz.prog 153 r153:=mT Tryz.underlying153
abbrev r154:TyR:=u0
theorem yd:TyOk Tryz.prog 154 r154:=mT Tryz.underlying154
abbrev r155:TyR:=u0
theorem yb:TyOk Tryz.prog 155 r155:=mT Tryz.underlying155
abbrev r156:TyR := { desc :=.int .u32,size:=1,bytes:=4,zero :=.sc (.int .u32 0) }
theorem ya:TyOk Tryz.prog 156 r156:=mT Tryz.underlying156
abbrev r158:TyR:=u0
theorem x9:TyOk Tryz.prog 158 r158:=mT Tryz.underlying158
abbrev r160:TyR:=u0
theorem x8:TyOk Tryz.prog 160 r160:=mT Tryz.underlying160
abbrev r161:TyR:=u0
theorem x7:TyOk Tryz.prog 161 r161:=mT Tryz.underlying161
abbrev r162:TyR := { desc :=.struct [(0,9),(1,9),(2,90)],size:=3,bytes:=48,zero :=.cons (.sc (.string ⟨#[]⟩)) (.cons (.sc (.string ⟨#[]⟩)) (.cons (.sc .nilIface) (.nil))) }
theorem x6:TyOk Tryz.prog 162 r162:=mT Tryz.underlying162
abbrev r163:TyR := { desc :=.struct [(0,9),(1,9),(2,90)],size:=3,bytes:=48,zero :=.cons (.sc (.string ⟨#[]⟩)) (.cons (.sc (.string ⟨#[]⟩)) (.cons (.sc .nilIface) (.nil))) }
theorem x5:TyOk Tryz.prog 163 r163:=mT Tryz.underlying163
abbrev r164:TyR:=u0
theorem x4:TyOk Tryz.prog 164 r164:=mT Tryz.underlying164
abbrev r166:TyR:=u0
theorem x3:TyOk Tryz.prog 166 r166:=mT Tryz.underlying166
abbrev r167:TyR := { desc :=.slice 73,size:=1,bytes:=24,zero :=.sc (.slice none 0 0) }
theorem x2:TyOk Tryz.prog 167 r167:=mT Tryz.underlying167
abbrev r168:TyR:=u0
theorem x1:TyOk Tryz.prog 168 r168:=mT Tryz.underlying168
abbrev r169:TyR:=u0
theorem xZ:TyOk Tryz.prog 169 r169:=mT Tryz.underlying169
abbrev r170:TyR:=u0
theorem xY:TyOk Tryz.prog 170 r170:=mT Tryz.underlying170
abbrev r171:TyR := { desc :=.array 20 147,size:=20,bytes:=160,zero :=.cons (.sc (.int .u64 0)) (.cons (.sc (.int .u64 0)) (.cons (.sc (.int .u64 0)) (.cons (.sc (.int .u64 0)) (.cons (.sc (.int .u64 0)) (.cons (.sc (.int .u64 0)) (.cons (.sc (.int .u64 0)) (.cons (.sc (.int .u64 0)) (.cons (.sc (.int .u64 0)) (.cons (.sc (.int .u64 0)) (.cons (.sc (.int .u64 0)) (.cons (.sc (.int .u64 0)) (.cons (.sc (.int .u64 0)) (.cons (.sc (.int .u64 0)) (.cons (.sc (.int .u64 0)) (.cons (.sc (.int .u64 0)) (.cons (.sc (.int .u64 0)) (.cons (.sc (.int .u64 0)) (.cons (.sc (.int .u64 0)) (.cons (.sc (.int .u64 0)) (.nil)))))))))))))))))))) }
theorem xX:TyOk Tryz.prog 171 r171:=mT Tryz.underlying171
abbrev r172:TyR := { desc :=.array 65 5,size:=65,bytes:=65,zero :=.vec 65 1 bt (List.replicate 65 0) }
theorem xW:TyOk Tryz.prog 172 r172:=mT Tryz.underlying172
abbrev r173:TyR:=u0
theorem xV:TyOk Tryz.prog 173 r173:=mT Tryz.underlying173
abbrev r174:TyR:=u0
theorem xU:TyOk Tryz.prog 174 r174:=mT Tryz.underlying174
abbrev r175:TyR:=u0
theorem xT:TyOk Tryz.prog 175 r175:=mT Tryz.underlying175
abbrev r176:TyR:=u0
theorem xS:TyOk Tryz.prog 176 r176:=mT Tryz.underlying176
abbrev r177:TyR:=u0
theorem xR:TyOk Tryz.prog 177 r177:=mT Tryz.underlying177
abbrev r178:TyR:=u0
theorem xQ:TyOk Tryz.prog 178 r178:=mT Tryz.underlying178
abbrev r179:TyR:=u1
theorem xP:TyOk Tryz.prog 179 r179:=mT Tryz.underlying179
abbrev r180:TyR := { desc :=.struct [(0,9)],size:=1,bytes:=16,zero :=.cons (.sc (.string ⟨#[]⟩)) (.nil) }
theorem xO:TyOk Tryz.prog 180 r180:=mT Tryz.underlying180
abbrev r181:TyR := { desc :=.struct [(0,9)],size:=1,bytes:=16,zero :=.cons (.sc (.string ⟨#[]⟩)) (.nil) }
theorem xN:TyOk Tryz.prog 181 r181:=mT Tryz.underlying181
abbrev r182:TyR:=u0
theorem xM:TyOk Tryz.prog 182 r182:=mT Tryz.underlying182
abbrev r184:TyR:=u0
theorem xL:TyOk Tryz.prog 184 r184:=mT Tryz.underlying184
abbrev r185:TyR:=u0
theorem xK:TyOk Tryz.prog 185 r185:=mT Tryz.underlying185
abbrev r186:TyR := { desc :=.array 64 5,size:=64,bytes:=64,zero :=.vec 64 1 bt (List.replicate 64 0) }
theorem xJ:TyOk Tryz.prog 186 r186:=mT Tryz.underlying186
abbrev r187:TyR := { desc :=.array 256 5,size:=256,bytes:=256,zero :=.vec 256 1 bt (List.replicate 256 0) }
theorem xI:TyOk Tryz.prog 187 r187:=mT Tryz.underlying187
abbrev r188:TyR := { desc :=.struct [(0,5),(1,5)],size:=2,bytes:=2,zero :=.cons (.sc (.int .u8 0)) (.cons (.sc (.int .u8 0)) (.nil)) }
theorem xH:TyOk Tryz.prog 188 r188:=mT Tryz.underlying188
abbrev r189:TyR := { desc :=.struct [(0,5),(1,5)],size:=2,bytes:=2,zero :=.cons (.sc (.int .u8 0)) (.cons (.sc (.int .u8 0)) (.nil)) }
theorem xG:TyOk Tryz.prog 189 r189:=mT Tryz.underlying189
abbrev r190:TyR := { desc :=.array 16 189,size:=32,bytes:=32,zero :=.cons (.cons (.sc (.int .u8 0)) (.cons (.sc (.int .u8 0)) (.nil))) (.cons (.cons (.sc (.int .u8 0)) (.cons (.sc (.int .u8 0)) (.nil))) (.cons (.cons (.sc (.int .u8 0)) (.cons (.sc (.int .u8 0)) (.nil))) (.cons (.cons (.sc (.int .u8 0)) (.cons (.sc (.int .u8 0)) (.nil))) (.cons (.cons (.sc (.int .u8 0)) (.cons (.sc (.int .u8 0)) (.nil))) (.cons (.cons (.sc (.int .u8 0)) (.cons (.sc (.int .u8 0)) (.nil))) (.cons (.cons (.sc (.int .u8 0)) (.cons (.sc (.int .u8 0)) (.nil))) (.cons (.cons (.sc (.int .u8 0)) (.cons (.sc (.int .u8 0)) (.nil))) (.cons (.cons (.sc (.int .u8 0)) (.cons (.sc (.int .u8 0)) (.nil))) (.cons (.cons (.sc (.int .u8 0)) (.cons (.sc (.int .u8 0)) (.nil))) (.cons (.cons (.sc (.int .u8 0)) (.cons (.sc (.int .u8 0)) (.nil))) (.cons (.cons (.sc (.int .u8 0)) (.cons (.sc (.int .u8 0)) (.nil))) (.cons (.cons (.sc (.int .u8 0)) (.cons (.sc (.int .u8 0)) (.nil))) (.cons (.cons (.sc (.int .u8 0)) (.cons (.sc (.int .u8 0)) (.nil))) (.cons (.cons (.sc (.int .u8 0)) (.cons (.sc (.int .u8 0)) (.nil))) (.cons (.cons (.sc (.int .u8 0)) (.cons (.sc (.int .u8 0)) (.nil))) (.nil)))))))))))))))) }
theorem xF:TyOk Tryz.prog 190 r190:=mT Tryz.underlying190
abbrev r193:TyR := { desc :=.array 0 16,size:=0,bytes:=0,zero :=.nil }
theorem xE:TyOk Tryz.prog 193 r193:=mT Tryz.underlying193
abbrev r196:TyR:=u0
theorem xD:TyOk Tryz.prog 196 r196:=mT Tryz.underlying196
abbrev r199:TyR:=u0
theorem xC:TyOk Tryz.prog 199 r199:=mT Tryz.underlying199
abbrev tab:Tab:=[(1,r1),(2,r2),(3,r3),(4,r4),(5,r5),(9,r9),(12,r12),(13,r13),(20,r20),(21,r21),(22,r22),(23,r23),(24,r24),(25,r25),(26,r26),(27,r27),(28,r28),(30,r30),(31,r31),(32,r32),(33,r33),(34,r34),(35,r35),(36,r36),(37,r37),(38,r38),(39,r39),(40,r40),(41,r41),(42,r42),(43,r43),(44,r44),(45,r45),(46,r46),(47,r47),(48,r48),(49,r49),(50,r50),(51,r51),(52,r52),(53,r53),(54,r54),(56,r56),(57,r57),(58,r58),(59,r59),(60,r60),(61,r61),(62,r62),(64,r64),(65,r65),(67,r67),(69,r69),(71,r71),(72,r72),(73,r73),(75,r75),(76,r76),(77,r77),(78,r78),(79,r79),(80,r80),(81,r81),(82,r82),(83,r83),(84,r84),(85,r85),(86,r86),(87,r87),(88,r88),(89,r89),(90,r90),(92,r92),(93,r93),(94,r94),(96,r96),(98,r98),(99,r99),(100,r100),(101,r101),(102,r102),(103,r103),(104,r104),(105,r105),(106,r106),(107,r107),(108,r108),(109,r109),(110,r110),(112,r112),(113,r113),(115,r115),(116,r116),(118,r118),(119,r119),(120,r120),(121,r121),(122,r122),(123,r123),(124,r124),(125,r125),(126,r126),(127,r127),(130,r130),(131,r131),(132,r132),(133,r133),(134,r134),(135,r135),(136,r136),(137,r137),(139,r139),(140,r140),(141,r141),(142,r142),(143,r143),(144,r144),(145,r145),(146,r146),(147,r147),(148,r148),(149,r149),(151,r151),(152,r152),(153,r153),(154,r154),(155,r155),(156,r156),(158,r158),(160,r160),(161,r161),(162,r162),(163,r163),(164,r164),(166,r166),(167,r167),(168,r168),(169,r169),(170,r170),(171,r171),(172,r172),(173,r173),(174,r174),(175,r175),(176,r176),(177,r177),(178,r178),(179,r179),(180,r180),(181,r181),(182,r182),(184,r184),(185,r185),(186,r186),(187,r187),(188,r188),(189,r189),(190,r190),(193,r193),(196,r196),(199,r199)]
theorem aa:ao Tryz.prog tab :=
 (ao.cons ty1 (ao.cons ty2 (ao.cons ty3 (ao.cons ty4 (ao.cons ty5 (ao.cons ty9 (ao.cons ty12 (ao.cons ty13 (ao.cons ty20 (ao.cons ty21 (ao.cons ty22 (ao.cons ty23 (ao.cons ty24 (ao.cons ty25 (ao.cons ty26 (ao.cons ty27 (ao.cons ty28 (ao.cons ty30 (ao.cons ty31 (ao.cons ty32 (ao.cons ty33 (ao.cons ty34 (ao.cons ty35 (ao.cons ty36 (ao.cons ty37 (ao.cons ty38 (ao.cons ty39 (ao.cons ty40 (ao.cons ty41 (ao.cons ty42 (ao.cons ty43 (ao.cons ty44 (ao.cons ty45 (ao.cons ty46 (ao.cons ty47 (ao.cons ty48 (ao.cons ty49 (ao.cons ty50 (ao.cons ty51 (ao.cons ty52 (ao.cons ty53 (ao.cons ty54 (ao.cons ty56 (ao.cons ty57 (ao.cons ty58 (ao.cons ty59 (ao.cons ty60 (ao.cons ty61 (ao.cons ty62 (ao.cons ty64 (ao.cons ty65 (ao.cons ty67 (ao.cons ty69 (ao.cons ty71 (ao.cons ty72 (ao.cons ty73 (ao.cons ty75 (ao.cons ty76 (ao.cons ty77 (ao.cons ty78 (ao.cons ty79 (ao.cons ty80 (ao.cons ty81 (ao.cons ty82 (ao.cons ty83 (ao.cons ty84 (ao.cons ty85 (ao.cons ty86 (ao.cons ty87 (ao.cons ty88 (ao.cons ty89 (ao.cons ty90 (ao.cons ty92 (ao.cons ty93 (ao.cons ty94 (ao.cons ty96 (ao.cons ty98 (ao.cons ty99 (ao.cons y1 (ao.cons yZ (ao.cons yY (ao.cons yX (ao.cons yW (ao.cons yV (ao.cons yU (ao.cons yT (ao.cons yS (ao.cons yR (ao.cons yQ (ao.cons yP (ao.cons yO (ao.cons yN (ao.cons yM (ao.cons yL (ao.cons yK (ao.cons yJ (ao.cons yI (ao.cons yH (ao.cons yG (ao.cons yF (ao.cons yE (ao.cons yD (ao.cons yC (ao.cons yB (ao.cons yA (ao.cons yz (ao.cons yy (ao.cons yx (ao.cons yw (ao.cons yv (ao.cons yu (ao.cons yr (ao.cons yq (ao.cons yp (ao.cons yo (ao.cons yn (ao.cons ym (ao.cons yl (ao.cons yk (ao.cons yj (ao.cons yi (ao.cons yh (ao.cons yg (ao.cons yf (ao.cons ye (ao.cons yd (ao.cons yb (ao.cons ya (ao.cons x9 (ao.cons x8 (ao.cons x7 (ao.cons x6 (ao.cons x5 (ao.cons x4 (ao.cons x3 (ao.cons x2 (ao.cons x1 (ao.cons xZ (ao.cons xY (ao.cons xX (ao.cons xW (ao.cons xV (ao.cons xU (ao.cons xT (ao.cons xS (ao.cons xR (ao.cons xQ (ao.cons xP (ao.cons xO (ao.cons xN (ao.cons xM (ao.cons xL (ao.cons xK (ao.cons xJ (ao.cons xI (ao.cons xH (ao.cons xG (ao.cons xF (ao.cons xE (ao.cons xD (ao.cons xC ao.nil)))))))))))))))))))))))))))))))))))))))))))))))))))))))))))))))))))))))))))))))))))))))))))))))))))))))))))))))))))))))))))))))))))))))))))))))))))))))))))))))))
end Go.Proofs.YtjfkhlamjdbfkaaGreatDoor
namespace Go.Proofs.YtjfkhlamjdbfkaaGreatDoor
open Go.Eng
section
variable {sz n : Nat} {env : Env} {h : Upds} {all l : List Oper} {Q : Exit → St → Prop} {y : Code} {id : Nat} {ops : Array Oper} {K : Env → Upds → Nat → Prop} {d : Tmp} {op : Op} {ty : TypeId} {pos : String} {af : Array Edge} {v : AV}
theorem rC (h1:RegS Tryz.prog all sz l (n+8) ((d,v)::env) h K) (hd:Nat.blt d sz=true:=by exact rfl) (hop:∀K:Option AV→Upds→Prop,K (some v) []→opD tab op (au env) (bd h) n K:=by exact fun _ h=>h) :
  RegS Tryz.prog all sz (⟨some d,op,ty,pos,af,none⟩::l) n env h K:=mp hd (aC aa hop) h1
theorem rQ (hs:aq Tryz.prog op env h n (some v) []) (h1:RegS Tryz.prog all sz l (n+8) ((d,v)::env) h K) (hd:Nat.blt d sz=true:=by exact rfl) :
  RegS Tryz.prog all sz (⟨some d,op,ty,pos,af,none⟩::l) n env h K:=mp hd hs h1
theorem rN {x:Nat×Option Row} (h1:RegS Tryz.prog all sz l (n+8) ((d,v)::env) (x::h) K) (hd:Nat.blt d sz=true:=by exact rfl) (hop:∀K:Option AV→Upds→Prop,K (some v) [x]→opD tab op (au env) (bd h) n K:=by exact fun _ h=>h) :
  RegS Tryz.prog all sz (⟨some d,op,ty,pos,af,none⟩::l) n env h K:=aG (aC aa hop) hd h1
theorem nS {b:Code} (h1:WC Tryz.prog sz b Q env h n):RegS Tryz.prog all sz [] n env h (RegK (SeqQ Tryz.prog b Q) sz):=ay (aK h1)
theorem sR (h1:RegS Tryz.prog ops.toList sz ops.toList n env h (RegK (SeqQ Tryz.prog y Q) sz)):WC Tryz.prog sz (.seq (.region id ops false) y) Q env h n:=bD (ai h1)
theorem kS {b:Code} (h1:WC Tryz.prog sz b Q env h n):WC Tryz.prog sz .skip (SeqQ Tryz.prog b Q) env h n:=aS (aK h1)
theorem nQ {b c:Code} (h1:WC Tryz.prog sz b (SeqQ Tryz.prog c Q) env h n):RegS Tryz.prog all sz [] n env h (RegK (SeqQ Tryz.prog (.seq b c) Q) sz):=nS (bD h1)
theorem qR {c:Code} (h1:RegS Tryz.prog ops.toList sz ops.toList n env h (RegK (SeqQ Tryz.prog y (SeqQ Tryz.prog c Q)) sz)):WC Tryz.prog sz (.seq (.seq (.region id ops false) y) c) Q env h n:=bD (sR h1)
theorem lf {l:b4} {st st':St} (h1:fy (rho l) (bP st'.heap)=true:=by exact rfl) (h2:st'.sz=st.sz:=by exact rfl) (h3:st'.bs=st.bs:=by exact rfl) (h4:Nat.ble st'.bs st'.next=true:=by exact rfl) (h5:ea st'.bs l=true:=by exact rfl)
  (h6:kw (rho l) st.env st'.next st'.env:=by exact⟨⟨_,rfl,AVLe.of_eq rfl⟩,rfl,trivial⟩) (h7:gF (rho l) st st'.next st'.heap:=by exact trivial):Le l st st' :=.of h1 h2 h3 h4 h5 h6 h7
theorem nR (h1:RegS Tryz.prog ops.toList sz ops.toList n env h (RegK (SeqQ Tryz.prog y Q) sz)):RegS Tryz.prog all sz [] n env h (RegK (SeqQ Tryz.prog (.seq (.region id ops false) y) Q) sz):=nS (sR h1)
section
variable {dd : Option Tmp} {j g : Nat} {want b : Bool} {env' : Env}
theorem rO (h1:RegS Tryz.prog all sz (⟨dd,op,ty,pos,af,none⟩::l) n env h K) (hj:((all[j]?).bind (·.dst))=some g:=by exact rfl) (hb:lk env g=some (.bool b):=by exact rfl) (he:b=want:=by assumption) :
  RegS Tryz.prog all sz (⟨dd,op,ty,pos,af,some (j,want)⟩::l) n env h K:=tq hj hb he h1
theorem rP (h1:RegS Tryz.prog all sz (⟨dd,op,ty,pos,af,none⟩::l) n env h K) (hj:((all[j]?).bind (·.dst))=some g:=by exact rfl) (hb:lk env g=some (.bool b):=by exact rfl) (he:b=want:=by exact rfl) :
  RegS Tryz.prog all sz (⟨dd,op,ty,pos,af,some (j,want)⟩::l) n env h K:=tq hj hb he h1
theorem rS (h1:RegS Tryz.prog all sz l (n+8) env' h K) (hj:((all[j]?).bind (·.dst))=some g:=by exact rfl) (hb:lk env g=some (.bool b):=by exact rfl) (he:b = !want:=by assumption) (hd:fg dd sz=true:=by exact rfl) (he':putE dd none env=env':=by exact rfl) :
  RegS Tryz.prog all sz (⟨dd,op,ty,pos,af,some (j,want)⟩::l) n env h K:=om hj hb he hd he' h1
theorem rT (h1:RegS Tryz.prog all sz l (n+8) env' h K) (hj:((all[j]?).bind (·.dst))=some g:=by exact rfl) (hb:lk env g=some (.bool b):=by exact rfl) (he:b = !want:=by exact rfl) (hd:fg dd sz=true:=by exact rfl) (he':putE dd none env=env':=by exact rfl) :
  RegS Tryz.prog all sz (⟨dd,op,ty,pos,af,some (j,want)⟩::l) n env h K:=om hj hb he hd he' h1
theorem rU (h1:RegS Tryz.prog all sz l (n+8) env' h K) (hj:((all[j]?).bind (·.dst))=some g:=by exact rfl) (hb:lk env g=some .undef:=by exact rfl) (hd:fg dd sz=true:=by exact rfl) (he':putE dd none env=env':=by exact rfl) :
  RegS Tryz.prog all sz (⟨dd,op,ty,pos,af,some (j,want)⟩::l) n env h K:=rM hj hb hd he' h1
end
section
variable {t t' e s m : Nat} {x z i : Operand}
theorem iA {re:TyR} {α:Type} {enc:α→D} {xs:List α} {k:IntKind} {m:Int} {el:α} (hx:au env x=some (.d (.arr s enc xs)):=by exact rfl) (hi:au env i=some (.int k m):=by exact rfl) (ht:aW tab t=some (.slice e):=by exact rfl) (he:lk tab e=some re:=by exact rfl) (hs:Nat.beq re.size s=true:=by exact rfl)
  (h0:0≤m:=by omega) (hel:xs[m.toNat]?=some el:=by assumption):aq Tryz.prog (.indexAddr t x i) env h n (some (.iptr (enc el))) []:=aI aa ht he hs hx hi h0 hel
theorem iL {y:D} (hx:au env x=some (.iptr y):=by exact rfl) (hs:bn tab t (.d y)=true:=by exact rfl):aq Tryz.prog (.load t x) env h n (some (.d y)) []:=fR aa hx hs
theorem iB {r:Nat} {p:List Step} {ty:TypeId} {a v:AV} (hx:au env x=some (.ptr r p):=by exact rfl) (hr:bd h r=some (.box ty a):=by exact rfl) (hv:ASub a p v:=by exact⟨_,rfl,rfl⟩) (hs:bn tab t v=true:=by exact rfl):aq Tryz.prog (.load t x) env h n (some v) []:=aV aa hx hr hv hs
theorem iM {r:Nat} {p:List Step} {ty:TypeId} {a v:AV} (hx:au env x=some (.ptr r p):=by exact rfl) (hr:bd h r=some (.box ty a):=by exact rfl) (hv:ASub a p v:=by exact rfl) (hs:bn tab t v=true:=by exact rfl):aq Tryz.prog (.load t x) env h n (some v) []:=aV aa hx hr hv hs
theorem iE {α:Type} {enc:α→D} {xs:List α} (hx:au env x=some (.d (.arr s enc xs)):=by exact rfl) (ht:aW tab t=some (.slice e):=by exact rfl) :
  aq Tryz.prog (.call { callee :=.builtin .len,args := #[x],argTypes := #[t] }) env h n (some (.int .i64 xs.length)) []:=iP aa hx ht
theorem iF {c x y:Operand} {b:Bool} {v:AV} (hc:au env c=some (.bool b):=by exact rfl) (hb:b=false:=by assumption) (hv:au env y=some v:=by exact rfl):aq Tryz.prog (.pick c x y) env h n (some v) []:=tG aa hc hb hv
theorem iG {c x y:Operand} {b:Bool} {v:AV} (hc:au env c=some (.bool b):=by exact rfl) (hb:b=false:=by exact rfl) (hv:au env y=some v:=by exact rfl):aq Tryz.prog (.pick c x y) env h n (some v) []:=tG aa hc hb hv
theorem iT {c x y:Operand} {b:Bool} {v:AV} (hc:au env c=some (.bool b):=by exact rfl) (hb:b=true:=by assumption) (hv:au env x=some v:=by exact rfl):aq Tryz.prog (.pick c x y) env h n (some v) []:=tF aa hc hb hv
theorem iU {c x y:Operand} {b:Bool} {v:AV} (hc:au env c=some (.bool b):=by exact rfl) (hb:b=true:=by exact rfl) (hv:au env x=some v:=by exact rfl):aq Tryz.prog (.pick c x y) env h n (some v) []:=tF aa hc hb hv
theorem iD {x y:Operand} {t t':TypeId} {a b:Int} (hx:au env x=some (.int .i64 a):=by exact rfl) (hy:au env y=some (.int .i64 b):=by exact rfl) (h0 : -9223372036854775808≤a+b:=by omega) (h1:a+b≤9223372036854775807:=by omega) :
  aq Tryz.prog (.binOp .add t x y t') env h n (some (.int .i64 (a+b))) []:=eK aa hx hy (aP h0 h1)
theorem iS {r:TyR} {offs:List (Nat×Nat)} {parts:Array (Nat×Operand)} {q:AV} (ht:lk tab t=some r:=by exact rfl) (hd:r.desc=.struct offs:=by exact rfl) (hq:gz tab offs (au env) parts.toList (.d r.zero)=some q:=by exact rfl) (hag:q.isAgg=true:=by exact rfl) :
  aq Tryz.prog (.build t parts) env h n (some q) []:=eI aa ht hd hq hag
theorem rW {y:Operand} {r:Nat} {p:List Step} {row row':Row} (h1:RegS Tryz.prog all sz l (n+8) env ((r,some row')::h) K) (hx:au env x=some (.ptr r p):=by exact rfl) (hy:au env y=some v:=by exact rfl) (hr:bd h r=some row:=by exact rfl) (hv:RUpd row p v row':=by exact⟨_,⟨rfl,rfl,rfl⟩,rfl⟩) (hs:bn tab t v=true:=by exact rfl) :
  RegS Tryz.prog all sz (⟨none,.store t x y,ty,pos,af,none⟩::l) n env h K:=aR (aA aa hx hy hr hv hs) h1
theorem rX {y:Operand} {r:Nat} {p:List Step} {row row':Row} (h1:RegS Tryz.prog all sz l (n+8) env ((r,some row')::h) K) (hx:au env x=some (.ptr r p):=by exact rfl) (hy:au env y=some v:=by exact rfl) (hr:bd h r=some row:=by exact rfl) (hv:RUpd row p v row':=by exact⟨_,⟨_,⟨_,⟨rfl,rfl,rfl⟩,rfl⟩,rfl⟩,rfl⟩) (hs:bn tab t v=true:=by exact rfl) :
  RegS Tryz.prog all sz (⟨none,.store t x y,ty,pos,af,none⟩::l) n env h K:=aR (aA aa hx hy hr hv hs) h1
end
section
variable {c : Operand} {x y : Code} {b : Bool}
theorem wT (h1:WC Tryz.prog sz x Q env h n) (hc:au env c=some (.bool b):=by exact rfl) (hb:b=true:=by assumption):WC Tryz.prog sz (.cond c x y) Q env h n:=qG hc hb h1
theorem wV (h1:WC Tryz.prog sz x Q env h n) (hc:au env c=some (.bool b):=by exact rfl) (hb:b=true:=by exact rfl):WC Tryz.prog sz (.cond c x y) Q env h n:=qG hc hb h1
theorem wF (h1:WC Tryz.prog sz y Q env h n) (hc:au env c=some (.bool b):=by exact rfl) (hb:b=false:=by assumption):WC Tryz.prog sz (.cond c x y) Q env h n:=nP hc hb h1
theorem wG (h1:WC Tryz.prog sz y Q env h n) (hc:au env c=some (.bool b):=by exact rfl) (hb:b=false:=by exact rfl):WC Tryz.prog sz (.cond c x y) Q env h n:=nP hc hb h1
end
section
variable {acc : List bJ}
theorem dC (ks rs:List Nat) (h1:RegD Tryz.prog all sz l (n+8) ((d,v)::env) h (⟨⟨some d,op,ty,pos,af,none⟩,ks,rs,some v,[]⟩::acc) K) (hd:Nat.blt d sz=true:=by exact rfl) (hop:∀K:Option AV→Upds→Prop,K (some v) []→opD tab op (au (only ks env)) (bd (only rs h)) n K:=by exact fun _ h=>h) :
  RegD Tryz.prog all sz (⟨some d,op,ty,pos,af,none⟩::l) n env h acc K:=uI ks rs hd (aC aa hop) h1
theorem dQ (ks rs:List Nat) (hs:aq Tryz.prog op (only ks env) (only rs h) n (some v) []) (h1:RegD Tryz.prog all sz l (n+8) ((d,v)::env) h (⟨⟨some d,op,ty,pos,af,none⟩,ks,rs,some v,[]⟩::acc) K) (hd:Nat.blt d sz=true:=by exact rfl) :
  RegD Tryz.prog all sz (⟨some d,op,ty,pos,af,none⟩::l) n env h acc K:=uI ks rs hd hs h1
end
end
section
variable {sz n : Nat} {env : Env} {h : Upds} {all l : List Oper} {Q : Exit → St → Prop} {st : St} {b x y c : Code} {id : Nat} {ops : Array Oper} {cc : Operand} {bb : Bool}
theorem zT (h1:Q .ret ⟨env,h,n,sz,64⟩):RegS Tryz.prog all sz [] n env h (RegK (SeqQ Tryz.prog .ret Q) sz):=nS (bO h1)
theorem zB (h1:Q .ret st):BlkQ id (SeqQ Tryz.prog b Q) .ret st:=h1
theorem zC (h1:WC Tryz.prog sz b Q env h n):BlkQ id (SeqQ Tryz.prog b Q) .normal ⟨env,h,n,sz,64⟩:=h1
theorem zW (h1:RegS Tryz.prog ops.toList sz ops.toList n env h (RegK (SeqQ Tryz.prog y (SeqQ Tryz.prog c Q)) sz)):RegS Tryz.prog all sz [] n env h (RegK (SeqQ Tryz.prog (.seq (.seq (.region id ops false) y) c) Q) sz):=nQ (sR h1)
theorem zS {i:Nat} (h1:RegS Tryz.prog ops.toList sz ops.toList n env h (RegK (SeqQ Tryz.prog y (BlkQ i Q)) sz)):WC Tryz.prog sz (.block i (.seq (.region id ops false) y)) Q env h n:=br (sR h1)
theorem zP (h1:WC Tryz.prog sz c (BlkQ id Q) env h n):RegS Tryz.prog all sz [] n env h (RegK (SeqQ Tryz.prog (.block id c) Q) sz):=nS (br h1)
theorem zG (h1:WC Tryz.prog sz y Q env h n) (hc:au env cc=some (.bool bb):=by exact rfl) (hb:bb=false:=by assumption):RegS Tryz.prog all sz [] n env h (RegK (SeqQ Tryz.prog (.cond cc x y) Q) sz):=nS (wF h1 hc hb)
theorem zI (h1:WC Tryz.prog sz x Q env h n) (hc:au env cc=some (.bool bb):=by exact rfl) (hb:bb=true:=by assumption):RegS Tryz.prog all sz [] n env h (RegK (SeqQ Tryz.prog (.cond cc x y) Q) sz):=nS (wT h1 hc hb)
theorem zJ (h1:WC Tryz.prog sz y Q env h n) (hc:au env cc=some (.bool bb):=by exact rfl) (hb:bb=false:=by exact rfl):RegS Tryz.prog all sz [] n env h (RegK (SeqQ Tryz.prog (.cond cc x y) Q) sz):=nS (wG h1 hc hb)
theorem zO (h1:WC Tryz.prog sz x Q env h n) (hc:au env cc=some (.bool bb):=by exact rfl) (hb:bb=true:=by exact rfl):RegS Tryz.prog all sz [] n env h (RegK (SeqQ Tryz.prog (.cond cc x y) Q) sz):=nS (wV h1 hc hb)
theorem zQ (h1:WC Tryz.prog sz x (SeqQ Tryz.prog y Q) env h n):WC Tryz.prog sz .skip (SeqQ Tryz.prog (.seq x y) Q) env h n:=kS (bD h1)
theorem zX.{u} {α:Type u} {mk:α→St} {Inv:α→Prop} {μ:α→Nat} {a:α} (h1:WC Tryz.prog sz b Q env h n):WC Tryz.prog sz (.exit id) (SeqQ Tryz.prog y (LoopQ (BlkQ id (SeqQ Tryz.prog b Q)) mk Inv μ a)) env h n:=cz (eZ (gq (fj (aK h1))))
variable {K : Env → Upds → Nat → Prop} {d e f : Tmp} {op oq o3 : Op} {ty tz t3 : TypeId} {pos pot p3 : String} {af ag a3 : Array Edge} {v w u : AV}
theorem zD (h1:RegS Tryz.prog all sz l (n+8+8) ((e,w)::(d,v)::env) h K) (hd:Nat.blt d sz=true:=by exact rfl) (hop:∀K:Option AV→Upds→Prop,K (some v) []→opD tab op (au env) (bd h) n K:=by exact fun _ h=>h) (he:Nat.blt e sz=true:=by exact rfl) (hoq:∀K:Option AV→Upds→Prop,K (some w) []→opD tab oq (au ((d,v)::env)) (bd h) (n+8) K:=by exact fun _ h=>h) :
  RegS Tryz.prog all sz (⟨some d,op,ty,pos,af,none⟩::⟨some e,oq,tz,pot,ag,none⟩::l) n env h K:=rC (rC h1 he hoq) hd hop
theorem zU (h1:RegS Tryz.prog all sz l (n+8+8+8) ((f,u)::(e,w)::(d,v)::env) h K) (hd:Nat.blt d sz=true:=by exact rfl) (hop:∀K:Option AV→Upds→Prop,K (some v) []→opD tab op (au env) (bd h) n K:=by exact fun _ h=>h) (he:Nat.blt e sz=true:=by exact rfl) (hoq:∀K:Option AV→Upds→Prop,K (some w) []→opD tab oq (au ((d,v)::env)) (bd h) (n+8) K:=by exact fun _ h=>h) (hf:Nat.blt f sz=true:=by exact rfl) (ho3:∀K:Option AV→Upds→Prop,K (some u) []→opD tab o3 (au ((e,w)::(d,v)::env)) (bd h) (n+8+8) K:=by exact fun _ h=>h) :
  RegS Tryz.prog all sz (⟨some d,op,ty,pos,af,none⟩::⟨some e,oq,tz,pot,ag,none⟩::⟨some f,o3,t3,p3,a3,none⟩::l) n env h K:=rC (zD h1 he hoq hf ho3) hd hop
end
end Go.Proofs.YtjfkhlamjdbfkaaGreatDoor
namespace Go.Proofs.YtjfkhlamjdbfkaaGreatDoor
open Go.Eng Go.Plain
set_option maxHeartbeats 32000000
set_option maxRecDepth 20000
abbrev bo (b:Bool):D :=.sc (.bool b)
abbrev i6 (n:Int):D :=.sc (.int .i64 n)
abbrev u8s (n:Int):D :=.sc (.int .u8 n)
abbrev encB (l:List UInt8):D :=.arr 1 bt (byI l)
theorem kQ (a b:List UInt8):byI a++byI b=byI (a++b):=by simp[byI]
theorem b5 (l:List UInt8):(byI l).length=l.length:=by simp[byI]
theorem rk {l:List UInt8} {j:Nat} {b:UInt8} (h:l[j]?=some b):(byI l)[j]?=some (b.toNat:Int):=by simp[byI,h]
def bv (o:POp):D :=.cons (u8s o.kind) (.cons (i6 o.index) (.cons (encB o.data) .nil))
abbrev encP (p:List POp):D :=.arr 3 bv p
abbrev km (l:List (List POp)):D :=.arr 1 encP l
def idxF {α:Type} (p:α→Bool) (l:List α):Int:=match l.findIdx? p with
 | some i=>i
 | none => -1
theorem jB {α:Type} {p:α→Bool} {l:List α} {i:Nat} {x:α} (hx:l[i]?=some x) (hp:p x=true) (hn:∀j,j<i→∀y,l[j]?=some y→p y=false):idxF p l=i:=by
 have:l.findIdx? p=some i:=by
  rw[List.findIdx?_eq_some_iff_getElem]
  obtain⟨h1,h2⟩:=List.getElem?_eq_some_iff.1 hx
  refine⟨h1,by rw[h2]; exact hp,fun j hj=>?_⟩
  have:=hn j hj _ (List.getElem?_eq_getElem (by omega))
  simp[this]
 simp[idxF,this]
theorem jC {α:Type} {p:α→Bool} {l:List α} (hn:∀(j:Nat) (y:α),l[j]?=some y→p y=false):idxF p l = -1:=by
 have:l.findIdx? p=none:=by
  rw[List.findIdx?_eq_none_iff]
  intro x hx
  obtain⟨j,hj⟩:=List.mem_iff_getElem?.1 hx
  exact hn j x hj
 simp[idxF,this]
theorem lL {α:Type} (p:α→Bool) (l:List α):decide (0≤idxF p l)=l.any p:=by
 cases h:l.any p with
 | true =>
  have:(l.findIdx? p).isSome=true:=by rw[List.findIdx?_isSome]; exact h
  obtain⟨i,hi⟩:=Option.isSome_iff_exists.1 this
  simp only[idxF,hi]
  exact dT (by omega)
 | false =>
  have:l.findIdx? p=none:=by
   rw[List.findIdx?_eq_none_iff]
   intro x hx
   rw[List.any_eq_false]at h
   simpa using h x hx
  simp only[idxF,this]
  rfl
end Go.Proofs.YtjfkhlamjdbfkaaGreatDoor
namespace Go.Plain
open Go.Eng Go.Lib
theorem qs {c:UInt8}:∀ {l:List UInt8},match cutL l c with
  | none=>indexByte l c = -1
  | some (p,_)=>indexByte l c=(p.length:Int)
 | []=>rfl
 | b::l=>by
  simp only[cutL]
  by_cases e:b=c
  ·rw[if_pos e]
   subst e
   simp[indexByte]
  ·rw[if_neg e]
   have ih :=@qs c l
   have hb:(b==c)=false:=by simpa using e
   cases h:cutL l c with
   | none =>
    rw[h]at ih
    simp only at ih ⊢
    simp[indexByte,hb,ih]
   | some pq =>
    obtain⟨p,q⟩:=pq
    rw[h]at ih
    simp only at ih ⊢
    have h1:¬((p.length:Int) = -1):=by omega
    simp[indexByte,hb,ih,h1]
theorem vS (l:List UInt8) (c:UInt8):cut l [c]=match cutL l c with
  | none=>(l,[],false)
  | some (p,q)=>(p,q,true):=by
 have :=@qs c l
 rw[cut,index_one]
 cases h:cutL l c with
 | none =>
  rw[h]at this
  simp only at this
  rw[this,if_neg (by omega)]
 | some pq =>
  obtain⟨p,q⟩:=pq
  rw[h]at this
  simp only at this
  obtain⟨rfl,_⟩:=ct h
  rw[this,if_pos (by omega)]
  simp
theorem jA (l:List UInt8) (c:UInt8):indexB (mkS l) (mkS [c])=indexByte l c:=by
 rw[indexB,cH,cH,index_one]
theorem ij:∀(l:List UInt8) (c:UInt8),(bC l c).length≤l.length+1
 | [],_=>by simp[bC]
 | b::l,c=>by
  have:=ij l c
  simp only[bC]
  split
  ·simpa using this
  ·split
   ·simp
   ·rename_i h
    rw[h]at this
    simp only[List.length_cons]at this ⊢
    omega
theorem sf {c:UInt8}:∀(k:Nat) (l:List UInt8),l.length≤k→splitB (mkS [c]) 0 (countB (mkS l) (mkS [c])) (mkS l)=(bC l c).map mkS∧countB (mkS l) (mkS [c])+1=(bC l c).length:=by
 intro k
 induction k with
 | zero =>
  intro l hl
  obtain rfl:l=[]:=List.eq_nil_of_length_eq_zero (by omega)
  have h:=jA [] c
  have hm:indexB (mkS []) (mkS [c]) = -1:=by rw[h]; rfl
  rw[countB_miss _ _ hm,splitB_zero]
  exact⟨rfl,rfl⟩
 | succ k ih =>
  intro l hl
  have hib :=@qs c l
  rw[ml]
  cases h:cutL l c with
  | none =>
   rw[h]at hib
   simp only at hib
   have hm:indexB (mkS l) (mkS [c]) = -1:=by rw[jA,hib]
   rw[countB_miss _ _ hm,splitB_zero]
   exact⟨rfl,rfl⟩
  | some pq =>
   obtain⟨p,q⟩:=pq
   rw[h]at hib
   simp only at hib
   obtain⟨rfl,_⟩:=ct h
   have hm:indexB (mkS (p++c::q)) (mkS [c])=(p.length:Nat):=by rw[jA,hib]
   have hx:(mkS (p++c::q)).extract (p.length+(mkS [c]).size) (mkS (p++c::q)).size=mkS q:=by
    rw[kb,co,co]
    congr 1
    have e1:(p++c::q).drop (p.length+[c].length)=q:=by
     rw[List.drop_append,List.drop_eq_nil_of_le (by simp)]
     simp
    rw[e1]
    exact List.take_of_length_le (by simp; omega)
   have hy:(mkS (p++c::q)).extract 0 (p.length+0)=mkS p:=by
    rw[kb]
    congr 1
    simp
   have hq:q.length≤k:=by simp at hl; omega
   obtain⟨h1,h2⟩:=ih q hq
   rw[countB_hit _ _ p.length (by rw[co]; exact Nat.le_refl 1) hm,hx,Nat.add_comm 1,splitB_hit _ _ _ _ _ hm,hx,hy,h1]
   refine⟨rfl,?_⟩
   simp only[List.length_cons]
   omega
end Go.Plain
namespace Go.Eng
open Go.RowKit
theorem RelV.er {σ:Place} {w:World} {X:Nat→Prop} {u:Value}:RelV σ w X .er u ↔ ∃t v,u=.iface t v:=by
 unfold RelV
 rw[if_neg (by simp[AV.isAgg])]
 simp only[Rel,List.cons.injEq,and_true]
theorem kL {σ:Place} {w:World} {X:Nat→Prop} {v v1:Value} {t:TypeId} (h1:v.oneCell'=true):RelV σ w X (.tup (.acons (.d (.sc v)) (.acons .er .anil))) (.tuple #[v,.iface t v1]):=by
 unfold RelV
 rw[if_neg (by simp[AV.isAgg])]
 exact⟨_,rfl,_,_,rfl,RelV.sc.2 ⟨rfl,h1⟩,_,_,rfl,RelV.er.2 ⟨_,_,rfl⟩,rfl⟩
theorem oj {σ:Place} {w:World} {X:Nat→Prop} {v v1:Value} (h1:v.oneCell'=true) (h2:v1.oneCell'=true):RelV σ w X (.tup (.acons (.d (.sc v)) (.acons (.d (.sc v1)) .anil))) (.tuple #[v,v1]):=by
 unfold RelV
 rw[if_neg (by simp[AV.isAgg])]
 exact⟨_,rfl,_,_,rfl,RelV.sc.2 ⟨rfl,h1⟩,_,_,rfl,RelV.sc.2 ⟨rfl,h2⟩,rfl⟩
theorem tm {σ:Place} {w:World} {X:Nat→Prop} {v v1 v2:Value} (h1:v.oneCell'=true) (h2:v1.oneCell'=true) (h3:v2.oneCell'=true):RelV σ w X (.tup (.acons (.d (.sc v)) (.acons (.d (.sc v1)) (.acons (.d (.sc v2)) .anil)))) (.tuple #[v,v1,v2]):=by
 unfold RelV
 rw[if_neg (by simp[AV.isAgg])]
 exact⟨_,rfl,_,_,rfl,RelV.sc.2 ⟨rfl,h1⟩,_,_,rfl,RelV.sc.2 ⟨rfl,h2⟩,_,_,rfl,RelV.sc.2 ⟨rfl,h3⟩,rfl⟩
section
variable {P : Program} {T : Tab} {env : Env} {h : Upds} {n : Nat}
theorem pL {t:Nat} {w:World} {ms} (hud:P.underlying t=some (.interface ms)):(binOp .eql t .nilIface .nilIface).run P w=.ok (.bool true) w:=by
 have h1:(Op.equalIn 10000 t .nilIface .nilIface).run P w=.ok true w:=by
  rw[show (10000:Nat)=9999+1 from rfl,Op.equalIn]
  simp only[Sem.run_bind,run_underlying hud,Result.andThen_ok,Sem.run_pure]
 show (do let b ←Op.equalIn 10000 t _ _; pure (Value.bool b):Sem Value).run P w=_
 simp only[Sem.run_bind,h1,Result.andThen_ok,Sem.run_pure]
theorem pM {t t1:Nat} {w:World} {ms} {v:Value} (hud:P.underlying t=some (.interface ms)):(binOp .eql t (.iface t1 v) .nilIface).run P w=.ok (.bool false) w:=by
 have h1:(Op.equalIn 10000 t (.iface t1 v) .nilIface).run P w=.ok false w:=by
  rw[show (10000:Nat)=9999+1 from rfl,Op.equalIn]
  simp only[Sem.run_bind,run_underlying hud,Result.andThen_ok,Sem.run_pure]
 show (do let b ←Op.equalIn 10000 t _ _; pure (Value.bool b):Sem Value).run P w=_
 simp only[Sem.run_bind,h1,Result.andThen_ok,Sem.run_pure]
theorem fA {t t':Nat} {x:Operand} {ms} (hu:P.underlying t=some (.interface ms)) (hx:au env x=some (.d (.sc .nilIface))) :
  aq P (.binOp .eql t x (.const .nilIface) t') env h n (some (.bool true)) []:=.of_comes fun C G st σ w ac o ho hA hdst hst hn=>by
 obtain⟨hv,_⟩:=RelV.sc.1 (an hst (hA.ev hx)).1
 refine .quiet (u :=.bool true) hst hdst ⟨rfl,rfl⟩ ?_ (RelV.sc.2 ⟨rfl,rfl⟩) trivial
 have hg:(eqGuard .eql t x (.const .nilIface) .nilIface .nilIface).run P w=.ok () w:=by
  simp[eqGuard]
  try (cases x <;> rfl)
 have hc:ac.eval (.const .nilIface)=.nilIface:=rfl
 simp only[execOp,ho,hv,hc,Sem.run_bind,hg,Result.andThen_ok,pL hu,Sem.run_pure]
theorem lT {t t':Nat} {x:Operand} {ms} (hu:P.underlying t=some (.interface ms)) (hx:au env x=some .er) :
  aq P (.binOp .eql t x (.const .nilIface) t') env h n (some (.bool false)) []:=.of_comes fun C G st σ w ac o ho hA hdst hst hn=>by
 obtain⟨t1,v,hv⟩:=RelV.er.1 (an hst (hA.ev hx)).1
 refine .quiet (u :=.bool false) hst hdst ⟨rfl,rfl⟩ ?_ (RelV.sc.2 ⟨rfl,rfl⟩) trivial
 have hg:(eqGuard .eql t x (.const .nilIface) (.iface t1 v) .nilIface).run P w=.ok () w:=rfl
 have hc:ac.eval (.const .nilIface)=.nilIface:=rfl
 simp only[execOp,ho,hv,hc,Sem.run_bind,hg,Result.andThen_ok,pM hu,Sem.run_pure]
end
end Go.Eng
namespace Go.Eng
open Go.RowKit
section
variable {P : Program} {T : Tab} {env : Env} {h : Upds} {n : Nat}
theorem add_add (a:Addr) (i j:Nat):(a.add i).add j=a.add (i+j):=by
 cases a with
 | mk b o w =>
  simp only[Addr.add]
  by_cases h1:i=0 <;> by_cases h2:j=0 <;> simp[h1,h2,Nat.add_assoc]
theorem dD (hT:ao P T) {t e:Nat} {re:TyR} {x i:Operand} {α:Type} {s:Nat} {enc:α→D} {xs:List α} {k:IntKind} {m:Nat} (ht:aW T t=some (.slice e)) (he:lk T e=some re) (hs:Nat.beq re.size s=true)
  (hx:au env x=some (.d (.arr s enc xs))) (hi:au env i=some (.int k m)) (h1:m≤xs.length):aq P (.slice t x (some i) none none) env h n (some (.d (.arr s enc (xs.drop m)))) []:=.of_comes fun C G st σ w a o ho hA hdst hst hn=>by
 obtain⟨ud,hud,hdd⟩:=aQ hT ht
 cases hdd
 have hs:=Nat.eq_of_beq_eq_true hs
 obtain⟨hx1,_⟩:=an hst (hA.ev hx)
 obtain⟨hi1,_⟩:=RelV.sc.1 (an hst (hA.ev hi)).1
 have hsz:=(hT e re he).run_size (P:=P)
 have hlen:(xs.drop m).length=xs.length-m:=by rw[List.length_drop]
 rcases RelV.arr.1 hx1 with ⟨rfl,hv⟩ | ⟨ad,c,hv,hc1,hc2,f,hf⟩
 ·have hm0:m=0:=by simpa using h1
  subst hm0
  refine .quiet (u :=.slice none 0 0) hst hdst ⟨rfl,rfl⟩ ?_ (RelV.arr.2 (.inl ⟨rfl,rfl⟩)) trivial
  simp[execOp,ho,Instr.sliceAt,Instr.slice,hv,hi1,run_underlying hud,Instr.sliceBounds,Instr.sliceBound,asIntOf,hsz,Sem.run_bind,Sem.run_pure,Result.andThen_ok]
 ·have hlen2:¬xs.length<m:=by omega
  refine .quiet (u :=.slice (some (if c=m then ad else ad.add (m*s))) (xs.length-m) (c-m)) hst hdst ⟨rfl,rfl⟩ ?_ (RelV.arr.2 (.inr ⟨_,c-m,by rw[hlen],by rw[hlen]; omega,by omega,fun j=>f (j+m),fun j hj=>?_⟩)) trivial
  ·have hcm:¬c<m:=by omega
   simp[execOp,ho,Instr.sliceAt,Instr.slice,hv,hi1,run_underlying hud,Instr.sliceBounds,Instr.sliceBound,asIntOf,hsz,hs,Sem.run_bind,Sem.run_pure,Result.andThen_ok,hlen2,hcm]
   rw[if_pos h1]
   split <;> rfl
  ·have hj2:j+m<xs.length:=by rw[hlen]at hj; omega
   obtain⟨g1,g2,g3⟩:=hf (j+m) hj2
   refine⟨by rw[List.getElem_drop]; simpa[Nat.add_comm]using g1,g2,fun q u hu=>?_⟩
   have:=g3 q u hu
   rw[if_neg (by omega),add_add,Addr.add_block]
   rw[show m*s+(j*s+q)=(j+m)*s+q by rw[Nat.add_mul]; omega]
   exact this
end
end Go.Eng
namespace Go.Proofs
open Go.Shelf
def Tryz.lays137_ren:Go.Shelf.Ren:=⟨fun | 137=>68 | 217=>73 | 266=>99 | n=>n,fun | 9=>9 | 5=>5 | 3=>3 | n=>n,fun | n=>n⟩
theorem Tryz.lays137:Go.Proofs.Lays.n137 Tryz.prog Tryz.lays137_ren := {
 mixed:=by kernel_rfl
 f137:=Tryz.func68.trans (congrArg some (by kernel_rfl))
 f217:=Tryz.func73.trans (congrArg some (by kernel_rfl))
 f266:=Tryz.func99.trans (congrArg some (by kernel_rfl))
 t3:=Tryz.underlying3
 a3:=Tryz.isAgg3
 z3:=Tryz.sizeOf3
 v3:=Tryz.zeroValue3
 t5:=Tryz.underlying5
 a5:=Tryz.isAgg5
 z5:=Tryz.sizeOf5
 v5:=Tryz.zeroValue5
 t9:=Tryz.underlying9
 a9:=Tryz.isAgg9
 z9:=Tryz.sizeOf9
 v9:=Tryz.zeroValue9 }
open Go.RowKit in
theorem Tryz.strings_IndexByte (s:ByteArray) (c:Int) (w:World) :
  Calls Tryz.prog 68 #[.string s,.int .u8 c] w fun e w'=>e=.returned (.int .i64 (Lib.indexByte s.data.toList c.toNat.toUInt8))∧w'=w:=Any.strings_IndexByte Tryz.lays137 s c w
def Tryz.lays172_ren:Go.Shelf.Ren:=⟨fun | 172=>47 | 244=>58 | 245=>59 | 247=>77 | 279=>78 | 280=>79 | 281=>80 | 282=>81 | 287=>101 | 316=>102 | 171=>42 | 205=>103 | 321=>117 | 322=>118 | 243=>52 | 246=>69 | 283=>89 | 284=>90 | 285=>91 | 286=>92 | 129=>111 | 317=>110 | 318=>112 | 319=>113 | 320=>114 | 337=>122 | 338=>123 | n=>n,fun | 9=>9 | 3=>3 | 75=>90 | 76=>91 | 4=>4 | 5=>5 | 167=>137 | 37=>34 | 0=>0 | 85=>138 | 2=>2 | 168=>140 | 53=>147 | 175=>159 | 46=>77 | 210=>163 | 127=>109 | 145=>181 | 143=>179 | 21=>21 | 171=>146 | 173=>150 | 212=>171 | 51=>156 | 20=>20 | 213=>172 | 232=>37 | 233=>186 | 80=>94 | n=>n,fun | 15=>1 | 16=>2 | 17=>3 | 18=>4 | 19=>5 | n=>n⟩
def Tryz.laysM246_ren:Go.Shelf.Ren:=⟨fun | 246=>69 | 283=>89 | 284=>90 | 285=>91 | 286=>92 | 129=>111 | 317=>110 | 318=>112 | 319=>113 | 320=>114 | 337=>122 | 338=>123 | n=>n,fun | 2=>2 | 3=>3 | 9=>9 | 4=>4 | 171=>146 | 0=>0 | 53=>147 | 37=>34 | 5=>5 | 173=>150 | 212=>171 | 51=>156 | 20=>20 | 213=>172 | 46=>77 | 232=>37 | 233=>186 | n=>n,fun | 17=>3 | 18=>4 | 19=>5 | n=>n⟩
def Tryz.laysM243_ren:Go.Shelf.Ren:=⟨fun | 243=>52 | 246=>69 | 283=>89 | 284=>90 | 285=>91 | 286=>92 | 129=>111 | 317=>110 | 318=>112 | 319=>113 | 320=>114 | 337=>122 | 338=>123 | n=>n,fun | 3=>3 | 9=>9 | 2=>2 | 4=>4 | 171=>146 | 0=>0 | 53=>147 | 37=>34 | 5=>5 | 173=>150 | 212=>171 | 51=>156 | 20=>20 | 213=>172 | 46=>77 | 232=>37 | 233=>186 | n=>n,fun | 17=>3 | 18=>4 | 19=>5 | n=>n⟩
def Tryz.laysM171_ren:Go.Shelf.Ren:=⟨fun | 171=>42 | 243=>52 | 246=>69 | 283=>89 | 284=>90 | 285=>91 | 286=>92 | 129=>111 | 317=>110 | 318=>112 | 319=>113 | 320=>114 | 337=>122 | 338=>123 | n=>n,fun | 3=>3 | 9=>9 | 2=>2 | 4=>4 | 171=>146 | 0=>0 | 53=>147 | 37=>34 | 5=>5 | 173=>150 | 212=>171 | 51=>156 | 20=>20 | 213=>172 | 46=>77 | 232=>37 | 233=>186 | n=>n,fun | 17=>3 | 18=>4 | 19=>5 | n=>n⟩
theorem Tryz.laysM171:Go.Proofs.LaysM.n171 Tryz.prog Tryz.laysM171_ren := {
 mixed:=by kernel_rfl
 f129:=Tryz.func111.trans (congrArg some (by kernel_rfl))
 f171:=Tryz.func42.trans (congrArg some (by kernel_rfl))
 f243:=Tryz.func52.trans (congrArg some (by kernel_rfl))
 f246:=Tryz.func69.trans (congrArg some (by kernel_rfl))
 f283:=Tryz.func89.trans (congrArg some (by kernel_rfl))
 f284:=Tryz.func90.trans (congrArg some (by kernel_rfl))
 f285:=Tryz.func91.trans (congrArg some (by kernel_rfl))
 f286:=Tryz.func92.trans (congrArg some (by kernel_rfl))
 f317:=Tryz.func110.trans (congrArg some (by kernel_rfl))
 f318:=Tryz.func112.trans (congrArg some (by kernel_rfl))
 f319:=Tryz.func113.trans (congrArg some (by kernel_rfl))
 f320:=Tryz.func114.trans (congrArg some (by kernel_rfl))
 f337:=Tryz.func122.trans (congrArg some (by kernel_rfl))
 f338:=Tryz.func123.trans (congrArg some (by kernel_rfl))
 t0:=Tryz.underlying0
 a0:=Tryz.isAgg0
 z0:=Tryz.sizeOf0
 v0:=Tryz.zeroValue0
 t2:=Tryz.underlying2
 a2:=Tryz.isAgg2
 z2:=Tryz.sizeOf2
 v2:=Tryz.zeroValue2
 t3:=Tryz.underlying3
 a3:=Tryz.isAgg3
 z3:=Tryz.sizeOf3
 v3:=Tryz.zeroValue3
 t4:=Tryz.underlying4
 a4:=Tryz.isAgg4
 z4:=Tryz.sizeOf4
 v4:=Tryz.zeroValue4
 t5:=Tryz.underlying5
 a5:=Tryz.isAgg5
 z5:=Tryz.sizeOf5
 v5:=Tryz.zeroValue5
 t9:=Tryz.underlying9
 a9:=Tryz.isAgg9
 z9:=Tryz.sizeOf9
 v9:=Tryz.zeroValue9
 t20:=Tryz.underlying20
 a20:=Tryz.isAgg20
 z20:=Tryz.sizeOf20
 v20:=Tryz.zeroValue20
 t37:=Tryz.underlying34
 a37:=Tryz.isAgg34
 z37:=Tryz.sizeOf34
 v37:=Tryz.zeroValue34
 t46:=Tryz.underlying77
 a46:=Tryz.isAgg77
 z46:=Tryz.sizeOf77
 v46:=Tryz.zeroValue77
 t51:=Tryz.underlying156
 a51:=Tryz.isAgg156
 z51:=Tryz.sizeOf156
 v51:=Tryz.zeroValue156
 t53:=Tryz.underlying147
 a53:=Tryz.isAgg147
 z53:=Tryz.sizeOf147
 v53:=Tryz.zeroValue147
 t171:=Tryz.underlying146
 a171:=Tryz.isAgg146
 z171:=Tryz.sizeOf146
 v171:=Tryz.zeroValue146
 t173:=Tryz.underlying150
 a173:=Tryz.isAgg150
 z173:=Tryz.sizeOf150
 v173:=Tryz.zeroValue150
 t212:=Tryz.underlying171
 a212:=Tryz.isAgg171
 z212:=Tryz.sizeOf171
 v212:=Tryz.zeroValue171
 t213:=Tryz.underlying172
 a213:=Tryz.isAgg172
 z213:=Tryz.sizeOf172
 t232:=Tryz.underlying37
 a232:=Tryz.isAgg37
 z232:=Tryz.sizeOf37
 v232:=Tryz.zeroValue37
 t233:=Tryz.underlying186
 a233:=Tryz.isAgg186
 z233:=Tryz.sizeOf186
 v233:=Tryz.zeroValue186
 g17:=by kernel_rfl
 g18:=by kernel_rfl
 g19:=by kernel_rfl
 i0:=by kernel_rfl
 i2:=by kernel_rfl
 i3:=by kernel_rfl
 i4:=by kernel_rfl
 i5:=by kernel_rfl
 i9:=by kernel_rfl
 i20:=by kernel_rfl
 i37:=by kernel_rfl
 i46:=by kernel_rfl
 i51:=by kernel_rfl
 i53:=by kernel_rfl
 i171:=by kernel_rfl
 i173:=by kernel_rfl
 i212:=by kernel_rfl
 i232:=by kernel_rfl
 i233:=by kernel_rfl
 m17:=by kernel_rfl
 m18:=by kernel_rfl
 m19:=by kernel_rfl }
open Go.RowKit Go.Sort Go.Lib in
theorem Tryz.strconv_Itoa (n : Int) (h0 : -9223372036854775808 ≤ n) (h1 : n ≤ 9223372036854775807) (w : World) (htab : Lib.TabIs Tryz.prog w "internal/strconv.uint64pow10" .u64 Lib.pow10Tab) :
  Calls Tryz.prog 42 #[.int .i64 n] w fun e w'=>e=.returned (.string ⟨(Lib.itoa n).toArray⟩)∧∃k os,w'=grow (w.drewN k) os:=Any.strconv_Itoa Tryz.laysM171 n h0 h1 w htab
def Tryz.laysC172_ren:Go.Shelf.Ren:=⟨fun | 172=>47 | 244=>58 | 245=>59 | 247=>77 | 279=>78 | 280=>79 | 281=>80 | 282=>81 | 287=>101 | 316=>102 | 171=>42 | 205=>103 | 321=>117 | 322=>118 | 243=>52 | 246=>69 | 283=>89 | 284=>90 | 285=>91 | 286=>92 | 129=>111 | 317=>110 | 318=>112 | 319=>113 | 320=>114 | 337=>122 | 338=>123 | n=>n,fun | 9=>9 | 3=>3 | 75=>90 | 76=>91 | 4=>4 | 5=>5 | 167=>137 | 37=>34 | 0=>0 | 85=>138 | 2=>2 | 168=>140 | 53=>147 | 175=>159 | 46=>77 | 210=>163 | 127=>109 | 145=>181 | 143=>179 | 21=>21 | 171=>146 | 173=>150 | 212=>171 | 51=>156 | 20=>20 | 213=>172 | 232=>37 | 233=>186 | 80=>94 | n=>n,fun | 15=>1 | 16=>2 | 17=>3 | 18=>4 | 19=>5 | n=>n⟩
theorem Tryz.laysC172:Go.Proofs.LaysC.n172 Tryz.prog Tryz.laysC172_ren := {
 mixed:=by kernel_rfl
 f129:=Tryz.func111.trans (congrArg some (by kernel_rfl))
 f171:=Tryz.func42.trans (congrArg some (by kernel_rfl))
 f172:=Tryz.func47.trans (congrArg some (by kernel_rfl))
 f205:=Tryz.func103.trans (congrArg some (by kernel_rfl))
 f243:=Tryz.func52.trans (congrArg some (by kernel_rfl))
 f244:=Tryz.func58.trans (congrArg some (by kernel_rfl))
 f245:=Tryz.func59.trans (congrArg some (by kernel_rfl))
 f246:=Tryz.func69.trans (congrArg some (by kernel_rfl))
 f247:=Tryz.func77.trans (congrArg some (by kernel_rfl))
 f279:=Tryz.func78.trans (congrArg some (by kernel_rfl))
 f280:=Tryz.func79.trans (congrArg some (by kernel_rfl))
 f281:=Tryz.func80.trans (congrArg some (by kernel_rfl))
 f282:=Tryz.func81.trans (congrArg some (by kernel_rfl))
 f283:=Tryz.func89.trans (congrArg some (by kernel_rfl))
 f284:=Tryz.func90.trans (congrArg some (by kernel_rfl))
 f285:=Tryz.func91.trans (congrArg some (by kernel_rfl))
 f286:=Tryz.func92.trans (congrArg some (by kernel_rfl))
 f287:=Tryz.func101.trans (congrArg some (by kernel_rfl))
 f316:=Tryz.func102.trans (congrArg some (by kernel_rfl))
 f317:=Tryz.func110.trans (congrArg some (by kernel_rfl))
 f318:=Tryz.func112.trans (congrArg some (by kernel_rfl))
 f319:=Tryz.func113.trans (congrArg some (by kernel_rfl))
 f320:=Tryz.func114.trans (congrArg some (by kernel_rfl))
 f321:=Tryz.func117.trans (congrArg some (by kernel_rfl))
 f322:=Tryz.func118.trans (congrArg some (by kernel_rfl))
 f337:=Tryz.func122.trans (congrArg some (by kernel_rfl))
 f338:=Tryz.func123.trans (congrArg some (by kernel_rfl))
 t0:=Tryz.underlying0
 a0:=Tryz.isAgg0
 z0:=Tryz.sizeOf0
 v0:=Tryz.zeroValue0
 t2:=Tryz.underlying2
 a2:=Tryz.isAgg2
 z2:=Tryz.sizeOf2
 v2:=Tryz.zeroValue2
 t3:=Tryz.underlying3
 a3:=Tryz.isAgg3
 z3:=Tryz.sizeOf3
 v3:=Tryz.zeroValue3
 t4:=Tryz.underlying4
 a4:=Tryz.isAgg4
 z4:=Tryz.sizeOf4
 v4:=Tryz.zeroValue4
 t5:=Tryz.underlying5
 a5:=Tryz.isAgg5
 z5:=Tryz.sizeOf5
 v5:=Tryz.zeroValue5
 t9:=Tryz.underlying9
 a9:=Tryz.isAgg9
 z9:=Tryz.sizeOf9
 v9:=Tryz.zeroValue9
 t20:=Tryz.underlying20
 a20:=Tryz.isAgg20
 z20:=Tryz.sizeOf20
 v20:=Tryz.zeroValue20
 t21:=Tryz.underlying21
 a21:=Tryz.isAgg21
 z21:=Tryz.sizeOf21
 v21:=Tryz.zeroValue21
 t37:=Tryz.underlying34
 a37:=Tryz.isAgg34
 z37:=Tryz.sizeOf34
 v37:=Tryz.zeroValue34
 t46:=Tryz.underlying77
 a46:=Tryz.isAgg77
 z46:=Tryz.sizeOf77
 v46:=Tryz.zeroValue77
 t51:=Tryz.underlying156
 a51:=Tryz.isAgg156
 z51:=Tryz.sizeOf156
 v51:=Tryz.zeroValue156
 t53:=Tryz.underlying147
 a53:=Tryz.isAgg147
 z53:=Tryz.sizeOf147
 v53:=Tryz.zeroValue147
 t75:=Tryz.underlying90
 a75:=Tryz.isAgg90
 z75:=Tryz.sizeOf90
 v75:=Tryz.zeroValue90
 t76:=Tryz.underlying91
 a76:=Tryz.isAgg91
 z76:=Tryz.sizeOf91
 v76:=Tryz.zeroValue91
 t85:=Tryz.underlying138
 a85:=Tryz.isAgg138
 z85:=Tryz.sizeOf138
 v85:=Tryz.zeroValue138
 t127:=Tryz.underlying109
 a127:=Tryz.isAgg109
 z127:=Tryz.sizeOf109
 v127:=Tryz.zeroValue109
 t143:=Tryz.underlying179
 a143:=Tryz.isAgg179
 z143:=Tryz.sizeOf179
 v143:=Tryz.zeroValue179
 t145:=Tryz.underlying181
 a145:=Tryz.isAgg181
 z145:=Tryz.sizeOf181
 v145:=Tryz.zeroValue181
 t167:=Tryz.underlying137
 a167:=Tryz.isAgg137
 z167:=Tryz.sizeOf137
 v167:=Tryz.zeroValue137
 t168:=Tryz.underlying140
 a168:=Tryz.isAgg140
 z168:=Tryz.sizeOf140
 v168:=Tryz.zeroValue140
 t171:=Tryz.underlying146
 a171:=Tryz.isAgg146
 z171:=Tryz.sizeOf146
 v171:=Tryz.zeroValue146
 t173:=Tryz.underlying150
 a173:=Tryz.isAgg150
 z173:=Tryz.sizeOf150
 v173:=Tryz.zeroValue150
 t175:=Tryz.underlying159
 a175:=Tryz.isAgg159
 z175:=Tryz.sizeOf159
 v175:=Tryz.zeroValue159
 t210:=Tryz.underlying163
 a210:=Tryz.isAgg163
 z210:=Tryz.sizeOf163
 v210:=Tryz.zeroValue163
 t212:=Tryz.underlying171
 a212:=Tryz.isAgg171
 z212:=Tryz.sizeOf171
 v212:=Tryz.zeroValue171
 t213:=Tryz.underlying172
 a213:=Tryz.isAgg172
 z213:=Tryz.sizeOf172
 t232:=Tryz.underlying37
 a232:=Tryz.isAgg37
 z232:=Tryz.sizeOf37
 v232:=Tryz.zeroValue37
 t233:=Tryz.underlying186
 a233:=Tryz.isAgg186
 z233:=Tryz.sizeOf186
 v233:=Tryz.zeroValue186
 g15:=by kernel_rfl
 g16:=by kernel_rfl
 g17:=by kernel_rfl
 g18:=by kernel_rfl
 g19:=by kernel_rfl
 t80:=Tryz.underlying94
 a80:=Tryz.isAgg94
 z80:=Tryz.sizeOf94
 v80:=Tryz.zeroValue94
 i0:=by kernel_rfl
 i2:=by kernel_rfl
 i3:=by kernel_rfl
 i4:=by kernel_rfl
 i5:=by kernel_rfl
 i9:=by kernel_rfl
 i20:=by kernel_rfl
 i21:=by kernel_rfl
 i37:=by kernel_rfl
 i46:=by kernel_rfl
 i51:=by kernel_rfl
 i53:=by kernel_rfl
 i75:=by kernel_rfl
 i76:=by kernel_rfl
 i80:=by kernel_rfl
 i85:=by kernel_rfl
 i127:=by kernel_rfl
 i143:=by kernel_rfl
 i145:=by kernel_rfl
 i167:=by kernel_rfl
 i168:=by kernel_rfl
 i171:=by kernel_rfl
 i173:=by kernel_rfl
 i175:=by kernel_rfl
 i210:=by kernel_rfl
 i212:=by kernel_rfl
 i232:=by kernel_rfl
 i233:=by kernel_rfl
 m15:=by kernel_rfl
 m16:=by kernel_rfl
 m17:=by kernel_rfl
 m18:=by kernel_rfl
 m19:=by kernel_rfl
 c0:=by kernel_rfl
 c2:=by kernel_rfl
 c3:=by kernel_rfl
 c4:=by kernel_rfl
 c5:=by kernel_rfl
 c9:=by kernel_rfl
 c20:=by kernel_rfl
 c21:=by kernel_rfl
 c37:=by kernel_rfl
 c46:=by kernel_rfl
 c51:=by kernel_rfl
 c53:=by kernel_rfl
 c75:=by kernel_rfl
 c76:=by kernel_rfl
 c80:=by kernel_rfl
 c85:=by kernel_rfl
 c127:=by kernel_rfl
 c143:=by kernel_rfl
 c145:=by kernel_rfl
 c167:=by kernel_rfl
 c168:=by kernel_rfl
 c171:=by kernel_rfl
 c173:=by kernel_rfl
 c175:=by kernel_rfl
 c210:=by kernel_rfl
 c212:=by kernel_rfl
 c213:=by kernel_rfl
 c232:=by kernel_rfl
 c233:=by kernel_rfl }
open Go.RowKit in
theorem Tryz.strconv_Atoi_ok (s:ByteArray) (hmax:s.size≤9223372036854775806) (v:Int) (h:Lib.atoiAll s.data.toList=.ok v) (w:World) :
  Calls Tryz.prog 47 #[.string s] w fun e w'=>e=.returned (.tuple #[.int .i64 v,.nilIface])∧(w'=w∨∃t,w'=Lib.bytesWorld w 5 t):=Any.strconv_Atoi_ok Tryz.laysC172 s hmax v h w
open Go.RowKit in
theorem Tryz.strconv_Atoi_syntax (s:ByteArray) (hlim:s.size≤281474976710656) (h:Lib.atoiAll s.data.toList=Lib.atoiAll []) (ev:Value) (w:World) (hv:w.cell? ⟨1,0,none⟩=some ev) (hev:ev=.nilIface∨∃te pe,ev=.iface te pe) :
  Calls Tryz.prog 47 #[.string s] w fun e w'=>∃N,e=.returned (.tuple #[.int .i64 (0),.iface 140 (.pointer (some ⟨N,0,none⟩))])∧w.heap.size≤N∧w'.heap[N]?=some (.cells #[.string ⟨#[65,116,111,105]⟩,.string s,ev] 163 (0,0))∧Below w.heap.size w w':=Any.strconv_Atoi_syntax Tryz.laysC172 s hlim h ev w hv hev
open Go.RowKit in
theorem Tryz.strconv_Atoi_range (s:ByteArray) (hlim:s.size≤281474976710656) (h:Lib.atoiAll s.data.toList=.range) (ev:Value) (w:World) (hv:w.cell? ⟨2,0,none⟩=some ev) (hev:ev=.nilIface∨∃te pe,ev=.iface te pe) :
  Calls Tryz.prog 47 #[.string s] w fun e w'=>∃N,e=.returned (.tuple #[.int .i64 (Lib.atoiSat s.data.toList),.iface 140 (.pointer (some ⟨N,0,none⟩))])∧w.heap.size≤N∧w'.heap[N]?=some (.cells #[.string ⟨#[65,116,111,105]⟩,.string s,ev] 163 (0,0))∧Below w.heap.size w w':=Any.strconv_Atoi_range Tryz.laysC172 s hlim h ev w hv hev
def Tryz.laysPu14_ren:Go.Shelf.Ren:=⟨fun | 14=>104 | 16=>101 | 17=>59 | 19=>117 | 20=>118 | 21=>78 | 22=>79 | 23=>80 | 24=>81 | 25=>102 | 27=>42 | 26=>103 | 28=>52 | 29=>69 | 30=>89 | 31=>90 | 32=>91 | 33=>92 | 35=>111 | 34=>110 | 36=>112 | 37=>113 | 38=>114 | 39=>122 | 40=>123 | n=>n,fun | 9=>9 | 3=>3 | 22=>147 | 24=>90 | 25=>159 | 4=>4 | 34=>137 | 5=>5 | 36=>77 | 37=>34 | 0=>0 | 39=>140 | 21=>21 | 44=>163 | 47=>109 | 50=>181 | 48=>179 | 2=>2 | 52=>146 | 55=>150 | 59=>171 | 60=>156 | 20=>20 | 61=>172 | 65=>37 | 66=>186 | 67=>94 | n=>n,fun | 0=>1 | 1=>2 | 2=>3 | 3=>4 | 4=>5 | n=>n⟩
theorem Tryz.laysPu14:Go.Proofs.LaysPu.n14 Tryz.prog Tryz.laysPu14_ren := {
 mixed:=by kernel_rfl
 f14:=Tryz.func104.trans (congrArg some (by kernel_rfl))
 f16:=Tryz.func101.trans (congrArg some (by kernel_rfl))
 f17:=Tryz.func59.trans (congrArg some (by kernel_rfl))
 f19:=Tryz.func117.trans (congrArg some (by kernel_rfl))
 f20:=Tryz.func118.trans (congrArg some (by kernel_rfl))
 f21:=Tryz.func78.trans (congrArg some (by kernel_rfl))
 f22:=Tryz.func79.trans (congrArg some (by kernel_rfl))
 f23:=Tryz.func80.trans (congrArg some (by kernel_rfl))
 f24:=Tryz.func81.trans (congrArg some (by kernel_rfl))
 f25:=Tryz.func102.trans (congrArg some (by kernel_rfl))
 f26:=Tryz.func103.trans (congrArg some (by kernel_rfl))
 f27:=Tryz.func42.trans (congrArg some (by kernel_rfl))
 f28:=Tryz.func52.trans (congrArg some (by kernel_rfl))
 f29:=Tryz.func69.trans (congrArg some (by kernel_rfl))
 f30:=Tryz.func89.trans (congrArg some (by kernel_rfl))
 f31:=Tryz.func90.trans (congrArg some (by kernel_rfl))
 f32:=Tryz.func91.trans (congrArg some (by kernel_rfl))
 f33:=Tryz.func92.trans (congrArg some (by kernel_rfl))
 f34:=Tryz.func110.trans (congrArg some (by kernel_rfl))
 f35:=Tryz.func111.trans (congrArg some (by kernel_rfl))
 f36:=Tryz.func112.trans (congrArg some (by kernel_rfl))
 f37:=Tryz.func113.trans (congrArg some (by kernel_rfl))
 f38:=Tryz.func114.trans (congrArg some (by kernel_rfl))
 f39:=Tryz.func122.trans (congrArg some (by kernel_rfl))
 f40:=Tryz.func123.trans (congrArg some (by kernel_rfl))
 t0:=Tryz.underlying0
 a0:=Tryz.isAgg0
 z0:=Tryz.sizeOf0
 v0:=Tryz.zeroValue0
 i0:=by kernel_rfl
 t2:=Tryz.underlying2
 a2:=Tryz.isAgg2
 z2:=Tryz.sizeOf2
 v2:=Tryz.zeroValue2
 i2:=by kernel_rfl
 t3:=Tryz.underlying3
 a3:=Tryz.isAgg3
 z3:=Tryz.sizeOf3
 v3:=Tryz.zeroValue3
 i3:=by kernel_rfl
 t4:=Tryz.underlying4
 a4:=Tryz.isAgg4
 z4:=Tryz.sizeOf4
 v4:=Tryz.zeroValue4
 i4:=by kernel_rfl
 t5:=Tryz.underlying5
 a5:=Tryz.isAgg5
 z5:=Tryz.sizeOf5
 v5:=Tryz.zeroValue5
 i5:=by kernel_rfl
 t9:=Tryz.underlying9
 a9:=Tryz.isAgg9
 z9:=Tryz.sizeOf9
 v9:=Tryz.zeroValue9
 i9:=by kernel_rfl
 t20:=Tryz.underlying20
 a20:=Tryz.isAgg20
 z20:=Tryz.sizeOf20
 v20:=Tryz.zeroValue20
 i20:=by kernel_rfl
 t21:=Tryz.underlying21
 a21:=Tryz.isAgg21
 z21:=Tryz.sizeOf21
 v21:=Tryz.zeroValue21
 i21:=by kernel_rfl
 t22:=Tryz.underlying147
 a22:=Tryz.isAgg147
 z22:=Tryz.sizeOf147
 v22:=Tryz.zeroValue147
 i22:=by kernel_rfl
 t24:=Tryz.underlying90
 a24:=Tryz.isAgg90
 z24:=Tryz.sizeOf90
 v24:=Tryz.zeroValue90
 i24:=by kernel_rfl
 t25:=Tryz.underlying159
 a25:=Tryz.isAgg159
 z25:=Tryz.sizeOf159
 v25:=Tryz.zeroValue159
 i25:=by kernel_rfl
 t34:=Tryz.underlying137
 a34:=Tryz.isAgg137
 z34:=Tryz.sizeOf137
 v34:=Tryz.zeroValue137
 i34:=by kernel_rfl
 c34:=by kernel_rfl
 t36:=Tryz.underlying77
 a36:=Tryz.isAgg77
 z36:=Tryz.sizeOf77
 v36:=Tryz.zeroValue77
 i36:=by kernel_rfl
 t37:=Tryz.underlying34
 a37:=Tryz.isAgg34
 z37:=Tryz.sizeOf34
 v37:=Tryz.zeroValue34
 i37:=by kernel_rfl
 t39:=Tryz.underlying140
 a39:=Tryz.isAgg140
 z39:=Tryz.sizeOf140
 v39:=Tryz.zeroValue140
 i39:=by kernel_rfl
 t44:=Tryz.underlying163
 a44:=Tryz.isAgg163
 z44:=Tryz.sizeOf163
 v44:=Tryz.zeroValue163
 i44:=by kernel_rfl
 t47:=Tryz.underlying109
 a47:=Tryz.isAgg109
 z47:=Tryz.sizeOf109
 v47:=Tryz.zeroValue109
 i47:=by kernel_rfl
 t48:=Tryz.underlying179
 a48:=Tryz.isAgg179
 z48:=Tryz.sizeOf179
 v48:=Tryz.zeroValue179
 i48:=by kernel_rfl
 t50:=Tryz.underlying181
 a50:=Tryz.isAgg181
 z50:=Tryz.sizeOf181
 v50:=Tryz.zeroValue181
 i50:=by kernel_rfl
 t52:=Tryz.underlying146
 a52:=Tryz.isAgg146
 z52:=Tryz.sizeOf146
 v52:=Tryz.zeroValue146
 i52:=by kernel_rfl
 t55:=Tryz.underlying150
 a55:=Tryz.isAgg150
 z55:=Tryz.sizeOf150
 v55:=Tryz.zeroValue150
 i55:=by kernel_rfl
 t59:=Tryz.underlying171
 a59:=Tryz.isAgg171
 z59:=Tryz.sizeOf171
 v59:=Tryz.zeroValue171
 i59:=by kernel_rfl
 t60:=Tryz.underlying156
 a60:=Tryz.isAgg156
 z60:=Tryz.sizeOf156
 v60:=Tryz.zeroValue156
 i60:=by kernel_rfl
 t61:=Tryz.underlying172
 a61:=Tryz.isAgg172
 z61:=Tryz.sizeOf172
 t65:=Tryz.underlying37
 a65:=Tryz.isAgg37
 z65:=Tryz.sizeOf37
 v65:=Tryz.zeroValue37
 i65:=by kernel_rfl
 t66:=Tryz.underlying186
 a66:=Tryz.isAgg186
 z66:=Tryz.sizeOf186
 v66:=Tryz.zeroValue186
 i66:=by kernel_rfl
 t67:=Tryz.underlying94
 a67:=Tryz.isAgg94
 z67:=Tryz.sizeOf94
 v67:=Tryz.zeroValue94
 i67:=by kernel_rfl
 g0:=by kernel_rfl
 m0:=by kernel_rfl
 g1:=by kernel_rfl
 m1:=by kernel_rfl
 g2:=by kernel_rfl
 m2:=by kernel_rfl
 g3:=by kernel_rfl
 m3:=by kernel_rfl
 g4:=by kernel_rfl
 m4:=by kernel_rfl }
open Go.RowKit in
theorem Tryz.strconv_ParseUint_10_at8_ok (s:ByteArray) (hmax:s.size≤9223372036854775806) (u:Nat) (h:Lib.parseUintB 8 s.data.toList=.ok u) (w:World) :
  Calls Tryz.prog 104 #[.string s,.int .i64 10,.int .i64 8] w fun e w'=>e=.returned (.tuple #[.int .u64 u,.nilIface])∧(w'=w∨w'=Lib.bytesWorld w 5 s):=Any.strconv_ParseUint_10_at8_ok Tryz.laysPu14 s hmax u h w
open Go.RowKit in
theorem Tryz.strconv_ParseUint_10_at8_syntax (s:ByteArray) (hlim:s.size≤281474976710656) (h:Lib.parseUintB 8 s.data.toList=Lib.parseUintB 8 []) (ev:Value) (w:World) (hv:w.cell? ⟨1,0,none⟩=some ev) (hev:ev=.nilIface∨∃te pe,ev=.iface te pe) :
  Calls Tryz.prog 104 #[.string s,.int .i64 10,.int .i64 8] w fun e w'=>∃N,e=.returned (.tuple #[.int .u64 0,.iface 140 (.pointer (some ⟨N,0,none⟩))])∧w.heap.size≤N∧w'.heap[N]?=some (.cells #[.string ⟨#[80,97,114,115,101,85,105,110,116]⟩,.string s,ev] 163 (0,0))∧Below w.heap.size w w':=Any.strconv_ParseUint_10_at8_syntax Tryz.laysPu14 s hlim h ev w hv hev
open Go.RowKit in
theorem Tryz.strconv_ParseUint_10_at8_range (s:ByteArray) (hlim:s.size≤281474976710656) (h:Lib.parseUintB 8 s.data.toList=.range) (ev:Value) (w:World) (hv:w.cell? ⟨2,0,none⟩=some ev) (hev:ev=.nilIface∨∃te pe,ev=.iface te pe) :
  Calls Tryz.prog 104 #[.string s,.int .i64 10,.int .i64 8] w fun e w'=>∃N,e=.returned (.tuple #[.int .u64 255,.iface 140 (.pointer (some ⟨N,0,none⟩))])∧w.heap.size≤N∧w'.heap[N]?=some (.cells #[.string ⟨#[80,97,114,115,101,85,105,110,116]⟩,.string s,ev] 163 (0,0))∧Below w.heap.size w w':=Any.strconv_ParseUint_10_at8_range Tryz.laysPu14 s hlim h ev w hv hev
def Tryz.lays219_ren:Go.Shelf.Ren:=⟨fun | 219=>57 | 217=>73 | 225=>74 | 224=>75 | 267=>76 | 266=>99 | 314=>100 | n=>n,fun | 9=>9 | 3=>3 | 4=>4 | 5=>5 | 46=>77 | 146=>157 | 51=>156 | n=>n,fun | 1=>0 | n=>n⟩
def Tryz.lays145_ren:Go.Shelf.Ren:=⟨fun | 145=>34 | 220=>46 | 219=>57 | 217=>73 | 225=>74 | 224=>75 | 267=>76 | 266=>99 | 314=>100 | n=>n,fun | 9=>9 | 4=>4 | 59=>95 | 3=>3 | 5=>5 | 46=>77 | 146=>157 | 51=>156 | n=>n,fun | 1=>0 | n=>n⟩
theorem Tryz.lays145:Go.Proofs.Lays.n145 Tryz.prog Tryz.lays145_ren := {
 mixed:=by kernel_rfl
 f145:=Tryz.func34.trans (congrArg some (by kernel_rfl))
 f217:=Tryz.func73.trans (congrArg some (by kernel_rfl))
 f219:=Tryz.func57.trans (congrArg some (by kernel_rfl))
 f220:=Tryz.func46.trans (congrArg some (by kernel_rfl))
 f224:=Tryz.func75.trans (congrArg some (by kernel_rfl))
 f225:=Tryz.func74.trans (congrArg some (by kernel_rfl))
 f266:=Tryz.func99.trans (congrArg some (by kernel_rfl))
 f267:=Tryz.func76.trans (congrArg some (by kernel_rfl))
 f314:=Tryz.func100.trans (congrArg some (by kernel_rfl))
 t3:=Tryz.underlying3
 a3:=Tryz.isAgg3
 z3:=Tryz.sizeOf3
 v3:=Tryz.zeroValue3
 t4:=Tryz.underlying4
 a4:=Tryz.isAgg4
 z4:=Tryz.sizeOf4
 v4:=Tryz.zeroValue4
 t5:=Tryz.underlying5
 a5:=Tryz.isAgg5
 z5:=Tryz.sizeOf5
 v5:=Tryz.zeroValue5
 t9:=Tryz.underlying9
 a9:=Tryz.isAgg9
 z9:=Tryz.sizeOf9
 v9:=Tryz.zeroValue9
 t46:=Tryz.underlying77
 a46:=Tryz.isAgg77
 z46:=Tryz.sizeOf77
 v46:=Tryz.zeroValue77
 t51:=Tryz.underlying156
 a51:=Tryz.isAgg156
 z51:=Tryz.sizeOf156
 v51:=Tryz.zeroValue156
 t59:=Tryz.underlying95
 a59:=Tryz.isAgg95
 z59:=Tryz.sizeOf95
 v59:=Tryz.zeroValue95
 t146:=Tryz.underlying157
 a146:=Tryz.isAgg157
 z146:=Tryz.sizeOf157
 v146:=Tryz.zeroValue157
 g1:=by kernel_rfl }
open Go.RowKit Go.Lib in
theorem Tryz.strings_Cut (s sep:ByteArray) (m:Int) (w:World) (hs:s.size<4294967281) (hm:w.cell? ⟨0,0,none⟩=some (.int .i64 m)) :
  Calls Tryz.prog 34 #[.string s,.string sep] w fun e w'=>e=.returned (.tuple #[.string ⟨(Lib.cut s.data.toList sep.data.toList).1.toArray⟩,.string ⟨(Lib.cut s.data.toList sep.data.toList).2.1.toArray⟩,.bool (Lib.cut s.data.toList sep.data.toList).2.2])∧∃n,w'=w.drewN n:=Any.strings_Cut Tryz.lays145 s sep m w hs hm
def Tryz.lays206_ren:Go.Shelf.Ren:=⟨fun | 206=>98 | n=>n,fun | 9=>9 | 4=>4 | 3=>3 | n=>n,fun | n=>n⟩
def Tryz.lays101_ren:Go.Shelf.Ren:=⟨fun | 101=>55 | 208=>72 | 206=>98 | n=>n,fun | 9=>9 | 4=>4 | 3=>3 | n=>n,fun | n=>n⟩
theorem Tryz.lays101:Go.Proofs.Lays.n101 Tryz.prog Tryz.lays101_ren := {
 mixed:=by kernel_rfl
 f101:=Tryz.func55.trans (congrArg some (by kernel_rfl))
 f206:=Tryz.func98.trans (congrArg some (by kernel_rfl))
 f208:=Tryz.func72.trans (congrArg some (by kernel_rfl))
 t3:=Tryz.underlying3
 a3:=Tryz.isAgg3
 z3:=Tryz.sizeOf3
 v3:=Tryz.zeroValue3
 t4:=Tryz.underlying4
 a4:=Tryz.isAgg4
 z4:=Tryz.sizeOf4
 v4:=Tryz.zeroValue4
 t9:=Tryz.underlying9
 a9:=Tryz.isAgg9
 z9:=Tryz.sizeOf9
 v9:=Tryz.zeroValue9 }
open Go.RowKit Go.Lib in
theorem Tryz.strings_TrimPrefix (s p:ByteArray) (w:World) :
  Calls Tryz.prog 55 #[.string s,.string p] w fun e w'=>e=.returned (.string ⟨(Lib.trimPrefix s.data.toList p.data.toList).toArray⟩)∧w'=w:=Any.strings_TrimPrefix Tryz.lays101 s p w
def Tryz.lays102_ren:Go.Shelf.Ren:=⟨fun | 102=>54 | 209=>71 | 207=>97 | n=>n,fun | 9=>9 | 4=>4 | 3=>3 | n=>n,fun | n=>n⟩
theorem Tryz.lays102:Go.Proofs.Lays.n102 Tryz.prog Tryz.lays102_ren := {
 mixed:=by kernel_rfl
 f102:=Tryz.func54.trans (congrArg some (by kernel_rfl))
 f207:=Tryz.func97.trans (congrArg some (by kernel_rfl))
 f209:=Tryz.func71.trans (congrArg some (by kernel_rfl))
 t3:=Tryz.underlying3
 a3:=Tryz.isAgg3
 z3:=Tryz.sizeOf3
 v3:=Tryz.zeroValue3
 t4:=Tryz.underlying4
 a4:=Tryz.isAgg4
 z4:=Tryz.sizeOf4
 v4:=Tryz.zeroValue4
 t9:=Tryz.underlying9
 a9:=Tryz.isAgg9
 z9:=Tryz.sizeOf9
 v9:=Tryz.zeroValue9 }
open Go.RowKit Go.Lib in
theorem Tryz.strings_TrimSuffix (s p:ByteArray) (w:World) (hs:s.size≤9223372036854775807) :
  Calls Tryz.prog 54 #[.string s,.string p] w fun e w'=>e=.returned (.string ⟨(Lib.trimSuffix s.data.toList p.data.toList).toArray⟩)∧w'=w:=Any.strings_TrimSuffix Tryz.lays102 s p w hs
def Tryz.lays221_ren:Go.Shelf.Ren:=⟨fun | 221=>87 | 268=>107 | 138=>108 | 143=>109 | 195=>119 | 197=>120 | 218=>121 | 219=>57 | 260=>124 | 217=>73 | 225=>74 | 224=>75 | 267=>76 | 266=>99 | 314=>100 | n=>n,fun | 9=>9 | 3=>3 | 31=>73 | 4=>4 | 0=>0 | 105=>183 | 21=>21 | 5=>5 | 46=>77 | 119=>187 | 139=>190 | 138=>189 | 146=>157 | 51=>156 | n=>n,fun | 1=>0 | 3=>6 | 4=>7 | n=>n⟩
def Tryz.lays146_ren:Go.Shelf.Ren:=⟨fun | 146=>62 | 221=>87 | 268=>107 | 138=>108 | 143=>109 | 195=>119 | 197=>120 | 218=>121 | 219=>57 | 260=>124 | 217=>73 | 225=>74 | 224=>75 | 267=>76 | 266=>99 | 314=>100 | n=>n,fun | 9=>9 | 31=>73 | 3=>3 | 4=>4 | 0=>0 | 105=>183 | 21=>21 | 5=>5 | 46=>77 | 119=>187 | 139=>190 | 138=>189 | 146=>157 | 51=>156 | n=>n,fun | 1=>0 | 3=>6 | 4=>7 | n=>n⟩
theorem Tryz.lays146:Go.Proofs.Lays.n146 Tryz.prog Tryz.lays146_ren := {
 mixed:=by kernel_rfl
 f138:=Tryz.func108.trans (congrArg some (by kernel_rfl))
 f143:=Tryz.func109.trans (congrArg some (by kernel_rfl))
 f146:=Tryz.func62.trans (congrArg some (by kernel_rfl))
 f195:=Tryz.func119.trans (congrArg some (by kernel_rfl))
 f197:=Tryz.func120.trans (congrArg some (by kernel_rfl))
 f217:=Tryz.func73.trans (congrArg some (by kernel_rfl))
 f218:=Tryz.func121.trans (congrArg some (by kernel_rfl))
 f219:=Tryz.func57.trans (congrArg some (by kernel_rfl))
 f221:=Tryz.func87.trans (congrArg some (by kernel_rfl))
 f224:=Tryz.func75.trans (congrArg some (by kernel_rfl))
 f225:=Tryz.func74.trans (congrArg some (by kernel_rfl))
 f260:=Tryz.func124.trans (congrArg some (by kernel_rfl))
 f266:=Tryz.func99.trans (congrArg some (by kernel_rfl))
 f267:=Tryz.func76.trans (congrArg some (by kernel_rfl))
 f268:=Tryz.func107.trans (congrArg some (by kernel_rfl))
 f314:=Tryz.func100.trans (congrArg some (by kernel_rfl))
 t0:=Tryz.underlying0
 a0:=Tryz.isAgg0
 z0:=Tryz.sizeOf0
 v0:=Tryz.zeroValue0
 t3:=Tryz.underlying3
 a3:=Tryz.isAgg3
 z3:=Tryz.sizeOf3
 v3:=Tryz.zeroValue3
 t4:=Tryz.underlying4
 a4:=Tryz.isAgg4
 z4:=Tryz.sizeOf4
 v4:=Tryz.zeroValue4
 t5:=Tryz.underlying5
 a5:=Tryz.isAgg5
 z5:=Tryz.sizeOf5
 v5:=Tryz.zeroValue5
 t9:=Tryz.underlying9
 a9:=Tryz.isAgg9
 z9:=Tryz.sizeOf9
 v9:=Tryz.zeroValue9
 t21:=Tryz.underlying21
 a21:=Tryz.isAgg21
 z21:=Tryz.sizeOf21
 v21:=Tryz.zeroValue21
 t31:=Tryz.underlying73
 a31:=Tryz.isAgg73
 z31:=Tryz.sizeOf73
 v31:=Tryz.zeroValue73
 t46:=Tryz.underlying77
 a46:=Tryz.isAgg77
 z46:=Tryz.sizeOf77
 v46:=Tryz.zeroValue77
 t51:=Tryz.underlying156
 a51:=Tryz.isAgg156
 z51:=Tryz.sizeOf156
 v51:=Tryz.zeroValue156
 t105:=Tryz.underlying183
 a105:=Tryz.isAgg183
 z105:=Tryz.sizeOf183
 v105:=Tryz.zeroValue183
 t119:=Tryz.underlying187
 a119:=Tryz.isAgg187
 z119:=Tryz.sizeOf187
 t138:=Tryz.underlying189
 a138:=Tryz.isAgg189
 z138:=Tryz.sizeOf189
 v138:=Tryz.zeroValue189
 t139:=Tryz.underlying190
 a139:=Tryz.isAgg190
 z139:=Tryz.sizeOf190
 v139:=Tryz.zeroValue190
 t146:=Tryz.underlying157
 a146:=Tryz.isAgg157
 z146:=Tryz.sizeOf157
 v146:=Tryz.zeroValue157
 g1:=by kernel_rfl
 g3:=by kernel_rfl
 g4:=by kernel_rfl }
open Go.RowKit Go.Lib in
theorem Tryz.strings_Split (s sep:ByteArray) (m:Int) (w:World) (hs:s.size<4294967281) (hm:w.cell? ⟨0,0,none⟩=some (.int .i64 m)) (h1:1≤sep.size) :
  Calls Tryz.prog 62 #[.string s,.string sep] w fun e w' =>
   e=.returned (.slice (some ⟨w.heap.size,0,none⟩) (Lib.countB s sep+1) (Lib.countB s sep+1))∧w'=w.alloc (.cells ((Lib.splitB sep 0 (Lib.countB s sep) s).map Value.string).toArray 9):=Any.strings_Split Tryz.lays146 (by kernel_rfl) s sep m w hs hm h1
end Go.Proofs
namespace Go.Proofs.YtjfkhlamjdbfkaaGreatDoor
open Go.Eng Go.Plain Go.RowKit
set_option maxHeartbeats 32000000
set_option maxRecDepth 20000
theorem oP {w:World} (h:hJ w):∃m,w.cell? ⟨0,0,none⟩=some (.int .i64 m):=by
 obtain⟨⟨m,t,fr,h1⟩,_⟩:=h _ (List.mem_cons_self ..)
 exact⟨m,by simp[World.cell?,h1]⟩
theorem ja {w:World} (h:hJ w) (i:Nat) (hi:i=1∨i=2):∃ev,w.cell? ⟨i,0,none⟩=some ev∧(ev=.nilIface∨∃te pe,ev=.iface te pe):=by
 have hm:(i,jW)∈mH:=by
  rcases hi with rfl | rfl
  ·exact .tail _ (.head _)
  ·exact .tail _ (.tail _ (.head _))
 obtain⟨⟨ev,t,fr,h1,h2⟩,_⟩:=h _ hm
 exact⟨ev,by simp only at h1; simp[World.cell?,h1],h2⟩
theorem tE : Tryz.prog.globalNamed "internal/strconv.uint64pow10" = some 3 := by kernel_rfl
theorem uv {w : World} (h : hJ w) : Lib.TabIs Tryz.prog w "internal/strconv.uint64pow10" .u64 Lib.pow10Tab := by
 obtain⟨⟨t,fr,h1⟩,_⟩:=h _ (.tail _ (.tail _ (.tail _ (.head _))))
 simp only at h1
 unfold Lib.TabIs World.var?
 rw[tE]
 simp only[Option.bind_some,h1]
theorem ku (w:World) (e:TypeId) (t:ByteArray):Below w.heap.size w (Lib.bytesWorld w e t):=Go.Joins.below_bytesWorld _ _ _ _ (Nat.le_refl _)
theorem qy (w:World) (q:Nat) (os:Array Obj):Below w.heap.size w (Sort.grow (w.drewN q) os):=
 ⟨rfl,rfl,rfl,by simp[Sort.grow],fun i hi=>by
  show ((w.drewN q).heap++os)[i]?=_
  rw[Array.getElem?_append_left (by show i<w.heap.size; omega)]
  rfl⟩
theorem dx {n:Int} (h0 : -9223372036854775808≤n) (h1:n≤9223372036854775807):FnIs Tryz.prog 42 [.int .i64 n] [] (.d (strD (Lib.itoa n))) []:=
 .of_calls1 rfl ⟨_,Tryz.func42,by kernel_rfl,by kernel_rfl⟩ fun σ w X vs ha hg=>by
  rw[ha.one]
  refine (Tryz.strconv_Itoa n h0 h1 w (uv hg)).mono ?_
  rintro e w' ⟨rfl,k,os,rfl⟩
  exact⟨rfl,qy _ _ _⟩
def cI (l:List UInt8):Int:=match Lib.atoiAll l with
 | .ok v=>v
 | .range=>Lib.atoiSat l
 | _=>0
def okA {α:Type} (p:α→Bool) (x:α):AV:=bif p x then .d (.sc .nilIface) else .er
def ca (l:List UInt8):Bool:=match Lib.atoiAll l with
 | .ok _=>true
 | _=>false
def puOk (l:List UInt8):Bool:=match Lib.parseUintB 8 l with
 | .ok _=>true
 | _=>false
def puV (l:List UInt8):Int:=match Lib.parseUintB 8 l with
 | .ok u=>u
 | .range=>255
 | _=>0
def erA (b:Bool):AV:=bif b then .d (.sc .nilIface) else .er
theorem rn {l:List UInt8} (hl:l.length≤281474976710656):FnIs Tryz.prog 47 [.d (strD l)] [] (.tup (.acons (.int .i64 (cI l)) (.acons (erA (ca l)) .anil))) []:=by
 refine .of_calls (fun G=>⟨trivial,by unfold erA; cases ca l <;> trivial,trivial⟩) ⟨_,Tryz.func47,by kernel_rfl,by kernel_rfl⟩ fun σ w X vs _ ha hg=>?_
 rw[ha.one]
 have hd:=cH l
 have hsz:(mkS l).size≤281474976710656:=by rw[co]; exact hl
 cases h:Lib.atoiAll l
 case ok v =>
  refine (Tryz.strconv_Atoi_ok (mkS l) (by omega) v (by rw[hd]; exact h) w).mono ?_
  rintro e w' ⟨rfl,hw⟩
  refine⟨_,rfl,?_,by simp only[cI,ca,erA,h,cond_true]; exact oj rfl rfl⟩
  rcases hw with rfl | ⟨t,rfl⟩
  ·exact Below.refl _ _
  ·exact ku _ _ _
 case range =>
  obtain⟨ev,h1,h2⟩:=ja hg 2 (.inr rfl)
  refine (Tryz.strconv_Atoi_range (mkS l) hsz (by rw[hd]; exact h) ev w h1 h2).mono ?_
  rintro e w' ⟨N,rfl,_,_,hb⟩
  exact⟨_,rfl,hb,by simp only[cI,ca,erA,h,cond_false]; rw[hd]; exact kL rfl⟩
 next =>
  obtain⟨ev,h1,h2⟩:=ja hg 1 (.inl rfl)
  refine (Tryz.strconv_Atoi_syntax (mkS l) hsz (by rw[hd]; exact h) ev w h1 h2).mono ?_
  rintro e w' ⟨N,rfl,_,_,hb⟩
  exact⟨_,rfl,hb,by simp only[cI,ca,erA,h,cond_false]; exact kL rfl⟩
theorem y5 {l:List UInt8} (hl:l.length≤281474976710656):FnIs Tryz.prog 104 [.d (strD l),.int .i64 10,.int .i64 8] [] (.tup (.acons (.int .u64 (puV l)) (.acons (erA (puOk l)) .anil))) []:=by
 refine .of_calls (fun G=>⟨trivial,by unfold erA; cases puOk l <;> trivial,trivial⟩) ⟨_,Tryz.func104,by kernel_rfl,by kernel_rfl⟩ fun σ w X vs _ ha hg=>?_
 rw[ha.three]
 have hd:=cH l
 have hsz:(mkS l).size≤281474976710656:=by rw[co]; exact hl
 cases h:Lib.parseUintB 8 l
 case ok v =>
  refine (Tryz.strconv_ParseUint_10_at8_ok (mkS l) (by omega) v (by rw[hd]; exact h) w).mono ?_
  rintro e w' ⟨rfl,hw⟩
  refine⟨_,rfl,?_,by simp only[puV,puOk,erA,h,cond_true]; exact oj rfl rfl⟩
  rcases hw with rfl | rfl
  ·exact Below.refl _ _
  ·exact ku _ _ _
 case range =>
  obtain⟨ev,h1,h2⟩:=ja hg 2 (.inr rfl)
  refine (Tryz.strconv_ParseUint_10_at8_range (mkS l) hsz (by rw[hd]; exact h) ev w h1 h2).mono ?_
  rintro e w' ⟨N,rfl,_,_,hb⟩
  exact⟨_,rfl,hb,by simp only[puV,puOk,erA,h,cond_false]; exact kL rfl⟩
 next =>
  obtain⟨ev,h1,h2⟩:=ja hg 1 (.inl rfl)
  refine (Tryz.strconv_ParseUint_10_at8_syntax (mkS l) hsz (by rw[hd]; exact h) ev w h1 h2).mono ?_
  rintro e w' ⟨N,rfl,_,_,hb⟩
  exact⟨_,rfl,hb,by simp only[puV,puOk,erA,h,cond_false]; exact kL rfl⟩
def cutA (l:List UInt8) (c:UInt8):List UInt8×List UInt8×Bool:=match cutL l c with
 | none=>(l,[],false)
 | some (p,q)=>(p,q,true)
theorem jP {l:List UInt8} {c:UInt8} (hl:l.length<4294967281):FnIs Tryz.prog 34 [.d (strD l),.d (strD [c])] [] (.tup (.acons (.d (strD (cutA l c).1)) (.acons (.d (strD (cutA l c).2.1)) (.acons (.bool (cutA l c).2.2) .anil)))) []:=by
 refine .of_calls (fun G=>⟨trivial,trivial,trivial,trivial⟩) ⟨_,Tryz.func34,by kernel_rfl,by kernel_rfl⟩ fun σ w X vs _ ha hg=>?_
 rw[ha.two]
 obtain⟨m,hm⟩:=oP hg
 refine (Tryz.strings_Cut (mkS l) (mkS [c]) m w (by rw[co]; exact hl) hm).mono ?_
 rintro e w' ⟨rfl,k,rfl⟩
 refine⟨_,rfl,Go.Joins.below_draws _ _ _,?_⟩
 have e1:Lib.cut (mkS l).data.toList (mkS [c]).data.toList=cutA l c:=by
  rw[cH,cH,vS]
  rfl
 rw[e1]
 exact tm rfl rfl rfl
theorem oN {l:List UInt8} {c:Int}:FnIs Tryz.prog 68 [.d (strD l),.int .u8 c] [] (.int .i64 (Lib.indexByte l c.toNat.toUInt8)) []:=
 .of_calls1 rfl ⟨_,Tryz.func68,by kernel_rfl,by kernel_rfl⟩ fun σ w X vs ha hg=>by
  rw[ha.two]
  refine (Tryz.strings_IndexByte (mkS l) c w).mono ?_
  rintro e w' ⟨rfl,rfl⟩
  exact⟨by rw[cH],Below.refl _ _⟩
theorem ft {l:List UInt8} {c:UInt8} (hl:l.length<4294967281):FnIs Tryz.prog 62 [.d (strD l),.d (strD [c])] [] (.d (.arr 1 strD (bC l c))) []:=by
 refine .of_calls (fun G=>trivial) ⟨_,Tryz.func62,by kernel_rfl,by kernel_rfl⟩ fun σ w X vs hX ha hg=>?_
 rw[ha.two]
 obtain⟨m,hm⟩:=oP hg
 refine (Tryz.strings_Split (mkS l) (mkS [c]) m w (by rw[co]; exact hl) hm (by rw[co]; exact Nat.le_refl 1)).mono ?_
 rintro e w' ⟨rfl,rfl⟩
 obtain⟨h1,h2⟩:=sf (c:=c) l.length l (Nat.le_refl _)
 rw[h1,h2]
 have hlen:(bC l c).length≤l.length+1:=ij l c
 refine⟨_,rfl,Go.Joins.below_alloc1 _ _,RelV.arr.2 (.inr ⟨_,_,rfl,Nat.le_refl _,by unfold maxLen; omega,fun i=>[.string (mkS ((bC l c).getD i []))],fun i hi=>⟨?_,rfl,fun j u hu=>?_⟩⟩)⟩
 ·show Enc _ _ _ [.string (mkS ((bC l c).getD i []))]
  rw[List.getD_eq_getElem?_getD,List.getElem?_eq_getElem hi]
  exact⟨rfl,rfl⟩
 ·match j,hu with
  | 0,hu =>
   simp only[List.getElem?_cons_zero,Option.some.injEq]at hu
   subst hu
   refine⟨?_,fun hx=>absurd (hX _ hx) (Nat.lt_irrefl _)⟩
   rw[cZ]
   simp only[Nat.mul_one,Nat.add_zero,Nat.zero_add]
   rw[World.cell?]
   simp only[heap_alloc_new]
   simp[List.getElem?_eq_getElem hi,List.getD_eq_getElem?_getD]
end Go.Proofs.YtjfkhlamjdbfkaaGreatDoor
namespace Go.Proofs.YtjfkhlamjdbfkaaGreatDoor
open Go.Eng
attribute [local irreducible] WC RegS RegD SeqQ BlkQ ScoQ RegK CutK Sat SatN FnIs LoopQ aq OpIs
def bAV (b:Bool) (r:Nat):AV:=match b with
 | true=>.d (.sc nilp)
 | false=>.ptr r []
abbrev cF (b:Bool) (r q n:Nat):Row :=.box 88 (.acons (bAV b r) (.acons (.own q 0 n 1 none) (.d .nil)))
abbrev rowT (l:List UInt8):Row :=.ds 5 1 false bt (byI l)
theorem gg (l:List UInt8) (n:Nat):FnIs Tryz.prog 41 [.ptr 0 []] [(0,.box 88 (.acons (.d (.sc nilp)) (.acons (.own 1 0 n 1 none) (.d .nil)))),(1,rowT l)] (.tup .anil) [(0,.box 88 (.acons (.ptr 0 []) (.acons (.own 1 0 n 1 none) (.d .nil)))),(1,rowT l)]:=by
 refine aw aa Tryz.func41 rfl rfl rfl ?_;refine sR<|zU ?_;refine rQ iM ?_;refine rQ (xo rfl rfl rfl) ?_;refine zO<|ai ?_;refine zD ?_;refine rQ (o4 aa rfl rfl rfl rfl rfl rfl rfl rfl) ?_;refine rQ (oB rfl rfl rfl rfl rfl rfl) ?_;refine rQ (me aa rfl rfl rfl rfl rfl rfl (by kernel_rfl)) ?_;refine zD ?_;refine aR (aA aa rfl rfl rfl ⟨_,⟨_,⟨rfl,rfl,rfl⟩,rfl⟩,rfl⟩ rfl)<|ay ?_
 exact⟨trivial,[],lg zV ⟨zR,zR,trivial⟩⟩
theorem gx (l:List UInt8) (n:Nat):FnIs Tryz.prog 41 [.ptr 0 []] [(0,.box 88 (.acons (.ptr 0 []) (.acons (.own 1 0 n 1 none) (.d .nil)))),(1,rowT l)] (.tup .anil) [(0,.box 88 (.acons (.ptr 0 []) (.acons (.own 1 0 n 1 none) (.d .nil)))),(1,rowT l)]:=by
 refine aw aa Tryz.func41 rfl rfl rfl ?_;refine sR<|zU ?_;refine rQ iM ?_;refine rQ (wj rfl rfl rfl) ?_;refine zJ<|sR ?_;refine zU ?_;refine rQ iM ?_;refine rC ?_;refine rQ (tV aa rfl rfl rfl rfl) ?_;refine zJ<|aS ?_
 exact⟨trivial,[],lg zV ⟨zR,zR,trivial⟩⟩
theorem kx (l:List UInt8) (c:UInt8) (n:Nat) (hn:l.length=n) (hlen:n+1≤1048576):FnIs Tryz.prog 56 [.ptr 0 [],.int .u8 c.toNat] [(0,cF true 0 1 n),(1,rowT l)] (.d (.sc .nilIface)) [(0,cF false 0 64 (n+1)),(64,rowT (l++[c]))]:=by
 obtain rfl:(byI l).length=n:=by rw[b5]; exact hn
 have hcc:=gg l (byI l).length
 have hlen2:(byI l).length+1≤1048576:=hlen
 refine aw aa Tryz.func56 rfl rfl rfl ?_;refine sR<|rC<|nR ?_;refine rC ?_;refine bh rfl (bq [(0,some 0),(1,some 1)] hcc rfl rfl rfl (bj rfl rfl ab) ⟨zH,zH,trivial⟩ rfl rfl (.inl rfl) rfl rfl) rfl rfl<|nR ?_;iterate 4 refine rC ?_
 refine rQ iM ?_;refine rC ?_;refine aG (aD aa rfl rfl rfl rfl rfl rfl rfl rfl) rfl ?_;refine aU (aM (s:=1) (enc:=bt) aa (c.toNat:Int) rfl rfl rfl rfl rfl rfl rfl rfl rfl hlen2 rfl) rfl ?_;refine zD ?_;refine aR (aA aa rfl rfl rfl ⟨_,⟨_,⟨rfl,rfl,rfl⟩,rfl⟩,rfl⟩ rfl)<|nR ?_;refine rC<|zT ?_
 rw[show byI l++[(c.toNat:Int)]=byI (l++[c]) from kQ l [c]]
 exact⟨trivial,[(64,some 144)],lg zV ⟨zR,zR,trivial⟩⟩
theorem kW (l:List UInt8) (c:UInt8) (n:Nat) (hn:l.length=n) (hlen:n+1≤1048576):FnIs Tryz.prog 56 [.ptr 0 [],.int .u8 c.toNat] [(0,cF false 0 1 n),(1,rowT l)] (.d (.sc .nilIface)) [(0,cF false 0 64 (n+1)),(64,rowT (l++[c]))]:=by
 obtain rfl:(byI l).length=n:=by rw[b5]; exact hn
 have hcc:=gx l (byI l).length
 have hlen2:(byI l).length+1≤1048576:=hlen
 refine aw aa Tryz.func56 rfl rfl rfl ?_;refine sR<|rC<|nR ?_;refine rC ?_;refine bh rfl (bq [(0,some 0),(1,some 1)] hcc rfl rfl rfl (bj rfl rfl ab) ⟨zH,zH,trivial⟩ rfl rfl (.inl rfl) rfl rfl) rfl rfl<|nR ?_;iterate 4 refine rC ?_
 refine rQ iM ?_;refine rC ?_;refine aG (aD aa rfl rfl rfl rfl rfl rfl rfl rfl) rfl ?_;refine aU (aM (s:=1) (enc:=bt) aa (c.toNat:Int) rfl rfl rfl rfl rfl rfl rfl rfl rfl hlen2 rfl) rfl ?_;refine zD ?_;refine aR (aA aa rfl rfl rfl ⟨_,⟨_,⟨rfl,rfl,rfl⟩,rfl⟩,rfl⟩ rfl)<|nR ?_;refine rC<|zT ?_
 rw[show byI l++[(c.toNat:Int)]=byI (l++[c]) from kQ l [c]]
 exact⟨trivial,[(64,some 144)],lg zV ⟨zR,zR,trivial⟩⟩
theorem eF (b:Bool) (l:List UInt8) (c:UInt8) (n:Nat) (hn:l.length=n) (hlen:n+1≤1048576):FnIs Tryz.prog 56 [.ptr 0 [],.int .u8 c.toNat] [(0,cF b 0 1 n),(1,rowT l)] (.d (.sc .nilIface)) [(0,cF false 0 64 (n+1)),(64,rowT (l++[c]))]:=by
 cases b with
 | true=>exact kx l c n hn hlen
 | false=>exact kW l c n hn hlen
theorem fY (l:List UInt8) (n:Nat) (hn:l.length=n) (hne:l≠[]) (hlen:n≤1048576):FnIs Tryz.prog 33 [.ptr 0 []] [(0,cF false 0 1 n),(1,rowT l)] (.d (strD l)) []:=by
 have h0:0<n:=by rw[←hn]; exact List.length_pos_iff.2 hne
 have h63:l.length≤9223372036854775807:=by omega
 refine aw aa Tryz.func33 rfl rfl rfl ?_;refine sR<|rC<|nQ ?_;refine aH (by kernel_rfl) ?_;refine dC [0] [] ?_;refine dC [3] [] ?_;refine dC [4] [] ?_;refine dQ [5] [0] iM ?_;refine dQ [6] [1] (pC rfl h0) ?_;refine dC [0] [] ?_;refine dC [8] [] ?_;refine dC [9] [] ?_;refine dQ [10] [0] iM ?_;refine dQ [11] [1] (bB aa rfl rfl) ?_;refine fp [7,12] [1] rfl (pw (l:=l) rfl rfl rfl rfl rfl hn hne h63) ?_;refine dC [13] [] ?_;refine aB (by kernel_rfl)<|aK<|bO ?_
 exact⟨trivial,[],lf⟩
theorem jj:FnIs Tryz.prog 33 [.ptr 0 []] [(0,.box 88 (.d (.cons (.sc nilp) (.cons (.sc nil_) .nil))))] (.d (strD [])) []:=by
 refine aw aa Tryz.func33 rfl rfl rfl ?_;refine sR<|rC<|nQ ?_;refine aH (by kernel_rfl) ?_;refine dC [0] [] ?_;refine dC [3] [] ?_;refine dC [4] [] ?_;refine dQ [5] [0] iB ?_;refine dQ [6] [] (k7 rfl) ?_;refine dC [0] [] ?_;refine dC [8] [] ?_;refine dC [9] [] ?_;refine dQ [10] [0] iB ?_;refine dQ [11] [] (nw aa rfl rfl) ?_;refine dQ [7,12] [] (nT rfl rfl) ?_;refine dC [13] [] ?_;refine aB (by kernel_rfl)<|aK<|bO ?_
 exact⟨trivial,[],lf⟩
theorem kV (l s:List UInt8) (n:Nat) (hn:l.length=n) (hs0:0<s.length) (hlen:n+s.length≤1048576):FnIs Tryz.prog 31 [.ptr 0 [],.d (strD s)] [(0,cF true 0 1 n),(1,rowT l)] (.tup (.acons (.int .i64 s.length) (.acons (.d (.sc .nilIface)) .anil))) [(0,cF false 0 64 (n+s.length)),(64,rowT (l++s))]:=by
 have hbl:n=(byI l).length:=by rw[b5]; exact hn.symm
 have hcc:=gg l n
 have hlen2:(byI l).length+s.length≤1048576:=by rw[←hbl]; exact hlen
 refine aw aa Tryz.func31 rfl rfl rfl ?_;refine sR<|zD<|nR ?_;refine rC ?_;refine bh rfl (bq [(0,some 0),(1,some 1)] hcc rfl rfl rfl (bj rfl rfl ab) ⟨zH,zH,trivial⟩ rfl rfl (.inl rfl) rfl rfl) rfl rfl<|nR ?_;iterate 4 refine rC ?_
 refine rQ iM ?_;refine rC ?_;refine aU (l6 (l:=s) aa rfl Tryz.underlying9 rfl rfl rfl hbl rfl rfl hs0 hlen2 rfl) rfl ?_;refine zD ?_;refine aR (aA aa rfl rfl rfl ⟨_,⟨_,⟨rfl,rfl,rfl⟩,rfl⟩,rfl⟩ rfl)<|nR ?_;refine rC ?_;refine rQ (eD aa rfl rfl) ?_;refine zD<|zT ?_
 rw[kQ l s]
 exact⟨trivial,[(64,some 144)],lg zV ⟨⟨rfl,rfl,_,rfl,aY.of_eq (by rw[hbl]; rfl)⟩,zR,trivial⟩⟩
theorem ma (l s:List UInt8) (n:Nat) (hn:l.length=n) (hs0:0<s.length) (hlen:n+s.length≤1048576):FnIs Tryz.prog 31 [.ptr 0 [],.d (strD s)] [(0,cF false 0 1 n),(1,rowT l)] (.tup (.acons (.int .i64 s.length) (.acons (.d (.sc .nilIface)) .anil))) [(0,cF false 0 64 (n+s.length)),(64,rowT (l++s))]:=by
 have hbl:n=(byI l).length:=by rw[b5]; exact hn.symm
 have hcc:=gx l n
 have hlen2:(byI l).length+s.length≤1048576:=by rw[←hbl]; exact hlen
 refine aw aa Tryz.func31 rfl rfl rfl ?_;refine sR<|zD<|nR ?_;refine rC ?_;refine bh rfl (bq [(0,some 0),(1,some 1)] hcc rfl rfl rfl (bj rfl rfl ab) ⟨zH,zH,trivial⟩ rfl rfl (.inl rfl) rfl rfl) rfl rfl<|nR ?_;iterate 4 refine rC ?_
 refine rQ iM ?_;refine rC ?_;refine aU (l6 (l:=s) aa rfl Tryz.underlying9 rfl rfl rfl hbl rfl rfl hs0 hlen2 rfl) rfl ?_;refine zD ?_;refine aR (aA aa rfl rfl rfl ⟨_,⟨_,⟨rfl,rfl,rfl⟩,rfl⟩,rfl⟩ rfl)<|nR ?_;refine rC ?_;refine rQ (eD aa rfl rfl) ?_;refine zD<|zT ?_
 rw[kQ l s]
 exact⟨trivial,[(64,some 144)],lg zV ⟨⟨rfl,rfl,_,rfl,aY.of_eq (by rw[hbl]; rfl)⟩,zR,trivial⟩⟩
theorem gj (b:Bool) (l s:List UInt8) (n:Nat) (hn:l.length=n) (hs0:0<s.length) (hlen:n+s.length≤1048576):FnIs Tryz.prog 31 [.ptr 0 [],.d (strD s)] [(0,cF b 0 1 n),(1,rowT l)] (.tup (.acons (.int .i64 s.length) (.acons (.d (.sc .nilIface)) .anil))) [(0,cF false 0 64 (n+s.length)),(64,rowT (l++s))]:=by
 cases b with
 | true=>exact kV l s n hn hs0 hlen
 | false=>exact ma l s n hn hs0 hlen
end Go.Proofs.YtjfkhlamjdbfkaaGreatDoor
namespace Go.Eng
open Go.RowKit
section
variable {P : Program} {T : Tab} {env : Env} {h : Upds} {n : Nat}
theorem bM (hT:ao P T) {x y:Operand} {t t':TypeId} {k:IntKind} {a b:Nat} {c:Int} (hx:au env x=some (.int k a)) (hy:au env y=some (.int k c)) (hc:c=(b:Int)) (hb:b≠0):aq P (.binOp .rem t x y t') env h n (some (.int k ((a % b:Nat):Int))) []:=by
 subst hc
 have:=vr (P:=P) (h:=h) (n:=n) (t:=t) (t':=t') hT hx hy (by omega:(b:Int)≠0)
 rwa [show ((a:Int).tmod b)=((a % b:Nat):Int) from rfl]at this
theorem dq (hT:ao P T) {x y:Operand} {t t':TypeId} {k:IntKind} {a b:Nat} {c:Int} (hx:au env x=some (.int k a)) (hy:au env y=some (.int k c)) (hc:c=(b:Int)) (hb:b≠0) (hw:k.wrap ((a/b:Nat):Int)=((a/b:Nat):Int)):aq P (.binOp .quo t x y t') env h n (some (.int k ((a/b:Nat):Int))) []:=by
 subst hc
 exact vu hT hx hy (by omega:(b:Int)≠0) (by rw[show ((a:Int).tdiv b)=((a/b:Nat):Int) from rfl]; exact hw)
theorem cm {a:Nat} (h:a<256):IntKind.u8.wrap (a:Int)=(a:Int):=by
 simp[IntKind.wrap,IntKind.signed,IntKind.bits]
 omega
end
end Go.Eng
namespace Go.Proofs.YtjfkhlamjdbfkaaGreatDoor
open Go.Eng Go.Plain
set_option maxHeartbeats 32000000
set_option maxRecDepth 20000
attribute [local irreducible] WC RegS RegD SeqQ BlkQ ScoQ RegK CutK Sat SatN FnIs LoopQ aq OpIs
theorem oO {l:List UInt8} {i:Nat} {b:UInt8} (hb:l[i]?=some b):(l.take i).flatMap hexB++[hexC (b.toNat/16)]++[hexC (b.toNat % 16)]=(l.take (i+1)).flatMap hexB:=by
 rw[List.take_add_one,hb]
 simp[hexB]
theorem v8:FnIs Tryz.prog 88 [.d (encB [])] [] (.d (strD (hexP []))) []:=by
 refine aw aa Tryz.func88 rfl rfl rfl ?_;refine sR<|rC<|zW ?_;refine rC ?_;refine rQ iE ?_;refine rC ?_;refine zO<|sR ?_;refine rC<|zT<|aN ?_
 exact⟨trivial,[],lf⟩
theorem ul (l:List UInt8) (hne:l≠[]) (hL:l.length≤524288):FnIs Tryz.prog 88 [.d (encB l)] [] (.d (strD (hexP l))) []:=by
 have hpos:0<l.length:=List.length_pos_iff.2 hne
 have hbl:(byI l).length=l.length:=b5 l
 have hz:decide (((byI l).length:Int)=0)=false:=dF (by omega)
 refine aw aa Tryz.func88 rfl rfl rfl ?_;refine sR<|rC<|zW ?_;refine rC ?_;refine rQ iE ?_;refine rC ?_;refine zG<|kS<|sR ?_;refine rN<|zW ?_;refine rC ?_;refine rQ iE ?_;refine rC<|zP ?_
 refine wc_inv (fun i:Nat=>⟨[(11,.int .i64 i),(10,.int .i64 (byI l).length),(9,.d (encB l)),(3,.ptr 65 [])],[(65,some (cF (Nat.beq i 0) 65 66 (2*i))),(66,some (rowT ((l.take i).flatMap hexB)))],72,Tryz.f88.ntmps,64⟩) (fun i=>i≤l.length) (fun i=>l.length-i) 0 [(65,some 96),(66,none)] (Nat.zero_le _)
  (lg zi ⟨⟨rfl,rfl,_,rfl,aY.split2⟩,⟨rfl,rfl,rfl⟩,trivial⟩) ?_
 intro i hi
 refine bH<|sR ?_;refine rC<|nQ ?_
 refine bW rfl (fun h3=>?_) (fun h3=>?_)
 ·have hlt:i<l.length:=by have:=of_decide_eq_true h3; omega
  obtain⟨b,hb⟩:∃b,l[i]?=some b:=⟨_,List.getElem?_eq_getElem hlt⟩
  have hb':(byI l)[((i:Int)).toNat]?=some (b.toNat:Int):=by rw[Int.toNat_natCast]; exact rk hb
  have hb8:b.toNat<256:=b.toNat_lt
  have hw16:IntKind.u8.wrap ((b.toNat/16:Nat):Int)=((b.toNat/16:Nat):Int):=cm (by omega)
  have hd1:=iZ (n:=b.toNat/16) (by omega)
  have hd2:=iZ (n:=b.toNat % 16) (by omega)
  have hpl:((l.take i).flatMap hexB).length=2*i:=by rw[dM,List.length_take,Nat.min_eq_left hi]
  have hp1:2*i+1≤1048576:=by omega
  have hpl2:((l.take i).flatMap hexB++[hexC (b.toNat/16)]).length=2*i+1:=by rw[List.length_append,hpl]; rfl
  have hp2:2*i+1+1≤1048576:=by omega
  have hgo:=oO hb
  refine zQ<|zS<|rQ iA ?_;refine rQ iL ?_;refine rC<|nR ?_;refine rC ?_;refine rQ (dq (a:=b.toNat) (b:=16) aa rfl rfl rfl (by decide) hw16) ?_;refine rQ (ek (l:=hexD) (m:=b.toNat/16) aa rfl rfl rfl hd1) ?_;refine bh rfl (bq [(0,some 65),(1,some 66)] (eF (Nat.beq i 0) ((l.take i).flatMap hexB) (hexC (b.toNat/16)) (2*i) hpl hp1) rfl rfl rfl (bj rfl rfl (aj ab)) ⟨⟨rfl,(by cases Nat.beq i 0 <;> rfl),_,_,rfl,rfl,(by cases Nat.beq i 0 <;> exact .refl _)⟩,zH,trivial⟩ rfl rfl (.inl rfl) rfl rfl) rfl rfl<|nS<|ai ?_;refine rC ?_;refine rQ (bM (a:=b.toNat) (b:=16) aa rfl rfl rfl (by decide)) ?_;refine rQ (ek (l:=hexD) (m:=b.toNat % 16) aa rfl rfl rfl hd2) ?_;refine bh rfl (bq [(0,some 65),(1,some 128)] (eF false ((l.take i).flatMap hexB++[hexC (b.toNat/16)]) (hexC (b.toNat % 16)) (2*i+1) hpl2 hp2) rfl rfl rfl (bj rfl rfl (aj ab)) ⟨zH,zH,trivial⟩ rfl rfl (.inl rfl) rfl rfl) rfl rfl<|ay<|zC<|ai ?_;refine rQ iD ?_;refine rC<|ay ?_
  exact aL (i+1) [(66,some 160)] hlt (by omega) (lg zi ⟨zR,⟨rfl,rfl,_,rfl,aY.of_eq (congrArg rowT hgo)⟩,trivial⟩)
 ·have he:i=l.length:=by have:=of_decide_eq_false h3; omega
  subst he
  have hnn:l.flatMap hexB≠[]:=fun e=>by have:=dM l; rw[e]at this; simp at this; omega
  have hp4:2*l.length≤1048576:=by omega
  have hbz:Nat.beq l.length 0=false:=by
   cases hz:Nat.beq l.length 0 with
   | false=>rfl
   | true=>have:=Nat.eq_of_beq_eq_true hz; omega
  rw[hbz,List.take_length]
  refine zX<|sR<|aU (bq [(0,some 65),(1,some 66)] (fY (l.flatMap hexB) (2*l.length) (dM l) hnn hp4) rfl rfl rfl (bj rfl rfl ab) ⟨zH,zH,trivial⟩ rfl rfl (.inl rfl) rfl rfl) rfl ?_;refine rC<|zT ?_
  rw[show hexP l=l.flatMap hexB from if_neg hne]
  exact⟨trivial,[],lf⟩
theorem lM (l:List UInt8) (hL:l.length≤524288):FnIs Tryz.prog 88 [.d (encB l)] [] (.d (strD (hexP l))) []:=by
 by_cases h:l=[]
 ·subst h; exact v8
 ·exact ul l h hL
end Go.Proofs.YtjfkhlamjdbfkaaGreatDoor
namespace Go.Plain
open Go.Eng Go.Lib
def nibV (c:UInt8):Nat:=(indexByte hexD c).toNat
def cw:List UInt8→List Int
 | []=>[]
 | [a]=>[(nibV a:Int)]
 | a::b::l=>((nibV a*16+nibV b:Nat):Int)::cw l
theorem uh {c:UInt8} (h:0≤indexByte hexD c):hexD[(indexByte hexD c).toNat]?=some c:=(indexByte_some (show indexByte hexD c=((indexByte hexD c).toNat:Nat) by omega)).1
theorem ei (c:UInt8):nibV c<16:=by
 by_cases h:0≤indexByte hexD c
 ·have:=(List.getElem?_eq_some_iff.1 (uh h)).1
  exact this
 ·unfold nibV; omega
theorem iY {c:UInt8} (h:0≤indexByte hexD c):c.toNat<128:=by
 have hm:c∈hexD:=List.mem_of_getElem? (uh h)
 have:∀c∈hexD,c.toNat<128:=by decide
 exact this c hm
theorem pZ:∀l,(cw l).length=(l.length+1)/2
 | []=>rfl
 | [_]=>by simp[cw]
 | _::_::l=>by simp only[cw,List.length_cons,pZ l]; omega
theorem qL:∀(l:List UInt8) (c:UInt8),l.length % 2=0→cw (l++[c])=cw l++[(nibV c:Int)]
 | [],_,_=>rfl
 | [_],_,h=>by simp at h
 | a::b::l,c,h=>by
  have:=qL l c (by simp only[List.length_cons]at h; omega)
  simp only[List.cons_append,cw,this]
theorem tC:∀(l:List UInt8) (c:UInt8),l.length % 2=1→∃(r:List Int) (x:Nat),x<16∧cw l=r++[(x:Int)]∧cw (l++[c])=r++[((x*16+nibV c:Nat):Int)]
 | [],_,h=>by simp at h
 | [a],c,_=>⟨[],nibV a,ei a,rfl,rfl⟩
 | a::b::l,c,h=>by
  obtain⟨r,x,h1,h2,h3⟩:=tC l c (by simp only[List.length_cons]at h; omega)
  exact⟨((nibV a*16+nibV b:Nat):Int)::r,x,h1,by simp only[cw,h2,List.cons_append],by simp only[List.cons_append,cw,h3]⟩
def uX (m:Nat) (s:List UInt8) (i:Nat):List Int:=cw (s.take i)++List.replicate (m-(i+1)/2) 0
theorem kJ (m:Nat) (s:List UInt8):uX m s 0=List.replicate m 0:=by simp[uX,cw]
theorem kK {m i:Nat} {s:List UInt8} {c:UInt8} (hc:s[i]?=some c) (hm:s.length=2*m):∃x:Nat,x<16∧(uX m s i)[i/2]?=some (x:Int)∧(uX m s i).set (i/2) ((x*16+nibV c:Nat):Int)=uX m s (i+1):=by
 have hi:i<s.length:=(List.getElem?_eq_some_iff.1 hc).1
 have hl:(s.take i).length=i:=by rw[List.length_take,Nat.min_eq_left (by omega)]
 have ht:s.take (i+1)=s.take i++[c]:=by rw[List.take_add_one,hc]; rfl
 have hpl:(cw (s.take i)).length=(i+1)/2:=by rw[pZ,hl]
 by_cases he:i % 2=0
 ·have e1:(i+1)/2=i/2:=by omega
  have e2:(i+1+1)/2=i/2+1:=by omega
  have e3:m-i/2=(m-(i/2+1))+1:=by omega
  refine⟨0,by decide,?_,?_⟩
  ·simp only[uX]
   rw[List.getElem?_append_right (by omega),hpl,e1,Nat.sub_self,e3,List.replicate_succ]
   rfl
  ·simp only[uX]
   rw[List.set_append_right _ _ (by omega),hpl,e1,Nat.sub_self,e3,List.replicate_succ,List.set_cons_zero,ht,qL _ _ (by rw[hl]; exact he),e2]
   simp
 ·obtain⟨r,x,h1,h2,h3⟩:=tC (s.take i) c (by rw[hl]; omega)
  have hr:r.length=i/2:=by
   have:=congrArg List.length h2
   rw[hpl]at this
   simp at this
   omega
  have e2:(i+1+1)/2=(i+1)/2:=by omega
  refine⟨x,h1,?_,?_⟩
  ·simp only[uX,h2]
   rw[List.append_assoc,List.getElem?_append_right (by omega),hr,Nat.sub_self]
   rfl
  ·simp only[uX,h2]
   rw[List.append_assoc,List.set_append_right _ _ (by omega),hr,Nat.sub_self,ht,h3,e2]
   simp
theorem fO:∀(s:List UInt8),s.length % 2=0→(∀c∈s,0≤indexByte hexD c)→∃t,dY s=some t∧byI t=cw s
 | [],_,_=>⟨[],rfl,rfl⟩
 | [_],h,_=>by simp at h
 | a::b::l,h,hd=>by
  obtain⟨t,h1,h2⟩:=fO l (by simp only[List.length_cons]at h; omega) fun c hc=>hd c (by simp[hc])
  have ha:=hd a (by simp)
  have hb:=hd b (by simp)
  have na:=ei a
  have nb:=ei b
  refine⟨(nibV a*16+nibV b).toUInt8::t,?_,?_⟩
  ·simp only[dY,nibO,if_pos ha,if_pos hb,h1,nibV]
  ·simp only[byI,List.map_cons,cw]
   rw[show (t.map fun b=>(b.toNat:Int))=byI t from rfl,h2]
   congr 1
   have:(nibV a*16+nibV b).toUInt8.toNat=nibV a*16+nibV b:=by simp; omega
   rw[this]
theorem jv:∀(s:List UInt8) (c:UInt8),c∈s→indexByte hexD c<0→dY s=none
 | [],_,h,_=>by simp at h
 | [_],_,_,_=>rfl
 | a::b::l,c,h,hc=>by
  have hn:nibO c=none:=by unfold nibO; rw[if_neg (by omega)]
  simp only[List.mem_cons]at h
  simp only[dY]
  rcases h with rfl | rfl | h
  ·rw[hn]
  ·rw[hn]
   cases nibO a <;> rfl
  ·rw[jv l c h hc]
   cases nibO a <;> cases nibO b <;> rfl
theorem mz:∀(s:List UInt8),s.length % 2=1→dY s=none
 | [],h=>by simp at h
 | [_],_=>rfl
 | a::b::l,h=>by
  simp only[dY]
  rw[mz l (by simp only[List.length_cons]at h; omega)]
  cases nibO a <;> cases nibO b <;> rfl
end Go.Plain
namespace Go.Proofs.YtjfkhlamjdbfkaaGreatDoor
open Go.Eng Go.Plain
set_option maxHeartbeats 32000000
set_option maxRecDepth 20000
attribute [local irreducible] WC RegS RegD SeqQ BlkQ ScoQ RegK CutK Sat SatN FnIs LoopQ aq OpIs
abbrev unR (o:Option (List UInt8)):AV :=.tup (.acons (.d (encB (o.getD []))) (.acons (.bool o.isSome) .anil))
theorem fQ {α:Type} (s:Nat) (enc:α→D):AVLe (.d (.sc nil_)) (.d (.arr s enc [])):=fun σ w X v h=>AVLe.empty_arr s enc σ w X v (AVLe.nil_empty σ w X v h)
theorem nU:FnIs Tryz.prog 105 [.d (strD [45])] [] (unR (cr [45])) []:=by
 refine aw aa Tryz.func105 rfl rfl rfl ?_;refine sR<|zD<|zW ?_;refine rC ?_;refine rQ (bK aa rfl rfl rfl) ?_;refine zO<|sR ?_;refine zD<|zT<|aN ?_
 exact⟨trivial,[],lg ⟨⟨_,rfl,AVLe.tup1 (fQ _ _) rfl⟩,rfl,trivial⟩ trivial⟩
theorem nW (s:List UInt8) (hs:s=[]):FnIs Tryz.prog 105 [.d (strD s)] [] (unR (cr s)) []:=by
 have h0:decide (s=[45])=false:=by rw[hs]; rfl
 have h1:decide ((s.length:Int)=0)=true:=by rw[hs]; rfl
 rw[show cr s=none by rw[hs]; rfl]
 refine aw aa Tryz.func105 rfl rfl rfl ?_;refine sR<|zD<|zW ?_;refine rC ?_;refine rQ (bK (a:=s) (b:=[45]) aa rfl rfl rfl) ?_;refine zG<|kS<|qR ?_;refine rC ?_;refine rQ (eD aa rfl rfl) ?_;refine zD ?_
 iterate 4 refine rS ?_
 refine rQ iT ?_;refine zO<|sR ?_;refine zD<|zT<|aN ?_
 exact⟨trivial,[],lg ⟨⟨_,rfl,AVLe.tup1 (fQ _ _) rfl⟩,rfl,trivial⟩ trivial⟩
theorem rA (s:List UInt8) (hs:s.length % 2=1):FnIs Tryz.prog 105 [.d (strD s)] [] (unR (if s=[45] then some [] else none)) []:=by
 by_cases h45:s=[45]
 ·rw[if_pos h45,h45]; exact nU
 have h0:decide (s=[45])=false:=dF h45
 have h1:decide ((s.length:Int)=0)=false:=dF (by omega)
 have h2:(!decide (((s.length % 2:Nat):Int)=0))=true:=by rw[hs]; rfl
 rw[if_neg h45]
 refine aw aa Tryz.func105 rfl rfl rfl ?_;refine sR<|zD<|zW ?_;refine rC ?_;refine rQ (bK (a:=s) (b:=[45]) aa rfl rfl rfl) ?_;refine zG<|kS<|qR ?_;refine rC ?_;refine rQ (eD aa rfl rfl) ?_;refine zD ?_;refine rO ?_;refine rC ?_;refine rO ?_;refine rQ (eD aa rfl rfl) ?_;refine rO ?_;refine rQ (bM (a:=s.length) (b:=2) aa rfl rfl rfl (by decide)) ?_;refine rO ?_;refine rC ?_;refine rQ iF ?_;refine zI<|sR ?_;refine zD<|zT<|aN ?_
 exact⟨trivial,[],lg ⟨⟨_,rfl,AVLe.tup1 (fQ _ _) rfl⟩,rfl,trivial⟩ trivial⟩
theorem rE (s:List UInt8) (m:Nat) (hm:s.length=2*m) (hpos:s≠[]) (hL:s.length≤1048576) (hbad:∃c∈s,Lib.indexByte hexD c<0):FnIs Tryz.prog 105 [.d (strD s)] [] (unR (cr s)) []:=by
 have h45:s≠[45]:=fun e=>by rw[e]at hm; simp at hm; omega
 have hlen:0<s.length:=List.length_pos_iff.2 hpos
 have h0:decide (s=[45])=false:=dF h45
 have h1:decide ((s.length:Int)=0)=false:=dF (by omega)
 have h2:(!decide (((s.length % 2:Nat):Int)=0))=false:=by rw[show s.length % 2=0 by omega]; rfl
 have hm2:m=s.length/2:=by omega
 have hwl:IntKind.i64.wrap ((s.length/2:Nat):Int)=((s.length/2:Nat):Int):=aP (by omega) (by omega)
 refine aw aa Tryz.func105 rfl rfl rfl ?_;refine sR<|zD<|zW ?_;refine rC ?_;refine rQ (bK (a:=s) (b:=[45]) aa rfl rfl rfl) ?_;refine zG<|kS<|qR ?_;refine rC ?_;refine rQ (eD aa rfl rfl) ?_;refine zD ?_;refine rO ?_;refine rC ?_;refine rO ?_;refine rQ (eD aa rfl rfl) ?_;refine rO ?_;refine rQ (bM (a:=s.length) (b:=2) aa rfl rfl rfl (by decide)) ?_;refine rO ?_;refine rC ?_;refine rQ iF ?_;refine zG<|kS<|sR ?_;refine rC ?_;refine rQ (eD aa rfl rfl) ?_;refine rQ (dq (a:=s.length) (b:=2) aa rfl rfl rfl (by decide) hwl) ?_;refine aG (dH (enc:=bt) (s:=1) (N:=s.length/2) aa 0 rfl rfl rfl rfl rfl rfl rfl (by omega) rfl) rfl ?_;refine rC<|zW ?_;refine rC ?_;refine aG (gN aa rfl rfl) rfl<|zP ?_
 refine wc_inv (fun i:Nat=>⟨[(23,.ptr 66 []),(4,.own 65 0 (s.length/2) 1 none),(0,.d (strD s))],[(65,some (.ds 5 1 true bt (uX m s i))),(66,some (.si (mkS s) i))],72,Tryz.f105.ntmps,64⟩) (fun i=>i≤s.length∧∀c∈s.take i,0≤Lib.indexByte hexD c) (fun i=>s.length-i) 0 [(65,some 192),(66,some 216)] ⟨Nat.zero_le _,by simp⟩
  (lg zj ⟨⟨rfl,rfl,_,rfl,aY.of_eq (by rw[kJ,hm2]; rfl)⟩,zR,trivial⟩) ?_
 intro i hi
 refine bH ?_
 obtain⟨hi,hdig⟩:=hi
 by_cases hlt:i<s.length
 ·obtain⟨c,hc⟩:∃c,s[i]?=some c:=⟨_,List.getElem?_eq_getElem hlt⟩
  have hib:FnIs Tryz.prog 68 [.d (strD hexD),.int .u8 c.toNat] [] (.int .i64 (Lib.indexByte hexD c)) []:=by
   have:=oN (l:=hexD) (c:=(c.toNat:Int))
   rwa [show ((c.toNat:Int)).toNat.toUInt8=c by simp]at this
  by_cases hneg:Lib.indexByte hexD c<0
  ·have hd:=dT hneg
   have hnone:cr s=none:=by rw[cr,if_neg h45,if_neg hpos,jv s c (List.mem_of_getElem? hc) hneg]
   rw[hnone]
   refine sR<|aG (fw rfl rfl (by omega)) rfl ?_;refine rC<|nQ ?_;refine wV<|kS<|zS ?_;refine zD<|nR ?_;refine zD ?_;refine rQ (ek (l:=s) (m:=i) aa rfl rfl rfl hc) ?_;refine rQ (am hib rfl rfl (aj (aj ab)) (.inl rfl) (fun _=>rfl)) ?_;refine rC<|nQ<|sR ?_;refine zD ?_;refine zI<|sR ?_;refine zD<|zT<|aN<|gB<|b8<|zB ?_
   exact⟨trivial,[],lg ⟨⟨_,rfl,AVLe.tup1 (fQ _ _) rfl⟩,rfl,trivial⟩ trivial⟩
  ·have hd:decide (Lib.indexByte hexD c<0)=false:=dF hneg
   obtain⟨x,hx1,hx2,hx3⟩:=kK hc hm
   replace hx2:(uX m s i)[(((i/2:Nat):Int)).toNat]?=some (x:Int):=by rw[Int.toNat_natCast]; exact hx2
   have hn16:=ei c
   have hwi:IntKind.i64.wrap ((i/2:Nat):Int)=((i/2:Nat):Int):=aP (by omega) (by omega)
   have hw1:IntKind.u8.wrap ((x:Int)*16)=((x*16:Nat):Int):=cm (a:=x*16) (by omega)
   have hw2:IntKind.u8.wrap (Lib.indexByte hexD c)=(nibV c:Int):=by
    rw[show Lib.indexByte hexD c=(nibV c:Int) by unfold nibV; omega]
    exact cm (by omega)
   have hw3:IntKind.u8.wrap (((x*16:Nat):Int)+(nibV c:Int))=((x*16+nibV c:Nat):Int):=cm (a:=x*16+nibV c) (by omega)
   have hlow:=fW (i:=i) hc (iY (by omega))
   refine sR<|aG (fw rfl rfl (by omega)) rfl ?_;refine rC<|nQ ?_;refine wV<|kS<|zS ?_;refine zD<|nR ?_;refine zD ?_;refine rQ (ek (l:=s) (m:=i) aa rfl rfl rfl hc) ?_;refine rQ (am hib rfl rfl (aj (aj ab)) (.inl rfl) (fun _=>rfl)) ?_;refine rC<|nQ<|sR ?_;refine zD ?_;refine zG<|kS<|ai ?_;refine zD ?_;refine rQ (dq (a:=i) (b:=2) aa rfl rfl rfl (by decide) hwi) ?_;refine zD ?_;refine rQ (dq (a:=i) (b:=2) aa rfl rfl rfl (by decide) hwi) ?_;refine rQ (bc aa rfl rfl rfl rfl rfl (by omega) (by omega)) ?_;refine rQ (bF aa rfl rfl ⟨rfl,(x:Int),hx2,_,rfl,rfl⟩ rfl) ?_;refine rQ (kM (m:=((x*16:Nat):Int)) aa rfl rfl hw1) ?_;refine rC ?_;refine rQ (bA (m:=(nibV c:Int)) aa rfl rfl rfl hw2) ?_;refine rQ (eK (m:=((x*16+nibV c:Nat):Int)) aa rfl rfl hw3) ?_;refine rQ (bc aa rfl rfl rfl rfl rfl (by omega) (by omega)) ?_;refine aR (aA aa rfl rfl rfl ⟨rfl,(x:Int),((x*16+nibV c:Nat):Int),hx2,⟨rfl,rfl,rfl⟩,rfl⟩ rfl)<|ay<|gh ?_
   exact aL (i+1) [] ⟨hlt,fun b hb=>by rw[List.take_add_one,hc]at hb; rcases List.mem_append.1 hb with hb | hb; exact hdig b hb; rw[show b=c by simpa using hb]; omega⟩ (by omega) (lg zj ⟨⟨rfl,rfl,_,rfl,aY.of_eq (congrArg (Row.ds 5 1 true bt) hx3)⟩,⟨rfl,rfl,_,rfl,aY.of_eq (by rw[hlow]; rfl)⟩,trivial⟩)
 ·have he:i=s.length:=by omega
  obtain⟨c,h3,h4⟩:=hbad
  have:=hdig c (by rw[he,List.take_length]; exact h3)
  omega
theorem rz (s:List UInt8) (m:Nat) (hm:s.length=2*m) (hpos:s≠[]) (hL:s.length≤1048576) (hall:∀c∈s,0≤Lib.indexByte hexD c):FnIs Tryz.prog 105 [.d (strD s)] [] (.tup (.acons (.own 64 0 (s.length/2) 1 none) (.acons (.bool true) .anil))) [(64,.ds 5 1 true bt (cw s))]:=by
 have h45:s≠[45]:=fun e=>by rw[e]at hm; simp at hm; omega
 have hlen:0<s.length:=List.length_pos_iff.2 hpos
 have h0:decide (s=[45])=false:=dF h45
 have h1:decide ((s.length:Int)=0)=false:=dF (by omega)
 have h2:(!decide (((s.length % 2:Nat):Int)=0))=false:=by rw[show s.length % 2=0 by omega]; rfl
 have hm2:m=s.length/2:=by omega
 have hrep:m-(s.length+1)/2=0:=by omega
 have hwl:IntKind.i64.wrap ((s.length/2:Nat):Int)=((s.length/2:Nat):Int):=aP (by omega) (by omega)
 refine aw aa Tryz.func105 rfl rfl rfl ?_;refine sR<|zD<|zW ?_;refine rC ?_;refine rQ (bK (a:=s) (b:=[45]) aa rfl rfl rfl) ?_;refine zG<|kS<|qR ?_;refine rC ?_;refine rQ (eD aa rfl rfl) ?_;refine zD ?_;refine rO ?_;refine rC ?_;refine rO ?_;refine rQ (eD aa rfl rfl) ?_;refine rO ?_;refine rQ (bM (a:=s.length) (b:=2) aa rfl rfl rfl (by decide)) ?_;refine rO ?_;refine rC ?_;refine rQ iF ?_;refine zG<|kS<|sR ?_;refine rC ?_;refine rQ (eD aa rfl rfl) ?_;refine rQ (dq (a:=s.length) (b:=2) aa rfl rfl rfl (by decide) hwl) ?_;refine aG (dH (enc:=bt) (s:=1) (N:=s.length/2) aa 0 rfl rfl rfl rfl rfl rfl rfl (by omega) rfl) rfl ?_;refine rC<|zW ?_;refine rC ?_;refine aG (gN aa rfl rfl) rfl<|zP ?_
 refine wc_inv (fun i:Nat=>⟨[(23,.ptr 66 []),(4,.own 65 0 (s.length/2) 1 none),(0,.d (strD s))],[(65,some (.ds 5 1 true bt (uX m s i))),(66,some (.si (mkS s) i))],72,Tryz.f105.ntmps,64⟩) (fun i=>i≤s.length∧∀c∈s.take i,0≤Lib.indexByte hexD c) (fun i=>s.length-i) 0 [(65,some 192),(66,some 216)] ⟨Nat.zero_le _,by simp⟩
  (lg zj ⟨⟨rfl,rfl,_,rfl,aY.of_eq (by rw[kJ,hm2]; rfl)⟩,zR,trivial⟩) ?_
 intro i hi
 refine bH ?_
 obtain⟨hi,hdig⟩:=hi
 by_cases hlt:i<s.length
 ·obtain⟨c,hc⟩:∃c,s[i]?=some c:=⟨_,List.getElem?_eq_getElem hlt⟩
  have hib:FnIs Tryz.prog 68 [.d (strD hexD),.int .u8 c.toNat] [] (.int .i64 (Lib.indexByte hexD c)) []:=by
   have:=oN (l:=hexD) (c:=(c.toNat:Int))
   rwa [show ((c.toNat:Int)).toNat.toUInt8=c by simp]at this
  have hneg:¬Lib.indexByte hexD c<0:=by have:=hall c (List.mem_of_getElem? hc); omega
  have hd:decide (Lib.indexByte hexD c<0)=false:=dF hneg
  obtain⟨x,hx1,hx2,hx3⟩:=kK hc hm
  replace hx2:(uX m s i)[(((i/2:Nat):Int)).toNat]?=some (x:Int):=by rw[Int.toNat_natCast]; exact hx2
  have hn16:=ei c
  have hwi:IntKind.i64.wrap ((i/2:Nat):Int)=((i/2:Nat):Int):=aP (by omega) (by omega)
  have hw1:IntKind.u8.wrap ((x:Int)*16)=((x*16:Nat):Int):=cm (a:=x*16) (by omega)
  have hw2:IntKind.u8.wrap (Lib.indexByte hexD c)=(nibV c:Int):=by
   rw[show Lib.indexByte hexD c=(nibV c:Int) by unfold nibV; omega]
   exact cm (by omega)
  have hw3:IntKind.u8.wrap (((x*16:Nat):Int)+(nibV c:Int))=((x*16+nibV c:Nat):Int):=cm (a:=x*16+nibV c) (by omega)
  have hlow:=fW (i:=i) hc (iY (by omega))
  refine sR<|aG (fw rfl rfl (by omega)) rfl ?_;refine rC<|nQ ?_;refine wV<|kS<|zS ?_;refine zD<|nR ?_;refine zD ?_;refine rQ (ek (l:=s) (m:=i) aa rfl rfl rfl hc) ?_;refine rQ (am hib rfl rfl (aj (aj ab)) (.inl rfl) (fun _=>rfl)) ?_;refine rC<|nQ<|sR ?_;refine zD ?_;refine zG<|kS<|ai ?_;refine zD ?_;refine rQ (dq (a:=i) (b:=2) aa rfl rfl rfl (by decide) hwi) ?_;refine zD ?_;refine rQ (dq (a:=i) (b:=2) aa rfl rfl rfl (by decide) hwi) ?_;refine rQ (bc aa rfl rfl rfl rfl rfl (by omega) (by omega)) ?_;refine rQ (bF aa rfl rfl ⟨rfl,(x:Int),hx2,_,rfl,rfl⟩ rfl) ?_;refine rQ (kM (m:=((x*16:Nat):Int)) aa rfl rfl hw1) ?_;refine rC ?_;refine rQ (bA (m:=(nibV c:Int)) aa rfl rfl rfl hw2) ?_;refine rQ (eK (m:=((x*16+nibV c:Nat):Int)) aa rfl rfl hw3) ?_;refine rQ (bc aa rfl rfl rfl rfl rfl (by omega) (by omega)) ?_;refine aR (aA aa rfl rfl rfl ⟨rfl,(x:Int),((x*16+nibV c:Nat):Int),hx2,⟨rfl,rfl,rfl⟩,rfl⟩ rfl)<|ay<|gh ?_
  exact aL (i+1) [] ⟨hlt,fun b hb=>by rw[List.take_add_one,hc]at hb; rcases List.mem_append.1 hb with hb | hb; exact hdig b hb; rw[show b=c by simpa using hb]; omega⟩ (by omega) (lg zj ⟨⟨rfl,rfl,_,rfl,aY.of_eq (congrArg (Row.ds 5 1 true bt) hx3)⟩,⟨rfl,rfl,_,rfl,aY.of_eq (by rw[hlow]; rfl)⟩,trivial⟩)
 ·have he:i=s.length:=by omega
  subst he
  refine sR<|rQ (oA rfl rfl (by omega)) ?_;refine rC<|nQ ?_;refine wG<|cz<|eZ<|gq<|fj<|aK<|sR ?_;refine zU<|zT ?_
  exact⟨trivial,[(64,some 65)],lg zV ⟨⟨rfl,rfl,_,rfl,aY.of_eq (by simp only[uX,List.take_length,hrep]; simp; rfl)⟩,trivial⟩⟩
theorem sU (s:List UInt8) (hL:s.length≤1048576):FnIs Tryz.prog 105 [.d (strD s)] [] (unR (cr s)) []:=by
 by_cases hpos:s=[]
 ·exact nW s hpos
 by_cases hodd:s.length % 2=1
 ·have:=rA s hodd
  rwa [show cr s=if s=[45] then some [] else none by rw[cr,if_neg hpos,mz s hodd]]
 have hm:s.length=2*(s.length/2):=by omega
 by_cases hall:∀c∈s,0≤Lib.indexByte hexD c
 ·obtain⟨t,h1,h2⟩:=fO s (by omega) hall
  have h45:s≠[45]:=fun e=>by rw[e]at hodd; simp at hodd
  have hu:cr s=some t:=by rw[cr,if_neg h45,if_neg hpos,h1]
  have:=rz s _ hm hpos hL hall
  rw[hu]
  rw[←h2]at this
  exact this.freeze_out 64 _ rfl (Frz.tup (.cons (Frz.own (by rw[show (some t).getD []=t from rfl,h2,pZ]; omega)) (.cons (.refl _) .nil))) trivial
 ·have hbad:∃c∈s,Lib.indexByte hexD c<0:=by
   simp only[Classical.not_forall]at hall
   obtain⟨c,h1,h2⟩:=hall
   exact⟨c,h1,by omega⟩
  exact rE s _ hm hpos hL hbad
end Go.Proofs.YtjfkhlamjdbfkaaGreatDoor
namespace Go.Plain
open Go.Eng Go.Lib
theorem jO:∀(k u:Nat),u<10 ^ (k+1)→(decDigits u).length≤k+1
 | 0,u,h=>by
  rw[decDigits,dif_pos (by simpa using h)]
  simp
 | k+1,u,h=>by
  rw[decDigits]
  split
  ·simp
  ·have h2:u/10<10 ^ (k+1):=by
    rw[Nat.div_lt_iff_lt_mul (by decide),←Nat.pow_succ]
    exact h
   have:=jO k (u/10) h2
   simp only[List.length_append,List.length_cons,List.length_nil]
   omega
theorem b9 {n:Int} (h0 : -9223372036854775808≤n) (h1:n≤9223372036854775807):(itoa n).length≤20:=by
 rw[itoa]
 split
 ·have:=jO 18 n.natAbs (by omega)
  simp only[List.length_cons]
  omega
 ·have:=jO 18 n.toNat (by omega)
  omega
theorem dL (l:List UInt8):(hexP l).length≤2*l.length+1:=by
 rw[hexP]
 split
 ·simp
 ·rw[dM]; omega
theorem lz {o:POp} (h:o.Ok):(bg o).length≤50+2*o.data.length:=by
 obtain⟨⟨k0,k1⟩,i0,i1⟩:=h
 have h1:=b9 i0 i1
 have h2:=b9 (n:=o.kind) (by omega) (by omega)
 have h3:=dL o.data
 rw[bg]
 split
 ·simp only[List.length_append,List.length_cons,eC,List.length_nil]; omega
 ·split
  ·simp only[List.length_append,List.length_cons,cB,List.length_nil]; omega
  ·split
   ·simp only[dX,List.length_cons,List.length_nil]; omega
   ·simp only[List.length_append,List.length_cons,sOp,List.length_nil]; omega
theorem qP {D:Nat}:∀(p:List POp),(∀o∈p,o.Ok∧o.data.length≤D)→(opsT p).length≤(51+2*D)*p.length
 | [],_=>by simp[opsT]
 | o::p,h=>by
  have ih:=qP p fun x hx=>h x (by simp[hx])
  obtain⟨h1,h2⟩:=h o (by simp)
  have h3:=lz h1
  simp only[opsT,List.flatMap_cons,List.length_append,List.length_cons,List.length_nil]at ih ⊢
  rw[Nat.mul_add]
  omega
theorem nY {D N:Nat}:∀(l:List (List POp)),(∀p∈l,p.length≤N∧∀o∈p,o.Ok∧o.data.length≤D)→(bL l).length≤(7+(51+2*D)*N)*l.length
 | [],_=>by simp[bL]
 | p::l,h=>by
  have ih:=nY l fun x hx=>h x (by simp[hx])
  obtain⟨h1,h2⟩:=h p (by simp)
  have h3:=qP p h2
  have h4:(51+2*D)*p.length≤(51+2*D)*N:=Nat.mul_le_mul_left _ h1
  simp only[bL,List.flatMap_cons,List.length_append,List.length_cons,aF,List.length_nil]at ih ⊢
  rw[Nat.mul_add]
  omega
end Go.Plain
namespace Go.Proofs.YtjfkhlamjdbfkaaGreatDoor
open Go.Eng Go.Plain
set_option maxHeartbeats 32000000
set_option maxRecDepth 20000
attribute [local irreducible] WC RegS RegD SeqQ BlkQ ScoQ RegK CutK Sat SatN FnIs LoopQ aq OpIs
theorem iQ (l:List UInt8) (b:Bool) (h:decide (l=[])=b):decide (((byI l).length:Int)=0)=b:=by
 rw[←h]
 cases l with
 | nil=>rfl
 | cons a l=>simp[byI]; omega
theorem se (o:POp) (hok:o.Ok) (hL:o.data.length≤524288) (hk:o.kind=1) (hd0:o.data=[]):FnIs Tryz.prog 63 [.d (bv o)] [] (.d (strD (bg o))) []:=by
 obtain⟨⟨kk0,kk1⟩,h0,h1⟩:=hok
 have k0 : -9223372036854775808≤o.kind:=by omega
 have k1:o.kind≤9223372036854775807:=by omega
 have hwk:IntKind.i64.wrap o.kind=o.kind:=aP (by omega) (by omega)
 have l1:=b9 h0 h1
 have l2:=b9 k0 k1
 have l3:=dL o.data
 have hk1:decide (o.kind=1)=true:=dT (by omega)
 have hd:=iQ o.data true (dT hd0)
 rw[show bg o=eC++[32]++Lib.itoa o.index by rw[bg,if_pos ⟨hk,hd0⟩]; simp]
 refine aw aa Tryz.func63 rfl rfl rfl ?_;refine sR<|rN ?_;refine rC<|nR ?_;refine rC ?_;refine rQ iB ?_;refine rQ (am (dx h0 h1) rfl rfl (aj ab) (.inl rfl) (fun _=>rfl)) ?_;refine rC<|nQ<|zS ?_;refine rC ?_;refine rQ iB ?_;refine zD ?_;refine rO ?_;refine rC ?_;refine rO ?_;refine rQ iB ?_;refine rO ?_;refine rQ iE ?_;refine rO ?_;refine rC ?_;refine rQ iT ?_;refine rC ?_;refine zI<|sR ?_;refine rC ?_;refine rQ (aT (a:=eC++[32]) (b:=Lib.itoa o.index) rfl rfl (by simp[eC]; omega) rfl) ?_;refine rC<|zT<|zB ?_
 exact⟨trivial,[],lf⟩
theorem qc (o:POp) (hok:o.Ok) (hL:o.data.length≤524288) (hk:o.kind=2):FnIs Tryz.prog 63 [.d (bv o)] [] (.d (strD (bg o))) []:=by
 obtain⟨⟨kk0,kk1⟩,h0,h1⟩:=hok
 have k0 : -9223372036854775808≤o.kind:=by omega
 have k1:o.kind≤9223372036854775807:=by omega
 have hwk:IntKind.i64.wrap o.kind=o.kind:=aP (by omega) (by omega)
 have l1:=b9 h0 h1
 have l2:=b9 k0 k1
 have l3:=dL o.data
 have hk1:decide (o.kind=1)=false:=dF (by omega)
 have hk2:decide (o.kind=2)=true:=dT (by omega)
 rw[show bg o=cB++[32]++Lib.itoa o.index++[32]++hexP o.data by rw[bg,if_neg (fun h=>by have:=h.1; omega),if_pos hk]; simp]
 refine aw aa Tryz.func63 rfl rfl rfl ?_;refine sR<|rN ?_;refine rC<|nR ?_;refine rC ?_;refine rQ iB ?_;refine rQ (am (dx h0 h1) rfl rfl (aj ab) (.inl rfl) (fun _=>rfl)) ?_;refine rC<|nQ<|zS ?_;refine rC ?_;refine rQ iB ?_;refine zD ?_
 iterate 4 refine rS ?_
 refine rQ iF ?_;refine rC ?_;refine zJ<|sR ?_;refine rC ?_;refine rQ iB ?_;refine zD ?_;refine zI<|sR ?_;refine rC ?_;refine rQ (aT (a:=cB++[32]) (b:=Lib.itoa o.index) rfl rfl (by simp[cB]; omega) rfl) ?_;refine rQ (aT (a:=cB++[32]++Lib.itoa o.index) (b:=[32]) rfl rfl (by simp[cB]; omega) rfl) ?_;refine rC ?_;refine rQ iB ?_;refine rQ (am (lM o.data hL) rfl rfl (aj ab) (.inl rfl) (fun _=>rfl)) ?_;refine rQ (aT (a:=cB++[32]++Lib.itoa o.index++[32]) (b:=hexP o.data) rfl rfl (by simp[cB]; omega) rfl) ?_;refine rC<|zT<|zB ?_
 exact⟨trivial,[],lf⟩
theorem qd (o:POp) (hok:o.Ok) (hL:o.data.length≤524288) (hk:o.kind=3) (hi0:o.index=0) (hd0:o.data=[]):FnIs Tryz.prog 63 [.d (bv o)] [] (.d (strD (bg o))) []:=by
 obtain⟨⟨kk0,kk1⟩,h0,h1⟩:=hok
 have k0 : -9223372036854775808≤o.kind:=by omega
 have k1:o.kind≤9223372036854775807:=by omega
 have hwk:IntKind.i64.wrap o.kind=o.kind:=aP (by omega) (by omega)
 have l1:=b9 h0 h1
 have l2:=b9 k0 k1
 have l3:=dL o.data
 have hk1:decide (o.kind=1)=false:=dF (by omega)
 have hk2:decide (o.kind=2)=false:=dF (by omega)
 have hk3:decide (o.kind=3)=true:=dT (by omega)
 have hd:=iQ o.data true (dT hd0)
 have hi:decide (o.index=0)=true:=dT hi0
 rw[show bg o=dX by rw[bg,if_neg (fun h=>by have:=h.1; omega),if_neg (by omega),if_pos ⟨hk,hi0,hd0⟩]]
 refine aw aa Tryz.func63 rfl rfl rfl ?_;refine sR<|rN ?_;refine rC<|nR ?_;refine rC ?_;refine rQ iB ?_;refine rQ (am (dx h0 h1) rfl rfl (aj ab) (.inl rfl) (fun _=>rfl)) ?_;refine rC<|nQ<|zS ?_;refine rC ?_;refine rQ iB ?_;refine zD ?_
 iterate 4 refine rS ?_
 refine rQ iF ?_;refine rC ?_;refine zJ<|sR ?_;refine rC ?_;refine rQ iB ?_;refine zD ?_;refine zG<|sR ?_;refine rC ?_;refine rQ iB ?_;refine zD ?_;refine rO ?_;refine rC ?_;refine rO ?_;refine rQ iB ?_;refine rO ?_;refine rC ?_;refine rQ iT ?_;refine rC ?_;refine rO ?_;refine rC ?_;refine rO ?_;refine rQ iB ?_;refine rO ?_;refine rQ iE ?_;refine rO ?_;refine rC ?_;refine rQ iT ?_;refine rC ?_;refine zI<|sR ?_;refine rC<|zT<|zB ?_
 exact⟨trivial,[],lf⟩
theorem ua (o:POp) (hok:o.Ok) (hL:o.data.length≤524288) (hk:o.kind=1) (hd0:¬o.data=[]):FnIs Tryz.prog 63 [.d (bv o)] [] (.d (strD (bg o))) []:=by
 obtain⟨⟨kk0,kk1⟩,h0,h1⟩:=hok
 have k0 : -9223372036854775808≤o.kind:=by omega
 have k1:o.kind≤9223372036854775807:=by omega
 have hwk:IntKind.i64.wrap o.kind=o.kind:=aP (by omega) (by omega)
 have l1:=b9 h0 h1
 have l2:=b9 k0 k1
 have l3:=dL o.data
 have hk1:decide (o.kind=1)=true:=dT (by omega)
 have hk2:decide (o.kind=2)=false:=dF (by omega)
 have hk3:decide (o.kind=3)=false:=dF (by omega)
 have hd:=iQ o.data false (dF hd0)
 rw[show bg o=sOp++[32]++Lib.itoa o.kind++[32]++Lib.itoa o.index++[32]++hexP o.data by rw[bg,if_neg (fun h=>hd0 h.2),if_neg (by omega),if_neg (fun h=>by have:=h.1; omega)]; simp]
 refine aw aa Tryz.func63 rfl rfl rfl ?_;refine sR<|rN ?_;refine rC<|nR ?_;refine rC ?_;refine rQ iB ?_;refine rQ (am (dx h0 h1) rfl rfl (aj ab) (.inl rfl) (fun _=>rfl)) ?_;refine rC<|nQ<|zS ?_;refine rC ?_;refine rQ iB ?_;refine zD ?_;refine rO ?_;refine rC ?_;refine rO ?_;refine rQ iB ?_;refine rO ?_;refine rQ iE ?_;refine rO ?_;refine rC ?_;refine rQ iT ?_;refine rC ?_;refine zG<|sR ?_;refine rC ?_;refine rQ iB ?_;refine zD ?_;refine zG<|sR ?_;refine rC ?_;refine rQ iB ?_;refine zD ?_
 iterate 3 refine rS ?_
 refine rQ iF ?_;refine rC ?_;iterate 4 refine rT ?_
 refine rQ iG ?_;refine rC ?_;refine zJ<|aS<|zC<|bD ?_;refine aH (by kernel_rfl) ?_;refine dC [1] [] ?_;refine dQ [45] [64] iB ?_;refine dQ [46] [] (bA (m:=o.kind) aa rfl rfl rfl hwk) ?_;refine dQ [47] [] (am (dx k0 k1) rfl rfl (aj ab) (.inl rfl) (fun _=>rfl)) ?_;refine dQ [48] [] (aT (a:=sOp++[32]) (b:=Lib.itoa o.kind) rfl rfl (by simp[sOp]; omega) rfl) ?_;refine dQ [49] [] (aT (a:=sOp++[32]++Lib.itoa o.kind) (b:=[32]) rfl rfl (by simp[sOp]; omega) rfl) ?_;refine dC [3] [] ?_;refine dQ [50,51] [] (aT (a:=sOp++[32]++Lib.itoa o.kind++[32]) (b:=Lib.itoa o.index) rfl rfl (by simp[sOp]; omega) rfl) ?_;refine dQ [52] [] (aT (a:=sOp++[32]++Lib.itoa o.kind++[32]++Lib.itoa o.index) (b:=[32]) rfl rfl (by simp[sOp]; omega) rfl) ?_;refine dC [1] [] ?_;refine dQ [54] [64] iB ?_;refine dQ [55] [] (am (lM o.data hL) rfl rfl (aj ab) (.inl rfl) (fun _=>rfl)) ?_;refine dQ [53,56] [] (aT (a:=sOp++[32]++Lib.itoa o.kind++[32]++Lib.itoa o.index++[32]) (b:=hexP o.data) rfl rfl (by simp[sOp]; omega) rfl) ?_;refine dC [57] [] ?_;refine aB (by kernel_rfl)<|aK<|bO ?_
 exact⟨trivial,[],lf⟩
theorem tZ (o:POp) (hok:o.Ok) (hL:o.data.length≤524288) (hk1:¬o.kind=1) (hk2:¬o.kind=2) (hk3:¬o.kind=3):FnIs Tryz.prog 63 [.d (bv o)] [] (.d (strD (bg o))) []:=by
 obtain⟨⟨kk0,kk1⟩,h0,h1⟩:=hok
 have k0 : -9223372036854775808≤o.kind:=by omega
 have k1:o.kind≤9223372036854775807:=by omega
 have hwk:IntKind.i64.wrap o.kind=o.kind:=aP (by omega) (by omega)
 have l1:=b9 h0 h1
 have l2:=b9 k0 k1
 have l3:=dL o.data
 have hk1:decide (o.kind=1)=false:=dF (by omega)
 have hk2:decide (o.kind=2)=false:=dF (by omega)
 have hk3:decide (o.kind=3)=false:=dF (by omega)
 rw[show bg o=sOp++[32]++Lib.itoa o.kind++[32]++Lib.itoa o.index++[32]++hexP o.data by rw[bg,if_neg (fun h=>by have:=h.1; omega),if_neg (by omega),if_neg (fun h=>by have:=h.1; omega)]; simp]
 refine aw aa Tryz.func63 rfl rfl rfl ?_;refine sR<|rN ?_;refine rC<|nR ?_;refine rC ?_;refine rQ iB ?_;refine rQ (am (dx h0 h1) rfl rfl (aj ab) (.inl rfl) (fun _=>rfl)) ?_;refine rC<|nQ<|zS ?_;refine rC ?_;refine rQ iB ?_;refine zD ?_
 iterate 4 refine rS ?_
 refine rQ iF ?_;refine rC ?_;refine zJ<|sR ?_;refine rC ?_;refine rQ iB ?_;refine zD ?_;refine zG<|sR ?_;refine rC ?_;refine rQ iB ?_;refine zD ?_
 iterate 3 refine rS ?_
 refine rQ iF ?_;refine rC ?_;iterate 4 refine rT ?_
 refine rQ iG ?_;refine rC ?_;refine zJ<|aS<|zC<|bD ?_;refine aH (by kernel_rfl) ?_;refine dC [1] [] ?_;refine dQ [45] [64] iB ?_;refine dQ [46] [] (bA (m:=o.kind) aa rfl rfl rfl hwk) ?_;refine dQ [47] [] (am (dx k0 k1) rfl rfl (aj ab) (.inl rfl) (fun _=>rfl)) ?_;refine dQ [48] [] (aT (a:=sOp++[32]) (b:=Lib.itoa o.kind) rfl rfl (by simp[sOp]; omega) rfl) ?_;refine dQ [49] [] (aT (a:=sOp++[32]++Lib.itoa o.kind) (b:=[32]) rfl rfl (by simp[sOp]; omega) rfl) ?_;refine dC [3] [] ?_;refine dQ [50,51] [] (aT (a:=sOp++[32]++Lib.itoa o.kind++[32]) (b:=Lib.itoa o.index) rfl rfl (by simp[sOp]; omega) rfl) ?_;refine dQ [52] [] (aT (a:=sOp++[32]++Lib.itoa o.kind++[32]++Lib.itoa o.index) (b:=[32]) rfl rfl (by simp[sOp]; omega) rfl) ?_;refine dC [1] [] ?_;refine dQ [54] [64] iB ?_;refine dQ [55] [] (am (lM o.data hL) rfl rfl (aj ab) (.inl rfl) (fun _=>rfl)) ?_;refine dQ [53,56] [] (aT (a:=sOp++[32]++Lib.itoa o.kind++[32]++Lib.itoa o.index++[32]) (b:=hexP o.data) rfl rfl (by simp[sOp]; omega) rfl) ?_;refine dC [57] [] ?_;refine aB (by kernel_rfl)<|aK<|bO ?_
 exact⟨trivial,[],lf⟩
theorem tY (o:POp) (hok:o.Ok) (hL:o.data.length≤524288) (hk:o.kind=3) (hi0:¬o.index=0):FnIs Tryz.prog 63 [.d (bv o)] [] (.d (strD (bg o))) []:=by
 obtain⟨⟨kk0,kk1⟩,h0,h1⟩:=hok
 have k0 : -9223372036854775808≤o.kind:=by omega
 have k1:o.kind≤9223372036854775807:=by omega
 have hwk:IntKind.i64.wrap o.kind=o.kind:=aP (by omega) (by omega)
 have l1:=b9 h0 h1
 have l2:=b9 k0 k1
 have l3:=dL o.data
 have hk1:decide (o.kind=1)=false:=dF (by omega)
 have hk2:decide (o.kind=2)=false:=dF (by omega)
 have hk3:decide (o.kind=3)=true:=dT (by omega)
 have hi:decide (o.index=0)=false:=dF hi0
 rw[show bg o=sOp++[32]++Lib.itoa o.kind++[32]++Lib.itoa o.index++[32]++hexP o.data by rw[bg,if_neg (fun h=>by have:=h.1; omega),if_neg (by omega),if_neg (fun h=>hi0 h.2.1)]; simp]
 refine aw aa Tryz.func63 rfl rfl rfl ?_;refine sR<|rN ?_;refine rC<|nR ?_;refine rC ?_;refine rQ iB ?_;refine rQ (am (dx h0 h1) rfl rfl (aj ab) (.inl rfl) (fun _=>rfl)) ?_;refine rC<|nQ<|zS ?_;refine rC ?_;refine rQ iB ?_;refine zD ?_
 iterate 4 refine rS ?_
 refine rQ iF ?_;refine rC ?_;refine zJ<|sR ?_;refine rC ?_;refine rQ iB ?_;refine zD ?_;refine zG<|sR ?_;refine rC ?_;refine rQ iB ?_;refine zD ?_;refine rO ?_;refine rC ?_;refine rO ?_;refine rQ iB ?_;refine rO ?_;refine rC ?_;refine rQ iT ?_;refine rC ?_;iterate 4 refine rS ?_
 refine rQ iF ?_;refine rC ?_;refine zJ<|aS<|zC<|bD ?_;refine aH (by kernel_rfl) ?_;refine dC [1] [] ?_;refine dQ [45] [64] iB ?_;refine dQ [46] [] (bA (m:=o.kind) aa rfl rfl rfl hwk) ?_;refine dQ [47] [] (am (dx k0 k1) rfl rfl (aj ab) (.inl rfl) (fun _=>rfl)) ?_;refine dQ [48] [] (aT (a:=sOp++[32]) (b:=Lib.itoa o.kind) rfl rfl (by simp[sOp]; omega) rfl) ?_;refine dQ [49] [] (aT (a:=sOp++[32]++Lib.itoa o.kind) (b:=[32]) rfl rfl (by simp[sOp]; omega) rfl) ?_;refine dC [3] [] ?_;refine dQ [50,51] [] (aT (a:=sOp++[32]++Lib.itoa o.kind++[32]) (b:=Lib.itoa o.index) rfl rfl (by simp[sOp]; omega) rfl) ?_;refine dQ [52] [] (aT (a:=sOp++[32]++Lib.itoa o.kind++[32]++Lib.itoa o.index) (b:=[32]) rfl rfl (by simp[sOp]; omega) rfl) ?_;refine dC [1] [] ?_;refine dQ [54] [64] iB ?_;refine dQ [55] [] (am (lM o.data hL) rfl rfl (aj ab) (.inl rfl) (fun _=>rfl)) ?_;refine dQ [53,56] [] (aT (a:=sOp++[32]++Lib.itoa o.kind++[32]++Lib.itoa o.index++[32]) (b:=hexP o.data) rfl rfl (by simp[sOp]; omega) rfl) ?_;refine dC [57] [] ?_;refine aB (by kernel_rfl)<|aK<|bO ?_
 exact⟨trivial,[],lf⟩
theorem tX (o:POp) (hok:o.Ok) (hL:o.data.length≤524288) (hk:o.kind=3) (hi0:o.index=0) (hd0:¬o.data=[]):FnIs Tryz.prog 63 [.d (bv o)] [] (.d (strD (bg o))) []:=by
 obtain⟨⟨kk0,kk1⟩,h0,h1⟩:=hok
 have k0 : -9223372036854775808≤o.kind:=by omega
 have k1:o.kind≤9223372036854775807:=by omega
 have hwk:IntKind.i64.wrap o.kind=o.kind:=aP (by omega) (by omega)
 have l1:=b9 h0 h1
 have l2:=b9 k0 k1
 have l3:=dL o.data
 have hk1:decide (o.kind=1)=false:=dF (by omega)
 have hk2:decide (o.kind=2)=false:=dF (by omega)
 have hk3:decide (o.kind=3)=true:=dT (by omega)
 have hi:decide (o.index=0)=true:=dT hi0
 have hd:=iQ o.data false (dF hd0)
 rw[show bg o=sOp++[32]++Lib.itoa o.kind++[32]++Lib.itoa o.index++[32]++hexP o.data by rw[bg,if_neg (fun h=>by have:=h.1; omega),if_neg (by omega),if_neg (fun h=>hd0 h.2.2)]; simp]
 refine aw aa Tryz.func63 rfl rfl rfl ?_;refine sR<|rN ?_;refine rC<|nR ?_;refine rC ?_;refine rQ iB ?_;refine rQ (am (dx h0 h1) rfl rfl (aj ab) (.inl rfl) (fun _=>rfl)) ?_;refine rC<|nQ<|zS ?_;refine rC ?_;refine rQ iB ?_;refine zD ?_
 iterate 4 refine rS ?_
 refine rQ iF ?_;refine rC ?_;refine zJ<|sR ?_;refine rC ?_;refine rQ iB ?_;refine zD ?_;refine zG<|sR ?_;refine rC ?_;refine rQ iB ?_;refine zD ?_;refine rO ?_;refine rC ?_;refine rO ?_;refine rQ iB ?_;refine rO ?_;refine rC ?_;refine rQ iT ?_;refine rC ?_;refine rO ?_;refine rC ?_;refine rO ?_;refine rQ iB ?_;refine rO ?_;refine rQ iE ?_;refine rO ?_;refine rC ?_;refine rQ iT ?_;refine rC ?_;refine zG<|aS<|zC<|bD ?_;refine aH (by kernel_rfl) ?_;refine dC [1] [] ?_;refine dQ [45] [64] iB ?_;refine dQ [46] [] (bA (m:=o.kind) aa rfl rfl rfl hwk) ?_;refine dQ [47] [] (am (dx k0 k1) rfl rfl (aj ab) (.inl rfl) (fun _=>rfl)) ?_;refine dQ [48] [] (aT (a:=sOp++[32]) (b:=Lib.itoa o.kind) rfl rfl (by simp[sOp]; omega) rfl) ?_;refine dQ [49] [] (aT (a:=sOp++[32]++Lib.itoa o.kind) (b:=[32]) rfl rfl (by simp[sOp]; omega) rfl) ?_;refine dC [3] [] ?_;refine dQ [50,51] [] (aT (a:=sOp++[32]++Lib.itoa o.kind++[32]) (b:=Lib.itoa o.index) rfl rfl (by simp[sOp]; omega) rfl) ?_;refine dQ [52] [] (aT (a:=sOp++[32]++Lib.itoa o.kind++[32]++Lib.itoa o.index) (b:=[32]) rfl rfl (by simp[sOp]; omega) rfl) ?_;refine dC [1] [] ?_;refine dQ [54] [64] iB ?_;refine dQ [55] [] (am (lM o.data hL) rfl rfl (aj ab) (.inl rfl) (fun _=>rfl)) ?_;refine dQ [53,56] [] (aT (a:=sOp++[32]++Lib.itoa o.kind++[32]++Lib.itoa o.index++[32]) (b:=hexP o.data) rfl rfl (by simp[sOp]; omega) rfl) ?_;refine dC [57] [] ?_;refine aB (by kernel_rfl)<|aK<|bO ?_
 exact⟨trivial,[],lf⟩
theorem nv (o:POp) (hok:o.Ok) (hL:o.data.length≤524288):FnIs Tryz.prog 63 [.d (bv o)] [] (.d (strD (bg o))) []:=by
 by_cases k1:o.kind=1
 ·by_cases hd:o.data=[]
  ·exact se o hok hL k1 hd
  ·exact ua o hok hL k1 hd
 by_cases k2:o.kind=2
 ·exact qc o hok hL k2
 by_cases k3:o.kind=3
 ·by_cases hi:o.index=0
  ·by_cases hd:o.data=[]
   ·exact qd o hok hL k3 hi hd
   ·exact tX o hok hL k3 hi hd
  ·exact tY o hok hL k3 hi
 ·exact tZ o hok hL k1 k2 k3
abbrev rowS (l:List (List UInt8)):Row :=.ds 9 1 false strD l
theorem wb (m:Nat) (hm:0<m) (hlen:m≤1048576):FnIs Tryz.prog 106 [.d (.sc nil_),.int .i64 m] [] (.own 64 0 0 1 none) [(64,rowS [])]:=by
 have d0:decide ((m:Int)<0)=false:=dF (by omega)
 have d1:decide (0<(m:Int))=true:=dT (by omega)
 have hw:IntKind.i64.wrap ((m:Int)-0)=m:=by rw[Int.sub_zero]; exact aP (by omega) (by omega)
 refine aw aa Tryz.func106 rfl rfl rfl ?_;refine sR<|rC<|zW ?_;refine zD ?_;refine zJ<|kS<|qR ?_;refine zD ?_;refine rQ (rj aa rfl rfl) ?_;refine rC ?_;refine rQ (nw aa rfl rfl) ?_;refine rQ (cu (m:=0) aa rfl rfl rfl) ?_;refine rQ (cu (m:=(m:Int)) aa rfl rfl hw) ?_;refine rC<|nR ?_;refine zD ?_;refine zI<|ai ?_;refine zD ?_;refine rQ (rj aa rfl rfl) ?_;refine rQ (tb aa rfl rfl rfl rfl) ?_;refine rC ?_;refine aG (nH (m:=m) (s:=1) (e:=9) (re:=r9) aa strD rfl Tryz.underlying3 rfl rfl rfl rfl rfl hm hlen rfl) rfl ?_;refine rC ?_;refine rQ (nw aa rfl rfl) ?_;refine rQ (nh aa rfl rfl rfl rfl (Nat.zero_le _)) ?_;refine rC<|nR ?_;refine zD<|zT ?_
 exact⟨trivial,[(64,some 208)],lg zV ⟨zR,trivial⟩⟩
abbrev kk (x:List (List UInt8)):D :=.arr 1 strD x
abbrev FL (ls:List (List (List UInt8))) (i:Nat):Nat:=(ls.take i).flatten.length
theorem wJ {ls:List (List (List UInt8))} {i:Nat} {x:List (List UInt8)} (h:ls[i]?=some x):(ls.take (i+1)).flatten=(ls.take i).flatten++x:=by
 rw[List.take_add_one,h]
 simp
theorem wI (ls:List (List (List UInt8))) (i:Nat):FL ls i≤ls.flatten.length:=by
 have:=congrArg List.flatten (List.take_append_drop i ls)
 rw[List.flatten_append]at this
 have:=congrArg List.length this
 rw[List.length_append]at this
 simp only[FL]
 omega
theorem sI (ls:List (List (List UInt8))) (hp:0<ls.flatten.length) (hL:ls.flatten.length≤1048576) (hn:ls.length≤1000000):FnIs Tryz.prog 84 [.d (.arr 1 kk ls)] [] (.own 64 0 ls.flatten.length 1 none) [(64,rowS ls.flatten)]:=by
 refine aw aa Tryz.func84 rfl rfl rfl ?_;refine sR<|rC<|nR ?_;refine rC<|zW ?_;refine rC ?_;refine rQ iE ?_;refine rC<|zP ?_
 refine wc_inv (fun i:Nat=>⟨[(11,.int .i64 i),(10,.int .i64 ls.length),(9,.d (.arr 1 kk ls)),(3,.int .i64 (FL ls i)),(0,.d (.arr 1 kk ls))],[],72,Tryz.f84.ntmps,64⟩) (fun i=>i≤ls.length) (fun i=>ls.length-i) 0 [] (Nat.zero_le _)
  (lg zh trivial) ?_
 intro i hi
 refine bH<|sR ?_;refine rC<|nQ ?_
 refine bW rfl (fun h2=>?_) (fun h2=>?_)
 ·have hlt:i<ls.length:=by have:=of_decide_eq_true h2; omega
  obtain⟨x,hx⟩:∃u,ls[i]?=some u:=⟨_,List.getElem?_eq_getElem hlt⟩
  have hx':ls[((i:Int)).toNat]?=some x:=by rw[Int.toNat_natCast]; exact hx
  have hg:FL ls (i+1)=FL ls i+x.length:=by simp only[FL,wJ hx,List.length_append]
  have hle:=wI ls (i+1)
  have hw:IntKind.i64.wrap ((FL ls i:Int)+(x.length:Int))=(FL ls (i+1):Nat):=by rw[hg]; push_cast; exact aP (by omega) (by omega)
  have d0:decide (((FL ls (i+1):Nat):Int)<0)=false:=dF (by omega)
  refine zQ<|zS<|rQ iA ?_;refine rQ iL ?_;refine rC<|nR ?_;refine zD ?_;refine rQ iE ?_;refine rQ (eK (m:=((FL ls (i+1):Nat):Int)) aa rfl rfl hw) ?_;refine rC<|nR ?_;refine zD ?_;refine zJ<|aS<|zC<|ai ?_;refine rQ iD ?_;refine rC<|ay ?_;refine aL (i+1) [] hlt (by omega) ?_
  exact lg zh trivial
 ·have he:i=ls.length:=by have:=of_decide_eq_false h2; omega
  subst he
  have hF:FL ls ls.length=ls.flatten.length:=by simp only[FL,List.take_length]
  rw[hF]
  refine zX<|sR<|rC ?_;refine aG (pa (wb ls.flatten.length hp hL) rfl rfl (aj (aj ab)) (.inl rfl) rfl rfl) rfl ?_;refine rC<|zW ?_;refine rC ?_;refine rQ iE ?_;refine rC<|zP ?_
  refine wc_inv (fun i:Nat=>⟨[(27,.int .i64 i),(26,.int .i64 ls.length),(25,.d (.arr 1 kk ls)),(6,.own 64 0 (FL ls i) 1 none)],[(64,some (rowS (ls.take i).flatten))],72,Tryz.f84.ntmps,64⟩) (fun i=>i≤ls.length) (fun i=>ls.length-i) 0 [(64,some 88)] (Nat.zero_le _)
   (lg zi ⟨zR,trivial⟩) ?_
  intro i hi
  refine bH<|sR ?_;refine rC<|nQ ?_
  refine bW rfl (fun h2=>?_) (fun h2=>?_)
  ·have hlt:i<ls.length:=by have:=of_decide_eq_true h2; omega
   obtain⟨x,hx⟩:∃u,ls[i]?=some u:=⟨_,List.getElem?_eq_getElem hlt⟩
   have hx':ls[((i:Int)).toNat]?=some x:=by rw[Int.toNat_natCast]; exact hx
   have hg:=wJ hx
   have hle:=wI ls (i+1)
   cases x with
   | nil =>
    rw[List.append_nil]at hg
    refine zQ<|zS<|rQ iA ?_;refine rQ iL ?_;refine rC<|nS<|ai ?_;refine zD ?_;refine rQ (nI (α:=(List UInt8)) (s':=1) (enc:=strD) aa rfl rfl rfl rfl) ?_;refine rC<|ay<|zC<|ai ?_;refine rQ iD ?_;refine rC<|ay ?_;refine aL (i+1) [] hlt (by omega) ?_
    simp only[FL,hg]
    exact lg zi ⟨zR,trivial⟩
   | cons y ys =>
    have hgl:FL ls (i+1)=FL ls i+(y::ys).length:=by simp only[FL,hg,List.length_append]
    have hlen:((ls.take i).flatten).length+(y::ys).length≤1048576:=by rw[←hgl]; omega
    refine zQ<|zS<|rQ iA ?_;refine rQ iL ?_;refine rC<|nS<|ai ?_;refine zD ?_;refine aU (qB (xs:=(ls.take i).flatten) (ys:=y::ys) (enc:=strD) (s:=1) (ex:=false) aa rfl rfl rfl rfl rfl rfl rfl (Nat.succ_pos _) hlen rfl) rfl ?_;refine rC<|ay<|zC<|ai ?_;refine rQ iD ?_;refine rC<|ay ?_;refine aL (i+1) [(64,some 120)] hlt (by omega) ?_
    rw[hgl,hg]
    exact lg zi ⟨zR,trivial⟩
  ·have he:i=ls.length:=by have:=of_decide_eq_false h2; omega
   subst he
   refine zX<|sR<|zD<|zT ?_
   simp only[FL,List.take_length]
   exact⟨trivial,[(64,some 64)],lg zV ⟨zR,trivial⟩⟩
def opV (k i d:List UInt8):POp:=⟨puV k,cI i,(cr d).getD []⟩
def opOk (k i d:List UInt8):Bool:=(cr d).isSome&&puOk k&&ca i
abbrev opR (o:POp) (b:Bool):AV :=.tup (.acons (.d (bv o)) (.acons (.bool b) .anil))
def mC:POp:=⟨0,0,[]⟩
theorem wU (k:List UInt8):0≤puV k∧puV k≤255:=by
 unfold puV
 split
 ·rename_i u h
  rw[Lib.parseUintB]at h
  split at h
  ·cases h
  ·have:=Lib.parseUintM_le (2 ^ 8-1) _ 0 _ (by decide) h
   omega
 ·omega
 ·omega
theorem tU (k i d:List UInt8):opF k i d=if opOk k i d then some (opV k i d) else none:=by
 unfold opF opOk opV puOk puV ca cI
 cases Lib.parseUintB 8 k <;> cases Lib.atoiAll i <;> cases cr d <;> rfl
theorem w9:AVLe (.d (.cons (.sc (.int .u8 0)) (.cons (.sc (.int .i64 0)) (.cons (.sc nil_) .nil)))) (.d (bv mC)):=by
 intro σ w X v h
 unfold RelV at h ⊢
 rw[if_pos (by rfl)]at h ⊢
 obtain⟨c,rfl,c1,r1,rfl,h1,c2,r2,rfl,h2,c3,r3,rfl,h3,h4⟩:=h
 exact⟨_,rfl,c1,_,rfl,h1,c2,_,rfl,h2,c3,r3,rfl,.inl ⟨rfl,h3.1⟩,h4⟩
theorem ky (w:List (List UInt8)) (h3:w.length≠3):FnIs Tryz.prog 83 [.d (.arr 1 strD w)] [] (opR mC false) []:=by
 have hn:(!decide ((w.length:Int)=3))=true:=by rw[dF (by omega)]; rfl
 refine aw aa Tryz.func83 rfl rfl rfl ?_;refine sR<|rN ?_;refine rC<|zW ?_;refine rC ?_;refine rQ iE ?_;refine rC<|nS ?_;refine wT<|sR ?_;refine rQ iM ?_;refine rW ?_;refine rC<|zT<|aN ?_
 exact⟨trivial,_,rfl,[],lg ⟨⟨_,rfl,AVLe.tup1 w9 rfl⟩,rfl,trivial⟩ trivial⟩
theorem lr (k i d:List UInt8) (hk:k.length≤281474976710656) (hi:i.length≤281474976710656) (hd:d.length≤1048576) (b1 b2 b3:Bool) (h1:(cr d).isSome=b1) (h2:puOk k=b2) (h3:ca i=b3):FnIs Tryz.prog 83 [.d (.arr 1 strD [k,i,d])] [] (opR (opV k i d) (opOk k i d)) []:=by
 have hw:IntKind.u8.wrap (puV k)=puV k:=by
  obtain⟨p1,p2⟩:=wU k
  rw[show puV k=((puV k).toNat:Int) by omega]
  exact cm (by omega)
 rw[show opOk k i d=(b1&&b2&&b3) by rw[opOk,h1,h2,h3]]
 have hp:=y5 hk
 have ha:=rn hi
 have hu:=sU d hd
 rw[h2]at hp
 rw[h3]at ha
 unfold unR at hu
 rw[h1]at hu
 refine aw aa Tryz.func83 rfl rfl rfl ?_
 have g0:[k,i,d][((0:Int)).toNat]?=some k:=rfl
 have g1:[k,i,d][((1:Int)).toNat]?=some i:=rfl
 have g2:[k,i,d][((2:Int)).toNat]?=some d:=rfl
 cases b1 <;> cases b2 <;> cases b3
 ·refine sR<|rN ?_;refine rC<|zW ?_;refine rC ?_;refine rQ iE ?_;refine rC ?_;refine zJ<|kS<|sR ?_;refine rC ?_;refine rQ iA ?_;refine rQ iL ?_;refine rQ (am hp rfl rfl (aj (aj (aj ab))) (.inl rfl) (fun _=>rfl)) ?_;iterate 5 refine rC ?_
  refine nR<|rC ?_;refine rQ iA ?_;refine rQ iL ?_;refine rQ (am ha rfl rfl (aj ab) (.inl rfl) (fun _=>rfl)) ?_;iterate 5 refine rC ?_
  refine nR<|rC ?_;refine rQ iA ?_;refine rQ iL ?_;refine rQ (am hu rfl rfl (aj ab) (.inl rfl) (fun _=>rfl)) ?_;iterate 5 refine rC ?_
  refine nQ<|aH (by kernel_rfl) ?_;refine dC [4] [] ?_;refine dQ [34] [] (bA (m:=puV k) aa rfl rfl rfl hw) ?_;refine dC [6] [] ?_;refine dC [8] [] ?_;refine dQ [35,36,37] [] iS ?_;refine dC [3] [] ?_;refine dC [39] [] ?_;refine ae [40,5] rfl rfl rfl rfl ?_;refine ae [40,41] rfl rfl rfl rfl ?_;refine dQ [40,42] [] iG ?_;refine dC [43] [] ?_;refine ae [44,7] rfl rfl rfl rfl ?_;refine ae [44,45] rfl rfl rfl rfl ?_;refine dQ [44,46] [] iG ?_;refine bp [2,38] [64] (aA aa rfl rfl rfl ⟨_,⟨rfl,rfl,rfl⟩,rfl⟩ rfl) ?_;refine dC [47] [] ?_;refine aB (by kernel_rfl)<|aK<|bO ?_
  exact⟨trivial,_,rfl,[],lf⟩
 ·refine sR<|rN ?_;refine rC<|zW ?_;refine rC ?_;refine rQ iE ?_;refine rC ?_;refine zJ<|kS<|sR ?_;refine rC ?_;refine rQ iA ?_;refine rQ iL ?_;refine rQ (am hp rfl rfl (aj (aj (aj ab))) (.inl rfl) (fun _=>rfl)) ?_;iterate 5 refine rC ?_
  refine nR<|rC ?_;refine rQ iA ?_;refine rQ iL ?_;refine rQ (am ha rfl rfl (aj ab) (.inl rfl) (fun _=>rfl)) ?_;iterate 5 refine rC ?_
  refine nR<|rC ?_;refine rQ iA ?_;refine rQ iL ?_;refine rQ (am hu rfl rfl (aj ab) (.inl rfl) (fun _=>rfl)) ?_;iterate 5 refine rC ?_
  refine nQ<|aH (by kernel_rfl) ?_;refine dC [4] [] ?_;refine dQ [34] [] (bA (m:=puV k) aa rfl rfl rfl hw) ?_;refine dC [6] [] ?_;refine dC [8] [] ?_;refine dQ [35,36,37] [] iS ?_;refine dC [3] [] ?_;refine dC [39] [] ?_;refine ae [40,5] rfl rfl rfl rfl ?_;refine ae [40,41] rfl rfl rfl rfl ?_;refine dQ [40,42] [] iG ?_;refine dC [43] [] ?_;refine ae [44,7] rfl rfl rfl rfl ?_;refine ae [44,45] rfl rfl rfl rfl ?_;refine dQ [44,46] [] iG ?_;refine bp [2,38] [64] (aA aa rfl rfl rfl ⟨_,⟨rfl,rfl,rfl⟩,rfl⟩ rfl) ?_;refine dC [47] [] ?_;refine aB (by kernel_rfl)<|aK<|bO ?_
  exact⟨trivial,_,rfl,[],lf⟩
 ·refine sR<|rN ?_;refine rC<|zW ?_;refine rC ?_;refine rQ iE ?_;refine rC ?_;refine zJ<|kS<|sR ?_;refine rC ?_;refine rQ iA ?_;refine rQ iL ?_;refine rQ (am hp rfl rfl (aj (aj (aj ab))) (.inl rfl) (fun _=>rfl)) ?_;iterate 5 refine rC ?_
  refine nR<|rC ?_;refine rQ iA ?_;refine rQ iL ?_;refine rQ (am ha rfl rfl (aj ab) (.inl rfl) (fun _=>rfl)) ?_;iterate 5 refine rC ?_
  refine nR<|rC ?_;refine rQ iA ?_;refine rQ iL ?_;refine rQ (am hu rfl rfl (aj ab) (.inl rfl) (fun _=>rfl)) ?_;iterate 5 refine rC ?_
  refine nQ<|aH (by kernel_rfl) ?_;refine dC [4] [] ?_;refine dQ [34] [] (bA (m:=puV k) aa rfl rfl rfl hw) ?_;refine dC [6] [] ?_;refine dC [8] [] ?_;refine dQ [35,36,37] [] iS ?_;refine dC [3] [] ?_;refine dC [39] [] ?_;refine ae [40,5] rfl rfl rfl rfl ?_;refine ae [40,41] rfl rfl rfl rfl ?_;refine dQ [40,42] [] iG ?_;refine dC [43] [] ?_;refine ae [44,7] rfl rfl rfl rfl ?_;refine ae [44,45] rfl rfl rfl rfl ?_;refine dQ [44,46] [] iG ?_;refine bp [2,38] [64] (aA aa rfl rfl rfl ⟨_,⟨rfl,rfl,rfl⟩,rfl⟩ rfl) ?_;refine dC [47] [] ?_;refine aB (by kernel_rfl)<|aK<|bO ?_
  exact⟨trivial,_,rfl,[],lf⟩
 ·refine sR<|rN ?_;refine rC<|zW ?_;refine rC ?_;refine rQ iE ?_;refine rC ?_;refine zJ<|kS<|sR ?_;refine rC ?_;refine rQ iA ?_;refine rQ iL ?_;refine rQ (am hp rfl rfl (aj (aj (aj ab))) (.inl rfl) (fun _=>rfl)) ?_;iterate 5 refine rC ?_
  refine nR<|rC ?_;refine rQ iA ?_;refine rQ iL ?_;refine rQ (am ha rfl rfl (aj ab) (.inl rfl) (fun _=>rfl)) ?_;iterate 5 refine rC ?_
  refine nR<|rC ?_;refine rQ iA ?_;refine rQ iL ?_;refine rQ (am hu rfl rfl (aj ab) (.inl rfl) (fun _=>rfl)) ?_;iterate 5 refine rC ?_
  refine nQ<|aH (by kernel_rfl) ?_;refine dC [4] [] ?_;refine dQ [34] [] (bA (m:=puV k) aa rfl rfl rfl hw) ?_;refine dC [6] [] ?_;refine dC [8] [] ?_;refine dQ [35,36,37] [] iS ?_;refine dC [3] [] ?_;refine dC [39] [] ?_;refine ae [40,5] rfl rfl rfl rfl ?_;refine ae [40,41] rfl rfl rfl rfl ?_;refine dQ [40,42] [] iG ?_;refine dC [43] [] ?_;refine ae [44,7] rfl rfl rfl rfl ?_;refine ae [44,45] rfl rfl rfl rfl ?_;refine dQ [44,46] [] iG ?_;refine bp [2,38] [64] (aA aa rfl rfl rfl ⟨_,⟨rfl,rfl,rfl⟩,rfl⟩ rfl) ?_;refine dC [47] [] ?_;refine aB (by kernel_rfl)<|aK<|bO ?_
  exact⟨trivial,_,rfl,[],lf⟩
 ·refine sR<|rN ?_;refine rC<|zW ?_;refine rC ?_;refine rQ iE ?_;refine rC ?_;refine zJ<|kS<|sR ?_;refine rC ?_;refine rQ iA ?_;refine rQ iL ?_;refine rQ (am hp rfl rfl (aj (aj (aj ab))) (.inl rfl) (fun _=>rfl)) ?_;iterate 5 refine rC ?_
  refine nR<|rC ?_;refine rQ iA ?_;refine rQ iL ?_;refine rQ (am ha rfl rfl (aj ab) (.inl rfl) (fun _=>rfl)) ?_;iterate 5 refine rC ?_
  refine nR<|rC ?_;refine rQ iA ?_;refine rQ iL ?_;refine rQ (am hu rfl rfl (aj ab) (.inl rfl) (fun _=>rfl)) ?_;iterate 5 refine rC ?_
  refine nQ<|aH (by kernel_rfl) ?_;refine dC [4] [] ?_;refine dQ [34] [] (bA (m:=puV k) aa rfl rfl rfl hw) ?_;refine dC [6] [] ?_;refine dC [8] [] ?_;refine dQ [35,36,37] [] iS ?_;refine dC [3] [] ?_;refine dC [39] [] ?_;refine ak [40,5] [] rfl rfl rfl rfl (aC aa (fun K hk=>hk)) ?_;refine ak [40,41] [] rfl rfl rfl rfl (lT Tryz.underlying90 rfl) ?_;refine dQ [40,42] [] iU ?_;refine dC [43] [] ?_;refine ae [44,7] rfl rfl rfl rfl ?_;refine ae [44,45] rfl rfl rfl rfl ?_;refine dQ [44,46] [] iG ?_;refine bp [2,38] [64] (aA aa rfl rfl rfl ⟨_,⟨rfl,rfl,rfl⟩,rfl⟩ rfl) ?_;refine dC [47] [] ?_;refine aB (by kernel_rfl)<|aK<|bO ?_
  exact⟨trivial,_,rfl,[],lf⟩
 ·refine sR<|rN ?_;refine rC<|zW ?_;refine rC ?_;refine rQ iE ?_;refine rC ?_;refine zJ<|kS<|sR ?_;refine rC ?_;refine rQ iA ?_;refine rQ iL ?_;refine rQ (am hp rfl rfl (aj (aj (aj ab))) (.inl rfl) (fun _=>rfl)) ?_;iterate 5 refine rC ?_
  refine nR<|rC ?_;refine rQ iA ?_;refine rQ iL ?_;refine rQ (am ha rfl rfl (aj ab) (.inl rfl) (fun _=>rfl)) ?_;iterate 5 refine rC ?_
  refine nR<|rC ?_;refine rQ iA ?_;refine rQ iL ?_;refine rQ (am hu rfl rfl (aj ab) (.inl rfl) (fun _=>rfl)) ?_;iterate 5 refine rC ?_
  refine nQ<|aH (by kernel_rfl) ?_;refine dC [4] [] ?_;refine dQ [34] [] (bA (m:=puV k) aa rfl rfl rfl hw) ?_;refine dC [6] [] ?_;refine dC [8] [] ?_;refine dQ [35,36,37] [] iS ?_;refine dC [3] [] ?_;refine dC [39] [] ?_;refine ak [40,5] [] rfl rfl rfl rfl (aC aa (fun K hk=>hk)) ?_;refine ak [40,41] [] rfl rfl rfl rfl (lT Tryz.underlying90 rfl) ?_;refine dQ [40,42] [] iU ?_;refine dC [43] [] ?_;refine ae [44,7] rfl rfl rfl rfl ?_;refine ae [44,45] rfl rfl rfl rfl ?_;refine dQ [44,46] [] iG ?_;refine bp [2,38] [64] (aA aa rfl rfl rfl ⟨_,⟨rfl,rfl,rfl⟩,rfl⟩ rfl) ?_;refine dC [47] [] ?_;refine aB (by kernel_rfl)<|aK<|bO ?_
  exact⟨trivial,_,rfl,[],lf⟩
 ·refine sR<|rN ?_;refine rC<|zW ?_;refine rC ?_;refine rQ iE ?_;refine rC ?_;refine zJ<|kS<|sR ?_;refine rC ?_;refine rQ iA ?_;refine rQ iL ?_;refine rQ (am hp rfl rfl (aj (aj (aj ab))) (.inl rfl) (fun _=>rfl)) ?_;iterate 5 refine rC ?_
  refine nR<|rC ?_;refine rQ iA ?_;refine rQ iL ?_;refine rQ (am ha rfl rfl (aj ab) (.inl rfl) (fun _=>rfl)) ?_;iterate 5 refine rC ?_
  refine nR<|rC ?_;refine rQ iA ?_;refine rQ iL ?_;refine rQ (am hu rfl rfl (aj ab) (.inl rfl) (fun _=>rfl)) ?_;iterate 5 refine rC ?_
  refine nQ<|aH (by kernel_rfl) ?_;refine dC [4] [] ?_;refine dQ [34] [] (bA (m:=puV k) aa rfl rfl rfl hw) ?_;refine dC [6] [] ?_;refine dC [8] [] ?_;refine dQ [35,36,37] [] iS ?_;refine dC [3] [] ?_;refine dC [39] [] ?_;refine ak [40,5] [] rfl rfl rfl rfl (aC aa (fun K hk=>hk)) ?_;refine ak [40,41] [] rfl rfl rfl rfl (fA Tryz.underlying90 rfl) ?_;refine dQ [40,42] [] iU ?_;refine dC [43] [] ?_;refine ak [44,7] [] rfl rfl rfl rfl (aC aa (fun K hk=>hk)) ?_;refine ak [44,45] [] rfl rfl rfl rfl (lT Tryz.underlying90 rfl) ?_;refine dQ [44,46] [] iU ?_;refine bp [2,38] [64] (aA aa rfl rfl rfl ⟨_,⟨rfl,rfl,rfl⟩,rfl⟩ rfl) ?_;refine dC [47] [] ?_;refine aB (by kernel_rfl)<|aK<|bO ?_
  exact⟨trivial,_,rfl,[],lf⟩
 ·refine sR<|rN ?_;refine rC<|zW ?_;refine rC ?_;refine rQ iE ?_;refine rC ?_;refine zJ<|kS<|sR ?_;refine rC ?_;refine rQ iA ?_;refine rQ iL ?_;refine rQ (am hp rfl rfl (aj (aj (aj ab))) (.inl rfl) (fun _=>rfl)) ?_;iterate 5 refine rC ?_
  refine nR<|rC ?_;refine rQ iA ?_;refine rQ iL ?_;refine rQ (am ha rfl rfl (aj ab) (.inl rfl) (fun _=>rfl)) ?_;iterate 5 refine rC ?_
  refine nR<|rC ?_;refine rQ iA ?_;refine rQ iL ?_;refine rQ (am hu rfl rfl (aj ab) (.inl rfl) (fun _=>rfl)) ?_;iterate 5 refine rC ?_
  refine nQ<|aH (by kernel_rfl) ?_;refine dC [4] [] ?_;refine dQ [34] [] (bA (m:=puV k) aa rfl rfl rfl hw) ?_;refine dC [6] [] ?_;refine dC [8] [] ?_;refine dQ [35,36,37] [] iS ?_;refine dC [3] [] ?_;refine dC [39] [] ?_;refine ak [40,5] [] rfl rfl rfl rfl (aC aa (fun K hk=>hk)) ?_;refine ak [40,41] [] rfl rfl rfl rfl (fA Tryz.underlying90 rfl) ?_;refine dQ [40,42] [] iU ?_;refine dC [43] [] ?_;refine ak [44,7] [] rfl rfl rfl rfl (aC aa (fun K hk=>hk)) ?_;refine ak [44,45] [] rfl rfl rfl rfl (fA Tryz.underlying90 rfl) ?_;refine dQ [44,46] [] iU ?_;refine bp [2,38] [64] (aA aa rfl rfl rfl ⟨_,⟨rfl,rfl,rfl⟩,rfl⟩ rfl) ?_;refine dC [47] [] ?_;refine aB (by kernel_rfl)<|aK<|bO ?_
  exact⟨trivial,_,rfl,[],lf⟩
def opW (w:List (List UInt8)):POp×Bool:=match w with
 | [k,i,d]=>(opV k i d,opOk k i d)
 | _=>(mC,false)
theorem eG (w:List (List UInt8)) (hw:∀x∈w,x.length≤1048576):FnIs Tryz.prog 83 [.d (.arr 1 strD w)] [] (opR (opW w).1 (opW w).2) []:=by
 by_cases h3:w.length=3
 ·obtain⟨k,i,d,rfl⟩:∃k i d,w=[k,i,d]:=by
   match w,h3 with
   | [k,i,d],_=>exact⟨k,i,d,rfl⟩
  have hk:=hw k (by simp)
  have hi:=hw i (by simp)
  exact lr k i d (by omega) (by omega) (hw d (by simp)) _ _ _ rfl rfl rfl
 ·have:=ky w h3
  rwa [show opW w=(mC,false) by
   unfold opW
   split
   ·exact absurd rfl h3
   ·rfl]
end Go.Proofs.YtjfkhlamjdbfkaaGreatDoor
