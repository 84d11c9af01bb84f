/- Texts of the proof: Eng62, Eng63, Eng64, Eng65, Eng66, Eng67, Eng68, TJP, TJQ, Eng69, Eng70, Eng71, Eng72, Eng73, Eng74, Eng75, Eng76, Eng77, Eng96, Eng78, Eng80, Eng81, Eng82, Eng86, Eng87, Eng97, Eng83, Eng98, Eng122, Eng123, VP, PTab, V0, V1, V2, Eng124, V3, V4, V5, V6, V7, V8, V9, V10, V11, V12, V13, VF, V14, VA. -/
import Derived.Test.YtmapiehigkfddaaDoorG02
import Derived.Lib.Builder
import Derived.Lib.UnsafeStr
import Derived.Test.YtmapiehigkfddaaDoorRows
import Derived.ProofKit
import Derived.LaidMore
import Derived.OpenShut
import Derived.Stop.Joined
import Derived.HandedShaped
import Derived.Lib.LaidTab
import Derived.Lay
import Derived.SevenTiedAt
import Derived.Lib.AppendStr
import Derived.Lib.DecodeN
import Derived.Sort.Row
import Derived.Sort.Grow
import Derived.Test.YtmapiehigkfddaaDoorChecked
import Derived.Test.YtmapiehigkfddaaDoorG01
import Derived.KernelRfl

set_option linter.unusedVariables false
set_option linter.unusedSimpArgs false
set_option linter.unusedSectionVars false
set_option maxRecDepth 10000

set_option linter.unusedSimpArgs false
set_option linter.unusedVariables false
namespace Go.Eng
open Go.RowKit
section
variable {C : Ctx} {w w' : World} {G : Nat → Prop} {st : St} {σ : au} {a : Act}
end
section
variable {P : Program} {T : Tab} {sz : Nat} {env : Env} {h : Upds} {n : Nat}
/-! ### Frozen memory, sliced -/
def cutV (v:Value) (lo hi s:Nat):Value:=match v with
 | .slice a _ c=>.slice (if c=lo then a else a.map (·.add (lo*s))) (hi-lo) (c-lo)
 | v=>v
theorem nm {σ:au} {w:World} {X:Nat→Prop} {α:Type} {s:Nat} {enc:α→D} {xs:List α} {v:Value} {lo hi:Nat} (hv:RelV σ w X (.d (.arr s enc xs)) v) (h1:lo≤hi) (h2:hi≤xs.length) :
  (∃a c,v=.slice a xs.length c∧xs.length≤c)∧RelV σ w X (.d (.arr s enc ((xs.drop lo).take (hi-lo)))) (cutV v lo hi s):=by
 rcases RelV.arr.1 hv with ⟨rfl,rfl⟩ | ⟨a,c,rfl,h3,h4,f,hf⟩
 ·refine⟨⟨none,0,rfl,Nat.le_refl _⟩,?_⟩
  simp only[List.length_nil]at h2
  obtain rfl:hi=0:=by omega
  obtain rfl:lo=0:=by omega
  exact RelV.arr.2 (.inl ⟨rfl,by simp[cutV]⟩)
 ·refine⟨⟨some a,c,rfl,h3⟩,RelV.arr.2 (.inr ⟨if c=lo then a else a.add (lo*s),c-lo,?_,?_,by omega,fun i=>f (lo+i),fun i hi'=>?_⟩)⟩
  ·simp only[cutV,List.length_take,List.length_drop,Nat.min_eq_left (show hi-lo≤xs.length-lo by omega)]
   split <;> rfl
  ·simp only[List.length_take,List.length_drop]; omega
  ·simp only[List.length_take,List.length_drop]at hi'
   have hli:lo+i<xs.length:=by omega
   obtain⟨g1,g2,g3⟩:=hf (lo+i) hli
   refine⟨by simpa[List.getElem_take,List.getElem_drop]using g1,g2,fun j u hj=>?_⟩
   rw[if_neg (by omega),cA,Addr.add_block,←Nat.add_assoc,←Nat.add_mul]
   exact g3 j u hj
theorem sp (hT:ak P T) {t e m s:Nat} {re:TyR} {x j:Operand} {k:IntKind} {α:Type} {enc:α→D} {xs ys:List α} (ht:aI T t=some (.slice e)) (he:lk T e=some re) (hs:Nat.beq re.size s=true) (hx:ae env x=some (.d (.arr s enc xs))) (hj:ae env j=some (.int k m)) (hm:m≤xs.length) (hy:xs.take m=ys) :
  ab P (.slice t x none (some j) none) env h n (some (.d (.arr s enc ys))) []:=.of_comes fun C G st σ w a o ho hA hdst hst hn=>by
 obtain⟨ud,hud,hdd⟩:=aD hT ht
 cases hdd
 have hs:=Nat.eq_of_beq_eq_true hs
 obtain⟨hj1,_⟩:=RelV.sc.1 (ai hst (hA.ev hj)).1
 have hsz:=(hT e re he).run_size (P:=P)
 obtain⟨⟨ad,c,hv,hc⟩,hr⟩:=nm (lo:=0) (hi:=m) (ai hst (hA.ev hx)).1 (Nat.zero_le _) hm
 rw[List.drop_zero,Nat.sub_zero,hy]at hr
 refine .quiet hst hdst ⟨rfl,rfl⟩ ?_ hr trivial
 have hle:m≤c:=by omega
 cases ad <;> simp[execOp,ho,Instr.sliceAt,Instr.slice,hv,hj1,run_underlying hud,Instr.sliceBounds,Instr.sliceBound,asIntOf,hsz,hs,Sem.run_bind,Sem.run_pure,Result.andThen_ok,hle,cutV,Addr.add_zero']
theorem iC (hT:ak P T) {t e m s:Nat} {re:TyR} {x j:Operand} {k:IntKind} {α:Type} {enc:α→D} {xs ys:List α} (ht:aI T t=some (.slice e)) (he:lk T e=some re) (hs:Nat.beq re.size s=true) (hx:ae env x=some (.d (.arr s enc xs))) (hj:ae env j=some (.int k m)) (hm:m≤xs.length) (hy:xs.drop m=ys) :
  ab P (.slice t x (some j) none none) env h n (some (.d (.arr s enc ys))) []:=.of_comes fun C G st σ w a o ho hA hdst hst hn=>by
 obtain⟨ud,hud,hdd⟩:=aD hT ht
 cases hdd
 have hs:=Nat.eq_of_beq_eq_true hs
 obtain⟨hj1,_⟩:=RelV.sc.1 (ai hst (hA.ev hj)).1
 have hsz:=(hT e re he).run_size (P:=P)
 obtain⟨⟨ad,c,hv,hc⟩,hr⟩:=nm (lo:=m) (hi:=xs.length) (ai hst (hA.ev hx)).1 hm (Nat.le_refl _)
 rw[List.take_of_length_le (by simp),hy]at hr
 refine .quiet hst hdst ⟨rfl,rfl⟩ ?_ hr trivial
 cases ad <;> simp[execOp,ho,Instr.sliceAt,Instr.slice,hv,hj1,run_underlying hud,Instr.sliceBounds,Instr.sliceBound,asIntOf,hsz,hs,Sem.run_bind,Sem.run_pure,Result.andThen_ok,hm,cutV]
theorem lO (hT:ak P T) {t e L s:Nat} {re:TyR} {x:Operand} {α:Type} {enc:α→D} {xs:List α} (ht:aI T t=some (.array L e)) (he:lk T e=some re) (hx:ae env x=some (.iptr (.vec L s enc xs))) (hL:Nat.ble L 1048576=true) (hs0:Nat.blt 0 s=true) :
  ab P (.slice t x none none none) env h n (some (.d (.arr s enc xs))) []:=.of_comes fun C G st σ w a o ho hA hdst hst hn=>by
 obtain⟨ud,hud,hdd⟩:=aD hT ht
 cases hdd
 have hL:=Nat.le_of_ble_eq_true hL
 have hs0:=Nat.le_of_ble_eq_true hs0
 have hsz:=(hT e re he).run_size (P:=P)
 obtain⟨ad,cs,hv,⟨hl,f,hf,hcs⟩,hc⟩:=RelV.iptr.1 (ai hst (hA.ev hx)).1
 have hmax:(1048576:Nat)≤maxLen:=by decide
 refine .quiet (u :=.slice (some ad) L L) hst hdst ⟨rfl,rfl⟩ ?_ (RelV.arr.2 (.inr ⟨ad,L,by rw[hl],by omega,by omega,f,fun i hi=>⟨(hf i hi).1,(hf i hi).2,fun j u hj=>?_⟩⟩)) trivial
 ·simp[execOp,ho,Instr.sliceAt,hv,Instr.sureAddr,run_underlying hud,Instr.sliceBounds,Instr.sliceBound,asIntOf,hsz,Sem.run_bind,Sem.run_pure,Result.andThen_ok,Addr.add_zero']
 ·have hjs:j<s:=by rw[←(hf i hi).2]; exact (List.getElem?_eq_some_iff.1 hj).1
  have:=bK xs.length (fun i hi=>(hf i hi).2) i j hi hjs
  rw[hj]at this
  refine hc _ _ ?_
  rw[hcs,←hl]
  exact this
theorem j6 (hT:ak P T) {t e L s:Nat} {x:Operand} {α:Type} {enc:α→D} {xs:List α} (ht:aI T t=some (.array L e)) (hx:ae env x=some (.d (.arr s enc xs))) (hL:xs.length=L) (h0:Nat.blt 0 L=true) (hs0:Nat.blt 0 s=true) :
  ab P (.sliceToArrayPointer t x) env h n (some (.iptr (.vec L s enc xs))) []:=.of_comes fun C G st σ w a o ho hA hdst hst hn=>by
 obtain⟨ud,hud,hdd⟩:=aD hT ht
 cases hdd
 have h0:=Nat.le_of_ble_eq_true h0
 have hs0:=Nat.le_of_ble_eq_true hs0
 rcases RelV.arr.1 (ai hst (hA.ev hx)).1 with ⟨rfl,_⟩ | ⟨ad,c,hv,h3,h4,f,hf⟩
 ·simp at hL; omega
 ·refine .quiet (u :=.pointer (some ad)) hst hdst ⟨rfl,rfl⟩ ?_ (RelV.iptr.2 ⟨ad,cat f xs.length,rfl,⟨hL,f,fun i hi=>⟨(hf i hi).1,(hf i hi).2.1⟩,by rw[hL]⟩,fun j u hj=>?_⟩) trivial
  ·simp[execOp,ho,Instr.arrayAt,hv,run_underlying hud,hL,Sem.run_bind,Sem.run_pure,Result.andThen_ok]
  ·have hjl:=(List.getElem?_eq_some_iff.1 hj).1
   rw[bj _ fun i hi=>(hf i hi).2.1]at hjl
   have hi:j/s<xs.length:=Nat.div_lt_of_lt_mul (by rw[Nat.mul_comm]; exact hjl)
   have hm:j % s<s:=Nat.mod_lt _ hs0
   have hj2:j/s*s+j % s=j:=by rw[Nat.mul_comm]; exact Nat.div_add_mod j s
   have:=bK xs.length (fun i hi=>(hf i hi).2.1) (j/s) (j % s) hi hm
   rw[hj2,hj]at this
   have:=(hf _ hi).2.2 (j % s) u this.symm
   rwa [hj2]at this
end
def dsAV:List D→AV
 | []=>.anil
 | d::l=>.acons (.d d) (dsAV l)
theorem ld {σ:au} {w:World} {X:Nat→Prop} {α:Type} {enc:α→D}:∀(xs:List α) (cs:List Value),Rel σ w X (dsAV (xs.map enc)) false cs→∃f:Nat→List Value,(∀i (h:i<xs.length),Enc w X (enc xs[i]) (f i))∧cs=cat f xs.length
 | [],cs,h=>⟨fun _=>[],fun i hi=>absurd hi (Nat.not_lt_zero _),h⟩
 | x::xs,cs,h=>by
  obtain⟨c1,c2,rfl,h1,h2⟩:=h
  obtain⟨f,hf,rfl⟩:=ld xs c2 h2
  refine⟨fun i=>if i=0 then c1 else f (i-1),fun i hi=>?_,?_⟩
  ·cases i with
   | zero=>exact h1
   | succ i=>simpa using hf i (by simpa using hi)
  ·rw[List.length_cons,Nat.add_comm xs.length 1,bX 1]
   simp only[cat,List.nil_append,if_true]
   congr 1
   exact bH _ fun i hi=>by simp[Nat.add_comm 1 i]
section
variable {r : Nat} {row : Row}
theorem Frz.litsN {t s m:Nat} {ex:Bool} {α:Type} {enc:α→D} (xs:List α) {cap:Option Nat} (hm:xs.length=m) (hs:∀x∈xs,(enc x).size=s):Frz r (.lits t s m ex (dsAV (xs.map enc))) (.own r 0 m s cap) (.d (.arr s enc xs)):=by
 subst hm
 refine⟨rfl,fun _=>rfl,fun _ _=>trivial,fun σ w X X' hx hn hr cs h=>?_⟩
 rcases h with ⟨h0,_,hl,_,rfl⟩ | ⟨b,c,ad,hb,rfl,hle1,hle2,hle3,had⟩
 ·exact .inl ⟨List.eq_nil_of_length_eq_zero hl,rfl⟩
 ·rcases hr with ⟨_,⟨h0,h1⟩ | ⟨b',c',cur,cs',hb',_,hh,hsz,hlen,hmax,hcl,hrel,htake⟩⟩
  ·rw[hb]at h0; cases h0
  ·rw[hb]at hb'
   cases hb'
   obtain⟨f,hf,rfl⟩:=ld xs _ hrel
   have hfl:∀i,i<xs.length→(f i).length=s:=fun i hi=>by rw[←hs _ (List.getElem_mem hi)]; exact Enc.len _ _ (hf i hi)
   refine .inr ⟨ad,cap.getD (c-0),rfl,hle3,by omega,f,fun i hi=>?_⟩
   have hoff:ad=⟨b,0*s,none⟩:=had (by omega)
   subst hoff
   refine⟨Enc.sub hx _ _ (hf i hi),hfl i hi,fun j u hj=>⟨?_,hn b c hb⟩⟩
   rw[cp,cell_of_row w b _ cur t (0,0) hh]
   have hjs:j<s:=by rw[←hfl i hi]; exact (List.getElem?_eq_some_iff.1 hj).1
   have hcg:=bK (f:=f) (s:=s) xs.length hfl i j hi hjs
   have hlt2:i*s+j<xs.length*s:=by
    have:(i+1)*s≤xs.length*s:=Nat.mul_le_mul_right s hi
    rw[Nat.add_mul]at this; omega
   rw[←htake,hj,List.getElem?_take,if_pos hlt2]at hcg
   rw[←Array.getElem?_toList,Nat.zero_mul,Nat.zero_add]
   exact hcg
end
section
variable {P : Program} {f : FuncId} {avs : List AV} {h0 : List (Nat × Row)} {res res' : AV} {rows rows' : List (Nat × Row)}
theorem FnIs.freeze_out (r:Nat) (row:Row) (hrow:aK (aG rows) r=some row) (hE:Frz r row res res') (hH:bD r row (aG rows) (aG rows')) (h:FnIs P f avs h0 res rows):FnIs P f avs h0 res' rows':=by
 refine⟨h.1,fun C σ w vs hbs hB hw0 hσ0 hro hst=>(h.2 C σ w vs hbs hB hw0 hσ0 hro hst).mono fun e w' hr=>?_⟩
 obtain⟨v,σ',he,hs⟩:=hr
 refine⟨v,σ',he,hs.freeze (st':=cj res' rows') r row (by rw[←aW]; exact hrow) (fun i v' hv=>?_) (fun q x' hq=>?_) rfl rfl⟩
 ·simp only[cj,aC]at hv ⊢
  split at hv
  ·rename_i e
   cases hv
   exact⟨res,by rw[if_pos e],hE⟩
  ·simp[lk]at hv
 ·rw[←aW]at hq
  obtain⟨h1,x,h2,h3⟩:=bD.out _ hH q x' hq
  exact⟨h1,x,by rw[←aW]; exact h2,h3⟩
end
end Go.Eng
namespace Go.Eng
open Go.RowKit
end Go.Eng
namespace Go.Eng
open Go.RowKit
section
variable {P : Program} {T : Tab} {env : Env} {h : Upds} {n : Nat}
end
end Go.Eng
namespace Go.Eng
open Go.RowKit
section
variable {P : Program} {T : Tab} {n : Nat} {env : Env} {h : Upds}
end
def FrzT (r:Nat) (row:Row) (a a':AV):Prop :=
 (∀G:Nat→Prop,a.within G→a'.within G) ∧
  ∀(σ:au) (w:World) (X X':Nat→Prop),(∀b,X' b→X b)→(∀b c,σ r=some (b,c)→¬X' b)→aU σ w X r row→∀cs,Rel σ w X a true cs→Rel σ w X' a' true cs
theorem FrzT.nil {r:Nat} {row:Row}:FrzT r row .anil .anil:=⟨fun _ h=>h,fun _ _ _ _ _ _ _ _ h=>h⟩
theorem FrzT.cons {r:Nat} {row:Row} {a b x y:AV} (h1:Frz r row a x) (h2:FrzT r row b y):FrzT r row (.acons a b) (.acons x y):=by
 refine⟨fun G g=>⟨h1.2.2.1 G g.1,h2.1 G g.2⟩,fun σ w X X' hx hn hr cs h=>?_⟩
 obtain⟨v,us,rfl,g1,g2⟩:=h
 refine⟨v,us,rfl,?_,h2.2 σ w X X' hx hn hr _ g2⟩
 split at g1 <;> rename_i hag
 ·obtain⟨c,rfl,hc⟩:=g1
  rw[if_pos (by rw[h1.1]; exact hag)]
  exact⟨c,rfl,h1.2.2.2 σ w X X' hx hn hr _ hc⟩
 ·rw[if_neg (by rw[h1.1]; exact hag)]
  exact h1.2.2.2 σ w X X' hx hn hr _ g1
theorem Frz.tup {r:Nat} {row:Row} {q q':AV} (h:FrzT r row q q'):Frz r row (.tup q) (.tup q'):=by
 refine⟨rfl,fun e=>(by cases e),fun G g=>h.1 G g,fun σ w X X' hx hn hr cs hh=>?_⟩
 obtain⟨vs,rfl,h1⟩:=hh
 exact⟨vs,rfl,h.2 σ w X X' hx hn hr _ h1⟩
end Go.Eng
namespace Go.Eng
open Go.RowKit
section
variable {P : Program} {T : Tab} {n : Nat} {env : Env} {h : Upds}
end
end Go.Eng
namespace Go.Eng
open Go.RowKit
theorem iV:∀(l:List UInt8) (acc:ByteArray),(l.map fun b=>(b.toNat:Int)).foldl (fun r n=>r.push (UInt8.ofNat n.toNat)) acc=⟨acc.data++l.toArray⟩
 | [],acc=>by simp
 | b::l,acc=>by
  rw[List.map_cons,List.foldl_cons,iV l]
  have:UInt8.ofNat ((b.toNat:Int)).toNat=b:=by simp
  rw[this]
  apply ByteArray.ext
  apply Array.ext'
  simp[ByteArray.push]
theorem nw (l:List UInt8):mN (byI l)=mkS l:=by
 rw[mN,byI,iV l]
 apply ByteArray.ext
 simp[mkS]
section
variable {P : Program} {T : Tab} {n : Nat} {env : Env} {h : Upds}
end
end Go.Eng
namespace Go.Eng
open Go.RowKit
def rh (σ:au) (w:World) (X:Nat→Prop):List AV→List Value→Prop
 | [],vs=>vs=[]
 | a::bs9,vs=>∃v us,vs=v::us∧RelV σ w X a v∧rh σ w X bs9 us
def uc (w:World):Prop:=∀x∈ed,x.2 (w.heap[x.1]?)∧x.1<w.heap.size
variable {P : Program}
end Go.Eng
namespace Go.Proofs.YtmapiehigkfddaaDoor
open Go.ChangeShapes Go.WideShapes Go.ChangeAt Go.RowKit Go.Eng
theorem own:ownKnob Tryd.prog.godebug=none:=by kernel_rfl
theorem gE:laidOutB Tryd.prog=true:=by kernel_rfl
theorem gIni : Tryd.prog.globalNamed "caisson/digests.initial" = some 0 := by kernel_rfl
theorem gCon : Tryd.prog.globalNamed "caisson/digests.constants" = some 1 := by kernel_rfl
theorem tIni:(Tryd.prog.globals[0]?).map (·.type)=some 84:=by kernel_rfl
theorem tCon:(Tryd.prog.globals[1]?).map (·.type)=some 141:=by kernel_rfl
theorem fD {P:Program} {w:World} {n:String} {g:Nat} {cs:Array Value} (hg:P.globalNamed n=some g) (h:w.var? P n=some cs):∃t fr,w.heap[g]?=some (.cells cs t fr):=by
 unfold World.var? at h
 rw[hg]at h
 simp only[Option.bind_some]at h
 split at h
 ·rename_i t fr hh
  cases h
  exact⟨_,_,hh⟩
 ·cases h
theorem po {W:World} (hL:laidMetH Tryd.prog Rows.topTagsRow.laid W) (_:W.ShapedOpen Tryd.prog):∀x∈ed,x.2 (W.heap[x.1]?)∧x.1<W.heap.size:=by
 rw[MakeChecks.laidMetH_plain _ _ _ (by kernel_rfl)]at hL
 obtain⟨ps,⟨g1,t1,cs1,f1,p1,q1,hg1,ht1,hv1,hd1,⟨g2,t2,cs2,f2,p2,q2,hg2,ht2,hv2,hd2,_,_⟩,_⟩,_⟩:=hL
 obtain rfl:=Option.some.inj (gIni.symm.trans hg1)
 obtain rfl:=Option.some.inj (gCon.symm.trans hg2)
 obtain rfl:=Option.some.inj (tIni.symm.trans ht1)
 obtain rfl:=Option.some.inj (tCon.symm.trans ht2)
 have hc1:cs1.toList=jm.map fun z=>Value.int .u32 z:=Lib.cells_of_tab (zs:=jm) Tryd.underlying84 Tryd.underlying55 (by kernel_rfl) (by kernel_rfl) hd1
 have hc2:cs2.toList=jx.map fun z=>Value.int .u32 z:=Lib.cells_of_tab (zs:=jx) Tryd.underlying141 Tryd.underlying55 (by kernel_rfl) (by kernel_rfl) hd2
 obtain⟨a1,b1,hb1⟩:=fD gIni hv1
 obtain⟨a2,b2,hb2⟩:=fD gCon hv2
 have e1:cs1=(jm.map fun z=>Value.int .u32 z).toArray:=Array.ext' (by simpa using hc1)
 have e2:cs2=(jx.map fun z=>Value.int .u32 z).toArray:=Array.ext' (by simpa using hc2)
 intro x hx
 simp only[ed,List.mem_cons,List.not_mem_nil,or_false]at hx
 rcases hx with rfl | rfl
 ·refine⟨⟨a1,b1,?_⟩,(Array.getElem?_eq_some_iff.1 hb1).1⟩
  rw[hb1,e1]
 ·refine⟨⟨a2,b2,?_⟩,(Array.getElem?_eq_some_iff.1 hb2).1⟩
  rw[hb2,e2]
theorem nP {H:Type} {enc:TypeId×Value→H} {a:Assume} {C:Checked} {os:Os} {f:FuncId} {fn:Func} {s:ChangeSpec} {conds:List PathCond} {apart fresh handsOn again:Bool} {X:World→Array Value→Prop}
  (hX:∀(w w':World) (args:Array Value),w.heap=w'.heap→X w args→X w' args)
  (own:ownKnob C.prog.godebug=none) (started:os.Started) (noInit:C.prog.inits.idxOf? f=none) (hfn:C.prog.funcs[f]?=some fn)
  (witness:∃(w:World) (tape:Tape) (i:Input),w.os=os∧(w.forCall tape i).Shaped C.prog∧i.vars=[]∧Input.okWide C.prog (w.forCall tape i) .any w.heap.size f i ∧
   ((s.pre enc C.prog fn conds apart (w.forCall tape i).memory i.args∧X (w.forCall tape i).memory i.args)∧sizedMet enc C.prog fn (OpenSpec.ofChange s) apart (w.forCall tape i).memory i.args)∧a.holds C.prog (lone (Frame.enter C.prog f i.args .normal) [] (w.forCall tape i)))
  (contract:∀(W:World) (base:Nat) (args:Array Value) (ds gs:List (DataW H)) (before:List MemPlace),
   (∀(j:Nat) t v,fn.params[j]?=some t→args[j]?=some v→Value.okWide C.prog W .any base t v) →
   DataW.Whole enc C.prog fn.params.toList s.vars apart W args.toList ds gs before →
   X W args→W.ShapedOpen C.prog →
   Calls C.prog f args W fun e W'=>∃v,e=.returned v∧s.post enc C.prog fn apart fresh handsOn again W args v W') :
  ReturnsInHanded a C os f .any (fun w args=>(s.pre enc C.prog fn conds apart w args∧X w args)∧sizedMet enc C.prog fn (OpenSpec.ofChange s) apart w args) (s.post enc C.prog fn apart fresh handsOn again):=by
 refine returnsInHanded_of_calls own started noInit witness ?_
 intro w tape i _ hsh _ hok hpre _
 obtain⟨_,_,_,fn',hfn',_,_,_,_,hval⟩:=hok
 have e:fn'=fn:=Option.some.inj (hfn'.symm.trans hfn)
 subst e
 obtain⟨⟨⟨ds,gs,before,hw,hc⟩,hx⟩,hz⟩:=hpre
 have hw':=DataW.Whole.of_heap (w':=w.forCall tape i) (by rfl) hw
 refine (contract (w.forCall tape i) w.heap.size i.args ds gs before hval hw' (hX _ _ _ (by rfl) hx) hsh).mono fun e W' ⟨v,he,hp⟩=>?_
 subst he
 exact ChangeSpec.post_blind hp
end Go.Proofs.YtmapiehigkfddaaDoor
namespace Go.Proofs.YtmapiehigkfddaaDoor
open Go
theorem and2 {a b:Bool} (h:a=true) (k:b=true):(a&&b)=true:=by rw[h,k]; rfl
theorem qm:mapsRowed Tryd.prog=true:=by kernel_rfl
theorem qo:(Rows.topTagsRow.plainKeys==Tryd.prog.plainKeys)=true:=by kernel_rfl
theorem oV:Tryd.prog.stopsHeard=true:=by kernel_rfl
theorem oW:Tryd.prog.mayEnter=true:=by kernel_rfl
theorem oU:(Rows.topTagsRow.lifted==Tryd.prog.liftsFinal)=true:=by kernel_rfl
theorem qn:(Tryd.prog.make==some Rows.topTagsRow.make)=true:=by kernel_rfl
end Go.Proofs.YtmapiehigkfddaaDoor
namespace Go.Eng
open Go.RowKit
section
variable {P : Program} {T : Tab} {env : Env} {h : Upds} {n : Nat}
end
end Go.Eng
namespace Go.Eng
open Go.RowKit Go.Lib
section
variable {P : Program} {T : Tab} {env : Env} {h : Upds} {n : Nat}
end
end Go.Eng
namespace Go.Eng
open Go.RowKit
section
variable {P : Program} {T : Tab} {env : Env} {h : Upds} {n : Nat}
end
end Go.Eng
namespace Go.Eng
open Go.RowKit
section
variable {P : Program} {T : Tab} {env : Env} {h : Upds} {n : Nat}
end
end Go.Eng
namespace Go.Eng
open Go.RowKit
section
variable {P : Program} {T : Tab} {env : Env} {h : Upds} {n : Nat}
theorem add_add (a:Addr) (i j:Nat):(a.add i).add j=a.add (i+j):=by
 cases a with
 | mk b o w =>
  simp only[Addr.add]
  by_cases h1:i=0 <;> by_cases h2:j=0 <;> simp[h1,h2,Nat.add_assoc]
theorem lP (hT:ak P T) {t e:Nat} {re:TyR} {x i:Operand} {α:Type} {s:Nat} {enc:α→D} {xs:List α} {k:IntKind} {m:Nat} (ht:aI T t=some (.slice e)) (he:lk T e=some re) (hs:Nat.beq re.size s=true)
  (hx:ae env x=some (.d (.arr s enc xs))) (hi:ae env i=some (.int k m)) (h1:m≤xs.length):ab P (.slice t x (some i) none none) env h n (some (.d (.arr s enc (xs.drop m)))) []:=.of_comes fun C G st σ w a o ho hA hdst hst hn=>by
 obtain⟨ud,hud,hdd⟩:=aD hT ht
 cases hdd
 have hs:=Nat.eq_of_beq_eq_true hs
 obtain⟨hx1,_⟩:=ai hst (hA.ev hx)
 obtain⟨hi1,_⟩:=RelV.sc.1 (ai hst (hA.ev hi)).1
 have hsz:=(hT e re he).run_size (P:=P)
 have hlen:(xs.drop m).length=xs.length-m:=by rw[List.length_drop]
 rcases RelV.arr.1 hx1 with ⟨rfl,hv⟩ | ⟨ad,c,hv,hc1,hc2,f,hf⟩
 ·have hm0:m=0:=by simpa using h1
  subst hm0
  refine .quiet (u :=.slice none 0 0) hst hdst ⟨rfl,rfl⟩ ?_ (RelV.arr.2 (.inl ⟨rfl,rfl⟩)) trivial
  simp[execOp,ho,Instr.sliceAt,Instr.slice,hv,hi1,run_underlying hud,Instr.sliceBounds,Instr.sliceBound,asIntOf,hsz,Sem.run_bind,Sem.run_pure,Result.andThen_ok]
 ·have hlen2:¬xs.length<m:=by omega
  refine .quiet (u :=.slice (some (if c=m then ad else ad.add (m*s))) (xs.length-m) (c-m)) hst hdst ⟨rfl,rfl⟩ ?_ (RelV.arr.2 (.inr ⟨_,c-m,by rw[hlen],by rw[hlen]; omega,by omega,fun j=>f (j+m),fun j hj=>?_⟩)) trivial
  ·have hcm:¬c<m:=by omega
   simp[execOp,ho,Instr.sliceAt,Instr.slice,hv,hi1,run_underlying hud,Instr.sliceBounds,Instr.sliceBound,asIntOf,hsz,hs,Sem.run_bind,Sem.run_pure,Result.andThen_ok,hlen2,hcm]
   rw[if_pos h1]
   split <;> rfl
  ·have hj2:j+m<xs.length:=by rw[hlen]at hj; omega
   obtain⟨g1,g2,g3⟩:=hf (j+m) hj2
   refine⟨by rw[List.getElem_drop]; simpa[Nat.add_comm]using g1,g2,fun q u hu=>?_⟩
   have:=g3 q u hu
   rw[if_neg (by omega),add_add,Addr.add_block]
   rw[show m*s+(j*s+q)=(j+m)*s+q by rw[Nat.add_mul]; omega]
   exact this
end
end Go.Eng
namespace Go.Eng
open Go.RowKit
section
variable {P : Program} {T : Tab} {env : Env} {h : Upds} {n : Nat}
theorem eD (hT:ak P T) {x y:Operand} {t t':TypeId} {k:IntKind} {a b:Nat} {c:Int} (hx:ae env x=some (.int k a)) (hy:ae env y=some (.int k c)) (hc:c=(b:Int)) (hb:b≠0):ab P (.binOp .rem t x y t') env h n (some (.int k ((a % b:Nat):Int))) []:=by
 subst hc
 have:=mR (P:=P) (h:=h) (n:=n) (t:=t) (t':=t') hT hx hy (by omega:(b:Int)≠0)
 rwa [show ((a:Int).tmod b)=((a % b:Nat):Int) from rfl]at this
end
end Go.Eng
namespace Go.Eng
open Go.RowKit
section
variable {P : Program} {T : Tab} {env : Env} {h : Upds} {n : Nat}
end
end Go.Eng
namespace Go.Eng
open Go.RowKit
section
variable {P : Program} {T : Tab} {env : Env} {h : Upds} {n : Nat}
end
end Go.Eng
namespace Go.Eng
open Go.RowKit
def chM (A:AV):List D→AV
 | []=>.acons A .anil
 | d::l=>.acons (.d d) (chM A l)
end Go.Eng
namespace Go.Eng
open Go.RowKit
section
variable {P : Program} {T : Tab} {env : Env} {h : Upds} {n : Nat}
end
def chF (A:AV) (l:List D):AV :=.acons A (dsAV l)
section
variable {P : Program} {T : Tab} {env : Env} {h : Upds} {n : Nat}
end
end Go.Eng
namespace Go.Eng
open Go.RowKit
end Go.Eng
namespace Go.Eng
open Go.RowKit Go.Sort
abbrev uh (n:Int):D :=.sc (.int .i64 n)
variable {P : Program}
end Go.Eng
namespace Go.Eng
open Go.RowKit
variable {P : Program} {f : FuncId} {avs avs' : List AV} {h0 : List (Nat × Row)} {res : AV}
def Tells (avs:List AV) (h0:List (Nat×Row)) (avs':List AV) (h0':List (Nat×Row)):Prop :=
 ∀(C:Ctx) (G:Nat→Prop) (σ:au) (w:World) (a:Act),an C G (inSt avs h0) σ w a→an C G (inSt avs' h0') σ w a
def ue (res:AV):Prop:=(∀(σ σ':au) (w w':World) (X X':Nat→Prop) (v:Value),RelV σ w X res v→RelV σ' w' X' res v)∧∀G:Nat→Prop,res.within G
end Go.Eng
namespace Go.Eng
open Go.RowKit
end Go.Eng
namespace Go.Eng
open Go.RowKit
section
variable {P : Program} {T : Tab} {env : Env} {h : Upds} {n : Nat}
theorem c6 {f:Operand} {args:Array Operand} {ts:Array TypeId} {g:FuncId} {first caps:AV} {bs9 avs:List AV} {h0 rows:List (Nat×Row)} {res v:AV} {u:Upds} (l:bd)
  (hfn:FnIs P g avs h0 res rows) (hf:ae env f=some (.fn (.func g) first caps)) (hl:evL (ae env) args.toList=some bs9) (hc1:first.chain=true) (hc2:caps.chain=true)
  (ha:bf (aK h) (rho l) (a8 first++(bs9++a8 caps)) avs) (hr:RowsIn (aK h) l h0) (hi:cT (rho l) (aZ h0)=true) (hk:dK l h0=true)
  (hm:bz (a8 first++(bs9++a8 caps)) avs=true∨h0=[]∧bp res rows) (hv:res.ren (df l n)=v) (hu:ba l n h0 rows=u) :
  ab P (.call { callee :=.value f,args:=args,argTypes:=ts }) env h n (some v) u:=by
 have:=ab.call (n:=n) (ts:=ts) (h0:=h0) (rows:=rows) (res:=res) l hfn hf hl hc1 hc2 ha hr hi hk hm
 rw[hv,hu]at this
 exact this
end
end Go.Eng
namespace Go.Eng
open Go.RowKit
section
variable {P : Program} {T : Tab} {env : Env} {h : Upds} {n : Nat}
theorem bc (hT:ak P T) {t e L s:Nat} {re:TyR} {x:Operand} {α:Type} {enc:α→D} {xs:List α} (ht:aI T t=some (.array L e)) (he:lk T e=some re) (hx:ae env x=some (.d (.pt (.vec L s enc xs)))) (hL:Nat.ble L 1048576=true) (hs0:Nat.blt 0 s=true) :
  ab P (.slice t x none none none) env h n (some (.d (.arr s enc xs))) []:=.of_comes fun C G st σ w a o ho hA hdst hst hn=>by
 obtain⟨ud,hud,hdd⟩:=aD hT ht
 cases hdd
 have hL:=Nat.le_of_ble_eq_true hL
 have hs0:=Nat.le_of_ble_eq_true hs0
 have hsz:=(hT e re he).run_size (P:=P)
 obtain⟨ad,cs,hv,⟨hl,f,hf,hcs⟩,hc⟩:=RelV.iptr.1 (RelV.pt.1 (ai hst (hA.ev hx)).1)
 have hmax:(1048576:Nat)≤maxLen:=by decide
 refine .quiet (u :=.slice (some ad) L L) hst hdst ⟨rfl,rfl⟩ ?_ (RelV.arr.2 (.inr ⟨ad,L,by rw[hl],by omega,by omega,f,fun i hi=>⟨(hf i hi).1,(hf i hi).2,fun j u hj=>?_⟩⟩)) trivial
 ·simp[execOp,ho,Instr.sliceAt,hv,Instr.sureAddr,run_underlying hud,Instr.sliceBounds,Instr.sliceBound,asIntOf,hsz,Sem.run_bind,Sem.run_pure,Result.andThen_ok,Addr.add_zero']
 ·have hjs:j<s:=by rw[←(hf i hi).2]; exact (List.getElem?_eq_some_iff.1 hj).1
  have:=bK xs.length (fun i hi=>(hf i hi).2) i j hi hjs
  rw[hj]at this
  refine hc _ _ ?_
  rw[hcs,←hl]
  exact this
end
end Go.Eng
namespace Go.Eng
open Go.RowKit
section
variable {P : Program} {T : Tab} {env : Env} {h : Upds} {n : Nat}
theorem eS (hT:ak P T) {t e L s m:Nat} {re:TyR} {x i:Operand} {k:IntKind} {α:Type} {enc:α→D} {xs:List α} (ht:aI T t=some (.array L e)) (he:lk T e=some re) (hs:Nat.beq re.size s=true) (hx:ae env x=some (.d (.pt (.vec L s enc xs)))) (hi:ae env i=some (.int k m)) (hL:Nat.ble L 1048576=true) (hs0:Nat.blt 0 s=true) (hm:Nat.blt m L=true) :
  ab P (.slice t x (some i) none none) env h n (some (.d (.arr s enc (xs.drop m)))) []:=.of_comes fun C G st σ w a o ho hA hdst hst hn=>by
 obtain⟨ud,hud,hdd⟩:=aD hT ht
 cases hdd
 have hs:=Nat.eq_of_beq_eq_true hs
 have hL:=Nat.le_of_ble_eq_true hL
 have hm:=Nat.le_of_ble_eq_true hm
 have hs0:=Nat.le_of_ble_eq_true hs0
 have hsz:=(hT e re he).run_size (P:=P)
 obtain⟨hi1,_⟩:=RelV.sc.1 (ai hst (hA.ev hi)).1
 obtain⟨ad,cs,hv,⟨hl,f,hf,hcs⟩,hc⟩:=RelV.iptr.1 (RelV.pt.1 (ai hst (hA.ev hx)).1)
 have hmax:(1048576:Nat)≤maxLen:=by decide
 have hlen:(xs.drop m).length=L-m:=by rw[List.length_drop,hl]
 refine .quiet (u :=.slice (some (ad.add (m*s))) (L-m) (L-m)) hst hdst ⟨rfl,rfl⟩ ?_ (RelV.arr.2 (.inr ⟨_,L-m,by rw[hlen],by rw[hlen]; omega,by omega,fun j=>f (j+m),fun j hj=>?_⟩)) trivial
 ·have hcm:¬L<m:=by omega
  have h1:m≤L:=by omega
  have h2:¬L=m:=by omega
  simp[execOp,ho,Instr.sliceAt,hv,hi1,Instr.sureAddr,run_underlying hud,Instr.sliceBounds,Instr.sliceBound,asIntOf,hsz,hs,Sem.run_bind,Sem.run_pure,Result.andThen_ok,Addr.add_zero',hcm,h1,h2]
 ·have hj2:j+m<xs.length:=by rw[hlen]at hj; omega
  obtain⟨g1,g2⟩:=hf (j+m) hj2
  refine⟨by rw[List.getElem_drop]; simpa[Nat.add_comm]using g1,g2,fun q u hu=>?_⟩
  have hqs:q<s:=by rw[←g2]; exact (List.getElem?_eq_some_iff.1 hu).1
  have:=bK xs.length (fun i hi=>(hf i hi).2) (j+m) q hj2 hqs
  rw[hu]at this
  rw[add_add,Addr.add_block,show m*s+(j*s+q)=(j+m)*s+q by rw[Nat.add_mul]; omega]
  refine hc _ _ ?_
  rw[hcs,←hl]
  exact this
end
end Go.Eng
namespace Go.Eng
open Go.RowKit
variable {P : Program} {op : Op} {env : Env} {h : Upds} {n : Nat} {av av' : AV} {row : Row}
theorem ab.frozen (hs:ab P op env h n (some av) [(n,some row)]) (hf:Frz n row av av'):ab P op env h n (some av') []:=by
 intro C G st σ w a o ho hA hd hst hn hb next Q hnext
 refine hs C G st σ w a o ho hA hd hst hn hb next Q fun x w' σ' G' hst' h1 h2=>?_
 have hnr:∀q row',st.row q=some row'→q≠n:=fun q row' hq e=>by
  subst e
  exact hn q (Nat.le_refl _) (by omega) (hst.rowsG _ _ hq).1
 have hrow:(st.put o.dst (some av) [(n,some row)]).row n=some row:=by
  simp[St.put,St.row,aC]
 have hrow2:∀q row',q≠n→st.row q=some row'→(st.put o.dst (some av) [(n,some row)]).row q=some row':=fun q row' hq hr=>by
  simp only[St.put,St.row,List.cons_append,List.nil_append,aC,if_neg (Ne.symm hq)]
  exact hr
 refine hnext x w' σ' G' (hst'.freeze (st':=st.put o.dst (some av') []) n row hrow (fun i v' hi=>?_) (fun q x' hq=>?_) rfl rfl) h1 h2
 ·cases hdst:o.dst with
  | none =>
   simp only[St.put,hdst]at hi ⊢
   exact⟨v',hi,.refl _⟩
  | some d =>
   simp only[St.put,hdst,aC]at hi ⊢
   split at hi
   ·rename_i e
    rw[if_pos e]
    simp only[Option.some.injEq]at hi
    exact⟨av,rfl,by rw[←hi]; exact hf⟩
   ·rename_i e
    rw[if_neg e]
    exact⟨v',hi,.refl _⟩
 ·have hq':st.row q=some x':=hq
  exact⟨hnr q x' hq',x',hrow2 q x' (hnr q x' hq') hq',.refl _⟩
end Go.Eng
namespace Go.Eng
open Go.RowKit
section
variable {P : Program} {T : Tab} {env : Env} {h : Upds} {n : Nat}
theorem mD {t t':Nat} {x y:Operand} {k:IntKind} {a b m:Nat} (hk:k.signed=false) (hx:ae env x=some (.int k a)) (hy:ae env y=some (.int k b)) (ha:a<2 ^ k.bits) (hb:b<2 ^ k.bits) (hm:a ^^^ b=m) :
  ab P (.binOp .xor t x y t') env h n (some (.int k m)) []:=.of_comes fun C G st σ w ac o ho hA hdst hst hn=>by
 obtain⟨hv,_⟩:=RelV.sc.1 (ai hst (hA.ev hx)).1
 obtain⟨hy1,_⟩:=RelV.sc.1 (ai hst (hA.ev hy)).1
 refine .quiet (u :=.int k m) hst hdst ⟨rfl,rfl⟩ ?_ (RelV.sc.2 ⟨rfl,rfl⟩) trivial
 have h2:(binOp .xor t (.int k a) (.int k b)).run P w=.ok (.int k m) w:=by
  have e:(binOp .xor t (.int k a) (.int k b))=Op.intBits .xor k a b:=by simp[binOp]
  rw[e]
  simp only[Op.intBits]
  have h3:(BitVec.ofInt k.bits (a:Int) ^^^ BitVec.ofInt k.bits (b:Int)).toNat=m:=by
   simp only[BitVec.ofInt_natCast,BitVec.toNat_xor,BitVec.toNat_ofNat,Nat.mod_eq_of_lt ha,Nat.mod_eq_of_lt hb,hm]
  rw[h3,cW hk (by rw[←hm]; exact Nat.xor_lt_two_pow ha hb)]
  rfl
 simp only[execOp,ho,hv,hy1,Sem.run_bind,k9,Result.andThen_ok,h2,Sem.run_pure]
end
end Go.Eng
namespace Go.Eng
open Go.RowKit
section
variable {P : Program} {T : Tab} {env : Env} {h : Upds} {n : Nat}
theorem n1 {t:Nat} {x:Operand} {k:IntKind} {a m:Nat} (hk:k.signed=false) (hx:ae env x=some (.int k a)) (ha:a<2 ^ k.bits) (hm:(2 ^ k.bits-1) ^^^ a=m) :
  ab P (.unOp .xor t x) env h n (some (.int k m)) []:=.of_comes fun C G st σ w ac o ho hA hdst hst hn=>by
 obtain⟨hv,_⟩:=RelV.sc.1 (ai hst (hA.ev hx)).1
 refine .quiet (u :=.int k m) hst hdst ⟨rfl,rfl⟩ ?_ (RelV.sc.2 ⟨rfl,rfl⟩) trivial
 have hpos:0<2 ^ k.bits:=Nat.two_pow_pos _
 have hmax:(if k.signed then-1 else k.max:Int)=((2 ^ k.bits-1:Nat):Int):=by
  cases k <;> first | (exact absurd hk (by decide)) | decide
 have h2:(Op.unary .xor (.int k a)).run P w=.ok (.int k m) w:=by
  simp only[Op.unary]
  rw[hmax]
  simp only[Op.intBits]
  have h3:(BitVec.ofInt k.bits ((2 ^ k.bits-1:Nat):Int) ^^^ BitVec.ofInt k.bits (a:Int)).toNat=m:=by
   rw[BitVec.ofInt_natCast,BitVec.ofInt_natCast,BitVec.toNat_xor,BitVec.toNat_ofNat,BitVec.toNat_ofNat,Nat.mod_eq_of_lt ha,Nat.mod_eq_of_lt (by omega),hm]
  rw[h3,cW hk (by rw[←hm]; exact Nat.xor_lt_two_pow (by omega) ha)]
  rfl
 simp only[execOp,ho,hv,Sem.run_bind,Result.andThen_ok,h2,Sem.run_pure]
theorem qy (hT:ak P T) {t:TypeId} {x:Operand} {k:IntKind} {a m:Int} (hx:ae env x=some (.int k a)) (hm:k.wrap (-a)=m):ab P (.unOp .neg t x) env h n (some (.int k m)) []:=.of_opD hT fun K hK=>by
 simp only[opD,hx]
 exact⟨m,hm,hK⟩
theorem nK (hT:ak P T) {t:TypeId} {g:Nat} {y:D} {p:Option Obj→Prop} (hg:(g,p)∈ed) (hp:∀o,p o→∃cs ty fr,o=some (.cells cs ty fr)∧∀w X,Enc w X y cs.toList) (hs:aN T t (.d y)=true) :
  ab P (.load t (.global g)) env h n (some (.d y)) []:=.of_comes fun C G st σ w ac o ho hA hdst hst hn=>by
 obtain⟨g1,g2,g3⟩:=hst.glob (g,p) hg
 obtain⟨cs,ty,fr,ho1,he⟩:=hp _ g1
 have hblk:w.heap[g]?=some (.cells cs ty fr):=by rw[hst.below.block g g2 g3]; exact ho1
 obtain⟨tr,htr,hsz,hf,hag⟩:=aN.out hs
 have hE:=he w (st.X C.X0 σ)
 have hm':Rel σ w (st.X C.X0 σ) (.d y) false cs.toList:=hE
 have hl:cs.toList.length=tr.size:=by rw[Rel.len _ _ hf hm',hsz]
 have hst':jC w ⟨g,0,none⟩ cs.toList:=fun j u hj=>by
  have hadd:(⟨g,0,none⟩:Addr).add j=⟨g,j,none⟩:=by unfold Addr.add; split <;> simp_all
  rw[hadd]
  simpa[World.cell?,hblk]using hj
 obtain⟨u,hrun,hrel⟩:=cF (hT t tr htr) hst' hl hm' hf hag
 refine .quiet hst hdst ⟨rfl,rfl⟩ ?_ hrel trivial
 have hev:ac.eval (.global g)=.pointer (some ⟨g,0,none⟩):=rfl
 simp[execOp,ho,Instr.loadAt,hev,Instr.sureAddr,hrun]
end
end Go.Eng
namespace Go.Eng
open Go.RowKit
section
variable {P : Program} {T : Tab} {env : Env} {h : Upds} {n : Nat} {t t' : Nat} {x y : Operand}
theorem mM (a:UInt8):a.toNat<2 ^ IntKind.u8.bits:=a.toNat_lt
theorem eW (a:UInt32):a.toNat<2 ^ IntKind.u32.bits:=a.toNat_lt
theorem fh (m:Nat):IntKind.u8.wrap (m:Int)=((UInt8.ofNat m).toNat:Int):=by
 simp[IntKind.wrap,IntKind.signed,IntKind.bits]
theorem iR (m:Nat):IntKind.u32.wrap (m:Int)=((UInt32.ofNat m).toNat:Int):=by
 simp[IntKind.wrap,IntKind.signed,IntKind.bits]
theorem rB {a b:UInt8} (hx:ae env x=some (.int .u8 a.toNat)) (hy:ae env y=some (.int .u8 b.toNat)):ab P (.binOp .xor t x y t') env h n (some (.int .u8 (a ^^^ b).toNat)) []:=mD rfl hx hy (mM a) (mM b) (UInt8.toNat_xor a b).symm
theorem ey {a b:UInt32} (hx:ae env x=some (.int .u32 a.toNat)) (hy:ae env y=some (.int .u32 b.toNat)):ab P (.binOp .xor t x y t') env h n (some (.int .u32 (a ^^^ b).toNat)) []:=mD rfl hx hy (eW a) (eW b) (UInt32.toNat_xor a b).symm
theorem fE {a b:UInt32} (hx:ae env x=some (.int .u32 a.toNat)) (hy:ae env y=some (.int .u32 b.toNat)):ab P (.binOp .and t x y t') env h n (some (.int .u32 (a &&& b).toNat)) []:=fF rfl hx hy (eW a) (eW b) (UInt32.toNat_and a b).symm
theorem tP {a b:UInt8} (hx:ae env x=some (.int .u8 a.toNat)) (hy:ae env y=some (.int .u8 b.toNat)):ab P (.binOp .or t x y t') env h n (some (.int .u8 (a ||| b).toNat)) []:=jP rfl hx hy (mM a) (mM b) (UInt8.toNat_or a b).symm
theorem rY {a b:UInt32} (hx:ae env x=some (.int .u32 a.toNat)) (hy:ae env y=some (.int .u32 b.toNat)):ab P (.binOp .or t x y t') env h n (some (.int .u32 (a ||| b).toNat)) []:=jP rfl hx hy (eW a) (eW b) (UInt32.toNat_or a b).symm
theorem eQ {a b:UInt32} (hT:ak P T) (hx:ae env x=some (.int .u32 a.toNat)) (hy:ae env y=some (.int .u32 b.toNat)):ab P (.binOp .add t x y t') env h n (some (.int .u32 (a+b).toNat)) []:=aY hT hx hy (by
 rw[show (a.toNat:Int)+(b.toNat:Int)=((a.toNat+b.toNat:Nat):Int) by push_cast; rfl,iR]
 first | rfl | (congr 1; rw[UInt32.toNat_add,UInt32.toNat_ofNat']))
theorem qv {a:UInt32} (hx:ae env x=some (.int .u32 a.toNat)):ab P (.unOp .xor t x) env h n (some (.int .u32 (~~~a).toNat)) []:=n1 rfl hx (eW a) (by
 have h1:(BitVec.allOnes 32 ^^^ a.toBitVec).toNat=(2 ^ 32-1) ^^^ a.toNat:=by rw[BitVec.toNat_xor,BitVec.toNat_allOnes]; rfl
 have h2:BitVec.allOnes 32 ^^^ a.toBitVec = ~~~ a.toBitVec:=by rw[BitVec.not_def,BitVec.xor_comm]
 rw[show IntKind.u32.bits=32 from rfl,←h1,h2]
 rfl)
theorem dE {a b c:UInt32} (hT:ak P T) (hx:ae env x=some (.int .u32 a.toNat)) (hy:ae env y=some (.int .u32 b.toNat)) (hc:a+b=c):ab P (.binOp .add t x y t') env h n (some (.int .u32 c.toNat)) []:=by
 subst hc; exact eQ hT hx hy
theorem dm {a b c:UInt32} (hx:ae env x=some (.int .u32 a.toNat)) (hy:ae env y=some (.int .u32 b.toNat)) (hc:a ^^^ b=c):ab P (.binOp .xor t x y t') env h n (some (.int .u32 c.toNat)) []:=by
 subst hc; exact ey hx hy
theorem ce {a b c:UInt8} (hx:ae env x=some (.int .u8 a.toNat)) (hy:ae env y=some (.int .u8 b.toNat)) (hc:a ^^^ b=c):ab P (.binOp .xor t x y t') env h n (some (.int .u8 c.toNat)) []:=by
 subst hc; exact rB hx hy
end
end Go.Eng
namespace Go.Plain
def putN:Nat→Nat→List UInt8
 | 0,_=>[]
 | i+1,v=>(v/256 ^ i).toUInt8::putN i v
theorem bM:∀(m v:Nat),(putN m v).length=m
 | 0,_=>rfl
 | i+1,v=>by simp[putN,bM i v]
def getN (l:List UInt8):Nat:=l.foldl (fun a b=>a*256+b.toNat) 0
def jo (l:List UInt8):UInt32:=UInt32.ofNat (getN l)
def xorB (a b:List UInt8):List UInt8:=List.zipWith (· ^^^ ·) a b
def rotl (x:UInt32) (s:Nat):UInt32:=UInt32.ofNat (x.toNat*2 ^ s) ||| UInt32.ofNat (x.toNat/2 ^ (32-s))
def rotr (x:UInt32) (s:Nat):UInt32:=rotl x (32-s)
def schF (w:List UInt32) (t:Nat):UInt32 :=
 let x:=w[t-15]?.getD 0
 let y:=w[t-2]?.getD 0
 (rotr y 17 ^^^ rotr y 19 ^^^ UInt32.ofNat (y.toNat/2 ^ 10))+w[t-7]?.getD 0+(rotr x 7 ^^^ rotr x 18 ^^^ UInt32.ofNat (x.toNat/2 ^ 3))+w[t-16]?.getD 0
def sch1 (b:List UInt8):Nat→List UInt32
 | 0=>List.replicate 64 0
 | t+1=>(sch1 b t).set t (jo ((b.drop (4*t)).take 4))
def sch2:Nat→Nat→List UInt32→List UInt32
 | 0,_,w=>w
 | k+1,t,w=>sch2 k (t+1) (w.set t (schF w t))
def sch (b:List UInt8):List UInt32:=sch2 48 16 (sch1 b 16)
def rnd (x:List UInt32) (k w:UInt32):List UInt32:=match x with
 | [a,b,c,d,e,f,g,h] =>
  let t1:=h+(rotr e 6 ^^^ rotr e 11 ^^^ rotr e 25)+((e &&& f) ^^^ (~~~e &&& g))+k+w
  let t2:=(rotr a 2 ^^^ rotr a 13 ^^^ rotr a 22)+((a &&& b) ^^^ (a &&& c) ^^^ (b &&& c))
  [t1+t2,a,b,c,d+t1,e,f,g]
 | _=>[]
def rnds:List UInt32→List UInt32→List UInt32→List UInt32
 | k::ks,w::ws,x=>rnds ks ws (rnd x k w)
 | _,_,x=>x
def ia:List UInt32:=[0x6a09e667,0xbb67ae85,0x3c6ef372,0xa54ff53a,0x510e527f,0x9b05688c,0x1f83d9ab,0x5be0cd19]
def dU:List UInt32:=[
 0x428a2f98,0x71374491,0xb5c0fbcf,0xe9b5dba5,0x3956c25b,0x59f111f1,0x923f82a4,0xab1c5ed5,
 0xd807aa98,0x12835b01,0x243185be,0x550c7dc3,0x72be5d74,0x80deb1fe,0x9bdc06a7,0xc19bf174,
 0xe49b69c1,0xefbe4786,0x0fc19dc6,0x240ca1cc,0x2de92c6f,0x4a7484aa,0x5cb0a9dc,0x76f988da,
 0x983e5152,0xa831c66d,0xb00327c8,0xbf597fc7,0xc6e00bf3,0xd5a79147,0x06ca6351,0x14292967,
 0x27b70a85,0x2e1b2138,0x4d2c6dfc,0x53380d13,0x650a7354,0x766a0abb,0x81c2c92e,0x92722c85,
 0xa2bfe8a1,0xa81a664b,0xc24b8b70,0xc76c51a3,0xd192e819,0xd6990624,0xf40e3585,0x106aa070,
 0x19a4c116,0x1e376c08,0x2748774c,0x34b0bcb5,0x391c0cb3,0x4ed8aa4a,0x5b9cca4f,0x682e6ff3,
 0x748f82ee,0x78a5636f,0x84c87814,0x8cc70208,0x90befffa,0xa4506ceb,0xbef9a3f7,0xc67178f2]
def cmp (h:List UInt32) (b:List UInt8):List UInt32:=List.zipWith (· + ·) h (rnds dU (sch b) h)
structure DSt where
 h:List UInt32
 rest:List UInt8
 many:Nat
def dst0:DSt:=⟨ia,List.replicate 64 0,0⟩
def wr1 (s:DSt) (b:List UInt8):DSt×List UInt8 :=
 let at_:=s.many % 64
 let n:=min (64-at_) b.length
 let rest:=s.rest.take at_++b.take n++s.rest.drop (at_+n)
 (⟨if at_+n=64 then cmp s.h rest else s.h,rest,s.many+n⟩,b.drop n)
def wrG:Nat→DSt→List UInt8→DSt
 | 0,s,_=>s
 | n+1,s,b=>if b=[] then s else wrG n (wr1 s b).1 (wr1 s b).2
def wrD (s:DSt) (b:List UInt8):DSt:=wrG b.length s b
def padG:Nat→DSt→DSt
 | 0,s=>s
 | n+1,s=>if s.many % 64=56 then s else padG n (wrD s [0])
def sumD (s:DSt):List UInt8:=(wrD (padG 64 (wrD s [0x80])) (putN 8 (8*s.many))).h.flatMap fun v=>putN 4 v.toNat
def digD (parts:List (List UInt8)):List UInt8:=sumD (parts.foldl wrD dst0)
def kblk (key:List UInt8):List UInt8 :=
 let k:=if 64<key.length then digD [key] else key
 k++List.replicate (64-k.length) 0
def padK (key:List UInt8) (x:UInt8):List UInt8:=xorB (kblk key) (List.replicate 64 x)
def macD (key:List UInt8) (parts:List (List UInt8)):List UInt8:=digD [padK key 0x5c,sumD ((padK key 0x36::parts).foldl wrD dst0)]
end Go.Plain
namespace Go.Proofs.YtmapiehigkfddaaDoor
open Go.Eng
theorem dF {p:Prop} [Decidable p] (h:¬p):decide p=false:=decide_eq_false h
theorem dT {p:Prop} [Decidable p] (h:p):decide p=true:=decide_eq_true h
abbrev u0:TyR := { desc :=.cell,size:=1,bytes:=8,zero :=.sc .nilFunc }
abbrev u1:TyR := { desc :=.array 32 5,size:=32,bytes:=32,zero :=.vec 32 1 aF (List.replicate 32 0) }
abbrev u2:TyR := { desc :=.int .i64,size:=1,bytes:=8,zero :=.sc (.int .i64 0) }
abbrev u3:TyR := { desc :=.int .u64,size:=1,bytes:=8,zero :=.sc (.int .u64 0) }
abbrev u4:TyR := { desc :=.cell,size:=1,bytes:=8,zero :=.sc (.pointer none) }
section
variable {p : Prop}
theorem zM (h:p:=by exact⟨rfl,mapD_lt _,_,rfl,aL.of_eq (by simp only[Row.ren,mapD_ren])⟩):p:=h
theorem zN (h:p:=by exact⟨rfl,mapD_lt _,_,_,rfl,rfl,aL.of_eq (by simp only[Row.ren,mapD_ren])⟩):p:=h
theorem zK (h:p:=by exact⟨rfl,mapD_lt _,mapD_okm _,rfl⟩):p:=h
theorem zR (h:p:=by exact⟨rfl,rfl,_,rfl,.refl _⟩):p:=h
theorem zH (h:p:=by exact⟨rfl,rfl,_,_,rfl,rfl,.refl _⟩):p:=h
theorem zF (h:p:=by exact⟨rfl,_,rfl,FrzR.refl _⟩):p:=h
theorem zV (h:p:=by exact⟨⟨_,rfl,AVLe.of_eq rfl⟩,rfl,trivial⟩):p:=h
theorem za (h:p:=by exact⟨⟨_,rfl,.refl _⟩,rfl,⟨_,rfl,.refl _⟩,rfl,⟨_,rfl,.refl _⟩,rfl,⟨_,rfl,.refl _⟩,rfl,⟨_,rfl,.refl _⟩,rfl,⟨_,rfl,.refl _⟩,rfl,⟨_,rfl,.refl _⟩,rfl,⟨_,rfl,.refl _⟩,rfl,⟨_,rfl,.refl _⟩,rfl,⟨_,rfl,.refl _⟩,rfl,⟨_,rfl,.refl _⟩,rfl,⟨_,rfl,.refl _⟩,rfl,trivial⟩):p:=h
theorem zb (h:p:=by exact⟨⟨_,rfl,.refl _⟩,rfl,⟨_,rfl,.refl _⟩,rfl,⟨_,rfl,.refl _⟩,rfl,⟨_,rfl,.refl _⟩,rfl,⟨_,rfl,.refl _⟩,rfl,⟨_,rfl,.refl _⟩,rfl,⟨_,rfl,.refl _⟩,rfl,⟨_,rfl,.refl _⟩,rfl,⟨_,rfl,.refl _⟩,rfl,⟨_,rfl,.refl _⟩,rfl,⟨_,rfl,.refl _⟩,rfl,trivial⟩):p:=h
theorem zc (h:p:=by exact⟨⟨_,rfl,.refl _⟩,rfl,⟨_,rfl,.refl _⟩,rfl,⟨_,rfl,.refl _⟩,rfl,⟨_,rfl,.refl _⟩,rfl,⟨_,rfl,.refl _⟩,rfl,⟨_,rfl,.refl _⟩,rfl,⟨_,rfl,.refl _⟩,rfl,⟨_,rfl,.refl _⟩,rfl,⟨_,rfl,.refl _⟩,rfl,⟨_,rfl,.refl _⟩,rfl,trivial⟩):p:=h
theorem zd (h:p:=by exact⟨⟨_,rfl,.refl _⟩,rfl,⟨_,rfl,.refl _⟩,rfl,⟨_,rfl,.refl _⟩,rfl,⟨_,rfl,.refl _⟩,rfl,⟨_,rfl,.refl _⟩,rfl,⟨_,rfl,.refl _⟩,rfl,⟨_,rfl,.refl _⟩,rfl,⟨_,rfl,.refl _⟩,rfl,⟨_,rfl,.refl _⟩,rfl,trivial⟩):p:=h
theorem ze (h:p:=by exact⟨⟨_,rfl,.refl _⟩,rfl,⟨_,rfl,.refl _⟩,rfl,⟨_,rfl,.refl _⟩,rfl,⟨_,rfl,.refl _⟩,rfl,⟨_,rfl,.refl _⟩,rfl,⟨_,rfl,.refl _⟩,rfl,⟨_,rfl,.refl _⟩,rfl,⟨_,rfl,.refl _⟩,rfl,trivial⟩):p:=h
theorem zf (h:p:=by exact⟨⟨_,rfl,.refl _⟩,rfl,⟨_,rfl,.refl _⟩,rfl,⟨_,rfl,.refl _⟩,rfl,⟨_,rfl,.refl _⟩,rfl,⟨_,rfl,.refl _⟩,rfl,⟨_,rfl,.refl _⟩,rfl,⟨_,rfl,.refl _⟩,rfl,trivial⟩):p:=h
theorem zg (h:p:=by exact⟨⟨_,rfl,.refl _⟩,rfl,⟨_,rfl,.refl _⟩,rfl,⟨_,rfl,.refl _⟩,rfl,⟨_,rfl,.refl _⟩,rfl,⟨_,rfl,.refl _⟩,rfl,⟨_,rfl,.refl _⟩,rfl,trivial⟩):p:=h
theorem zh (h:p:=by exact⟨⟨_,rfl,.refl _⟩,rfl,⟨_,rfl,.refl _⟩,rfl,⟨_,rfl,.refl _⟩,rfl,⟨_,rfl,.refl _⟩,rfl,⟨_,rfl,.refl _⟩,rfl,trivial⟩):p:=h
theorem zi (h:p:=by exact⟨⟨_,rfl,.refl _⟩,rfl,⟨_,rfl,.refl _⟩,rfl,⟨_,rfl,.refl _⟩,rfl,⟨_,rfl,.refl _⟩,rfl,trivial⟩):p:=h
theorem zj (h:p:=by exact⟨⟨_,rfl,.refl _⟩,rfl,⟨_,rfl,.refl _⟩,rfl,⟨_,rfl,.refl _⟩,rfl,trivial⟩):p:=h
theorem zk (h:p:=by exact⟨⟨_,rfl,.refl _⟩,rfl,⟨_,rfl,.refl _⟩,rfl,trivial⟩):p:=h
theorem zl (h:p:=by exact⟨⟨_,rfl,.refl _⟩,rfl,trivial⟩):p:=h
theorem zE (h:p:=by exact⟨_,rfl,.refl _⟩):p:=h
end
theorem lg {l:bd} {st st':St} (h6:gr (rho l) st.env st'.next st'.env) (h7:eu (rho l) st st'.next st'.heap) (h1:cT (rho l) (aZ st'.heap)=true:=by exact rfl) (h2:st'.sz=st.sz:=by exact rfl) (h3:st'.bs=st.bs:=by exact rfl) (h4:Nat.ble st'.bs st'.next=true:=by exact rfl) (h5:cv st'.bs l=true:=by exact rfl):Le l st st' :=.of h1 h2 h3 h4 h5 h6 h7
theorem mT {t:Nat} {r:TyR} {u:TypeDesc} (h3:Tryd.prog.underlying t=some u) (h1:(Tryd.prog.info? t).map (fun i=>(i.size,i.bytes,i.zero))=some (r.size,r.bytes,some (zval r.zero)):=by kernel_rfl) (h2:(r.zero.okC&&Nat.beq r.zero.size r.size)=true:=by kernel_rfl) (h4:ju Tryd.prog r.desc u=true:=by kernel_rfl) (h5:r.desc.isAgg=r.zero.isAgg:=by kernel_rfl):TyOk Tryd.prog t r:=TyOk.mk' h1 h2 h3 h4 h5
abbrev r1:TyR:=u0
theorem ty1:TyOk Tryd.prog 1 r1:=mT Tryd.underlying1
abbrev r2:TyR:=u2
theorem ty2:TyOk Tryd.prog 2 r2:=mT Tryd.underlying2
abbrev r3:TyR:=u2
theorem ty3:TyOk Tryd.prog 3 r3:=mT Tryd.underlying3
abbrev r4:TyR := { desc :=.bool,size:=1,bytes:=1,zero :=.sc (.bool false) }
theorem ty4:TyOk Tryd.prog 4 r4:=mT Tryd.underlying4
abbrev r5:TyR := { desc :=.int .u8,size:=1,bytes:=1,zero :=.sc (.int .u8 0) }
theorem ty5:TyOk Tryd.prog 5 r5:=mT Tryd.underlying5
abbrev r9:TyR := { desc :=.string,size:=1,bytes:=16,zero :=.sc (.string ⟨#[]⟩) }
theorem ty9:TyOk Tryd.prog 9 r9:=mT Tryd.underlying9
abbrev r12:TyR:=u3
theorem ty12:TyOk Tryd.prog 12 r12:=mT Tryd.underlying12
abbrev r13:TyR := { desc :=.struct [(0,9),(1,12)],size:=2,bytes:=24,zero :=.cons (.sc (.string ⟨#[]⟩)) (.cons (.sc (.int .u64 0)) (.nil)) }
theorem ty13:TyOk Tryd.prog 13 r13:=mT Tryd.underlying13
abbrev r20:TyR := { desc :=.cell,size:=1,bytes:=16,zero :=.sc .nilIface }
theorem ty20:TyOk Tryd.prog 20 r20:=mT Tryd.underlying20
abbrev r21:TyR := { desc :=.int .i32,size:=1,bytes:=4,zero :=.sc (.int .i32 0) }
theorem ty21:TyOk Tryd.prog 21 r21:=mT Tryd.underlying21
abbrev r22:TyR := { desc :=.slice 5,size:=1,bytes:=24,zero :=.sc (.slice none 0 0) }
theorem ty22:TyOk Tryd.prog 22 r22:=mT Tryd.underlying22
abbrev r23:TyR:=u0
theorem ty23:TyOk Tryd.prog 23 r23:=mT Tryd.underlying23
abbrev r24:TyR := { desc :=.array 64 5,size:=64,bytes:=64,zero :=.vec 64 1 aF (List.replicate 64 0) }
theorem ty24:TyOk Tryd.prog 24 r24:=mT Tryd.underlying24
abbrev r25:TyR:=u0
theorem ty25:TyOk Tryd.prog 25 r25:=mT Tryd.underlying25
abbrev r26:TyR:=u2
theorem ty26:TyOk Tryd.prog 26 r26:=mT Tryd.underlying26
abbrev r28:TyR:=u0
theorem ty28:TyOk Tryd.prog 28 r28:=mT Tryd.underlying28
abbrev r29:TyR:=u0
theorem ty29:TyOk Tryd.prog 29 r29:=mT Tryd.underlying29
abbrev r30:TyR:=u1
theorem ty30:TyOk Tryd.prog 30 r30:=mT Tryd.underlying30
abbrev r31:TyR:=u1
theorem ty31:TyOk Tryd.prog 31 r31:=mT Tryd.underlying31
abbrev r32:TyR:=u0
theorem ty32:TyOk Tryd.prog 32 r32:=mT Tryd.underlying32
abbrev r33:TyR:=u0
theorem ty33:TyOk Tryd.prog 33 r33:=mT Tryd.underlying33
abbrev r34:TyR:=u0
theorem ty34:TyOk Tryd.prog 34 r34:=mT Tryd.underlying34
abbrev r35:TyR:=u0
theorem ty35:TyOk Tryd.prog 35 r35:=mT Tryd.underlying35
abbrev r36:TyR:=u0
theorem ty36:TyOk Tryd.prog 36 r36:=mT Tryd.underlying36
abbrev r37:TyR := { desc :=.array 16 5,size:=16,bytes:=16,zero :=.vec 16 1 aF (List.replicate 16 0) }
theorem ty37:TyOk Tryd.prog 37 r37:=mT Tryd.underlying37
abbrev r38:TyR := { desc :=.array 11 37,size:=176,bytes:=176,zero :=.vec 11 16 (fun l=>.vec 16 1 aF l) (List.replicate 11 (List.replicate 16 0)) }
theorem ty38:TyOk Tryd.prog 38 r38:=mT Tryd.underlying38
abbrev r39:TyR := { desc :=.array 11 37,size:=176,bytes:=176,zero :=.vec 11 16 (fun l=>.vec 16 1 aF l) (List.replicate 11 (List.replicate 16 0)) }
theorem ty39:TyOk Tryd.prog 39 r39:=mT Tryd.underlying39
abbrev r40:TyR:=u0
theorem ty40:TyOk Tryd.prog 40 r40:=mT Tryd.underlying40
abbrev r41:TyR:=u0
theorem ty41:TyOk Tryd.prog 41 r41:=mT Tryd.underlying41
abbrev r42:TyR:=u0
theorem ty42:TyOk Tryd.prog 42 r42:=mT Tryd.underlying42
abbrev r43:TyR:=u0
theorem ty43:TyOk Tryd.prog 43 r43:=mT Tryd.underlying43
abbrev r44:TyR:=u1
theorem ty44:TyOk Tryd.prog 44 r44:=mT Tryd.underlying44
abbrev r45:TyR := { desc :=.struct [(0,37),(16,44)],size:=48,bytes:=48,zero :=.cons (.vec 16 1 aF (List.replicate 16 0)) (.cons (.vec 32 1 aF (List.replicate 32 0)) (.nil)) }
theorem ty45:TyOk Tryd.prog 45 r45:=mT Tryd.underlying45
abbrev r46:TyR := { desc :=.struct [(0,37),(16,44)],size:=48,bytes:=48,zero :=.cons (.vec 16 1 aF (List.replicate 16 0)) (.cons (.vec 32 1 aF (List.replicate 32 0)) (.nil)) }
theorem ty46:TyOk Tryd.prog 46 r46:=mT Tryd.underlying46
abbrev r47:TyR:=u0
theorem ty47:TyOk Tryd.prog 47 r47:=mT Tryd.underlying47
abbrev r48:TyR := { desc :=.slice 49,size:=1,bytes:=24,zero :=.sc (.slice none 0 0) }
theorem ty48:TyOk Tryd.prog 48 r48:=mT Tryd.underlying48
abbrev r49:TyR:=u3
theorem ty49:TyOk Tryd.prog 49 r49:=mT Tryd.underlying49
abbrev r50:TyR := { desc :=.struct [(0,48),(1,49),(2,49),(3,49)],size:=4,bytes:=48,zero :=.cons (.sc (.slice none 0 0)) (.cons (.sc (.int .u64 0)) (.cons (.sc (.int .u64 0)) (.cons (.sc (.int .u64 0)) (.nil)))) }
theorem ty50:TyOk Tryd.prog 50 r50:=mT Tryd.underlying50
abbrev r51:TyR := { desc :=.struct [(0,48),(1,49),(2,49),(3,49)],size:=4,bytes:=48,zero :=.cons (.sc (.slice none 0 0)) (.cons (.sc (.int .u64 0)) (.cons (.sc (.int .u64 0)) (.cons (.sc (.int .u64 0)) (.nil)))) }
theorem ty51:TyOk Tryd.prog 51 r51:=mT Tryd.underlying51
abbrev r53:TyR:=u0
theorem ty53:TyOk Tryd.prog 53 r53:=mT Tryd.underlying53
abbrev r54:TyR:=u0
theorem ty54:TyOk Tryd.prog 54 r54:=mT Tryd.underlying54
abbrev r55:TyR := { desc :=.int .u32,size:=1,bytes:=4,zero :=.sc (.int .u32 0) }
theorem ty55:TyOk Tryd.prog 55 r55:=mT Tryd.underlying55
abbrev r56:TyR := { desc :=.struct [(0,55),(1,49)],size:=2,bytes:=16,zero :=.cons (.sc (.int .u32 0)) (.cons (.sc (.int .u64 0)) (.nil)) }
theorem ty56:TyOk Tryd.prog 56 r56:=mT Tryd.underlying56
abbrev r57:TyR := { desc :=.struct [(0,55),(1,49)],size:=2,bytes:=16,zero :=.cons (.sc (.int .u32 0)) (.cons (.sc (.int .u64 0)) (.nil)) }
theorem ty57:TyOk Tryd.prog 57 r57:=mT Tryd.underlying57
abbrev r59:TyR:=u0
theorem ty59:TyOk Tryd.prog 59 r59:=mT Tryd.underlying59
abbrev r60:TyR:=u1
theorem ty60:TyOk Tryd.prog 60 r60:=mT Tryd.underlying60
abbrev r62:TyR:=u0
theorem ty62:TyOk Tryd.prog 62 r62:=mT Tryd.underlying62
abbrev r63:TyR:=u0
theorem ty63:TyOk Tryd.prog 63 r63:=mT Tryd.underlying63
abbrev r64:TyR := { desc :=.struct [(0,5),(1,57),(3,31)],size:=35,bytes:=56,zero :=.cons (.sc (.int .u8 0)) (.cons (.cons (.sc (.int .u32 0)) (.cons (.sc (.int .u64 0)) (.nil))) (.cons (.vec 32 1 aF (List.replicate 32 0)) (.nil))) }
theorem ty64:TyOk Tryd.prog 64 r64:=mT Tryd.underlying64
abbrev r65:TyR := { desc :=.struct [(0,5),(1,57),(3,31)],size:=35,bytes:=56,zero :=.cons (.sc (.int .u8 0)) (.cons (.cons (.sc (.int .u32 0)) (.cons (.sc (.int .u64 0)) (.nil))) (.cons (.vec 32 1 aF (List.replicate 32 0)) (.nil))) }
theorem ty65:TyOk Tryd.prog 65 r65:=mT Tryd.underlying65
abbrev r67:TyR:=u0
theorem ty67:TyOk Tryd.prog 67 r67:=mT Tryd.underlying67
abbrev r69:TyR:=u0
theorem ty69:TyOk Tryd.prog 69 r69:=mT Tryd.underlying69
abbrev r70:TyR := { desc :=.struct [(0,57),(2,55),(3,55)],size:=4,bytes:=24,zero :=.cons (.cons (.sc (.int .u32 0)) (.cons (.sc (.int .u64 0)) (.nil))) (.cons (.sc (.int .u32 0)) (.cons (.sc (.int .u32 0)) (.nil))) }
theorem ty70:TyOk Tryd.prog 70 r70:=mT Tryd.underlying70
abbrev r71:TyR := { desc :=.struct [(0,57),(2,55),(3,55)],size:=4,bytes:=24,zero :=.cons (.cons (.sc (.int .u32 0)) (.cons (.sc (.int .u64 0)) (.nil))) (.cons (.sc (.int .u32 0)) (.cons (.sc (.int .u32 0)) (.nil))) }
theorem ty71:TyOk Tryd.prog 71 r71:=mT Tryd.underlying71
abbrev r73:TyR:=u0
theorem ty73:TyOk Tryd.prog 73 r73:=mT Tryd.underlying73
abbrev r74:TyR := { desc :=.slice 80,size:=1,bytes:=24,zero :=.sc (.slice none 0 0) }
theorem ty74:TyOk Tryd.prog 74 r74:=mT Tryd.underlying74
abbrev r75:TyR := { desc :=.struct [(0,74)],size:=1,bytes:=24,zero :=.cons (.sc (.slice none 0 0)) (.nil) }
theorem ty75:TyOk Tryd.prog 75 r75:=mT Tryd.underlying75
abbrev r76:TyR := { desc :=.struct [(0,74)],size:=1,bytes:=24,zero :=.cons (.sc (.slice none 0 0)) (.nil) }
theorem ty76:TyOk Tryd.prog 76 r76:=mT Tryd.underlying76
abbrev r78:TyR:=u0
theorem ty78:TyOk Tryd.prog 78 r78:=mT Tryd.underlying78
abbrev r79:TyR := { desc :=.struct [(0,37),(16,71)],size:=20,bytes:=40,zero :=.cons (.vec 16 1 aF (List.replicate 16 0)) (.cons (.cons (.cons (.sc (.int .u32 0)) (.cons (.sc (.int .u64 0)) (.nil))) (.cons (.sc (.int .u32 0)) (.cons (.sc (.int .u32 0)) (.nil)))) (.nil)) }
theorem ty79:TyOk Tryd.prog 79 r79:=mT Tryd.underlying79
abbrev r80:TyR := { desc :=.struct [(0,37),(16,71)],size:=20,bytes:=40,zero :=.cons (.vec 16 1 aF (List.replicate 16 0)) (.cons (.cons (.cons (.sc (.int .u32 0)) (.cons (.sc (.int .u64 0)) (.nil))) (.cons (.sc (.int .u32 0)) (.cons (.sc (.int .u32 0)) (.nil)))) (.nil)) }
theorem ty80:TyOk Tryd.prog 80 r80:=mT Tryd.underlying80
abbrev r82:TyR:=u0
theorem ty82:TyOk Tryd.prog 82 r82:=mT Tryd.underlying82
abbrev r83:TyR := { desc :=.slice 22,size:=1,bytes:=24,zero :=.sc (.slice none 0 0) }
theorem ty83:TyOk Tryd.prog 83 r83:=mT Tryd.underlying83
abbrev r84:TyR := { desc :=.array 8 55,size:=8,bytes:=32,zero :=.vec 8 1 (fun i=>.sc (.int .u32 i)) (List.replicate 8 0) }
theorem ty84:TyOk Tryd.prog 84 r84:=mT Tryd.underlying84
abbrev r85:TyR := { desc :=.struct [(0,4),(1,84),(9,24),(73,49)],size:=74,bytes:=112,zero :=.cons (.sc (.bool false)) (.cons (.vec 8 1 (fun i=>.sc (.int .u32 i)) (List.replicate 8 0)) (.cons (.vec 64 1 aF (List.replicate 64 0)) (.cons (.sc (.int .u64 0)) (.nil)))) }
theorem ty85:TyOk Tryd.prog 85 r85:=mT Tryd.underlying85
abbrev r86:TyR := { desc :=.struct [(0,4),(1,84),(9,24),(73,49)],size:=74,bytes:=112,zero :=.cons (.sc (.bool false)) (.cons (.vec 8 1 (fun i=>.sc (.int .u32 i)) (List.replicate 8 0)) (.cons (.vec 64 1 aF (List.replicate 64 0)) (.cons (.sc (.int .u64 0)) (.nil)))) }
theorem ty86:TyOk Tryd.prog 86 r86:=mT Tryd.underlying86
abbrev r87:TyR:=u0
theorem ty87:TyOk Tryd.prog 87 r87:=mT Tryd.underlying87
abbrev r88:TyR:=u0
theorem ty88:TyOk Tryd.prog 88 r88:=mT Tryd.underlying88
abbrev r89:TyR:=u0
theorem ty89:TyOk Tryd.prog 89 r89:=mT Tryd.underlying89
abbrev r90:TyR:=u0
theorem ty90:TyOk Tryd.prog 90 r90:=mT Tryd.underlying90
abbrev r91:TyR:=u0
theorem ty91:TyOk Tryd.prog 91 r91:=mT Tryd.underlying91
abbrev r92:TyR:=u0
theorem ty92:TyOk Tryd.prog 92 r92:=mT Tryd.underlying92
abbrev r93:TyR:=u0
theorem ty93:TyOk Tryd.prog 93 r93:=mT Tryd.underlying93
abbrev r94:TyR:=u0
theorem ty94:TyOk Tryd.prog 94 r94:=mT Tryd.underlying94
abbrev r95:TyR := { desc :=.struct [(0,37)],size:=16,bytes:=16,zero :=.cons (.vec 16 1 aF (List.replicate 16 0)) (.nil) }
theorem ty95:TyOk Tryd.prog 95 r95:=mT Tryd.underlying95
abbrev r96:TyR := { desc :=.struct [(0,37)],size:=16,bytes:=16,zero :=.cons (.vec 16 1 aF (List.replicate 16 0)) (.nil) }
theorem ty96:TyOk Tryd.prog 96 r96:=mT Tryd.underlying96
abbrev r97:TyR:=u0
theorem ty97:TyOk Tryd.prog 97 r97:=mT Tryd.underlying97
abbrev r98:TyR:=u0
theorem ty98:TyOk Tryd.prog 98 r98:=mT Tryd.underlying98
abbrev r99:TyR:=u0
theorem ty99:TyOk Tryd.prog 99 r99:=mT Tryd.underlying99
abbrev r100:TyR:=u0
theorem tM:TyOk Tryd.prog 100 r100:=mT Tryd.underlying100
abbrev r101:TyR := { desc :=.array 4 5,size:=4,bytes:=4,zero :=.vec 4 1 aF (List.replicate 4 0) }
theorem tL:TyOk Tryd.prog 101 r101:=mT Tryd.underlying101
abbrev r102:TyR:=u0
theorem tK:TyOk Tryd.prog 102 r102:=mT Tryd.underlying102
abbrev r103:TyR:=u3
theorem tJ:TyOk Tryd.prog 103 r103:=mT Tryd.underlying103
abbrev r104:TyR:=u0
theorem tI:TyOk Tryd.prog 104 r104:=mT Tryd.underlying104
abbrev r105:TyR:=u0
theorem tH:TyOk Tryd.prog 105 r105:=mT Tryd.underlying105
abbrev r106:TyR:=u0
theorem tG:TyOk Tryd.prog 106 r106:=mT Tryd.underlying106
abbrev r107:TyR:=u0
theorem tF:TyOk Tryd.prog 107 r107:=mT Tryd.underlying107
abbrev r108:TyR:=u0
theorem tE:TyOk Tryd.prog 108 r108:=mT Tryd.underlying108
abbrev r109:TyR:=u0
theorem tD:TyOk Tryd.prog 109 r109:=mT Tryd.underlying109
abbrev r110:TyR:=u0
theorem tC:TyOk Tryd.prog 110 r110:=mT Tryd.underlying110
abbrev r111:TyR:=u0
theorem tB:TyOk Tryd.prog 111 r111:=mT Tryd.underlying111
abbrev r112:TyR:=u0
theorem tA:TyOk Tryd.prog 112 r112:=mT Tryd.underlying112
abbrev r113:TyR:=u0
theorem tx:TyOk Tryd.prog 113 r113:=mT Tryd.underlying113
abbrev r115:TyR:=u0
theorem tw:TyOk Tryd.prog 115 r115:=mT Tryd.underlying115
abbrev r117:TyR:=u0
theorem tv:TyOk Tryd.prog 117 r117:=mT Tryd.underlying117
abbrev r118:TyR:=u0
theorem tu:TyOk Tryd.prog 118 r118:=mT Tryd.underlying118
abbrev r119:TyR:=u0
theorem tt:TyOk Tryd.prog 119 r119:=mT Tryd.underlying119
abbrev r120:TyR:=u0
theorem tq:TyOk Tryd.prog 120 r120:=mT Tryd.underlying120
abbrev r121:TyR:=u0
theorem tp:TyOk Tryd.prog 121 r121:=mT Tryd.underlying121
abbrev r122:TyR := { desc :=.cell,size:=1,bytes:=8,zero :=.sc (.map none) }
theorem tm:TyOk Tryd.prog 122 r122:=mT Tryd.underlying122
abbrev r123:TyR := { desc :=.struct [(0,37),(16,57)],size:=18,bytes:=32,zero :=.cons (.vec 16 1 aF (List.replicate 16 0)) (.cons (.cons (.sc (.int .u32 0)) (.cons (.sc (.int .u64 0)) (.nil))) (.nil)) }
theorem tl:TyOk Tryd.prog 123 r123:=mT Tryd.underlying123
abbrev r124:TyR := { desc :=.struct [(0,37),(16,57)],size:=18,bytes:=32,zero :=.cons (.vec 16 1 aF (List.replicate 16 0)) (.cons (.cons (.sc (.int .u32 0)) (.cons (.sc (.int .u64 0)) (.nil))) (.nil)) }
theorem tj:TyOk Tryd.prog 124 r124:=mT Tryd.underlying124
abbrev r125:TyR := { desc :=.slice 3,size:=1,bytes:=24,zero :=.sc (.slice none 0 0) }
theorem ti:TyOk Tryd.prog 125 r125:=mT Tryd.underlying125
abbrev r126:TyR:=u0
theorem th:TyOk Tryd.prog 126 r126:=mT Tryd.underlying126
abbrev r127:TyR:=u0
theorem tg:TyOk Tryd.prog 127 r127:=mT Tryd.underlying127
abbrev r128:TyR:=u0
theorem tf:TyOk Tryd.prog 128 r128:=mT Tryd.underlying128
abbrev r129:TyR:=u0
theorem td:TyOk Tryd.prog 129 r129:=mT Tryd.underlying129
abbrev r130:TyR:=u0
theorem tc:TyOk Tryd.prog 130 r130:=mT Tryd.underlying130
abbrev r131:TyR:=u4
theorem tb:TyOk Tryd.prog 131 r131:=mT Tryd.underlying131
abbrev r132:TyR:=u0
theorem ta:TyOk Tryd.prog 132 r132:=mT Tryd.underlying132
abbrev r133:TyR := { desc :=.struct [(0,22)],size:=1,bytes:=24,zero :=.cons (.sc (.slice none 0 0)) (.nil) }
theorem s9:TyOk Tryd.prog 133 r133:=mT Tryd.underlying133
abbrev r134:TyR := { desc :=.struct [(0,22)],size:=1,bytes:=24,zero :=.cons (.sc (.slice none 0 0)) (.nil) }
theorem s8:TyOk Tryd.prog 134 r134:=mT Tryd.underlying134
abbrev r136:TyR:=u0
theorem s7:TyOk Tryd.prog 136 r136:=mT Tryd.underlying136
abbrev r138:TyR:=u0
theorem s6:TyOk Tryd.prog 138 r138:=mT Tryd.underlying138
abbrev r139:TyR:=u0
theorem sZ:TyOk Tryd.prog 139 r139:=mT Tryd.underlying139
abbrev r140:TyR:=u0
theorem sY:TyOk Tryd.prog 140 r140:=mT Tryd.underlying140
abbrev r141:TyR := { desc :=.array 64 55,size:=64,bytes:=256,zero :=.vec 64 1 (fun i=>.sc (.int .u32 i)) (List.replicate 64 0) }
theorem sX:TyOk Tryd.prog 141 r141:=mT Tryd.underlying141
abbrev r142:TyR:=u0
theorem sW:TyOk Tryd.prog 142 r142:=mT Tryd.underlying142
abbrev r143:TyR:=u0
theorem sV:TyOk Tryd.prog 143 r143:=mT Tryd.underlying143
abbrev r144:TyR:=u0
theorem sU:TyOk Tryd.prog 144 r144:=mT Tryd.underlying144
abbrev r145:TyR:=u0
theorem sT:TyOk Tryd.prog 145 r145:=mT Tryd.underlying145
abbrev r146:TyR:=u0
theorem sS:TyOk Tryd.prog 146 r146:=mT Tryd.underlying146
abbrev r147:TyR:=u0
theorem sQ:TyOk Tryd.prog 147 r147:=mT Tryd.underlying147
abbrev r148:TyR:=u4
theorem sP:TyOk Tryd.prog 148 r148:=mT Tryd.underlying148
abbrev r149:TyR:=u0
theorem sO:TyOk Tryd.prog 149 r149:=mT Tryd.underlying149
abbrev r150:TyR := { desc :=.slice 74,size:=1,bytes:=24,zero :=.sc (.slice none 0 0) }
theorem sN:TyOk Tryd.prog 150 r150:=mT Tryd.underlying150
abbrev r151:TyR:=u0
theorem sM:TyOk Tryd.prog 151 r151:=mT Tryd.underlying151
abbrev r152:TyR:=u0
theorem sL:TyOk Tryd.prog 152 r152:=mT Tryd.underlying152
abbrev r153:TyR:=u0
theorem sK:TyOk Tryd.prog 153 r153:=mT Tryd.underlying153
abbrev r154:TyR:=u0
theorem sJ:TyOk Tryd.prog 154 r154:=mT Tryd.underlying154
abbrev r155:TyR:=u0
theorem sI:TyOk Tryd.prog 155 r155:=mT Tryd.underlying155
abbrev r158:TyR := { desc :=.array 0 16,size:=0,bytes:=0,zero :=.nil }
theorem sH:TyOk Tryd.prog 158 r158:=mT Tryd.underlying158
abbrev r161:TyR:=u0
theorem sG:TyOk Tryd.prog 161 r161:=mT Tryd.underlying161
abbrev r164:TyR:=u0
theorem sF:TyOk Tryd.prog 164 r164:=mT Tryd.underlying164
abbrev r165:TyR:=u4
theorem sE:TyOk Tryd.prog 165 r165:=mT Tryd.underlying165
abbrev tab:Tab:=[(1,r1),(2,r2),(3,r3),(4,r4),(5,r5),(9,r9),(12,r12),(13,r13),(20,r20),(21,r21),(22,r22),(23,r23),(24,r24),(25,r25),(26,r26),(28,r28),(29,r29),(30,r30),(31,r31),(32,r32),(33,r33),(34,r34),(35,r35),(36,r36),(37,r37),(38,r38),(39,r39),(40,r40),(41,r41),(42,r42),(43,r43),(44,r44),(45,r45),(46,r46),(47,r47),(48,r48),(49,r49),(50,r50),(51,r51),(53,r53),(54,r54),(55,r55),(56,r56),(57,r57),(59,r59),(60,r60),(62,r62),(63,r63),(64,r64),(65,r65),(67,r67),(69,r69),(70,r70),(71,r71),(73,r73),(74,r74),(75,r75),(76,r76),(78,r78),(79,r79),(80,r80),(82,r82),(83,r83),(84,r84),(85,r85),(86,r86),(87,r87),(88,r88),(89,r89),(90,r90),(91,r91),(92,r92),(93,r93),(94,r94),(95,r95),(96,r96),(97,r97),(98,r98),(99,r99),(100,r100),(101,r101),(102,r102),(103,r103),(104,r104),(105,r105),(106,r106),(107,r107),(108,r108),(109,r109),(110,r110),(111,r111),(112,r112),(113,r113),(115,r115),(117,r117),(118,r118),(119,r119),(120,r120),(121,r121),(122,r122),(123,r123),(124,r124),(125,r125),(126,r126),(127,r127),(128,r128),(129,r129),(130,r130),(131,r131),(132,r132),(133,r133),(134,r134),(136,r136),(138,r138),(139,r139),(140,r140),(141,r141),(142,r142),(143,r143),(144,r144),(145,r145),(146,r146),(147,r147),(148,r148),(149,r149),(150,r150),(151,r151),(152,r152),(153,r153),(154,r154),(155,r155),(158,r158),(161,r161),(164,r164),(165,r165)]
theorem aa:ak Tryd.prog tab :=
 (ak.cons ty1 (ak.cons ty2 (ak.cons ty3 (ak.cons ty4 (ak.cons ty5 (ak.cons ty9 (ak.cons ty12 (ak.cons ty13 (ak.cons ty20 (ak.cons ty21 (ak.cons ty22 (ak.cons ty23 (ak.cons ty24 (ak.cons ty25 (ak.cons ty26 (ak.cons ty28 (ak.cons ty29 (ak.cons ty30 (ak.cons ty31 (ak.cons ty32 (ak.cons ty33 (ak.cons ty34 (ak.cons ty35 (ak.cons ty36 (ak.cons ty37 (ak.cons ty38 (ak.cons ty39 (ak.cons ty40 (ak.cons ty41 (ak.cons ty42 (ak.cons ty43 (ak.cons ty44 (ak.cons ty45 (ak.cons ty46 (ak.cons ty47 (ak.cons ty48 (ak.cons ty49 (ak.cons ty50 (ak.cons ty51 (ak.cons ty53 (ak.cons ty54 (ak.cons ty55 (ak.cons ty56 (ak.cons ty57 (ak.cons ty59 (ak.cons ty60 (ak.cons ty62 (ak.cons ty63 (ak.cons ty64 (ak.cons ty65 (ak.cons ty67 (ak.cons ty69 (ak.cons ty70 (ak.cons ty71 (ak.cons ty73 (ak.cons ty74 (ak.cons ty75 (ak.cons ty76 (ak.cons ty78 (ak.cons ty79 (ak.cons ty80 (ak.cons ty82 (ak.cons ty83 (ak.cons ty84 (ak.cons ty85 (ak.cons ty86 (ak.cons ty87 (ak.cons ty88 (ak.cons ty89 (ak.cons ty90 (ak.cons ty91 (ak.cons ty92 (ak.cons ty93 (ak.cons ty94 (ak.cons ty95 (ak.cons ty96 (ak.cons ty97 (ak.cons ty98 (ak.cons ty99 (ak.cons tM (ak.cons tL (ak.cons tK (ak.cons tJ (ak.cons tI (ak.cons tH (ak.cons tG (ak.cons tF (ak.cons tE (ak.cons tD (ak.cons tC (ak.cons tB (ak.cons tA (ak.cons tx (ak.cons tw (ak.cons tv (ak.cons tu (ak.cons tt (ak.cons tq (ak.cons tp (ak.cons tm (ak.cons tl (ak.cons tj (ak.cons ti (ak.cons th (ak.cons tg (ak.cons tf (ak.cons td (ak.cons tc (ak.cons tb (ak.cons ta (ak.cons s9 (ak.cons s8 (ak.cons s7 (ak.cons s6 (ak.cons sZ (ak.cons sY (ak.cons sX (ak.cons sW (ak.cons sV (ak.cons sU (ak.cons sT (ak.cons sS (ak.cons sQ (ak.cons sP (ak.cons sO (ak.cons sN (ak.cons sM (ak.cons sL (ak.cons sK (ak.cons sJ (ak.cons sI (ak.cons sH (ak.cons sG (ak.cons sF (ak.cons sE ak.nil)))))))))))))))))))))))))))))))))))))))))))))))))))))))))))))))))))))))))))))))))))))))))))))))))))))))))))))))))))))))))))))))))))))))
end Go.Proofs.YtmapiehigkfddaaDoor
namespace Go.Proofs.YtmapiehigkfddaaDoor
open Go.Eng
section
variable {sz n : Nat} {env : Env} {h : Upds} {all l : List Oper} {Q : Exit → St → Prop} {y : Code} {id : Nat} {ops : Array Oper} {K : Env → Upds → Nat → Prop} {d : Tmp} {op : Op} {ty : TypeId} {pos : String} {af : Array Edge} {v : AV}
theorem rC (h1:RegS Tryd.prog all sz l (n+8) ((d,v)::env) h K) (hd:Nat.blt d sz=true:=by exact rfl) (hop:∀K:Option AV→Upds→Prop,K (some v) []→opD tab op (ae env) (aK h) n K:=by exact fun _ h=>h) :
  RegS Tryd.prog all sz (⟨some d,op,ty,pos,af,none⟩::l) n env h K:=ja hd (aE aa hop) h1
theorem rQ (hs:ab Tryd.prog op env h n (some v) []) (h1:RegS Tryd.prog all sz l (n+8) ((d,v)::env) h K) (hd:Nat.blt d sz=true:=by exact rfl) :
  RegS Tryd.prog all sz (⟨some d,op,ty,pos,af,none⟩::l) n env h K:=ja hd hs h1
theorem rN {x:Nat×Option Row} (h1:RegS Tryd.prog all sz l (n+8) ((d,v)::env) (x::h) K) (hd:Nat.blt d sz=true:=by exact rfl) (hop:∀K:Option AV→Upds→Prop,K (some v) [x]→opD tab op (ae env) (aK h) n K:=by exact fun _ h=>h) :
  RegS Tryd.prog all sz (⟨some d,op,ty,pos,af,none⟩::l) n env h K:=aS (aE aa hop) hd h1
theorem nS {b:Code} (h1:WC Tryd.prog sz b Q env h n):RegS Tryd.prog all sz [] n env h (RegK (SeqQ Tryd.prog b Q) sz):=aA (bm h1)
theorem sR (h1:RegS Tryd.prog ops.toList sz ops.toList n env h (RegK (SeqQ Tryd.prog y Q) sz)):WC Tryd.prog sz (.seq (.region id ops false) y) Q env h n:=br (ao h1)
theorem kS {b:Code} (h1:WC Tryd.prog sz b Q env h n):WC Tryd.prog sz .skip (SeqQ Tryd.prog b Q) env h n:=bR (bm h1)
theorem nQ {b c:Code} (h1:WC Tryd.prog sz b (SeqQ Tryd.prog c Q) env h n):RegS Tryd.prog all sz [] n env h (RegK (SeqQ Tryd.prog (.seq b c) Q) sz):=nS (br h1)
theorem qR {c:Code} (h1:RegS Tryd.prog ops.toList sz ops.toList n env h (RegK (SeqQ Tryd.prog y (SeqQ Tryd.prog c Q)) sz)):WC Tryd.prog sz (.seq (.seq (.region id ops false) y) c) Q env h n:=br (sR h1)
theorem lf {l:bd} {st st':St} (h1:cT (rho l) (aZ st'.heap)=true:=by exact rfl) (h2:st'.sz=st.sz:=by exact rfl) (h3:st'.bs=st.bs:=by exact rfl) (h4:Nat.ble st'.bs st'.next=true:=by exact rfl) (h5:cv st'.bs l=true:=by exact rfl)
  (h6:gr (rho l) st.env st'.next st'.env:=by exact⟨⟨_,rfl,AVLe.of_eq rfl⟩,rfl,trivial⟩) (h7:eu (rho l) st st'.next st'.heap:=by exact trivial):Le l st st' :=.of h1 h2 h3 h4 h5 h6 h7
theorem nR (h1:RegS Tryd.prog ops.toList sz ops.toList n env h (RegK (SeqQ Tryd.prog y Q) sz)):RegS Tryd.prog all sz [] n env h (RegK (SeqQ Tryd.prog (.seq (.region id ops false) y) Q) sz):=nS (sR h1)
section
variable {dd : Option Tmp} {j g : Nat} {want b : Bool} {env' : Env}
theorem rO (h1:RegS Tryd.prog all sz (⟨dd,op,ty,pos,af,none⟩::l) n env h K) (hj:((all[j]?).bind (·.dst))=some g:=by exact rfl) (hb:lk env g=some (.bool b):=by exact rfl) (he:b=want:=by assumption) :
  RegS Tryd.prog all sz (⟨dd,op,ty,pos,af,some (j,want)⟩::l) n env h K:=oK hj hb he h1
theorem rP (h1:RegS Tryd.prog all sz (⟨dd,op,ty,pos,af,none⟩::l) n env h K) (hj:((all[j]?).bind (·.dst))=some g:=by exact rfl) (hb:lk env g=some (.bool b):=by exact rfl) (he:b=want:=by exact rfl) :
  RegS Tryd.prog all sz (⟨dd,op,ty,pos,af,some (j,want)⟩::l) n env h K:=oK hj hb he h1
theorem rS (h1:RegS Tryd.prog all sz l (n+8) env' h K) (hj:((all[j]?).bind (·.dst))=some g:=by exact rfl) (hb:lk env g=some (.bool b):=by exact rfl) (he:b = !want:=by assumption) (hd:dA dd sz=true:=by exact rfl) (he':putE dd none env=env':=by exact rfl) :
  RegS Tryd.prog all sz (⟨dd,op,ty,pos,af,some (j,want)⟩::l) n env h K:=kD hj hb he hd he' h1
theorem rT (h1:RegS Tryd.prog all sz l (n+8) env' h K) (hj:((all[j]?).bind (·.dst))=some g:=by exact rfl) (hb:lk env g=some (.bool b):=by exact rfl) (he:b = !want:=by exact rfl) (hd:dA dd sz=true:=by exact rfl) (he':putE dd none env=env':=by exact rfl) :
  RegS Tryd.prog all sz (⟨dd,op,ty,pos,af,some (j,want)⟩::l) n env h K:=kD hj hb he hd he' h1
end
section
variable {t t' e s m : Nat} {x z i : Operand}
theorem iA {re:TyR} {α:Type} {enc:α→D} {xs:List α} {k:IntKind} {m:Int} {el:α} (hx:ae env x=some (.d (.arr s enc xs)):=by exact rfl) (hi:ae env i=some (.int k m):=by exact rfl) (ht:aI tab t=some (.slice e):=by exact rfl) (he:lk tab e=some re:=by exact rfl) (hs:Nat.beq re.size s=true:=by exact rfl)
  (h0:0≤m:=by omega) (hel:xs[m.toNat]?=some el:=by assumption):ab Tryd.prog (.indexAddr t x i) env h n (some (.iptr (enc el))) []:=bq aa ht he hs hx hi h0 hel
theorem iL {y:D} (hx:ae env x=some (.iptr y):=by exact rfl) (hs:aN tab t (.d y)=true:=by exact rfl):ab Tryd.prog (.load t x) env h n (some (.d y)) []:=sa aa hx hs
theorem iB {r:Nat} {p:List Step} {ty:TypeId} {a v:AV} (hx:ae env x=some (.ptr r p):=by exact rfl) (hr:aK h r=some (.box ty a):=by exact rfl) (hv:ASub a p v:=by exact⟨_,rfl,rfl⟩) (hs:aN tab t v=true:=by exact rfl):ab Tryd.prog (.load t x) env h n (some v) []:=cZ aa hx hr hv hs
theorem iM {r:Nat} {p:List Step} {ty:TypeId} {a v:AV} (hx:ae env x=some (.ptr r p):=by exact rfl) (hr:aK h r=some (.box ty a):=by exact rfl) (hv:ASub a p v:=by exact rfl) (hs:aN tab t v=true:=by exact rfl):ab Tryd.prog (.load t x) env h n (some v) []:=cZ aa hx hr hv hs
theorem iE {α:Type} {enc:α→D} {xs:List α} (hx:ae env x=some (.d (.arr s enc xs)):=by exact rfl) (ht:aI tab t=some (.slice e):=by exact rfl) :
  ab Tryd.prog (.call { callee :=.builtin .len,args := #[x],argTypes := #[t] }) env h n (some (.int .i64 xs.length)) []:=mY aa hx ht
theorem iF {c x y:Operand} {b:Bool} {v:AV} (hc:ae env c=some (.bool b):=by exact rfl) (hb:b=false:=by assumption) (hv:ae env y=some v:=by exact rfl):ab Tryd.prog (.pick c x y) env h n (some v) []:=oT aa hc hb hv
theorem iG {c x y:Operand} {b:Bool} {v:AV} (hc:ae env c=some (.bool b):=by exact rfl) (hb:b=false:=by exact rfl) (hv:ae env y=some v:=by exact rfl):ab Tryd.prog (.pick c x y) env h n (some v) []:=oT aa hc hb hv
theorem iT {c x y:Operand} {b:Bool} {v:AV} (hc:ae env c=some (.bool b):=by exact rfl) (hb:b=true:=by assumption) (hv:ae env x=some v:=by exact rfl):ab Tryd.prog (.pick c x y) env h n (some v) []:=oS aa hc hb hv
theorem iU {c x y:Operand} {b:Bool} {v:AV} (hc:ae env c=some (.bool b):=by exact rfl) (hb:b=true:=by exact rfl) (hv:ae env x=some v:=by exact rfl):ab Tryd.prog (.pick c x y) env h n (some v) []:=oS aa hc hb hv
theorem iD {x y:Operand} {t t':TypeId} {a b:Int} (hx:ae env x=some (.int .i64 a):=by exact rfl) (hy:ae env y=some (.int .i64 b):=by exact rfl) (h0 : -9223372036854775808≤a+b:=by omega) (h1:a+b≤9223372036854775807:=by omega) :
  ab Tryd.prog (.binOp .add t x y t') env h n (some (.int .i64 (a+b))) []:=aY aa hx hy (aJ h0 h1)
theorem iS {r:TyR} {offs:List (Nat×Nat)} {parts:Array (Nat×Operand)} {q:AV} (ht:lk tab t=some r:=by exact rfl) (hd:r.desc=.struct offs:=by exact rfl) (hq:eo tab offs (ae env) parts.toList (.d r.zero)=some q:=by exact rfl) (hag:q.isAgg=true:=by exact rfl) :
  ab Tryd.prog (.build t parts) env h n (some q) []:=fB aa ht hd hq hag
theorem rW {y:Operand} {r:Nat} {p:List Step} {row row':Row} (h1:RegS Tryd.prog all sz l (n+8) env ((r,some row')::h) K) (hx:ae env x=some (.ptr r p):=by exact rfl) (hy:ae env y=some v:=by exact rfl) (hr:aK h r=some row:=by exact rfl) (hv:RUpd row p v row':=by exact⟨_,⟨rfl,rfl,rfl⟩,rfl⟩) (hs:aN tab t v=true:=by exact rfl) :
  RegS Tryd.prog all sz (⟨none,.store t x y,ty,pos,af,none⟩::l) n env h K:=bB (aQ aa hx hy hr hv hs) h1
theorem rX {y:Operand} {r:Nat} {p:List Step} {row row':Row} (h1:RegS Tryd.prog all sz l (n+8) env ((r,some row')::h) K) (hx:ae env x=some (.ptr r p):=by exact rfl) (hy:ae env y=some v:=by exact rfl) (hr:aK h r=some row:=by exact rfl) (hv:RUpd row p v row':=by exact⟨_,⟨_,⟨_,⟨rfl,rfl,rfl⟩,rfl⟩,rfl⟩,rfl⟩) (hs:aN tab t v=true:=by exact rfl) :
  RegS Tryd.prog all sz (⟨none,.store t x y,ty,pos,af,none⟩::l) n env h K:=bB (aQ aa hx hy hr hv hs) h1
end
section
variable {c : Operand} {x y : Code} {b : Bool}
theorem wT (h1:WC Tryd.prog sz x Q env h n) (hc:ae env c=some (.bool b):=by exact rfl) (hb:b=true:=by assumption):WC Tryd.prog sz (.cond c x y) Q env h n:=mG hc hb h1
theorem wV (h1:WC Tryd.prog sz x Q env h n) (hc:ae env c=some (.bool b):=by exact rfl) (hb:b=true:=by exact rfl):WC Tryd.prog sz (.cond c x y) Q env h n:=mG hc hb h1
theorem wF (h1:WC Tryd.prog sz y Q env h n) (hc:ae env c=some (.bool b):=by exact rfl) (hb:b=false:=by assumption):WC Tryd.prog sz (.cond c x y) Q env h n:=ko hc hb h1
theorem wG (h1:WC Tryd.prog sz y Q env h n) (hc:ae env c=some (.bool b):=by exact rfl) (hb:b=false:=by exact rfl):WC Tryd.prog sz (.cond c x y) Q env h n:=ko hc hb h1
end
section
variable {acc : List aV}
theorem dC (ks rs:List Nat) (h1:RegD Tryd.prog all sz l (n+8) ((d,v)::env) h (⟨⟨some d,op,ty,pos,af,none⟩,ks,rs,some v,[]⟩::acc) K) (hd:Nat.blt d sz=true:=by exact rfl) (hop:∀K:Option AV→Upds→Prop,K (some v) []→opD tab op (ae (only ks env)) (aK (only rs h)) n K:=by exact fun _ h=>h) :
  RegD Tryd.prog all sz (⟨some d,op,ty,pos,af,none⟩::l) n env h acc K:=py ks rs hd (aE aa hop) h1
theorem dQ (ks rs:List Nat) (hs:ab Tryd.prog op (only ks env) (only rs h) n (some v) []) (h1:RegD Tryd.prog all sz l (n+8) ((d,v)::env) h (⟨⟨some d,op,ty,pos,af,none⟩,ks,rs,some v,[]⟩::acc) K) (hd:Nat.blt d sz=true:=by exact rfl) :
  RegD Tryd.prog all sz (⟨some d,op,ty,pos,af,none⟩::l) n env h acc K:=py ks rs hd hs h1
end
end
section
variable {sz n : Nat} {env : Env} {h : Upds} {all l : List Oper} {Q : Exit → St → Prop} {st : St} {b x y c : Code} {id : Nat} {ops : Array Oper} {cc : Operand} {bb : Bool}
theorem zT (h1:Q .ret ⟨env,h,n,sz,64⟩):RegS Tryd.prog all sz [] n env h (RegK (SeqQ Tryd.prog .ret Q) sz):=nS (cY h1)
theorem zB (h1:Q .ret st):BlkQ id (SeqQ Tryd.prog b Q) .ret st:=h1
theorem zC (h1:WC Tryd.prog sz b Q env h n):BlkQ id (SeqQ Tryd.prog b Q) .normal ⟨env,h,n,sz,64⟩:=h1
theorem zW (h1:RegS Tryd.prog ops.toList sz ops.toList n env h (RegK (SeqQ Tryd.prog y (SeqQ Tryd.prog c Q)) sz)):RegS Tryd.prog all sz [] n env h (RegK (SeqQ Tryd.prog (.seq (.seq (.region id ops false) y) c) Q) sz):=nQ (sR h1)
theorem zS {i:Nat} (h1:RegS Tryd.prog ops.toList sz ops.toList n env h (RegK (SeqQ Tryd.prog y (BlkQ i Q)) sz)):WC Tryd.prog sz (.block i (.seq (.region id ops false) y)) Q env h n:=bn (sR h1)
theorem zP (h1:WC Tryd.prog sz c (BlkQ id Q) env h n):RegS Tryd.prog all sz [] n env h (RegK (SeqQ Tryd.prog (.block id c) Q) sz):=nS (bn h1)
theorem zG (h1:WC Tryd.prog sz y Q env h n) (hc:ae env cc=some (.bool bb):=by exact rfl) (hb:bb=false:=by assumption):RegS Tryd.prog all sz [] n env h (RegK (SeqQ Tryd.prog (.cond cc x y) Q) sz):=nS (wF h1 hc hb)
theorem zI (h1:WC Tryd.prog sz x Q env h n) (hc:ae env cc=some (.bool bb):=by exact rfl) (hb:bb=true:=by assumption):RegS Tryd.prog all sz [] n env h (RegK (SeqQ Tryd.prog (.cond cc x y) Q) sz):=nS (wT h1 hc hb)
theorem zJ (h1:WC Tryd.prog sz y Q env h n) (hc:ae env cc=some (.bool bb):=by exact rfl) (hb:bb=false:=by exact rfl):RegS Tryd.prog all sz [] n env h (RegK (SeqQ Tryd.prog (.cond cc x y) Q) sz):=nS (wG h1 hc hb)
theorem zO (h1:WC Tryd.prog sz x Q env h n) (hc:ae env cc=some (.bool bb):=by exact rfl) (hb:bb=true:=by exact rfl):RegS Tryd.prog all sz [] n env h (RegK (SeqQ Tryd.prog (.cond cc x y) Q) sz):=nS (wV h1 hc hb)
theorem zQ (h1:WC Tryd.prog sz x (SeqQ Tryd.prog y Q) env h n):WC Tryd.prog sz .skip (SeqQ Tryd.prog (.seq x y) Q) env h n:=kS (br h1)
theorem zX.{u} {α:Type u} {mk:α→St} {Inv:α→Prop} {μ:α→Nat} {a:α} (h1:WC Tryd.prog sz b Q env h n):WC Tryd.prog sz (.exit id) (SeqQ Tryd.prog y (LoopQ (BlkQ id (SeqQ Tryd.prog b Q)) mk Inv μ a)) env h n:=bS (da (cw (dD (bm h1))))
variable {K : Env → Upds → Nat → Prop} {d e f : Tmp} {op oq o3 : Op} {ty tz t3 : TypeId} {pos pot p3 : String} {af ag a3 : Array Edge} {v w u : AV}
theorem zD (h1:RegS Tryd.prog all sz l (n+8+8) ((e,w)::(d,v)::env) h K) (hd:Nat.blt d sz=true:=by exact rfl) (hop:∀K:Option AV→Upds→Prop,K (some v) []→opD tab op (ae env) (aK h) n K:=by exact fun _ h=>h) (he:Nat.blt e sz=true:=by exact rfl) (hoq:∀K:Option AV→Upds→Prop,K (some w) []→opD tab oq (ae ((d,v)::env)) (aK h) (n+8) K:=by exact fun _ h=>h) :
  RegS Tryd.prog all sz (⟨some d,op,ty,pos,af,none⟩::⟨some e,oq,tz,pot,ag,none⟩::l) n env h K:=rC (rC h1 he hoq) hd hop
theorem zU (h1:RegS Tryd.prog all sz l (n+8+8+8) ((f,u)::(e,w)::(d,v)::env) h K) (hd:Nat.blt d sz=true:=by exact rfl) (hop:∀K:Option AV→Upds→Prop,K (some v) []→opD tab op (ae env) (aK h) n K:=by exact fun _ h=>h) (he:Nat.blt e sz=true:=by exact rfl) (hoq:∀K:Option AV→Upds→Prop,K (some w) []→opD tab oq (ae ((d,v)::env)) (aK h) (n+8) K:=by exact fun _ h=>h) (hf:Nat.blt f sz=true:=by exact rfl) (ho3:∀K:Option AV→Upds→Prop,K (some u) []→opD tab o3 (ae ((e,w)::(d,v)::env)) (aK h) (n+8+8) K:=by exact fun _ h=>h) :
  RegS Tryd.prog all sz (⟨some d,op,ty,pos,af,none⟩::⟨some e,oq,tz,pot,ag,none⟩::⟨some f,o3,t3,p3,a3,none⟩::l) n env h K:=rC (zD h1 he hoq hf ho3) hd hop
end
end Go.Proofs.YtmapiehigkfddaaDoor
namespace Go.Proofs.YtmapiehigkfddaaDoor
open Go.Eng Go.Plain
set_option maxHeartbeats 32000000
set_option maxRecDepth 20000
abbrev bo (b:Bool):D :=.sc (.bool b)
abbrev i6 (n:Int):D :=.sc (.int .i64 n)
abbrev u8s (n:Int):D :=.sc (.int .u8 n)
abbrev u32s (n:Int):D :=.sc (.int .u32 n)
abbrev u64s (n:Int):D :=.sc (.int .u64 n)
abbrev cz (n:Int):D :=.sc (.int .u32 n)
abbrev encB (l:List UInt8):D :=.arr 1 aF (byI l)
abbrev encV (n:Nat) (l:List UInt8):D :=.vec n 1 aF (byI l)
def wdI (l:List UInt32):List Int:=l.map fun b=>(b.toNat:Int)
abbrev encW (n:Nat) (l:List UInt32):D :=.vec n 1 cz (wdI l)
theorem fA (a b:List UInt8):byI a++byI b=byI (a++b):=by simp[byI]
theorem aB (l:List UInt8):(byI l).length=l.length:=by simp[byI]
theorem bA {l:List UInt8} {j:Nat} {b:UInt8} (h:l[j]?=some b):(byI l)[j]?=some (b.toNat:Int):=by simp[byI,h]
theorem gH (l:List UInt8) (j:Nat) (b:UInt8):(byI l).set j (b.toNat:Int)=byI (l.set j b):=by simp[byI,List.map_set]
theorem cN (l:List UInt8) (j:Nat):(byI l).take j=byI (l.take j):=by simp[byI,List.map_take]
theorem c7 (l:List UInt8) (j:Nat):(byI l).drop j=byI (l.drop j):=by simp[byI,List.map_drop]
theorem j3 (n:Nat) (b:UInt8):List.replicate n ((b.toNat:Nat):Int)=byI (List.replicate n b):=by simp[byI]
structure kg where
 shard:Int
 counter:Int
 deriving DecidableEq
def bO (n:kg):D :=.cons (u32s n.shard) (.cons (u64s n.counter) .nil)
theorem pS (l:List UInt32):(wdI l).length=l.length:=by simp[wdI]
theorem dH {l:List UInt32} {j:Nat} {b:UInt32} (h:l[j]?=some b):(wdI l)[j]?=some (b.toNat:Int):=by simp[wdI,h]
theorem pR (l:List UInt32) (j:Nat) (b:UInt32):(wdI l).set j (b.toNat:Int)=wdI (l.set j b):=by simp[wdI,List.map_set]
end Go.Proofs.YtmapiehigkfddaaDoor
namespace Go.Proofs.YtmapiehigkfddaaDoor
open Go.Eng Go.Plain
set_option maxHeartbeats 32000000
set_option maxRecDepth 20000
attribute [local irreducible] WC RegS RegD SeqQ BlkQ ScoQ RegK CutK Sat SatN FnIs LoopQ ab OpIs
theorem lS (x:UInt32) (s:Nat):x.toNat/2 ^ s=(UInt32.ofNat (x.toNat/2 ^ s)).toNat:=by
 have h1:x.toNat/2 ^ s≤x.toNat:=Nat.div_le_self _ _
 have h2:=x.toNat_lt
 rw[UInt32.toNat_ofNat',Nat.mod_eq_of_lt (by omega)]
theorem qe (x:UInt32) (k:Int) (K s:Nat) (hK:IntKind.u64.wrap k=(K:Int)) (hK2:K<18446744073709551616) (hs:K &&& 31=s):FnIs Tryd.prog 79 [.int .u32 x.toNat,.int .i64 k] [] (.int .u32 (rotl x s).toNat) []:=by
 have hs32:s<32:=by rw[←hs]; exact Nat.and_lt_two_pow (n:=5) K (by decide)
 have hw:IntKind.u64.wrap (32-(s:Int))=((32-s:Nat):Int):=by rw[cf (by omega) (by omega)]; omega
 refine aw aa Tryd.func79 rfl rfl rfl ?_;refine sR<|rC<|nR ?_;refine rC ?_;refine rQ (bu (m:=(K:Int)) aa rfl rfl rfl hK) ?_;refine rQ (fF (a:=K) (b:=31) (m:=s) rfl rfl rfl hK2 (by decide) hs) ?_;refine rC<|nR ?_;refine zD ?_;refine rQ (gz (a:=x.toNat) (s:=s) rfl rfl (Nat.le_of_lt hs32) (iR _)) ?_;refine zD ?_;refine rQ (bI (m:=((32-s:Nat):Int)) aa rfl rfl hw) ?_;refine rQ (cB (a:=x.toNat) (s:=32-s) rfl rfl (Nat.sub_le _ _) (lS x _)) ?_;refine rQ (rY rfl rfl) ?_;refine rC<|zT ?_
 exact⟨trivial,[],lf⟩
theorem rL (x:UInt32) (k:Int) (K s:Nat) (hK:IntKind.u64.wrap (k.tmod 32)=(K:Int)) (hK2:K<18446744073709551616) (hs:K &&& 31=s):FnIs Tryd.prog 75 [.int .u32 x.toNat,.int .i64 k] [] (.int .u32 (rotl x s).toNat) []:=by
 refine aw aa Tryd.func75 rfl rfl rfl ?_;refine sR<|rC<|nR ?_;refine zD ?_;refine rQ (mR aa rfl rfl (by decide)) ?_;refine rQ (aq (qe x (k.tmod 32) K s hK hK2 hs) rfl rfl (am (am aj)) (.inl rfl) (fun _=>rfl)) ?_;refine rC<|zT ?_
 exact⟨trivial,[],lf⟩
theorem qf:∀n:Nat,n<32→0<n→(18446744073709551616-n) &&& 31=32-n:=by decide
theorem og {n:Nat} (h:n<32):(-(n:Int)).tmod 32 = -(n:Int):=by
 rw[Int.neg_tmod]
 congr 1
 exact Int.tmod_eq_of_lt (by omega) (by omega)
theorem cC (x:UInt32) (n:Nat) (h0:0<n) (h32:n<32):FnIs Tryd.prog 70 [.int .u32 x.toNat,.int .i64 n] [] (.int .u32 (rotr x n).toNat) []:=by
 have hw:IntKind.i64.wrap (-(n:Int)) = -(n:Int):=aJ (by omega) (by omega)
 have hK:IntKind.u64.wrap ((-(n:Int)).tmod 32)=((18446744073709551616-n:Nat):Int):=by
  rw[og h32]
  simp only[IntKind.wrap,IntKind.signed,IntKind.bits]
  simp
  omega
 refine aw aa Tryd.func70 rfl rfl rfl ?_;refine sR<|rC<|nR ?_;refine zD ?_;refine rQ (qy (m := -(n:Int)) aa rfl hw) ?_;refine rQ (aq (rL x (-(n:Int)) (18446744073709551616-n) (32-n) hK (by omega) (qf n h32 h0)) rfl rfl (am (am aj)) (.inl rfl) (fun _=>rfl)) ?_;refine rC<|zT ?_
 exact⟨trivial,[],lf⟩
def putX (m i v:Nat):List Int:=List.replicate (m-i) 0++byI (putN i v)
theorem oP {m i v:Nat} (h:i<m):(putX m i v)[m-1-i]?=some 0:=by
 simp only[putX]
 rw[List.getElem?_append_left (by simp; omega),List.getElem?_replicate,if_pos (by omega)]
theorem oO {m i v:Nat} (h:i<m):(putX m i v).set (m-1-i) ((v/256 ^ i).toUInt8.toNat:Int)=putX m (i+1) v:=by
 have e:m-i=(m-1-i)+1:=by omega
 simp only[putX,e,List.replicate_succ',List.append_assoc,List.cons_append,List.nil_append]
 rw[List.set_append_right _ _ (by simp)]
 have e2:m-(i+1)=m-1-i:=by omega
 simp[e2,putN,byI]
theorem pY (n:Nat):IntKind.u8.wrap (n:Int)=((n.toUInt8).toNat:Int):=by
 simp[IntKind.wrap,IntKind.signed,IntKind.bits]
theorem pow8 (i:Nat):2 ^ (8*i)=256 ^ i:=by rw[Nat.pow_mul]
theorem qk (v m:Nat) (h0:0<m) (hm:m≤8) (hv:v<18446744073709551616):FnIs Tryd.prog 71 [.int .u64 v,.int .i64 m] [] (.own 64 0 m 1 none) [(64,.ds 5 1 true aF (byI (putN m v)))]:=by
 refine aw aa Tryd.func71 rfl rfl rfl ?_;refine sR<|rC<|nR ?_;refine rC ?_;refine aS (b8 (enc:=aF) (s:=1) (N:=m) aa 0 rfl rfl rfl rfl rfl rfl rfl (by omega) rfl) rfl ?_;refine rC<|zW ?_;refine zD<|zP ?_
 refine wc_inv (fun i:Nat=>⟨[(10,.int .i64 i),(9,.int .i64 m),(5,.own 66 0 m 1 none),(1,.int .i64 m),(0,.int .u64 v)],[(66,some (.ds 5 1 true aF (putX m i v)))],72,Tryd.f71.ntmps,64⟩) (fun i=>i≤m) (fun i=>m-i) 0 [(66,some 80)] (Nat.zero_le _)
  (lg zh ⟨⟨rfl,rfl,_,rfl,aL.of_eq (by rw[show putX m 0 v=List.replicate m 0 by simp[putX,putN,byI]]; rfl)⟩,trivial⟩) ?_
 intro i hi
 refine bk<|sR ?_;refine rC<|nQ ?_
 refine cg rfl (fun h3=>?_) (fun h3=>?_)
 ·have hlt:i<m:=by have:=of_decide_eq_true h3; omega
  have w15:IntKind.i64.wrap ((m:Int)-1)=((m-1:Nat):Int):=by rw[aJ (by omega) (by omega)]; omega
  have w17:IntKind.i64.wrap (((m-1:Nat):Int)-i)=((m-1-i:Nat):Int):=by rw[aJ (by omega) (by omega)]; omega
  have w20:IntKind.i64.wrap (8*(i:Int))=((8*i:Nat):Int):=by rw[aJ (by omega) (by omega)]; omega
  have w21:8*i≤IntKind.u64.bits:=by show 8*i≤64; omega
  have hx:=oO (v:=v) hlt
  have hg:=oP (v:=v) hlt
  refine zQ<|zS<|zD<|nS<|ao ?_;refine zD ?_;refine rQ (bI (m:=((m-1:Nat):Int)) aa rfl rfl w15) ?_;refine rC ?_;refine rQ (bI (m:=((m-1-i:Nat):Int)) aa rfl rfl w17) ?_;refine zD ?_;refine rQ (bW (m:=((8*i:Nat):Int)) aa rfl rfl w20) ?_;refine rQ (cB (a:=v) (s:=8*i) (m:=v/256 ^ i) rfl rfl w21 (by rw[pow8])) ?_;refine rQ (bu aa rfl rfl rfl (pY _)) ?_;refine rQ (ca aa rfl rfl rfl rfl rfl (by omega) (by omega)) ?_;refine bB (aQ aa rfl rfl rfl ⟨rfl,0,((v/256 ^ i).toUInt8.toNat:Int),hg,⟨rfl,rfl,rfl⟩,rfl⟩ rfl)<|aA<|zC<|ao ?_;refine rQ iD ?_;refine rC<|aA ?_
  exact aT (i+1) [] hlt (by omega) (lg zh ⟨⟨rfl,rfl,_,rfl,aL.of_eq (congrArg (Row.ds 5 1 true aF) hx)⟩,trivial⟩)
 ·have he:i=m:=by have:=of_decide_eq_false h3; omega
  subst he
  refine zX<|sR<|zD<|zT ?_
  exact⟨trivial,[(64,some 66)],lg zV ⟨⟨rfl,rfl,_,rfl,aL.of_eq (by rw[show putX i i v=byI (putN i v) by simp[putX]]; rfl)⟩,trivial⟩⟩
theorem oN (v m:Nat) (h0:0<m) (hm:m≤8) (hv:v<18446744073709551616):FnIs Tryd.prog 71 [.int .u64 v,.int .i64 m] [] (.d (.arr 1 aF (byI (putN m v)))) []:=
 (qk v m h0 hm hv).freeze_out 64 _ rfl (Frz.own (by rw[aB,bM])) trivial
theorem dX (v:Nat) (hv:v<4294967296):FnIs Tryd.prog 60 [.int .u32 v] [] (.d (.arr 1 aF (byI (putN 4 v)))) []:=by
 have hw:IntKind.u64.wrap (v:Int)=(v:Int):=cf (by omega) (by omega)
 refine aw aa Tryd.func60 rfl rfl rfl ?_;refine sR<|rC<|nR ?_;refine rC ?_;refine rQ (bu (m:=(v:Int)) aa rfl rfl rfl hw) ?_;refine rQ (aq (oN v 4 (by decide) (by decide) (by omega)) rfl rfl (am (am aj)) (.inl rfl) (fun _=>rfl)) ?_;refine rC<|zT ?_
 exact⟨trivial,[],lf⟩
theorem gV (v:Nat) (hv:v<18446744073709551616):FnIs Tryd.prog 59 [.int .u64 v] [] (.d (.arr 1 aF (byI (putN 8 v)))) []:=by
 refine aw aa Tryd.func59 rfl rfl rfl ?_;refine sR<|rC<|nR ?_;refine rC ?_;refine rQ (aq (oN v 8 (by decide) (by decide) hv) rfl rfl (am (am aj)) (.inl rfl) (fun _=>rfl)) ?_;refine rC<|zT ?_
 exact⟨trivial,[],lf⟩
end Go.Proofs.YtmapiehigkfddaaDoor
namespace Go.Eng
open Go.RowKit
section
variable {w : World} {X : Nat → Prop} {α : Type} {e : α → Value}
theorem lG {N:Nat} {xs:List α} {cs:List Value} (h:Enc w X (.vec N 1 (fun i=>.sc (e i)) xs) cs):xs.length=N∧cs=xs.map e∧∀x∈xs,(e x).oneCell'=true:=by
 obtain⟨hn,f,hf,rfl⟩:=h
 have hone:∀i (hi:i<xs.length),f i=[e xs[i]]∧(e xs[i]).oneCell'=true:=fun i hi=>(hf i hi).1
 refine⟨hn,?_,fun x hx=>?_⟩
 ·subst hn
  apply List.ext_getElem?
  intro j
  rcases Nat.lt_or_ge j xs.length with hj | hj
  ·have:=bK (f:=f) (s:=1) xs.length (fun i hi=>(hf i hi).2) j 0 hj (by decide)
   rw[Nat.mul_one,Nat.add_zero]at this
   rw[this,(hone j hj).1]
   simp[hj]
  ·have hl:(cat f xs.length).length=xs.length:=by rw[bj (s:=1) _ fun i hi=>(hf i hi).2,Nat.mul_one]
   rw[List.getElem?_eq_none (by omega),List.getElem?_eq_none (by simpa using hj)]
 ·obtain⟨i,hi,rfl⟩:=List.mem_iff_getElem.1 hx
  exact (hone i hi).2
theorem ng {g:Nat→Value}:∀n,cat (fun i=>[g i]) n=(List.range n).map g
 | 0=>rfl
 | n+1=>by rw[cat,ng n,List.range_succ,List.map_append]; rfl
theorem mJ {N:Nat} {xs:List α} (hn:xs.length=N) (ho:∀x∈xs,(e x).oneCell'=true):Enc w X (.vec N 1 (fun i=>.sc (e i)) xs) (xs.map e):=by
 cases xs with
 | nil=>exact⟨hn,fun _=>[],⟨fun i hi=>(Nat.not_lt_zero i hi).elim,by subst hn; rfl⟩⟩
 | cons a l =>
  have hget:∀i (hi:i<(a::l).length),((a::l)[i]?.getD a)=(a::l)[i]:=fun i hi=>by rw[List.getElem?_eq_getElem hi]; rfl
  refine⟨hn,fun i=>[e ((a::l)[i]?.getD a)],⟨fun i hi=>⟨⟨by show[e ((a::l)[i]?.getD a)]=_; rw[hget i hi],ho _ (List.getElem_mem hi)⟩,rfl⟩,?_⟩⟩
  rw[ng,←hn]
  apply List.ext_getElem
  ·simp
  ·intro i h1 h2
   simp only[List.getElem_map,List.getElem_range]
   rw[hget i (by simpa using h2)]
end
section
variable {P : Program} {T : Tab} {sz : Nat} {env : Env} {h : Upds} {n : Nat}
theorem dI:∀(p:List Step) (x:Step),ay (p++[x])=ay p+x.off
 | [],x=>by simp[ay]
 | a::p,x=>by simp only[List.cons_append,ay]; rw[dI p x]; omega
def SrcB (w:World) (cs:List Value) (v:Value):Prop:=(∀u∈cs,u.oneCell'=true)∧((cs=[] ∧ ∃a c,v=.slice a 0 c)∨∃ad c,v=.slice (some ad) cs.length c∧∀j u,cs[j]?=some u→w.cell? (ad.add j)=some u)
theorem ov {σ:au} {w:World} {X:Nat→Prop} {α:Type} {e:α→Value} {ys:List α} {v:Value} (h:RelV σ w X (.d (.arr 1 (fun i=>.sc (e i)) ys)) v):SrcB w (ys.map e) v:=by
 rcases RelV.arr.1 h with ⟨rfl,rfl⟩ | ⟨a,c,rfl,_,_,f,hf⟩
 ·exact⟨fun u hu=>by simp at hu,.inl ⟨rfl,none,0,rfl⟩⟩
 ·refine⟨fun u hu=>?_,.inr ⟨a,c,by rw[List.length_map],fun j u hj=>?_⟩⟩
  ·obtain⟨x,hx,rfl⟩:=List.mem_map.1 hu
   obtain⟨i,hi,rfl⟩:=List.mem_iff_getElem.1 hx
   exact (hf i hi).1.2
  ·rw[List.getElem?_map]at hj
   obtain⟨x,hx,rfl⟩:=Option.map_eq_some_iff.1 hj
   obtain⟨hi,rfl⟩:=List.getElem?_eq_some_iff.1 hx
   have:=((hf j hi).2.2 0 (e ys[j]) (by rw[(hf j hi).1.1]; rfl)).1
   simpa using this
theorem jw (hT:ak P T) {t t' ee r N k m len cap:Nat} {re:TyR} {α:Type} {e:α→Value} {xs ys:List α} {x y:Operand} {p q:List Step} {row row':Row} (ht:aI T t=some (.slice ee)) (he:lk T ee=some re) (hs:Nat.beq re.size 1=true)
  (hx:ae env x=some (.asl r q len cap)) (hrow:aK h r=some row) (hq:ay q=ay p+k) (hsub:RSub row p (.d (.vec N 1 (fun i=>.sc (e i)) xs))) (hm:min ys.length len=m) (hkm:k+m≤N)
  (hy:∀(C:Ctx) (G:Nat→Prop) (st:St) (σ:au) (w:World) (a:Act),cQ env h st→an C G st σ w a→SrcB w (ys.map e) (a.eval y))
  (hu:RUpd row p (.d (.vec N 1 (fun i=>.sc (e i)) (xs.take k++ys.take m++xs.drop (k+m)))) row') :
  ab P (.call { callee :=.builtin .copy,args := #[x,y],argTypes := #[t,t'] }) env h n (some (.int .i64 m)) [(r,some row')]:=.of_comes fun C G st σ w a o ho hA hd hst hn=>by
 have hs:=Nat.eq_of_beq_eq_true hs
 obtain⟨ud,hud,hdd⟩:=aD hT ht
 cases hdd
 obtain⟨hx1,hx2⟩:=ai hst (hA.ev hx)
 have hrow:=hA.row _ _ hrow
 obtain⟨b,c,hb,hux⟩:=RelV.asl.1 hx1
 obtain⟨hyo,hys⟩:=hy C G st σ w a hA hst
 obtain⟨b1,c1,cur1,t1,m1,A1,C1,hb1,hh1,⟨hcur1,hA1⟩,hm1,_⟩:=RSub.cells hsub (hst.rows r row hrow)
 rw[hb]at hb1
 cases hb1
 obtain⟨hxl,hmx,hxo⟩:=lG (w:=w) (X:=st.X C.X0 σ) hm1
 obtain⟨zs,hzs⟩:∃zs,xs.take k++ys.take m++xs.drop (k+m)=zs:=⟨_,rfl⟩
 have hzl:zs.length=N:=by rw[←hzs]; simp; omega
 have hzo:∀z∈zs,(e z).oneCell'=true:=fun z hz=>by
  rw[←hzs]at hz
  rcases List.mem_append.1 hz with hz | hz
  ·rcases List.mem_append.1 hz with hz | hz
   ·exact hxo z (List.mem_of_mem_take hz)
   ·exact hyo _ (List.mem_map_of_mem (List.mem_of_mem_take hz))
  ·exact hxo z (List.mem_of_mem_drop hz)
 rw[hzs]at hu
 have hm':Rel σ w (st.X C.X0 σ) (.d (.vec N 1 (fun i=>.sc (e i)) zs)) false (zs.map e):=mJ hzl hzo
 obtain⟨b',c',cur,t2,A,mm,C',hb',hh,⟨hcur,hA2⟩,hml,hnew⟩:=RUpd.cells hu (hst.rows r row hrow) rfl hm' (hst.rowsG r row hrow).2 trivial
 rw[hb]at hb'
 cases hb'
 rw[hh]at hh1
 obtain⟨rfl,rfl⟩:cur=cur1∧t2=t1:=by cases hh1; exact⟨rfl,rfl⟩
 have hAA:A=A1:=by
  have h1:=hcur.symm.trans hcur1
  rw[List.append_assoc,List.append_assoc]at h1
  exact (List.append_inj h1 (by omega)).1
 subst hAA
 have hmm:mm=m1:=by
  have h1:=hcur.symm.trans hcur1
  rw[List.append_assoc,List.append_assoc]at h1
  have h2:=(List.append_inj h1 rfl).2
  exact (List.append_inj h2 (by rw[hml,hmx]; simp; omega)).1
 subst hmm
 have hw:=hst.write (new:=(A++zs.map e++C').toArray) hrow hb hh (RUpd.within (hst.rowsG r row hrow).2 (show (AV.d (.vec N 1 (fun i=>.sc (e i)) zs)).within G from trivial) hu) (fun w' ht hd' hh'=>hnew w' ht hd' hh')
 have hcl:cur.size=A.length+mm.length+C'.length:=by
  have:=congrArg List.length hcur
  simp at this; omega
 have hmml:mm.length=N:=by rw[hmx]; simp[hxl]
 have htl:((ys.take m).map e).length=m:=by simp; omega
 have hst1:(storeCells ⟨b,ay q,none⟩ ((ys.take m).map e) 0).run P w=.ok () (w.setRow b (A++zs.map e++C').toArray):=by
  rw[run_storeCells_at P b (ay q) t2 _ 0 cur w hh (by rw[htl]; omega) (fun u hu=>hyo u (by
   obtain⟨z,hz,rfl⟩:=List.mem_map.1 hu
   exact List.mem_map_of_mem (List.mem_of_mem_take hz)))]
  congr 3
  rw[hcur,←hzs,htl,hmx,Nat.add_zero,hq,←hA2]
  have l1:(xs.map e).length=N:=by simp[hxl]
  have e1:List.take (A.length+k) (A++xs.map e++C')=A++(xs.take k).map e:=by
   rw[List.append_assoc,List.take_append,List.take_of_length_le (by omega),show A.length+k-A.length=k by omega,List.take_append_of_le_length (by omega),List.map_take]
  have e2:List.drop (A.length+k+m) (A++xs.map e++C')=(xs.drop (k+m)).map e++C':=by
   rw[List.append_assoc,List.drop_append,List.drop_eq_nil_of_le (by omega),List.nil_append,show A.length+k+m-A.length=k+m by omega,List.drop_append_of_le_length (by omega),List.map_drop]
  rw[e1,e2]
  simp
 have hrun:(Builtin.copy_ #[t,t'] o.type #[a.eval x,a.eval y]).run P w=.ok (goInt (m:Nat)) (w.setRow b (A++zs.map e++C').toArray):=by
  rcases hys with ⟨hn0,a0,c0,hv⟩ | ⟨ad,c0,hv,hcell⟩
  ·have hy0:ys=[]:=by simpa using hn0
   subst hy0
   have hm0:m=0:=by rw[←hm]; simp
   subst hm0
   have hf1:(Builtin.firstCells re.size 0 (.slice a0 0 c0)).run P w=.ok #[] w:=by
    cases a0 with
    | none=>exact run_firstCells_none (P:=P) w _ _ _ _
    | some ad=>exact run_firstCells_some (P:=P) w re.size 0 ad 0 c0 [] (by simp) (fun j v hj=>by simp at hj)
   simp only[List.take_nil,List.map_nil]at hst1
   simp[Builtin.copy_,hux,hv,run_underlying hud,Builtin.lenOf,(hT ee re he).run_size,hf1,hst1,goInt]
  ·have hf1:(Builtin.firstCells re.size m (.slice (some ad) ((ys.map e).length) c0)).run P w=.ok ((ys.take m).map e).toArray w:=run_firstCells_some (P:=P) w re.size m ad _ c0 _ (by rw[htl,hs,Nat.mul_one]) (fun j v hj=>hcell j v (by
    rw[List.map_take,List.getElem?_take]at hj
    split at hj
    ·exact hj
    ·cases hj))
   have hmin:Nat.min (ys.map e).length len=m:=by rw[List.length_map]; exact hm
   simp only[List.length_map]at hf1 hv hmin
   simp only[List.map_take]at hf1 hst1
   rw[List.append_assoc]at hst1
   rw[List.append_assoc]
   simp[Builtin.copy_,hux,hv,run_underlying hud,Builtin.lenOf,(hT ee re he).run_size,hmin,hf1,hst1,goInt]
 refine⟨_,_,.value (goInt (m:Nat)),_,_,σ,G,⟨rfl,rfl⟩,?_,.inl rfl,by rw[St.put_upd]; exact hw.set hd (u:=goInt (m:Nat)) (RelV.sc.2 ⟨rfl,rfl⟩) trivial,fun _ h=>h,fun _ h=>.inl h⟩
 simp[execOp,ho,resolve,invoke,builtin,hrun]
theorem rk {α:Type} {e:α→Value} {ys:List α} {y:Operand} (hy:ae env y=some (.d (.arr 1 (fun i=>.sc (e i)) ys))):∀(C:Ctx) (G:Nat→Prop) (st:St) (σ:au) (w:World) (a:Act),cQ env h st→an C G st σ w a→SrcB w (ys.map e) (a.eval y):=
 fun C G st σ w a hA hst=>ov (ai hst (hA.ev hy)).1
theorem pC (hT:ak P T) {t t' ee r off len s s':Nat} {cap:Option Nat} {re:TyR} {α:Type} {enc:α→D} {ys:List α} {x y:Operand} (ht:aI T t=some (.slice ee)) (he:lk T ee=some re)
  (hx:ae env x=some (.own r off len s cap)) (hy:ae env y=some (.d (.arr s' enc ys))) (h0:ys=[]) :
  ab P (.call { callee :=.builtin .copy,args := #[x,y],argTypes := #[t,t'] }) env h n (some (.int .i64 0)) []:=.of_comes fun C G st σ w a o ho hA hd hst hn=>by
 subst h0
 obtain⟨ud,hud,hdd⟩:=aD hT ht
 cases hdd
 obtain⟨hx1,_⟩:=ai hst (hA.ev hx)
 obtain⟨hy1,_⟩:=ai hst (hA.ev hy)
 have hxv:∃b c,a.eval x=.slice b len c:=by
  rcases RelV.own.1 hx1 with ⟨_,_,hl,_,hv⟩ | ⟨b,c,a',_,hv,_⟩
  ·exact⟨none,0,by rw[hv,hl]⟩
  ·exact⟨_,_,hv⟩
 have hyv:∃b c,a.eval y=.slice b 0 c:=by
  rcases RelV.arr.1 hy1 with ⟨_,hv⟩ | ⟨a',c,hv,_⟩
  ·exact⟨_,_,hv⟩
  ·exact⟨_,_,hv⟩
 obtain⟨b,c,hxv⟩:=hxv
 obtain⟨b',c',hyv⟩:=hyv
 have hf1:(Builtin.firstCells re.size 0 (.slice b' 0 c')).run P w=.ok #[] w:=by
  cases b' with
  | none=>exact run_firstCells_none (P:=P) w _ _ _ _
  | some ad=>exact run_firstCells_some (P:=P) w re.size 0 ad 0 c' [] (by simp) (fun j v hj=>by simp at hj)
 refine .quiet (u:=goInt (0:Nat)) hst hd ⟨rfl,rfl⟩ ?_ (RelV.sc.2 ⟨rfl,rfl⟩) trivial
 cases b with
 | none=>simp[execOp,ho,resolve,invoke,builtin,Builtin.copy_,hxv,hyv,run_underlying hud,Builtin.lenOf,(hT ee re he).run_size,hf1,goInt]
 | some ad=>simp[execOp,ho,resolve,invoke,builtin,Builtin.copy_,hxv,hyv,run_underlying hud,Builtin.lenOf,(hT ee re he).run_size,hf1,goInt,storeCells]
theorem slice_ptr_from' (hT:ak P T) {t e L r m s:Nat} {re:TyR} {x i:Operand} {p:List Step} {k:IntKind} (ht:aI T t=some (.array L e)) (he:lk T e=some re) (hs:Nat.beq re.size s=true) (hx:ae env x=some (.ptr r p)) (hi:ae env i=some (.int k m)) (hm:m<L) :
  ab P (.slice t x (some i) none none) env h n (some (.asl r (p++[.idx m s]) (L-m) (L-m))) []:=.of_comes fun C G st σ w a o ho hA hdst hst hn=>by
 have hs:=Nat.eq_of_beq_eq_true hs
 obtain⟨ud,hud,hdd⟩:=aD hT ht
 cases hdd
 obtain⟨hx1,hx2⟩:=ai hst (hA.ev hx)
 obtain⟨hi1,_⟩:=RelV.sc.1 (ai hst (hA.ev hi)).1
 obtain⟨b,c,hb,hv⟩:=RelV.ptr.1 hx1
 have hsz:=(hT e re he).run_size (P:=P)
 have hpo:=dI p (.idx m s)
 simp only[Step.off]at hpo
 have hadd:(⟨b,ay p,none⟩:Addr).add (m*s)=⟨b,ay p+m*s,none⟩:=by unfold Addr.add; split <;> simp_all
 refine .quiet (u :=.slice (some ⟨b,ay p+m*s,none⟩) (L-m) (L-m)) hst hdst ⟨rfl,rfl⟩ ?_ (RelV.asl.2 ⟨b,c,hb,by rw[hpo]⟩) hx2
 have hle:(m:Int)≤(L:Int):=by omega
 have hle2:m≤L:=by omega
 have hne:¬L=m:=by omega
 simp[execOp,ho,Instr.sliceAt,Instr.sureAddr,hv,hi1,run_underlying hud,Instr.sliceBounds,Instr.sliceBound,asIntOf,hle,hsz,hs,Sem.run_bind,Sem.run_pure,Result.andThen_ok,hadd,hle2,hne]
theorem ku (hT:ak P T) {t e L r m s hi mx:Nat} {re:TyR} {x i j l:Operand} {p:List Step} {k k2 k3:IntKind} (ht:aI T t=some (.array L e)) (he:lk T e=some re) (hs:Nat.beq re.size s=true) (hx:ae env x=some (.ptr r p)) (hi1:ae env i=some (.int k m)) (hj1:ae env j=some (.int k2 hi)) (hl1:ae env l=some (.int k3 mx)) (h1:m≤hi) (h2:hi≤mx) (h3:mx≤L) (h4:m<mx) :
  ab P (.slice t x (some i) (some j) (some l)) env h n (some (.asl r (p++[.idx m s]) (hi-m) (mx-m))) []:=.of_comes fun C G st σ w a o ho hA hdst hst hn=>by
 have hs:=Nat.eq_of_beq_eq_true hs
 obtain⟨ud,hud,hdd⟩:=aD hT ht
 cases hdd
 obtain⟨hx1,hx2⟩:=ai hst (hA.ev hx)
 obtain⟨hi2,_⟩:=RelV.sc.1 (ai hst (hA.ev hi1)).1
 obtain⟨hj2,_⟩:=RelV.sc.1 (ai hst (hA.ev hj1)).1
 obtain⟨hl2,_⟩:=RelV.sc.1 (ai hst (hA.ev hl1)).1
 obtain⟨b,c,hb,hv⟩:=RelV.ptr.1 hx1
 have hsz:=(hT e re he).run_size (P:=P)
 have hpo:=dI p (.idx m s)
 simp only[Step.off]at hpo
 have hadd:(⟨b,ay p,none⟩:Addr).add (m*s)=⟨b,ay p+m*s,none⟩:=by unfold Addr.add; split <;> simp_all
 refine .quiet (u :=.slice (some ⟨b,ay p+m*s,none⟩) (hi-m) (mx-m)) hst hdst ⟨rfl,rfl⟩ ?_ (RelV.asl.2 ⟨b,c,hb,by rw[hpo]⟩) hx2
 have g1:(m:Int)≤(hi:Int):=by omega
 have g2:(hi:Int)≤(mx:Int):=by omega
 have g3:(mx:Int)≤(L:Int):=by omega
 have g4:¬mx=m:=by omega
 have g5:¬mx-m=0:=by omega
 have g6:¬mx≤m:=by omega
 simp[execOp,ho,Instr.sliceAt,Instr.sureAddr,hv,hi2,hj2,hl2,run_underlying hud,Instr.sliceBounds,Instr.sliceBound,asIntOf,h1,h2,h3,hsz,hs,Sem.run_bind,Sem.run_pure,Result.andThen_ok,hadd,g4,g5,g6]
theorem j7 {look:Nat→Option Row} {ρ:Nat→Option Nat} {r len cap:Nat} {p q:List Step} {row:Row} {α:Type} {m k s:Nat} {enc:α→D} {xs ys:List α} {bs9 avs:List AV} (hr:look r=some row) (hp:ay p=ay q+k*s) (hsub:RSub row q (.d (.vec m s enc xs))) (h1:k+len≤m) (h2:len≤cap) (h3:cap≤1048576) (hys:(xs.drop k).take len=ys)
  (h:bf look ρ bs9 avs):bf look ρ (.asl r p len cap::bs9) (.d (.arr s enc ys)::avs):=
 ⟨_,_,rfl,⟨rfl,rfl⟩,⟨rfl,by
  simp only[ArgD,hr]
  exact⟨α,m,k,s,enc,xs,q,hp,hsub,h1,h2,h3,by rw[hys]; exact .refl _⟩⟩,h⟩
end
end Go.Eng
namespace Go.Proofs.YtmapiehigkfddaaDoor
open Go.Eng Go.Plain
set_option maxHeartbeats 32000000
set_option maxRecDepth 20000
attribute [local irreducible] WC RegS RegD SeqQ BlkQ ScoQ RegK CutK Sat SatN FnIs LoopQ ab OpIs
def eU (ls:List (List UInt8)) (i:Nat):List UInt8:=(ls.take i).flatten
def posJ (ls:List (List UInt8)) (i:Nat):Nat:=(eU ls i).length
theorem kV {ls:List (List UInt8)} {i:Nat} {l:List UInt8} (h:ls[i]?=some l):eU ls (i+1)=eU ls i++l:=by
 simp[eU,List.take_add_one,h]
theorem jN {ls:List (List UInt8)} {i:Nat} {l:List UInt8} (h:ls[i]?=some l):posJ ls (i+1)=posJ ls i+l.length:=by
 simp[posJ,kV h]
theorem jM (ls:List (List UInt8)) (i:Nat):posJ ls i≤ls.flatten.length:=by
 have:ls.flatten=(ls.take i).flatten++(ls.drop i).flatten:=by rw[←List.flatten_append,List.take_append_drop]
 rw[this,List.length_append]
 exact Nat.le_add_right _ _
theorem dY (ls:List (List UInt8)):posJ ls ls.length=ls.flatten.length:=by simp[posJ,eU]
def rowJ (ls:List (List UInt8)) (i:Nat):List Int:=byI (eU ls i)++List.replicate (ls.flatten.length-posJ ls i) 0
theorem oD (ls:List (List UInt8)) (i:Nat):(rowJ ls i).length=ls.flatten.length:=by
 have:=jM ls i
 simp only[rowJ,List.length_append,aB,List.length_replicate]
 show posJ ls i+_=_
 omega
theorem mP {ls:List (List UInt8)} {i:Nat} {l:List UInt8} (h:ls[i]?=some l):(rowJ ls i).take (posJ ls i)++(byI l).take l.length++(rowJ ls i).drop (posJ ls i+l.length)=rowJ ls (i+1):=by
 have e1:(byI (eU ls i)).length=posJ ls i:=aB _
 have e2:(byI l).length=l.length:=aB _
 have e3:(rowJ ls i).take (posJ ls i)=byI (eU ls i):=by
  rw[rowJ,←e1]; exact List.take_left
 have e4:(rowJ ls i).drop (posJ ls i+l.length)=List.replicate (ls.flatten.length-posJ ls (i+1)) 0:=by
  rw[rowJ,←List.drop_drop,←e1,List.drop_left,List.drop_replicate,jN h]
  congr 1; omega
 rw[e3,e4,←e2,List.take_length,rowJ,kV h,fA]
theorem oF (ls:List (List UInt8)):rowJ ls ls.length=byI ls.flatten:=by
 simp[rowJ,dY,eU]
theorem pj (ls:List (List UInt8)) (hls:ls.length≤1000000) (hN:ls.flatten.length≤1048576):FnIs Tryd.prog 32 [.d (.arr 1 encB ls)] [] (.own 64 0 ls.flatten.length 1 none) [(64,.ds 5 1 true aF (byI ls.flatten))]:=by
 have hN2:posJ ls ls.length≤1048576:=by rw[dY]; exact hN
 refine aw aa Tryd.func32 rfl rfl rfl ?_;refine sR<|rC<|nR ?_;refine rC<|zW ?_;refine rC ?_;refine rQ iE ?_;refine rC<|zP ?_
 refine wc_inv (fun i:Nat=>⟨[(12,.int .i64 i),(11,.int .i64 ls.length),(10,.d (.arr 1 encB ls)),(3,.int .i64 (posJ ls i)),(0,.d (.arr 1 encB ls))],[],72,Tryd.f32.ntmps,64⟩) (fun i=>i≤ls.length) (fun i=>ls.length-i) 0 [] (Nat.zero_le _)
  (lg zh trivial) ?_
 intro i hi
 refine bk<|sR ?_;refine rC<|nQ ?_
 refine cg rfl (fun h3=>?_) (fun h3=>?_)
 ·have hlt:i<ls.length:=by have:=of_decide_eq_true h3; omega
  obtain⟨l,hl⟩:∃l,ls[i]?=some l:=⟨_,List.getElem?_eq_getElem hlt⟩
  have hl':ls[((i:Int)).toNat]?=some l:=by rw[Int.toNat_natCast]; exact hl
  have hp1:=jN hl
  have hp2:=jM ls (i+1)
  have w19:IntKind.i64.wrap ((posJ ls i:Int)+((byI l).length:Nat))=((posJ ls (i+1):Nat):Int):=by rw[aB,hp1,aJ (by omega) (by omega)]; push_cast; rfl
  refine zQ<|zS<|rQ iA ?_;refine rQ iL ?_;refine rC<|nS<|ao ?_;refine zD ?_;refine rQ iE ?_;refine rQ (aY (m:=((posJ ls (i+1):Nat):Int)) aa rfl rfl w19) ?_;refine rC<|aA<|zC<|ao ?_;refine rQ iD ?_;refine rC<|aA ?_
  exact aT (i+1) [] hlt (by omega) (lg zh trivial)
 ·have he:i=ls.length:=by have:=of_decide_eq_false h3; omega
  subst he
  refine zX<|sR<|rC ?_;refine aS (b8 (enc:=aF) (s:=1) (N:=posJ ls ls.length) aa 0 rfl rfl rfl rfl rfl rfl rfl hN2 rfl) rfl ?_;refine rC<|nR ?_;refine rC<|zW ?_;refine rC ?_;refine rQ iE ?_;refine rC<|zP ?_
  refine wc_inv (fun i:Nat=>⟨[(25,.int .i64 i),(24,.int .i64 ls.length),(23,.d (.arr 1 encB ls)),(7,.int .i64 (posJ ls i)),(6,.own 66 0 (posJ ls ls.length) 1 none)],[(66,some (.ds 5 1 true aF (rowJ ls i)))],72,Tryd.f32.ntmps,64⟩) (fun i=>i≤ls.length) (fun i=>ls.length-i) 0 [(66,some 88)] (Nat.zero_le _)
   (lg zh ⟨⟨rfl,rfl,_,rfl,aL.of_eq (by rw[show rowJ ls 0=List.replicate (posJ ls ls.length) 0 by simp[rowJ,dY,posJ,eU,byI]] <;> rfl)⟩,trivial⟩) ?_
  intro i hi
  refine bk<|sR ?_;refine rC<|nQ ?_
  refine cg rfl (fun h3=>?_) (fun h3=>?_)
  ·have hlt:i<ls.length:=by have:=of_decide_eq_true h3; omega
   obtain⟨l,hl⟩:∃l,ls[i]?=some l:=⟨_,List.getElem?_eq_getElem hlt⟩
   have hl':ls[((i:Int)).toNat]?=some l:=by rw[Int.toNat_natCast]; exact hl
   have hp1:=jN hl
   have hp2:=jM ls (i+1)
   have hpe:=dY ls
   have hrl:=oD ls i
   have hpl:posJ ls i≤posJ ls ls.length:=by omega
   have hlx:posJ ls i+(posJ ls ls.length-posJ ls i)≤(rowJ ls i).length:=by omega
   have hmin:min (byI l).length (posJ ls ls.length-posJ ls i)=l.length:=by rw[aB]; omega
   have w35:IntKind.i64.wrap ((posJ ls i:Int)+(l.length:Nat))=((posJ ls (i+1):Nat):Int):=by rw[hp1,aJ (by omega) (by omega)]; push_cast; rfl
   cases l with
   | nil =>
    have hq:rowJ ls i=rowJ ls (i+1):=by
     have h0:=mP hl
     simpa[byI]using h0
    have hm1:(byI ([]:List UInt8)).length=0:=rfl
    refine zQ<|zS<|rQ iA ?_;refine rQ iL ?_;refine rC<|nS<|ao ?_;refine zU ?_;refine rQ (dV aa rfl rfl rfl rfl rfl hpl) ?_;refine rC ?_;refine rQ (pC aa rfl rfl rfl rfl rfl) ?_;refine rQ (aY (m:=((posJ ls (i+1):Nat):Int)) aa rfl rfl w35) ?_;refine rC<|aA<|zC<|ao ?_;refine rQ iD ?_;refine rC<|aA ?_
    rw[hq]
    exact aT (i+1) [] hlt (by omega) (lg zh ⟨zR,trivial⟩)
   | cons b l =>
    generalize hlb:b::l=l at *
    have hm0:0<l.length:=by rw[←hlb]; simp
    have hm1:0<(byI l).length:=by rw[aB]; exact hm0
    refine zQ<|zS<|rQ iA ?_;refine rQ iL ?_;refine rC<|nS<|ao ?_;refine zU ?_;refine rQ (dV aa rfl rfl rfl rfl rfl hpl) ?_;refine rC ?_;refine aS (qY (enc:=aF) (m:=l.length) (ys:=byI l) aa rfl rfl rfl rfl rfl rfl hlx hmin hm0 (mP hl) (p8 (by decide) rfl hm1)) rfl ?_;refine rQ (aY (m:=((posJ ls (i+1):Nat):Int)) aa rfl rfl w35) ?_;refine rC<|aA<|zC<|ao ?_;refine rQ iD ?_;refine rC<|aA ?_
    exact aT (i+1) [] hlt (by omega) (lg zh ⟨zR,trivial⟩)
  ·have he:i=ls.length:=by have:=of_decide_eq_false h3; omega
   subst he
   refine zX<|sR<|zD<|zT ?_
   exact⟨trivial,[(64,some 66)],lg ⟨⟨_,rfl,AVLe.of_eq (by rw[dY]; rfl)⟩,rfl,trivial⟩ ⟨⟨rfl,rfl,_,rfl,aL.of_eq (by rw[oF]; rfl)⟩,trivial⟩⟩
theorem fu (ls:List (List UInt8)) (hls:ls.length≤1000000) (hN:ls.flatten.length≤1048576):FnIs Tryd.prog 32 [.d (.arr 1 encB ls)] [] (.d (encB ls.flatten)) []:=
 (pj ls hls hN).freeze_out 64 _ rfl (Frz.own (by rw[aB])) trivial
theorem jn (l:List UInt8) (b:UInt8):getN (l++[b])=getN l*256+b.toNat:=by simp[getN]
theorem gi:∀(l:List UInt8),getN l.reverse<256 ^ l.length
 | []=>by simp[getN]
 | b::l=>by
  have:=gi l
  have hb:=b.toNat_lt
  rw[List.reverse_cons,jn,List.length_cons,Nat.pow_succ]
  have:(getN l.reverse+1)*256≤256 ^ l.length*256:=Nat.mul_le_mul_right _ this
  omega
theorem jZ (l:List UInt8):getN l<256 ^ l.length:=by
 have:=gi l.reverse
 simpa using this
theorem nT {l:List UInt8} {j:Nat} {b:UInt8} (h:l[j]?=some b):getN (l.take (j+1))=getN (l.take j)*256+b.toNat:=by
 rw[List.take_add_one,h]
 exact jn _ _
theorem rZ (a:Nat) {b:Nat} (hb:b<256):a*256 ||| b=a*256+b:=by
 have:=Nat.shiftLeft_add_eq_or_of_lt (i:=8) (b:=b) hb a
 rw[Nat.shiftLeft_eq]at this
 exact this.symm
theorem ql {n:Nat} (h:n≤7):(256:Nat) ^ n≤72057594037927936:=by
 have:=Nat.pow_le_pow_right (n:=256) (by decide) h
 exact this
theorem pp (l:List UInt8) (m:Nat) (hm:l.length=m) (h8:m≤8):FnIs Tryd.prog 73 [.d (encB l),.int .i64 m] [] (.tup (.acons (.int .u64 (getN l)) (.acons (.d (i6 0)) .anil))) []:=by
 have hd1:decide (((byI l).length:Int)<m)=false:=dF (by rw[aB]; omega)
 have hd2:decide ((m:Int)<((byI l).length:Int))=false:=dF (by rw[aB]; omega)
 refine aw aa Tryd.func73 rfl rfl rfl ?_;refine sR<|zD<|nQ<|zS ?_;refine rC ?_;refine rQ iE ?_;refine zU ?_;refine zG<|sR ?_;refine rC ?_;refine rQ iE ?_;refine zU ?_;refine zG<|bR<|zC<|sR ?_;refine rC<|zW ?_;refine rC ?_;refine rQ iE ?_;refine rC<|zP ?_
 refine wc_inv (fun j:Nat=>⟨[(21,.int .i64 j),(20,.int .i64 (byI l).length),(19,.d (encB l)),(6,.int .u64 (getN (l.take j)))],[],72,Tryd.f73.ntmps,64⟩) (fun j=>j≤m) (fun j=>m-j) 0 [] (Nat.zero_le _)
  (lg zi trivial) ?_
 intro j hj
 refine bk<|sR ?_;refine rC<|nQ ?_
 refine cg rfl (fun h3=>?_) (fun h3=>?_)
 ·have hlt:j<m:=by have:=of_decide_eq_true h3; rw[aB]at this; omega
  obtain⟨b,hb⟩:∃b,l[j]?=some b:=⟨_,List.getElem?_eq_getElem (by omega)⟩
  have hb':(byI l)[((j:Int)).toNat]?=some (b.toNat:Int):=by rw[Int.toNat_natCast]; exact bA hb
  have hb8:b.toNat<256:=b.toNat_lt
  have hg:getN (l.take j)<72057594037927936:=by
   have h1:=jZ (l.take j)
   have h2:(l.take j).length=j:=by rw[List.length_take]; omega
   rw[h2]at h1
   exact Nat.lt_of_lt_of_le h1 (ql (by omega))
  have w26:IntKind.u64.wrap ((getN (l.take j)*2 ^ 8:Nat):Int)=((getN (l.take j)*256:Nat):Int):=cf (by omega) (by omega)
  have w28:IntKind.u64.wrap (b.toNat:Int)=((b.toNat:Nat):Int):=cf (by omega) (by omega)
  have w29:getN (l.take j)*256<2 ^ IntKind.u64.bits:=by show _<18446744073709551616; omega
  have w29b:b.toNat<2 ^ IntKind.u64.bits:=by show _<18446744073709551616; omega
  have w29c:getN (l.take j)*256 ||| b.toNat=getN (l.take (j+1)):=by rw[rZ _ hb8,nT hb]
  refine zQ<|zS<|rQ iA ?_;refine rQ iL ?_;refine rC<|nS<|ao ?_;refine rC ?_;refine rQ (gz (a:=getN (l.take j)) (s:=8) (m:=((getN (l.take j)*256:Nat):Int)) rfl rfl (by decide) w26) ?_;refine rC ?_;refine rQ (bu (m:=((b.toNat:Nat):Int)) aa rfl rfl rfl w28) ?_;refine rQ (jP (a:=getN (l.take j)*256) (b:=b.toNat) (m:=getN (l.take (j+1))) rfl rfl rfl w29 w29b w29c) ?_;refine rC<|aA<|zC<|ao ?_;refine rQ iD ?_;refine rC<|aA ?_
  exact aT (j+1) [] hlt (by omega) (lg zi trivial)
 ·have he:l.length≤j:=by have:=of_decide_eq_false h3; rw[aB]at this; omega
  refine zX<|sR<|zU<|zT ?_
  exact⟨trivial,[],lg ⟨⟨_,rfl,AVLe.of_eq (by rw[List.take_of_length_le he]; rfl)⟩,rfl,trivial⟩ trivial⟩
theorem kY (l:List UInt8) (hm:l.length=4):FnIs Tryd.prog 65 [.d (encB l)] [] (.tup (.acons (.int .u32 (getN l)) (.acons (.d (i6 0)) .anil))) []:=by
 have hG:=pp l 4 hm (by decide)
 have hlt:=jZ l
 rw[hm]at hlt
 have w12:IntKind.u32.wrap (getN l:Int)=((getN l:Nat):Int):=cW rfl (by show _<4294967296; exact hlt)
 refine aw aa Tryd.func65 rfl rfl rfl ?_;refine sR<|zD<|nR ?_;refine rC ?_;refine rQ (aq hG rfl rfl (am (am aj)) (.inl rfl) (fun _=>rfl)) ?_;iterate 5 refine rC ?_
 refine nR<|rC ?_;refine rQ (bu (m:=((getN l:Nat):Int)) aa rfl rfl rfl w12) ?_;refine zU<|zT ?_
 exact⟨trivial,[],lf⟩
theorem pq (l:List UInt8) (hm:l.length=8):FnIs Tryd.prog 66 [.d (encB l)] [] (.tup (.acons (.int .u64 (getN l)) (.acons (.d (i6 0)) .anil))) []:=by
 have hG:=pp l 8 hm (by decide)
 refine aw aa Tryd.func66 rfl rfl rfl ?_;refine sR<|zD<|nR ?_;refine rC ?_;refine rQ (aq hG rfl rfl (am (am aj)) (.inl rfl) (fun _=>rfl)) ?_;iterate 4 refine rC ?_
 refine zT ?_
 exact⟨trivial,[],lf⟩
theorem nI (l:List UInt8) (hm:l.length=12):FnIs Tryd.prog 50 [.d (encB l)] [] (.tup (.acons (.d (bO ⟨getN (l.take 4),getN (l.drop 4)⟩)) (.acons (.d (i6 0)) .anil))) []:=by
 have hG1:=kY (l.take 4) (by simp[hm])
 have hG2:=pq (l.drop 4) (by simp[hm])
 have h4:4≤(byI l).length:=by rw[aB]; omega
 have hd1:decide (((byI l).length:Int)<12)=false:=dF (by rw[aB]; omega)
 have hd2:decide ((12:Int)<((byI l).length:Int))=false:=dF (by rw[aB]; omega)
 refine aw aa Tryd.func50 rfl rfl rfl ?_;refine sR<|rN ?_;refine rC<|nQ<|zS ?_;refine rC ?_;refine rQ iE ?_;refine zD ?_;refine zG<|sR ?_;refine rC ?_;refine rQ iE ?_;refine zD ?_;refine zG<|bR<|zC<|sR ?_;refine rC ?_;refine rQ (sp (m:=4) aa rfl rfl rfl rfl rfl h4 (cN l 4)) ?_;refine rQ (aq hG1 rfl rfl (am aj) (.inl rfl) (fun _=>rfl)) ?_;iterate 5 refine rC ?_
 refine nR<|rC ?_;refine rQ (iC (m:=4) aa rfl rfl rfl rfl rfl h4 (c7 l 4)) ?_;refine rQ (aq hG2 rfl rfl (am aj) (.inl rfl) (fun _=>rfl)) ?_
 iterate 5 refine rC ?_
 refine nR<|zD ?_;refine rQ iS ?_;refine rW ?_;refine rC<|zT ?_
 exact⟨trivial,_,rfl,[],lf⟩
theorem sf (ls:List (List UInt8)) (m:Nat) (ex:Bool) (hm:ls.length=m) (hls:ls.length≤1000000) (hN:ls.flatten.length≤1048576):FnIs Tryd.prog 32 [.own 0 0 m 1 none] [(0,.lits 22 1 m ex (dsAV (ls.map encB)))] (.d (encB ls.flatten)) []:=
 FnIs.freeze (avs':=[.d (.arr 1 encB ls)]) (h0':=[]) 0 _ rfl ⟨⟨_,rfl,Frz.litsN ls hm fun _ _=>rfl⟩,trivial⟩ trivial rfl (fu ls hls hN)
def nonB (s c:Nat):List UInt8:=putN 4 s++putN 8 c
theorem cG (s c:Nat):(nonB s c).length=12:=by simp[nonB,bM]
theorem ji (s c:Nat) (hs:s<4294967296) (hc:c<18446744073709551616):FnIs Tryd.prog 48 [.d (bO ⟨s,c⟩)] [] (.d (encB (nonB s c))) []:=by
 have hj:=sf [putN 4 s,putN 8 c] 2 true rfl (by simp) (by simp[bM])
 rw[show[putN 4 s,putN 8 c].flatten=nonB s c by simp[nonB]]at hj
 refine aw aa Tryd.func48 rfl rfl rfl ?_;refine sR<|rN ?_;refine rC<|nQ ?_;refine aR (by kernel_rfl) ?_;refine dC [1] [] ?_;refine dQ [3] [64] iB ?_;refine dQ [4] [] (aq (dX s hs) rfl rfl (am aj) (.inl rfl) (fun _=>rfl)) ?_;refine dC [1] [] ?_;refine dQ [6] [64] iB ?_;refine dQ [7] [] (aq (gV c hc) rfl rfl (am aj) (.inl rfl) (fun _=>rfl)) ?_;refine fb [5,8] [] rfl (aH aa rfl rfl rfl rfl rfl rfl rfl rfl) ?_;refine fb [9] [128] rfl (dk [(0,some 128)] hj rfl rfl rfl (lw rfl rfl aj) ⟨zH,trivial⟩ rfl rfl (.inl rfl) rfl rfl) ?_;refine dC [10] [] ?_;refine aM (by kernel_rfl)<|bm<|cY ?_
 exact⟨trivial,[],lf⟩
end Go.Proofs.YtmapiehigkfddaaDoor
namespace Go.Proofs.YtmapiehigkfddaaDoor
open Go.Eng Go.Plain
set_option maxHeartbeats 32000000
set_option maxRecDepth 20000
attribute [local irreducible] WC RegS RegD SeqQ BlkQ ScoQ RegK CutK Sat SatN FnIs LoopQ ab OpIs
theorem oR {res:AV} (h:res.plain):bp res []:=bp.of h (fun r row h=>by simp[lk]at h)
theorem kX {l:List UInt8} (h:l.length=4):(jo l).toNat=getN l:=by
 have:=jZ l
 rw[h]at this
 rw[jo,UInt32.toNat_ofNat',Nat.mod_eq_of_lt this]
theorem qQ (l:List UInt8) (hm:l.length=4):FnIs Tryd.prog 65 [.d (encB l)] [] (.tup (.acons (.int .u32 (jo l).toNat) (.acons (.d (i6 0)) .anil))) []:=by
 rw[kX hm]; exact kY l hm
theorem fl (b:List UInt8):∀t,(sch1 b t).length=64
 | 0=>by simp[sch1]
 | t+1=>by simp[sch1,fl b t]
theorem ky:∀(k t:Nat) (w:List UInt32),(sch2 k t w).length=w.length
 | 0,_,_=>rfl
 | k+1,t,w=>by rw[sch2,ky k]; simp
theorem ny {w:List UInt32} {t:Nat} {k:Nat} (h:k=64-t) (hlt:t<64):sch2 k t w=sch2 (64-(t+1)) (t+1) (w.set t (schF w t)):=by
 subst h
 rw[show 64-t=(64-(t+1))+1 by omega,sch2]
theorem rK (b:List UInt8):List.replicate 64 (0:Int)=wdI (sch1 b 0):=by simp[sch1,wdI]
theorem sy (b:List UInt8):aL (.box 141 (.d r141.zero)) (.box 141 (.d (encW 64 (sch1 b 0)))):=aL.of_eq (by rw[show encW 64 (sch1 b 0)=.vec 64 1 cz (wdI (sch1 b 0)) from rfl,←rK])
theorem qd (b:List UInt8) (i:Nat):(sch1 b i).set i (jo ((b.drop (4*i)).take 4))=sch1 b (i+1):=rfl
theorem qc (b:List UInt8):sch2 (64-16) 16 (sch1 b 16)=sch b:=rfl
theorem rJ (w:List UInt32):sch2 (64-64) 64 w=w:=rfl
theorem jH {env:Env} {h:Upds} {n r N i:Nat} {ty:TypeId} {x y:Operand} {w:List UInt32} {z b:UInt32} (hx:ae env x=some (.ptr r [.idx i 1])) (hy:ae env y=some (.int .u32 b.toNat)) (hr:aK h r=some (.box ty (.d (encW N w)))) (hz:w[i]?=some z):ab Tryd.prog (.store 55 x y) env h n none [(r,some (.box ty (.d (encW N (w.set i b)))))]:=by
 rw[show encW N (w.set i b)=.vec N 1 cz ((wdI w).set i b.toNat) by rw[pR]]
 exact aQ aa hx hy hr ⟨_,⟨_,⟨rfl,_,_,dH hz,⟨rfl,rfl,rfl⟩,rfl⟩,rfl⟩,rfl⟩ rfl
attribute [local irreducible] sch1 sch2 sch schF rotr rotl jo wdI byI
theorem kw (b:List UInt8) (hb:b.length=64):FnIs Tryd.prog 69 [.d (encV 64 b)] [] (.d (encW 64 (sch b))) []:=by
 refine aw aa Tryd.func69 rfl rfl rfl ?_;refine sR ?_;iterate 2 refine rN ?_
 refine zW<|rC<|zP ?_
 refine wc_inv (fun i:Nat=>⟨[(9,.int .i64 i),(2,.ptr 65 []),(1,.ptr 64 [])],[(64,some (.box 24 (.d (encV 64 b)))),(65,some (.box 141 (.d (encW 64 (sch1 b i)))))],72,Tryd.f69.ntmps,64⟩) (fun i=>i≤16) (fun i=>16-i) 0 [(64,some _),(65,some _)] (Nat.zero_le _)
  (lg zj ⟨zR,⟨rfl,rfl,_,rfl,sy b⟩,trivial⟩) ?_
 intro i hi
 refine bk ?_
 by_cases hlt:i<16
 ·have d1:decide ((i:Int)<16)=true:=dT (by omega)
  have w4:IntKind.i64.wrap (4*(i:Int))=((4*i:Nat):Int):=by rw[aJ (by omega) (by omega)]; push_cast; rfl
  have w44:IntKind.i64.wrap (((4*i:Nat):Int)+4)=((4*i+4:Nat):Int):=by rw[aJ (by omega) (by omega)]; push_cast; rfl
  have hl4:((b.drop (4*i)).take 4).length=4:=by simp; omega
  have hg:=qQ _ hl4
  have hys:((byI b).drop (4*i)).take (4*i+4-4*i)=byI ((b.drop (4*i)).take 4):=by rw[show 4*i+4-4*i=4 by omega,c7,cN]
  have hp:ay ([]++[Step.idx (4*i) 1])=ay []+4*i*1:=by simp[ay,Step.off]
  have hle:4*i+(4*i+4-4*i)≤64:=by omega
  obtain⟨z,hz⟩:∃z,(sch1 b i)[i]?=some z:=⟨_,List.getElem?_eq_getElem (by rw[fl]; omega)⟩
  have hw0:(sch1 b i)[((i:Int)).toNat]?=some z:=by rw[Int.toNat_natCast]; exact hz
  refine sR<|rC<|nQ ?_;refine wT<|zQ<|zS ?_;refine zD<|nS<|ao ?_;refine zD ?_;refine rQ (bW (m:=((4*i:Nat):Int)) aa rfl rfl w4) ?_;refine rC ?_;refine rQ (bW (m:=((4*i:Nat):Int)) aa rfl rfl w4) ?_;refine rQ (aY (m:=((4*i+4:Nat):Int)) aa rfl rfl w44) ?_;refine rC ?_;refine rQ (bW (m:=((4*i:Nat):Int)) aa rfl rfl w4) ?_;refine rQ (aY (m:=((4*i+4:Nat):Int)) aa rfl rfl w44) ?_;refine rQ (ku (s:=1) (m:=4*i) (hi:=4*i+4) (mx:=4*i+4) aa rfl rfl rfl rfl rfl rfl rfl (by omega) (by omega) (by omega) (by omega)) ?_;refine rQ (aq hg rfl rfl (j7 (q:=[]) (k:=4*i) (s:=1) (m:=64) (enc:=aF) (xs:=byI b) (ys:=byI ((b.drop (4*i)).take 4)) rfl hp rfl hle (Nat.le_refl _) (by omega) hys aj) (.inr (oR ⟨trivial,trivial,trivial⟩)) (fun _=>rfl)) ?_;refine zU ?_;refine rQ (aE aa (fun K hk=>⟨by omega,by omega,hk⟩)) ?_;refine bB (jH rfl rfl rfl hw0)<|aA<|zC<|ao ?_;refine rQ iD ?_;refine rC<|aA ?_
  exact aT (i+1) [(64,some _),(65,some _)] (show i+1≤16 by omega) (by show 16-(i+1)<16-i; omega) (lg zj ⟨zR,⟨rfl,rfl,_,rfl,aL.of_eq (by rw[Int.toNat_natCast,qd]; rfl)⟩,trivial⟩)
 ·have d1:decide ((i:Int)<16)=false:=dF (by omega)
  have he:i=16:=by omega
  subst he
  refine sR<|rC<|nQ ?_;refine wG<|zX<|qR ?_;refine rC<|zP ?_
  refine wc_inv (fun q:Nat×List UInt32=>⟨[(4,.int .i64 q.1),(2,.ptr 65 []),(1,.ptr 64 [])],[(64,some (.box 24 (.d (encV 64 b)))),(65,some (.box 141 (.d (encW 64 q.2))))],72,Tryd.f69.ntmps,64⟩) (fun q=>16≤q.1∧q.1≤64∧q.2.length=64∧sch2 (64-q.1) q.1 q.2=sch b) (fun q=>64-q.1) (16,sch1 b 16) [(64,some _),(65,some _)] ⟨Nat.le_refl _,(by decide:16≤64),fl b 16,qc b⟩
   (lg zj ⟨zR,zR,trivial⟩) ?_
  rintro⟨t,w⟩ ⟨ht16,ht,hwl,hgo⟩
  simp only at ht16 ht hwl hgo
  refine bk ?_
  by_cases hlt2:t<64
  ·have d2:decide ((t:Int)<64)=true:=dT (by omega)
   have w31:IntKind.i64.wrap ((t:Int)+1)=((t+1:Nat):Int):=by rw[aJ (by omega) (by omega)]; push_cast; rfl
   have w15:IntKind.i64.wrap ((t:Int)-15)=((t-15:Nat):Int):=by rw[aJ (by omega) (by omega)]; omega
   have w2:IntKind.i64.wrap ((t:Int)-2)=((t-2:Nat):Int):=by rw[aJ (by omega) (by omega)]; omega
   have w7:IntKind.i64.wrap ((t:Int)-7)=((t-7:Nat):Int):=by rw[aJ (by omega) (by omega)]; omega
   have w16:IntKind.i64.wrap ((t:Int)-16)=((t-16:Nat):Int):=by rw[aJ (by omega) (by omega)]; omega
   obtain⟨x,hx⟩:∃x,w[t-15]?=some x:=⟨_,List.getElem?_eq_getElem (by omega)⟩
   obtain⟨y,hy⟩:∃y,w[t-2]?=some y:=⟨_,List.getElem?_eq_getElem (by omega)⟩
   obtain⟨u,hu⟩:∃u,w[t-7]?=some u:=⟨_,List.getElem?_eq_getElem (by omega)⟩
   obtain⟨v,hv⟩:∃v,w[t-16]?=some v:=⟨_,List.getElem?_eq_getElem (by omega)⟩
   obtain⟨z,hz⟩:∃z,w[t]?=some z:=⟨_,List.getElem?_eq_getElem (by omega)⟩
   have g15:(wdI w)[(((t-15:Nat):Int)).toNat]?=some (x.toNat:Int):=by rw[Int.toNat_natCast]; exact dH hx
   have g2:(wdI w)[(((t-2:Nat):Int)).toNat]?=some (y.toNat:Int):=by rw[Int.toNat_natCast]; exact dH hy
   have g7:(wdI w)[(((t-7:Nat):Int)).toNat]?=some (u.toNat:Int):=by rw[Int.toNat_natCast]; exact dH hu
   have g16:(wdI w)[(((t-16:Nat):Int)).toNat]?=some (v.toNat:Int):=by rw[Int.toNat_natCast]; exact dH hv
   have g0:w[((t:Int)).toNat]?=some z:=by rw[Int.toNat_natCast]; exact hz
   obtain⟨s1,hs1⟩:∃s1,rotr y 17 ^^^ rotr y 19 ^^^ UInt32.ofNat (y.toNat/2 ^ 10)=s1:=⟨_,rfl⟩
   obtain⟨s0,hs0⟩:∃s0,rotr x 7 ^^^ rotr x 18 ^^^ UInt32.ofNat (x.toNat/2 ^ 3)=s0:=⟨_,rfl⟩
   have hF:s1+u+s0+v=schF w t:=by unfold schF; simp only[hx,hy,hu,hv,Option.getD_some,hs1,hs0]
   rw[ny rfl hlt2]at hgo
   generalize schF w t=F at hF hgo
   refine qR<|zD ?_;refine zI<|zQ<|bn<|br ?_;refine aR (by kernel_rfl) ?_;refine dC [4] [] ?_;refine dQ [32] [] (bI (m:=((t-15:Nat):Int)) aa rfl rfl w15) ?_;refine dQ [2,33] [] (aE aa (fun K hk=>⟨by omega,by omega,hk⟩)) ?_;refine dQ [34] [65] (bC aa rfl rfl ⟨_,⟨rfl,_,g15,rfl⟩,rfl⟩ rfl) ?_;refine dC [4] [] ?_;refine dQ [36] [] (bI (m:=((t-2:Nat):Int)) aa rfl rfl w2) ?_;refine dQ [2,37] [] (aE aa (fun K hk=>⟨by omega,by omega,hk⟩)) ?_;refine dQ [38] [65] (bC aa rfl rfl ⟨_,⟨rfl,_,g2,rfl⟩,rfl⟩ rfl) ?_;refine dC [35] [] ?_;refine dC [39] [] ?_;refine aM (by kernel_rfl)<|bm<|sR ?_;refine rC ?_;refine rQ (aq (cC x 7 (by decide) (by decide)) rfl rfl (am (am aj)) (.inl rfl) (fun _=>rfl)) ?_;refine rC ?_;refine rQ (aq (cC x 18 (by decide) (by decide)) rfl rfl (am (am aj)) (.inl rfl) (fun _=>rfl)) ?_;refine rQ (ey rfl rfl) ?_;refine rC ?_;refine rQ (cB (a:=x.toNat) (s:=3) rfl rfl (by decide) (lS x 3)) ?_;refine rQ (dm rfl rfl hs0) ?_;refine rC<|nR ?_;refine rC ?_;refine rQ (aq (cC y 17 (by decide) (by decide)) rfl rfl (am (am aj)) (.inl rfl) (fun _=>rfl)) ?_;refine rC ?_;refine rQ (aq (cC y 19 (by decide) (by decide)) rfl rfl (am (am aj)) (.inl rfl) (fun _=>rfl)) ?_;refine rQ (ey rfl rfl) ?_;refine rC ?_;refine rQ (cB (a:=y.toNat) (s:=10) rfl rfl (by decide) (lS y 10)) ?_;refine rQ (dm rfl rfl hs1) ?_;refine rC<|nS ?_;refine aR (by kernel_rfl) ?_;refine dC [4] [] ?_;refine dC [8] [] ?_;refine dC [4] [] ?_;refine dQ [58] [] (bI (m:=((t-7:Nat):Int)) aa rfl rfl w7) ?_;refine dQ [2,59] [] (aE aa (fun K hk=>⟨by omega,by omega,hk⟩)) ?_;refine dQ [60] [65] (bC aa rfl rfl ⟨_,⟨rfl,_,g7,rfl⟩,rfl⟩ rfl) ?_;refine dQ [57,61] [] (eQ aa rfl rfl) ?_;refine dC [7] [] ?_;refine dQ [62,63] [] (eQ aa rfl rfl) ?_;refine dC [4] [] ?_;refine dQ [65] [] (bI (m:=((t-16:Nat):Int)) aa rfl rfl w16) ?_;refine dQ [2,66] [] (aE aa (fun K hk=>⟨by omega,by omega,hk⟩)) ?_;refine dQ [67] [65] (bC aa rfl rfl ⟨_,⟨rfl,_,g16,rfl⟩,rfl⟩ rfl) ?_;refine dQ [64,68] [] (dE aa rfl rfl hF) ?_;refine dQ [2,56] [] (aE aa (fun K hk=>⟨by omega,by omega,hk⟩)) ?_;refine bG [70,69] [65] (jH rfl rfl rfl g0) ?_;refine aM (by kernel_rfl)<|zC<|ao ?_;refine rC ?_;refine rQ (aY (m:=((t+1:Nat):Int)) aa rfl rfl w31) ?_;refine rC<|aA ?_
   exact aT (t+1,w.set t F) [(64,some _),(65,some _)] ⟨(by omega:16≤t+1),(by omega:t+1≤64),(by rw[List.length_set]; exact hwl:(w.set t F).length=64),hgo⟩ (by show 64-(t+1)<64-t; omega) (lg zj ⟨zR,⟨rfl,rfl,_,rfl,aL.of_eq (by rw[Int.toNat_natCast]; rfl)⟩,trivial⟩)
  ·have d2:decide ((t:Int)<64)=false:=dF (by omega)
   have he:t=64:=by omega
   subst he
   rw[rJ]at hgo
   subst hgo
   refine qR<|zD ?_;refine zJ<|zX<|sR ?_;refine rQ iM ?_;refine rW<|nS<|cY ?_
   exact⟨trivial,_,rfl,[],lf⟩
end Go.Proofs.YtmapiehigkfddaaDoor
namespace Go.Proofs.YtmapiehigkfddaaDoor
open Go.Eng Go.Plain
set_option maxHeartbeats 32000000
set_option maxRecDepth 20000
attribute [local irreducible] WC RegS RegD SeqQ BlkQ ScoQ RegK CutK Sat SatN FnIs LoopQ ab OpIs
theorem bJ {env:Env} {h:Upds} {n r N i:Nat} {ty:TypeId} {x:Operand} {w:List UInt32} {z:UInt32} (hx:ae env x=some (.ptr r [.idx i 1])) (hr:aK h r=some (.box ty (.d (encW N w)))) (hz:w[i]?=some z):ab Tryd.prog (.load 55 x) env h n (some (.int .u32 z.toNat)) []:=
 bC aa hx hr ⟨_,⟨rfl,_,dH hz,rfl⟩,rfl⟩ rfl
theorem m7 {env:Env} {h:Upds} {n N:Nat} {t:TypeId} {x y:Operand} {w:List UInt32} {z:UInt32} {i:Nat} (ht:aI tab t=some (.array N 55)) (hx:ae env x=some (.d (encW N w))) (hi:ae env y=some (.int .i64 i)) (hlt:i<N) (hz:w[i]?=some z):ab Tryd.prog (.index t x y) env h n (some (.int .u32 z.toNat)) []:=
 fP (z:=cz z.toNat) aa ht rfl hx hi rfl (by omega) (by omega) (by rw[Int.toNat_natCast]; exact⟨rfl,_,dH hz,rfl⟩) rfl
theorem sB (a b c d e f g h:UInt32):DLe (.cons (cz a.toNat) (.cons (cz b.toNat) (.cons (cz c.toNat) (.cons (cz d.toNat) (.cons (cz e.toNat) (.cons (cz f.toNat) (.cons (cz g.toNat) (.cons (cz h.toNat) .nil)))))))) (encW 8 [a,b,c,d,e,f,g,h]):=DLe.chain_vec (enc:=cz) (fun _ _ _ _ h=>by rw[h.1]; rfl) (wdI [a,b,c,d,e,f,g,h]) _ rfl
theorem pD:jx=wdI dU:=by decide+kernel
theorem pm:jm=wdI ia:=by decide+kernel
theorem kQ {env:Env} {h:Upds} {n N g:Nat} {t:TypeId} {l:List Int} {w:List UInt32} (hg:(g,ke l)∈ed) (hl:l=wdI w) (hN:w.length=N) (hs:aN tab t (.d (encW N w))=true):ab Tryd.prog (.load t (.global g)) env h n (some (.d (encW N w))) []:=
 nK aa hg (fun o ⟨t,fr,ho⟩=>⟨_,t,fr,ho,fun w' X=>by
  subst hl
  have:=mJ (w:=w') (X:=X) (e:=fun z=>Value.int .u32 z) (N:=N) (xs:=wdI w) (by rw[pS]; exact hN) (fun _ _=>rfl)
  exact this⟩) hs
theorem nA {ks ws:List UInt32} {k w:UInt32} {x:List UInt32} {i:Nat} (hk:ks[i]?=some k) (hw:ws[i]?=some w):rnds (ks.drop i) (ws.drop i) x=rnds (ks.drop (i+1)) (ws.drop (i+1)) (rnd x k w):=by
 obtain⟨h1,h2⟩:=List.getElem?_eq_some_iff.1 hk
 obtain⟨h3,h4⟩:=List.getElem?_eq_some_iff.1 hw
 rw[List.drop_eq_getElem_cons h1,List.drop_eq_getElem_cons h3,h2,h4,rnds]
theorem rp {x:List UInt32} (h:x.length=8):∃a b c d e f g hh,x=[a,b,c,d,e,f,g,hh]:=by
 match x,h with
 | [a,b,c,d,e,f,g,hh],_=>exact⟨a,b,c,d,e,f,g,hh,rfl⟩
theorem mQ {x:List UInt32} (h:x.length=8) (k w:UInt32):(rnd x k w).length=8:=by
 obtain⟨a,b,c,d,e,f,g,hh,rfl⟩:=rp h
 rfl
theorem kA:∀(ks ws x:List UInt32),x.length=8→(rnds ks ws x).length=8
 | [],_,x,h=>by simpa[rnds]using h
 | _::_,[],x,h=>by simpa[rnds]using h
 | k::ks,w::ws,x,h=>by rw[rnds]; exact kA ks ws _ (mQ h k w)
theorem fW:dU.length=64:=by decide
theorem qb (b:List UInt8):(sch b).length=64:=by rw[sch,ky,fl]
theorem oH (w x:List UInt32):rnds (dU.drop 64) (w.drop 64) x=x:=by
 rw[List.drop_eq_nil_of_le (by rw[fW]; exact Nat.le_refl _)]; rfl
theorem rM (w x:List UInt32):rnds (dU.drop 0) (w.drop 0) x=rnds dU w x:=by rw[List.drop_zero,List.drop_zero]
def zipA (h x:List UInt32) (i:Nat):List UInt32:=(List.zipWith (· + ·) h x).take i++h.drop i
theorem ry (h x:List UInt32):zipA h x 0=h:=by simp[zipA]
theorem rv {h x:List UInt32} (h1:h.length=8) (h2:x.length=8):zipA h x 8=List.zipWith (· + ·) h x:=by
 rw[zipA,List.drop_eq_nil_of_le (by omega),List.append_nil,List.take_of_length_le (by simp; omega)]
theorem n7 {h x:List UInt32} {i:Nat} {a:UInt32} (ha:h[i]?=some a) (h2:x.length=h.length):(zipA h x i)[i]?=some a:=by
 have hl:=(List.getElem?_eq_some_iff.1 ha).1
 have hl2:((List.zipWith (· + ·) h x).take i).length=i:=by rw[List.length_take,List.length_zipWith]; omega
 rw[zipA,List.getElem?_append_right (by omega),hl2,Nat.sub_self,List.getElem?_drop,Nat.add_zero]; exact ha
theorem n6 {h x:List UInt32} {i:Nat} {a b:UInt32} (ha:h[i]?=some a) (hb:x[i]?=some b) (h2:x.length=h.length):(zipA h x i).set i (a+b)=zipA h x (i+1):=by
 have hl:=(List.getElem?_eq_some_iff.1 ha).1
 have hl2:((List.zipWith (· + ·) h x).take i).length=i:=by rw[List.length_take,List.length_zipWith]; omega
 have hz:(List.zipWith (· + ·) h x)[i]?=some (a+b):=by rw[List.getElem?_zipWith,ha,hb]
 rw[zipA,zipA,List.set_append_right _ _ (by omega),hl2,Nat.sub_self,List.drop_eq_getElem_cons hl,List.set_cons_zero,List.take_add_one,hz]
 simp
theorem fJ {env:Env} {h:Upds} {n r:Nat} {ty:TypeId} {x y:Operand} {d e:D} (hx:ae env x=some (.ptr r [])) (hy:ae env y=some (.d e)) (hr:aK h r=some (.box ty (.d d))) (hd:d.size=e.size) (ha:d.isAgg=e.isAgg) (hs:aN tab ty (.d e)=true):ab Tryd.prog (.store ty x y) env h n none [(r,some (.box ty (.d e)))]:=
 aQ aa hx hy hr ⟨_,⟨hd,ha,rfl⟩,rfl⟩ hs
end Go.Proofs.YtmapiehigkfddaaDoor
namespace Go.Proofs.YtmapiehigkfddaaDoor
open Go.Eng Go.Plain
set_option maxHeartbeats 32000000
set_option maxRecDepth 20000
attribute [local irreducible] WC RegS RegD SeqQ BlkQ ScoQ RegK CutK Sat SatN FnIs LoopQ ab OpIs
attribute [local irreducible] sch rotr rotl rnds dU ia zipA byI
theorem lj (h:List UInt32) (hh:h.length=8) (b:List UInt8) (hb:b.length=64):FnIs Tryd.prog 58 [.d (encW 8 h),.d (encV 64 b)] [] (.d (encW 8 (cmp h b))) []:=by
 have hsl:=qb b
 have hcl:=fW
 refine aw aa Tryd.func58 rfl rfl rfl ?_;refine sR ?_;iterate 3 refine rN ?_
 refine nR<|rQ iM ?_;refine rQ (aq (kw b hb) rfl rfl (am aj) (.inl rfl) (fun _=>rfl)) ?_;refine rN ?_;refine rW<|nR ?_;refine rQ iM ?_;refine rN ?_;refine rW<|zW ?_;refine rQ (kQ (l:=jx) (w:=dU) (by simp[ed]) pD fW rfl) ?_;refine rC<|nS<|bn ?_
 refine wc_inv (fun q:Nat×List UInt32=>⟨[(18,.int .i64 q.1),(17,.d (encW 64 dU)),(6,.ptr 68 []),(5,.ptr 67 []),(4,.ptr 66 []),(2,.ptr 64 [])],[(64,some (.box 84 (.d (encW 8 h)))),(66,some (.box 84 (.d r84.zero))),(67,some (.box 141 (.d (encW 64 (sch b))))),(68,some (.box 84 (.d (encW 8 q.2))))],72,Tryd.f58.ntmps,64⟩) (fun q=>q.1≤64∧q.2.length=8∧rnds (dU.drop q.1) ((sch b).drop q.1) q.2=rnds dU (sch b) h) (fun q=>64-q.1) (0,h) [(64,some _),(66,some _),(67,some _),(68,some _)] ⟨Nat.zero_le _,hh,rM (sch b) h⟩
  (lg zg ⟨zR,zR,zR,zR,trivial⟩) ?_
 rintro⟨i,x⟩ ⟨hi,hxl,hgo⟩
 simp only at hi hxl hgo
 refine bk ?_
 by_cases hlt:i<64
 ·have d1:decide ((i:Int)<64)=true:=dT (by omega)
  obtain⟨k,hk⟩:∃k,dU[i]?=some k:=⟨_,List.getElem?_eq_getElem (by omega)⟩
  obtain⟨w,hw⟩:∃w,(sch b)[i]?=some w:=⟨_,List.getElem?_eq_getElem (by omega)⟩
  have hw':(sch b)[((i:Int)).toNat]?=some w:=by rw[Int.toNat_natCast]; exact hw
  rw[nA hk hw]at hgo
  have hxl2:=mQ hxl k w
  obtain⟨a,bb,c,d,e,f,g,hv,rfl⟩:=rp hxl
  obtain⟨s1,hS1⟩:∃v,rotr e 6 ^^^ rotr e 11 ^^^ rotr e 25=v:=⟨_,rfl⟩
  obtain⟨ch,hC1⟩:∃v,(e &&& f) ^^^ (~~~e &&& g)=v:=⟨_,rfl⟩
  obtain⟨t1,hT1⟩:∃v,hv+s1+ch+k+w=v:=⟨_,rfl⟩
  obtain⟨s2,hS2⟩:∃v,rotr a 2 ^^^ rotr a 13 ^^^ rotr a 22=v:=⟨_,rfl⟩
  obtain⟨mj,hC2⟩:∃v,(a &&& bb) ^^^ (a &&& c) ^^^ (bb &&& c)=v:=⟨_,rfl⟩
  obtain⟨t2,hT2⟩:∃v,s2+mj=v:=⟨_,rfl⟩
  obtain⟨n0,hN0⟩:∃v,t1+t2=v:=⟨_,rfl⟩
  obtain⟨n4,hN4⟩:∃v,d+t1=v:=⟨_,rfl⟩
  have hR:rnd [a,bb,c,d,e,f,g,hv] k w=[n0,a,bb,c,n4,e,f,g]:=by simp only[rnd,hS1,hC1,hT1,hS2,hC2,hT2,hN0,hN4]
  rw[hR]at hgo hxl2
  refine sR<|rC<|nQ ?_;refine wT<|zQ<|zS ?_;refine rC ?_;refine rQ (m7 (i:=i) rfl rfl rfl hlt hk) ?_;refine zD<|nQ ?_;refine aR (by kernel_rfl) ?_;refine dQ [6] [] (aE aa (fun K hk=>⟨by omega,by omega,hk⟩)) ?_;refine dQ [22] [68] (bJ rfl rfl rfl) ?_;refine dQ [6] [] (aE aa (fun K hk=>⟨by omega,by omega,hk⟩)) ?_;refine dQ [24] [68] (bJ rfl rfl rfl) ?_;refine dC [23] [] ?_;refine dC [25] [] ?_;refine aM (by kernel_rfl)<|bm<|br ?_;refine aR (by kernel_rfl) ?_;refine dQ [6] [] (aE aa (fun K hk=>⟨by omega,by omega,hk⟩)) ?_;refine dQ [26] [68] (bJ rfl rfl rfl) ?_;refine dC [10] [] ?_;refine dQ [28] [] (aq (cC e 6 (by decide) (by decide)) rfl rfl (am (am aj)) (.inl rfl) (fun _=>rfl)) ?_;refine dC [10] [] ?_;refine dQ [30] [] (aq (cC e 11 (by decide) (by decide)) rfl rfl (am (am aj)) (.inl rfl) (fun _=>rfl)) ?_;refine dQ [29,31] [] (ey rfl rfl) ?_;refine dC [10] [] ?_;refine dQ [33] [] (aq (cC e 25 (by decide) (by decide)) rfl rfl (am (am aj)) (.inl rfl) (fun _=>rfl)) ?_;refine dQ [32,34] [] (dm rfl rfl hS1) ?_;refine dQ [27,35] [] (eQ aa rfl rfl) ?_;refine dC [10] [] ?_;refine dQ [6] [] (aE aa (fun K hk=>⟨by omega,by omega,hk⟩)) ?_;refine dQ [38] [68] (bJ rfl rfl rfl) ?_;refine dQ [37,39] [] (fE rfl rfl) ?_;refine dC [10] [] ?_;refine dQ [41] [] (qv rfl) ?_;refine dQ [6] [] (aE aa (fun K hk=>⟨by omega,by omega,hk⟩)) ?_;refine dQ [43] [68] (bJ rfl rfl rfl) ?_;refine dQ [42,44] [] (fE rfl rfl) ?_;refine dQ [40,45] [] (dm rfl rfl hC1) ?_;refine dQ [36,46] [] (eQ aa rfl rfl) ?_;refine dC [8] [] ?_;refine dQ [47,48] [] (eQ aa rfl rfl) ?_;refine dC [7] [] ?_;refine dQ [5,50] [] (aE aa (fun K hk=>⟨by omega,by omega,hk⟩)) ?_;refine dQ [51] [67] (bJ rfl rfl hw') ?_;refine dQ [49,52] [] (dE aa rfl rfl hT1) ?_;refine dC [53] [] ?_;refine aM (by kernel_rfl)<|bm<|br ?_;refine aR (by kernel_rfl) ?_;refine dC [9] [] ?_;refine dQ [54] [] (aq (cC a 2 (by decide) (by decide)) rfl rfl (am (am aj)) (.inl rfl) (fun _=>rfl)) ?_;refine dC [9] [] ?_;refine dQ [56] [] (aq (cC a 13 (by decide) (by decide)) rfl rfl (am (am aj)) (.inl rfl) (fun _=>rfl)) ?_;refine dQ [55,57] [] (ey rfl rfl) ?_;refine dC [9] [] ?_;refine dQ [59] [] (aq (cC a 22 (by decide) (by decide)) rfl rfl (am (am aj)) (.inl rfl) (fun _=>rfl)) ?_;refine dQ [58,60] [] (dm rfl rfl hS2) ?_;refine dC [9] [] ?_;refine dQ [6] [] (aE aa (fun K hk=>⟨by omega,by omega,hk⟩)) ?_;refine dQ [63] [68] (bJ rfl rfl rfl) ?_;refine dQ [62,64] [] (fE rfl rfl) ?_;refine dC [9] [] ?_;refine dQ [6] [] (aE aa (fun K hk=>⟨by omega,by omega,hk⟩)) ?_;refine dQ [67] [68] (bJ rfl rfl rfl) ?_;refine dQ [66,68] [] (fE rfl rfl) ?_;refine dQ [65,69] [] (ey rfl rfl) ?_;refine dQ [6] [] (aE aa (fun K hk=>⟨by omega,by omega,hk⟩)) ?_;refine dQ [71] [68] (bJ rfl rfl rfl) ?_;refine dQ [6] [] (aE aa (fun K hk=>⟨by omega,by omega,hk⟩)) ?_;refine dQ [73] [68] (bJ rfl rfl rfl) ?_;refine dQ [72,74] [] (fE rfl rfl) ?_;refine dQ [70,75] [] (dm rfl rfl hC2) ?_;refine dQ [61,76] [] (dE aa rfl rfl hT2) ?_;refine dC [77] [] ?_;refine aM (by kernel_rfl)<|bm<|ao ?_;refine zD ?_;refine rQ (dE aa rfl rfl hN0) ?_;refine rQ (aE aa (fun K hk=>⟨by omega,by omega,hk⟩)) ?_;refine rQ (bJ rfl rfl rfl) ?_;refine rQ (aE aa (fun K hk=>⟨by omega,by omega,hk⟩)) ?_;refine rQ (bJ rfl rfl rfl) ?_;refine rQ (aE aa (fun K hk=>⟨by omega,by omega,hk⟩)) ?_;refine rQ (bJ rfl rfl rfl) ?_;refine rQ (aE aa (fun K hk=>⟨by omega,by omega,hk⟩)) ?_;refine rQ (bJ rfl rfl rfl) ?_;refine rC ?_;refine rQ (dE aa rfl rfl hN4) ?_;refine rQ (aE aa (fun K hk=>⟨by omega,by omega,hk⟩)) ?_;refine rQ (bJ rfl rfl rfl) ?_;refine rQ (aE aa (fun K hk=>⟨by omega,by omega,hk⟩)) ?_;refine rQ (bJ rfl rfl rfl) ?_;refine rQ (aE aa (fun K hk=>⟨by omega,by omega,hk⟩)) ?_;refine rQ (bJ rfl rfl rfl) ?_;refine rQ ((co aa rfl rfl rfl rfl rfl rfl rfl).val_le (sB n0 a bb c n4 e f g) rfl) ?_;refine rW<|aA<|zC<|ao ?_;refine rQ iD ?_;refine rC<|aA ?_
  exact aT (i+1,[n0,a,bb,c,n4,e,f,g]) [(64,some _),(66,some _),(67,some _),(68,some _)] ⟨(by omega:i+1≤64),hxl2,hgo⟩ (by show 64-(i+1)<64-i; omega) (lg zg ⟨zR,zR,zR,zR,trivial⟩)
 ·have d1:decide ((i:Int)<64)=false:=dF (by omega)
  have he:i=64:=by omega
  subst he
  rw[oH]at hgo
  have hcm:List.zipWith (· + ·) h x=cmp h b:=by rw[hgo]; rfl
  refine sR<|rC<|nQ ?_;refine wG<|zX<|qR ?_;refine rC<|zP ?_
  refine wc_inv (fun j:Nat=>⟨[(99,.int .i64 j),(6,.ptr 68 []),(4,.ptr 66 []),(2,.ptr 64 [])],[(64,some (.box 84 (.d (encW 8 (zipA h x j))))),(66,some (.box 84 (.d r84.zero))),(68,some (.box 84 (.d (encW 8 x))))],72,Tryd.f58.ntmps,64⟩) (fun j=>j≤8) (fun j=>8-j) 0 [(64,some _),(66,some _),(68,some _)] (Nat.zero_le _)
   (lg zi ⟨⟨rfl,rfl,_,rfl,aL.of_eq (by rw[ry]; rfl)⟩,zR,zR,trivial⟩) ?_
  intro j hj
  refine bk ?_
  by_cases hjl:j<8
  ·have d2:decide ((j:Int)<8)=true:=dT (by omega)
   obtain⟨u,hu⟩:∃u,h[j]?=some u:=⟨_,List.getElem?_eq_getElem (by omega)⟩
   obtain⟨v,hv⟩:∃v,x[j]?=some v:=⟨_,List.getElem?_eq_getElem (by omega)⟩
   have hz':(zipA h x j)[((j:Int)).toNat]?=some u:=by rw[Int.toNat_natCast]; exact n7 hu (by omega)
   have hx':x[((j:Int)).toNat]?=some v:=by rw[Int.toNat_natCast]; exact hv
   have hst:=n6 hu hv (by omega)
   obtain⟨sm,hsum⟩:∃sm,u+v=sm:=⟨_,rfl⟩
   rw[hsum]at hst
   refine sR<|rC<|nQ ?_;refine wT<|zQ<|zS ?_;refine zD<|nS ?_;refine aR (by kernel_rfl) ?_;refine dC [13] [] ?_;refine dQ [2,102] [] (aE aa (fun K hk=>⟨by omega,by omega,hk⟩)) ?_;refine dQ [103] [64] (bJ rfl rfl hz') ?_;refine dC [13] [] ?_;refine dQ [6,105] [] (aE aa (fun K hk=>⟨by omega,by omega,hk⟩)) ?_;refine dQ [106] [68] (bJ rfl rfl hx') ?_;refine dQ [104,107] [] (dE aa rfl rfl hsum) ?_;refine dQ [2,102] [] (aE aa (fun K hk=>⟨by omega,by omega,hk⟩)) ?_;refine bG [109,108] [64] (jH rfl rfl rfl hz') ?_;refine aM (by kernel_rfl)<|zC<|ao ?_;refine rQ iD ?_;refine rC<|aA ?_
   exact aT (j+1) [(64,some _),(66,some _),(68,some _)] (show j+1≤8 by omega) (by show 8-(j+1)<8-j; omega) (lg zi ⟨⟨rfl,rfl,_,rfl,aL.of_eq (by rw[Int.toNat_natCast,hst]; rfl)⟩,zR,zR,trivial⟩)
  ·have d2:decide ((j:Int)<8)=false:=dF (by omega)
   have he:j=8:=by omega
   subst he
   rw[rv hh hxl,hcm]
   refine sR<|rC<|nQ ?_;refine wG<|zX<|sR ?_;refine rQ iM ?_;refine rW<|zT ?_
   exact⟨trivial,_,rfl,[],lf⟩
end Go.Proofs.YtmapiehigkfddaaDoor
namespace Go.Proofs.YtmapiehigkfddaaDoor
open Go.Eng Go.Plain
set_option maxHeartbeats 32000000
set_option maxRecDepth 20000
attribute [local irreducible] WC RegS RegD SeqQ BlkQ ScoQ RegK CutK Sat SatN FnIs LoopQ ab OpIs
def eh (s:DSt):D :=.cons (bo true) (.cons (encW 8 s.h) (.cons (encV 64 s.rest) (.cons (u64s s.many) .nil)))
structure DOk (s:DSt):Prop where
 h:s.h.length=8
 rest:s.rest.length=64
theorem qZ {h:List UInt32} (hh:h.length=8) (b:List UInt8):(cmp h b).length=8:=by
 rw[cmp,List.length_zipWith,hh,kA _ _ _ hh]; rfl
theorem dR:DOk dst0:=⟨rfl,rfl⟩
theorem nO:ia.length=8:=by decide
theorem kk {s:DSt} (hs:DOk s) (b:List UInt8):(s.rest.take (s.many % 64)++b.take (min (64-s.many % 64) b.length)++s.rest.drop (s.many % 64+min (64-s.many % 64) b.length)).length=64:=by
 have:=hs.rest
 have h1:s.many % 64<64:=Nat.mod_lt _ (by decide)
 simp only[List.length_append,List.length_take,List.length_drop]
 omega
theorem oc {s:DSt} (hs:DOk s) (b:List UInt8):DOk (wr1 s b).1:=by
 refine⟨?_,kk hs b⟩
 simp only[wr1]
 split
 ·exact qZ hs.h _
 ·exact hs.h
theorem lD {s:DSt} {b:List UInt8} (hb:b≠[]):(wr1 s b).2.length<b.length:=by
 have h1:s.many % 64<64:=Nat.mod_lt _ (by decide)
 have h2:0<b.length:=List.length_pos_iff.2 hb
 simp only[wr1,List.length_drop]
 omega
theorem ob:∀(n:Nat) (s:DSt) (b:List UInt8),b.length≤n→wrG n s b=wrG b.length s b:=by
 intro n
 induction n using Nat.strongRecOn with
 | ind n ih =>
  intro s b hb
  cases n with
  | zero =>
   have:b=[]:=List.eq_nil_of_length_eq_zero (by omega)
   subst this; rfl
  | succ n =>
   by_cases h:b=[]
   ·subst h; simp[wrG]
   ·have hl:=lD (s:=s) h
    obtain⟨m,hm⟩:∃m,b.length=m+1:=⟨b.length-1,by have:=List.length_pos_iff.2 h; omega⟩
    rw[hm,wrG,wrG,if_neg h,if_neg h,ih n (by omega) _ _ (by omega),ih m (by omega) _ _ (by omega)]
theorem pQ (s:DSt):wrD s []=s:=rfl
theorem kj {s:DSt} {b:List UInt8} (h:b≠[]):wrD s b=wrD (wr1 s b).1 (wr1 s b).2:=by
 have hl:=lD (s:=s) h
 obtain⟨m,hm⟩:∃m,b.length=m+1:=⟨b.length-1,by have:=List.length_pos_iff.2 h; omega⟩
 rw[wrD,hm,wrG,if_neg h,ob m _ _ (by omega),wrD]
theorem mE:∀(n:Nat) (s:DSt) (b:List UInt8),b.length≤n→DOk s→DOk (wrD s b)∧(wrD s b).many=s.many+b.length:=by
 intro n
 induction n with
 | zero =>
  intro s b hb hs
  have:b=[]:=List.eq_nil_of_length_eq_zero (by omega)
  subst this; exact⟨hs,rfl⟩
 | succ n ih =>
  intro s b hb hs
  by_cases h:b=[]
  ·subst h; exact⟨hs,rfl⟩
  ·have hl:=lD (s:=s) h
   obtain⟨h1,h2⟩:=ih (wr1 s b).1 (wr1 s b).2 (by omega) (oc hs b)
   rw[kj h]
   refine⟨h1,?_⟩
   rw[h2]
   simp only[wr1,List.length_drop]
   omega
theorem cX {s:DSt} (hs:DOk s) (b:List UInt8):DOk (wrD s b):=(mE _ s b (Nat.le_refl _) hs).1
theorem dw {s:DSt} (hs:DOk s) (b:List UInt8):(wrD s b).many=s.many+b.length:=(mE _ s b (Nat.le_refl _) hs).2
section
variable {env : Env} {h : Upds} {n r : Nat} {x y : Operand}
theorem jv {t t':TypeId} {s:DSt} {b:List UInt8} {k m:Nat} {q:List Step} (ht:aI tab t=some (.slice 5)) (hx:ae env x=some (.asl r q (64-k) (64-k))) (hq:ay q=9+k) (hy:ae env y=some (.d (encB b))) (hr:aK h r=some (.box 86 (.d (eh s)))) (hm:min b.length (64-k)=m) (hk:k≤64) {R:List UInt8} (hR:s.rest.take k++b.take m++s.rest.drop (k+m)=R) :
  ab Tryd.prog (.call { callee :=.builtin .copy,args := #[x,y],argTypes := #[t,t'] }) env h n (some (.int .i64 m)) [(r,some (.box 86 (.d (eh { s with rest:=R }))))]:=by
 subst hR
 exact jw (xs:=byI s.rest) (ys:=byI b) (p:=[.fld 2 9]) (k:=k) aa ht rfl rfl hx hr hq ⟨_,rfl,rfl⟩ (by rw[aB]; exact hm) (by omega) (rk hy)
  ⟨_,⟨_,⟨_,⟨rfl,rfl,rfl⟩,rfl⟩,rfl⟩,by rw[cN,cN,c7,fA,fA]; rfl⟩
end
attribute [local irreducible] byI wdI cmp ia
theorem tN:List.replicate 64 (0:Int)=byI (List.replicate 64 0):=(j3 64 0)
theorem qV:DLe (.cons (bo true) (.cons (encW 8 ia) (.cons (.vec 64 1 aF (List.replicate 64 0)) (.cons (u64s 0) .nil)))) (eh dst0):=DLe.of_eq (by rw[tN]; rfl)
theorem o5:FnIs Tryd.prog 27 [] [] (.d (eh dst0)) []:=by
 refine aw aa Tryd.func27 rfl rfl rfl ?_;refine sR<|rN<|nR ?_;refine rQ (kQ (l:=jm) (w:=ia) (by simp[ed]) pm nO rfl) ?_;refine rQ (ab.val_le (fB aa rfl rfl rfl rfl) qV rfl) ?_;refine rW<|zT ?_
 exact⟨trivial,_,rfl,[],lf⟩
theorem dr (s0:DSt) (hs0:DOk s0) (b0:List UInt8) (hM:s0.many+b0.length≤1000000000000):FnIs Tryd.prog 28 [.d (eh s0),.d (encB b0)] [] (.d (eh (wrD s0 b0))) []:=by
 refine aw aa Tryd.func28 rfl rfl rfl ?_;refine sR ?_;iterate 2 refine rN ?_
 refine zW<|rC ?_;refine rQ iB ?_;refine rC ?_;refine zJ<|zQ<|bn ?_
 refine wc_inv (fun q:DSt×List UInt8=>⟨[(1,.d (encB q.2)),(4,.ptr 65 []),(2,.ptr 64 [])],[(64,some (.box 86 (.d (eh q.1)))),(65,some (.box 86 (.d r86.zero)))],72,Tryd.f28.ntmps,64⟩) (fun q=>DOk q.1∧q.1.many+q.2.length=s0.many+b0.length∧wrD q.1 q.2=wrD s0 b0) (fun q=>q.2.length) (s0,b0) [(64,some _),(65,some _)] ⟨hs0,rfl,rfl⟩
  (lg zj ⟨zR,zR,trivial⟩) ?_
 rintro⟨s,b⟩ ⟨hs,hmb0,hgo⟩
 simp only at hs hmb0 hgo
 refine bk ?_
 by_cases hb:b=[]
 ·subst hb
  have d1:decide ((0:Int)<((byI ([]:List UInt8)).length:Int))=false:=by rw[aB]; rfl
  rw[pQ]at hgo
  rw[←hgo]
  refine qR<|rC ?_;refine rQ iE ?_;refine rC ?_;refine zG<|zX<|sR ?_;refine rQ iM ?_;refine rW<|zT ?_
  exact⟨trivial,_,rfl,[],lf⟩
 ·have hbl:0<b.length:=List.length_pos_iff.2 hb
  have d1:decide ((0:Int)<((byI b).length:Int))=true:=dT (by rw[aB]; omega)
  obtain⟨k,hk⟩:∃k,s.many % 64=k:=⟨_,rfl⟩
  have hk64:k<64:=by rw[←hk]; exact Nat.mod_lt _ (by decide)
  obtain⟨m,hm⟩:∃m,min b.length (64-k)=m:=⟨_,rfl⟩
  have hm':min (64-k) b.length=m:=by rw[Nat.min_comm]; exact hm
  have hmb:m≤(byI b).length:=by rw[aB]; omega
  have hq:ay ([Step.fld 2 9]++[Step.idx k 1])=9+k:=by simp[ay,Step.off]
  have w17:IntKind.i64.wrap (((s.many % 64:Nat):Int))=(k:Int):=by rw[hk]; exact aJ (by omega) (by omega)
  have w26:IntKind.u64.wrap (m:Int)=(m:Int):=cf (by omega) (by omega)
  have w27:IntKind.u64.wrap ((s.many:Int)+(m:Int))=((s.many+m:Nat):Int):=by rw[cf (by omega) (by omega)]; push_cast; rfl
  have w34:IntKind.i64.wrap ((k:Int)+(m:Int))=((k+m:Nat):Int):=by rw[aJ (by omega) (by omega)]; push_cast; rfl
  have hrl:=kk hs b
  have hok:=oc hs b
  rw[hk,hm']at hrl
  rw[kj hb]at hgo
  have h1:wr1 s b=(⟨if k+m=64 then cmp s.h (s.rest.take k++b.take m++s.rest.drop (k+m)) else s.h,s.rest.take k++b.take m++s.rest.drop (k+m),s.many+m⟩,b.drop m):=by simp only[wr1,hk,hm']
  rw[h1]at hgo hok
  have hcmp:=lj s.h hs.h _ hrl
  generalize hR:s.rest.take k++b.take m++s.rest.drop (k+m)=R at *
  by_cases h64:k+m=64
  ·have d2:decide (((k+m:Nat):Int)=64)=true:=dT (by omega)
   rw[if_pos h64]at hgo hok
   refine qR<|rC ?_;refine rQ iE ?_;refine rC ?_;refine zI<|kS<|zS ?_;refine rC ?_;refine rQ iB ?_;refine rQ (eD (a:=s.many) (b:=64) aa rfl rfl rfl (by decide)) ?_;refine rQ (bu (m:=(k:Int)) aa rfl rfl rfl w17) ?_;refine rC<|nR ?_;refine zD ?_;refine rQ (slice_ptr_from' (m:=k) (s:=1) aa rfl rfl rfl rfl rfl hk64) ?_;refine rC ?_;refine aS (jv (s:=s) (b:=b) (k:=k) rfl rfl hq rfl rfl hm (Nat.le_of_lt hk64) hR) rfl ?_;refine rC<|nR ?_;refine rC ?_;refine rQ iB ?_;refine rC ?_;refine rQ (bu (m:=(m:Int)) aa rfl rfl rfl w26) ?_;refine rQ (aY (m:=((s.many+m:Nat):Int)) aa rfl rfl w27) ?_;refine rC ?_;refine rX<|nR ?_;refine zD ?_;refine rQ (iC (m:=m) aa rfl rfl rfl rfl rfl hmb (c7 b m)) ?_;refine rC<|nR ?_;refine zD ?_;refine rQ (aY (m:=((k+m:Nat):Int)) aa rfl rfl w34) ?_;refine rC ?_;refine zI<|ao ?_;refine rC ?_;refine rQ iB ?_;refine rC ?_;refine rQ iB ?_;refine rQ (aq hcmp rfl rfl (am (am aj)) (.inl rfl) (fun _=>rfl)) ?_;refine rC ?_;refine rX<|aA<|iy ?_
   exact aT (⟨cmp s.h R,R,s.many+m⟩,b.drop m) [(64,some _),(65,some _)] ⟨hok,(by show s.many+m+(b.drop m).length=_; rw[List.length_drop]; omega),hgo⟩ (by show (b.drop m).length<b.length; rw[List.length_drop]; omega) (lg zj ⟨zR,zR,trivial⟩)
  ·have d2:decide (((k+m:Nat):Int)=64)=false:=dF (by omega)
   rw[if_neg h64]at hgo hok
   refine qR<|rC ?_;refine rQ iE ?_;refine rC ?_;refine zI<|kS<|zS ?_;refine rC ?_;refine rQ iB ?_;refine rQ (eD (a:=s.many) (b:=64) aa rfl rfl rfl (by decide)) ?_;refine rQ (bu (m:=(k:Int)) aa rfl rfl rfl w17) ?_;refine rC<|nR ?_;refine zD ?_;refine rQ (slice_ptr_from' (m:=k) (s:=1) aa rfl rfl rfl rfl rfl hk64) ?_;refine rC ?_;refine aS (jv (s:=s) (b:=b) (k:=k) rfl rfl hq rfl rfl hm (Nat.le_of_lt hk64) hR) rfl ?_;refine rC<|nR ?_;refine rC ?_;refine rQ iB ?_;refine rC ?_;refine rQ (bu (m:=(m:Int)) aa rfl rfl rfl w26) ?_;refine rQ (aY (m:=((s.many+m:Nat):Int)) aa rfl rfl w27) ?_;refine rC ?_;refine rX<|nR ?_;refine zD ?_;refine rQ (iC (m:=m) aa rfl rfl rfl rfl rfl hmb (c7 b m)) ?_;refine rC<|nR ?_;refine zD ?_;refine rQ (aY (m:=((k+m:Nat):Int)) aa rfl rfl w34) ?_;refine rC ?_;refine zG<|bR<|iy ?_
   exact aT (⟨s.h,R,s.many+m⟩,b.drop m) [(64,some _),(65,some _)] ⟨hok,(by show s.many+m+(b.drop m).length=_; rw[List.length_drop]; omega),hgo⟩ (by show (b.drop m).length<b.length; rw[List.length_drop]; omega) (lg zj ⟨zR,zR,trivial⟩)
end Go.Proofs.YtmapiehigkfddaaDoor
namespace Go.Proofs.YtmapiehigkfddaaDoor
open Go.Eng Go.Plain
set_option maxHeartbeats 32000000
set_option maxRecDepth 20000
attribute [local irreducible] WC RegS RegD SeqQ BlkQ ScoQ RegK CutK Sat SatN FnIs LoopQ ab OpIs
def padD (s:DSt):Nat:=(120-s.many % 64) % 64
theorem qp {s:DSt} (hs:DOk s) (h:s.many % 64≠56):padD (wrD s [0])+1=padD s:=by
 unfold padD; rw[dw hs]
 show (120-(s.many+1) % 64) % 64+1=_
 omega
theorem gB:∀(n:Nat) (s:DSt),DOk s→DOk (padG n s)
 | 0,s,h=>h
 | n+1,s,h=>by
  rw[padG]; split
  ·exact h
  ·exact gB n _ (cX h _)
theorem jf:∀(n:Nat) (s:DSt),DOk s→(padG n s).many≤s.many+n
 | 0,s,h=>Nat.le_refl _
 | n+1,s,h=>by
  rw[padG]; split
  ·omega
  ·have:=jf n _ (cX h [0])
   rw[dw h]at this
   simp only[List.length_singleton]at this
   omega
theorem nD {n:Nat} {s:DSt} (h:s.many % 64≠56):padG (n+1) s=padG n (wrD s [0]):=by rw[padG,if_neg h]
theorem oZ {n:Nat} {s:DSt} (h:s.many % 64=56):padG n s=s:=by cases n with
 | zero=>rfl
 | succ n=>rw[padG,if_pos h]
def sumX (h:List UInt32) (i:Nat):List UInt8:=(h.take i).flatMap (fun v=>putN 4 v.toNat)++List.replicate (32-4*i) 0
theorem gx (h:List UInt32):∀i,i≤h.length→((h.take i).flatMap (fun v=>putN 4 v.toNat)).length=4*i
 | 0,_=>by simp
 | i+1,hi=>by
  rw[List.take_add_one,List.getElem?_eq_getElem (by omega),Option.toList_some,List.flatMap_append,List.length_append,gx h i (by omega)]
  simp[bM]; omega
theorem rH (h:List UInt32):sumX h 0=List.replicate 32 0:=by simp[sumX]
theorem rG {h:List UInt32} (hh:h.length=8):sumX h 8=h.flatMap (fun v=>putN 4 v.toNat):=by
 rw[sumX,List.take_of_length_le (by omega)]; simp
theorem p5 {h:List UInt32} {i:Nat} {v:UInt32} (hv:h[i]?=some v) (hh:h.length=8):(sumX h i).take (4*i)++(putN 4 v.toNat).take 4++(sumX h i).drop (4*i+4)=sumX h (i+1):=by
 have hi:=(List.getElem?_eq_some_iff.1 hv).1
 have hl:=gx h i (by omega)
 have ht:h.take (i+1)=h.take i++[v]:=by rw[List.take_add_one,hv]; rfl
 have hp:(putN 4 v.toNat).take 4=putN 4 v.toNat:=List.take_of_length_le (by rw[bM]; exact Nat.le_refl _)
 rw[hp]
 unfold sumX
 rw[List.take_left' hl,←List.drop_drop,List.drop_left' hl,List.drop_replicate,ht,List.flatMap_append,show 32-4*i-4=32-4*(i+1) by omega]
 simp
theorem jG (s:DSt):sumD s=(wrD (padG 64 (wrD s [0x80])) (putN 8 (8*s.many))).h.flatMap fun v=>putN 4 v.toNat:=rfl
section
variable {env : Env} {h : Upds} {n r : Nat} {x y : Operand}
theorem pB {t t' ty:TypeId} {N k m len cap:Nat} {l b R:List UInt8} {q:List Step} (ht:aI tab t=some (.slice 5)) (hx:ae env x=some (.asl r q len cap)) (hq:ay q=0+k) (hy:ae env y=some (.d (encB b))) (hr:aK h r=some (.box ty (.d (encV N l)))) (hm:min b.length len=m) (hkm:k+m≤N) (hR:l.take k++b.take m++l.drop (k+m)=R) :
  ab Tryd.prog (.call { callee :=.builtin .copy,args := #[x,y],argTypes := #[t,t'] }) env h n (some (.int .i64 m)) [(r,some (.box ty (.d (encV N R))))]:=by
 subst hR
 exact jw (xs:=byI l) (ys:=byI b) (p:=[]) (k:=k) aa ht rfl rfl hx hr hq rfl (by rw[aB]; exact hm) hkm (rk hy) ⟨_,⟨rfl,rfl,rfl⟩,by rw[cN,cN,c7,fA,fA]; rfl⟩
theorem sk (h:List UInt32):aL (.box 31 (.d r31.zero)) (.box 31 (.d (encV 32 (sumX h 0)))):=aL.of_eq (by rw[rH,show encV 32 (List.replicate 32 0)=.vec 32 1 aF (byI (List.replicate 32 0)) from rfl,←j3]; rfl)
end
attribute [local irreducible] byI wdI wrD padG sumX putN
theorem oo (s0:DSt) (hs0:DOk s0) (hM:s0.many≤100000000000):FnIs Tryd.prog 29 [.d (eh s0)] [] (.d (encV 32 (sumD s0))) []:=by
 have hw80:=dr s0 hs0 [0x80] (by simp; omega)
 rw[show encB [0x80] = .arr 1 aF [128] from by simp[byI]]at hw80
 have hok1:=cX hs0 [0x80]
 have hm1:=dw hs0 [0x80]
 have hsd:=jG s0
 generalize wrD s0 [0x80]=s1 at *
 have hpok:=gB 64 s1 hok1
 have hpm:=jf 64 s1 hok1
 have w20:IntKind.u64.wrap (8*(s0.many:Int))=((8*s0.many:Nat):Int):=by rw[cf (by omega) (by omega)]; push_cast; rfl
 have hput:=gV (8*s0.many) (by omega)
 have hwl:=dr (padG 64 s1) hpok (putN 8 (8*s0.many)) (by rw[bM]; simp at hm1; omega)
 have hlok:=cX hpok (putN 8 (8*s0.many))
 generalize putN 8 (8*s0.many)=P8 at *
 generalize hS:padG 64 s1=S at *
 generalize wrD S P8=S2 at *
 refine aw aa Tryd.func29 rfl rfl rfl ?_;refine sR ?_;iterate 2 refine rN ?_
 refine nR<|rC ?_;refine rQ iB ?_;refine rC<|nR ?_;refine rQ iM ?_;refine rQ (ab.frozen (aH (s:=1) aa rfl rfl rfl rfl rfl rfl rfl rfl) (Frz.litsN (enc:=aF) [128] rfl (fun _ _=>rfl))) ?_;refine rQ (aq hw80 rfl rfl (am (am aj)) (.inl rfl) (fun _=>rfl)) ?_;refine rW<|nQ<|bn ?_
 refine wc_inv (fun q:DSt×Nat=>⟨[(3,.int .u64 s0.many),(2,.ptr 65 []),(1,.ptr 64 [])],[(64,some (.box 86 (.d (eh q.1)))),(65,some (.box 31 (.d r31.zero)))],72,Tryd.f29.ntmps,64⟩) (fun q=>DOk q.1∧q.1.many≤1000000000000-q.2-100∧q.2≤64∧padD q.1<q.2∧padG q.2 q.1=S) (fun q=>padD q.1) (s1,64) [(64,some _),(65,some _)] ⟨hok1,(by simp at hm1; show s1.many≤_; omega),Nat.le_refl _,(by show padD s1<64; unfold padD; omega),hS⟩
  (lg zj ⟨zR,zR,trivial⟩) ?_
 rintro⟨s,f⟩ ⟨hs,hmany,hf64,hf,hgo⟩
 simp only at hs hmany hf64 hf hgo
 refine bk ?_
 by_cases h56:s.many % 64=56
 ·have d1:(!decide (((s.many % 64:Nat):Int)=56))=false:=by rw[dT (by omega)]; rfl
  rw[oZ h56]at hgo
  subst hgo
  refine qR<|rC ?_;refine rQ iB ?_;refine rQ (eD (a:=s.many) (b:=64) aa rfl rfl rfl (by decide)) ?_;refine rC ?_;refine zG<|bS<|da<|cw<|dD<|bm<|br ?_;refine aR (by kernel_rfl) ?_;refine dQ [1] [64] iM ?_;refine dC [3] [] ?_;refine dQ [19] [] (bW (m:=((8*s0.many:Nat):Int)) aa rfl rfl w20) ?_;refine dQ [20] [] (aq hput rfl rfl (am aj) (.inl rfl) (fun _=>rfl)) ?_;refine dQ [18,21] [] (aq hwl rfl rfl (am (am aj)) (.inl rfl) (fun _=>rfl)) ?_;refine bG [1,22] [64] (aQ aa rfl rfl rfl ⟨_,⟨rfl,rfl,rfl⟩,rfl⟩ rfl) ?_;refine aM (by kernel_rfl)<|bm<|qR ?_;refine rC ?_;refine rQ iB ?_;refine rC<|zP ?_
  refine wc_inv (fun i:Nat=>⟨[(25,.int .i64 i),(24,.d (encW 8 S2.h)),(2,.ptr 65 [])],[(65,some (.box 31 (.d (encV 32 (sumX S2.h i)))))],72,Tryd.f29.ntmps,64⟩) (fun i=>i≤8) (fun i=>8-i) 0 [(65,some _)] (Nat.zero_le _)
   (lg zj ⟨⟨rfl,rfl,_,rfl,sk _⟩,trivial⟩) ?_
  intro i hi
  refine bk ?_
  by_cases hlt:i<8
  ·have d2:decide ((i:Int)<8)=true:=dT (by omega)
   obtain⟨v,hv⟩:∃v,S2.h[i]?=some v:=⟨_,List.getElem?_eq_getElem (by rw[hlok.h]; exact hlt)⟩
   have w30:IntKind.i64.wrap (4*(i:Int))=((4*i:Nat):Int):=by rw[aJ (by omega) (by omega)]; push_cast; rfl
   have hp32:=dX v.toNat v.toNat_lt
   have hgo4:=p5 hv hlok.h
   have hq:ay ([]++[Step.idx (4*i) 1])=0+4*i:=by simp[ay,Step.off]
   have hm4:min (putN 4 v.toNat).length (32-4*i)=4:=by rw[bM]; omega
   refine sR<|rC<|nQ ?_;refine wT<|zQ<|zS ?_;refine rC ?_;refine rQ (m7 (i:=i) rfl rfl rfl hlt hv) ?_;refine zD<|nS ?_;refine aR (by kernel_rfl) ?_;refine dC [4] [] ?_;refine dQ [29] [] (bW (m:=((4*i:Nat):Int)) aa rfl rfl w30) ?_;refine dQ [2,30] [65] (slice_ptr_from' (m:=4*i) (s:=1) aa rfl rfl rfl rfl rfl (by omega)) ?_;refine dC [5] [] ?_;refine dQ [32] [] (aq hp32 rfl rfl (am aj) (.inl rfl) (fun _=>rfl)) ?_;refine fb [31,33] [65] rfl (pB (k:=4*i) (b:=putN 4 v.toNat) rfl rfl hq rfl rfl hm4 (by omega) hgo4) ?_;refine aM (by kernel_rfl)<|zC<|ao ?_;refine rQ iD ?_;refine rC<|aA ?_
   exact aT (i+1) [(65,some _)] (show i+1≤8 by omega) (by show 8-(i+1)<8-i; omega) (lg zj ⟨zR,trivial⟩)
  ·have d2:decide ((i:Int)<8)=false:=dF (by omega)
   have he:i=8:=by omega
   subst he
   rw[rG hlok.h,←hsd]
   refine sR<|rC<|nQ ?_;refine wG<|zX<|sR ?_;refine rQ iM ?_;refine rW<|zT ?_
   exact⟨trivial,_,rfl,[],lf⟩
 ·have d1:(!decide (((s.many % 64:Nat):Int)=56))=true:=by rw[dF (by omega)]; rfl
  have hw0:=dr s hs [0] (by simp; omega)
  rw[show encB [0] = .arr 1 aF [0] from by simp[byI]]at hw0
  obtain⟨f,rfl⟩:∃f',f=f'+1:=⟨f-1,by omega⟩
  rw[nD h56]at hgo
  have hd:=qp hs h56
  have hm2:=dw hs [0]
  have hok2:=cX hs [0]
  generalize wrD s [0]=s2 at *
  simp only[List.length_singleton]at hm2
  refine qR<|rC ?_;refine rQ iB ?_;refine rQ (eD (a:=s.many) (b:=64) aa rfl rfl rfl (by decide)) ?_;refine rC ?_;refine zI<|kS<|bn<|ao ?_;refine rQ iM ?_;refine rQ (ab.frozen (aH (s:=1) aa rfl rfl rfl rfl rfl rfl rfl rfl) (Frz.litsN (enc:=aF) [0] rfl (fun _ _=>rfl))) ?_;refine rQ (aq hw0 rfl rfl (am (am aj)) (.inl rfl) (fun _=>rfl)) ?_;refine rW<|aA<|iy ?_
  exact aT (s2,f) [(64,some _),(65,some _)] ⟨hok2,(by show s2.many≤_; omega),(by omega:f≤64),(by show padD s2<f; omega),hgo⟩ (by show padD s2<padD s; omega) (lg zj ⟨zR,zR,trivial⟩)
theorem ij {α β:Type} (f:β→α→β) {l:List α} {i:Nat} {x:α} (h:l[i]?=some x) (b:β):(l.take (i+1)).foldl f b=f ((l.take i).foldl f b) x:=by
 rw[List.take_add_one,h,Option.toList_some,List.foldl_append]; rfl
def manyP (l:List (List UInt8)) (i:Nat):Nat:=(l.take i).flatten.length
theorem eM (l:List (List UInt8)) (s:DSt) (hs:DOk s):DOk (l.foldl wrD s)∧(l.foldl wrD s).many=s.many+l.flatten.length:=by
 induction l generalizing s with
 | nil=>exact⟨hs,rfl⟩
 | cons x l ih =>
  obtain⟨h1,h2⟩:=ih (wrD s x) (cX hs x)
  refine⟨h1,?_⟩
  rw[List.foldl_cons,h2,dw hs,List.flatten_cons,List.length_append]; omega
theorem fi (l:List (List UInt8)) (i:Nat):(l.take i).flatten.length≤l.flatten.length:=by
 have:l.flatten=(l.take i).flatten++(l.drop i).flatten:=by rw[←List.flatten_append,List.take_append_drop]
 rw[this,List.length_append]; omega
theorem eN:dst0.many=0:=rfl
theorem gG (l:List (List UInt8)):digD l=sumD (l.foldl wrD dst0):=rfl
attribute [local irreducible] sumD dst0
theorem kK (l:List (List UInt8)) (hl:l.length≤1000000) (hN:l.flatten.length≤1000000000):FnIs Tryd.prog 9 [.d (.arr 1 encB l)] [] (.d (encV 32 (digD l))) []:=by
 obtain⟨hfok,hfm⟩:=eM l dst0 dR
 have hsum:=oo (l.foldl wrD dst0) hfok (by rw[hfm,eN]; omega)
 rw[←gG]at hsum
 refine aw aa Tryd.func9 rfl rfl rfl ?_;refine sR<|rN<|nR ?_;refine rQ (aq o5 rfl rfl aj (.inl rfl) (fun _=>rfl)) ?_;refine rN ?_;refine rW<|zW ?_;refine rC ?_;refine rQ iE ?_;refine rC<|zP ?_
 refine wc_inv (fun i:Nat=>⟨[(9,.int .i64 i),(8,.int .i64 l.length),(7,.d (.arr 1 encB l)),(3,.ptr 65 []),(2,.ptr 66 [])],[(65,some (.box 86 (.d (eh ((l.take i).foldl wrD dst0))))),(66,some (.box 31 (.d r31.zero)))],72,Tryd.f9.ntmps,64⟩) (fun i=>i≤l.length) (fun i=>l.length-i) 0 [(65,some _),(66,some _)] (Nat.zero_le _)
  (lg zh ⟨zR,zR,trivial⟩) ?_
 intro i hi
 refine bk ?_
 by_cases hlt:i<l.length
 ·have d1:decide ((i:Int)<(l.length:Int))=true:=dT (by omega)
  obtain⟨x,hx⟩:∃x,l[i]?=some x:=⟨_,List.getElem?_eq_getElem hlt⟩
  have hx':l[((i:Int)).toNat]?=some x:=by rw[Int.toNat_natCast]; exact hx
  obtain⟨gok,gm⟩:=eM (l.take i) dst0 dR
  have hle:=fi l (i+1)
  have hst:=ij wrD hx dst0
  have hln:(l.take (i+1)).flatten.length=(l.take i).flatten.length+x.length:=by rw[List.take_add_one,hx]; simp
  have hwr:=dr _ gok x (by rw[gm,eN]; omega)
  rw[←hst]at hwr
  refine sR<|rC<|nQ ?_;refine wT<|zQ<|zS ?_;refine rQ (bq aa rfl rfl rfl rfl rfl (by omega) hx') ?_;refine rQ iL ?_;refine rC<|nS<|ao ?_;refine rQ iM ?_;refine rC ?_;refine rQ (aq hwr rfl rfl (am (am aj)) (.inl rfl) (fun _=>rfl)) ?_;refine rW<|aA<|zC<|ao ?_;refine rQ iD ?_;refine rC<|aA ?_
  exact aT (i+1) [(65,some _),(66,some _)] hlt (by show l.length-(i+1)<l.length-i; omega) (lg zh ⟨zR,zR,trivial⟩)
 ·have d1:decide ((i:Int)<(l.length:Int))=false:=dF (by omega)
  have he:i=l.length:=by omega
  subst he
  rw[List.take_length]
  refine sR<|rC<|nQ ?_;refine wF<|zX<|sR ?_;refine rQ iM ?_;refine rQ (aq hsum rfl rfl (am aj) (.inl rfl) (fun _=>rfl)) ?_;refine rW<|zT ?_
  exact⟨trivial,_,rfl,[],lf⟩
end Go.Proofs.YtmapiehigkfddaaDoor
namespace Go.Proofs.YtmapiehigkfddaaDoor
open Go.Eng Go.Plain
set_option maxHeartbeats 32000000
set_option maxRecDepth 20000
attribute [local irreducible] WC RegS RegD SeqQ BlkQ ScoQ RegK CutK Sat SatN FnIs LoopQ ab OpIs
def upX (l:List UInt8) (i:Nat):List UInt8:=l.take i++List.replicate (l.length-i) 0
theorem od (l:List UInt8):List.replicate l.length (0:Int)=byI (upX l 0):=by simp[upX,byI]
theorem jF (l:List UInt8):upX l l.length=l:=by simp[upX]
theorem jE {l:List UInt8} {i:Nat} {b:UInt8} (h:l[i]?=some b):(upX l i)[i]?=some 0:=by
 have hi:=(List.getElem?_eq_some_iff.1 h).1
 have hl:(l.take i).length=i:=by rw[List.length_take]; omega
 rw[upX,List.getElem?_append_right (by omega),hl,Nat.sub_self,List.getElem?_replicate,if_pos (by omega)]
theorem jD {l:List UInt8} {i:Nat} {b:UInt8} (h:l[i]?=some b):(upX l i).set i b=upX l (i+1):=by
 have hi:=(List.getElem?_eq_some_iff.1 h).1
 have hl:(l.take i).length=i:=by rw[List.length_take]; omega
 rw[upX,List.set_append_right _ _ (by omega),hl,Nat.sub_self,upX,List.take_add_one,h,show l.length-i=(l.length-(i+1))+1 by omega,List.replicate_succ,List.set_cons_zero]
 simp
section
variable {env : Env} {h : Upds} {n r i : Nat} {x y : Operand}
theorem gy {ex:Bool} {l:List UInt8} {z b:UInt8} (hx:ae env x=some (.ptr r [.idx i 1])) (hy:ae env y=some (.int .u8 b.toNat)) (hr:aK h r=some (.ds 5 1 ex aF (byI l))) (hz:l[i]?=some z):ab Tryd.prog (.store 5 x y) env h n none [(r,some (.ds 5 1 ex aF (byI (l.set i b))))]:=by
 rw[←gH]
 exact aQ aa hx hy hr ⟨rfl,_,(b.toNat:Int),bA hz,⟨rfl,rfl,rfl⟩,rfl⟩ rfl
theorem sd {ex:Bool} {l:List UInt8} {z:UInt8} (hx:ae env x=some (.ptr r [.idx i 1])) (hr:aK h r=some (.ds 5 1 ex aF (byI l))) (hz:l[i]?=some z):ab Tryd.prog (.load 5 x) env h n (some (.int .u8 z.toNat)) []:=
 bC aa hx hr ⟨rfl,_,bA hz,_,rfl,rfl⟩ rfl
theorem fa {N:Nat} {ty:TypeId} {l:List UInt8} {z:UInt8} (hx:ae env x=some (.ptr r [.idx i 1])) (hr:aK h r=some (.box ty (.d (encV N l)))) (hz:l[i]?=some z):ab Tryd.prog (.load 5 x) env h n (some (.int .u8 z.toNat)) []:=
 bC aa hx hr ⟨_,⟨rfl,_,bA hz,rfl⟩,rfl⟩ rfl
theorem p6 {N:Nat} {ty:TypeId} {l:List UInt8} {z b:UInt8} (hx:ae env x=some (.ptr r [.idx i 1])) (hy:ae env y=some (.int .u8 b.toNat)) (hr:aK h r=some (.box ty (.d (encV N l)))) (hz:l[i]?=some z):ab Tryd.prog (.store 5 x y) env h n none [(r,some (.box ty (.d (encV N (l.set i b)))))]:=by
 rw[show encV N (l.set i b)=.vec N 1 aF ((byI l).set i b.toNat) by rw[gH]]
 exact aQ aa hx hy hr ⟨_,⟨_,⟨rfl,_,_,bA hz,⟨rfl,rfl,rfl⟩,rfl⟩,rfl⟩,rfl⟩ rfl
end
attribute [local irreducible] byI upX xorB
theorem me (n:Nat) (b:UInt8) (hn:n≤1048576):FnIs Tryd.prog 8 [.int .i64 n,.int .u8 b.toNat] [] (.own 64 0 n 1 none) [(64,.ds 5 1 true aF (byI (List.replicate n b)))]:=by
 obtain⟨l,hl⟩:∃l,List.replicate n b=l:=⟨_,rfl⟩
 have hn2:n=l.length:=by rw[←hl]; simp
 have hg:∀i,i<l.length→l[i]?=some b:=fun i hi=>by rw[←hl,List.getElem?_replicate,if_pos (by omega)]
 rw[hl]
 subst hn2
 clear hl
 have hlen:l.length≤1048576:=hn
 refine aw aa Tryd.func8 rfl rfl rfl ?_;refine sR<|rC<|nR ?_;refine rC ?_;refine aS (b8 (enc:=aF) (s:=1) (N:=l.length) aa 0 rfl rfl rfl rfl rfl rfl rfl hlen rfl) rfl ?_;refine rC<|zW ?_;refine rC<|zP ?_
 refine wc_inv (fun i:Nat=>⟨[(6,.int .i64 i),(5,.own 66 0 l.length 1 none),(1,.int .u8 b.toNat),(0,.int .i64 l.length)],[(66,some (.ds 5 1 true aF (byI (upX l i))))],72,Tryd.f8.ntmps,64⟩) (fun i=>i≤l.length) (fun i=>l.length-i) 0 [(66,some _)] (Nat.zero_le _)
  (lg zi ⟨⟨rfl,rfl,_,rfl,aL.of_eq (by rw[od]; rfl)⟩,trivial⟩) ?_
 intro i hi
 refine bk ?_
 by_cases hlt:i<l.length
 ·have d1:decide ((i:Int)<(l.length:Int))=true:=dT (by omega)
  have hz':(upX l i)[((i:Int)).toNat]?=some 0:=by rw[Int.toNat_natCast]; exact jE (hg i hlt)
  have hst:=jD (hg i hlt)
  refine qR<|zU ?_;refine zI<|zQ<|bn<|ao ?_;refine zU ?_;refine rQ (ca aa rfl rfl rfl rfl rfl (by omega) (by omega)) ?_;refine bB (gy rfl rfl rfl hz')<|aA<|zC<|ao ?_;refine rC ?_;refine rQ iD ?_;refine rC<|aA ?_
  exact aT (i+1) [(66,some _)] hlt (by show l.length-(i+1)<l.length-i; omega) (lg zi ⟨⟨rfl,rfl,_,rfl,aL.of_eq (by rw[Int.toNat_natCast,hst]; rfl)⟩,trivial⟩)
 ·have d1:decide ((i:Int)<(l.length:Int))=false:=dF (by omega)
  have he:i=l.length:=by omega
  subst he
  rw[jF]
  refine qR<|zU ?_;refine zG<|zX<|sR ?_;refine zD<|zT ?_
  exact⟨trivial,[(64,some _)],lg zV ⟨zR,trivial⟩⟩
theorem jp (n:Nat) (b:UInt8) (hn:n≤1048576):FnIs Tryd.prog 8 [.int .i64 n,.int .u8 b.toNat] [] (.d (encB (List.replicate n b))) []:=(me n b hn).freeze_out 64 _ rfl (Frz.own (by rw[aB]; simp)) trivial
theorem mC (a b:List UInt8) (hab:a.length=b.length) (hn:a.length≤1048576):FnIs Tryd.prog 7 [.d (encB a),.d (encB b)] [] (.tup (.acons (.own 64 0 (xorB a b).length 1 none) (.acons (.d (i6 0)) .anil))) [(64,.ds 5 1 true aF (byI (xorB a b)))]:=by
 have hxl:(xorB a b).length=a.length:=by unfold xorB; rw[List.length_zipWith]; omega
 have hlen:(byI a).length≤1048576:=by rw[aB]; exact hn
 have d1:decide (((byI b).length:Int)<((byI a).length:Int))=false:=dF (by rw[aB,aB]; omega)
 have d2:decide (((byI a).length:Int)<((byI b).length:Int))=false:=dF (by rw[aB,aB]; omega)
 refine aw aa Tryd.func7 rfl rfl rfl ?_;refine sR<|zD<|nQ<|zS ?_;refine rC ?_;refine rQ iE ?_;refine rC ?_;refine rQ iE ?_;refine zD ?_;refine zG<|sR ?_;refine rC ?_;refine rQ iE ?_;refine rC ?_;refine rQ iE ?_;refine zD ?_;refine zG<|bR<|zC<|sR ?_;refine rC ?_;refine rQ iE ?_;refine aS (b8 (enc:=aF) (s:=1) (N:=(byI a).length) aa 0 rfl rfl rfl rfl rfl rfl rfl hlen rfl) rfl ?_;refine rC<|zW ?_;refine rC ?_;refine rQ iE ?_;refine rC<|zP ?_
 refine wc_inv (fun i:Nat=>⟨[(25,.int .i64 i),(24,.int .i64 (byI a).length),(6,.own 66 0 (byI a).length 1 none),(1,.d (encB b)),(0,.d (encB a))],[(66,some (.ds 5 1 true aF (byI (upX (xorB a b) i))))],72,Tryd.f7.ntmps,64⟩) (fun i=>i≤a.length) (fun i=>a.length-i) 0 [(66,some _)] (Nat.zero_le _)
  (lg zh ⟨⟨rfl,rfl,_,rfl,aL.of_eq (by rw[aB,←hxl,od]; rfl)⟩,trivial⟩) ?_
 intro i hi
 refine bk ?_
 by_cases hlt:i<a.length
 ·have d3:decide ((i:Int)<((byI a).length:Int))=true:=dT (by rw[aB]; omega)
  obtain⟨x,hx⟩:∃x,a[i]?=some x:=⟨_,List.getElem?_eq_getElem hlt⟩
  obtain⟨y,hy⟩:∃y,b[i]?=some y:=⟨_,List.getElem?_eq_getElem (by omega)⟩
  have ha':(byI a)[((i:Int)).toNat]?=some (x.toNat:Int):=by rw[Int.toNat_natCast]; exact bA hx
  have hb':(byI b)[((i:Int)).toNat]?=some (y.toNat:Int):=by rw[Int.toNat_natCast]; exact bA hy
  have hbl:i<(byI a).length:=by rw[aB]; exact hlt
  obtain⟨z,hxo⟩:∃z,x ^^^ y=z:=⟨_,rfl⟩
  have hg:(xorB a b)[i]?=some z:=by unfold xorB; rw[List.getElem?_zipWith,hx,hy,←hxo]
  have hz':(upX (xorB a b) i)[((i:Int)).toNat]?=some 0:=by rw[Int.toNat_natCast]; exact jE hg
  have hst:=jD hg
  refine sR<|rC<|nQ ?_;refine wT<|zQ<|zS ?_;refine zD<|nS ?_;refine aR (by kernel_rfl) ?_;refine dC [6] [] ?_;refine dC [7] [] ?_;refine dC [0] [] ?_;refine dC [7] [] ?_;refine dQ [30,31] [] (bq aa rfl rfl rfl rfl rfl (by omega) ha') ?_;refine dQ [32] [] iL ?_;refine dC [1] [] ?_;refine dC [7] [] ?_;refine dQ [34,35] [] (bq aa rfl rfl rfl rfl rfl (by omega) hb') ?_;refine dQ [36] [] iL ?_;refine dQ [33,37] [] (ce rfl rfl hxo) ?_;refine dQ [28,29] [] (ca aa rfl rfl rfl rfl rfl (by omega) (by omega)) ?_;refine bG [39,38] [66] (gy rfl rfl rfl hz') ?_;refine aM (by kernel_rfl)<|zC<|ao ?_;refine rQ iD ?_;refine rC<|aA ?_
  exact aT (i+1) [(66,some _)] hlt (by show a.length-(i+1)<a.length-i; omega) (lg zh ⟨⟨rfl,rfl,_,rfl,aL.of_eq (by rw[Int.toNat_natCast,hst]; rfl)⟩,trivial⟩)
 ·have d3:decide ((i:Int)<((byI a).length:Int))=false:=dF (by rw[aB]; omega)
  have he:i=(xorB a b).length:=by omega
  subst he
  rw[jF]
  refine sR<|rC<|nQ ?_;refine wF<|zX<|sR ?_;refine zU<|zT ?_
  exact⟨trivial,[(64,some _)],lg ⟨⟨_,rfl,AVLe.of_eq (by rw[aB,hxl]; rfl)⟩,rfl,trivial⟩ ⟨zR,trivial⟩⟩
theorem hZ {key:List UInt8} (h:key.length≤1000000000):(kblk key).length=64:=by
 have hd:∀l:List (List UInt8),(digD l).length=32:=fun l=>by
  rw[gG,jG]
  have h1:=(eM l dst0 dR).1
  generalize l.foldl wrD dst0=s at *
  have h2:=cX (gB 64 _ (cX h1 [0x80])) (putN 8 (8*s.many))
  have h3:=gx (wrD (padG 64 (wrD s [128])) (putN 8 (8*s.many))).h 8 (by rw[h2.h]; exact Nat.le_refl _)
  rw[List.take_of_length_le (by rw[h2.h]; exact Nat.le_refl _)]at h3
  exact h3
 simp only[kblk,List.length_append,List.length_replicate]
 split
 ·rw[hd]
 ·omega
theorem ej (l:List (List UInt8)):(digD l).length=32:=by
 rw[gG,jG]
 have h1:=(eM l dst0 dR).1
 generalize l.foldl wrD dst0=s at *
 have h2:=cX (gB 64 _ (cX h1 [0x80])) (putN 8 (8*s.many))
 have h3:=gx (wrD (padG 64 (wrD s [128])) (putN 8 (8*s.many))).h 8 (by rw[h2.h]; exact Nat.le_refl _)
 rw[List.take_of_length_le (by rw[h2.h]; exact Nat.le_refl _)]at h3
 exact h3
theorem ph {key:List UInt8} (h:64<key.length):kblk key=digD [key]++List.replicate 32 0:=by
 simp only[kblk]; rw[if_pos h,ej]
theorem l9 {key:List UInt8} (h:¬64<key.length):kblk key=key++List.replicate (64-key.length) 0:=by
 simp only[kblk]; rw[if_neg h]
end Go.Proofs.YtmapiehigkfddaaDoor
namespace Go.Proofs.YtmapiehigkfddaaDoor
open Go.Eng Go.Plain
set_option maxHeartbeats 32000000
set_option maxRecDepth 20000
attribute [local irreducible] WC RegS RegD SeqQ BlkQ ScoQ RegK CutK Sat SatN FnIs LoopQ ab OpIs
theorem pA {env:Env} {h:Upds} {n r:Nat} {x y:Operand} {t t' ty:TypeId} {N k m len cap:Nat} {b R:List UInt8} {q:List Step} (ht:aI tab t=some (.slice 5)) (hx:ae env x=some (.asl r q len cap)) (hq:ay q=0+k) (hy:ae env y=some (.d (encB b))) (hr:aK h r=some (.box ty (.d (.vec N 1 aF (List.replicate N 0))))) (hm:min b.length len=m) (hkm:k+m≤N) (hR:(List.replicate N (0:UInt8)).take k++b.take m++(List.replicate N (0:UInt8)).drop (k+m)=R) :
  ab Tryd.prog (.call { callee :=.builtin .copy,args := #[x,y],argTypes := #[t,t'] }) env h n (some (.int .i64 m)) [(r,some (.box ty (.d (encV N R))))]:=
 pB ht hx hq hy (hr.trans (by rw[show encV N (List.replicate N 0)=.vec N 1 aF (byI (List.replicate N 0)) from rfl,←j3]; rfl)) hm hkm hR
theorem jl {key k:List UInt8} (hk:kblk key=k++List.replicate (64-k.length) 0) (hl:k.length≤64):(List.replicate 64 (0:UInt8)).take 0++k.take k.length++(List.replicate 64 (0:UInt8)).drop (0+k.length)=kblk key:=by
 rw[hk,List.take_zero,List.nil_append,List.take_length,Nat.zero_add,List.drop_replicate]
attribute [local irreducible] byI digD kblk
theorem lu (key:List UInt8) (hn:key.length≤1000000000):FnIs Tryd.prog 6 [.d (encB key)] [] (.d (encV 64 (kblk key))) []:=by
 by_cases hb:64<key.length
 ·have d1:decide ((64:Int)<((byI key).length:Int))=true:=dT (by rw[aB]; omega)
  have hof:=kK [key] (by simp) (by simpa using hn)
  have hl:=ej [key]
  have hR:=jl (key:=key) (k:=digD [key]) (by rw[ph hb,hl]) (by rw[hl]; decide)
  generalize digD [key]=k at *
  have hm:min k.length 64=k.length:=by omega
  have hkm:0+k.length≤64:=by omega
  refine aw aa Tryd.func6 rfl rfl rfl ?_;refine sR<|rN<|zW ?_;refine rC ?_;refine rQ iE ?_;refine rC ?_;refine zI<|sR ?_;refine rC ?_;refine rQ (ab.frozen (aH (s:=1) aa rfl rfl rfl rfl rfl rfl rfl rfl) (Frz.litsN (enc:=encB) [key] rfl (fun _ _=>rfl))) ?_;refine rQ (aq hof rfl rfl (am aj) (.inl rfl) (fun _=>rfl)) ?_;refine rN ?_;refine rW<|nS<|ao ?_;refine ct (env':=[(3,_),(2,_)]) (h':=[(64,some _)]) 120 _ rfl ⟨⟨_,rfl,Frz.ptr⟩,zE,trivial⟩ ⟨⟨rfl,_,rfl,.refl _⟩,trivial⟩ ?_;refine rQ (bc aa rfl rfl rfl rfl rfl) ?_;refine rC<|nR ?_;refine rQ (b6 aa rfl rfl rfl) ?_;refine rC ?_;refine aS (pA (k:=0) (m:=k.length) (b:=k) rfl rfl rfl rfl rfl hm hkm hR) rfl<|nR ?_;refine rQ iM ?_;refine rW<|zT ?_
  exact⟨trivial,_,rfl,[],lf⟩
 ·have d1:decide ((64:Int)<((byI key).length:Int))=false:=dF (by rw[aB]; omega)
  have hR:=jl (key:=key) (k:=key) (l9 hb) (by omega)
  generalize hkk:key=k at *
  have hm:min k.length 64=k.length:=by omega
  have hkm:0+k.length≤64:=by omega
  refine aw aa Tryd.func6 rfl rfl rfl ?_;refine sR<|rN<|zW ?_;refine rC ?_;refine rQ iE ?_;refine rC ?_;refine zG<|kS<|sR ?_;refine rQ (b6 aa rfl rfl rfl) ?_;refine rC ?_;refine aS (pA (k:=0) (m:=k.length) (b:=k) rfl rfl rfl rfl rfl hm hkm hR) rfl<|nR ?_;refine rQ iM ?_;refine rW<|zT ?_
  exact⟨trivial,_,rfl,[],lf⟩
theorem rD {q n:Nat} {ex:Bool} {xs:List Int}:bp (.tup (.acons (.own q 0 n 1 none) (.acons (.d (i6 0)) .anil))) [(64,.ds 5 1 ex aF xs)]:=bp.of ⟨trivial,trivial,trivial⟩ (fun r row h=>by
 simp only[aC]at h
 split at h
 ·cases h; exact fun _=>trivial
 ·simp[lk]at h)
theorem jO (key:List UInt8) (x:UInt8):padK key x=xorB (kblk key) (List.replicate 64 x):=rfl
theorem eb {key:List UInt8} (hn:key.length≤1000000000) (x:UInt8):(padK key x).length=64:=by
 rw[jO,xorB,List.length_zipWith,hZ hn]; simp
attribute [local irreducible] padK upX
theorem je (key:List UInt8) (hn:key.length≤1000000000) (x:UInt8):FnIs Tryd.prog 30 [.d (encB key),.int .u8 x.toNat] [] (.d (encB (padK key x))) []:=by
 have hbk:=lu key hn
 have hkl:=hZ hn
 have hxo:=mC (kblk key) (List.replicate 64 x) (by rw[hkl]; simp) (by omega)
 have hpl:=eb hn x
 rw[←jO]at hxo
 obtain⟨l,hl⟩:∃l,List.replicate 64 x=l:=⟨_,rfl⟩
 have hll:l.length=64:=by rw[←hl]; simp
 have hl64:64=(byI l).length:=by rw[aB,hll]
 have hg:∀i,i<64→l[i]?=some x:=fun i hi=>by rw[←hl,List.getElem?_replicate,if_pos hi]
 rw[hl]at hxo
 generalize kblk key=K at *
 have hK:((byI K).drop 0).take 64=byI K:=by rw[List.drop_zero,List.take_of_length_le (by rw[aB]; omega)]
 have hxl:(padK key x).length=(byI (padK key x)).length:=by rw[aB]
 have h0:List.replicate 64 (0:Int)=byI (upX l 0):=by rw[←hll]; exact od l
 have hle:upX l 64=l:=by rw[←hll]; exact jF l
 generalize padK key x=PK at *
 refine aw aa Tryd.func30 rfl rfl rfl ?_;refine sR<|rC<|nR ?_;refine rC ?_;refine rQ (aq hbk rfl rfl (am aj) (.inl rfl) (fun _=>rfl)) ?_;refine rN ?_;refine rW<|nR ?_;refine aS (b8 (enc:=aF) (s:=1) (N:=64) aa 0 rfl rfl rfl rfl rfl rfl rfl (by decide) rfl) rfl ?_;refine rC<|zW ?_;refine rC ?_;refine rQ (eK aa rfl rfl) ?_;refine rC<|zP ?_
 refine wc_inv (fun i:Nat=>⟨[(15,.int .i64 i),(14,.int .i64 64),(6,.own 67 0 64 1 none),(5,.ptr 66 []),(1,.int .u8 x.toNat)],[(66,some (.box 24 (.d (encV 64 K)))),(67,some (.ds 5 1 true aF (byI (upX l i))))],72,Tryd.f30.ntmps,64⟩) (fun i=>i≤64) (fun i=>64-i) 0 [(66,some _),(67,some _)] (Nat.zero_le _)
  (lg zh ⟨zR,⟨rfl,rfl,_,rfl,aL.of_eq (by rw[h0]; rfl)⟩,trivial⟩) ?_
 intro i hi
 refine bk ?_
 by_cases hlt:i<64
 ·have d1:decide ((i:Int)<64)=true:=dT (by omega)
  have hz':(upX l i)[((i:Int)).toNat]?=some 0:=by rw[Int.toNat_natCast]; exact jE (hg i hlt)
  have hst:=jD (hg i hlt)
  refine sR<|rC<|nQ ?_;refine wT<|zQ<|zS ?_;refine zD<|nS<|ao ?_;refine zU ?_;refine rQ (ca aa rfl rfl rfl rfl rfl (by omega) (by omega)) ?_;refine bB (gy rfl rfl rfl hz')<|aA<|zC<|ao ?_;refine rQ iD ?_;refine rC<|aA ?_
  exact aT (i+1) [(66,some _),(67,some _)] (show i+1≤64 by omega) (by show 64-(i+1)<64-i; omega) (lg zh ⟨zR,⟨rfl,rfl,_,rfl,aL.of_eq (by rw[Int.toNat_natCast,hst]; rfl)⟩,trivial⟩)
 ·have d1:decide ((i:Int)<64)=false:=dF (by omega)
  have he:i=64:=by omega
  subst he
  rw[hle]
  refine sR<|rC<|nQ ?_;refine wG<|zX<|sR ?_;refine rQ (b6 aa rfl rfl rfl) ?_;refine rC ?_;refine rQ (ab.frozen (c5 hxo rfl rfl (j7 (q:=[]) (k:=0) (s:=1) (m:=64) (enc:=aF) (xs:=byI K) (ys:=byI K) rfl rfl rfl (by decide) (Nat.le_refl _) (by decide) hK (pM rfl hl64 aj)) (.inr rD) rfl rfl) (Frz.tup (FrzT.cons (Frz.own hxl) (FrzT.cons (Frz.refl _) FrzT.nil)))) ?_
  iterate 5 refine rC ?_
  refine nR<|zD<|zT ?_
  exact⟨trivial,[],lf⟩
theorem gD (key:List UInt8) (parts:List (List UInt8)):macD key parts=digD [padK key 0x5c,sumD (parts.foldl wrD (wrD dst0 (padK key 0x36)))]:=rfl
attribute [local irreducible] sumD dst0 wrD
theorem e9 (key:List UInt8) (parts:List (List UInt8)) (hn:key.length≤1000000000) (hl:parts.length≤1000000) (hN:parts.flatten.length≤1000000000):FnIs Tryd.prog 10 [.d (encB key),.d (.arr 1 encB parts)] [] (.d (encV 32 (macD key parts))) []:=by
 have hpi:=je key hn 0x36
 have hpo:=je key hn 0x5c
 have hpl1:=eb hn 0x36
 have hpl2:=eb hn 0x5c
 rw[gD]
 have hsl:(sumD (parts.foldl wrD (wrD dst0 (padK key 0x36)))).length=32:=by
  have:=ej (padK key 0x36::parts)
  rw[gG]at this; exact this
 have hw0:=dr dst0 dR (padK key 0x36) (by rw[hpl1,eN]; decide)
 have hok0:=cX dR (padK key 0x36)
 have hm0:=dw dR (padK key 0x36)
 rw[hpl1,eN]at hm0
 generalize padK key 0x36=PI at *
 generalize padK key 0x5c=PO at *
 generalize hS0:wrD dst0 PI=S0 at *
 obtain⟨hfok,hfm⟩:=eM parts S0 hok0
 have hsum:=oo (parts.foldl wrD S0) hfok (by rw[hfm]; omega)
 generalize hSD:sumD (parts.foldl wrD S0)=SD at *
 have hof:=kK [PO,SD] (by simp) (by simp; omega)
 refine aw aa Tryd.func10 rfl rfl rfl ?_;refine sR<|rN<|nR ?_;refine rQ (aq o5 rfl rfl aj (.inl rfl) (fun _=>rfl)) ?_;refine rC ?_;refine rQ (aq hpi rfl rfl (am (am aj)) (.inl rfl) (fun _=>rfl)) ?_;refine rQ (aq hw0 rfl rfl (am (am aj)) (.inl rfl) (fun _=>rfl)) ?_;refine rN ?_;refine rW<|zW ?_;refine rC ?_;refine rQ iE ?_;refine rC<|zP ?_
 refine wc_inv (fun i:Nat=>⟨[(15,.int .i64 i),(14,.int .i64 parts.length),(13,.d (.arr 1 encB parts)),(5,.ptr 66 []),(4,.ptr 65 []),(0,.d (encB key))],[(66,some (.box 86 (.d (eh ((parts.take i).foldl wrD S0))))),(65,some (.box 31 (.d r31.zero)))],72,Tryd.f10.ntmps,64⟩) (fun i=>i≤parts.length) (fun i=>parts.length-i) 0 [(66,some _),(65,some _)] (Nat.zero_le _)
  (lg zg ⟨zR,zR,trivial⟩) ?_
 intro i hi
 refine bk ?_
 by_cases hlt:i<parts.length
 ·have d1:decide ((i:Int)<(parts.length:Int))=true:=dT (by omega)
  obtain⟨x,hx⟩:∃x,parts[i]?=some x:=⟨_,List.getElem?_eq_getElem hlt⟩
  have hx':parts[((i:Int)).toNat]?=some x:=by rw[Int.toNat_natCast]; exact hx
  obtain⟨gok,gm⟩:=eM (parts.take i) S0 hok0
  have hle:=fi parts (i+1)
  have hst:=ij wrD hx S0
  have hln:(parts.take (i+1)).flatten.length=(parts.take i).flatten.length+x.length:=by rw[List.take_add_one,hx]; simp
  have hwr:=dr _ gok x (by rw[gm]; omega)
  rw[←hst]at hwr
  refine sR<|rC<|nQ ?_;refine wT<|zQ<|zS ?_;refine rQ (bq aa rfl rfl rfl rfl rfl (by omega) hx') ?_;refine rQ iL ?_;refine rC<|nS<|ao ?_;refine rQ iM ?_;refine rC ?_;refine rQ (aq hwr rfl rfl (am (am aj)) (.inl rfl) (fun _=>rfl)) ?_;refine rW<|aA<|zC<|ao ?_;refine rQ iD ?_;refine rC<|aA ?_
  exact aT (i+1) [(66,some _),(65,some _)] hlt (by show parts.length-(i+1)<parts.length-i; omega) (lg zg ⟨zR,zR,trivial⟩)
 ·have d1:decide ((i:Int)<(parts.length:Int))=false:=dF (by omega)
  have he:i=parts.length:=by omega
  subst he
  rw[List.take_length]
  refine sR<|rC<|nQ ?_;refine wF<|zX<|sR ?_;refine rQ iM ?_;refine rQ (aq hsum rfl rfl (am aj) (.inl rfl) (fun _=>rfl)) ?_;refine rN ?_;refine rW<|nS ?_;refine bE (env':=[(8,_),(4,_),(0,_)]) (h':=[(65,some _)]) 96 _ rfl ⟨⟨_,rfl,Frz.ptr⟩,zE,zE,trivial⟩ ⟨⟨rfl,_,rfl,.refl _⟩,trivial⟩<|br ?_;refine aR (by kernel_rfl) ?_;refine dC [0] [] ?_;refine dQ [25] [] (aq hpo rfl rfl (am (am aj)) (.inl rfl) (fun _=>rfl)) ?_;refine dQ [8] [] (bc aa rfl rfl rfl rfl rfl) ?_;refine dQ [26,27] [] (ab.frozen (aH (s:=1) aa rfl rfl rfl rfl rfl rfl rfl rfl) (Frz.litsN (enc:=encB) [PO,SD] rfl (fun _ _=>rfl))) ?_;refine dQ [28] [] (aq hof rfl rfl (am aj) (.inl rfl) (fun _=>rfl)) ?_;refine bG [4,29] [65] (aQ aa rfl rfl rfl ⟨_,⟨rfl,rfl,rfl⟩,rfl⟩ rfl) ?_;refine aM (by kernel_rfl)<|bm<|cY ?_
  exact⟨trivial,_,rfl,[],lf⟩
end Go.Proofs.YtmapiehigkfddaaDoor
namespace Go.Proofs.YtmapiehigkfddaaDoor
open Go.Eng Go.Plain
set_option maxHeartbeats 32000000
set_option maxRecDepth 20000
attribute [local irreducible] WC RegS RegD SeqQ BlkQ ScoQ RegK CutK Sat SatN FnIs LoopQ ab OpIs
theorem cH (key:List UInt8) (parts:List (List UInt8)):(macD key parts).length=32:=by rw[gD]; exact ej _
attribute [local irreducible] byI macD
theorem ik (key m:List UInt8) (hn:key.length≤1000000000) (hm:m.length≤1000000000):FnIs Tryd.prog 11 [.d (encB key),.d (encB m)] [] (.d (encV 32 (macD key [m]))) []:=by
 have hmac:=e9 key [m] hn (by simp) (by simpa using hm)
 refine aw aa Tryd.func11 rfl rfl rfl ?_;refine sR<|rN<|nR ?_;refine zD ?_;refine rQ (ab.frozen (aH (s:=1) aa rfl rfl rfl rfl rfl rfl rfl rfl) (Frz.litsN (enc:=encB) [m] rfl (fun _ _=>rfl))) ?_;refine rQ (aq hmac rfl rfl (am (am aj)) (.inl rfl) (fun _=>rfl)) ?_;refine rW<|zT ?_
 exact⟨trivial,_,rfl,[],lf⟩
theorem nr (a:UInt8):a ^^^ a=0:=by simp
theorem nt (key m:List UInt8) (hn:key.length≤1000000000) (hm:m.length≤1000000000):FnIs Tryd.prog 52 [.d (encB key),.d (encB m),.d (encV 32 (macD key [m]))] [] (.bool true) []:=by
 have hmac:=e9 key [m] hn (by simp) (by simpa using hm)
 have hl:=cH key [m]
 generalize macD key [m]=T at *
 refine aw aa Tryd.func52 rfl rfl rfl ?_;refine sR<|rN ?_;refine rC<|nR ?_;refine zD ?_;refine rQ (ab.frozen (aH (s:=1) aa rfl rfl rfl rfl rfl rfl rfl rfl) (Frz.litsN (enc:=encB) [m] rfl (fun _ _=>rfl))) ?_;refine rQ (aq hmac rfl rfl (am (am aj)) (.inl rfl) (fun _=>rfl)) ?_;refine rN ?_;refine rW<|nR ?_;refine rC<|zW ?_;refine rC<|zP ?_
 refine wc_inv (fun i:Nat=>⟨[(14,.int .i64 i),(8,.int .u8 0),(7,.ptr 66 []),(5,.ptr 65 [])],[(65,some (.box 31 (.d (encV 32 T)))),(66,some (.box 31 (.d (encV 32 T))))],72,Tryd.f52.ntmps,64⟩) (fun i=>i≤32) (fun i=>32-i) 0 [(65,some 64),(66,some _)] (Nat.zero_le _)
  (lg zi ⟨zR,zR,trivial⟩) ?_
 intro i hi
 refine bk ?_
 by_cases hlt:i<32
 ·have d1:decide ((i:Int)<32)=true:=dT (by omega)
  obtain⟨z,hz⟩:∃z,T[i]?=some z:=⟨_,List.getElem?_eq_getElem (by omega)⟩
  have hz':T[((i:Int)).toNat]?=some z:=by rw[Int.toNat_natCast]; exact hz
  refine sR<|rC<|nQ ?_;refine wT<|zQ<|zS ?_;refine zD<|nS ?_;refine aR (by kernel_rfl) ?_;refine dC [8] [] ?_;refine dC [9] [] ?_;refine dQ [7,18] [] (aE aa (fun K hk=>⟨by omega,by omega,hk⟩)) ?_;refine dQ [19] [66] (fa rfl rfl hz') ?_;refine dC [9] [] ?_;refine dQ [5,21] [] (aE aa (fun K hk=>⟨by omega,by omega,hk⟩)) ?_;refine dQ [22] [65] (fa rfl rfl hz') ?_;refine dQ [20,23] [] (ce rfl rfl (nr z)) ?_;refine dQ [17,24] [] (jP (a:=0) (b:=(0:UInt8).toNat) (m:=0) rfl rfl rfl (by decide) (by decide) rfl) ?_;refine dC [25] [] ?_;refine aM (by kernel_rfl)<|zC<|ao ?_;refine rQ iD ?_;refine rC<|aA ?_
  exact aT (i+1) [(65,some _),(66,some _)] (show i+1≤32 by omega) (by show 32-(i+1)<32-i; omega) (lg zi ⟨zR,zR,trivial⟩)
 ·have d1:decide ((i:Int)<32)=false:=dF (by omega)
  have he:i=32:=by omega
  subst he
  refine sR<|rC<|nQ ?_;refine wG<|zX<|sR ?_;refine zU<|zT ?_
  exact⟨trivial,[],lf⟩
end Go.Proofs.YtmapiehigkfddaaDoor
namespace Go.Plain
def dbl (a:UInt8):UInt8:=UInt8.ofNat (a.toNat*2 ^ 1) ^^^ UInt8.ofNat (a.toNat/2 ^ 7*27)
def mulF (a b:UInt8):Nat→UInt8×UInt8
 | 0=>(0,a)
 | i+1=>(if b.toNat/2 ^ i % 2=1 then (mulF a b i).1 ^^^ (mulF a b i).2 else (mulF a b i).1,dbl (mulF a b i).2)
def mul8 (a b:UInt8):UInt8:=(mulF a b 8).1
def powF:Nat→Nat→UInt8→UInt8→UInt8
 | 0,_,out,_=>out
 | f+1,k,out,a=>if k=0 then out else powF f (k/2) (if k % 2=1 then mul8 out a else out) (mul8 a a)
def powB (a:UInt8) (n:Nat):UInt8:=if a=0 then (if n=0 then 1 else 0) else powF 9 n 1 a
def rot8 (x:UInt8) (s:Nat):UInt8:=UInt8.ofNat (x.toNat*2 ^ s) ||| UInt8.ofNat (x.toNat/2 ^ (8-s))
def subO (b:UInt8):Nat→UInt8
 | 0=>b
 | i+1=>subO b i ^^^ rot8 b (i+1)
def sub8 (a:UInt8):UInt8:=subO (powB a 254) 4 ^^^ 99
theorem oQ (f:Nat) (out a:UInt8):powF f 0 out a=out:=by cases f with
 | zero=>rfl
 | succ f=>rw[powF,if_pos rfl]
theorem nC {f k:Nat} (h:k≠0) (out a:UInt8):powF (f+1) k out a=powF f (k/2) (if k % 2=1 then mul8 out a else out) (mul8 a a):=by rw[powF,if_neg h]
end Go.Plain
namespace Go.Proofs.YtmapiehigkfddaaDoor
open Go.Eng Go.Plain
set_option maxHeartbeats 32000000
set_option maxRecDepth 20000
attribute [local irreducible] WC RegS RegD SeqQ BlkQ ScoQ RegK CutK Sat SatN FnIs LoopQ ab OpIs
theorem p9 (x:UInt8) (s:Nat):x.toNat/2 ^ s=(UInt8.ofNat (x.toNat/2 ^ s)).toNat:=by
 have h1:x.toNat/2 ^ s≤x.toNat:=Nat.div_le_self _ _
 have h2:=x.toNat_lt
 rw[UInt8.toNat_ofNat',Nat.mod_eq_of_lt (by omega)]
theorem tQ (k:Nat):IntKind.u8.wrap ((k:Int)*27)=((UInt8.ofNat (k*27)).toNat:Int):=by
 rw[←fh]; push_cast; rfl
theorem np {env:Env} {h:Upds} {n:Nat} {t t':Nat} {x y:Operand} {k:Nat} (hx:ae env x=some (.int .i64 k)) (hy:ae env y=some (.int .i64 1)) (hk:k<2 ^ 63):ab Tryd.prog (.binOp .and t x y t') env h n (some (.int .i64 ((k % 2:Nat):Int))) []:=.of_comes fun C G st σ w ac o ho hA hdst hst hn=>by
 obtain⟨hv,_⟩:=RelV.sc.1 (ai hst (hA.ev hx)).1
 obtain⟨hy1,_⟩:=RelV.sc.1 (ai hst (hA.ev hy)).1
 refine .quiet (u :=.int .i64 ((k % 2:Nat):Int)) hst hdst ⟨rfl,rfl⟩ ?_ (RelV.sc.2 ⟨rfl,rfl⟩) trivial
 have h2:(Go.binOp .and t (.int .i64 k) (.int .i64 1)).run Tryd.prog w=.ok (.int .i64 ((k % 2:Nat):Int)) w:=by
  have e:(Go.binOp .and t (.int .i64 k) (.int .i64 1))=Op.intBits .and .i64 k 1:=by simp[Go.binOp]
  rw[e]
  simp only[Op.intBits]
  have h3:(BitVec.ofInt IntKind.i64.bits (k:Int) &&& BitVec.ofInt IntKind.i64.bits (1:Int)).toNat=k % 2:=by
   rw[show (1:Int)=((1:Nat):Int) from rfl,BitVec.ofInt_natCast,BitVec.ofInt_natCast,BitVec.toNat_and,BitVec.toNat_ofNat,BitVec.toNat_ofNat,Nat.mod_eq_of_lt (show k<2 ^ IntKind.i64.bits from by show k<2 ^ 64; omega),Nat.mod_eq_of_lt (show 1<2 ^ IntKind.i64.bits by decide),Nat.and_one_is_mod]
  rw[h3,aJ (by omega) (by omega)]
  rfl
 simp only[execOp,ho,hv,hy1,Sem.run_bind,k9,Result.andThen_ok,h2,Sem.run_pure]
abbrev rowA (a:UInt8):Row :=.box 5 (.int .u8 a.toNat)
theorem jt (a:UInt8):FnIs Tryd.prog 39 [.ptr 0 []] [(0,rowA a)] (.tup .anil) [(0,rowA (dbl a))]:=by
 have hd:UInt8.ofNat (a.toNat*2 ^ 1) ^^^ UInt8.ofNat (a.toNat/2 ^ 7*27)=dbl a:=rfl
 refine aw aa Tryd.func39 rfl rfl rfl ?_;refine sR<|rQ iM ?_;refine rQ (cB (a:=a.toNat) (s:=7) (m:=a.toNat/2 ^ 7) rfl rfl (by decide) rfl) ?_;refine rC<|nS<|ao ?_;refine rQ iM ?_;refine rQ (gz (a:=a.toNat) (s:=1) rfl rfl (by decide) (fh _)) ?_;refine rC ?_;refine rQ (bW aa rfl rfl (tQ _)) ?_;refine rQ (ce rfl rfl hd) ?_;refine rW<|aA ?_
 exact⟨trivial,[],lg zV ⟨zR,trivial⟩⟩
theorem jQ (a b:UInt8):FnIs Tryd.prog 15 [.int .u8 a.toNat,.int .u8 b.toNat] [] (.int .u8 (mul8 a b).toNat) []:=by
 refine aw aa Tryd.func15 rfl rfl rfl ?_;refine sR<|rN ?_;refine rC<|nR ?_;refine rC<|nR ?_;refine zD<|zW ?_;refine rC<|zP ?_
 refine wc_inv (fun i:Nat=>⟨[(9,.int .i64 i),(6,.fn (.func 39) .anil (.acons (.ptr 64 []) .anil)),(5,.int .u8 (mulF a b i).1.toNat),(2,.ptr 64 []),(1,.int .u8 b.toNat)],[(64,some (rowA (mulF a b i).2))],72,Tryd.f15.ntmps,64⟩) (fun i=>i≤8) (fun i=>8-i) 0 [(64,some _)] (Nat.zero_le _)
  (lg zh ⟨zR,trivial⟩) ?_
 intro i hi
 refine bk ?_
 by_cases hlt:i<8
 ·have d1:decide ((i:Int)<8)=true:=dT (by omega)
  have hi8:i≤IntKind.u8.bits:=by show i≤8; omega
  have hbl:b.toNat/2 ^ i<2 ^ IntKind.u8.bits:=Nat.lt_of_le_of_lt (Nat.div_le_self _ _) b.toNat_lt
  have h1:mulF a b (i+1)=(if b.toNat/2 ^ i % 2=1 then (mulF a b i).1 ^^^ (mulF a b i).2 else (mulF a b i).1,dbl (mulF a b i).2):=rfl
  generalize hq:mulF a b (i+1)=q at *
  generalize mulF a b i=p at *
  obtain⟨o,x⟩:=p
  simp only at h1 ⊢
  by_cases hb:b.toNat/2 ^ i % 2=1
  ·have d2:decide (((b.toNat/2 ^ i % 2:Nat):Int)=1)=true:=dT (by omega)
   rw[if_pos hb]at h1
   obtain⟨z,hxo⟩:∃z,o ^^^ x=z:=⟨_,rfl⟩
   rw[hxo]at h1
   refine sR<|rC<|nQ ?_;refine wT<|zQ<|zS ?_;refine zD<|zW ?_;refine zD ?_;refine rQ (cB (a:=b.toNat) (s:=i) (m:=b.toNat/2 ^ i) rfl rfl hi8 rfl) ?_;refine rQ (fF (a:=b.toNat/2 ^ i) (b:=1) (m:=b.toNat/2 ^ i % 2) rfl rfl rfl hbl (by decide) (Nat.and_one_is_mod _)) ?_;refine rC ?_;refine zI<|ao ?_;refine rC ?_;refine rQ iM ?_;refine rQ (ce rfl rfl hxo) ?_;refine rC<|nS<|ao ?_;refine rC ?_;refine bx (dk [(0,some 64)] (jt x) rfl rfl rfl (aO rfl rfl aj) ⟨zH,trivial⟩ rfl rfl (.inl rfl) rfl rfl) rfl<|aA<|zC<|ao ?_;refine rQ iD ?_;refine rC<|aA ?_
   exact aT (i+1) [(64,some _)] (show i+1≤8 by omega) (by show 8-(i+1)<8-i; omega) (lg ⟨zE,rfl,zE,rfl,⟨_,rfl,AVLe.of_eq (by rw[hq,h1]; rfl)⟩,rfl,zE,rfl,zE,rfl,trivial⟩ ⟨⟨rfl,rfl,_,rfl,aL.of_eq (by rw[hq,h1]; rfl)⟩,trivial⟩)
  ·have d2:decide (((b.toNat/2 ^ i % 2:Nat):Int)=1)=false:=dF (by omega)
   rw[if_neg hb]at h1
   refine sR<|rC<|nQ ?_;refine wT<|zQ<|zS ?_;refine zD<|zW ?_;refine zD ?_;refine rQ (cB (a:=b.toNat) (s:=i) (m:=b.toNat/2 ^ i) rfl rfl hi8 rfl) ?_;refine rQ (fF (a:=b.toNat/2 ^ i) (b:=1) (m:=b.toNat/2 ^ i % 2) rfl rfl rfl hbl (by decide) (Nat.and_one_is_mod _)) ?_;refine rC ?_;refine zG<|kS<|ao ?_;refine rC ?_;refine bx (dk [(0,some 64)] (jt x) rfl rfl rfl (aO rfl rfl aj) ⟨zH,trivial⟩ rfl rfl (.inl rfl) rfl rfl) rfl<|aA<|zC<|ao ?_;refine rQ iD ?_;refine rC<|aA ?_
   exact aT (i+1) [(64,some _)] (show i+1≤8 by omega) (by show 8-(i+1)<8-i; omega) (lg ⟨zE,rfl,zE,rfl,⟨_,rfl,AVLe.of_eq (by rw[hq,h1]; rfl)⟩,rfl,zE,rfl,zE,rfl,trivial⟩ ⟨⟨rfl,rfl,_,rfl,aL.of_eq (by rw[hq,h1]; rfl)⟩,trivial⟩)
 ·have d1:decide ((i:Int)<8)=false:=dF (by omega)
  have he:i=8:=by omega
  subst he
  refine sR<|rC<|nQ ?_;refine wG<|zX<|sR ?_;refine zD<|zT ?_
  exact⟨trivial,[],lf⟩
attribute [local irreducible] mul8
theorem kH (a0:UInt8) (n:Nat) (hn:n<255):FnIs Tryd.prog 62 [.int .u8 a0.toNat,.int .i64 n] [] (.int .u8 (powB a0 n).toNat) []:=by
 by_cases ha:a0=0
 ·subst ha
  have d0:decide ((((0:UInt8).toNat:Nat):Int)=0)=true:=rfl
  by_cases h0:n=0
  ·subst h0
   refine aw aa Tryd.func62 rfl rfl rfl ?_;refine sR<|rC<|nS<|fg<|qR ?_;refine zD ?_;refine zO<|qR ?_;refine zD ?_;refine zO<|sR ?_;refine rC<|zT ?_;iterate 2 refine fk ?_
   refine mO ?_
   exact⟨trivial,[],lf⟩
  ·have d1:decide ((n:Int)=0)=false:=dF (by omega)
   rw[show powB 0 n=0 by rw[powB,if_pos rfl,if_neg h0]]
   refine aw aa Tryd.func62 rfl rfl rfl ?_;refine sR<|rC<|nS<|fg<|qR ?_;refine zD ?_;refine zO<|qR ?_;refine zD ?_;refine zG<|kS<|sR ?_;refine rC<|zT<|fk<|mO ?_
   exact⟨trivial,[],lf⟩
 ·have d0:decide ((a0.toNat:Int)=0)=false:=dF (fun h=>ha (UInt8.toNat_inj.1 (by simpa using h)))
  have hnm:n % 255=n:=Nat.mod_eq_of_lt hn
  have d1:decide (((n % 255:Nat):Int)<0)=false:=dF (by omega)
  have hp:powB a0 n=powF 9 n 1 a0:=by rw[powB,if_neg ha]
  rw[hp]
  refine aw aa Tryd.func62 rfl rfl rfl ?_;refine sR<|rC<|nS<|fg<|qR ?_;refine zD ?_;refine zG<|kS<|sR ?_;refine rC ?_;refine rQ (eD (a:=n) (b:=255) aa rfl rfl rfl (by decide)) ?_;refine rC<|nQ<|sR ?_;refine zD ?_;refine zJ<|kS<|sR ?_;refine rC<|nQ<|km<|bm<|br<|bn ?_
  refine wc_inv (fun q:(Nat×Nat)×UInt8×UInt8=>⟨[(6,.int .u8 q.2.1.toNat),(5,.int .i64 q.1.2),(0,.int .u8 q.2.2.toNat)],[],72,Tryd.f62.ntmps,64⟩) (fun q=>q.1.2<2 ^ q.1.1∧q.1.2<255∧powF q.1.1 q.1.2 q.2.1 q.2.2=powF 9 n 1 a0) (fun q=>q.1.2) ((9,n),1,a0) [] ⟨(by show n<2 ^ 9; omega),hn,rfl⟩
   (lg ⟨zE,rfl,⟨_,rfl,AVLe.of_eq (by rw[hnm]; rfl)⟩,rfl,zE,rfl,trivial⟩ trivial) ?_
  rintro⟨⟨f,k⟩,out,a⟩ ⟨hf,hk255,hgo⟩
  simp only at hf hk255 hgo
  have hk63:k<2 ^ 63:=by omega
  refine bk ?_
  by_cases hk:k=0
  ·subst hk
   rw[oQ]at hgo
   rw[←hgo]
   refine bn<|br<|zS<|zU ?_;refine zO<|bS ?_;refine jB rfl<|da ?_;refine jB rfl<|cw<|dD<|bm<|sR ?_;refine zD<|zT<|mO ?_
   exact⟨trivial,[],lf⟩
  ·have d2:decide ((k:Int)=0)=false:=dF (by omega)
   obtain⟨f,rfl⟩:∃f',f=f'+1:=⟨f-1,by
    rcases f with _ | f
    ·simp at hf; omega
    ·omega⟩
   rw[nC hk]at hgo
   have hf2:k/2<2 ^ f:=by rw[Nat.pow_succ]at hf; omega
   by_cases hodd:k % 2=1
   ·have d3:decide (((k % 2:Nat):Int)=1)=true:=dT (by omega)
    rw[if_pos hodd]at hgo
    refine bn<|br<|zS<|zU ?_;refine zG<|sR ?_;refine rC ?_;refine rQ (np rfl rfl hk63) ?_;refine zD ?_;refine zI<|ao ?_;refine zD ?_;refine rQ (aq (jQ out a) rfl rfl (am (am aj)) (.inl rfl) (fun _=>rfl)) ?_;refine rC<|aA<|zC<|sR ?_;refine zD ?_;refine rQ (aq (jQ a a) rfl rfl (am (am aj)) (.inl rfl) (fun _=>rfl)) ?_;refine rC<|nS<|ao ?_;refine rC ?_;refine rQ (cB (a:=k) (s:=1) (m:=k/2) rfl rfl (by decide) rfl) ?_;refine rC<|aA<|iy ?_
    exact aT ((f,k/2),mul8 out a,mul8 a a) [] ⟨hf2,(by show k/2<255; omega),hgo⟩ (by show k/2<k; omega) (lg zj trivial)
   ·have d3:decide (((k % 2:Nat):Int)=1)=false:=dF (by omega)
    rw[if_neg hodd]at hgo
    refine bn<|br<|zS<|zU ?_;refine zG<|sR ?_;refine rC ?_;refine rQ (np rfl rfl hk63) ?_;refine zD ?_;refine zG<|bR<|zC<|sR ?_;refine zD ?_;refine rQ (aq (jQ a a) rfl rfl (am (am aj)) (.inl rfl) (fun _=>rfl)) ?_;refine rC<|nS<|ao ?_;refine rC ?_;refine rQ (cB (a:=k) (s:=1) (m:=k/2) rfl rfl (by decide) rfl) ?_;refine rC<|aA<|iy ?_
    exact aT ((f,k/2),out,mul8 a a) [] ⟨hf2,(by show k/2<255; omega),hgo⟩ (by show k/2<k; omega) (lg zj trivial)
attribute [local irreducible] powB
theorem mb (a:UInt8):FnIs Tryd.prog 37 [.int .u8 a.toNat] [] (.int .u8 (powB a 254).toNat) []:=by
 refine aw aa Tryd.func37 rfl rfl rfl ?_;refine sR<|rC<|nR ?_;refine rC ?_;refine rQ (aq (kH a 254 (by decide)) rfl rfl (am (am aj)) (.inl rfl) (fun _=>rfl)) ?_;refine rC<|zT ?_
 exact⟨trivial,[],lf⟩
theorem qg (x:UInt8) (s:Nat) (h8:s<8):FnIs Tryd.prog 38 [.int .u8 x.toNat,.int .i64 s] [] (.int .u8 (rot8 x s).toNat) []:=by
 have hK:IntKind.u64.wrap (s:Int)=(s:Int):=cf (by omega) (by omega)
 have hs64:s<2 ^ IntKind.u64.bits:=by show s<18446744073709551616; omega
 have hs7:s &&& 7=s:=by
  have:∀s,s<8→s &&& 7=s:=by decide
  exact this s h8
 have hs8:s≤IntKind.u8.bits:=by show s≤8; omega
 have hs88:8-s≤IntKind.u8.bits:=by show 8-s≤8; omega
 have hw:IntKind.u64.wrap (8-(s:Int))=((8-s:Nat):Int):=by rw[cf (by omega) (by omega)]; omega
 refine aw aa Tryd.func38 rfl rfl rfl ?_;refine sR<|rC<|nR ?_;refine rC ?_;refine rQ (bu (m:=(s:Int)) aa rfl rfl rfl hK) ?_;refine rQ (fF (a:=s) (b:=7) (m:=s) rfl rfl rfl hs64 (by decide) hs7) ?_;refine rC<|nR ?_;refine zD ?_;refine rQ (gz (a:=x.toNat) (s:=s) rfl rfl hs8 (fh _)) ?_;refine zD ?_;refine rQ (bI (m:=((8-s:Nat):Int)) aa rfl rfl hw) ?_;refine rQ (cB (a:=x.toNat) (s:=8-s) rfl rfl hs88 (p9 x _)) ?_;refine rQ (tP rfl rfl) ?_;refine rC<|zT ?_
 exact⟨trivial,[],lf⟩
attribute [local irreducible] rot8
theorem fI (a:UInt8):FnIs Tryd.prog 14 [.int .u8 a.toNat] [] (.int .u8 (sub8 a).toNat) []:=by
 have hsb:sub8 a=subO (powB a 254) 4 ^^^ 99:=rfl
 rw[hsb]
 refine aw aa Tryd.func14 rfl rfl rfl ?_;refine sR<|rC<|nR ?_;refine rC ?_;refine rQ (aq (mb a) rfl rfl (am aj) (.inl rfl) (fun _=>rfl)) ?_;refine rC<|nR ?_;refine zD<|zW ?_;refine rC<|zP ?_
 generalize powB a 254=b at *
 refine wc_inv (fun i:Nat=>⟨[(5,.int .i64 ((i+1:Nat):Int)),(4,.int .u8 (subO b i).toNat),(3,.int .u8 b.toNat)],[],72,Tryd.f14.ntmps,64⟩) (fun i=>i≤4) (fun i=>4-i) 0 [] (Nat.zero_le _)
  (lg zj trivial) ?_
 intro i hi
 refine bk ?_
 by_cases hlt:i<4
 ·have d1:decide (((i+1:Nat):Int)<5)=true:=dT (by omega)
  have w12:IntKind.i64.wrap (((i+1:Nat):Int)+1)=((i+1+1:Nat):Int):=by rw[aJ (by omega) (by omega)]; push_cast; rfl
  have hxo:subO b i ^^^ rot8 b (i+1)=subO b (i+1):=rfl
  refine qR<|zD ?_;refine zI<|zQ<|bn<|ao ?_;refine zU ?_;refine rQ (aq (qg b (i+1) (by omega)) rfl rfl (am (am aj)) (.inl rfl) (fun _=>rfl)) ?_;refine rQ (ce rfl rfl hxo) ?_;refine rC<|aA<|zC<|ao ?_;refine rC ?_;refine rQ (aY (m:=((i+1+1:Nat):Int)) aa rfl rfl w12) ?_;refine rC<|aA ?_
  exact aT (i+1) [] (show i+1≤4 by omega) (by show 4-(i+1)<4-i; omega) (lg zj trivial)
 ·have d1:decide (((i+1:Nat):Int)<5)=false:=dF (by omega)
  have he:i=4:=by omega
  subst he
  refine qR<|zD ?_;refine zJ<|zX<|sR ?_;refine rC ?_;refine rQ (ce (b:=99) rfl rfl rfl) ?_;refine rC<|zT ?_
  exact⟨trivial,[],lf⟩
end Go.Proofs.YtmapiehigkfddaaDoor
namespace Go.Plain
def upO (new old:List UInt8) (j:Nat):List UInt8:=new.take j++old.drop j
theorem iQ (new old:List UInt8):upO new old 0=old:=by simp[upO]
theorem eB {new old:List UInt8} {n:Nat} (h1:new.length=n) (h2:old.length=n):upO new old n=new:=by
 rw[upO,List.take_of_length_le (by omega),List.drop_eq_nil_of_le (by omega),List.append_nil]
theorem eA {new old:List UInt8} {j:Nat} {b:UInt8} (h:old[j]?=some b) (hl:new.length=old.length):(upO new old j)[j]?=some b:=by
 have hj:=(List.getElem?_eq_some_iff.1 h).1
 have h1:(new.take j).length=j:=by rw[List.length_take]; omega
 rw[upO,List.getElem?_append_right (by omega),h1,Nat.sub_self,List.getElem?_drop,Nat.add_zero]; exact h
theorem ez {new old:List UInt8} {j:Nat} {b:UInt8} (h:new[j]?=some b) (hl:new.length=old.length):(upO new old j).set j b=upO new old (j+1):=by
 have hj:=(List.getElem?_eq_some_iff.1 h).1
 have h1:(new.take j).length=j:=by rw[List.length_take]; omega
 rw[upO,upO,List.set_append_right _ _ (by omega),h1,Nat.sub_self,List.drop_eq_getElem_cons (show j<old.length by omega),List.set_cons_zero,List.take_add_one,h]
 simp
theorem gK {a b:List UInt8} (h:a.length=b.length):(xorB a b).length=a.length:=by rw[xorB,List.length_zipWith]; omega
theorem oa {a b:List UInt8} {j:Nat} {x y:UInt8} (hx:a[j]?=some x) (hy:b[j]?=some y):(xorB a b)[j]?=some (x ^^^ y):=by rw[xorB,List.getElem?_zipWith,hx,hy]
def rotB (p:Nat) (s:List UInt8) (j:Nat):UInt8:=s[4*((j/4+p*(j % 4)) % 4)+j % 4]?.getD 0
def rotS (p:Nat) (s:List UInt8):List UInt8:=(List.range 16).map (rotB p s)
def mixA (f s:List UInt8) (j:Nat):Nat→UInt8
 | 0=>0
 | i+1=>mixA f s j i ^^^ mul8 (f[i]?.getD 0) (s[4*(j/4)+(j % 4+i) % 4]?.getD 0)
def mixS (f s:List UInt8):List UInt8:=(List.range 16).map fun j=>mixA f s j 4
theorem oG {p:Nat} {s:List UInt8} {j:Nat} (h:j<16):(rotS p s)[j]?=some (rotB p s j):=by simp[rotS,h]
theorem o7 {f s:List UInt8} {j:Nat} (h:j<16):(mixS f s)[j]?=some (mixA f s j 4):=by simp[mixS,h]
theorem fo (p:Nat) (s:List UInt8):(rotS p s).length=16:=by simp[rotS]
theorem fq (f s:List UInt8):(mixS f s).length=16:=by simp[mixS]
def encR (s:List UInt8) (k:List UInt8) (i:Nat):List UInt8 :=
 let t:=rotS 1 (s.map sub8)
 xorB (if i<10 then mixS [2,3,1,1] t else t) k
def encG (ks:List (List UInt8)) (s:List UInt8):Nat→List UInt8
 | 0=>xorB s (ks[0]?.getD [])
 | i+1=>encR (encG ks s i) (ks[i+1]?.getD []) (i+1)
def encA (ks:List (List UInt8)) (s:List UInt8):List UInt8:=encG ks s 10
end Go.Plain
