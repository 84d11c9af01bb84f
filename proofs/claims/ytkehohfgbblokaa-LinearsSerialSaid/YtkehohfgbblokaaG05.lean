/- Texts of the proof: Y10, Y11, Y12, Y13, Eng103, Y14, Y15, Y16, Y17, YN, Y18, Y19, Y20, YP, Eng106, Eng107, Y21, Eng111, YG. -/
import Derived.Test.YtkehohfgbblokaaG04
import Derived.Test.YtkehohfgbblokaaG02

set_option linter.unusedVariables false
set_option linter.unusedSimpArgs false
set_option linter.unusedSectionVars false

namespace Go.Proofs.Ytkehohfgbblokaa
open Go.Eng Go.Plain
set_option maxHeartbeats 32000000
set_option maxRecDepth 20000
attribute [local irreducible] WC RegS RegD SeqQ BlkQ ScoQ RegK CutK Sat SatN FnIs LoopQ aj OpIs
abbrev co:=List (Int×List Int)
abbrev dj:=List (Int×Bool)
abbrev dK (x:Bool):D :=.sc (.bool x)
abbrev cC (m:co):Row :=.mo (mapC i6 (asC encL m))
abbrev dP (m:dj):Row :=.mo (mapC i6 (asC dK m))
structure Prep where
 pl:IMap
 vs:BMap
 ops:List (List Int)
 af:co
 ah:co
 lo:dj
 st:dj
def dOp:HOp:=⟨0,0,0,⟨0,0,[]⟩,0,0,[],0⟩
def opN (l:List HOp) (i:Nat):HOp:=(l[i]?).getD dOp
def zs (l:List Nat):List Int:=l.map fun i:Nat=>(i:Int)
def cq (l:List HOp) (idx:List Nat) (q:IMap×BMap):IMap×BMap:=idx.foldl (fun q i=>(numP q.1 (opN l i),numV q.2 (opN l i))) q
theorem sE (l:List Nat) (x:Nat):zs (l++[x])=zs l++[(x:Int)]:=by simp[zs]
theorem eN (l:List Nat):(zs l).length=l.length:=by simp[zs]
theorem fi (p:HOp→Bool):∀(l:List HOp) (i:Nat),(selI p l i).length≤l.length
 | [],_=>Nat.le_refl _
 | o::l,i=>by
  have:=fi p l (i+1)
  unfold selI
  split <;> simp only[List.length_cons] <;> omega
theorem fF {p:HOp→Bool} {x:Nat}:∀(l:List HOp) (i:Nat),x∈selI p l i→∃o,l[x-i]?=some o∧p o=true∧i≤x
 | [],_,h=>by simp[selI]at h
 | o::l,i,h=>by
  have key:x∈selI p l (i+1)→∃o',(o::l)[x-i]?=some o'∧p o'=true∧i≤x:=fun h=>by
   obtain⟨o',h1,h2,h3⟩:=fF l (i+1) h
   refine⟨o',?_,h2,by omega⟩
   rw[show x-i=(x-(i+1))+1 by omega,List.getElem?_cons_succ]
   exact h1
  unfold selI at h
  split at h
  ·rename_i hp
   rcases List.mem_cons.1 h with rfl | h
   ·exact⟨o,by simp,hp,Nat.le_refl _⟩
   ·exact key h
  ·exact key h
def mayI (l:List HOp) (b:Int) (k:Nat):List Nat:=selI (eraB k (fun o=>mayB o b)) l 0
def badI (l:List HOp) (b:Int) (k:Nat):List Nat:=selI (eraB k (fun o=>bL o && !mayB o b)) l 0
abbrev vD (l:List HOp) (b e:Int) (q:Prep) (r:Nat):List (Nat×Row):=[(0,sBox l b e (.own r 0 q.ops.length 1 none) sNil sNil),(r,e7 q.ops),(1,fm q.pl),(2,gi q.vs),(4,cC q.af),(5,cC q.ah),(6,dP q.lo),(7,dP q.st)]
theorem lG (l:List HOp) (pre:List Nat) (x:Nat) (q:IMap×BMap):cq l (pre++[x]) q=(numP (cq l pre q).1 (opN l x),numV (cq l pre q).2 (opN l x)):=by simp[cq]
abbrev zRow (z:List Int):Row :=.ds 3 1 false i6 z
abbrev Bl (l:List HOp) (k:Nat) (hf:Nat) (z:List Int):List (Nat×Row):=[(66,.box 3 (.int .i64 k)),(67,.box 39 (.own 68 0 z.length 1 none)),(68,zRow z),(69,.box 59 (.d (eU l))),(70,.box 3 (.int .i64 k)),(71,.box 34 (.fn (.func hf) .anil (.acons (.ptr 64 []) .anil)))]
abbrev nHI (l:List HOp) (b:Int) (e:Nat) (q:Prep) (k:Nat) (pre:List Nat):Upds:=(64,some (.box 110 (.ptr 0 [])))::aB ([(0,sBox l b e (.own 65 0 q.ops.length 1 none) sNil sNil),(65,e7 q.ops),(1,fm (cq l pre (q.pl,q.vs)).1),(2,gi (cq l pre (q.pl,q.vs)).2),(4,cC q.af),(5,cC q.ah),(6,dP q.lo),(7,dP q.st)]++Bl l k 81 (zs pre))
abbrev nH0 (l:List HOp) (b:Int) (e:Nat) (q:Prep) (pre:List Nat):List (Nat×Row):=[(23,.box 110 (.ptr 0 [])),(0,sBox l b e (.own 3 0 q.ops.length 1 none) sNil sNil),(1,fm (cq l pre (q.pl,q.vs)).1),(2,gi (cq l pre (q.pl,q.vs)).2),(3,e7 q.ops),(24,.box 39 (.own 25 0 (zs pre).length 1 none)),(25,zRow (zs pre))]
theorem gl:eJ Try.prog 4 (dK false):=lV (by kernel_rfl) (by kernel_rfl)
def stF (l:List HOp) (x:Nat) (s:dj) (i:Nat):dj:=putA s (i:Int) ((getA s (i:Int)).getD false||befB (opN l x) (opN l i))
def badF (l:List HOp) (M:List Nat) (k:Nat) (q:dj×dj) (x:Nat):dj×dj:=(putA q.1 (k:Int) true,M.foldl (stF l x) q.2)
def cR (l:List HOp) (M:List Nat) (k:Nat) (idx:List Nat) (q:dj×dj):dj×dj:=idx.foldl (badF l M k) q
theorem lQ (l:List HOp) (M:List Nat) (k:Nat) (pre:List Nat) (x:Nat) (q:dj×dj):cR l M k (pre++[x]) q=(putA (cR l M k pre q).1 (k:Int) true,M.foldl (stF l x) (cR l M k pre q).2):=by simp[cR,badF]
theorem uS {l:List HOp} {x:Nat} {M:List Nat} {j i:Nat} (h:M[j]?=some i) (s:dj):(M.take (j+1)).foldl (stF l x) s=stF l x ((M.take j).foldl (stF l x) s) i:=by
 have hlt:=(List.getElem?_eq_some_iff.1 h).1
 rw[List.take_succ_eq_append_getElem hlt,(List.getElem?_eq_some_iff.1 h).2,List.foldl_append]
 rfl
abbrev BE (l:List HOp) (k:Nat) (hf:Nat) (Z:List Int):List (Nat×Row):=[(66,.box 3 (.int .i64 k)),(67,.box 39 (.d (encL Z))),(69,.box 59 (.d (eU l))),(70,.box 3 (.int .i64 k)),(71,.box 34 (.fn (.func hf) .anil (.acons (.ptr 64 []) .anil)))]
abbrev bHI (l:List HOp) (b:Int) (e:Nat) (q:Prep) (NA:IMap×BMap) (k:Nat) (M:List Nat) (pre:List Nat):Upds:=(64,some (.box 110 (.ptr 0 [])))::aB ([(0,sBox l b e (.own 65 0 (q.ops++[zs M]).length 1 none) sNil sNil),(65,e7 (q.ops++[zs M])),(1,fm NA.1),(2,gi NA.2),(4,cC q.af),(5,cC q.ah),(6,dP (cR l M k pre (q.lo,q.st)).1),(7,dP (cR l M k pre (q.lo,q.st)).2)]++BE l k 83 (zs M))
abbrev bH1 (l:List HOp) (b:Int) (e:Nat) (os:List (List Int)) (k:Nat) (Z:List Int) (lo st:dj):List (Nat×Row):=[(23,.box 110 (.ptr 0 [])),(0,sBox l b e (.own 3 0 os.length 1 none) sNil sNil),(3,e7 os),(6,dP lo),(7,dP st),(26,.box 3 (.int .i64 k)),(24,.box 39 (.d (encL Z)))]
abbrev bH0 (l:List HOp) (b:Int) (e:Nat) (q:Prep) (k:Nat) (M:List Nat) (pre:List Nat):List (Nat×Row):=bH1 l b e (q.ops++[zs M]) k (zs M) (cR l M k pre (q.lo,q.st)).1 (cR l M k pre (q.lo,q.st)).2
def oE (i:Int) (r:Nat):List Int→List (Int×AV)
 | []=>[]
 | _::c=>[(i,.own r 0 (c.length+1) 1 none)]
abbrev oM (m:co) (i:Int) (r:Nat) (c:List Int):AV:=mapC i6 (asC encL m++oE i r c)
theorem yw {m:co} {i:Int} {r r':Nat} {c:List Int} {ρ:Nat→Option Nat} (hr:ρ r=some r'):(oM m i r c).ren ρ=oM m i r' c:=by
 rw[oM,qn,List.map_append]
 have h1:(asC encL m).map (fun p=>(p.1,p.2.ren ρ))=asC encL m:=by simp[asC,AV.ren,Function.comp_def]
 rw[h1]
 cases c <;> simp[oM,oE,AV.ren,hr]
theorem fl {m:co} {i:Int} {r n:Nat} {c:List Int} (hr:Nat.blt r n=true):(oM m i r c).lt n=true:=by
 refine sQ _ fun p hp=>?_
 rcases List.mem_append.1 hp with hp | hp
 ·simp only[asC,List.mem_map]at hp
  obtain⟨_,_,rfl⟩:=hp
  rfl
 ·cases c with
  | nil=>simp[oE]at hp
  | cons a c =>
   simp only[oE,List.mem_singleton]at hp
   subst hp
   exact hr
theorem eB {m:co} {i:Int} {r r':Nat} {c:List Int} {ρ:Nat→Option Nat} (hr:ρ r=some r'):aO (.mo (oM m i r' c)) ((Row.mo (oM m i r c)).ren ρ):=aO.of_eq (congrArg Row.mo (yw hr).symm)
theorem oRow_le' {m:co} {i:Int} {r r':Nat} {c:List Int} {A:AV} {ρ:Nat→Option Nat} (he:A=oM m i r' c) (hr:ρ r=some r'):aO (.mo A) ((Row.mo (oM m i r c)).ren ρ):=by
 subst he; exact eB hr
def posN (p:Nat→Bool) (M:List Nat):Nat→List Int
 | 0=>[]
 | s+1=>if p ((M[s]?).getD 0)=true then posN p M s++[(s:Int)] else posN p M s
theorem iV (p:Nat→Bool) (M:List Nat):∀s,(posN p M s).length≤s
 | 0=>Nat.le_refl _
 | s+1=>by
  have:=iV p M s
  unfold posN
  split
  ·rw[List.length_append]; simp; omega
  ·omega
def addL (m:co) (i:Int):List Int→co
 | []=>m
 | c::cs=>m++[(i,c::cs)]
def afB (l:List HOp) (i m:Nat):Bool:=befB (opN l i) (opN l m)
def ahB (l:List HOp) (i m:Nat):Bool:=befB (opN l m) (opN l i)&&bL (opN l m)
def ordF (l:List HOp) (M:List Nat) (q:co×co) (i:Nat):co×co:=(addL q.1 i (posN (afB l i) M M.length),addL q.2 i (posN (ahB l i) M M.length))
def ek (l:List HOp) (M:List Nat) (idx:List Nat) (q:co×co):co×co:=idx.foldl (ordF l M) q
abbrev BD (k:Nat) (Z:List Int):List (Nat×Row):=[(66,.box 3 (.int .i64 k)),(67,.box 39 (.d (encL Z)))]
abbrev lP (l:List HOp) (b:Int) (e:Nat) (os:List (List Int)) (NA:IMap×BMap) (k:Nat) (Z:List Int) (lo st:dj) (A H:Row):List (Nat×Row):=[(64,(.box 110 (.ptr 0 []))),(0,sBox l b e (.own 65 0 os.length 1 none) sNil sNil),(65,e7 os),(1,fm NA.1),(2,gi NA.2),(4,A),(5,H),(6,dP lo),(7,dP st)]++BD k Z
abbrev cEnv (e k:Nat) (Z:List Int) (j:Nat):Env:=[(100,.int .i64 j),(99,.int .i64 Z.length),(98,.d (encL Z)),(1,.ptr 64 []),(2,.ptr 66 []),(3,.ptr 67 []),(15,.int .i64 e),(16,.int .i64 k)]
abbrev kM (e k:Nat) (Z:List Int) (j i s:Nat):Env:=(106,.int .i64 s)::(105,.int .i64 Z.length)::(104,.d (encL Z))::(9,.int .i64 i)::cEnv e k Z j
abbrev pA (l:List HOp) (b:Int) (e:Nat) (os:List (List Int)) (NA:IMap×BMap) (k:Nat) (Z:List Int) (lo st:dj) (af ah:co) (i:Nat) (cA cH:List Int):List (Nat×Row):=lP l b e os NA k Z lo st (.mo (oM af i 68 cA)) (.mo (oM ah i 69 cH))++[(68,zRow cA),(69,zRow cH)]
abbrev x9 (e k:Nat) (Z:List Int) (j i s m:Nat):Env:=(10,.int .i64 s)::(11,.int .i64 m)::kM e k Z j i s
theorem wN {P:Program} {sz n:Nat} {Q:Exit→St→Prop} {env:Env} {h:Upds} {α:Type} (mk:α→St) (Inv:α→Prop) {x y:Code} (hx:WC P sz x (MidQ mk Inv Q) env h n) (hy:∀a,Inv a→Sat P y Q (mk a)):WC P sz x (SeqQ P y Q) env h n:=by
 unfold WC at *
 refine Sat.mono ?_ hx
 intro e st hq
 cases e with
 | normal =>
  obtain⟨a,l,h1,h2⟩:=hq
  unfold SeqQ
  exact Sat.le l h2 (hy a h1)
 | _ =>
  unfold SeqQ
  exact hq
theorem uF:eJ Try.prog 39 (.sc (.slice none 0 0)):=lV (by kernel_rfl) (by kernel_rfl)
theorem il {m:co} {i:Int} {r:Nat} (h:getA m i=none):cJ i (asC encL m++oE i r []) 0=none:=by
 rw[oE,List.append_nil]
 rcases cV encL i m 0 with ⟨hf,_,_⟩ | ⟨_,_,_,_,hg,_⟩
 ·exact hf
 ·rw[hg]at h; cases h
theorem ik {m:co} {i:Int} {r:Nat} {a:Int} {c:List Int} (h:getA m i=none):cJ i (asC encL m++oE i r (a::c)) 0=some ((asC encL m).length,.own r 0 (c.length+1) 1 none):=by
 rcases cV encL i m 0 with ⟨hf,_,_⟩ | ⟨_,_,_,_,hg,_⟩
 ·rw[oE,ng _ _ hf,Nat.zero_add]
 ·rw[hg]at h; cases h
theorem putO {m:co} {i:Int} {r:Nat} {a:Int} {c:List Int} {v:AV}:putC (asC encL m++oE i r (a::c)) (asC encL m).length v=asC encL m++[(i,v)]:=nW _
abbrev wz (l:List HOp) (b:Int) (e:Nat) (os:List (List Int)) (NA:IMap×BMap) (k:Nat) (Z:List Int) (lo st:dj) (A:co) (ah:co) (i:Nat) (cH:List Int):List (Nat×Row):=lP l b e os NA k Z lo st (cC A) (.mo (oM ah i 69 cH))++[(69,zRow cH)]
theorem xP (m:co) (i:Int) (L:List Int):asC encL (m++[(i,L)])=asC encL m++[(i,.d (encL L))]:=by simp[asC]
theorem frzA {m:co} {i a:Int} {r:Nat} {c:List Int}:FrzR r (zRow (a::c)) (.mo (oM m i r (a::c))) (cC (addL m i (a::c))):=by
 show FrzR r (zRow (a::c)) (.mo (mapC i6 (asC encL m++[(i,.own r 0 (c.length+1) 1 none)]))) (.mo (mapC i6 (asC encL (m++[(i,a::c)]))))
 rw[xP]
 exact FrzR.mo (FrzT.mapC_last (Frz.own rfl) _)
theorem nilA {m:co} {i:Int} {r:Nat} {ρ:Nat→Option Nat}:aO (.mo (oM m i r [])) ((cC (addL m i [])).ren ρ):=aO.of_eq (by
 show _=Row.mo ((mapC i6 (asC encL m)).ren ρ)
 rw[ba,oM,oE,List.append_nil])
theorem jH {m:co} {i i':Int} (hne:i'≠i) (h:getA m i'=none):∀c,getA (addL m i c) i'=none
 | []=>h
 | c::cs=>by
  have key:∀m:co,getA m i'=none→getA (m++[(i,c::cs)]) i'=none:=by
   intro m
   induction m with
   | nil=>intro _; simp[getA,hne]
   | cons p m ih =>
    obtain⟨k,v⟩:=p
    intro h
    simp only[List.cons_append,getA]at h ⊢
    split at h
    ·cases h
    ·rename_i hk
     rw[if_neg hk]
     exact ih h
  exact key m h
theorem ko {p:HOp→Bool}:∀(l:List HOp) (i:Nat),(selI p l i).Nodup
 | [],_=>List.nodup_nil
 | o::l,i=>by
  unfold selI
  split
  ·refine List.nodup_cons.2 ⟨fun h=>?_,ko l (i+1)⟩
   obtain⟨_,_,_,h3⟩:=fF l (i+1) h
   omega
  ·exact ko l (i+1)
def ku:Prep:=⟨[],[(zBk,0)],[],[],[],[],[]⟩
def eraP (l:List HOp) (b:Int) (k:Nat) (q:Prep):Prep:=⟨(cq l (mayI l b k) (q.pl,q.vs)).1,(cq l (mayI l b k) (q.pl,q.vs)).2,q.ops++[zs (mayI l b k)],(ek l (mayI l b k) (mayI l b k) (q.af,q.ah)).1,(ek l (mayI l b k) (mayI l b k) (q.af,q.ah)).2,(cR l (mayI l b k) k (badI l b k) (q.lo,q.st)).1,(cR l (mayI l b k) k (badI l b k) (q.lo,q.st)).2⟩
def cP (l:List HOp) (b:Int):Nat→Prep
 | 0=>ku
 | k+1=>eraP l b k (cP l b k)
def yM (l:List HOp) (k:Nat) (q:Prep):Prop:=∀(i:Nat) (o:HOp),l[i]?=some o→(k:Int)≤o.era→getA q.af (i:Int)=none∧getA q.ah (i:Int)=none
theorem kw (l:List HOp) (M:List Nat) (i:Nat):∀(idx:List Nat) (q:co×co),i ∉ idx→getA q.1 (i:Int)=none∧getA q.2 (i:Int)=none→getA (ek l M idx q).1 (i:Int)=none∧getA (ek l M idx q).2 (i:Int)=none
 | [],q,_,h=>h
 | x::idx,q,hn,h=>by
  simp only[List.mem_cons,not_or]at hn
  have hne:(i:Int)≠(x:Int):=fun e=>hn.1 (by omega)
  exact kw l M i idx (ordF l M q x) hn.2 ⟨jH hne h.1 _,jH hne h.2 _⟩
theorem tJ (l:List HOp) (b:Int) (e:Nat) (hL:l.length≤1048576) (he:e≤1048576) (h32:∀o∈l,mayB o b=true→o.op.kind=2→o.op.data.length=32):FnIs Try.prog 68 [.ptr 0 []] [(0,sBox l b e sNil sNil sNil),(1,fm []),(2,gi [(zBk,0)]),(4,cC []),(5,cC []),(6,dP []),(7,dP [])] (.tup .anil) (vD l b e (cP l b e) 64):=by
 refine aG aa Try.func68 rfl rfl rfl ?_;refine sR<|rN<|nR ?_;refine rQ iM ?_;refine zD ?_;refine rQ iM ?_;refine rC<|zP ?_
 refine wc_inv (fun q:Nat×Prep=>⟨[(16,.int .i64 q.1),(15,.int .i64 e),(1,.ptr 64 [])],(64,some (.box 110 (.ptr 0 [])))::aB (vD l b e q.2 65),72,Try.f68.ntmps,64⟩) (fun q=>q.1≤e∧q.2.ops.length=q.1∧q.2=cP l b q.1∧yM l q.1 q.2) (fun q=>e-q.1) (0,ku) [(64,some 64),(65,none)] ⟨Nat.zero_le _,rfl,rfl,fun _ _ _ _=>⟨rfl,rfl⟩⟩
  (lg zj ⟨zR,zR,⟨rfl,rfl,rfl⟩,⟨rfl,bn _,_,rfl,aO.of_eq (by simp only[Row.ren,ba,ku])⟩,⟨rfl,bn _,_,rfl,aO.of_eq (by simp only[Row.ren,ba,ku])⟩,⟨rfl,bn _,_,rfl,aO.of_eq (by simp only[Row.ren,ba,ku])⟩,⟨rfl,bn _,_,rfl,aO.of_eq (by simp only[Row.ren,ba,ku])⟩,⟨rfl,bn _,_,rfl,aO.of_eq (by simp only[Row.ren,ba,ku])⟩,⟨rfl,bn _,_,rfl,aO.of_eq (by simp only[Row.ren,ba,ku])⟩,trivial⟩) ?_
 rintro⟨k,q⟩ ⟨hk,hql,hqn,hqf⟩
 simp only at hk hql hqn hqf
 refine cf ?_
 by_cases hlt:k<e
 ·have d1:decide ((k:Int)<(e:Int))=true:=dT (by omega)
  refine sR<|rC<|nQ ?_;refine wT<|zQ<|zS ?_;refine rC ?_;refine rN ?_;refine rW<|nR ?_;refine rN<|nQ<|aZ ?_;refine aw (by kernel_rfl) ?_;refine dQ [1] [64] iM ?_;refine dC [19] [] ?_;refine dC [20] [] ?_;refine dQ [21] [0] iM ?_;refine dQ [2] [88] iM ?_;refine dC [1] [64,0,1,2,65,4,5,6,7,8] ?_;refine cF [22,23,24] [64] rfl (.plain (aQ [(23,some 64)] (wI l k 81 b e) rfl rfl rfl (ak (ak (cG rfl rfl ai))) ⟨zH,trivial⟩ rfl rfl (.inl rfl) rfl rfl)) rfl rfl ?_;refine am (by kernel_rfl)<|aL<|cm ?_
  refine fO 72 [(64,some 64),(65,some 65),(66,some 88),(67,some 104),(68,none),(69,some 160),(70,some 161),(71,some 162)] (env':=[(25,.fn (.func 92) .anil (.acons (.ptr 69 []) (.acons (.ptr 70 []) (.acons (.ptr 71 []) .anil)))),(1,.ptr 64 []),(2,.ptr 66 []),(3,.ptr 67 []),(15,.int .i64 e),(16,.int .i64 k)]) (h':=nHI l b e q k [])
   (lg zg ⟨zR,zR,zR,⟨rfl,bn _,_,rfl,aO.of_eq (by show _=Row.mo ((mapC _ (asC i6 _)).ren _); rw[ba]; rfl)⟩,⟨rfl,bn _,_,rfl,aO.of_eq (by show _=Row.mo ((mapC _ (asC i6 _)).ren _); rw[ba]; rfl)⟩,zM,zM,zM,zM,zR,zR,⟨rfl,rfl,rfl⟩,zR,zR,zR,trivial⟩) ?_
  refine nC (enc:=fun x:Nat=>.int .i64 x) (fun _=>rfl) [(20,some 69),(21,some 70),(22,some 71),(23,some 64),(0,some 0),(3,some 65)] [(23,some 64),(0,some 0),(1,some 1),(2,some 2),(3,some 65),(24,some 67),(25,some 68)] [1,3] [.ptr 23 [],.ptr 24 []] (nH0 l b e q) (nHI l b e q k) (fun pre=>∃rest,mayI l b k=pre++rest)
   (qZ l b e k q.ops _ (fun o=>mayB o b) hL (vw l b e q.ops)) rfl rfl rfl rfl rfl rfl (fun _ _=>aV rfl rfl (aV rfl rfl (aV rfl rfl (ak ai)))) (fun _ _=>⟨zH,zH,zH,zH,zH,zH,trivial⟩) rfl rfl rfl
   (fun pre _=>⟨[(64,some 64),(65,some 65),(66,some 66),(67,some 67),(68,some 68),(69,some 69),(70,some 70),(71,some 71)],lg zf ⟨zR,zR,zR,zM,zM,zM,zM,zM,zM,zR,zR,zR,zR,zR,zR,trivial⟩⟩)
   ⟨_,rfl⟩ rfl [.ptr 64 [],.ptr 67 []] rfl (fun _ _=>aV rfl rfl (aV rfl rfl ai)) (fun _ _=>⟨zH,zH,zN,zN,zH,zH,zH,trivial⟩) (fun _ _=>rfl) (fun _ _=>rfl) rfl ⟨rfl,rfl⟩ rfl ?_ ?_
  ·rintro pre x-⟨rest,hsel⟩
   obtain⟨o,ho,hpo⟩:∃o,l[x]?=some o∧eraB k (fun o=>mayB o b) o=true:=by
    obtain⟨o,h1,h2,_⟩:=fF l 0 (x:=x) (by rw[hsel]; simp)
    exact⟨o,by simpa using h1,h2⟩
   have hl:l[((x:Int)).toNat]?=some o:=by rw[Int.toNat_natCast]; exact ho
   have hlen:(zs pre).length+1≤1048576:=by
    have:=fi (eraB k (fun o=>mayB o b)) l 0
    rw[hsel]at this
    simp only[List.length_append,List.length_cons]at this
    rw[eN]
    omega
   have hopx:opN l x=o:=by rw[opN,ho]; rfl
   have hdata:o.op.kind=2→o.op.data.length=32:=h32 o (List.mem_of_getElem? ho) (by
    simp only[eraB,Bool.and_eq_true]at hpo
    exact hpo.2)
   refine zS<|rQ iM ?_;refine rC ?_;refine bt (aH aa rfl rfl rfl rfl rfl rfl rfl rfl) rfl ?_;refine aS (bG (s:=1) (enc:=i6) aa (x:Int) rfl rfl rfl rfl rfl rfl rfl rfl rfl hlen rfl) rfl ?_;refine rW<|nS ?_;refine aw (by kernel_rfl) ?_;iterate 2 refine dQ [1] [23] iM ?_
   refine dC [32] [] ?_;refine dC [33] [] ?_;refine dQ [34] [0] iM ?_;refine dC [4] [] ?_;refine dQ [35,36] [] (a9 aa rfl rfl rfl rfl rfl (by omega) hl) ?_;refine dQ [37] [] iL ?_;refine cF [31,38] [0,1,2,3] rfl (.plain (aQ [(0,some 0),(1,some 1),(2,some 2),(3,some 3)] (tN l b e q.ops (cq l pre (q.pl,q.vs)).1 (cq l pre (q.pl,q.vs)).2 o hdata) rfl rfl rfl (aV rfl rfl (ak ai)) ⟨zH,zN,zN,zH,trivial⟩ rfl rfl (.inl rfl) rfl rfl)) rfl rfl ?_;refine am (by kernel_rfl)<|gR ?_
   have hp1:numP (cq l pre (q.pl,q.vs)).1 o=(cq l (pre++[x]) (q.pl,q.vs)).1:=by rw[lG,hopx]
   have hp2:numV (cq l pre (q.pl,q.vs)).2 o=(cq l (pre++[x]) (q.pl,q.vs)).2:=by rw[lG,hopx]
   have hz:zs pre++[(x:Int)]=zs (pre++[x]):=(sE pre x).symm
   have hzl:(zs pre).length+1=(zs (pre++[x])).length:=by rw[sE]; simp
   rw[hp1,hp2,hz,hzl]
   exact vf [(23,.box 110 (.ptr 0 [])),(0,sBox l b e (.own 3 0 q.ops.length 1 none) sNil sNil),(1,fm (cq l (pre++[x]) (q.pl,q.vs)).1),(2,gi (cq l (pre++[x]) (q.pl,q.vs)).2),(3,e7 q.ops),(24,.box 39 (.own 64 0 (zs (pre++[x])).length 1 none)),(64,zRow (zs (pre++[x])))] [(64,some 88)] [(64,some 64),(65,some 65),(66,some 66),(67,some 67),(68,some 72),(69,some 69),(70,some 70),(71,some 71)]
    (lg trivial ⟨zR,zR,zM,zM,zR,zR,zR,trivial⟩) ⟨rest,by rw[mayI,hsel]; simp⟩ (lg zf ⟨zR,zR,zR,zM,zM,zM,zM,zM,zM,zR,zR,zR,zR,zR,zR,trivial⟩)
  rintro pre-hdn
  obtain rfl:pre=mayI l b k:=hdn
  refine gR ?_
  have hlen2:q.ops.length+1≤1048576:=by omega
  refine aL<|gy (env':=[(1,.ptr 64 []),(2,.ptr 66 []),(3,.ptr 67 []),(15,.int .i64 e),(16,.int .i64 k)]) (h':=(64,some (.box 110 (.ptr 0 [])))::aB [(0,sBox l b e (.own 65 0 q.ops.length 1 none) sNil sNil),(65,e7 q.ops),(1,fm (cq l (mayI l b k) (q.pl,q.vs)).1),(2,gi (cq l (mayI l b k) (q.pl,q.vs)).2),(4,cC q.af),(5,cC q.ah),(6,dP q.lo),(7,dP q.st),(66,.box 3 (.int .i64 k)),(67,.box 39 (.d (encL (zs (mayI l b k)))))]) 68 (zRow (zs (mayI l b k))) rfl ⟨⟨_,rfl,Frz.refl _⟩,⟨_,rfl,Frz.refl _⟩,⟨_,rfl,Frz.refl _⟩,⟨_,rfl,Frz.refl _⟩,⟨_,rfl,Frz.refl _⟩,trivial⟩ ⟨zF,zF,zF,zF,zF,zF,zF,zF,zF,zF,⟨rfl,_,rfl,FrzR.box (Frz.own rfl)⟩,trivial⟩<|aZ ?_;refine aw (by kernel_rfl) ?_;iterate 2 refine dQ [1] [64] iM ?_
  refine dC [41] [] ?_;refine dC [42] [] ?_;refine dQ [43] [0] iM ?_;refine dQ [3] [67] iM ?_;refine da [45] [] rfl (aH aa rfl rfl rfl rfl rfl rfl rfl rfl) ?_;refine iq [44,46] [65,120] rfl (bG (s:=1) (enc:=encL) aa (zs (mayI l b k)) rfl rfl rfl rfl rfl rfl rfl rfl rfl hlen2 rfl) ?_;refine dC [40] [] ?_;refine dC [48] [] ?_;refine br [49,47] [0] (aK aa rfl rfl rfl ⟨_,⟨_,⟨rfl,rfl,rfl⟩,rfl⟩,rfl⟩ rfl) ?_;refine am (by kernel_rfl)<|aL ?_
  iterate 2 refine aZ ?_
  refine aw (by kernel_rfl) ?_;refine dQ [1] [64] iM ?_;refine dC [50] [] ?_;refine dC [51] [] ?_;refine dQ [52] [0] iM ?_;refine dQ [2] [66] iM ?_;refine dC [1] [64,0,1,2,128,4,5,6,7,8] ?_;refine cF [53,54,55] [64] rfl (.plain (aQ [(23,some 64)] (wI l k 83 b e) rfl rfl rfl (ak (ak (cG rfl rfl ai))) ⟨zH,trivial⟩ rfl rfl (.inl rfl) rfl rfl)) rfl rfl ?_;refine am (by kernel_rfl)<|aL<|cm ?_
  refine fO 72 [(64,some 64),(65,some 128),(66,some 66),(67,some 67),(69,some 208),(70,some 209),(71,some 210)] (env':=[(56,.fn (.func 92) .anil (.acons (.ptr 69 []) (.acons (.ptr 70 []) (.acons (.ptr 71 []) .anil)))),(1,.ptr 64 []),(2,.ptr 66 []),(3,.ptr 67 []),(15,.int .i64 e),(16,.int .i64 k)]) (h':=bHI l b e q (cq l (mayI l b k) (q.pl,q.vs)) k (mayI l b k) [])
   (lg zg ⟨zR,⟨rfl,rfl,_,rfl,aO.of_eq (by show _=Row.ren _ (Row.box _ (sAV l b e (.own 65 0 (q.ops++[zs (mayI l b k)]).length 1 none) sNil sNil)); rw[List.length_append]; rfl)⟩,zR,zM,zM,zM,zM,⟨rfl,bn _,_,rfl,aO.of_eq (by show _=Row.mo ((mapC _ (asC dK _)).ren _); rw[ba]; rfl)⟩,⟨rfl,bn _,_,rfl,aO.of_eq (by show _=Row.mo ((mapC _ (asC dK _)).ren _); rw[ba]; rfl)⟩,zR,zR,zR,zR,zR,trivial⟩) ?_
  have hmem:∀j i,(mayI l b k)[j]?=some i→∃o,l[i]?=some o:=fun j i h=>by
   obtain⟨o,h1,_⟩:=fF l 0 (List.mem_of_getElem? h)
   exact⟨o,by simpa using h1⟩
  have hMl:(mayI l b k).length≤1048576:=Nat.le_trans (fi _ l 0) hL
  generalize hNA:cq l (mayI l b k) (q.pl,q.vs)=NA
  generalize hM:mayI l b k=M at *
  refine nC (enc:=fun x:Nat=>.int .i64 x) (fun _=>rfl) [(20,some 69),(21,some 70),(22,some 71),(23,some 64),(0,some 0),(3,some 65)] [(23,some 64),(0,some 0),(3,some 65),(6,some 6),(7,some 7),(26,some 66),(24,some 67)] [1,2,3] [.ptr 23 [],.ptr 26 [],.ptr 24 []] (bH0 l b e q k M) (bHI l b e q NA k M) (fun pre=>∃rest,badI l b k=pre++rest)
   (qZ l b e k (q.ops++[zs M]) _ (fun o=>bL o && !mayB o b) hL (vv l b e (q.ops++[zs M]))) rfl rfl rfl rfl rfl rfl (fun _ _=>aV rfl rfl (aV rfl rfl (aV rfl rfl (ak ai)))) (fun _ _=>⟨zH,zH,zH,zH,zH,zH,trivial⟩) rfl rfl rfl
   (fun pre _=>⟨[(64,some 64),(65,some 65),(66,some 66),(67,some 67),(69,some 69),(70,some 70),(71,some 71)],lg zf ⟨zR,zR,zR,zM,zM,zM,zM,zM,zM,zR,zR,zR,zR,zR,trivial⟩⟩)
   ⟨_,rfl⟩ rfl [.ptr 64 [],.ptr 66 [],.ptr 67 []] rfl (fun _ _=>aV rfl rfl (aV rfl rfl (aV rfl rfl ai))) (fun _ _=>⟨zH,zH,zH,zN,zN,zH,zH,trivial⟩) (fun _ _=>rfl) (fun _ _=>rfl) rfl ⟨rfl,rfl⟩ rfl ?_ ?_
  ·rintro pre x-⟨rest,hsel⟩
   obtain⟨ox,hox⟩:∃o,l[x]?=some o:=by
    obtain⟨o,h1,h2,_⟩:=fF l 0 (x:=x) (by rw[hsel]; simp)
    exact⟨o,by simpa using h1⟩
   have hlx:l[((x:Int)).toNat]?=some ox:=by rw[Int.toNat_natCast]; exact hox
   have hopx:opN l x=ox:=by rw[opN,hox]; rfl
   obtain⟨lo,hlo⟩:∃lo,lo=(cR l M k pre (q.lo,q.st)).1:=⟨_,rfl⟩
   obtain⟨st,hst⟩:∃st,st=(cR l M k pre (q.lo,q.st)).2:=⟨_,rfl⟩
   show WC _ _ _ _ _ (aB (bH1 l b e (q.ops++[zs M]) k (zs M) (cR l M k pre (q.lo,q.st)).1 (cR l M k pre (q.lo,q.st)).2)) _
   rw[←hlo,←hst]
   refine cm<|aZ<|aw (by kernel_rfl) ?_;refine dQ [1] [23] iM ?_;refine dC [58] [] ?_;refine dC [59] [] ?_;refine dQ [60] [0] iM ?_;refine dQ [2] [26] iM ?_;refine br [61,62] [6] (oJ (κ:=Int) (ν:=Bool) (enc:=i6) (encV:=dK) (m:=lo) (k:=(k:Int)) (v:=true) keyI Try.underlying116 rfl rfl rfl rfl) ?_;refine am (by kernel_rfl)<|aL<|sR ?_;refine rQ iM ?_;refine rQ iE ?_;refine rC<|zP ?_
   refine wc_inv (fun j:Nat=>⟨[(65,.int .i64 j),(64,.int .i64 (zs M).length),(63,.d (encL (zs M))),(1,.ptr 23 []),(2,.ptr 26 []),(3,.ptr 24 []),(5,.int .i64 x)],aB (bH1 l b e (q.ops++[zs M]) k (zs M) (putA lo (k:Int) true) ((M.take j).foldl (stF l x) st)),72,Try.f68.ntmps,64⟩) (fun j=>j≤M.length) (fun j=>M.length-j) 0 [] (Nat.zero_le _)
    (lg zf ⟨zR,zR,zR,zM,⟨rfl,bn _,_,rfl,aO.of_eq (by show _=Row.mo ((mapC _ (asC dK _)).ren _); rw[ba]; rfl)⟩,zR,zR,trivial⟩) ?_
   intro j hj
   refine cf ?_
   obtain⟨stj,hstj⟩:∃stj,stj=(M.take j).foldl (stF l x) st:=⟨_,rfl⟩
   show WC _ _ _ _ _ (aB (bH1 l b e (q.ops++[zs M]) k (zs M) (putA lo (k:Int) true) ((M.take j).foldl (stF l x) st))) _
   rw[←hstj]
   by_cases hjl:j<M.length
   ·have d2:decide ((j:Int)<((zs M).length:Int))=true:=dT (by rw[eN]; omega)
    obtain⟨i,hi⟩:∃i,M[j]?=some i:=⟨_,List.getElem?_eq_getElem hjl⟩
    have hz2:(zs M)[((j:Int)).toNat]?=some (i:Int):=by rw[Int.toNat_natCast,zs,List.getElem?_map,hi]; rfl
    obtain⟨oi,hoi⟩:=hmem j i hi
    have hli:l[((i:Int)).toNat]?=some oi:=by rw[Int.toNat_natCast]; exact hoi
    have hopi:opN l i=oi:=by rw[opN,hoi]; rfl
    have hst2:(M.take (j+1)).foldl (stF l x) st=putA stj (i:Int) ((getA stj (i:Int)).getD false||befB ox oi):=by rw[uS hi,←hstj,stF,hopx,hopi]
    cases hb0:(getA stj (i:Int)).getD false with
    | true =>
     rw[hb0,Bool.true_or]at hst2
     refine sR<|rC<|nQ ?_;refine wT<|zQ<|zS ?_;refine rQ (aC aa rfl rfl rfl rfl rfl (by omega) hz2) ?_;refine rQ iL ?_;refine rC<|nS ?_;refine aw (by kernel_rfl) ?_;refine dQ [1] [23] iM ?_;refine dC [69] [] ?_;refine dC [70] [] ?_;refine dQ [71] [0] iM ?_;refine dC [7] [] ?_;refine dQ [1] [23] iM ?_;refine dC [74] [] ?_;refine dC [75] [] ?_;refine dQ [76] [0] iM ?_;refine dC [7] [] ?_;refine dQ [77,78] [7] (cX (κ:=Int) (ν:=Bool) (enc:=i6) (encV:=dK) (m:=stj) hb0 keyI Try.underlying116 gl rfl rfl rfl) ?_;refine dC [79] [] ?_;refine ae [80,1] rfl rfl rfl rfl ?_;refine ae [80,81] rfl rfl rfl rfl ?_;refine ae [80,82] rfl rfl rfl rfl ?_;refine ae [80,83] rfl rfl rfl rfl ?_;refine ae [80,5] rfl rfl rfl rfl ?_;refine ae [80,84,85] rfl rfl rfl rfl ?_;refine ae [80,86] rfl rfl rfl rfl ?_;refine ae [80,1] rfl rfl rfl rfl ?_;refine ae [80,88] rfl rfl rfl rfl ?_;refine ae [80,89] rfl rfl rfl rfl ?_;refine ae [80,90] rfl rfl rfl rfl ?_;refine ae [80,7] rfl rfl rfl rfl ?_;refine ae [80,91,92] rfl rfl rfl rfl ?_;refine ae [80,93] rfl rfl rfl rfl ?_;refine ae [80,87,94] rfl rfl rfl rfl ?_;refine dQ [80,95] [] iU ?_;refine br [72,73,96] [7] (oJ (κ:=Int) (ν:=Bool) (enc:=i6) (encV:=dK) (m:=stj) (k:=(i:Int)) (v:=true) keyI Try.underlying116 rfl rfl rfl rfl) ?_;refine am (by kernel_rfl)<|zC<|ao ?_;refine rQ iD ?_;refine rC<|aE ?_
     exact aU (j+1) [] hjl (by omega) (lg zf ⟨zR,zR,zR,zM,⟨rfl,bn _,_,rfl,aO.of_eq (by rw[hst2]; simp only[Row.ren,ba])⟩,zR,zR,trivial⟩)
    | false =>
     rw[hb0,Bool.false_or]at hst2
     refine sR<|rC<|nQ ?_;refine wT<|zQ<|zS ?_;refine rQ (aC aa rfl rfl rfl rfl rfl (by omega) hz2) ?_;refine rQ iL ?_;refine rC<|nS ?_;refine aw (by kernel_rfl) ?_;refine dQ [1] [23] iM ?_;refine dC [69] [] ?_;refine dC [70] [] ?_;refine dQ [71] [0] iM ?_;refine dC [7] [] ?_;refine dQ [1] [23] iM ?_;refine dC [74] [] ?_;refine dC [75] [] ?_;refine dQ [76] [0] iM ?_;refine dC [7] [] ?_;refine dQ [77,78] [7] (cX (κ:=Int) (ν:=Bool) (enc:=i6) (encV:=dK) (m:=stj) hb0 keyI Try.underlying116 gl rfl rfl rfl) ?_;refine dC [79] [] ?_;refine ab [80,1] [23] rfl rfl rfl rfl (aJ aa rfl rfl rfl rfl) ?_;refine ab [80,81] [] rfl rfl rfl rfl (ay aa (fun K hk=>hk)) ?_;refine ab [80,82] [] rfl rfl rfl rfl (ay aa (fun K hk=>hk)) ?_;refine ab [80,83] [0] rfl rfl rfl rfl (aJ aa rfl rfl rfl rfl) ?_;refine ab [80,5] [] rfl rfl rfl rfl (ay aa (fun K hk=>hk)) ?_;refine ab [80,84,85] [] rfl rfl rfl rfl (a9 aa rfl rfl rfl rfl rfl (by omega) hlx) ?_;refine ab [80,86] [] rfl rfl rfl rfl (ic aa rfl rfl) ?_;refine ab [80,1] [23] rfl rfl rfl rfl (aJ aa rfl rfl rfl rfl) ?_;refine ab [80,88] [] rfl rfl rfl rfl (ay aa (fun K hk=>hk)) ?_;refine ab [80,89] [] rfl rfl rfl rfl (ay aa (fun K hk=>hk)) ?_;refine ab [80,90] [0] rfl rfl rfl rfl (aJ aa rfl rfl rfl rfl) ?_;refine ab [80,7] [] rfl rfl rfl rfl (ay aa (fun K hk=>hk)) ?_;refine ab [80,91,92] [] rfl rfl rfl rfl (a9 aa rfl rfl rfl rfl rfl (by omega) hli) ?_;refine ab [80,93] [] rfl rfl rfl rfl (ic aa rfl rfl) ?_;refine ab [80,87,94] [] rfl rfl rfl rfl (aA (jM ox oi) rfl rfl (ak (ak ai)) (.inl rfl) (fun _=>rfl)) ?_;refine dQ [80,95] [] iG ?_;refine br [72,73,96] [7] (oJ (κ:=Int) (ν:=Bool) (enc:=i6) (encV:=dK) (m:=stj) (k:=(i:Int)) (v:=befB ox oi) keyI Try.underlying116 rfl rfl rfl rfl) ?_;refine am (by kernel_rfl)<|zC<|ao ?_;refine rQ iD ?_;refine rC<|aE ?_
     exact aU (j+1) [] hjl (by omega) (lg zf ⟨zR,zR,zR,zM,⟨rfl,bn _,_,rfl,aO.of_eq (by rw[hst2]; simp only[Row.ren,ba])⟩,zR,zR,trivial⟩)
   ·have d2:decide ((j:Int)<((zs M).length:Int))=false:=dF (by rw[eN]; omega)
    rw[List.take_of_length_le (by omega)]at hstj
    refine sR<|rC<|nQ ?_;refine wF<|b8<|dO<|eT<|dW<|gR ?_
    have hp1:putA lo (k:Int) true=(cR l M k (pre++[x]) (q.lo,q.st)).1:=by rw[lQ,hlo]
    have hp2:stj=(cR l M k (pre++[x]) (q.lo,q.st)).2:=by rw[lQ,hstj,hst]
    rw[hp1,hp2]
    exact vf (bH0 l b e q k M (pre++[x])) [] [(64,some 64),(65,some 65),(66,some 66),(67,some 67),(69,some 69),(70,some 70),(71,some 71)]
     (lg trivial ⟨zR,zR,zR,zM,zM,zR,zR,trivial⟩) ⟨rest,by rw[badI,hsel]; simp⟩ (lg zf ⟨zR,zR,zR,zM,zM,zM,zM,zM,zM,zR,zR,zR,zR,zR,trivial⟩)
  rintro pre-hdn
  obtain rfl:pre=badI l b k:=hdn
  refine zC<|sR<|rQ iM ?_;refine rQ iE ?_;refine rC<|zP ?_
  have hfr0:∀i∈M.drop 0,getA q.af (i:Int)=none∧getA q.ah (i:Int)=none:=by
   intro i him
   obtain⟨o,h1,h2,_⟩:=fF l 0 (show i∈mayI l b k from hM.symm ▸ him)
   refine hqf i o (by simpa using h1) ?_
   simp only[eraB,Bool.and_eq_true,decide_eq_true_eq]at h2
   omega
  obtain⟨os,hos⟩:∃os,os=q.ops++[zs M]:=⟨_,rfl⟩
  obtain⟨LS,hLS⟩:∃LS,LS=cR l M k (badI l b k) (q.lo,q.st):=⟨_,rfl⟩
  refine wc_inv (fun s:Nat×co×co=>⟨cEnv e k (zs M) s.1,aB (lP l b e os NA k (zs M) LS.1 LS.2 (cC s.2.1) (cC s.2.2)),72,Try.f68.ntmps,64⟩) (fun s=>s.1≤M.length∧s.2=ek l M (M.take s.1) (q.af,q.ah)∧∀i∈M.drop s.1,getA s.2.1 (i:Int)=none∧getA s.2.2 (i:Int)=none) (fun s=>M.length-s.1) (0,q.af,q.ah) [(64,some 64),(65,some 65),(66,some 66),(67,some 67)] ⟨Nat.zero_le _,rfl,hfr0⟩
   (lg ze ⟨zR,⟨rfl,rfl,_,rfl,aO.of_eq (by rw[hos]; rfl)⟩,⟨rfl,rfl,_,rfl,aO.of_eq (by rw[hos]; rfl)⟩,zM,zM,zM,zM,⟨rfl,bn _,_,rfl,aO.of_eq (by rw[hLS]; simp only[Row.ren,ba])⟩,⟨rfl,bn _,_,rfl,aO.of_eq (by rw[hLS]; simp only[Row.ren,ba])⟩,zR,zR,trivial⟩) ?_
  rintro⟨j,af,ah⟩ ⟨hj,hq,hfr⟩
  simp only at hj hq hfr
  refine cf ?_
  show WC _ _ _ _ (cEnv e k (zs M) j) (aB (lP l b e os NA k (zs M) LS.1 LS.2 (cC af) (cC ah))) _
  by_cases hjl:j<M.length
  ·have d2:decide ((j:Int)<((zs M).length:Int))=true:=dT (by rw[eN]; omega)
   obtain⟨i,hi⟩:∃i,M[j]?=some i:=⟨_,List.getElem?_eq_getElem hjl⟩
   have hz1:(zs M)[((j:Int)).toNat]?=some (i:Int):=by rw[Int.toNat_natCast,zs,List.getElem?_map,hi]; rfl
   obtain⟨oi,hoi⟩:=hmem j i hi
   have hli:l[((i:Int)).toNat]?=some oi:=by rw[Int.toNat_natCast]; exact hoi
   have hopi:opN l i=oi:=by rw[opN,hoi]; rfl
   refine sR<|rC<|nQ ?_;refine wT<|zQ<|zS ?_;refine rQ (aC aa rfl rfl rfl rfl rfl (by omega) hz1) ?_;refine rQ iL ?_;refine rC<|nR ?_;refine rQ iM ?_;refine rQ iE ?_;refine rC<|zP ?_
   refine wc_inv (fun s:Nat×List Int×List Int=>⟨kM e k (zs M) j i s.1,aB (pA l b e os NA k (zs M) LS.1 LS.2 af ah i s.2.1 s.2.2),72,Try.f68.ntmps,64⟩) (fun s=>s.1≤M.length∧s.2.1=posN (afB l i) M s.1∧s.2.2=posN (ahB l i) M s.1) (fun s=>M.length-s.1) (0,[],[]) [(64,some 64),(65,some 65),(66,some 66),(67,some 67),(68,none),(69,none)] ⟨Nat.zero_le _,rfl,rfl⟩
    (lg za ⟨zR,zR,zR,zM,zM,⟨rfl,fl rfl,_,rfl,aO.of_eq (by show _=Row.mo ((mapC i6 (asC encL _++[])).ren _); rw[List.append_nil,ba])⟩,⟨rfl,fl rfl,_,rfl,aO.of_eq (by show _=Row.mo ((mapC i6 (asC encL _++[])).ren _); rw[List.append_nil,ba])⟩,zM,zM,zR,zR,⟨rfl,rfl,rfl⟩,⟨rfl,rfl,rfl⟩,trivial⟩) ?_
   rintro⟨s,cA,cH⟩ ⟨hs,hA,hH⟩
   simp only at hs hA hH
   refine cf ?_
   show WC _ _ _ _ (kM e k (zs M) j i s) (aB (pA l b e os NA k (zs M) LS.1 LS.2 af ah i cA cH)) _
   by_cases hsl:s<M.length
   ·have d3:decide ((s:Int)<((zs M).length:Int))=true:=dT (by rw[eN]; omega)
    obtain⟨m,hm⟩:∃m,M[s]?=some m:=⟨_,List.getElem?_eq_getElem hsl⟩
    have hz2:(zs M)[((s:Int)).toNat]?=some (m:Int):=by rw[Int.toNat_natCast,zs,List.getElem?_map,hm]; rfl
    obtain⟨om,hom⟩:=hmem s m hm
    have hlm:l[((m:Int)).toNat]?=some om:=by rw[Int.toNat_natCast]; exact hom
    have hopm:opN l m=om:=by rw[opN,hom]; rfl
    have hfA:=(hfr i (List.mem_iff_getElem?.2 ⟨0,by rw[List.getElem?_drop]; exact hi⟩)).1
    have hfH:=(hfr i (List.mem_iff_getElem?.2 ⟨0,by rw[List.getElem?_drop]; exact hi⟩)).2
    refine sR<|rC<|nQ ?_;refine wT<|zQ<|zS ?_;refine rC ?_;refine rQ (aC aa rfl rfl rfl rfl rfl (by omega) hz2) ?_;refine rQ iL ?_;refine zD<|nQ<|aZ ?_;refine aw (by kernel_rfl) ?_;refine dQ [1] [64] iM ?_;refine dC [111] [] ?_;refine dC [112] [] ?_;refine dQ [113] [0] iM ?_;refine dC [9] [] ?_;refine dQ [114,115] [] (a9 aa rfl rfl rfl rfl rfl (by omega) hli) ?_;refine dQ [116] [] iL ?_;refine dQ [1] [64] iM ?_;refine dC [118] [] ?_;refine dC [119] [] ?_;refine dQ [120] [0] iM ?_;refine dC [11] [] ?_;refine dQ [121,122] [] (a9 aa rfl rfl rfl rfl rfl (by omega) hlm) ?_;refine dQ [123] [] iL ?_;refine dQ [117,124] [] (aA (jM oi om) rfl rfl (ak (ak ai)) (.inl rfl) (fun _=>rfl)) ?_
    refine am (by kernel_rfl)<|aL ?_;refine wN (fun c:List Int=>⟨x9 e k (zs M) j i s m,aB (pA l b e os NA k (zs M) LS.1 LS.2 af ah i c cH),72,Try.f68.ntmps,64⟩) (fun c=>c=posN (afB l i) M (s+1)) ?_ ?_
    ·have hpos:posN (afB l i) M (s+1)=if befB oi om=true then cA++[(s:Int)] else cA:=by rw[posN,hm,hA]; simp only[Option.getD_some,afB,hopi,hopm]
     cases hb:befB oi om with
     | false =>
      rw[hb,if_neg (by decide)]at hpos
      refine wG<|bg ?_
      exact mM cA [(64,some 64),(65,some 65),(66,some 66),(67,some 67),(68,some 68),(69,some 69)] hpos.symm (lg ⟨zE,rfl,zE,rfl,zE,rfl,zE,rfl,zE,rfl,zE,rfl,zE,rfl,zE,rfl,zE,rfl,zE,rfl,zE,rfl,zE,rfl,zE,rfl,zE,rfl,trivial⟩ ⟨zR,zR,zR,zM,zM,⟨rfl,fl rfl,_,rfl,eB (by rfl)⟩,⟨rfl,fl rfl,_,rfl,eB (by rfl)⟩,zM,zM,zR,zR,zR,zR,trivial⟩)
     | true =>
      rw[hb,if_pos rfl]at hpos
      cases cA with
      | nil =>
       refine wV ?_;refine aw (by kernel_rfl) ?_;refine dQ [1] [64] iM ?_;refine dC [126] [] ?_;refine dC [127] [] ?_;refine dQ [128] [0] iM ?_;refine dC [9] [] ?_;refine dQ [1] [64] iM ?_;refine dC [131] [] ?_;refine dC [132] [] ?_;refine dQ [133] [0] iM ?_;refine dC [9] [] ?_;refine dQ [134,135] [4] (fV (κ:=Int) (enc:=i6) (l:=asC encL af++oE i 68 []) keyI Try.underlying115 uF rfl rfl rfl (il hfA)) ?_;refine dC [10] [] ?_;refine da [137] [] rfl (aH aa rfl rfl rfl rfl rfl rfl rfl rfl) ?_;refine da [136,138] [336] rfl (jn (enc:=i6) (s:=1) aa (s:Int) rfl rfl rfl rfl rfl rfl rfl rfl) ?_;refine br [129,130,139] [4,344] (bX (κ:=Int) (enc:=i6) (l:=asC encL af++oE i 68 []) keyI Try.underlying115 rfl rfl rfl rfl (il hfA)) ?_;refine am (by kernel_rfl) ?_
       exact mM [(s:Int)] [(64,some 64),(65,some 65),(66,some 66),(67,some 67),(68,some 344),(69,some 69)] hpos.symm (lg ⟨zE,rfl,zE,rfl,zE,rfl,zE,rfl,zE,rfl,zE,rfl,zE,rfl,zE,rfl,zE,rfl,zE,rfl,zE,rfl,zE,rfl,zE,rfl,zE,rfl,trivial⟩ ⟨zR,zR,zR,zM,zM,⟨rfl,fl rfl,_,rfl,oRow_le' (r':=344) (by simp[oM,oE]) (by rfl)⟩,⟨rfl,fl rfl,_,rfl,eB (by rfl)⟩,zM,zM,zR,zR,zR,zR,trivial⟩)
      | cons a0 c0 =>
       have hlA:(a0::c0).length+1≤1048576:=by
        have:=iV (afB l i) M s
        rw[←hA]at this
        omega
       refine wV ?_;refine aw (by kernel_rfl) ?_;refine dQ [1] [64] iM ?_;refine dC [126] [] ?_;refine dC [127] [] ?_;refine dQ [128] [0] iM ?_;refine dC [9] [] ?_;refine dQ [1] [64] iM ?_;refine dC [131] [] ?_;refine dC [132] [] ?_;refine dQ [133] [0] iM ?_;refine dC [9] [] ?_;refine dQ [134,135] [4] (fU (κ:=Int) (enc:=i6) (l:=asC encL af++oE i 68 (a0::c0)) keyI Try.underlying115 rfl rfl rfl (ik hfA)) ?_;refine dC [10] [] ?_;refine da [137] [] rfl (aH aa rfl rfl rfl rfl rfl rfl rfl rfl) ?_;refine iq [136,138] [68,336] rfl (bG (s:=1) (enc:=i6) (xs:=a0::c0) aa (s:Int) rfl rfl rfl rfl rfl rfl rfl rfl rfl hlA rfl) ?_;refine br [129,130,139] [4,344] (fD (κ:=Int) (enc:=i6) (l:=asC encL af++oE i 68 (a0::c0)) keyI Try.underlying115 rfl rfl rfl rfl (ik hfA)) ?_;refine am (by kernel_rfl) ?_
       exact mM (a0::c0++[(s:Int)]) [(64,some 64),(65,some 65),(66,some 66),(67,some 67),(68,some 344),(69,some 69)] hpos.symm (lg ⟨zE,rfl,zE,rfl,zE,rfl,zE,rfl,zE,rfl,zE,rfl,zE,rfl,zE,rfl,zE,rfl,zE,rfl,zE,rfl,zE,rfl,zE,rfl,zE,rfl,trivial⟩ ⟨zR,zR,zR,zM,zM,⟨rfl,fl rfl,_,rfl,oRow_le' (r':=344) (by rw[putO]; simp[oM,oE]) (by rfl)⟩,⟨rfl,fl rfl,_,rfl,eB (by rfl)⟩,zM,zM,zR,zR,zR,zR,trivial⟩)
    intro cB hB
    refine cf ?_
    show WC _ _ _ _ (x9 e k (zs M) j i s m) (aB (pA l b e os NA k (zs M) LS.1 LS.2 af ah i cB cH)) _
    clear hA
    have hbf:=jM om oi
    have hmu:=fT om
    have hpos:posN (ahB l i) M (s+1)=if (befB om oi&&bL om)=true then cH++[(s:Int)] else cH:=by rw[posN,hm,hH]; simp only[Option.getD_some,ahB,hopi,hopm]
    cases hb1:befB om oi with
    | false =>
     rw[hb1]at hbf
     rw[hb1,Bool.false_and,if_neg (by decide)]at hpos
     refine aZ<|aw (by kernel_rfl) ?_;refine dQ [1] [64] iM ?_;refine dC [140] [] ?_;refine dC [141] [] ?_;refine dQ [142] [0] iM ?_;refine dC [11] [] ?_;refine dQ [143,144] [] (a9 aa rfl rfl rfl rfl rfl (by omega) hlm) ?_;refine dQ [145] [] iL ?_;refine dQ [1] [64] iM ?_;refine dC [147] [] ?_;refine dC [148] [] ?_;refine dQ [149] [0] iM ?_;refine dC [9] [] ?_;refine dQ [150,151] [] (a9 aa rfl rfl rfl rfl rfl (by omega) hli) ?_;refine dQ [152] [] iL ?_;refine dQ [146,153] [] (aA hbf rfl rfl (ak (ak ai)) (.inl rfl) (fun _=>rfl)) ?_;refine dC [154] [] ?_;refine ae [155,1] rfl rfl rfl rfl ?_;refine ae [155,156] rfl rfl rfl rfl ?_;refine ae [155,157] rfl rfl rfl rfl ?_;refine ae [155,158] rfl rfl rfl rfl ?_;refine ae [155,11] rfl rfl rfl rfl ?_;refine ae [155,159,160] rfl rfl rfl rfl ?_;refine ae [155,161] rfl rfl rfl rfl ?_;refine ae [155,162] rfl rfl rfl rfl ?_;refine dQ [155,163] [] iG ?_;refine am (by kernel_rfl)<|aL ?_;refine wG<|bg<|gR<|aL<|ao ?_;refine rQ iD ?_;refine rC<|aE ?_
     exact aU (s+1,cB,cH) [(64,some 64),(65,some 65),(66,some 66),(67,some 67),(68,some 68),(69,some 69)] ⟨hsl,hB,hpos.symm⟩ (by simp only; omega) (lg za ⟨zR,zR,zR,zM,zM,⟨rfl,fl rfl,_,rfl,eB (by rfl)⟩,⟨rfl,fl rfl,_,rfl,eB (by rfl)⟩,zM,zM,zR,zR,zR,zR,trivial⟩)
    | true =>
     rw[hb1]at hbf
     cases hb2:bL om with
     | false =>
      rw[hb2]at hmu
      rw[hb1,hb2,Bool.true_and,if_neg (by decide)]at hpos
      refine aZ<|aw (by kernel_rfl) ?_;refine dQ [1] [64] iM ?_;refine dC [140] [] ?_;refine dC [141] [] ?_;refine dQ [142] [0] iM ?_;refine dC [11] [] ?_;refine dQ [143,144] [] (a9 aa rfl rfl rfl rfl rfl (by omega) hlm) ?_;refine dQ [145] [] iL ?_;refine dQ [1] [64] iM ?_;refine dC [147] [] ?_;refine dC [148] [] ?_;refine dQ [149] [0] iM ?_;refine dC [9] [] ?_;refine dQ [150,151] [] (a9 aa rfl rfl rfl rfl rfl (by omega) hli) ?_;refine dQ [152] [] iL ?_;refine dQ [146,153] [] (aA hbf rfl rfl (ak (ak ai)) (.inl rfl) (fun _=>rfl)) ?_;refine dC [154] [] ?_;refine ab [155,1] [64] rfl rfl rfl rfl (aJ aa rfl rfl rfl rfl) ?_;refine ab [155,156] [] rfl rfl rfl rfl (ay aa (fun K hk=>hk)) ?_;refine ab [155,157] [] rfl rfl rfl rfl (ay aa (fun K hk=>hk)) ?_;refine ab [155,158] [0] rfl rfl rfl rfl (aJ aa rfl rfl rfl rfl) ?_;refine ab [155,11] [] rfl rfl rfl rfl (ay aa (fun K hk=>hk)) ?_;refine ab [155,159,160] [] rfl rfl rfl rfl (a9 aa rfl rfl rfl rfl rfl (by omega) hlm) ?_;refine ab [155,161] [] rfl rfl rfl rfl (ic aa rfl rfl) ?_;refine ab [155,162] [] rfl rfl rfl rfl (aA hmu rfl rfl (ak ai) (.inl rfl) (fun _=>rfl)) ?_;refine dQ [155,163] [] iU ?_;refine am (by kernel_rfl)<|aL ?_;refine wG<|bg<|zC<|ao ?_;refine rQ iD ?_;refine rC<|aE ?_
      exact aU (s+1,cB,cH) [(64,some 64),(65,some 65),(66,some 66),(67,some 67),(68,some 68),(69,some 69)] ⟨hsl,hB,hpos.symm⟩ (by simp only; omega) (lg za ⟨zR,zR,zR,zM,zM,⟨rfl,fl rfl,_,rfl,eB (by rfl)⟩,⟨rfl,fl rfl,_,rfl,eB (by rfl)⟩,zM,zM,zR,zR,zR,zR,trivial⟩)
     | true =>
      rw[hb2]at hmu
      rw[hb1,hb2,Bool.true_and,if_pos rfl]at hpos
      cases cH with
      | nil =>
       refine aZ<|aw (by kernel_rfl) ?_;refine dQ [1] [64] iM ?_;refine dC [140] [] ?_;refine dC [141] [] ?_;refine dQ [142] [0] iM ?_;refine dC [11] [] ?_;refine dQ [143,144] [] (a9 aa rfl rfl rfl rfl rfl (by omega) hlm) ?_;refine dQ [145] [] iL ?_;refine dQ [1] [64] iM ?_;refine dC [147] [] ?_;refine dC [148] [] ?_;refine dQ [149] [0] iM ?_;refine dC [9] [] ?_;refine dQ [150,151] [] (a9 aa rfl rfl rfl rfl rfl (by omega) hli) ?_;refine dQ [152] [] iL ?_;refine dQ [146,153] [] (aA hbf rfl rfl (ak (ak ai)) (.inl rfl) (fun _=>rfl)) ?_;refine dC [154] [] ?_;refine ab [155,1] [64] rfl rfl rfl rfl (aJ aa rfl rfl rfl rfl) ?_;refine ab [155,156] [] rfl rfl rfl rfl (ay aa (fun K hk=>hk)) ?_;refine ab [155,157] [] rfl rfl rfl rfl (ay aa (fun K hk=>hk)) ?_;refine ab [155,158] [0] rfl rfl rfl rfl (aJ aa rfl rfl rfl rfl) ?_;refine ab [155,11] [] rfl rfl rfl rfl (ay aa (fun K hk=>hk)) ?_;refine ab [155,159,160] [] rfl rfl rfl rfl (a9 aa rfl rfl rfl rfl rfl (by omega) hlm) ?_;refine ab [155,161] [] rfl rfl rfl rfl (ic aa rfl rfl) ?_;refine ab [155,162] [] rfl rfl rfl rfl (aA hmu rfl rfl (ak ai) (.inl rfl) (fun _=>rfl)) ?_;refine dQ [155,163] [] iU ?_;refine am (by kernel_rfl)<|aL ?_;refine wV ?_;refine aw (by kernel_rfl) ?_;refine dQ [1] [64] iM ?_;refine dC [165] [] ?_;refine dC [166] [] ?_;refine dQ [167] [0] iM ?_;refine dC [9] [] ?_;refine dQ [1] [64] iM ?_;refine dC [170] [] ?_;refine dC [171] [] ?_;refine dQ [172] [0] iM ?_;refine dC [9] [] ?_;refine dQ [173,174] [5] (fV (κ:=Int) (enc:=i6) (l:=asC encL ah++oE i 69 []) keyI Try.underlying115 uF rfl rfl rfl (il hfH)) ?_;refine dC [10] [] ?_;refine da [176] [] rfl (aH aa rfl rfl rfl rfl rfl rfl rfl rfl) ?_;refine da [175,177] [368] rfl (jn (enc:=i6) (s:=1) aa (s:Int) rfl rfl rfl rfl rfl rfl rfl rfl) ?_;refine br [168,169,178] [5,376] (bX (κ:=Int) (enc:=i6) (l:=asC encL ah++oE i 69 []) keyI Try.underlying115 rfl rfl rfl rfl (il hfH)) ?_;refine am (by kernel_rfl)<|zC<|ao ?_;refine rQ iD ?_;refine rC<|aE ?_
       exact aU (s+1,cB,[(s:Int)]) [(64,some 64),(65,some 65),(66,some 66),(67,some 67),(68,some 68),(69,some 376)] ⟨hsl,hB,hpos.symm⟩ (by simp only; omega) (lg za ⟨zR,zR,zR,zM,zM,⟨rfl,fl rfl,_,rfl,eB (by rfl)⟩,⟨rfl,fl rfl,_,rfl,oRow_le' (r':=376) (by simp[oM,oE]) (by rfl)⟩,zM,zM,zR,zR,zR,zR,trivial⟩)
      | cons a0 c0 =>
       have hlA:(a0::c0).length+1≤1048576:=by
        have:=iV (ahB l i) M s
        rw[←hH]at this
        omega
       refine aZ<|aw (by kernel_rfl) ?_;refine dQ [1] [64] iM ?_;refine dC [140] [] ?_;refine dC [141] [] ?_;refine dQ [142] [0] iM ?_;refine dC [11] [] ?_;refine dQ [143,144] [] (a9 aa rfl rfl rfl rfl rfl (by omega) hlm) ?_;refine dQ [145] [] iL ?_;refine dQ [1] [64] iM ?_;refine dC [147] [] ?_;refine dC [148] [] ?_;refine dQ [149] [0] iM ?_;refine dC [9] [] ?_;refine dQ [150,151] [] (a9 aa rfl rfl rfl rfl rfl (by omega) hli) ?_;refine dQ [152] [] iL ?_;refine dQ [146,153] [] (aA hbf rfl rfl (ak (ak ai)) (.inl rfl) (fun _=>rfl)) ?_;refine dC [154] [] ?_;refine ab [155,1] [64] rfl rfl rfl rfl (aJ aa rfl rfl rfl rfl) ?_;refine ab [155,156] [] rfl rfl rfl rfl (ay aa (fun K hk=>hk)) ?_;refine ab [155,157] [] rfl rfl rfl rfl (ay aa (fun K hk=>hk)) ?_;refine ab [155,158] [0] rfl rfl rfl rfl (aJ aa rfl rfl rfl rfl) ?_;refine ab [155,11] [] rfl rfl rfl rfl (ay aa (fun K hk=>hk)) ?_;refine ab [155,159,160] [] rfl rfl rfl rfl (a9 aa rfl rfl rfl rfl rfl (by omega) hlm) ?_;refine ab [155,161] [] rfl rfl rfl rfl (ic aa rfl rfl) ?_;refine ab [155,162] [] rfl rfl rfl rfl (aA hmu rfl rfl (ak ai) (.inl rfl) (fun _=>rfl)) ?_;refine dQ [155,163] [] iU ?_;refine am (by kernel_rfl)<|aL ?_;refine wV ?_;refine aw (by kernel_rfl) ?_;refine dQ [1] [64] iM ?_;refine dC [165] [] ?_;refine dC [166] [] ?_;refine dQ [167] [0] iM ?_;refine dC [9] [] ?_;refine dQ [1] [64] iM ?_;refine dC [170] [] ?_;refine dC [171] [] ?_;refine dQ [172] [0] iM ?_;refine dC [9] [] ?_;refine dQ [173,174] [5] (fU (κ:=Int) (enc:=i6) (l:=asC encL ah++oE i 69 (a0::c0)) keyI Try.underlying115 rfl rfl rfl (ik hfH)) ?_;refine dC [10] [] ?_;refine da [176] [] rfl (aH aa rfl rfl rfl rfl rfl rfl rfl rfl) ?_;refine iq [175,177] [69,368] rfl (bG (s:=1) (enc:=i6) (xs:=a0::c0) aa (s:Int) rfl rfl rfl rfl rfl rfl rfl rfl rfl hlA rfl) ?_;refine br [168,169,178] [5,376] (fD (κ:=Int) (enc:=i6) (l:=asC encL ah++oE i 69 (a0::c0)) keyI Try.underlying115 rfl rfl rfl rfl (ik hfH)) ?_;refine am (by kernel_rfl)<|zC<|ao ?_;refine rQ iD ?_;refine rC<|aE ?_
       exact aU (s+1,cB,a0::c0++[(s:Int)]) [(64,some 64),(65,some 65),(66,some 66),(67,some 67),(68,some 68),(69,some 376)] ⟨hsl,hB,hpos.symm⟩ (by simp only; omega) (lg za ⟨zR,zR,zR,zM,zM,⟨rfl,fl rfl,_,rfl,eB (by rfl)⟩,⟨rfl,fl rfl,_,rfl,oRow_le' (r':=376) (by rw[putO]; simp[oM,oE]) (by rfl)⟩,zM,zM,zR,zR,zR,zR,trivial⟩)
   ·have d3:decide ((s:Int)<((zs M).length:Int))=false:=dF (by rw[eN]; omega)
    obtain rfl:s=M.length:=by omega
    have hord:(addL af i cA,addL ah i cH)=ek l M (M.take (j+1)) (q.af,q.ah):=by
     rw[List.take_succ_eq_append_getElem hjl,(List.getElem?_eq_some_iff.1 hi).2,ek,List.foldl_append]
     show _=ordF l M (ek l M (M.take j) (q.af,q.ah)) i
     rw[←hq,ordF,hA,hH]
    have hfr2:∀i'∈M.drop (j+1),getA (addL af i cA) (i':Int)=none∧getA (addL ah i cH) (i':Int)=none:=by
     intro i' hi'
     have hnd:M.Nodup:=hM ▸ ko l 0
     have hdr:M.drop j=i::M.drop (j+1):=by rw[List.drop_eq_getElem_cons hjl,(List.getElem?_eq_some_iff.1 hi).2]
     have h1:=hfr i' (by rw[hdr]; exact List.mem_cons_of_mem _ hi')
     have hne:(i':Int)≠(i:Int):=by
      intro hee
      obtain rfl:i'=i:=by omega
      have:=(List.drop_sublist j M).nodup hnd
      rw[hdr]at this
      exact (List.nodup_cons.1 this).1 hi'
     exact⟨jH hne h1.1 _,jH hne h1.2 _⟩
    clear hA hH
    cases cA with
    | nil =>
     refine fO 72 [(64,some 64),(65,some 65),(66,some 66),(67,some 67),(69,some 69)] (env':=kM e k (zs M) j i M.length) (h':=aB (wz l b e os NA k (zs M) LS.1 LS.2 (addL af i []) ah i cH)) (lg za ⟨zR,zR,zR,zM,zM,⟨rfl,bn _,_,rfl,nilA⟩,⟨rfl,fl rfl,_,rfl,eB (by rfl)⟩,zM,zM,zR,zR,zR,trivial⟩) ?_
     cases cH with
     | nil =>
      refine fO 72 [(64,some 64),(65,some 65),(66,some 66),(67,some 67)] (env':=kM e k (zs M) j i M.length) (h':=aB (lP l b e os NA k (zs M) LS.1 LS.2 (cC (addL af i [])) (cC (addL ah i [])))) (lg za ⟨zR,zR,zR,zM,zM,zM,⟨rfl,bn _,_,rfl,nilA⟩,zM,zM,zR,zR,trivial⟩)<|sR ?_;refine rC<|nQ ?_;refine wF<|b8<|dO<|eT<|dW<|zC<|ao ?_;refine rQ iD ?_;refine rC<|aE ?_
      exact aU (j+1,addL af i [],addL ah i _) [(64,some 64),(65,some 65),(66,some 66),(67,some 67)] ⟨hjl,hord,hfr2⟩ (by simp only; omega) (lg ze ⟨zR,zR,zR,zM,zM,zM,zM,zM,zM,zR,zR,trivial⟩)
     | cons a2 c2 =>
      refine gy (env':=kM e k (zs M) j i M.length) (h':=aB (lP l b e os NA k (zs M) LS.1 LS.2 (cC (addL af i [])) (cC (addL ah i (a2::c2))))) 69 (zRow (a2::c2)) rfl ⟨⟨_,rfl,Frz.refl _⟩,⟨_,rfl,Frz.refl _⟩,⟨_,rfl,Frz.refl _⟩,⟨_,rfl,Frz.refl _⟩,⟨_,rfl,Frz.refl _⟩,⟨_,rfl,Frz.refl _⟩,⟨_,rfl,Frz.refl _⟩,⟨_,rfl,Frz.refl _⟩,⟨_,rfl,Frz.refl _⟩,⟨_,rfl,Frz.refl _⟩,⟨_,rfl,Frz.refl _⟩,⟨_,rfl,Frz.refl _⟩,trivial⟩ ⟨zF,zF,zF,zF,zF,zF,⟨rfl,_,rfl,frzA⟩,zF,zF,zF,zF,trivial⟩<|sR ?_;refine rC<|nQ ?_;refine wF<|b8<|dO<|eT<|dW<|zC<|ao ?_;refine rQ iD ?_;refine rC<|aE ?_
      exact aU (j+1,addL af i [],addL ah i _) [(64,some 64),(65,some 65),(66,some 66),(67,some 67)] ⟨hjl,hord,hfr2⟩ (by simp only; omega) (lg ze ⟨zR,zR,zR,zM,zM,zM,zM,zM,zM,zR,zR,trivial⟩)
    | cons a1 c1 =>
     refine gy (env':=kM e k (zs M) j i M.length) (h':=aB (wz l b e os NA k (zs M) LS.1 LS.2 (addL af i (a1::c1)) ah i cH)) 68 (zRow (a1::c1)) rfl ⟨⟨_,rfl,Frz.refl _⟩,⟨_,rfl,Frz.refl _⟩,⟨_,rfl,Frz.refl _⟩,⟨_,rfl,Frz.refl _⟩,⟨_,rfl,Frz.refl _⟩,⟨_,rfl,Frz.refl _⟩,⟨_,rfl,Frz.refl _⟩,⟨_,rfl,Frz.refl _⟩,⟨_,rfl,Frz.refl _⟩,⟨_,rfl,Frz.refl _⟩,⟨_,rfl,Frz.refl _⟩,⟨_,rfl,Frz.refl _⟩,trivial⟩ ⟨zF,zF,zF,zF,zF,⟨rfl,_,rfl,frzA⟩,zF,zF,zF,zF,zF,zF,trivial⟩ ?_
     cases cH with
     | nil =>
      refine fO 72 [(64,some 64),(65,some 65),(66,some 66),(67,some 67)] (env':=kM e k (zs M) j i M.length) (h':=aB (lP l b e os NA k (zs M) LS.1 LS.2 (cC (addL af i (a1::c1))) (cC (addL ah i [])))) (lg za ⟨zR,zR,zR,zM,zM,zM,⟨rfl,bn _,_,rfl,nilA⟩,zM,zM,zR,zR,trivial⟩)<|sR ?_;refine rC<|nQ ?_;refine wF<|b8<|dO<|eT<|dW<|zC<|ao ?_;refine rQ iD ?_;refine rC<|aE ?_
      exact aU (j+1,addL af i (a1::c1),addL ah i _) [(64,some 64),(65,some 65),(66,some 66),(67,some 67)] ⟨hjl,hord,hfr2⟩ (by simp only; omega) (lg ze ⟨zR,zR,zR,zM,zM,zM,zM,zM,zM,zR,zR,trivial⟩)
     | cons a2 c2 =>
      refine gy (env':=kM e k (zs M) j i M.length) (h':=aB (lP l b e os NA k (zs M) LS.1 LS.2 (cC (addL af i (a1::c1))) (cC (addL ah i (a2::c2))))) 69 (zRow (a2::c2)) rfl ⟨⟨_,rfl,Frz.refl _⟩,⟨_,rfl,Frz.refl _⟩,⟨_,rfl,Frz.refl _⟩,⟨_,rfl,Frz.refl _⟩,⟨_,rfl,Frz.refl _⟩,⟨_,rfl,Frz.refl _⟩,⟨_,rfl,Frz.refl _⟩,⟨_,rfl,Frz.refl _⟩,⟨_,rfl,Frz.refl _⟩,⟨_,rfl,Frz.refl _⟩,⟨_,rfl,Frz.refl _⟩,⟨_,rfl,Frz.refl _⟩,trivial⟩ ⟨zF,zF,zF,zF,zF,zF,⟨rfl,_,rfl,frzA⟩,zF,zF,zF,zF,trivial⟩<|sR ?_;refine rC<|nQ ?_;refine wF<|b8<|dO<|eT<|dW<|zC<|ao ?_;refine rQ iD ?_;refine rC<|aE ?_
      exact aU (j+1,addL af i (a1::c1),addL ah i _) [(64,some 64),(65,some 65),(66,some 66),(67,some 67)] ⟨hjl,hord,hfr2⟩ (by simp only; omega) (lg ze ⟨zR,zR,zR,zM,zM,zM,zM,zM,zM,zR,zR,trivial⟩)
  ·have d2:decide ((j:Int)<((zs M).length:Int))=false:=dF (by rw[eN]; omega)
   obtain rfl:j=M.length:=by omega
   rw[List.take_length]at hq
   have hE:eraP l b k q=⟨NA.1,NA.2,os,af,ah,LS.1,LS.2⟩:=by
    unfold eraP
    rw[hM,hNA,←hLS,←hq,←hos]
   refine sR<|rC<|nQ ?_;refine wF<|b8<|dO<|eT<|dW<|zC<|ao ?_;refine rQ iD ?_;refine rC<|aE ?_
   refine aU (k+1,⟨NA.1,NA.2,os,af,ah,LS.1,LS.2⟩) [(64,some 64),(65,some 65)] ⟨hlt,by simp[hos,hql],by simp only; rw[cP,←hqn,hE],fun i o hio hoe=>?_⟩ (by simp only; omega) (lg zj ⟨zR,zR,zR,zM,zM,zM,zM,zM,zM,trivial⟩)
   have h1:i ∉ M:=fun him=>by
    obtain⟨o',h1,h2,_⟩:=fF l 0 (show i∈mayI l b k from hM.symm ▸ him)
    rw[Nat.sub_zero,hio]at h1
    cases h1
    simp only[eraB,Bool.and_eq_true,decide_eq_true_eq]at h2
    omega
   have h2:=kw l M i M (q.af,q.ah) h1 (hqf i o hio (by omega))
   rw[←hq]at h2
   exact h2
 ·have d1:decide ((k:Int)<(e:Int))=false:=dF (by omega)
  obtain rfl:k=e:=by omega
  subst hqn
  refine sR<|rC<|nQ ?_;refine wF<|b8<|dO<|eT<|dW ?_
  exact⟨trivial,[(64,some 65)],lg zV ⟨zR,zR,zM,zM,zM,zM,zM,zM,trivial⟩⟩
structure LSt where
 era:Int
 taken:List UInt8
 array:List UInt8
 durable:List UInt8
 deriving DecidableEq
def bR (s:LSt):D :=.cons (i6 s.era) (.cons (strD s.taken) (.cons (strD s.array) (.cons (strD s.durable) .nil)))
theorem rq (a b:List UInt8):EqOk Try.prog 1 9 (strD a) (strD b) (decide (a=b)):=by
 have:=ur (P:=Try.prog) (a:=mkS a) (b:=mkS b) Try.underlying9
 rwa [sP]at this
theorem Bc (a b:LSt):EqOk Try.prog 2 141 (bR a) (bR b) (decide (a=b)):=by
 refine (uo (P:=Try.prog) Try.underlying141 (by kernel_rfl) rfl rfl (kG aa rfl (by kernel_rfl) rfl rfl (sh (P:=Try.prog) Try.underlying3) rfl (kG aa rfl (by kernel_rfl) rfl rfl (rq _ _) rfl (kG aa rfl (by kernel_rfl) rfl rfl (rq _ _) rfl (kG aa rfl (by kernel_rfl) rfl rfl (rq _ _) rfl xD))))).cast ?_
 cases a; cases b
 simp
theorem yk (s:LSt):jr Try.prog 2 141 (bR s):=
 sa (P:=Try.prog) Try.underlying141 rfl (jD aa rfl (by kernel_rfl) rfl (pp (P:=Try.prog) Try.underlying3) rfl (jD aa rfl (by kernel_rfl) rfl (ke (P:=Try.prog) Try.underlying9) rfl (jD aa rfl (by kernel_rfl) rfl (ke (P:=Try.prog) Try.underlying9) rfl (jD aa rfl (by kernel_rfl) rfl (ke (P:=Try.prog) Try.underlying9) rfl vQ))))
theorem mp (l:List UInt8):(strD l).keyd:=fun n=>by
 have:(mkS l==mkS l)=true:=by rw[wH]; exact dT rfl
 cases n <;> simpa[Instr.sameBits]using this
theorem wU (s:LSt):(bR s).keyd:=⟨fun n=>by cases n <;> simp[Instr.sameBits],mp _,mp _,mp _,trivial⟩
theorem keyS:ea Try.prog 141 bR 2:=mQ (by decide) (by rw[Try.underlying141]) yk Bc wU
abbrev KMap:=List (LSt×Int)
abbrev kRow (m:KMap):Row :=.mo (mapC bR (asC i6 m))
abbrev uQ (xs:List LSt):Row :=.ds 141 4 false bR xs
structure aI where
 op:Int
 to:Int
def ot (s:aI):D :=.cons (i6 s.op) (.cons (i6 s.to) .nil)
abbrev cr (l:List aI):D :=.arr 2 ot l
abbrev uZ (xs:List (List aI)):Row :=.ds 142 1 false cr xs
def addS (q:KMap×List LSt) (x:LSt):(KMap×List LSt)×Int:=match getA q.1 x with
 | some n=>(q,n)
 | none=>((putA q.1 x q.2.length,q.2++[x]),q.2.length)
theorem xq {P:Program} {env:Env} {h:Upds} {n t kt et mm r:Nat} {κ ν:Type} [DecidableEq κ] {enc:κ→D} {encV:ν→D} {x y:Operand} {k:κ} {m:List (κ×ν)} {v:ν} (z:ν) (hg:getA m k=some v) (K:ea P kt enc mm) (ht:P.underlying t=some (.map kt et)) (hz:eJ P et (encV z))
  (hx:aq env x=some (.mapr r)) (hy:aq env y=some (.d (enc k))) (hr:aT h r=some (.mo (mapC enc (asC encV m)))) :
  aj P (.lookup t x y true) env h n (some (.tup (.acons (.d (encV v)) (.acons (.bool true) .anil)))) []:=by
 have:=qp (n:=n) z K ht hz hx hy hr
 rw[hg]at this
 exact this
theorem xr {P:Program} {env:Env} {h:Upds} {n t kt et mm r:Nat} {κ ν:Type} [DecidableEq κ] {enc:κ→D} {encV:ν→D} {x y:Operand} {k:κ} {m:List (κ×ν)} (z:ν) (hg:getA m k=none) (K:ea P kt enc mm) (ht:P.underlying t=some (.map kt et)) (hz:eJ P et (encV z))
  (hx:aq env x=some (.mapr r)) (hy:aq env y=some (.d (enc k))) (hr:aT h r=some (.mo (mapC enc (asC encV m)))) :
  aj P (.lookup t x y true) env h n (some (.tup (.acons (.d (encV z)) (.acons (.bool false) .anil)))) []:=by
 have:=qp (n:=n) z K ht hz hx hy hr
 rw[hg]at this
 exact this
abbrev pT (l:List HOp) (b e:Int) (xs:List (List Int)) (sp:List (List aI)) (q:KMap×List LSt) (r:Nat):List (Nat×Row):=[(0,sBox l b e (.own 3 0 xs.length 1 none) (.own r 0 q.2.length 4 none) (.own 10 0 sp.length 1 none)),(3,e7 xs),(8,kRow q.1),(r,uQ q.2),(10,uZ sp)]
theorem y9 (l:List HOp) (b e:Int) (xs:List (List Int)) (sp:List (List aI)) (q:KMap×List LSt) (x:LSt) (hlen:q.2.length+1≤1048576):FnIs Try.prog 69 [.ptr 0 [],.d (bR x)] (pT l b e xs sp q 9) (.int .i64 (addS q x).2) (pT l b e xs sp (addS q x).1 64):=by
 refine aG aa Try.func69 rfl rfl rfl ?_
 have hw:IntKind.i64.wrap (((q.2.length+1:Nat):Int)-1)=(q.2.length:Int):=by rw[bp (by omega) (by omega)]; omega
 unfold addS
 cases hg:getA q.1 x with
 | some v =>
  refine sR<|rN ?_;refine rC<|nQ<|aZ ?_;refine aw (by kernel_rfl) ?_;refine dC [0] [] ?_;refine dC [8] [] ?_;refine dC [9] [] ?_;refine dQ [10] [0] iM ?_;refine dQ [3] [64] iM ?_;refine dQ [11,12] [8] (xq (κ:=LSt) (ν:=Int) (enc:=bR) (encV:=i6) (m:=q.1) 0 hg keyS Try.underlying117 eO rfl rfl rfl) ?_;refine dC [13] [] ?_;iterate 2 refine dC [7] [] ?_
  refine dC [14] [] ?_;refine dC [15] [] ?_;refine am (by kernel_rfl)<|aL<|sR ?_;refine rC ?_;refine zO<|sR ?_;refine zD<|zT<|bQ ?_
  exact⟨trivial,[(64,some 9)],lg zV ⟨zR,zR,zM,zR,zR,trivial⟩⟩
 | none =>
  refine sR<|rN ?_;refine rC<|nQ<|aZ ?_;refine aw (by kernel_rfl) ?_;refine dC [0] [] ?_;refine dC [8] [] ?_;refine dC [9] [] ?_;refine dQ [10] [0] iM ?_;refine dQ [3] [64] iM ?_;refine dQ [11,12] [8] (xr (κ:=LSt) (ν:=Int) (enc:=bR) (encV:=i6) (m:=q.1) 0 hg keyS Try.underlying117 eO rfl rfl rfl) ?_;refine dC [13] [] ?_;iterate 2 refine dC [7] [] ?_
  refine dC [14] [] ?_;refine dC [15] [] ?_;refine am (by kernel_rfl)<|aL<|sR ?_;refine rC ?_;refine zJ<|zQ ?_;refine aw (by kernel_rfl) ?_;refine dC [0] [] ?_;refine dC [18] [] ?_;refine dC [19] [] ?_;refine dQ [20] [0] iM ?_;refine dQ [3] [64] iM ?_;refine dC [0] [] ?_;refine dC [23] [] ?_;refine dC [24] [] ?_;refine dQ [25] [0] iM ?_;refine dQ [26] [9] (bz aa rfl rfl) ?_;refine br [21,22,27] [8] (oJ (κ:=LSt) (ν:=Int) (enc:=bR) (encV:=i6) (m:=q.1) (k:=x) (v:=(q.2.length:Int)) keyS Try.underlying117 rfl rfl rfl rfl) ?_;refine am (by kernel_rfl)<|aL<|aZ ?_;refine aw (by kernel_rfl) ?_;iterate 2 refine dC [0] [] ?_
  refine dC [29] [] ?_;refine dC [30] [] ?_;refine dQ [31] [0] iM ?_;refine dQ [3] [64] iM ?_;refine da [33] [] rfl (aH aa rfl rfl rfl rfl rfl rfl rfl rfl) ?_;refine iq [32,34] [9,312] rfl (bG (s:=4) (enc:=bR) (xs:=q.2) aa x rfl rfl rfl rfl rfl rfl rfl rfl rfl hlen rfl) ?_;refine dC [28] [] ?_;refine dC [36] [] ?_;refine br [37,35] [0] (aK aa rfl rfl rfl ⟨_,⟨_,⟨rfl,rfl,rfl⟩,rfl⟩,rfl⟩ rfl) ?_;refine am (by kernel_rfl)<|aL<|sR ?_;refine zU ?_;refine rQ iM ?_;refine rQ (bz aa rfl rfl) ?_;refine rQ (ey (m:=(q.2.length:Int)) aa rfl rfl hw) ?_;refine rC<|zT ?_
  exact⟨trivial,[(64,some 320)],lg zV ⟨⟨rfl,rfl,_,rfl,aO.of_eq (by simp only[List.length_append,List.length_singleton]; rfl)⟩,zR,zM,zR,zR,trivial⟩⟩
theorem od {r te n:Nat} {ex:Bool} {cap:Option Nat}:Frz r (.ds te 1 ex cD (List.replicate n (0:Int))) (.own r 0 n 1 cap) (.d (encB (List.replicate n 0))):=by
 have e:byI (List.replicate n 0)=List.replicate n (0:Int):=by simp[byI]
 show Frz _ _ _ (.d (.arr 1 cD (byI (List.replicate n 0))))
 rw[e]
 exact Frz.own (by simp)
theorem gg {T:Tab} {env:Env} {h:Upds} {n:Nat} (hT:an Try.prog T) {t t' e:TypeId} {x:Operand} {l:List UInt8} (ht:bq T t=some (.slice e)) (he:bq T e=some (.int .u8)) (ht':bq T t'=some .string) (hx:aq env x=some (.d (encB l))) :
  aj Try.prog (.convert t t' x) env h n (some (.d (strD l))) []:=by
 have:=su (n:=n) (h:=h) hT ht he ht' hx
 rwa [tu]at this
def cz (n:Nat):List UInt8:=List.replicate n 0
theorem xm (l:List HOp) (b e:Int) (xs:List (List Int)) (sp:List (List aI)) (q:KMap×List LSt) (k:Nat) (z:List Int) (hz0:xs[k]?=some z) (hlen:z.length≤1048576):FnIs Try.prog 70 [.ptr 0 [],.int .i64 k] (pT l b e xs sp q 9) (.d (strD (cz z.length))) (pT l b e xs sp q 9):=by
 have hz:xs[((k:Int)).toNat]?=some z:=by rw[Int.toNat_natCast]; exact hz0
 refine aG aa Try.func70 rfl rfl rfl ?_
 have hkl:=(List.getElem?_eq_some_iff.1 hz0).1
 refine sR<|rC<|nR ?_;refine zU ?_;refine rQ iM ?_;refine rC ?_;refine rQ (aP aa rfl rfl rfl rfl rfl (by omega) (by omega)) ?_;refine rQ (bf (v :=.d (encL z)) aa rfl rfl ⟨rfl,z,hz,encL z,rfl,rfl⟩ rfl) ?_;refine rQ iE ?_;refine rQ (aj.frozen (dz (enc:=cD) (s:=1) (N:=z.length) aa (0:Int) rfl rfl rfl rfl rfl rfl rfl hlen rfl) od) ?_;refine rQ (gg aa rfl rfl rfl rfl) ?_;refine rC<|zT ?_
 exact⟨trivial,[],lg zV ⟨zR,zR,zM,zR,zR,trivial⟩⟩
def jS (l:List HOp):List Int→List UInt8→Bool
 | i::z,c::t=>if (bL (opN l i.toNat)&&decide ((c.toNat:Int)=0))=true then false else jS l z t
 | _,_=>true
def iJ (l:List HOp) (lo:dj) (z:List Int) (x:LSt):Bool:=if (getA lo x.era).getD false=true then false else jS l z x.taken
theorem sd {l:List HOp} {z:List Int} {t:List UInt8} {k:Nat} {i:Int} {c:UInt8} (hi:z[k]?=some i) (hc:t[k]?=some c):jS l (z.drop k) (t.drop k)=if (bL (opN l i.toNat)&&decide ((c.toNat:Int)=0))=true then false else jS l (z.drop (k+1)) (t.drop (k+1)):=by
 rw[List.drop_eq_getElem_cons (List.getElem?_eq_some_iff.1 hi).1,(List.getElem?_eq_some_iff.1 hi).2,List.drop_eq_getElem_cons (List.getElem?_eq_some_iff.1 hc).1,(List.getElem?_eq_some_iff.1 hc).2]
 rfl
abbrev wh (l:List HOp) (b e:Int) (xs:List (List Int)) (sp:List (List aI)) (lo:dj) (q:KMap×List LSt):List (Nat×Row):=(6,dP lo)::pT l b e xs sp q 9
theorem xz (l:List HOp) (b e:Int) (xs:List (List Int)) (sp:List (List aI)) (lo:dj) (q:KMap×List LSt) (x:LSt) (k:Nat) (z:List Int) (hk:x.era=k) (hz0:xs[k]?=some z) (hzl:z.length≤1048576) (htl:x.taken.length=z.length) (hmem:∀i∈z,∃o,l[i.toNat]?=some o∧0≤i):FnIs Try.prog 88 [.ptr 0 [],.d (bR x)] (wh l b e xs sp lo q) (.bool (iJ l lo z x)) (wh l b e xs sp lo q):=by
 have hkl:=(List.getElem?_eq_some_iff.1 hz0).1
 have hz:xs[x.era.toNat]?=some z:=by rw[hk,Int.toNat_natCast]; exact hz0
 refine aG aa Try.func88 rfl rfl rfl ?_
 unfold iJ
 cases hb0:(getA lo x.era).getD false with
 | true =>
  rw[if_pos rfl]
  refine sR<|rN ?_;refine rC<|nQ<|aZ ?_;refine aw (by kernel_rfl) ?_;refine dC [0] [] ?_;refine dC [7] [] ?_;refine dC [8] [] ?_;refine dQ [9] [0] iM ?_;refine dC [3] [] ?_;refine dQ [11] [64] iB ?_;refine dQ [10,12] [6] (cX (κ:=Int) (ν:=Bool) (enc:=i6) (encV:=dK) (m:=lo) hb0 keyI Try.underlying116 gl rfl rfl rfl) ?_;refine am (by kernel_rfl)<|aL ?_;refine wV<|sR ?_;refine rC<|zT<|bQ ?_
  exact⟨trivial,[],lg zV ⟨zM,zR,zR,zM,zR,zR,trivial⟩⟩
 | false =>
  rw[if_neg (by decide)]
  refine sR<|rN ?_;refine rC<|nQ<|aZ ?_;refine aw (by kernel_rfl) ?_;refine dC [0] [] ?_;refine dC [7] [] ?_;refine dC [8] [] ?_;refine dQ [9] [0] iM ?_;refine dC [3] [] ?_;refine dQ [11] [64] iB ?_;refine dQ [10,12] [6] (cX (κ:=Int) (ν:=Bool) (enc:=i6) (encV:=dK) (m:=lo) hb0 keyI Try.underlying116 gl rfl rfl rfl) ?_;refine am (by kernel_rfl)<|aL ?_;refine wG<|kS ?_;iterate 2 refine aZ ?_
  refine aw (by kernel_rfl) ?_;refine dC [0] [] ?_;refine dC [14] [] ?_;refine dC [15] [] ?_;refine dQ [16] [0] iM ?_;refine dC [3] [] ?_;refine dQ [18] [64] iB ?_;refine dQ [17,19] [] (aP aa rfl rfl rfl rfl rfl (by omega) (by omega)) ?_;refine dQ [20] [3] (bf (v :=.d (encL z)) aa rfl rfl ⟨rfl,z,hz,encL z,rfl,rfl⟩ rfl) ?_;refine dQ [21] [] iE ?_;refine dC [] [] ?_;refine am (by kernel_rfl)<|aL<|cm ?_
  refine wc_inv (fun s:Nat=>⟨[(23,.int .i64 s),(22,.int .i64 z.length),(21,.d (encL z)),(0,.ptr 0 []),(3,.ptr 64 [])],(64,some (.box 141 (.d (bR x))))::aB (wh l b e xs sp lo q),72,Try.f88.ntmps,64⟩) (fun s=>s≤z.length∧jS l (z.drop s) (x.taken.drop s)=jS l z x.taken) (fun s=>z.length-s) 0 [(64,some 64)] ⟨Nat.zero_le _,rfl⟩
   (lg zh ⟨zR,zM,zR,zR,zM,zR,zR,trivial⟩) ?_
  rintro s ⟨hs,hinv⟩
  refine cf ?_
  by_cases hsl:s<z.length
  ·have d1:decide ((s:Int)<(z.length:Int))=true:=dT (by omega)
   obtain⟨i,hi⟩:∃i,z[s]?=some i:=⟨_,List.getElem?_eq_getElem hsl⟩
   obtain⟨c,hc⟩:∃c,x.taken[s]?=some c:=⟨_,List.getElem?_eq_getElem (by omega)⟩
   have hi2:z[((s:Int)).toNat]?=some i:=by rw[Int.toNat_natCast]; exact hi
   have hc2:(mkS x.taken)[((s:Int)).toNat]?=some c:=by rw[Int.toNat_natCast]; exact pi hc
   obtain⟨o,hli,hi0⟩:=hmem i (List.mem_of_getElem? hi)
   have hop:opN l i.toNat=o:=by rw[opN,hli]; rfl
   rw[sd hi hc,hop]at hinv
   have hmu:=fT o
   cases hm:bL o with
   | false =>
    rw[hm]at hmu
    rw[hm,Bool.false_and,if_neg (by decide)]at hinv
    refine sR<|rC<|nQ ?_;refine wT<|zQ<|zS ?_;refine rC ?_;refine rQ (aC aa rfl rfl rfl rfl rfl (by omega) hi2) ?_;refine rQ iL ?_;refine zD<|nR ?_;refine zU ?_;refine rQ iM ?_;refine rC ?_;refine rQ (a9 aa rfl rfl rfl rfl rfl (by omega) hli) ?_;refine rQ iL ?_;refine rQ (aA hmu rfl rfl (ak ai) (.inl rfl) (fun _=>rfl)) ?_;refine rC ?_;iterate 5 refine rT ?_
    refine rQ iG ?_;refine zJ<|bg<|zC<|ao ?_;refine rQ iD ?_;refine rC<|aE ?_
    exact aU (s+1) [(64,some 64)] ⟨hsl,hinv⟩ (by omega) (lg zh ⟨zR,zM,zR,zR,zM,zR,zR,trivial⟩)
   | true =>
    rw[hm]at hmu
    cases hc0:decide ((c.toNat:Int)=0) with
    | true =>
     rw[hm,hc0,Bool.true_and,if_pos rfl]at hinv
     rw[←hinv]
     refine sR<|rC<|nQ ?_;refine wT<|zQ<|zS ?_;refine rC ?_;refine rQ (aC aa rfl rfl rfl rfl rfl (by omega) hi2) ?_;refine rQ iL ?_;refine zD<|nR ?_;refine zU ?_;refine rQ iM ?_;refine rC ?_;refine rQ (a9 aa rfl rfl rfl rfl rfl (by omega) hli) ?_;refine rQ iL ?_;refine rQ (aA hmu rfl rfl (ak ai) (.inl rfl) (fun _=>rfl)) ?_;refine rC ?_;refine rP ?_;refine rC ?_;refine rP ?_;refine rQ iB ?_;refine rP ?_;refine rC ?_;refine rP ?_;refine rQ (jF (v:=(c.toNat:Int)) aa rfl rfl rfl (by omega) hc2 rfl) ?_;refine rP ?_;refine rC ?_;refine rQ iU ?_;refine zI<|sR ?_;refine rC<|zT<|zB<|dR<|zB ?_
     exact⟨trivial,[],lg zV ⟨zM,zR,zR,zM,zR,zR,trivial⟩⟩
    | false =>
     rw[hm,hc0,Bool.true_and,if_neg (by decide)]at hinv
     refine sR<|rC<|nQ ?_;refine wT<|zQ<|zS ?_;refine rC ?_;refine rQ (aC aa rfl rfl rfl rfl rfl (by omega) hi2) ?_;refine rQ iL ?_;refine zD<|nR ?_;refine zU ?_;refine rQ iM ?_;refine rC ?_;refine rQ (a9 aa rfl rfl rfl rfl rfl (by omega) hli) ?_;refine rQ iL ?_;refine rQ (aA hmu rfl rfl (ak ai) (.inl rfl) (fun _=>rfl)) ?_;refine rC ?_;refine rP ?_;refine rC ?_;refine rP ?_;refine rQ iB ?_;refine rP ?_;refine rC ?_;refine rP ?_;refine rQ (jF (v:=(c.toNat:Int)) aa rfl rfl rfl (by omega) hc2 rfl) ?_;refine rP ?_;refine rC ?_;refine rQ iU ?_;refine zG<|bg<|zC<|ao ?_;refine rQ iD ?_;refine rC<|aE ?_
     exact aU (s+1) [(64,some 64)] ⟨hsl,hinv⟩ (by omega) (lg zh ⟨zR,zM,zR,zR,zM,zR,zR,trivial⟩)
  ·have d1:decide ((s:Int)<(z.length:Int))=false:=dF (by omega)
   rw[List.drop_eq_nil_of_le (by omega)]at hinv
   rw[←hinv]
   refine sR<|rC<|nQ ?_;refine wF<|zX<|sR ?_;refine rC<|zT ?_
   exact⟨trivial,[],lg zV ⟨zM,zR,zR,zM,zR,zR,trivial⟩⟩
end Go.Proofs.Ytkehohfgbblokaa
namespace Go.Eng
open Go.RowKit
theorem jQ:∀l:List AV,ca l l=true
 | []=>rfl
 | a::l=>by
  cases a <;> simp[ca,AV.isD,jQ l]
theorem b7.self {look:Nat→Option Row}:∀l:List AV,(∀v∈l,v.flat=true∧v.lt 64=true)→b7 look (rho []) l l
 | [],_=>rfl
 | a::l,h=>by
  refine⟨a,l,rfl,h a (by simp),?_,b7.self l fun v hv=>h v (by simp[hv])⟩
  cases a <;> first | exact⟨rfl,DLe.refl _⟩ | exact AVLe.of_eq (AV.ren_id _).symm
theorem jm:∀(avs:List AV) (k i:Nat) (v:AV),avs[i]?=some v→lk (dL k avs) (k+i)=some v
 | [],k,i,v,h=>by simp at h
 | x::avs,k,0,v,h=>by
  simp only[List.getElem?_cons_zero,Option.some.injEq]at h
  subst h
  simp[dL,aM]
 | x::avs,k,i+1,v,h=>by
  simp only[dL,aM]
  rw[if_neg (by omega),show k+(i+1)=k+1+i by omega]
  exact jm avs (k+1) i v (by simpa using h)
theorem FnIs.frame {P:Program} {f:FuncId} {avs:List AV} {h0 h1 rows rows':List (Nat×Row)} {res:AV} (lg:bE) (h:FnIs P f avs h0 res rows) (ha:∀v∈avs,v.flat=true∧v.lt 64=true)
  (hr:bT (fun r=>lk h1 r) [] h0) (hi:ep (rho []) (aX h0)=true)
  (hle:Le lg ⟨[(0,res.ren (dG [] 64))],bD [] 64 h0 rows++aB h1,72,1,64⟩ ⟨[(0,res)],aB rows',72,1,64⟩):FnIs P f avs h1 res rows':=by
 refine⟨h.1,fun C σ w vs hbs hB hw hσ hro hst=>?_⟩
 have hlen:vs.length=avs.length:=by simpa[inSt]using hst.sz
 have hrow:∀r,(inSt avs h1).row r=lk h1 r:=fun r=>dS h1 r
 have hr':bT (inSt avs h1).row [] h0:=by rw[show (inSt avs h1).row=fun r=>lk h1 r from funext hrow]; exact hr
 have hv:∀(i:Nat) (v:AV) (u:Value),avs[i]?=some v→vs[i]?=some u→RelV σ w ((inSt avs h1).X C.X0 σ) v u:=fun i v u h1 h2=>by
  have h3:=jm avs 0 i v h1
  rw[Nat.zero_add]at h3
  obtain⟨u',h4,h5⟩:=hst.env i v h3
  have:u=u':=by simpa[h2]using h4
  rw[this]; exact h5
 have hg:∀v∈avs,v.within (fun r=>r<64):=fun v hv=>by
  obtain⟨i,hi⟩:=List.mem_iff_getElem?.1 hv
  have h3:=jm avs 0 i v hi
  rw[Nat.zero_add]at h3
  exact hst.envG i v h3
 have hXlt:∀b,(inSt avs h1).X C.X0 σ b→b<w.heap.size:=by
  rintro b (hx | ⟨r,row,c,h3,h4⟩)
  ·have:=(hst.x0 b hx).1; have:=hst.size; omega
  ·exact hst.lt h3 h4
 have hent:=hst.enter (l:=[]) (us:=vs) (fun b=>(inSt avs h1).X C.X0 σ b∧¬bW (σ.via (rho [])) h0 b) hlen.symm hv hg (b7.self avs ha) hr' hi (fun b hb=>⟨hXlt b hb.1,hb.2⟩) (fun b hb=>hb.1) (.inl (jQ avs))
 refine (h.2 _ _ w vs rfl rfl rfl rfl rfl hent).mono ?_
 rintro e w' ⟨v,σ2,rfl,h2⟩
 obtain⟨σ',h5,h6,h7⟩:=hst.leave (n:=64) (fun r h1 _ h3=>Nat.not_lt.2 h1 h3) rfl hr' rfl (.inl fun b h1 h2=>⟨h1,h2⟩) h2
 have h8:=h5.spread (env':=[(0,res.ren (dG [] 64))]) (sz':=1) (a':=⟨#[v],[]⟩) (fun i x hx=>by
  simp only[aM]at hx
  split at hx
  ·rename_i q
   subst q
   simp only[Option.some.injEq]at hx
   subst hx
   exact⟨⟨v,rfl,h6⟩,h7⟩
  ·simp[lk]at hx) rfl trivial
 have h9:=h8.grow (G':=fun r=>r<72) (fun r hr=>by rcases hr with hr | hr <;> (try simp only at hr) <;> omega)
 have h10:aD C (fun r=>r<72) ⟨[(0,res.ren (dG [] 64))],bD [] 64 h0 rows++aB h1,72,1,64⟩ σ' w' ⟨#[v],[]⟩:= { h9 with }
 exact⟨v,_,rfl,h10.le hle⟩
end Go.Eng
namespace Go.Proofs.Ytkehohfgbblokaa
open Go.Eng Go.Plain
set_option maxHeartbeats 32000000
set_option maxRecDepth 20000
set_option maxRecDepth 20000
theorem xh (l:List HOp) (b:Int) (e:Nat) (km:KMap) (hL:l.length≤1048576) (he:e≤1048576) (h32:∀o∈l,mayB o b=true→o.op.kind=2→o.op.data.length=32):FnIs Try.prog 68 [.ptr 0 []] [(0,sBox l b e sNil sNil sNil),(1,fm []),(2,gi [(zBk,0)]),(4,cC []),(5,cC []),(6,dP []),(7,dP []),(8,kRow km)] (.tup .anil) (vD l b e (cP l b e) 64++[(8,kRow km)]):=
 FnIs.frame [(64,some 64)] (tJ l b e hL he h32) (by intro v hv; simp only[List.mem_singleton]at hv; subst hv; exact⟨rfl,rfl⟩) ⟨zH,zN,zN,zN,zN,zN,zN,trivial⟩ rfl
  (lg zV ⟨zR,zR,zM,zM,zM,zM,zM,zM,zM,trivial⟩)
end Go.Proofs.Ytkehohfgbblokaa
namespace Go.Proofs.Ytkehohfgbblokaa
open Go.Eng Go.Plain
set_option maxHeartbeats 32000000
set_option maxRecDepth 20000
attribute [local irreducible] WC RegS RegD SeqQ BlkQ ScoQ RegK CutK Sat SatN FnIs LoopQ aj OpIs
abbrev gp (l:List HOp) (b e:Int) (xs:List (List Int)) (sp:List (List aI)) (n:Nat) (pl:IMap) (vs:BMap):List (Nat×Row):=[(0,sBox l b e (.own 3 0 xs.length 1 none) (.own 9 0 n 4 none) (.own 10 0 sp.length 1 none)),(1,fm pl),(2,gi vs)]
theorem yJ (l:List HOp) (b e:Int) (xs:List (List Int)) (sp:List (List aI)) (n:Nat) (pl:IMap) (vs:BMap) (x:LSt) (o:HOp) (p:Nat) (hk:o.op.kind=3) (hp:(getA pl o.op.index).getD 0=(p:Int)) (hpl:p≤1048576):FnIs Try.prog 87 [.ptr 0 [],.d (bR x),.d (bh o)] (gp l b e xs sp n pl vs) (.tup (.acons (.d (bR { x with durable:=x.array })) (.acons (.bool true) .anil))) (gp l b e xs sp n pl vs):=by
 have c3:decide (o.op.kind=3)=true:=dT hk
 have hw:IntKind.i64.wrap (2*(p:Int))=((2*p:Nat):Int):=by rw[bp (by omega) (by omega)]; omega
 refine aG aa Try.func87 rfl rfl rfl ?_;refine sR ?_;iterate 3 refine rN ?_
 refine rC<|nQ ?_;refine aw (by kernel_rfl) ?_;refine dC [0] [] ?_;refine dC [11] [] ?_;refine dC [12] [] ?_;refine dQ [13] [0] iM ?_;refine dC [5] [] ?_;refine dC [15] [] ?_;refine dQ [16] [72] iB ?_;refine dQ [14,17] [1] (cX (κ:=Int) (ν:=Int) (enc:=i6) (encV:=i6) (m:=pl) hp keyI Try.underlying113 eO rfl rfl rfl) ?_;refine dQ [18] [] (ib (m:=((2*p:Nat):Int)) aa rfl rfl hw) ?_;refine dC [19] [] ?_;refine am (by kernel_rfl)<|aL<|qR ?_;refine zD ?_;refine rQ iB<|zP<|sR ?_;refine zD ?_;refine zI<|ao ?_;refine rC ?_;refine rQ iB ?_;refine rC ?_;refine rX<|aE<|zC<|sR ?_;refine rQ iM ?_;refine rW ?_;refine rC<|zT ?_
 exact⟨trivial,_,rfl,[],lg zV ⟨zR,zM,zM,trivial⟩⟩
theorem yH (l:List HOp) (b e:Int) (xs:List (List Int)) (sp:List (List aI)) (n:Nat) (pl:IMap) (vs:BMap) (x:LSt) (o:HOp) (p:Nat) (hk:o.op.kind=1) (hm:bL o=false) (hp:(getA pl o.op.index).getD 0=(p:Int)) (hpl:p≤1048576):FnIs Try.prog 87 [.ptr 0 [],.d (bR x),.d (bh o)] (gp l b e xs sp n pl vs) (.tup (.acons (.d (bR x)) (.acons (.bool true) .anil))) (gp l b e xs sp n pl vs):=by
 have c1:decide (o.op.kind=1)=true:=dT hk
 have c2:decide (o.op.kind=2)=false:=dF (by omega)
 have c3:decide (o.op.kind=3)=false:=dF (by omega)
 have hw:IntKind.i64.wrap (2*(p:Int))=((2*p:Nat):Int):=by rw[bp (by omega) (by omega)]; omega
 have hmu:=fT o
 rw[hm]at hmu
 refine aG aa Try.func87 rfl rfl rfl ?_;refine sR ?_;iterate 3 refine rN ?_
 refine rC<|nQ ?_;refine aw (by kernel_rfl) ?_;refine dC [0] [] ?_;refine dC [11] [] ?_;refine dC [12] [] ?_;refine dQ [13] [0] iM ?_;refine dC [5] [] ?_;refine dC [15] [] ?_;refine dQ [16] [72] iB ?_;refine dQ [14,17] [1] (cX (κ:=Int) (ν:=Int) (enc:=i6) (encV:=i6) (m:=pl) hp keyI Try.underlying113 eO rfl rfl rfl) ?_;refine dQ [18] [] (ib (m:=((2*p:Nat):Int)) aa rfl rfl hw) ?_;refine dC [19] [] ?_;refine am (by kernel_rfl)<|aL<|qR ?_;refine zD ?_;refine rQ iB<|zP<|sR ?_;refine zD ?_;refine zG<|sR ?_;refine zD ?_;refine zG<|sR ?_;refine zD ?_;refine zI<|aZ ?_;refine aw (by kernel_rfl) ?_;refine dC [0] [] ?_;refine dC [60] [] ?_;refine dC [61] [] ?_;refine dQ [62] [0] iM ?_;refine dC [5] [] ?_;refine dQ [64] [72] iB ?_;refine dQ [63,65] [2] (fx (κ:=List UInt8) (ν:=Int) (enc:=bd) (encV:=i6) (m:=vs) (k:=o.value) 0 keyB Try.underlying114 eO rfl rfl rfl) ?_;refine dC [66] [] ?_;refine am (by kernel_rfl)<|aL<|aZ ?_;refine aw (by kernel_rfl) ?_;refine dQ [4] [64] iM ?_;refine dQ [5] [72] iM ?_;refine dQ [68] [] (aA hmu rfl rfl (ak ai) (.inl rfl) (fun _=>rfl)) ?_;refine dC [69] [] ?_;refine dC [70] [] ?_;refine ae [71,4] rfl rfl rfl rfl ?_;refine ae [71,72] rfl rfl rfl rfl ?_;iterate 2 refine ae [71,8] rfl rfl rfl rfl ?_
 refine ae [71,75] rfl rfl rfl rfl ?_;refine ae [71,73,74,76] rfl rfl rfl rfl ?_;refine ae [71,10] rfl rfl rfl rfl ?_;refine ae [71,78] rfl rfl rfl rfl ?_;refine ae [71,79] rfl rfl rfl rfl ?_;refine ae [71,10] rfl rfl rfl rfl ?_;refine ae [71,81] rfl rfl rfl rfl ?_;refine ae [71,80,82] rfl rfl rfl rfl ?_;refine ae [71,83] rfl rfl rfl rfl ?_;refine ae [71,77,84] rfl rfl rfl rfl ?_;refine dQ [71,85] [] iU ?_;refine br [6,67] [80] (aK aa rfl rfl rfl ⟨_,⟨rfl,rfl,rfl⟩,rfl⟩ rfl) ?_;refine dC [86] [] ?_;refine am (by kernel_rfl)<|aL<|eD<|zB ?_
 exact⟨trivial,_,rfl,[],lg zV ⟨zR,zM,zM,trivial⟩⟩
def de (n:Nat):List UInt8:=[UInt8.ofNat (n/256),UInt8.ofNat n]
theorem jt (n:Nat):IntKind.u8.wrap (n:Int)=((UInt8.ofNat n).toNat:Int):=by
 rw[show IntKind.u8.wrap (n:Int)=((n % 256:Nat):Int) by simp[IntKind.wrap,IntKind.signed,IntKind.bits]]
 simp
theorem yG (l:List HOp) (b e:Int) (xs:List (List Int)) (sp:List (List aI)) (n:Nat) (pl:IMap) (vs:BMap) (x:LSt) (o:HOp) (p nv:Nat) (hk:o.op.kind=1) (hm:bL o=true) (hp:(getA pl o.op.index).getD 0=(p:Int)) (hpl:p≤1048576) (hv:(getA vs o.value).getD 0=(nv:Int)) (ha:2*p+2≤x.array.length):FnIs Try.prog 87 [.ptr 0 [],.d (bR x),.d (bh o)] (gp l b e xs sp n pl vs) (.tup (.acons (.d (bR x)) (.acons (.bool (decide ((x.array.drop (2*p)).take 2=de nv))) .anil))) (gp l b e xs sp n pl vs):=by
 have c1:decide (o.op.kind=1)=true:=dT hk
 have c2:decide (o.op.kind=2)=false:=dF (by omega)
 have c3:decide (o.op.kind=3)=false:=dF (by omega)
 have hw:IntKind.i64.wrap (2*(p:Int))=((2*p:Nat):Int):=by rw[bp (by omega) (by omega)]; omega
 have hw2:IntKind.i64.wrap (((2*p:Nat):Int)+2)=((2*p+2:Nat):Int):=by rw[bp (by omega) (by omega)]; omega
 have hmu:=fT o
 rw[hm]at hmu
 refine aG aa Try.func87 rfl rfl rfl ?_;refine sR ?_;iterate 3 refine rN ?_
 refine rC<|nQ ?_;refine aw (by kernel_rfl) ?_;refine dC [0] [] ?_;refine dC [11] [] ?_;refine dC [12] [] ?_;refine dQ [13] [0] iM ?_;refine dC [5] [] ?_;refine dC [15] [] ?_;refine dQ [16] [72] iB ?_;refine dQ [14,17] [1] (cX (κ:=Int) (ν:=Int) (enc:=i6) (encV:=i6) (m:=pl) hp keyI Try.underlying113 eO rfl rfl rfl) ?_;refine dQ [18] [] (ib (m:=((2*p:Nat):Int)) aa rfl rfl hw) ?_;refine dC [19] [] ?_;refine am (by kernel_rfl)<|aL<|qR ?_;refine zD ?_;refine rQ iB<|zP<|sR ?_;refine zD ?_;refine zG<|sR ?_;refine zD ?_;refine zG<|sR ?_;refine zD ?_;refine zI<|aZ ?_;refine aw (by kernel_rfl) ?_;refine dC [0] [] ?_;refine dC [60] [] ?_;refine dC [61] [] ?_;refine dQ [62] [0] iM ?_;refine dC [5] [] ?_;refine dQ [64] [72] iB ?_;refine dQ [63,65] [2] (cX (κ:=List UInt8) (ν:=Int) (enc:=bd) (encV:=i6) (m:=vs) (k:=o.value) hv keyB Try.underlying114 eO rfl rfl rfl) ?_;refine dC [66] [] ?_;refine am (by kernel_rfl)<|aL<|aZ ?_;refine aw (by kernel_rfl) ?_;refine dQ [4] [64] iM ?_;refine dQ [5] [72] iM ?_;refine dQ [68] [] (aA hmu rfl rfl (ak ai) (.inl rfl) (fun _=>rfl)) ?_;refine dC [69] [] ?_;refine dC [70] [] ?_;refine ab [71,4] [] rfl rfl rfl rfl (ay aa (fun K hk=>hk)) ?_;refine ab [71,72] [64] rfl rfl rfl rfl (aJ aa rfl rfl ⟨_,rfl,rfl⟩ rfl) ?_;iterate 2 refine ab [71,8] [] rfl rfl rfl rfl (ay aa (fun K hk=>hk)) ?_
 refine ab [71,75] [] rfl rfl rfl rfl (ce (m:=((2*p+2:Nat):Int)) aa rfl rfl hw2) ?_;refine ab [71,73,74,76] [] rfl rfl rfl rfl (wR (lo:=2*p) (hi:=2*p+2) (m:=(x.array.drop (2*p)).take 2) aa rfl rfl rfl rfl ha (by omega) (by congr 1; omega)) ?_;refine ab [71,10] [] rfl rfl rfl rfl (ay aa (fun K hk=>hk)) ?_;refine ab [71,78] [] rfl rfl rfl rfl (jw (a:=nv) (s:=8) (m:=nv/256) rfl rfl (by decide) rfl) ?_;refine ab [71,79] [] rfl rfl rfl rfl (dV aa rfl rfl rfl (jt _)) ?_;refine ab [71,10] [] rfl rfl rfl rfl (ay aa (fun K hk=>hk)) ?_;refine ab [71,81] [] rfl rfl rfl rfl (dV aa rfl rfl rfl (jt _)) ?_;refine ab [71,80,82] [] rfl rfl rfl rfl (aj.frozen (aH (s:=1) aa rfl rfl rfl rfl rfl rfl rfl rfl) (Frz.lits2 (enc:=cD) ((UInt8.ofNat (nv/256)).toNat:Int) ((UInt8.ofNat nv).toNat:Int) rfl rfl rfl rfl)) ?_;refine ab [71,83] [] rfl rfl rfl rfl (gg (l:=de nv) aa rfl rfl rfl rfl) ?_;refine ab [71,77,84] [] rfl rfl rfl rfl (Bv aa rfl rfl rfl) ?_;refine dQ [71,85] [] iG ?_;refine br [6,67] [80] (aK aa rfl rfl rfl ⟨_,⟨rfl,rfl,rfl⟩,rfl⟩ rfl) ?_;refine dC [86] [] ?_;refine am (by kernel_rfl)<|aL<|eD<|zB ?_
 exact⟨trivial,_,rfl,[],lg zV ⟨zR,zM,zM,trivial⟩⟩
theorem yF (l:List HOp) (b e:Int) (xs:List (List Int)) (sp:List (List aI)) (n:Nat) (pl:IMap) (vs:BMap) (x:LSt) (o:HOp) (p nv:Nat) (hk:o.op.kind=2) (hd:o.op.data.length=32) (hal:x.array.length≤1048576000) (hp:(getA pl o.op.index).getD 0=(p:Int)) (hpl:p≤1048576) (hv:(getA vs o.op.data).getD 0=(nv:Int)) (ha:2*p+2≤x.array.length):FnIs Try.prog 87 [.ptr 0 [],.d (bR x),.d (bh o)] (gp l b e xs sp n pl vs) (.tup (.acons (.d (bR { x with array:=x.array.take (2*p)++de nv++x.array.drop (2*p+2) })) (.acons (.bool true) .anil))) (gp l b e xs sp n pl vs):=by
 have c2:decide (o.op.kind=2)=true:=dT hk
 have c3:decide (o.op.kind=3)=false:=dF (by omega)
 have hw:IntKind.i64.wrap (2*(p:Int))=((2*p:Nat):Int):=by rw[bp (by omega) (by omega)]; omega
 have hw2:IntKind.i64.wrap (((2*p:Nat):Int)+2)=((2*p+2:Nat):Int):=by rw[bp (by omega) (by omega)]; omega
 refine aG aa Try.func87 rfl rfl rfl ?_;refine sR ?_;iterate 3 refine rN ?_
 refine rC<|nQ ?_;refine aw (by kernel_rfl) ?_;refine dC [0] [] ?_;refine dC [11] [] ?_;refine dC [12] [] ?_;refine dQ [13] [0] iM ?_;refine dC [5] [] ?_;refine dC [15] [] ?_;refine dQ [16] [72] iB ?_;refine dQ [14,17] [1] (cX (κ:=Int) (ν:=Int) (enc:=i6) (encV:=i6) (m:=pl) hp keyI Try.underlying113 eO rfl rfl rfl) ?_;refine dQ [18] [] (ib (m:=((2*p:Nat):Int)) aa rfl rfl hw) ?_;refine dC [19] [] ?_;refine am (by kernel_rfl)<|aL<|qR ?_;refine zD ?_;refine rQ iB<|zP<|sR ?_;refine zD ?_;refine zG<|sR ?_;refine zD ?_;refine zI<|aZ ?_;refine aw (by kernel_rfl) ?_;refine dC [0] [] ?_;refine dC [30] [] ?_;refine dC [31] [] ?_;refine dQ [32] [0] iM ?_;refine dC [5] [] ?_;refine dC [34] [] ?_;refine dQ [35] [72] iB ?_;refine dQ [36] [] (aA (fJ o.op.data hd) rfl rfl (ak ai) (.inl rfl) (fun _=>rfl)) ?_;refine dQ [33,37] [2] (cX (κ:=List UInt8) (ν:=Int) (enc:=bd) (encV:=i6) (m:=vs) (k:=o.op.data) hv keyB Try.underlying114 eO rfl rfl rfl) ?_;refine dC [38] [] ?_;refine am (by kernel_rfl)<|aL ?_;refine aw (by kernel_rfl) ?_;refine dC [4] [] ?_;refine dQ [39] [64] iB ?_;refine dC [8] [] ?_;refine dQ [40,41] [] (uO (hi:=2*p) (m:=x.array.take (2*p)) aa rfl rfl rfl (by omega) rfl) ?_;refine dC [9] [] ?_;refine dQ [43] [] (jw (a:=nv) (s:=8) (m:=nv/256) rfl rfl (by decide) rfl) ?_;refine dQ [44] [] (dV aa rfl rfl rfl (jt _)) ?_;refine dC [9] [] ?_;refine dQ [46] [] (dV aa rfl rfl rfl (jt _)) ?_;refine dQ [45,47] [] (aj.frozen (aH (s:=1) aa rfl rfl rfl rfl rfl rfl rfl rfl) (Frz.lits2 (enc:=cD) ((UInt8.ofNat (nv/256)).toNat:Int) ((UInt8.ofNat nv).toNat:Int) rfl rfl rfl rfl)) ?_;refine dQ [48] [] (gg (l:=de nv) aa rfl rfl rfl rfl) ?_;refine dQ [42,49] [] (ma (m:=x.array.take (2*p)++de nv) rfl rfl (by simp[de]; omega) rfl) ?_;refine dC [4] [] ?_;refine dQ [51] [64] iB ?_;refine dC [8] [] ?_;refine dQ [53] [] (ce (m:=((2*p+2:Nat):Int)) aa rfl rfl hw2) ?_;refine dQ [52,54] [] (pO (lo:=2*p+2) (m:=x.array.drop (2*p+2)) aa rfl rfl rfl ha rfl) ?_;refine dQ [50,55] [] (ma (m:=x.array.take (2*p)++de nv++x.array.drop (2*p+2)) rfl rfl (by simp[de]; omega) rfl) ?_;refine dC [4] [] ?_;refine br [57,56] [64] (aK aa rfl rfl rfl ⟨_,⟨_,⟨_,⟨rfl,rfl,rfl⟩,rfl⟩,rfl⟩,rfl⟩ rfl) ?_;refine am (by kernel_rfl)<|zC<|sR ?_;refine rQ iM ?_;refine rW ?_;refine rC<|zT ?_
 exact⟨trivial,_,rfl,[],lg zV ⟨zR,zM,zM,trivial⟩⟩
end Go.Proofs.Ytkehohfgbblokaa
namespace Go.Proofs.Ytkehohfgbblokaa
open Go.Eng Go.Plain
set_option maxHeartbeats 32000000
set_option maxRecDepth 20000
def plN (pl:IMap) (i:Int):Nat:=((getA pl i).getD 0).toNat
def valN (vs:BMap) (v:List UInt8):Nat:=((getA vs v).getD 0).toNat
def hapS (p:Prep) (x:LSt) (o:HOp):LSt×Bool :=
 if o.op.kind=3 then ({ x with durable:=x.array },true)
 else if o.op.kind=2 then ({ x with array:=x.array.take (2*plN p.pl o.op.index)++de (valN p.vs o.op.data)++x.array.drop (2*plN p.pl o.op.index+2) },true)
 else if bL o=true then (x,decide ((x.array.drop (2*plN p.pl o.op.index)).take 2=de (valN p.vs o.value)))
 else (x,true)
def tkB (t:List UInt8) (j:Int):Bool:=decide (0<(((t[j.toNat]?).getD 0).toNat:Int))
def msB (t:List UInt8) (j:Int):Bool:=decide ((((t[j.toNat]?).getD 0).toNat:Int)=0)
def jO (p:Prep) (x:LSt) (k:Nat) (i:Int):Bool:=(getA p.st i).getD false||(tkB x.taken k||(((getA p.af i).getD []).any (tkB x.taken)||((getA p.ah i).getD []).any (msB x.taken)))
abbrev QS:=KMap×List LSt
def gz (t:List UInt8) (k:Nat):List UInt8:=t.take k++[1]++t.drop (k+1)
def opS (p:Prep) (l:List HOp) (x:LSt) (k:Nat) (i:Int) (a:QS×List aI):QS×List aI :=
 if jO p x k i=true then a
 else if (hapS p x (opN l i.toNat)).2=true then ((addS a.1 { (hapS p x (opN l i.toNat)).1 with taken:=gz x.taken k }).1,a.2++[⟨i,(addS a.1 { (hapS p x (opN l i.toNat)).1 with taken:=gz x.taken k }).2⟩])
 else a
def c5 (p:Prep) (l:List HOp) (x:LSt):List Int→Nat→QS×List aI→QS×List aI
 | [],_,a=>a
 | i::z,k,a=>c5 p l x z (k+1) (opS p l x k i a)
def zOf (p:Prep) (k:Int):List Int:=(p.ops[k.toNat]?).getD []
def mK (p:Prep) (l:List HOp) (e:Nat) (x:LSt) (a:QS×List aI):QS×List aI :=
 if decide (x.era+1<(e:Int))=true then
  if iJ l p.lo (zOf p x.era) x=true then ((addS a.1 ⟨x.era+1,cz (zOf p (x.era+1)).length,x.durable,x.durable⟩).1,a.2++[⟨-1,(addS a.1 ⟨x.era+1,cz (zOf p (x.era+1)).length,x.durable,x.durable⟩).2⟩])
  else a
 else a
def cu (p:Prep) (l:List HOp) (e:Nat) (x:LSt) (q:QS):QS×List aI:=mK p l e x (c5 p l x (zOf p x.era) 0 (q,[]))
structure OpOk (p:Prep) (o:HOp):Prop where
 kind:o.op.kind=1∨o.op.kind=2∨o.op.kind=3
 pl:o.op.kind≠3→plN p.pl o.op.index<p.pl.length
 data:o.op.kind=2→o.op.data.length=32
structure POk (l:List HOp) (e:Nat) (p:Prep):Prop where
 len:p.ops.length=e
 pln:p.pl.length≤8192
 pl0:∀k,0≤(getA p.pl k).getD 0∧(getA p.pl k).getD 0≤8192
 vs0:∀k,0≤(getA p.vs k).getD 0
 zl:∀z∈p.ops,z.length≤8192
 row:∀z∈p.ops,∀i∈z,0≤i∧∃o,l[i.toNat]?=some o∧OpOk p o
 af:∀z∈p.ops,∀i∈z,∀j∈(getA p.af i).getD [],0≤j∧j<z.length
 ah:∀z∈p.ops,∀i∈z,∀j∈(getA p.ah i).getD [],0≤j∧j<z.length
 afl:∀z∈p.ops,∀i∈z,((getA p.af i).getD []).length≤8192
 ahl:∀z∈p.ops,∀i∈z,((getA p.ah i).getD []).length≤8192
structure SOk (p:Prep) (e:Nat) (x:LSt):Prop where
 era:0≤x.era∧x.era<e
 tk:x.taken.length=(zOf p x.era).length
 ar:x.array.length=2*p.pl.length
 du:x.durable.length=2*p.pl.length
theorem POk.z {l:List HOp} {e:Nat} {p:Prep} (P:POk l e p) {k:Nat} (hk:k<e):p.ops[k]?=some (zOf p k):=by
 have h:k<p.ops.length:=by rw[P.len]; exact hk
 rw[zOf,Int.toNat_natCast,List.getElem?_eq_getElem h]; rfl
theorem POk.zm {l:List HOp} {e:Nat} {p:Prep} (P:POk l e p) {k:Nat} (hk:k<e):zOf p k∈p.ops:=List.mem_of_getElem? (P.z hk)
theorem sY {l:List HOp} {e:Nat} {p:Prep} {x:LSt} {o:HOp} (P:POk l e p) (S:SOk p e x) (O:OpOk p o):SOk p e (hapS p x o).1:=by
 unfold hapS
 by_cases h3:o.op.kind=3
 ·rw[if_pos h3]; exact⟨S.era,S.tk,S.ar,S.ar⟩
 ·rw[if_neg h3]
  have hp:=O.pl h3
  by_cases h2:o.op.kind=2
  ·rw[if_pos h2]
   refine⟨S.era,S.tk,?_,S.du⟩
   have:=S.ar
   simp only[List.length_append,List.length_take,List.length_drop,de,List.length_cons,List.length_nil]
   omega
  ·rw[if_neg h2]; split <;> exact S
theorem nF {t:List UInt8} {k:Nat} (h:k<t.length):(gz t k).length=t.length:=by
 simp[gz]; omega
theorem q6 {q:QS} {x y:LSt} (h:y∈(addS q x).1.2):y=x∨y∈q.2:=by
 unfold addS at h
 split at h
 ·exact .inr h
 ·rcases List.mem_append.1 h with h | h
  ·exact .inr h
  ·exact .inl (List.mem_singleton.1 h)
theorem kT (q:QS) (x:LSt):q.2.length≤(addS q x).1.2.length∧(addS q x).1.2.length≤q.2.length+1:=by
 unfold addS
 split <;> simp
theorem mb {p:Prep} {e:Nat} {q:QS} {x:LSt} (h:∀y∈q.2,SOk p e y) (hx:SOk p e x):∀y∈(addS q x).1.2,SOk p e y:=fun y hy=>by
 rcases q6 hy with rfl | hy
 ·exact hx
 ·exact h y hy
theorem xk (p:Prep) (l:List HOp) (x:LSt) (k:Nat) (i:Int) (a:QS×List aI):a.1.2.length≤(opS p l x k i a).1.2.length∧(opS p l x k i a).1.2.length≤a.1.2.length+1:=by
 unfold opS
 split
 ·omega
 ·split
  ·exact kT _ _
  ·omega
theorem n7 (p:Prep) (l:List HOp) (x:LSt):∀(z:List Int) (k:Nat) (a:QS×List aI),a.1.2.length≤(c5 p l x z k a).1.2.length∧(c5 p l x z k a).1.2.length≤a.1.2.length+z.length
 | [],_,a=>by simp[c5]
 | i::z,k,a=>by
  have h1:=n7 p l x z (k+1) (opS p l x k i a)
  have h2:=xk p l x k i a
  unfold c5
  rw[List.length_cons]
  omega
theorem n6 (p:Prep) (l:List HOp) (e:Nat) (x:LSt) (q:QS):q.2.length≤(cu p l e x q).1.2.length∧(cu p l e x q).1.2.length≤q.2.length+(zOf p x.era).length+1:=by
 have h1:=n7 p l x (zOf p x.era) 0 (q,[])
 unfold cu mK
 simp only at h1
 split
 ·split
  ·have h2:=kT (c5 p l x (zOf p x.era) 0 (q,[])).1 ⟨x.era+1,cz (zOf p (x.era+1)).length,x.durable,x.durable⟩
   simp only
   omega
  ·omega
 ·omega
theorem yv {l:List HOp} {e:Nat} {p:Prep} {x:LSt} {k:Nat} {i:Int} {a:QS×List aI} (P:POk l e p) (S:SOk p e x) (hi:(zOf p x.era)[k]?=some i) (h:∀y∈a.1.2,SOk p e y):∀y∈(opS p l x k i a).1.2,SOk p e y:=by
 obtain⟨e0,e1⟩:=S.era
 obtain⟨n,hn⟩:∃n:Nat,x.era=n:=⟨x.era.toNat,by omega⟩
 have hm:=P.zm (k:=n) (by omega)
 rw[hn]at hi
 obtain⟨i0,o,ho,hO⟩:=P.row _ hm i (List.mem_of_getElem? hi)
 have hop:opN l i.toNat=o:=by rw[opN,ho]; rfl
 have hkl:=(List.getElem?_eq_some_iff.1 hi).1
 unfold opS
 split
 ·exact h
 ·split
  ·refine mb h ?_
   rw[hop]
   have hS:=sY P S hO
   have htk:k<x.taken.length:=by rw[S.tk,hn]; exact hkl
   have hera:(hapS p x o).1.era=x.era:=by unfold hapS; split <;> (try split) <;> (try split) <;> rfl
   exact⟨hS.era,by simp only; rw[nF htk,S.tk,hera],hS.ar,hS.du⟩
  ·exact h
theorem qj {l:List HOp} {e:Nat} {p:Prep} {x:LSt} (P:POk l e p) (S:SOk p e x):∀(z:List Int) (k:Nat) (a:QS×List aI),(zOf p x.era).drop k=z→(∀y∈a.1.2,SOk p e y)→∀y∈(c5 p l x z k a).1.2,SOk p e y
 | [],_,a,_,h=>h
 | i::z,k,a,hz,h=>by
  have hi:(zOf p x.era)[k]?=some i:=by
   have:=congrArg (fun l=>l[0]?) hz
   simpa using this
  refine qj P S z (k+1) _ ?_ (yv P S hi h)
  have:=congrArg List.tail hz
  simpa using this
theorem qi {l:List HOp} {e:Nat} {p:Prep} {x:LSt} {q:QS} (P:POk l e p) (S:SOk p e x) (h:∀y∈q.2,SOk p e y):∀y∈(cu p l e x q).1.2,SOk p e y:=by
 have h1:=qj P S (zOf p x.era) 0 (q,[]) (by simp) h
 unfold cu mK
 obtain⟨e0,e1⟩:=S.era
 split
 ·rename_i hd
  have hd:=of_decide_eq_true hd
  split
  ·exact mb h1 ⟨⟨by simp only; omega,hd⟩,by simp[cz],S.du,S.du⟩
  ·exact h1
 ·exact h1
def fw (p:Prep) (l:List HOp) (e:Nat) (fuel:Int):Nat→Nat→QS→List (List aI)→Option (QS×List (List aI))
 | 0,_,_,_=>none
 | n+1,at_,q,sp=>match q.2[at_]? with
  | none=>if fuel<(q.2.length:Int) then none else some (q,sp)
  | some x=>if fuel<(q.2.length:Int) then none else fw p l e fuel n (at_+1) (cu p l e x q).1 (sp++[(cu p l e x q).2])
def c6 (p:Prep):LSt:=⟨0,cz (zOf p 0).length,cz (2*p.pl.length),cz (2*p.pl.length)⟩
def nI (p:Prep) (l:List HOp) (e:Nat) (fuel:Int):Option (QS×List (List aI)):=fw p l e fuel (fuel.toNat+2) 0 (addS ([],[]) (c6 p)).1 []
abbrev bZ (l:List HOp) (b e:Int) (p:Prep) (sp:List (List aI)) (q:QS) (r:Nat):List (Nat×Row):=[(0,sBox l b e (.own 3 0 p.ops.length 1 none) (.own r 0 q.2.length 4 none) (.own 10 0 sp.length 1 none)),(1,fm p.pl),(2,gi p.vs),(3,e7 p.ops),(4,cC p.af),(5,cC p.ah),(6,dP p.lo),(7,dP p.st),(8,kRow q.1),(r,uQ q.2),(10,uZ sp)]
end Go.Proofs.Ytkehohfgbblokaa
namespace Go.Proofs.Ytkehohfgbblokaa
open Go.Eng Go.Plain
set_option maxHeartbeats 32000000
set_option maxRecDepth 20000
set_option maxRecDepth 20000
theorem jG {l:List HOp} {b e:Int} {p:Prep} {sp:List (List aI)} {q:QS} {x y:LSt} {o:HOp} {c:Bool} (h:FnIs Try.prog 87 [.ptr 0 [],.d (bR x),.d (bh o)] (gp l b e p.ops sp q.2.length p.pl p.vs) (.tup (.acons (.d (bR y)) (.acons (.bool c) .anil))) (gp l b e p.ops sp q.2.length p.pl p.vs)) :
  FnIs Try.prog 87 [.ptr 0 [],.d (bR x),.d (bh o)] (bZ l b e p sp q 9) (.tup (.acons (.d (bR y)) (.acons (.bool c) .anil))) (bZ l b e p sp q 9):=
 FnIs.frame [] h (by intro v hv; simp only[List.mem_cons,List.not_mem_nil,or_false]at hv; rcases hv with rfl | rfl | rfl <;> exact⟨rfl,rfl⟩) ⟨zH,zN,zN,trivial⟩ rfl
  (lg zV ⟨zR,zM,zM,zR,zM,zM,zM,zM,zM,zR,zR,trivial⟩)
theorem yI (l:List HOp) (b:Int) (e:Nat) (p:Prep) (sp:List (List aI)) (q:QS) (x:LSt) (o:HOp) (P:POk l e p) (S:SOk p e x) (O:OpOk p o):FnIs Try.prog 87 [.ptr 0 [],.d (bR x),.d (bh o)] (bZ l b e p sp q 9) (.tup (.acons (.d (bR (hapS p x o).1)) (.acons (.bool (hapS p x o).2) .anil))) (bZ l b e p sp q 9):=by
 obtain⟨p0,p1⟩:=P.pl0 o.op.index
 have hp:(getA p.pl o.op.index).getD 0=((plN p.pl o.op.index:Nat):Int):=by rw[plN]; omega
 have hpl:plN p.pl o.op.index≤1048576:=by rw[plN]; omega
 have hal:x.array.length≤1048576000:=by have:=S.ar; have:=P.pln; omega
 have hval:∀v,(getA p.vs v).getD 0=((valN p.vs v:Nat):Int):=fun v=>by have:=P.vs0 v; rw[valN]; omega
 unfold hapS
 by_cases h3:o.op.kind=3
 ·rw[if_pos h3]
  exact jG (yJ l b e p.ops sp q.2.length p.pl p.vs x o _ h3 hp hpl)
 ·rw[if_neg h3]
  have ha:2*plN p.pl o.op.index+2≤x.array.length:=by have:=O.pl h3; have:=S.ar; omega
  by_cases h2:o.op.kind=2
  ·rw[if_pos h2]
   exact jG (yF l b e p.ops sp q.2.length p.pl p.vs x o _ _ h2 (O.data h2) hal hp hpl (hval _) ha)
  ·rw[if_neg h2]
   have h1:o.op.kind=1:=by rcases O.kind with h | h | h <;> first | exact h | exact absurd h h2 | exact absurd h h3
   cases hm:bL o with
   | true =>
    rw[if_pos rfl]
    exact jG (yG l b e p.ops sp q.2.length p.pl p.vs x o _ _ h1 hm hp hpl (hval _) ha)
   | false =>
    rw[if_neg (by decide)]
    exact jG (yH l b e p.ops sp q.2.length p.pl p.vs x o _ h1 hm hp hpl)
theorem pD (l:List HOp) (b e:Int) (p:Prep) (sp:List (List aI)) (q:QS) (x:LSt) (hlen:q.2.length+1≤1048576):FnIs Try.prog 69 [.ptr 0 [],.d (bR x)] (bZ l b e p sp q 9) (.int .i64 (addS q x).2) (bZ l b e p sp (addS q x).1 64):=
 FnIs.frame [(64,some 64)] (y9 l b e p.ops sp q x hlen) (by intro v hv; simp only[List.mem_cons,List.not_mem_nil,or_false]at hv; rcases hv with rfl | rfl <;> exact⟨rfl,rfl⟩) ⟨zH,zH,zN,zH,zH,trivial⟩ rfl
  (lg zV ⟨zR,zM,zM,zR,zM,zM,zM,zM,zM,zR,zR,trivial⟩)
theorem qg (l:List HOp) (b:Int) (e:Nat) (p:Prep) (sp:List (List aI)) (q:QS) (P:POk l e p) (k:Nat) (hk:k<e):FnIs Try.prog 70 [.ptr 0 [],.int .i64 k] (bZ l b e p sp q 9) (.d (strD (cz (zOf p k).length))) (bZ l b e p sp q 9):=
 FnIs.frame [] (xm l b e p.ops sp q k (zOf p k) (P.z hk) (by have:=P.zl _ (P.zm hk); omega)) (by intro v hv; simp only[List.mem_cons,List.not_mem_nil,or_false]at hv; rcases hv with rfl | rfl <;> exact⟨rfl,rfl⟩) ⟨zH,zH,zN,zH,zH,trivial⟩ rfl
  (lg zV ⟨zR,zM,zM,zR,zM,zM,zM,zM,zM,zR,zR,trivial⟩)
theorem nb (l:List HOp) (b:Int) (e:Nat) (p:Prep) (sp:List (List aI)) (q:QS) (x:LSt) (P:POk l e p) (S:SOk p e x):FnIs Try.prog 88 [.ptr 0 [],.d (bR x)] (bZ l b e p sp q 9) (.bool (iJ l p.lo (zOf p x.era) x)) (bZ l b e p sp q 9):=by
 obtain⟨e0,e1⟩:=S.era
 obtain⟨n,hn⟩:∃n:Nat,x.era=n:=⟨x.era.toNat,by omega⟩
 have hne:n<e:=by omega
 have hm:=P.zm hne
 rw[hn]
 refine FnIs.frame [] (xz l b e p.ops sp p.lo q x n (zOf p n) hn (P.z hne) (by have:=P.zl _ hm; omega) (by rw[S.tk,hn]) (fun i hi=>by obtain⟨h1,o,h2,_⟩:=P.row _ hm i hi; exact⟨o,h2,h1⟩)) (by intro v hv; simp only[List.mem_cons,List.not_mem_nil,or_false]at hv; rcases hv with rfl | rfl <;> exact⟨rfl,rfl⟩) ⟨zN,zH,zH,zN,zH,zH,trivial⟩ rfl
  (lg zV ⟨zR,zM,zM,zR,zM,zM,zM,zM,zM,zR,zR,trivial⟩)
end Go.Proofs.Ytkehohfgbblokaa
namespace Go.Proofs.Ytkehohfgbblokaa
open Go.Eng Go.Plain
set_option maxHeartbeats 32000000
set_option maxRecDepth 20000
attribute [local irreducible] WC RegS RegD SeqQ BlkQ ScoQ RegK CutK Sat SatN FnIs LoopQ aj OpIs
def ixI (p:Int→Bool) (l:List Int) (i:Nat):Int:=match l with
 | [] => -1
 | o::l=>if p o=true then (i:Int) else ixI p l (i+1)
theorem sW (p:Int→Bool):∀(l:List Int) (i:Nat),decide (0≤ixI p l i)=l.any p
 | [],i=>rfl
 | o::l,i=>by
  unfold ixI
  rw[List.any_cons]
  cases h:p o with
  | true=>simp
  | false=>simp only[Bool.false_eq_true,if_false,Bool.false_or]; exact sW p l (i+1)
theorem vT {p:Int→Bool} {l:List Int} {i:Nat} {o:Int} (h:l[i]?=some o):ixI p (l.drop i) i=if p o=true then (i:Int) else ixI p (l.drop (i+1)) (i+1):=by
 have hlt:=(List.getElem?_eq_some_iff.1 h).1
 rw[List.drop_eq_getElem_cons hlt,(List.getElem?_eq_some_iff.1 h).2]
 rfl
abbrev gx (x:LSt):List (Nat×Row):=[(0,.box 141 (.d (bR x)))]
theorem xU (x:LSt) (j:Int) (h0:0≤j) (h1:j<x.taken.length):FnIs Try.prog 84 [.int .i64 j,.ptr 0 []] (gx x) (.bool (tkB x.taken j)) (gx x):=by
 obtain⟨c,hc⟩:∃c,x.taken[j.toNat]?=some c:=⟨_,List.getElem?_eq_getElem (by omega)⟩
 have hc2:(mkS x.taken)[j.toNat]?=some c:=pi hc
 rw[tkB,hc]
 refine aG aa Try.func84 rfl rfl rfl ?_;refine sR<|rC<|nR ?_;refine rC ?_;refine rQ iB ?_;refine rC ?_;refine rQ (jF (v:=(c.toNat:Int)) aa rfl rfl rfl (by omega) hc2 rfl) ?_;refine zD<|zT ?_
 exact⟨trivial,[],lg zV ⟨zR,trivial⟩⟩
theorem Bm (x:LSt) (j:Int) (h0:0≤j) (h1:j<x.taken.length):FnIs Try.prog 85 [.int .i64 j,.ptr 0 []] (gx x) (.bool (msB x.taken j)) (gx x):=by
 obtain⟨c,hc⟩:∃c,x.taken[j.toNat]?=some c:=⟨_,List.getElem?_eq_getElem (by omega)⟩
 have hc2:(mkS x.taken)[j.toNat]?=some c:=pi hc
 rw[msB,hc]
 refine aG aa Try.func85 rfl rfl rfl ?_;refine sR<|rC<|nR ?_;refine rC ?_;refine rQ iB ?_;refine rC ?_;refine rQ (jF (v:=(c.toNat:Int)) aa rfl rfl rfl (by omega) hc2 rfl) ?_;refine zD<|zT ?_
 exact⟨trivial,[],lg zV ⟨zR,trivial⟩⟩
theorem yC (l:List Int) (g:Nat) (x:LSt) (p:Int→Bool) (hL:l.length≤9223372036854775807) (hp:∀o∈l,FnIs Try.prog g [.int .i64 o,.ptr 0 []] (gx x) (.bool (p o)) (gx x)):FnIs Try.prog 93 [.d (encL l),.fn (.func g) .anil (.acons (.ptr 0 []) .anil)] (gx x) (.int .i64 (ixI p l 0)) (gx x):=by
 refine aG aa Try.func93 rfl rfl rfl ?_;refine sR<|rC<|zW ?_;refine rC ?_;refine rQ iE ?_;refine rC<|zP ?_
 refine wc_inv (fun k:Nat=>⟨[(8,.int .i64 k),(7,.int .i64 l.length),(0,.d (encL l)),(1,.fn (.func g) .anil (.acons (.ptr 0 []) .anil))],aB (gx x),72,Try.f93.ntmps,64⟩) (fun k=>k≤l.length∧ixI p (l.drop k) k=ixI p l 0) (fun k=>l.length-k) 0 [] ⟨Nat.zero_le _,by rw[List.drop_zero]⟩
  (lg zi ⟨zR,trivial⟩) ?_
 rintro k ⟨hk,hix⟩
 refine cf ?_
 by_cases hlt:k<l.length
 ·have d1:decide ((k:Int)<(l.length:Int))=true:=dT (by omega)
  obtain⟨o,ho⟩:∃o,l[k]?=some o:=⟨_,List.getElem?_eq_getElem hlt⟩
  have ho2:l[((k:Int)).toNat]?=some o:=by rw[Int.toNat_natCast]; exact ho
  rw[vT ho]at hix
  refine sR<|rC<|nQ ?_;refine wT<|zQ<|zS ?_;refine zD<|nR ?_;refine zU ?_;refine rQ iA ?_;refine rQ iL ?_;refine aS (aQ [(0,some 0)] (hp o (List.mem_of_getElem? ho)) rfl rfl rfl (ak (aV rfl rfl ai)) ⟨zH,trivial⟩ rfl rfl (.inl rfl) rfl rfl) rfl<|nS ?_
  cases hpo:p o with
  | true =>
   rw[hpo,if_pos rfl]at hix
   rw[←hix]
   refine wV<|sR ?_;refine zD<|zT<|zB<|dR<|zB ?_
   exact⟨trivial,[],lg zV ⟨zR,trivial⟩⟩
  | false =>
   rw[hpo,if_neg (by decide)]at hix
   refine wG<|bg<|zC<|ao ?_;refine rQ iD ?_;refine rC<|aE ?_
   exact aU (k+1) [] ⟨hlt,hix⟩ (by omega) (lg zi ⟨zR,trivial⟩)
 ·have d1:decide ((k:Int)<(l.length:Int))=false:=dF (by omega)
  have he:k=l.length:=by omega
  subst he
  rw[List.drop_length]at hix
  rw[←hix]
  refine sR<|rC<|nQ ?_;refine wF<|zX<|sR ?_;refine rC<|zT ?_
  exact⟨trivial,[],lg zV ⟨zR,trivial⟩⟩
theorem wx (l:List Int) (g:Nat) (x:LSt) (p:Int→Bool) (hL:l.length≤9223372036854775807) (hp:∀o∈l,FnIs Try.prog g [.int .i64 o,.ptr 0 []] (gx x) (.bool (p o)) (gx x)):FnIs Try.prog 86 [.d (encL l),.fn (.func g) .anil (.acons (.ptr 0 []) .anil)] (gx x) (.bool (l.any p)) (gx x):=by
 have hix:=yC l g x p hL hp
 rw[←sW p l 0]
 refine aG aa Try.func86 rfl rfl rfl ?_;refine sR<|rC<|nR ?_;refine zD ?_;refine aS (aQ [(0,some 0)] hix rfl rfl rfl (ak (cG rfl rfl ai)) ⟨zH,trivial⟩ rfl rfl (.inl rfl) rfl rfl) rfl ?_;refine zD<|zT ?_
 exact⟨trivial,[],lg zV ⟨zR,trivial⟩⟩
theorem BC {x y:D} (h:DLe x y) (hg:x.isAgg=y.isAgg):AVLe (.d x) (.d y):=by
 intro σ w X u hu
 unfold RelV at hu ⊢
 by_cases hy:y.isAgg=true
 ·rw[if_pos (show (AV.d x).isAgg=true from hg.trans hy)]at hu
  rw[if_pos (show (AV.d y).isAgg=true from hy)]
  obtain⟨c,rfl,hc⟩:=hu
  exact⟨c,rfl,h _ _ _ hc⟩
 ·rw[if_neg (show ¬(AV.d x).isAgg=true from fun e=>hy (hg.symm.trans e))]at hu
  rw[if_neg (show ¬(AV.d y).isAgg=true from hy)]
  exact h _ _ _ hu
theorem jV:eJ Try.prog 39 (encL []):=by
 obtain⟨i,z,h1,h2,h3⟩:=uF
 exact⟨i,z,h1,h2,fun σ w X=>BC (DLe.nil_arr 1 i6) rfl σ w X z (h3 σ w X)⟩
abbrev oRow (o:List aI):Row :=.ds 148 2 false ot o
abbrev xEnv (z:List Int) (k:Nat) (o:List aI):Env:=[(21,.int .i64 k),(20,.int .i64 z.length),(19,.d (encL z)),(0,.ptr 0 []),(3,.ptr 64 []),(5,.own 65 0 o.length 2 none)]
abbrev xT (l:List HOp) (b e:Int) (p:Prep) (sp:List (List aI)) (x:LSt) (a:QS×List aI):List (Nat×Row):=(64,.box 141 (.d (bR x)))::(bZ l b e p sp a.1 66++[(65,oRow a.2)])
theorem rM {p:Prep} {l:List HOp} {x:LSt} {z:List Int} {k:Nat} {i:Int} {a:QS×List aI} (h:z[k]?=some i):c5 p l x (z.drop k) k a=c5 p l x (z.drop (k+1)) (k+1) (opS p l x k i a):=by
 rw[List.drop_eq_getElem_cons (List.getElem?_eq_some_iff.1 h).1,(List.getElem?_eq_some_iff.1 h).2]
 rfl
theorem vI (l:List HOp) (b:Int) (e:Nat) (p:Prep) (sp:List (List aI)) (q:QS) (x:LSt) (P:POk l e p) (S:SOk p e x) (hS:∀y∈q.2,SOk p e y) (he:e≤1048576) (hq:q.2.length+8200≤1048576):FnIs Try.prog 71 [.ptr 0 [],.d (bR x)] (bZ l b e p sp q 9) (.own 65 0 (cu p l e x q).2.length 2 none) (bZ l b e p sp (cu p l e x q).1 64++[(65,oRow (cu p l e x q).2)]):=by
 obtain⟨e0,e1⟩:=S.era
 obtain⟨n,hn⟩:∃n:Nat,x.era=n:=⟨x.era.toNat,by omega⟩
 have hne:n<e:=by omega
 have hzm:=P.zm hne
 obtain⟨z,hzd⟩:∃z,z=zOf p x.era:=⟨_,rfl⟩
 have hz:p.ops[x.era.toNat]?=some z:=by rw[hn,Int.toNat_natCast,hzd,hn]; exact P.z hne
 have hkl:x.era.toNat<p.ops.length:=(List.getElem?_eq_some_iff.1 hz).1
 rw[←hn]at hzm
 rw[←hzd]at hzm
 have hzl:=P.zl z hzm
 have htl:x.taken.length=z.length:=by rw[S.tk,hzd]
 refine aG aa Try.func71 rfl rfl rfl ?_;refine sR<|rN ?_;refine rC<|nR ?_;refine rC<|nQ<|aZ ?_;refine aw (by kernel_rfl) ?_;refine dC [0] [] ?_;refine dC [12] [] ?_;refine dC [13] [] ?_;refine dQ [14] [0] iM ?_;refine dC [3] [] ?_;refine dQ [16] [64] iB ?_;refine dQ [15,17] [] (aP aa rfl rfl rfl rfl rfl (by omega) (by omega)) ?_;refine dQ [18] [3] (bf (v :=.d (encL z)) aa rfl rfl ⟨rfl,z,hz,encL z,rfl,rfl⟩ rfl) ?_;refine dQ [19] [] iE ?_;refine dC [] [] ?_;refine am (by kernel_rfl)<|aL<|cm ?_
 refine wc_inv (fun s:Nat×(QS×List aI)=>⟨xEnv z s.1 s.2.2,aB (xT l b e p sp x s.2),72,Try.f71.ntmps,64⟩) (fun s=>s.1≤z.length∧c5 p l x (z.drop s.1) s.1 s.2=c5 p l x z 0 (q,[])∧s.2.1.2.length≤q.2.length+s.1∧s.2.2.length≤s.1) (fun s=>z.length-s.1) (0,(q,[])) [(64,some 64),(65,none),(66,some 9)] ⟨Nat.zero_le _,rfl,Nat.le_refl _,Nat.le_refl _⟩
  (lg zg ⟨zR,zR,zM,zM,zR,zM,zM,zM,zM,zM,zR,zR,⟨rfl,rfl,rfl⟩,trivial⟩) ?_
 rintro⟨k,a⟩ ⟨hk,hinv,hql,hol⟩
 simp only at hk hinv hql hol
 refine cf ?_
 show WC _ _ _ _ (xEnv z k a.2) (aB (xT l b e p sp x a)) _
 by_cases hkz:k<z.length
 ·have d1:decide ((k:Int)<(z.length:Int))=true:=dT (by omega)
  obtain⟨i,hi⟩:∃i,z[k]?=some i:=⟨_,List.getElem?_eq_getElem hkz⟩
  have hi2:z[((k:Int)).toNat]?=some i:=by rw[Int.toNat_natCast]; exact hi
  have him:=List.mem_of_getElem? hi
  obtain⟨hi0,o,ho,hO⟩:=P.row z hzm i him
  have hli:l[i.toNat]?=some o:=ho
  have hopi:opN l i.toNat=o:=by rw[opN,ho]; rfl
  rw[rM hi]at hinv
  have htk:=xU x k (by omega) (by rw[htl]; omega)
  have haf:=wx ((getA p.af i).getD []) 84 x (tkB x.taken) (by have:=P.afl z hzm i him; omega) (fun j hj=>xU x j (P.af z hzm i him j hj).1 (by rw[htl]; exact (P.af z hzm i him j hj).2))
  have hah:=wx ((getA p.ah i).getD []) 85 x (msB x.taken) (by have:=P.ahl z hzm i him; omega) (fun j hj=>Bm x j (P.ah z hzm i him j hj).1 (by rw[htl]; exact (P.ah z hzm i him j hj).2))
  cases hsk:jO p x k i with
  | true =>
   have hopS:opS p l x k i a=a:=by rw[opS,if_pos hsk]
   rw[hopS]at hinv
   unfold jO at hsk
   cases hst:(getA p.st i).getD false with
   | true =>
    refine sR<|rC<|nQ ?_;refine wT<|zQ<|zS ?_;refine rC ?_;refine rQ (aC aa rfl rfl rfl rfl rfl (by omega) hi2) ?_;refine rQ iL ?_;refine zD<|nR ?_;refine zD<|nR ?_;refine zD<|zW ?_;refine zU ?_;refine rQ iM ?_;refine rC ?_;refine rQ (cX (κ:=Int) (ν:=Bool) (enc:=i6) (encV:=dK) (m:=p.st) hst keyI Try.underlying116 gl rfl rfl rfl) ?_;refine rC ?_;iterate 3 refine rT ?_
    refine rQ iU ?_;refine rC ?_;iterate 8 refine rT ?_
    refine rQ iU ?_;refine rC ?_;iterate 8 refine rT ?_
    refine rQ iU ?_;refine zO<|b8<|dO<|dW<|aL<|ao ?_;refine rQ iD ?_;refine rC<|aE ?_
    exact aU (k+1,a) [(64,some 64),(65,some 65),(66,some 66)] ⟨hkz,hinv,by simp only; omega,by simp only; omega⟩ (by simp only; omega) (lg zg ⟨zR,zR,zM,zM,zR,zM,zM,zM,zM,zM,zR,zR,zR,trivial⟩)
   | false =>
    rw[hst,Bool.false_or]at hsk
    cases hb1:tkB x.taken k with
    | true =>
     rw[hb1]at htk
     refine sR<|rC<|nQ ?_;refine wT<|zQ<|zS ?_;refine rC ?_;refine rQ (aC aa rfl rfl rfl rfl rfl (by omega) hi2) ?_;refine rQ iL ?_;refine zD<|nR ?_;refine zD<|nR ?_;refine zD<|zW ?_;refine zU ?_;refine rQ iM ?_;refine rC ?_;refine rQ (cX (κ:=Int) (ν:=Bool) (enc:=i6) (encV:=dK) (m:=p.st) hst keyI Try.underlying116 gl rfl rfl rfl) ?_;refine rC ?_;refine rP ?_;refine rC ?_;refine rP ?_;refine rC ?_;refine rP ?_;refine aS (aQ [(0,some 64)] htk rfl rfl rfl (ak (aV rfl rfl ai)) ⟨zH,trivial⟩ rfl rfl (.inl rfl) rfl rfl) rfl ?_;refine rQ iG ?_;refine rC ?_;iterate 8 refine rT ?_
     refine rQ iU ?_;refine rC ?_;iterate 8 refine rT ?_
     refine rQ iU ?_;refine zO<|b8<|dO<|dW<|aL<|ao ?_;refine rQ iD ?_;refine rC<|aE ?_
     exact aU (k+1,a) [(64,some 64),(65,some 65),(66,some 66)] ⟨hkz,hinv,by simp only; omega,by simp only; omega⟩ (by simp only; omega) (lg zg ⟨zR,zR,zM,zM,zR,zM,zM,zM,zM,zM,zR,zR,zR,trivial⟩)
    | false =>
     rw[hb1,Bool.false_or]at hsk
     rw[hb1]at htk
     cases hb2:((getA p.af i).getD []).any (tkB x.taken) with
     | true =>
      rw[hb2]at haf
      refine sR<|rC<|nQ ?_;refine wT<|zQ<|zS ?_;refine rC ?_;refine rQ (aC aa rfl rfl rfl rfl rfl (by omega) hi2) ?_;refine rQ iL ?_;refine zD<|nR ?_;refine zD<|nR ?_;refine zD<|zW ?_;refine zU ?_;refine rQ iM ?_;refine rC ?_;refine rQ (cX (κ:=Int) (ν:=Bool) (enc:=i6) (encV:=dK) (m:=p.st) hst keyI Try.underlying116 gl rfl rfl rfl) ?_;refine rC ?_;refine rP ?_;refine rC ?_;refine rP ?_;refine rC ?_;refine rP ?_;refine aS (aQ [(0,some 64)] htk rfl rfl rfl (ak (aV rfl rfl ai)) ⟨zH,trivial⟩ rfl rfl (.inl rfl) rfl rfl) rfl ?_;refine rQ iG ?_;refine rC ?_;refine rP ?_;refine rC ?_;refine rP ?_;refine rC ?_;refine rP ?_;refine rC ?_;refine rP ?_;refine rQ iM ?_;refine rP ?_;refine rC ?_;refine rP ?_;refine rQ (fx (κ:=Int) (ν:=List Int) (enc:=i6) (encV:=encL) (m:=p.af) (k:=i) [] keyI Try.underlying115 jV rfl rfl rfl) ?_;refine rP ?_;refine rC ?_;refine rP ?_;refine aS (aQ [(0,some 64)] haf rfl rfl rfl (ak (cG rfl rfl ai)) ⟨zH,trivial⟩ rfl rfl (.inl rfl) rfl rfl) rfl ?_;refine rQ iG ?_;refine rC ?_;iterate 8 refine rT ?_
      refine rQ iU ?_;refine zO<|b8<|dO<|dW<|aL<|ao ?_;refine rQ iD ?_;refine rC<|aE ?_
      exact aU (k+1,a) [(64,some 64),(65,some 65),(66,some 66)] ⟨hkz,hinv,by simp only; omega,by simp only; omega⟩ (by simp only; omega) (lg zg ⟨zR,zR,zM,zM,zR,zM,zM,zM,zM,zM,zR,zR,zR,trivial⟩)
     | false =>
      rw[hb2,Bool.false_or]at hsk
      rw[hb2]at haf
      rw[hsk]at hah
      refine sR<|rC<|nQ ?_;refine wT<|zQ<|zS ?_;refine rC ?_;refine rQ (aC aa rfl rfl rfl rfl rfl (by omega) hi2) ?_;refine rQ iL ?_;refine zD<|nR ?_;refine zD<|nR ?_;refine zD<|zW ?_;refine zU ?_;refine rQ iM ?_;refine rC ?_;refine rQ (cX (κ:=Int) (ν:=Bool) (enc:=i6) (encV:=dK) (m:=p.st) hst keyI Try.underlying116 gl rfl rfl rfl) ?_;refine rC ?_;refine rP ?_;refine rC ?_;refine rP ?_;refine rC ?_;refine rP ?_;refine aS (aQ [(0,some 64)] htk rfl rfl rfl (ak (aV rfl rfl ai)) ⟨zH,trivial⟩ rfl rfl (.inl rfl) rfl rfl) rfl ?_;refine rQ iG ?_;refine rC ?_;refine rP ?_;refine rC ?_;refine rP ?_;refine rC ?_;refine rP ?_;refine rC ?_;refine rP ?_;refine rQ iM ?_;refine rP ?_;refine rC ?_;refine rP ?_;refine rQ (fx (κ:=Int) (ν:=List Int) (enc:=i6) (encV:=encL) (m:=p.af) (k:=i) [] keyI Try.underlying115 jV rfl rfl rfl) ?_;refine rP ?_;refine rC ?_;refine rP ?_;refine aS (aQ [(0,some 64)] haf rfl rfl rfl (ak (cG rfl rfl ai)) ⟨zH,trivial⟩ rfl rfl (.inl rfl) rfl rfl) rfl ?_;refine rQ iG ?_;refine rC ?_;refine rP ?_;refine rC ?_;refine rP ?_;refine rC ?_;refine rP ?_;refine rC ?_;refine rP ?_;refine rQ iM ?_;refine rP ?_;refine rC ?_;refine rP ?_;refine rQ (fx (κ:=Int) (ν:=List Int) (enc:=i6) (encV:=encL) (m:=p.ah) (k:=i) [] keyI Try.underlying115 jV rfl rfl rfl) ?_;refine rP ?_;refine rC ?_;refine rP ?_;refine aS (aQ [(0,some 64)] hah rfl rfl rfl (ak (cG rfl rfl ai)) ⟨zH,trivial⟩ rfl rfl (.inl rfl) rfl rfl) rfl ?_;refine rQ iG ?_;refine zO<|b8<|dO<|dW<|aL<|ao ?_;refine rQ iD ?_;refine rC<|aE ?_
      exact aU (k+1,a) [(64,some 64),(65,some 65),(66,some 66)] ⟨hkz,hinv,by simp only; omega,by simp only; omega⟩ (by simp only; omega) (lg zg ⟨zR,zR,zM,zM,zR,zM,zM,zM,zM,zM,zR,zR,zR,trivial⟩)
  | false =>
   have hsk2:=hsk
   unfold jO at hsk
   simp only[Bool.or_eq_false_iff]at hsk
   obtain⟨hst,hb1,hb2,hb3⟩:=hsk
   rw[hb1]at htk
   rw[hb2]at haf
   rw[hb3]at hah
   have hap:=yI l b e p sp a.1 x o P S hO
   cases hf:(hapS p x o).2 with
   | false =>
    have hopS:opS p l x k i a=a:=by rw[opS,if_neg (by rw[hsk2]; decide),hopi,if_neg (by rw[hf]; decide)]
    rw[hopS]at hinv
    rw[hf]at hap
    refine sR<|rC<|nQ ?_;refine wT<|zQ<|zS ?_;refine rC ?_;refine rQ (aC aa rfl rfl rfl rfl rfl (by omega) hi2) ?_;refine rQ iL ?_;refine zD<|nR ?_;refine zD<|nR ?_;refine zD<|zW ?_;refine zU ?_;refine rQ iM ?_;refine rC ?_;refine rQ (cX (κ:=Int) (ν:=Bool) (enc:=i6) (encV:=dK) (m:=p.st) hst keyI Try.underlying116 gl rfl rfl rfl) ?_;refine rC ?_;refine rP ?_;refine rC ?_;refine rP ?_;refine rC ?_;refine rP ?_;refine aS (aQ [(0,some 64)] htk rfl rfl rfl (ak (aV rfl rfl ai)) ⟨zH,trivial⟩ rfl rfl (.inl rfl) rfl rfl) rfl ?_;refine rQ iG ?_;refine rC ?_;refine rP ?_;refine rC ?_;refine rP ?_;refine rC ?_;refine rP ?_;refine rC ?_;refine rP ?_;refine rQ iM ?_;refine rP ?_;refine rC ?_;refine rP ?_;refine rQ (fx (κ:=Int) (ν:=List Int) (enc:=i6) (encV:=encL) (m:=p.af) (k:=i) [] keyI Try.underlying115 jV rfl rfl rfl) ?_;refine rP ?_;refine rC ?_;refine rP ?_;refine aS (aQ [(0,some 64)] haf rfl rfl rfl (ak (cG rfl rfl ai)) ⟨zH,trivial⟩ rfl rfl (.inl rfl) rfl rfl) rfl ?_;refine rQ iG ?_;refine rC ?_;refine rP ?_;refine rC ?_;refine rP ?_;refine rC ?_;refine rP ?_;refine rC ?_;refine rP ?_;refine rQ iM ?_;refine rP ?_;refine rC ?_;refine rP ?_;refine rQ (fx (κ:=Int) (ν:=List Int) (enc:=i6) (encV:=encL) (m:=p.ah) (k:=i) [] keyI Try.underlying115 jV rfl rfl rfl) ?_;refine rP ?_;refine rC ?_;refine rP ?_;refine aS (aQ [(0,some 64)] hah rfl rfl rfl (ak (cG rfl rfl ai)) ⟨zH,trivial⟩ rfl rfl (.inl rfl) rfl rfl) rfl ?_;refine rQ iG ?_;refine zJ<|zQ ?_;refine aw (by kernel_rfl) ?_;refine dC [0] [] ?_;refine dQ [3] [64] iM ?_;refine dC [0] [] ?_;refine dC [62] [] ?_;refine dC [63] [] ?_;refine dQ [64] [0] iM ?_;refine dC [7] [] ?_;refine dQ [65,66] [] (a9 aa rfl rfl rfl rfl rfl (by omega) hli) ?_;refine dQ [67] [] iL ?_;refine cF [60,61,68] [0,1,2,3,4,5,6,7,8,66,10] rfl (.plain (aQ [(0,some 0),(1,some 1),(2,some 2),(3,some 3),(4,some 4),(5,some 5),(6,some 6),(7,some 7),(8,some 8),(9,some 66),(10,some 10)] hap rfl rfl rfl (aV rfl rfl (ak (ak ai))) ⟨zH,zN,zN,zH,zN,zN,zN,zN,zN,zH,zH,trivial⟩ rfl rfl (.inl rfl) rfl rfl)) rfl rfl ?_;refine dC [69] [] ?_;iterate 2 refine dC [59] [] ?_
    refine da [] [] rfl (ay aa (fun K hk=>hk)) ?_;refine br [10,70] [504] (aK aa rfl rfl rfl ⟨_,⟨rfl,rfl,rfl⟩,rfl⟩ rfl) ?_;refine dC [71] [] ?_;refine am (by kernel_rfl)<|aL<|qR ?_;refine zD ?_;refine zO<|b8<|dO<|dW<|aL<|ao ?_;refine rQ iD ?_;refine rC<|aE ?_
    exact aU (k+1,a) [(64,some 64),(65,some 65),(66,some 66)] ⟨hkz,hinv,by simp only; omega,by simp only; omega⟩ (by simp only; omega) (lg zg ⟨zR,zR,zM,zM,zR,zM,zM,zM,zM,zM,zR,zR,zR,trivial⟩)
   | true =>
    obtain⟨y,hy⟩:∃y,y = { (hapS p x o).1 with taken:=gz x.taken k }:=⟨_,rfl⟩
    have hopS:opS p l x k i a=((addS a.1 y).1,a.2++[⟨i,(addS a.1 y).2⟩]):=by rw[opS,if_neg (by rw[hsk2]; decide),hopi,if_pos hf,hy]
    rw[hopS]at hinv
    rw[hf]at hap
    have hlS:a.1.2.length+1≤1048576:=by omega
    have hlO:a.2.length+1≤1048576:=by omega
    have had:FnIs Try.prog 69 [.ptr 0 [],.d (bR { (hapS p x o).1 with taken:=gz x.taken k })] (bZ l b e p sp a.1 9) (.int .i64 (addS a.1 y).2) (bZ l b e p sp (addS a.1 y).1 64):=by subst hy; exact pD l b e p sp a.1 _ hlS
    have hwk:IntKind.i64.wrap ((k:Int)+1)=((k+1:Nat):Int):=by rw[bp (by omega) (by omega)]; omega
    refine sR<|rC<|nQ ?_;refine wT<|zQ<|zS ?_;refine rC ?_;refine rQ (aC aa rfl rfl rfl rfl rfl (by omega) hi2) ?_;refine rQ iL ?_;refine zD<|nR ?_;refine zD<|nR ?_;refine zD<|zW ?_;refine zU ?_;refine rQ iM ?_;refine rC ?_;refine rQ (cX (κ:=Int) (ν:=Bool) (enc:=i6) (encV:=dK) (m:=p.st) hst keyI Try.underlying116 gl rfl rfl rfl) ?_;refine rC ?_;refine rP ?_;refine rC ?_;refine rP ?_;refine rC ?_;refine rP ?_;refine aS (aQ [(0,some 64)] htk rfl rfl rfl (ak (aV rfl rfl ai)) ⟨zH,trivial⟩ rfl rfl (.inl rfl) rfl rfl) rfl ?_;refine rQ iG ?_;refine rC ?_;refine rP ?_;refine rC ?_;refine rP ?_;refine rC ?_;refine rP ?_;refine rC ?_;refine rP ?_;refine rQ iM ?_;refine rP ?_;refine rC ?_;refine rP ?_;refine rQ (fx (κ:=Int) (ν:=List Int) (enc:=i6) (encV:=encL) (m:=p.af) (k:=i) [] keyI Try.underlying115 jV rfl rfl rfl) ?_;refine rP ?_;refine rC ?_;refine rP ?_;refine aS (aQ [(0,some 64)] haf rfl rfl rfl (ak (cG rfl rfl ai)) ⟨zH,trivial⟩ rfl rfl (.inl rfl) rfl rfl) rfl ?_;refine rQ iG ?_;refine rC ?_;refine rP ?_;refine rC ?_;refine rP ?_;refine rC ?_;refine rP ?_;refine rC ?_;refine rP ?_;refine rQ iM ?_;refine rP ?_;refine rC ?_;refine rP ?_;refine rQ (fx (κ:=Int) (ν:=List Int) (enc:=i6) (encV:=encL) (m:=p.ah) (k:=i) [] keyI Try.underlying115 jV rfl rfl rfl) ?_;refine rP ?_;refine rC ?_;refine rP ?_;refine aS (aQ [(0,some 64)] hah rfl rfl rfl (ak (cG rfl rfl ai)) ⟨zH,trivial⟩ rfl rfl (.inl rfl) rfl rfl) rfl ?_;refine rQ iG ?_;refine zJ<|zQ ?_;refine aw (by kernel_rfl) ?_;refine dC [0] [] ?_;refine dQ [3] [64] iM ?_;refine dC [0] [] ?_;refine dC [62] [] ?_;refine dC [63] [] ?_;refine dQ [64] [0] iM ?_;refine dC [7] [] ?_;refine dQ [65,66] [] (a9 aa rfl rfl rfl rfl rfl (by omega) hli) ?_;refine dQ [67] [] iL ?_;refine cF [60,61,68] [0,1,2,3,4,5,6,7,8,66,10] rfl (.plain (aQ [(0,some 0),(1,some 1),(2,some 2),(3,some 3),(4,some 4),(5,some 5),(6,some 6),(7,some 7),(8,some 8),(9,some 66),(10,some 10)] hap rfl rfl rfl (aV rfl rfl (ak (ak ai))) ⟨zH,zN,zN,zH,zN,zN,zN,zN,zN,zH,zH,trivial⟩ rfl rfl (.inl rfl) rfl rfl)) rfl rfl ?_;refine dC [69] [] ?_;iterate 2 refine dC [59] [] ?_
    refine da [] [] rfl (ay aa (fun K hk=>hk)) ?_;refine br [10,70] [504] (aK aa rfl rfl rfl ⟨_,⟨rfl,rfl,rfl⟩,rfl⟩ rfl) ?_;refine dC [71] [] ?_;refine am (by kernel_rfl)<|aL<|qR ?_;refine zD ?_;refine zJ<|zQ ?_;refine aw (by kernel_rfl) ?_;refine dC [3] [] ?_;refine dQ [74] [64] iB ?_;refine dC [6] [] ?_;refine dQ [75,76] [] (uO (hi:=k) (m:=x.taken.take k) aa rfl rfl rfl (by omega) rfl) ?_;refine dQ [77] [] (ma (m:=x.taken.take k++[1]) rfl rfl (by simp; omega) rfl) ?_;refine dC [3] [] ?_;refine dQ [79] [64] iB ?_;refine dC [6] [] ?_;refine dQ [81] [] (ce (m:=((k+1:Nat):Int)) aa rfl rfl hwk) ?_;refine dQ [80,82] [] (pO (lo:=k+1) (m:=x.taken.drop (k+1)) aa rfl rfl rfl (by omega) rfl) ?_;refine dQ [78,83] [] (ma (m:=gz x.taken k) rfl rfl (by simp; omega) rfl) ?_;refine dC [10] [] ?_;refine br [85,84] [504] (aK aa rfl rfl rfl ⟨_,⟨_,⟨_,⟨rfl,rfl,rfl⟩,rfl⟩,rfl⟩,rfl⟩ rfl) ?_;refine am (by kernel_rfl)<|aL<|ao ?_;refine zU ?_;refine rQ iM ?_;refine bF rfl (aQ [(0,some 0),(1,some 1),(2,some 2),(3,some 3),(4,some 4),(5,some 5),(6,some 6),(7,some 7),(8,some 8),(9,some 66),(10,some 10)] had rfl rfl rfl (aV rfl rfl (ak ai)) ⟨zH,zN,zN,zH,zN,zN,zN,zN,zN,zH,zH,trivial⟩ rfl rfl (.inl rfl) rfl rfl) rfl rfl ?_;refine rQ iS ?_;refine bt (aH aa rfl rfl rfl rfl rfl rfl rfl rfl) rfl ?_;refine aS (bG (s:=2) (enc:=ot) (xs:=a.2) aa (⟨i,(addS a.1 y).2⟩:aI) rfl rfl rfl rfl rfl rfl rfl rfl rfl hlO rfl) rfl ?_;refine rC<|aE<|zC<|ao ?_;refine rQ iD ?_;refine rC<|aE ?_
    exact aU (k+1,((addS a.1 y).1,a.2++[⟨i,(addS a.1 y).2⟩])) [(64,some 64),(65,some 704),(66,some 680)] ⟨hkz,hinv,by have:=kT a.1 y; simp only; omega,by simp only[List.length_append,List.length_singleton]; omega⟩ (by simp only; omega) (lg ⟨zE,rfl,zE,rfl,zE,rfl,zE,rfl,zE,rfl,⟨_,rfl,AVLe.of_eq (by simp only[List.length_append,List.length_singleton]; rfl)⟩,rfl,trivial⟩ ⟨zR,zR,zM,zM,zR,zM,zM,zM,zM,zM,zR,zR,zR,trivial⟩)
 ·have d1:decide ((k:Int)<(z.length:Int))=false:=dF (by omega)
  obtain rfl:k=z.length:=by omega
  rw[List.drop_length]at hinv
  have hnx:cu p l e x q=mK p l e x a:=by rw[cu,←hzd,←hinv]; rfl
  rw[hnx]
  have hwe:IntKind.i64.wrap (x.era+1)=x.era+1:=bp (by omega) (by omega)
  unfold mK
  cases d2:decide (x.era+1<(e:Int)) with
  | false =>
   rw[if_neg (by decide)]
   refine sR<|rC<|nQ ?_;refine wF<|zX ?_;iterate 2 refine aZ ?_
   refine aw (by kernel_rfl) ?_;refine dC [3] [] ?_;refine dQ [95] [64] iB ?_;refine dQ [96] [] (ce (m:=x.era+1) aa rfl rfl hwe) ?_;refine dC [0] [] ?_;refine dC [98] [] ?_;refine dC [99] [] ?_;refine dQ [100] [0] iM ?_;refine dC [97,101] [] ?_;refine dC [102] [] ?_;refine ae [103,0] rfl rfl (by assumption) rfl ?_;refine ae [103,3] rfl rfl (by assumption) rfl ?_;refine ae [103,104,105] rfl rfl (by assumption) rfl ?_;refine dQ [103,106] [] iF ?_;refine am (by kernel_rfl)<|aL ?_;refine wG<|kS<|sR ?_;refine zD<|zT ?_
   exact⟨trivial,[(64,some 66),(65,some 65)],lg zV ⟨zR,zM,zM,zR,zM,zM,zM,zM,zM,zR,zR,zR,trivial⟩⟩
  | true =>
   rw[if_pos rfl]
   have hfu:=nb l b e p sp a.1 x P S
   cases hf:iJ l p.lo (zOf p x.era) x with
   | false =>
    rw[if_neg (by decide)]
    rw[hf]at hfu
    refine sR<|rC<|nQ ?_;refine wF<|zX ?_;iterate 2 refine aZ ?_
    refine aw (by kernel_rfl) ?_;refine dC [3] [] ?_;refine dQ [95] [64] iB ?_;refine dQ [96] [] (ce (m:=x.era+1) aa rfl rfl hwe) ?_;refine dC [0] [] ?_;refine dC [98] [] ?_;refine dC [99] [] ?_;refine dQ [100] [0] iM ?_;refine dC [97,101] [] ?_;refine dC [102] [] ?_;refine ab [103,0] [] rfl rfl (by assumption) rfl (ay aa (fun K hk=>hk)) ?_;refine ab [103,3] [64] rfl rfl (by assumption) rfl (aJ aa rfl rfl rfl rfl) ?_;refine cF [103,104,105] [0,1,2,3,4,5,6,7,8,66,10] rfl (.on rfl rfl d2 (aQ [(0,some 0),(1,some 1),(2,some 2),(3,some 3),(4,some 4),(5,some 5),(6,some 6),(7,some 7),(8,some 8),(9,some 66),(10,some 10)] hfu rfl rfl rfl (aV rfl rfl (ak ai)) ⟨zH,zN,zN,zH,zN,zN,zN,zN,zN,zH,zH,trivial⟩ rfl rfl (.inl rfl) rfl rfl)) rfl rfl ?_;refine dQ [103,106] [] iT ?_;refine am (by kernel_rfl)<|aL ?_;refine wG<|kS<|sR ?_;refine zD<|zT ?_
    exact⟨trivial,[(64,some 66),(65,some 65)],lg zV ⟨zR,zM,zM,zR,zM,zM,zM,zM,zM,zR,zR,zR,trivial⟩⟩
   | true =>
    rw[if_pos rfl]
    rw[hf]at hfu
    have hlt:=of_decide_eq_true d2
    obtain⟨y,hy⟩:∃y:LSt,y=⟨x.era+1,cz (zOf p (x.era+1)).length,x.durable,x.durable⟩:=⟨_,rfl⟩
    have hno:=qg l b e p sp a.1 P (n+1) (by omega)
    have hn1:((n+1:Nat):Int)=x.era+1:=by omega
    rw[hn1]at hno
    have hlS:a.1.2.length+1≤1048576:=by omega
    have hlO:a.2.length+1≤1048576:=by omega
    have had:FnIs Try.prog 69 [.ptr 0 [],.d (bR ⟨x.era+1,cz (zOf p (x.era+1)).length,x.durable,x.durable⟩)] (bZ l b e p sp a.1 9) (.int .i64 (addS a.1 y).2) (bZ l b e p sp (addS a.1 y).1 64):=by subst hy; exact pD l b e p sp a.1 _ hlS
    rw[←hy]
    refine sR<|rC<|nQ ?_;refine wF<|zX ?_;iterate 2 refine aZ ?_
    refine aw (by kernel_rfl) ?_;refine dC [3] [] ?_;refine dQ [95] [64] iB ?_;refine dQ [96] [] (ce (m:=x.era+1) aa rfl rfl hwe) ?_;refine dC [0] [] ?_;refine dC [98] [] ?_;refine dC [99] [] ?_;refine dQ [100] [0] iM ?_;refine dC [97,101] [] ?_;refine dC [102] [] ?_;refine ab [103,0] [] rfl rfl (by assumption) rfl (ay aa (fun K hk=>hk)) ?_;refine ab [103,3] [64] rfl rfl (by assumption) rfl (aJ aa rfl rfl rfl rfl) ?_;refine cF [103,104,105] [0,1,2,3,4,5,6,7,8,66,10] rfl (.on rfl rfl d2 (aQ [(0,some 0),(1,some 1),(2,some 2),(3,some 3),(4,some 4),(5,some 5),(6,some 6),(7,some 7),(8,some 8),(9,some 66),(10,some 10)] hfu rfl rfl rfl (aV rfl rfl (ak ai)) ⟨zH,zN,zN,zH,zN,zN,zN,zN,zN,zH,zH,trivial⟩ rfl rfl (.inl rfl) rfl rfl)) rfl rfl ?_;refine dQ [103,106] [] iT ?_;refine am (by kernel_rfl)<|aL ?_;refine wV ?_;refine aw (by kernel_rfl) ?_;refine dC [5] [] ?_;refine dC [0] [] ?_;refine dC [3] [] ?_;refine dQ [110] [64] iB ?_;refine dQ [111] [] (ce (m:=x.era+1) aa rfl rfl hwe) ?_;refine dC [0] [] ?_;refine dC [3] [] ?_;refine dQ [114] [64] iB ?_;refine dQ [115] [] (ce (m:=x.era+1) aa rfl rfl hwe) ?_;refine cF [113,116] [0,1,2,3,4,5,6,7,8,66,10] rfl (.plain (aQ [(0,some 0),(1,some 1),(2,some 2),(3,some 3),(4,some 4),(5,some 5),(6,some 6),(7,some 7),(8,some 8),(9,some 66),(10,some 10)] hno rfl rfl rfl (aV rfl rfl (ak ai)) ⟨zH,zN,zN,zH,zN,zN,zN,zN,zN,zH,zH,trivial⟩ rfl rfl (.inl rfl) rfl rfl)) rfl rfl ?_;refine dC [3] [] ?_;refine dQ [118] [64] iB ?_;refine dC [3] [] ?_;refine dQ [120] [64] iB ?_;refine dQ [112,117,119,121] [] iS ?_;refine cF [109,122] [0,1,2,3,4,5,6,7,8,66,10] rfl (.plain (aQ [(0,some 0),(1,some 1),(2,some 2),(3,some 3),(4,some 4),(5,some 5),(6,some 6),(7,some 7),(8,some 8),(9,some 66),(10,some 10)] had rfl rfl rfl (aV rfl rfl (ak ai)) ⟨zH,zN,zN,zH,zN,zN,zN,zN,zN,zH,zH,trivial⟩ rfl rfl (.inl rfl) rfl rfl)) rfl rfl ?_;refine dQ [123] [] iS ?_;refine da [124] [] rfl (aH aa rfl rfl rfl rfl rfl rfl rfl rfl) ?_;refine iq [108,125] [65,320] rfl (bG (s:=2) (enc:=ot) (xs:=a.2) aa (⟨-1,(addS a.1 y).2⟩:aI) rfl rfl rfl rfl rfl rfl rfl rfl rfl hlO rfl) ?_;refine dC [126] [] ?_;refine am (by kernel_rfl)<|aL<|sR ?_;refine zD<|zT ?_
    exact⟨trivial,[(64,some 304),(65,some 328)],lg ⟨⟨_,rfl,AVLe.of_eq (by simp only[List.length_append,List.length_singleton]; rfl)⟩,rfl,trivial⟩ ⟨zR,zM,zM,zR,zM,zM,zM,zM,zM,zR,zR,zR,trivial⟩⟩
theorem xn (l:List HOp) (b:Int) (e:Nat) (p:Prep) (sp:List (List aI)) (q:QS) (x:LSt) (P:POk l e p) (S:SOk p e x) (hS:∀y∈q.2,SOk p e y) (he:e≤1048576) (hq:q.2.length+8200≤1048576):FnIs Try.prog 71 [.ptr 0 [],.d (bR x)] (bZ l b e p sp q 9) (.d (cr (cu p l e x q).2)) (bZ l b e p sp (cu p l e x q).1 64):=
 (vI l b e p sp q x P S hS he hq).freeze_out 65 _ rfl (Frz.own rfl) ⟨zF,zF,zF,zF,zF,zF,zF,zF,zF,zF,zF,trivial⟩
end Go.Proofs.Ytkehohfgbblokaa
namespace Go.Proofs.Ytkehohfgbblokaa
open Go.Eng Go.Plain
set_option maxHeartbeats 32000000
set_option maxRecDepth 20000
section
variable {κ : Type} [DecidableEq κ]
def c9:List κ→Nat→List (κ×Int)
 | [],_=>[]
 | k::ks,i=>(k,(i:Int))::c9 ks (i+1)
def addK (ks:List κ) (k:κ):List κ:=if k∈ks then ks else ks++[k]
theorem eK:∀(ks:List κ) (i:Nat),(c9 ks i).length=ks.length
 | [],_=>rfl
 | _::ks,i=>by simp[c9,eK ks]
theorem im {k:κ}:∀(ks:List κ) (i:Nat),k ∉ ks→getA (c9 ks i) k=none
 | [],_,_=>rfl
 | a::ks,i,h=>by
  simp only[List.mem_cons,not_or]at h
  simp only[c9,getA,if_neg h.1]
  exact im ks (i+1) h.2
theorem eH {k:κ}:∀(ks:List κ) (i:Nat),k∈ks→∃j,ks[j]?=some k∧(∀j',j'<j→ks[j']?≠some k)∧getA (c9 ks i) k=some ((i+j:Nat):Int)
 | [],_,h=>by cases h
 | a::ks,i,h=>by
  by_cases e:k=a
  ·subst e
   exact⟨0,rfl,fun j' h=>by omega,by simp[c9,getA]⟩
  ·obtain⟨j,h1,h2,h3⟩:=eH ks (i+1) (by rcases List.mem_cons.1 h with h | h; exact absurd h e; exact h)
   refine⟨j+1,by simpa using h1,fun j' hj'=>?_,?_⟩
   ·cases j' with
    | zero=>simp; exact fun e'=>e e'.symm
    | succ j'=>simpa using h2 j' (by omega)
   ·simp only[c9,getA,if_neg e]
    rw[h3]; congr 1; omega
theorem lj {k:κ}:∀(ks:List κ) (i:Nat),k ∉ ks→putA (c9 ks i) k ((i+ks.length:Nat):Int)=c9 (ks++[k]) i
 | [],i,_=>by simp[c9,putA]
 | a::ks,i,h=>by
  simp only[List.mem_cons,not_or]at h
  have:=lj ks (i+1) h.2
  simp only[c9,putA,if_neg h.1,List.cons_append,List.length_cons]
  rw[←this]
  congr 3
  omega
theorem nu {ks:List κ} (k:κ) (h:ks.Nodup):(addK ks k).Nodup:=by
 unfold addK
 split
 ·exact h
 ·rename_i hn
  exact List.nodup_append.2 ⟨h,by simp,fun a ha b hb=>by simp at hb; subst hb; exact fun e=>hn (e ▸ ha)⟩
theorem kU {ks:List κ} {k a:κ}:a∈addK ks k↔a∈ks∨a=k:=by
 unfold addK
 split
 ·rename_i h; exact⟨.inl,fun h'=>h'.elim id (fun e=>e ▸ h)⟩
 ·simp
theorem q7 (ks:List κ) (k:κ):ks.length≤(addK ks k).length∧(addK ks k).length≤ks.length+1:=by
 unfold addK
 split <;> simp
end
theorem tP {ks:List Int} {o:HOp}:numP (c9 ks 0) o=c9 (if o.op.kind=3 then ks else addK ks o.op.index) 0:=by
 unfold numP addK
 split
 ·rfl
 ·by_cases h:o.op.index∈ks
  ·obtain⟨j,_,_,h3⟩:=eH ks 0 h
   rw[h3,if_pos h]
  ·rw[im ks 0 h,if_neg h,←lj ks 0 h,eK]
   simp
theorem tO {ks:List (List UInt8)} {o:HOp}:numV (c9 ks 0) o=c9 (if o.op.kind=3 then ks else addK ks (numB o)) 0:=by
 unfold numV addK
 split
 ·rfl
 ·by_cases h:numB o∈ks
  ·obtain⟨j,_,_,h3⟩:=eH ks 0 h
   rw[h3,if_pos h]
  ·rw[im ks 0 h,if_neg h,←lj ks 0 h,eK]
   simp
def keyP (l:List HOp) (idx:List Nat) (ks:List Int):List Int:=idx.foldl (fun ks i=>if (opN l i).op.kind=3 then ks else addK ks (opN l i).op.index) ks
def keyV (l:List HOp) (idx:List Nat) (ks:List (List UInt8)):List (List UInt8):=idx.foldl (fun ks i=>if (opN l i).op.kind=3 then ks else addK ks (numB (opN l i))) ks
theorem lJ (l:List HOp):∀(idx:List Nat) (ks:List Int) (vs:List (List UInt8)),cq l idx (c9 ks 0,c9 vs 0)=(c9 (keyP l idx ks) 0,c9 (keyV l idx vs) 0)
 | [],_,_=>rfl
 | i::idx,ks,vs=>by
  show cq l idx (numP (c9 ks 0) (opN l i),numV (c9 vs 0) (opN l i))=_
  rw[tP,tO,lJ l idx]
  rfl
theorem qw (l:List HOp):∀(idx:List Nat) (ks:List Int),ks.Nodup→(keyP l idx ks).Nodup∧(∀k∈ks,k∈keyP l idx ks)∧(∀i∈idx,(opN l i).op.kind≠3→(opN l i).op.index∈keyP l idx ks)∧(keyP l idx ks).length≤ks.length+idx.length
 | [],ks,h=>⟨h,fun _ h=>h,(fun _ h=>by cases h),Nat.le_refl _⟩
 | i::idx,ks,h=>by
  have h0:(if (opN l i).op.kind=3 then ks else addK ks (opN l i).op.index).Nodup:=by split; exact h; exact nu _ h
  obtain⟨h1,h2,h3,h4⟩:=qw l idx _ h0
  refine⟨h1,fun k hk=>h2 k (by split; exact hk; exact kU.2 (.inl hk)),fun j hj hk=>?_,?_⟩
  ·rcases List.mem_cons.1 hj with rfl | hj
   ·exact h2 _ (by rw[if_neg hk]; exact kU.2 (.inr rfl))
   ·exact h3 j hj hk
  ·refine Nat.le_trans h4 ?_
   have:=q7 ks (opN l i).op.index
   rw[List.length_cons]
   split <;> omega
theorem qv (l:List HOp):∀(idx:List Nat) (ks:List (List UInt8)),ks.Nodup→(keyV l idx ks).Nodup∧(∀k∈ks,k∈keyV l idx ks)∧(∀i∈idx,(opN l i).op.kind≠3→numB (opN l i)∈keyV l idx ks)∧(keyV l idx ks).length≤ks.length+idx.length∧(∀k0:List UInt8,ks[0]?=some k0→(keyV l idx ks)[0]?=some k0)
 | [],ks,h=>⟨h,fun _ h=>h,(fun _ h=>by cases h),Nat.le_refl _,fun _ h=>h⟩
 | i::idx,ks,h=>by
  have h0:(if (opN l i).op.kind=3 then ks else addK ks (numB (opN l i))).Nodup:=by split; exact h; exact nu _ h
  obtain⟨h1,h2,h3,h4,h5⟩:=qv l idx _ h0
  refine⟨h1,fun k hk=>h2 k (by split; exact hk; exact kU.2 (.inl hk)),fun j hj hk=>?_,?_,fun k0 hk0=>h5 k0 ?_⟩
  ·rcases List.mem_cons.1 hj with rfl | hj
   ·exact h2 _ (by rw[if_neg hk]; exact kU.2 (.inr rfl))
   ·exact h3 j hj hk
  ·refine Nat.le_trans h4 ?_
   have:=q7 ks (numB (opN l i))
   rw[List.length_cons]
   split <;> omega
  ·split
   ·exact hk0
   ·unfold addK
    split
    ·exact hk0
    ·rw[List.getElem?_append_left (List.getElem?_eq_some_iff.1 hk0).1]; exact hk0
theorem mv (p:HOp→Bool):∀(l:List HOp) (i:Nat),(selI p l i).length=l.countP p
 | [],_=>rfl
 | o::l,i=>by
  unfold selI
  rw[List.countP_cons]
  split
  ·rename_i h; rw[List.length_cons,mv p l]
  ·rename_i h; rw[mv p l]; rfl
theorem mu {p:HOp→Bool} {x:Nat}:∀(l:List HOp) (i:Nat),x∈selI p l i↔i≤x∧∃o,l[x-i]?=some o∧p o=true
 | [],i=>by simp[selI]
 | o::l,i=>by
  have ih:=mu (p:=p) (x:=x) l (i+1)
  have key:(i≤x∧∃o',(o::l)[x-i]?=some o'∧p o'=true)↔(x=i∧p o=true)∨(i+1≤x∧∃o',l[x-(i+1)]?=some o'∧p o'=true):=by
   by_cases e:x=i
   ·subst e
    simp
    omega
   ·constructor
    ·rintro⟨h,o',h1,h2⟩
     refine .inr ⟨by omega,o',?_,h2⟩
     rwa [show x-i=(x-(i+1))+1 by omega,List.getElem?_cons_succ]at h1
    ·rintro (⟨h,_⟩ | ⟨h,o',h1,h2⟩)
     ·exact absurd h e
     ·refine⟨by omega,o',?_,h2⟩
      rwa [show x-i=(x-(i+1))+1 by omega,List.getElem?_cons_succ]
  rw[key]
  unfold selI
  split
  ·rename_i h
   rw[List.mem_cons,ih]
   constructor
   ·rintro (h' | h'); exact .inl ⟨h',h⟩; exact .inr h'
   ·rintro (⟨h',_⟩ | h'); exact .inl h'; exact .inr h'
  ·rename_i h
   rw[ih]
   constructor
   ·exact .inr
   ·rintro (⟨_,h'⟩ | h'); exact absurd h' h; exact h'
theorem cS {l:List HOp} {b:Int} {k i:Nat}:i∈mayI l b k ↔ ∃o,l[i]?=some o∧o.era=(k:Int)∧mayB o b=true:=by
 rw[mayI,mu]
 simp only[Nat.zero_le,true_and,Nat.sub_zero,eraB,Bool.and_eq_true,decide_eq_true_eq]
theorem kP {l:List HOp} {b:Int} {k i:Nat}:i∈badI l b k ↔ ∃o,l[i]?=some o∧o.era=(k:Int)∧bL o=true∧mayB o b=false:=by
 rw[badI,mu]
 simp only[Nat.zero_le,true_and,Nat.sub_zero,eraB,Bool.and_eq_true,decide_eq_true_eq,Bool.not_eq_true',and_assoc]
def sumM (l:List HOp) (b:Int):Nat→Nat
 | 0=>0
 | k+1=>sumM l b k+(mayI l b k).length
theorem sI (l:List HOp) (b:Int):∀e,sumM l b e≤l.countP fun o=>decide (o.era<(e:Int))
 | 0=>Nat.zero_le _
 | k+1=>by
  have ih:=sI l b k
  have h1:(mayI l b k).length≤l.countP fun o=>decide (o.era=(k:Int)):=by
   rw[mayI,mv]
   exact List.countP_mono_left fun o _ h=>by
    simp only[eraB,Bool.and_eq_true]at h
    exact h.1
  have h2:∀l:List HOp,(l.countP fun o=>decide (o.era<(k:Int)))+(l.countP fun o=>decide (o.era=(k:Int)))=l.countP fun o=>decide (o.era<((k+1:Nat):Int)):=by
   intro l
   induction l with
   | nil=>rfl
   | cons o l ih =>
    simp only[List.countP_cons,decide_eq_true_eq]
    rw[←ih]
    by_cases h1:o.era<(k:Int)
    ·rw[if_pos h1,if_neg (by omega),if_pos (by omega)]; omega
    ·by_cases h2:o.era=(k:Int)
     ·rw[if_neg h1,if_pos h2,if_pos (by omega)]; omega
     ·rw[if_neg h1,if_neg h2,if_neg (by omega)]; omega
  have:=h2 l
  unfold sumM
  omega
theorem mn (l:List HOp) (b:Int) (e:Nat):sumM l b e≤l.length:=Nat.le_trans (sI l b e) List.countP_le_length
theorem gI {κ ν:Type} [DecidableEq κ] (k:κ) (v:ν) (i:κ):∀(l:List (κ×ν)),getA (putA l k v) i=if i=k then some v else getA l i
 | []=>by by_cases h:i=k <;> simp[putA,getA,h]
 | (k',v')::l=>by
  by_cases h:k=k'
  ·subst h
   by_cases h2:i=k <;> simp[putA,getA,h2]
  ·have ih:=gI k v i l
   simp only[putA,if_neg h,getA]
   by_cases h2:i=k'
   ·have:¬i=k:=fun e=>h (e.symm.trans h2)
    rw[if_pos h2,if_neg this,if_pos h2]
   ·rw[if_neg h2,ih,if_neg h2]
theorem ij {m:co} {i i':Int} (hne:i'≠i) (c:List Int):getA (addL m i c) i'=getA m i':=by
 cases c with
 | nil=>rfl
 | cons c cs =>
  unfold addL
  induction m with
  | nil=>simp[getA,hne]
  | cons q m ih =>
   obtain⟨k,v⟩:=q
   simp only[List.cons_append,getA]
   split
   ·rfl
   ·exact ih
theorem m8 {m:co} {i:Int} (h:getA m i=none) (c:List Int):(getA (addL m i c) i).getD []=c:=by
 cases c with
 | nil=>rw[addL,h]; rfl
 | cons c cs =>
  unfold addL
  induction m with
  | nil=>simp[getA]
  | cons q m ih =>
   obtain⟨k,v⟩:=q
   simp only[getA]at h
   split at h
   ·cases h
   ·rename_i hne
    simp only[List.cons_append,getA,if_neg hne]
    exact ih h
theorem mH (l:List HOp) (M:List Nat):∀(idx:List Nat) (q:co×co) (i:Nat),idx.Nodup→(∀j∈idx,getA q.1 (j:Int)=none∧getA q.2 (j:Int)=none) →
  (i∈idx→(getA (ek l M idx q).1 (i:Int)).getD []=posN (afB l i) M M.length∧(getA (ek l M idx q).2 (i:Int)).getD []=posN (ahB l i) M M.length) ∧
  (i ∉ idx→getA (ek l M idx q).1 (i:Int)=getA q.1 (i:Int)∧getA (ek l M idx q).2 (i:Int)=getA q.2 (i:Int))
 | [],q,i,_,_=>⟨fun h=>(by cases h),fun _=>⟨rfl,rfl⟩⟩
 | x::idx,q,i,hn,hf=>by
  obtain⟨hx,hn⟩:=List.nodup_cons.1 hn
  have hne:∀j∈idx,(j:Int)≠(x:Int):=fun j hj e=>hx ((show j=x by omega) ▸ hj)
  have hf':∀j∈idx,getA (ordF l M q x).1 (j:Int)=none∧getA (ordF l M q x).2 (j:Int)=none:=fun j hj=>by
   have:=hf j (List.mem_cons_of_mem _ hj)
   exact⟨by rw[ordF,ij (hne j hj)]; exact this.1,by rw[ordF,ij (hne j hj)]; exact this.2⟩
  obtain⟨h1,h2⟩:=mH l M idx (ordF l M q x) i hn hf'
  refine⟨fun hi=>?_,fun hi=>?_⟩
  ·rcases List.mem_cons.1 hi with rfl | hi
   ·obtain⟨h3,h4⟩:=h2 hx
    have h5:=hf i List.mem_cons_self
    show (getA (ek l M idx (ordF l M q i)).1 _).getD []=_∧(getA (ek l M idx (ordF l M q i)).2 _).getD []=_
    rw[h3,h4]
    exact⟨m8 h5.1 _,m8 h5.2 _⟩
   ·exact h1 hi
  ·simp only[List.mem_cons,not_or]at hi
   obtain⟨h3,h4⟩:=h2 hi.2
   have hxi:(i:Int)≠(x:Int):=fun e=>hi.1 (by omega)
   show getA (ek l M idx (ordF l M q x)).1 _=_∧getA (ek l M idx (ordF l M q x)).2 _=_
   rw[h3,h4,ordF]
   exact⟨ij hxi _,ij hxi _⟩
theorem sK (l:List HOp) (x:Nat):∀(M:List Nat) (s:dj) (i:Nat),(getA (M.foldl (stF l x) s) (i:Int)).getD false=((getA s (i:Int)).getD false||(decide (i∈M)&&befB (opN l x) (opN l i)))
 | [],s,i=>by simp
 | m::M,s,i=>by
  rw[List.foldl_cons,sK l x M _ i]
  unfold stF
  rw[gI]
  by_cases e:i=m
  ·subst e
   rw[if_pos rfl]
   simp only[Option.getD_some,List.mem_cons,true_or,decide_true,Bool.true_and]
   cases (getA s (i:Int)).getD false <;> cases befB (opN l x) (opN l i) <;> simp
  ·rw[if_neg (by omega)]
   simp only[List.mem_cons,e,false_or]
theorem nq (l:List HOp) (M:List Nat) (k:Nat):∀(idx:List Nat) (q:dj×dj) (i:Int) (j:Nat),
  (getA (cR l M k idx q).1 i).getD false=((getA q.1 i).getD false||(decide (i=(k:Int)) && !idx.isEmpty)) ∧
  (getA (cR l M k idx q).2 (j:Int)).getD false=((getA q.2 (j:Int)).getD false||(decide (j∈M)&&idx.any fun x=>befB (opN l x) (opN l j)))
 | [],q,i,j=>by simp[cR]
 | x::idx,q,i,j=>by
  obtain⟨h1,h2⟩:=nq l M k idx (badF l M k q x) i j
  show (getA (cR l M k idx (badF l M k q x)).1 i).getD false=_∧(getA (cR l M k idx (badF l M k q x)).2 (j:Int)).getD false=_
  rw[h1,h2,badF]
  simp only
  rw[gI,sK]
  constructor
  ·by_cases e:i=(k:Int)
   ·simp[e]
   ·simp[e]
  ·simp only[List.any_cons]
   cases (getA q.2 (j:Int)).getD false <;> cases decide (j∈M) <;> cases befB (opN l x) (opN l j) <;> simp
structure fL (l:List HOp) (b:Int) (e:Nat) (p:Prep) (ks:List Int) (kv:List (List UInt8)):Prop where
 ops:p.ops.length=e
 opk:∀k,k<e→p.ops[k]?=some (zs (mayI l b k))
 pl:p.pl=c9 ks 0
 vs:p.vs=c9 kv 0
 knd:ks.Nodup
 vnd:kv.Nodup
 vz:kv[0]?=some zBk
 kl:ks.length≤sumM l b e
 vl:kv.length≤sumM l b e+1
 kin:∀k,k<e→∀i∈mayI l b k,(opN l i).op.kind≠3→(opN l i).op.index∈ks∧numB (opN l i)∈kv
 af:∀k,k<e→∀i∈mayI l b k,(getA p.af (i:Int)).getD []=posN (afB l i) (mayI l b k) (mayI l b k).length
 ah:∀k,k<e→∀i∈mayI l b k,(getA p.ah (i:Int)).getD []=posN (ahB l i) (mayI l b k) (mayI l b k).length
 lo:∀k:Nat,(getA p.lo (k:Int)).getD false=(decide (k<e) && !(badI l b k).isEmpty)
 st:∀k,k<e→∀i∈mayI l b k,(getA p.st (i:Int)).getD false=(badI l b k).any fun x=>befB (opN l x) (opN l i)
 fresh:∀(i:Nat) (o:HOp),l[i]?=some o→(e:Int)≤o.era→getA p.af (i:Int)=none∧getA p.ah (i:Int)=none∧(getA p.st (i:Int)).getD false=false
theorem rV (l:List HOp) (b:Int) (k:Nat):(mayI l b k).Nodup:=ko l 0
theorem fH (l:List HOp) (b:Int):∀e,∃ks vs,fL l b e (cP l b e) ks vs
 | 0=>⟨[],[zBk],rfl,fun k h=>by omega,rfl,rfl,List.nodup_nil,by simp,rfl,Nat.le_refl _,Nat.le_refl _,fun k h=>by omega,fun k h=>by omega,fun k h=>by omega,fun k=>by simp[cP,ku,getA],fun k h=>by omega,fun _ _ _ _=>⟨rfl,rfl,rfl⟩⟩
 | e+1=>by
  obtain⟨ks,vs,F⟩:=fH l b e
  have hK:=qw l (mayI l b e) ks F.knd
  have hV:=qv l (mayI l b e) vs F.vnd
  have hN:=lJ l (mayI l b e) ks vs
  have hfr:∀j∈mayI l b e,getA (cP l b e).af (j:Int)=none∧getA (cP l b e).ah (j:Int)=none:=fun j hj=>by
   obtain⟨o,h1,h2,_⟩:=cS.1 hj
   have:=F.fresh j o h1 (by omega)
   exact⟨this.1,this.2.1⟩
  have hO:=fun i=>mH l (mayI l b e) (mayI l b e) ((cP l b e).af,(cP l b e).ah) i (rV l b e) hfr
  have hB:=fun i j=>nq l (mayI l b e) e (badI l b e) ((cP l b e).lo,(cP l b e).st) i j
  have hdis:∀k,k<e→∀i∈mayI l b k,i ∉ mayI l b e:=fun k hk i hi hi'=>by
   obtain⟨o,h1,h2,_⟩:=cS.1 hi
   obtain⟨o',h1',h2',_⟩:=cS.1 hi'
   rw[h1]at h1'
   cases h1'
   omega
  refine⟨keyP l (mayI l b e) ks,keyV l (mayI l b e) vs,?_,fun k hk=>?_,?_,?_,hK.1,hV.1,hV.2.2.2.2 _ F.vz,?_,?_,fun k hk i hi h3=>?_,fun k hk i hi=>?_,fun k hk i hi=>?_,fun k=>?_,fun k hk i hi=>?_,fun i o hi hle=>?_⟩
  ·simp[cP,eraP,F.ops]
  ·show ((cP l b e).ops++[zs (mayI l b e)])[k]?=_
   by_cases h:k<e
   ·rw[List.getElem?_append_left (by rw[F.ops]; exact h),F.opk k h]
   ·have:k=e:=by omega
    subst this
    rw[List.getElem?_append_right (by rw[F.ops]; exact Nat.le_refl _),F.ops,Nat.sub_self]; rfl
  ·show (cq l (mayI l b e) ((cP l b e).pl,(cP l b e).vs)).1=_
   rw[F.pl,F.vs,hN]
  ·show (cq l (mayI l b e) ((cP l b e).pl,(cP l b e).vs)).2=_
   rw[F.pl,F.vs,hN]
  ·have:=hK.2.2.2; have:=F.kl; unfold sumM; omega
  ·have:=hV.2.2.2.1; have:=F.vl; unfold sumM; omega
  ·by_cases h:k<e
   ·have:=F.kin k h i hi h3
    exact⟨hK.2.1 _ this.1,hV.2.1 _ this.2⟩
   ·have:k=e:=by omega
    subst this
    exact⟨hK.2.2.1 i hi h3,hV.2.2.1 i hi h3⟩
  ·by_cases h:k<e
   ·exact (congrArg (·.getD []) ((hO i).2 (hdis k h i hi)).1).trans (F.af k h i hi)
   ·have:k=e:=by omega
    subst this
    exact ((hO i).1 hi).1
  ·by_cases h:k<e
   ·exact (congrArg (·.getD []) ((hO i).2 (hdis k h i hi)).2).trans (F.ah k h i hi)
   ·have:k=e:=by omega
    subst this
    exact ((hO i).1 hi).2
  ·refine (hB k 0).1.trans ?_
   simp only
   rw[F.lo]
   by_cases h:k=e
   ·subst h
    simp
   ·have h2:decide (((k:Nat):Int)=(e:Int))=false:=dF (by omega)
    rw[h2]
    by_cases h3:k<e
    ·rw[dT h3,dT (by omega:k<e+1)]; simp
    ·rw[dF h3,dF (by omega:¬k<e+1)]; simp
  ·refine (hB 0 i).2.trans ?_
   simp only
   by_cases h:k<e
   ·rw[F.st k h i hi,dF (hdis k h i hi)]; simp
   ·have:k=e:=by omega
    subst this
    obtain⟨o,h1,h2,_⟩:=cS.1 hi
    rw[(F.fresh i o h1 (by omega)).2.2,dT hi]; simp
  ·have hni:i ∉ mayI l b e:=fun h=>by
    obtain⟨o',h1,h2,_⟩:=cS.1 h
    rw[hi]at h1
    cases h1
    omega
   have h4:=F.fresh i o hi (by omega)
   refine⟨((hO i).2 hni).1.trans h4.1,((hO i).2 hni).2.trans h4.2.1,?_⟩
   refine (hB 0 i).2.trans ?_
   simp only
   rw[h4.2.2,dF hni]; simp
theorem iW {p:Nat→Bool} {M:List Nat} {j:Int}:∀s,j∈posN p M s ↔ ∃k:Nat,j=k∧k<s∧p ((M[k]?).getD 0)=true
 | 0=>by simp[posN]
 | s+1=>by
  have ih:=iW (p:=p) (M:=M) (j:=j) s
  unfold posN
  split
  ·rename_i h
   rw[List.mem_append,ih,List.mem_singleton]
   constructor
   ·rintro (⟨k,h1,h2,h3⟩ | h')
    ·exact⟨k,h1,by omega,h3⟩
    ·exact⟨s,h',by omega,h⟩
   ·rintro⟨k,h1,h2,h3⟩
    by_cases e:k=s
    ·exact .inr (e ▸ h1)
    ·exact .inl ⟨k,h1,by omega,h3⟩
  ·rename_i h
   rw[ih]
   constructor
   ·rintro⟨k,h1,h2,h3⟩; exact⟨k,h1,by omega,h3⟩
   ·rintro⟨k,h1,h2,h3⟩
    by_cases e:k=s
    ·subst e; exact absurd h3 h
    ·exact⟨k,h1,by omega,h3⟩
theorem jB {o:HOp} {b:Int} (h:mayB o b=true):(o.op.kind=1∨o.op.kind=2∨o.op.kind=3)∧(o.op.kind=2→o.op.data.length=32)∧(o.op.kind≠3→0≤o.op.index∧o.op.index<b):=by
 simp only[mayB,Bool.and_eq_true,Bool.not_eq_true']at h
 have h:=h.1
 unfold badO outO at h
 split at h
 ·rename_i h1
  simp only[Bool.or_eq_false_iff,decide_eq_false_iff_not]at h
  exact⟨.inl h1,fun e=>by omega,fun _=>by omega⟩
 ·split at h
  ·rename_i h2
   simp only[Bool.or_eq_false_iff,decide_eq_false_iff_not,Bool.not_eq_false',decide_eq_true_eq]at h
   exact⟨.inr (.inl h2),fun _=>h.2,fun _=>by omega⟩
  ·simp only[Bool.not_eq_false',decide_eq_true_eq]at h
   exact⟨.inr (.inr h),fun e=>by omega,fun e=>absurd h e⟩
theorem fL.ok {l:List HOp} {b:Int} {e:Nat} {p:Prep} {ks:List Int} {vs:List (List UInt8)} (F:fL l b e p ks vs) (hl:l.length≤8192):POk l e p:=by
 have hs:=mn l b e
 have hkl:=F.kl
 have hvl:=F.vl
 have getE:∀ {κ:Type} [DecidableEq κ] (ks:List κ) (k:κ),0≤(getA (c9 ks 0) k).getD 0∧(getA (c9 ks 0) k).getD 0≤ks.length:=fun ks k=>by
  by_cases h:k∈ks
  ·obtain⟨j,h1,_,h3⟩:=eH ks 0 h
   have:=(List.getElem?_eq_some_iff.1 h1).1
   rw[h3]; simp only[Option.getD_some]; omega
  ·rw[im ks 0 h]; simp
 have hz:∀z∈p.ops,∃k,k<e∧z=zs (mayI l b k):=fun z hz=>by
  obtain⟨k,hk⟩:=List.mem_iff_getElem?.1 hz
  have hlt:=(List.getElem?_eq_some_iff.1 hk).1
  rw[F.ops]at hlt
  rw[F.opk k hlt]at hk
  exact⟨k,hlt,(Option.some.inj hk).symm⟩
 have hmem:∀z∈p.ops,∀i∈z,∃(k:Nat) (j:Nat),k<e∧z=zs (mayI l b k)∧i=(j:Int)∧j∈mayI l b k:=fun z hzz i hi=>by
  obtain⟨k,hk,rfl⟩:=hz z hzz
  obtain⟨j,hj,rfl⟩:=List.mem_map.1 hi
  exact⟨k,j,hk,rfl,rfl,hj⟩
 refine⟨F.ops,by rw[F.pl,eK]; omega,fun k=>by have:=getE ks k; rw[F.pl]; omega,fun k=>by rw[F.vs]; exact (getE vs k).1,fun z hzz=>?_,fun z hzz i hi=>?_,fun z hzz i hi j hj=>?_,fun z hzz i hi j hj=>?_,fun z hzz i hi=>?_,fun z hzz i hi=>?_⟩
 ·obtain⟨k,hk,rfl⟩:=hz z hzz
  have:=fi (eraB k (fun o=>mayB o b)) l 0
  rw[eN,mayI]; omega
 ·obtain⟨k,j,hk,rfl,rfl,hj⟩:=hmem z hzz i hi
  obtain⟨o,h1,h2,h3⟩:=cS.1 hj
  have hop:opN l j=o:=by rw[opN,h1]; rfl
  obtain⟨m1,m2,m3⟩:=jB h3
  refine⟨by omega,o,by rw[Int.toNat_natCast]; exact h1,m1,fun hk3=>?_,m2⟩
  have:=(F.kin k hk j hj (by rw[hop]; exact hk3)).1
  rw[hop]at this
  obtain⟨j',h4,_,h5⟩:=eH ks 0 this
  have:=(List.getElem?_eq_some_iff.1 h4).1
  rw[F.pl,eK,plN,h5]
  simp only[Option.getD_some]; omega
 ·obtain⟨k,i',hk,rfl,rfl,hi'⟩:=hmem z hzz i hi
  rw[F.af k hk i' hi',iW]at hj
  obtain⟨j',rfl,h2,_⟩:=hj
  rw[eN]; omega
 ·obtain⟨k,i',hk,rfl,rfl,hi'⟩:=hmem z hzz i hi
  rw[F.ah k hk i' hi',iW]at hj
  obtain⟨j',rfl,h2,_⟩:=hj
  rw[eN]; omega
 ·obtain⟨k,i',hk,rfl,rfl,hi'⟩:=hmem z hzz i hi
  have h1:=iV (afB l i') (mayI l b k) (mayI l b k).length
  have h2:=fi (eraB k (fun o=>mayB o b)) l 0
  rw[F.af k hk i' hi']
  rw[mayI]at h1 ⊢
  omega
 ·obtain⟨k,i',hk,rfl,rfl,hi'⟩:=hmem z hzz i hi
  have h1:=iV (ahB l i') (mayI l b k) (mayI l b k).length
  have h2:=fi (eraB k (fun o=>mayB o b)) l 0
  rw[F.ah k hk i' hi']
  rw[mayI]at h1 ⊢
  omega
end Go.Proofs.Ytkehohfgbblokaa
namespace Go.Eng
open Go.RowKit
def RegT (T:List bu→Prop) (P:Program) (all:List Oper) (sz:Nat) (l:List Oper) (n:Nat) (env:Env) (h:Upds) (acc:List bu) (K:Env→Upds→Nat→Prop):Prop :=
 ∃fs:List bu,fs.map (·.op)=l∧T (acc.reverse++fs)∧cY P all sz fs n env h K
def BG (P:Program) (all:List Oper) (i0 j0 n:Nat) (env:Env) (h:Upds) (fs:List bu):Prop :=
 ∃f g,fs[i0]?=some f∧fs[j0]?=some g∧i0<j0∧f.u=[]∧kK [] [] (fs.set i0 { f with rows:=[] })=true∧kK [] [] (fs.set j0 { g with u:=[] })=true ∧
  OpIs P all f.op (only f.looks (accS (fun j=>Nat.blt j i0) 0 (fs.map (·.envU)) env)) (only f.rows (g.u++accS (fun j=>Nat.blt j i0) 0 (fs.map (·.u)) h)) (n+8*i0) f.v []
section
variable {P : Program} {sz : Nat} {env : Env} {h : Upds} {n : Nat} {all l : List Oper} {acc : List bu} {K : Env → Upds → Nat → Prop} {T : List bu → Prop} {Q : Exit → St → Prop}
theorem yR (hd:T acc.reverse) (hk:Q .normal ⟨env,h,n,sz,64⟩):RegT T P all sz [] n env h acc (RegK Q sz):=⟨[],rfl,by simpa using hd,hk⟩
theorem BB {o:Oper} (f:bu) (hop:f.op=o) (hd:dU o.dst sz=true) (ho:OpIs P all o (only f.looks env) (only f.rows h) n f.v f.u) (h1:RegT T P all sz l (n+8) (f.envU++env) (f.u++h) (f::acc) K):RegT T P all sz (o::l) n env h acc K:=by
 subst hop
 obtain⟨fs,rfl,h2,h3⟩:=h1
 exact⟨f::fs,rfl,by simpa using h2,⟨hd,ho⟩,h3⟩
theorem qM {d:Option Tmp} {op:Op} {ty:TypeId} {pos:String} {af:Array Edge} {gd:Option (Nat×Bool)} {v:Option AV} {u:Upds} {env':Env} {h':Upds} (looks rows:List Nat) (hd:dU d sz=true) (ho:OpIs P all ⟨d,op,ty,pos,af,gd⟩ (only looks env) (only rows h) n v u)
  (he:putE d v env=env') (hh:u++h=h') (h1:RegT T P all sz l (n+8) env' h' (⟨⟨d,op,ty,pos,af,gd⟩,looks,rows,v,u⟩::acc) K):RegT T P all sz (⟨d,op,ty,pos,af,gd⟩::l) n env h acc K:=by
 refine BB ⟨⟨d,op,ty,pos,af,gd⟩,looks,rows,v,u⟩ rfl hd ho ?_
 have:bu.envU ⟨⟨d,op,ty,pos,af,gd⟩,looks,rows,v,u⟩++env=env':=by rw[←he]; cases d <;> rfl
 rw[this,hh]
 exact h1
theorem dt_q (ks rs:List Nat) {d:Tmp} {op:Op} {ty:TypeId} {pos:String} {af:Array Edge} {v:AV} (hd:Nat.blt d sz=true)
  (hs:aj P op (only ks env) (only rs h) n (some v) [])
  (h1:RegT T P all sz l (n+8) ((d,v)::env) h (⟨⟨some d,op,ty,pos,af,none⟩,ks,rs,some v,[]⟩::acc) K):RegT T P all sz (⟨some d,op,ty,pos,af,none⟩::l) n env h acc K :=
 qM _ _ hd (.plain hs) rfl rfl h1
theorem dt_w (ks rs:List Nat) {d:Tmp} {op:Op} {ty:TypeId} {pos:String} {af:Array Edge} {v:AV} {x:Nat×Option Row} (hd:Nat.blt d sz=true)
  (hs:aj P op (only ks env) (only rs h) n (some v) [x])
  (h1:RegT T P all sz l (n+8) ((d,v)::env) (x::h) (⟨⟨some d,op,ty,pos,af,none⟩,ks,rs,some v,[x]⟩::acc) K):RegT T P all sz (⟨some d,op,ty,pos,af,none⟩::l) n env h acc K :=
 qM _ _ hd (.plain hs) rfl rfl h1
theorem BA (ks rs:List Nat) {d:Tmp} {op:Op} {ty:TypeId} {pos:String} {af:Array Edge} {v:AV} {x y:Nat×Option Row} (hd:Nat.blt d sz=true)
  (hs:aj P op (only ks env) (only rs h) n (some v) [x,y])
  (h1:RegT T P all sz l (n+8) ((d,v)::env) (x::y::h) (⟨⟨some d,op,ty,pos,af,none⟩,ks,rs,some v,[x,y]⟩::acc) K):RegT T P all sz (⟨some d,op,ty,pos,af,none⟩::l) n env h acc K :=
 qM _ _ hd (.plain hs) rfl rfl h1
theorem dt_s (ks rs:List Nat) {op:Op} {ty:TypeId} {pos:String} {af:Array Edge} {x:Nat×Option Row}
  (hs:aj P op (only ks env) (only rs h) n none [x])
  (h1:RegT T P all sz l (n+8) env (x::h) (⟨⟨none,op,ty,pos,af,none⟩,ks,rs,none,[x]⟩::acc) K):RegT T P all sz (⟨none,op,ty,pos,af,none⟩::l) n env h acc K :=
 qM _ _ rfl (.plain hs) rfl rfl h1
theorem uI (i0 j0:Nat) (hm:P.follows .mixedOrders=true) {id n:Nat} {ops:Array Oper} {Q:Exit→St→Prop} {env:Env} {h:Upds} (hd:RegT (BG P ops.toList i0 j0 n env h) P ops.toList sz ops.toList n env h [] (RegK Q sz)):WC P sz (.region id ops true) Q env h n:=by
 intro C σ w a hst
 obtain⟨gs,hgs,hTol,hok⟩:=hd
 simp only[List.reverse_nil,List.nil_append]at hTol
 obtain⟨f0,g0,hf0,hg0,hij0,hu0,hdr,hdB,hT⟩:=hTol
 obtain⟨prB,hDB⟩:=jK _ [] [] rfl (by simpa using hdB) ⟨fun j g hj=>by simp at hj,fun j g hj=>by simp at hj,fun i j f g hi=>by simp at hi⟩
 simp only[List.nil_append]at hDB
 have hi0l:=(List.getElem?_eq_some_iff.1 hf0).1
 have hj0l:=(List.getElem?_eq_some_iff.1 hg0).1
 obtain⟨fs,hfsd⟩:∃fs,fs=gs.set i0 { f0 with rows:=[] }:=⟨_,rfl⟩
 have hset:∀ {β:Type 1} (q:bu→β),q { f0 with rows:=[] }=q f0→(gs.set i0 { f0 with rows:=[] }).map q=gs.map q:=fun q hq=>by
  rw[List.map_set,hq]
  refine List.ext_getElem? fun i=>?_
  by_cases e:i0=i
  ·subst e
   rw[List.getElem?_set_self (by simpa using hi0l),List.getElem?_map,hf0]; rfl
  ·rw[List.getElem?_set_ne e]
 have hmE:fs.map (·.envU)=gs.map (·.envU):=by rw[hfsd]; exact hset (·.envU) rfl
 have hmU:fs.map (·.u)=gs.map (·.u):=by rw[hfsd]; exact hset (·.u) rfl
 have hfs:fs.map (·.op)=ops.toList:=by
  rw[←hgs,hfsd,List.map_set]
  refine List.ext_getElem? fun i=>?_
  by_cases e:i0=i
  ·subst e
   rw[List.getElem?_set_self (by simpa using hi0l),List.getElem?_map,hf0]; rfl
  ·rw[List.getElem?_set_ne e]
 have hBop:(gs.set j0 { g0 with u:=[] }).map (·.op)=ops.toList:=by
  rw[←hgs,List.map_set]
  refine List.ext_getElem? fun i=>?_
  by_cases e:j0=i
  ·subst e
   rw[List.getElem?_set_self (by simpa using hj0l),List.getElem?_map,hg0]; rfl
  ·rw[List.getElem?_set_ne e]
 rw[←hfsd]at hdr
 have hfg:∀i f,fs[i]?=some f→i≠i0→gs[i]?=some f:=fun i f hi hne=>by
  rw[hfsd,List.getElem?_set_ne (Ne.symm hne)]at hi; exact hi
 have hfi:fs[i0]?=some { f0 with rows:=[] }:=by rw[hfsd,List.getElem?_set_self hi0l]
 obtain⟨pr,hD⟩:=jK fs [] [] rfl (by simpa using hdr) ⟨fun j g hj=>by simp at hj,fun j g hj=>by simp at hj,fun i j f g hi=>by simp at hi⟩
 simp only[List.nil_append]at hD
 have hop:∀(i:Nat) (o:Oper),ops[i]?=some o→∃f:bu,fs[i]?=some f∧f.op=o:=fun i o hi=>by
  have h1:(fs.map (·.op))[i]?=some o:=by rw[hfs]; simpa using hi
  simpa using h1
 have hlen:fs.length=ops.size:=by have:=congrArg List.length hfs; simpa using this
 have hop':∀(i:Nat) (f:bu),fs[i]?=some f→ops[i]?=some f.op:=fun i f hi=>by
  have h1:(fs.map (·.op))[i]?=some f.op:=by simp[hi]
  rw[hfs]at h1; simpa using h1
 refine wpIn_region_any hm ?_
 let S (listed:Array Bool):Nat→Bool:=fun i=>listed.getD i false
 let stOf (listed:Array Bool):St:=⟨accS (S listed) 0 (fs.map (·.envU)) env,accS (S listed) 0 (fs.map (·.u)) h,0,sz,64⟩
 have key:∀(fuel:Nat) (listed:Array Bool) (a:Act) (w:World) (σ:aF) (G:Nat→Prop),listed.size=ops.size→(∀j g,fs[j]?=some g→S listed j=true→∀e∈g.op.after.toList,fa e=true→S listed e.on=true) →
   aD C G (stOf listed) σ w a→(∀r,G r→r<n∨∃i,S listed i=true∧n+8*i≤r∧r<n+8*i+8)→((List.range ops.size).filter fun i => !S listed i).length≤fuel →
   wpAnyIn (fen C.ro) 0 P .any ops (Lift C Q) fuel listed a w:=by
  have hdone:∀(listed:Array Bool) (a:Act) (w:World) (σ:aF) (G:Nat→Prop),listed.size=ops.size→aD C G (stOf listed) σ w a→(∀r,G r→r<n∨∃i,S listed i=true∧n+8*i≤r∧r<n+8*i+8) →
    (∀i,i<ops.size→S listed i=true)→Lift C Q .normal a w:=by
   intro listed a w σ G hsz hst hG hall
   refine⟨_,σ,(by have:=cY.end gs 0 n env h hok; rw[←hmE,←hmU,show gs.length=fs.length by rw[hfsd,List.length_set]]at this; exact this),?_⟩
   have hcong:∀ {β:Type 1} (g:bu→List (Nat×β)) (e:List (Nat×β)) (t:Nat),lk (accS (fun _=>true) 0 (fs.map g) e) t=lk (accS (S listed) 0 (fs.map g) e) t:=fun g e t =>
    dD _ 0 _ _ rfl fun j u hj _=>by
     have hlt:=(List.getElem?_eq_some_iff.1 hj).1
     simp at hlt
     rw[Nat.zero_add,hall j (by omega)]
   have h2:=(hst.grow (G':=fun r=>r<n+8*fs.length) fun r hr=>by
    rcases hG r hr with h1 | ⟨i,h1,h2,h3⟩
    ·omega
    ·have:i<listed.size:=by
      rcases Nat.lt_or_ge i listed.size with h4 | h4
      ·exact h4
      ·simp[S,h4]at h1
     omega)
   exact h2.congr (fun t=>hcong _ env t) (fun t=>hcong _ h t) rfl rfl
  have hready:∀(listed:Array Bool),listed.size=ops.size→Region.ready .any ops listed=[] → ∀i,i<ops.size→S listed i=true:=by
   intro listed hsz hr i
   induction i using Nat.strongRecOn with
   | _ i ih =>
    intro hi
    cases hS:S listed i
    ·exfalso
     have:i∈Region.ready .any ops listed:=by
      refine mem_ready.2 ⟨?_,ops[i],by simp[hi],fun e he hb=>?_⟩
      ·simp only[S,Array.getD_eq_getD_getElem?]at hS ⊢
       have:i<listed.size:=by omega
       simp[this]at hS ⊢
       exact hS
      ·obtain⟨f,hf,hfo⟩:=hop i ops[i] (by simp[hi])
       have hlt:=hD.back i f hf e (by rw[hfo]; simpa using he) hb
       exact ih e.on hlt (by omega)
     rw[hr]at this
     simp at this
    ·rfl
  intro fuel
  induction fuel with
  | zero =>
   intro listed a w σ G hsz hcl hst hG hcnt
   have hall:∀i,i<ops.size→S listed i=true:=fun i hi=>by
    have h0:((List.range ops.size).filter fun i => !S listed i)=[]:=List.eq_nil_of_length_eq_zero (by omega)
    have:=List.filter_eq_nil_iff.1 h0 i (List.mem_range.2 hi)
    simpa using this
   refine⟨?_,hdone listed a w σ G hsz hst hG hall⟩
   refine List.eq_nil_iff_forall_not_mem.2 fun i hi=>?_
   obtain⟨h0,o,ho,_⟩:=mem_ready.1 hi
   have hlt:i<ops.size:=(Array.getElem?_eq_some_iff.1 ho).1
   have:=hall i hlt
   have hlt':i<listed.size:=by omega
   simp only[S,Array.getD_eq_getD_getElem?]at this h0
   simp[hlt']at this h0
   rw[this]at h0; cases h0
  | succ fuel ih =>
   intro listed a w σ G hsz hcl hst hG hcnt
   refine⟨fun hr=>hdone listed a w σ G hsz hst hG (hready listed hsz hr),fun i hi=>?_⟩
   obtain⟨h0,o,ho,hpre⟩:=mem_ready.1 hi
   have hlt:i<ops.size:=(Array.getElem?_eq_some_iff.1 ho).1
   have hSi:S listed i=false:=by
    have hlt':i<listed.size:=by omega
    simp only[S,Array.getD_eq_getD_getElem?]at h0 ⊢
    simp[hlt']at h0 ⊢
    exact h0
   obtain⟨f,hf,hfo⟩:=hop i o ho
   subst hfo
   have hdst:dU f.op.dst sz=true:=by
    by_cases e:i=i0
    ·subst e
     rw[hfi]at hf
     cases hf
     exact (cY.at gs 0 n env h hok i f0 hf0).1
    ·exact (cY.at gs 0 n env h hok i f (hfg i f hf e)).1
   have hapG:∀(X:List bu) (pr:Nat→List Nat),pG X pr→X.map (·.op)=ops.toList→∀fX,X[i]?=some fX→∀(j:Nat) (g:bu),X[j]?=some g→S listed j≠Nat.blt j i→(j<i∧eI g fX=true)∨(i<j∧S listed j=true∧eI fX g=true):=by
    intro X pr hD hX fX hfX
    have hXop:∀(j:Nat) (g:bu),X[j]?=some g→ops[j]?=some g.op:=fun j g hj=>by
     have h1:(X.map (·.op))[j]?=some g.op:=by simp[hj]
     rw[hX]at h1; simpa using h1
    have hfX2:fX.op=f.op:=by
     have h1:=hXop i fX hfX
     rw[ho]at h1
     exact (Option.some.inj h1).symm
    have hXlen:X.length=ops.size:=by have:=congrArg List.length hX; simpa using this
    have hclX:∀(j:Nat) (g:bu),X[j]?=some g→S listed j=true→∀e∈g.op.after.toList,fa e=true→S listed e.on=true:=fun j g hj hSj e he hb=>by
     obtain⟨q,hq,hqo⟩:=hop j g.op (hXop j g hj)
     exact hcl j q hq hSj e (by rw[hqo]; exact he) hb
    have hclos:∀(j:Nat) (g:bu),X[j]?=some g→S listed j=true→∀k,k∈pr j→S listed k=true:=by
     intro j
     induction j using Nat.strongRecOn with
     | _ j ihj =>
      intro g hg hSj k hk
      obtain⟨e,he,hb,hor⟩:=hD.pred j g hg k hk
      have h1:=hclX j g hg hSj e he hb
      rcases hor with rfl | hk'
      ·exact h1
      ·have hlt:=hD.back j g hg e he hb
       have hjl:=(List.getElem?_eq_some_iff.1 hg).1
       exact ihj e.on hlt _ (List.getElem?_eq_getElem (by omega)) h1 k hk'
    have hpri:∀k,k∈pr i→S listed k=true:=fun k hk=>by
     obtain⟨e,he,hb,hor⟩:=hD.pred i fX hfX k hk
     have h1:S listed e.on=true:=hpre e (by rw[hfX2]at he; simpa using he) hb
     rcases hor with rfl | hk'
     ·exact h1
     ·have hlt:=hD.back i fX hfX e he hb
      exact hclos e.on _ (List.getElem?_eq_getElem (by omega)) h1 k hk'
    intro j g hg hne
    rcases Nat.lt_trichotomy j i with hji | rfl | hij
    ·refine .inl ⟨hji,?_⟩
     rcases hD.pair j i g fX hg hfX hji with h1 | h1
     ·exfalso
      have:=hpri j h1
      rw[this,show Nat.blt j i=true from Nat.ble_eq_true_of_le hji]at hne
      exact hne rfl
     ·exact h1
    ·exfalso
     apply hne
     rw[hSi]
     cases hb:Nat.blt j j
     ·rfl
     ·have:=Nat.le_of_ble_eq_true hb; omega
    ·refine .inr ⟨hij,?_⟩
     have hSj:S listed j=true:=by
      cases hs:S listed j
      ·exfalso
       apply hne
       rw[hs]
       cases hb:Nat.blt j i
       ·rfl
       ·have:=Nat.le_of_ble_eq_true hb; omega
      ·rfl
     refine⟨hSj,?_⟩
     rcases hD.pair i j fX g hfX hg hij with h1 | h1
     ·have:=hclos j g hg hSj i h1
      rw[hSi]at this; cases this
     ·exact h1
   have hap:=hapG fs pr hD hfs f hf
   have hget:∀ {β:Type 1} (q:bu→List (Nat×β)) j u,(fs.map q)[j]?=some u→∃g,fs[j]?=some g∧q g=u:=fun q j u hj=>by
    rw[List.getElem?_map]at hj
    cases hg:fs[j]? with
    | none=>rw[hg]at hj; cases hj
    | some g=>rw[hg]at hj; exact⟨g,by first | exact hg | rfl,by simpa using hj⟩
   have henv:∀t,t∈f.looks→lk (accS (fun j=>Nat.blt j (0+i)) 0 (fs.map (·.envU)) env) t=lk (accS (S listed) 0 (fs.map (·.envU)) env) t:=fun t ht =>
    dD _ 0 _ _ rfl fun j u hj hne=>by
     obtain⟨g,hg,rfl⟩:=hget _ j u hj
     simp only[Nat.zero_add]
     by_cases hs:S listed j=Nat.blt j i
     ·exact hs.symm
     ·exfalso
      have hmem:=jC hne
      rcases hap j g hg hs with ⟨_,h1⟩ | ⟨_,_,h1⟩
      ·exact cw (cd h1).1 t hmem ht
      ·exact cw (cd h1).2.1 t hmem ht
   have hrow:∀t,t∈f.rows→lk (accS (fun j=>Nat.blt j (0+i)) 0 (fs.map (·.u)) h) t=lk (accS (S listed) 0 (fs.map (·.u)) h) t:=fun t ht =>
    dD _ 0 _ _ rfl fun j u hj hne=>by
     obtain⟨g,hg,rfl⟩:=hget _ j u hj
     simp only[Nat.zero_add]
     by_cases hs:S listed j=Nat.blt j i
     ·exact hs.symm
     ·exfalso
      have hmem:=lk_keys' hne
      rcases hap j g hg hs with ⟨_,h1⟩ | ⟨_,_,h1⟩
      ·exact cw (cd h1).2.2.2.1 t hmem ht
      ·exact cw (cd h1).2.2.2.2.1 t hmem ht
   have hOpA:∃E H,OpIs P ops.toList f.op E H (n+8*i) f.v f.u∧fp E H (stOf listed):=by
    by_cases e:i=i0
    ·subst e
     rw[hfi]at hf
     cases hf
     obtain⟨_,hOp⟩:=cY.at gs 0 n env h hok i f0 hf0
     have hapB:=hapG _ prB hDB hBop f0 (by rw[List.getElem?_set_ne (by omega)]; exact hf0)
     have hotherB:∀(j:Nat) (g:bu),gs[j]?=some g→j≠j0→∀t,t∈f0.rows→lk g.u t≠none→S listed j=Nat.blt j i:=fun j g hg hne t ht hl=>by
      by_cases hs:S listed j=Nat.blt j i
      ·exact hs
      ·exfalso
       have hmem:=lk_keys' hl
       rcases hapB j g (by rw[List.getElem?_set_ne (Ne.symm hne)]; exact hg) hs with ⟨_,h1⟩ | ⟨_,_,h1⟩
       ·exact cw (cd h1).2.2.2.1 t hmem ht
       ·exact cw (cd h1).2.2.2.2.1 t hmem ht
     have hgetg:∀(j:Nat) (u:Upds),(gs.map (·.u))[j]?=some u→∃g:bu,gs[j]?=some g∧g.u=u:=fun j u hj=>by
      rw[List.getElem?_map]at hj
      cases hg:gs[j]? with
      | none=>rw[hg]at hj; cases hj
      | some g=>rw[hg]at hj; exact⟨g,by first | exact hg | rfl,by simpa using hj⟩
     have hbl:Nat.blt j0 i=false:=lw hij0
     have hul:(gs.map (·.u))[j0]?=some g0.u:=by rw[List.getElem?_map,hg0]; rfl
     have fin:∀(H0:Upds),OpIs P ops.toList f0.op (only f0.looks (accS (fun j=>Nat.blt j i) 0 (fs.map (·.envU)) env)) (only f0.rows H0) (n+8*i) f0.v f0.u→(∀t,t∈f0.rows→lk H0 t=lk (accS (S listed) 0 (fs.map (·.u)) h) t)→∃E H,OpIs P ops.toList f0.op E H (n+8*i) f0.v f0.u∧fp E H (stOf listed):=fun H0 hO hrow=>by
      refine⟨_,_,hO,fun t v ht=>?_,fun r row hr=>?_⟩
      ·obtain⟨h1,h2⟩:=fW _ t v ht
       have:=henv t h1
       simp only[Nat.zero_add]at this
       rw[this]at h2
       exact h2
      ·simp only[aT]at hr
       split at hr <;> try (cases hr; done)
       rename_i row' hl
       simp only[Option.some.injEq]at hr
       subst hr
       obtain⟨h1,h2⟩:=fW _ r _ hl
       rw[hrow r h1]at h2
       simp only[St.row,stOf,h2]
       rfl
     cases hs0:S listed j0 with
     | false =>
      refine fin (accS (fun j=>Nat.blt j i) 0 (gs.map (·.u)) h) (by rw[hmE]; simp only[Nat.zero_add]at hOp; exact hOp) fun t ht=>?_
      rw[hmU]
      refine dD _ 0 _ _ rfl fun j u hj hne=>?_
      obtain⟨g,hg,rfl⟩:=hgetg j u hj
      simp only[Nat.zero_add]
      by_cases e2:j=j0
      ·subst e2; rw[hs0,hbl]
      ·exact (hotherB j g hg e2 t ht hne).symm
     | true =>
      refine fin (g0.u++accS (fun j=>Nat.blt j i) 0 (gs.map (·.u)) h) (by rw[hmE,hu0]; exact hT) fun t ht=>?_
      rw[hmU,ed]
      cases hx:lk g0.u t with
      | some x =>
       refine (nw _ j0 0 h hul hx (by simpa using hs0) fun j u hj hij hSj=>?_).symm
       obtain⟨g,hg,rfl⟩:=hgetg j u hj
       rw[Nat.zero_add]at hSj
       cases hn:lk g.u t with
       | none=>rfl
       | some z =>
        exfalso
        have:=hotherB j g hg (by omega) t ht (by rw[hn]; exact fun e=>by cases e)
        rw[hSj,lw (by omega)]at this
        cases this
      | none =>
       refine dD _ 0 _ _ rfl fun j u hj hne=>?_
       obtain⟨g,hg,rfl⟩:=hgetg j u hj
       simp only[Nat.zero_add]
       by_cases e2:j=j0
       ·subst e2
        rw[hg0]at hg
        cases hg
        exact absurd hx hne
       ·exact (hotherB j g hg e2 t ht hne).symm
    ·obtain⟨_,hOp⟩:=cY.at gs 0 n env h hok i f (hfg i f hf e)
     rw[←hmE,←hmU]at hOp
     refine⟨_,_,hOp,fun t v ht=>?_,fun r row hr=>?_⟩
     ·obtain⟨h1,h2⟩:=fW _ t v ht
      rw[henv t h1]at h2
      exact h2
     ·simp only[aT]at hr
      split at hr <;> try (cases hr; done)
      rename_i row' hl
      simp only[Option.some.injEq]at hr
      subst hr
      obtain⟨h1,h2⟩:=fW _ r _ hl
      rw[hrow r h1]at h2
      simp only[St.row,stOf,h2]
      rfl
   obtain⟨E1,H1,hOp,hagree⟩:=hOpA
   have hfresh:∀r,n+8*i≤r→r<n+8*i+8→¬G r:=fun r h1 h2 h3=>by
    rcases hG r h3 with h4 | ⟨k,h4,h5,h6⟩
    ·omega
    ·have:k=i:=by omega
     subst this
     rw[hSi]at h4; cases h4
   have hS':∀j,j≠i→S (listed.setIfInBounds i true) j=S listed j:=fun j hj=>getD_set_ne false (Ne.symm hj)
   have hSi':S (listed.setIfInBounds i true) i=true:=by
    have hlt':i<listed.size:=by omega
    simp only[S,Array.getD_eq_getD_getElem?]
    simp[hlt']
   have hmono:∀j,S listed j=true→S (listed.setIfInBounds i true) j=true:=fun j hj=>getD_set_true hj
   have hrest:=hOp C G (stOf listed) σ w a hagree (ee hdst) hst hfresh rfl (wpAnyIn (fen C.ro) 0 P .any ops (Lift C Q) fuel (listed.setIfInBounds i true)) (Lift C Q) (by
    intro x w' σ' G' hst' _ hG'
    refine ih (listed.setIfInBounds i true) (a.put f.op.dst x) w' σ' G' (by simpa using hsz) ?_ ?_ ?_ ?_
    ·intro j g hg hSj e he hb
     by_cases hji:j=i
     ·subst hji
      rw[hf]at hg
      cases hg
      exact hmono _ (hpre e (by simpa using he) hb)
     ·rw[hS' j hji]at hSj
      exact hmono _ (hcl j g hg hSj e he hb)
    ·refine hst'.congr (fun t=>?_) (fun t=>?_) ?_ ?_
     ·have hput:lk ((stOf listed).put f.op.dst f.v f.u).env t=lk (f.envU++(stOf listed).env) t:=by
       unfold bu.envU
       cases f.op.dst <;> cases f.v <;> rfl
      rw[hput]
      refine me (u:=f.envU) (i:=i) (by simp[hf]) hS' hSi' fun j u hj hij hSj hne=>?_
      obtain⟨g,hg,rfl⟩:=hget _ j u hj
      cases hn:lk g.envU t with
      | none=>rfl
      | some z =>
       exfalso
       rcases hap j g hg (by rw[hSj,lw hij]; exact fun e=>by cases e)with ⟨h1,_⟩ | ⟨_,_,h1⟩
       ·omega
       ·exact cw (cd h1).2.2.1 t (jC hne) (jC (by rw[hn]; exact fun e=>by cases e))
     ·have hput:((stOf listed).put f.op.dst f.v f.u).heap=f.u++(stOf listed).heap:=by
       cases f.op.dst <;> cases f.v <;> rfl
      rw[hput]
      refine me (u:=f.u) (i:=i) (by simp[hf]) hS' hSi' fun j u hj hij hSj hne=>?_
      obtain⟨g,hg,rfl⟩:=hget _ j u hj
      cases hn:lk g.u t with
      | none=>rfl
      | some z =>
       exfalso
       rcases hap j g hg (by rw[hSj,lw hij]; exact fun e=>by cases e)with ⟨h1,_⟩ | ⟨_,_,h1⟩
       ·omega
       ·exact cw (cd h1).2.2.2.2.2 t (lk_keys' hne) (lk_keys' (by rw[hn]; exact fun e=>by cases e))
     ·cases f.op.dst <;> cases f.v <;> rfl
     ·cases f.op.dst <;> cases f.v <;> rfl
    ·intro r hr
     rcases hG' r hr with h1 | h1
     ·rcases hG r h1 with h2 | ⟨k,h2,h3⟩
      ·exact .inl h2
      ·exact .inr ⟨k,hmono k h2,h3⟩
     ·exact .inr ⟨i,hSi',h1.1,h1.2⟩
    ·have:=ld (p:=fun i => !S listed i) (q:=fun j => !S (listed.setIfInBounds i true) j) (fun x hx=>by
      simp only[Bool.not_eq_true']at hx ⊢
      cases hs:S listed x
      ·rfl
      ·rw[hmono x hs]at hx; cases hx) (List.range ops.size) i (List.mem_range.2 hlt) (by simp[hSi]) (by simp[hSi'])
     omega)
   unfold wpOpIn
   rw[ho]
   have hall:ops.toList.toArray=ops:=by simp
   rw[hall]at hrest
   by_cases hw:Region.wanted f.op (yielded ops a.tmps)=true
   ·simp only[hw,if_true]at hrest ⊢
    exact hrest
   ·simp only[hw]at hrest ⊢
    exact⟨fun _ _=>trivial,hrest⟩
 have hrep:∀i,S (Array.replicate ops.size false) i=false:=fun i=>by
  simp only[S,Array.getD_eq_getD_getElem?]
  rcases Nat.lt_or_ge i ops.size with h1 | h1
  ·simp[h1]
  ·simp[h1]
 refine key ops.size _ a _ σ (fun r=>r<n) (by simp) ?_ ?_ ?_ ?_
 ·intro j g _ hSj
  rw[hrep]at hSj; cases hSj
 ·have h0:∀ {β:Type 1} (us:List (List (Nat×β))) (e:List (Nat×β)),accS (S (Array.replicate ops.size false)) 0 us e=e:=fun us e=>jp us 0 e fun j _=>hrep j
  have h1:=hst.drew
  exact h1.congr (fun t=>by simp only[stOf,h0]) (fun t=>by simp only[stOf,h0]) rfl rfl
 ·intro r hr; exact .inl hr
 ·have:=List.length_filter_le (fun i => !S (Array.replicate ops.size false) i) (List.range ops.size)
  simpa using this
end
end Go.Eng
namespace Go.Eng
open Go.RowKit
def eF (W:Nat) (res:AV) (rows:List (Nat×Row)):St:=⟨[(0,res)],aB rows,64+W,1,64⟩
def js (W:Nat) (P:Program) (f:FuncId) (avs:List AV) (h0:List (Nat×Row)) (res:AV) (rows:List (Nat×Row)):Prop :=
 (∃ fn, P.funcs[f]? = some fn ∧ (fn.name == "runtime.NumGoroutine") = false ∧ fn.body.isNone = false) ∧
 ∀(C:Ctx) (σ:aF) (w:World) (vs:List Value),C.bs=64→C.B=w.heap.size→C.w0=w→C.σ0=σ→C.ro=none→aD C (fun r=>r<64) (inSt avs h0) σ w ⟨vs.toArray,[]⟩ →
  Calls P f vs.toArray w fun e w'=>∃v σ',e=.returned v∧aD C (fun r=>r<64+W) (eF W res rows) σ' w' ⟨#[v],[]⟩
def RetW (W:Nat) (T:Tab) (fn:Func) (res:AV) (rows:List (Nat×Row)) (e:Exit) (st:St):Prop :=
 (match e with | .normal=>True | .ret=>True | _=>False)∧gY T st fn.results.toList fun q=>∃l,Le l { st with env:=[(0,iQ q)],sz:=1 } (eF W res rows)
section
variable {P : Program} {T : Tab} {C : Ctx} {w : World} {G : Nat → Prop} {st st' : St} {σ : aF} {a : Act}
theorem wc {W : Nat} (hT : an P T) {f : FuncId} {fn : Func} {c : Code} {avs : List AV} {h0 rows : List (Nat × Row)} {res : AV} (hf : P.funcs[f]? = some fn) (hname : (fn.name == "runtime.NumGoroutine") = false) (hb : fn.body = some c)
    (hn:Nat.ble avs.length fn.ntmps=true) (h:WC P fn.ntmps c (RetW W T fn res rows) (dL 0 avs) (aB h0) 64):js W P f avs h0 res rows:=by
  have hn:=Nat.le_of_ble_eq_true hn
  refine⟨⟨fn,hf,hname,by simp[hb]⟩,fun C σ w vs hbs hB hw hσ hro hst=>?_⟩
  have hl:vs.length=avs.length:=by simpa[inSt]using hst.sz
  have hst0:aD C (fun r=>r<64) ⟨dL 0 avs,aB h0,64,fn.ntmps,64⟩ σ w { tmps:=vs.toArray++Array.replicate (fn.ntmps-vs.toArray.size) undef,defers:=[] }:=
    { hst with
      env:=fun i v hi=>by
        obtain⟨u,hu,hv⟩:=hst.env i v hi
        refine⟨u,?_,hv⟩
        have:=(Array.getElem?_eq_some_iff.1 hu).1
        rw[Array.getElem?_append_left this]
        exact hu
      defers:=trivial
      sz:=by simp; omega }
  have hwp:=h C σ w _ hst0
  rw[show fen C.ro=Fence.wide by rw[hro]; rfl]at hwp
  refine callsIn_wide.1 (callsIn_of_wp_marks (n:=0) hf hb trivial (wpIn_mono hwp ?_))
  rintro e a' w₁ ⟨st',σ',⟨he,hr⟩,h1⟩
  have hleave:LeavesInM Fence.wide 0 P fn a'.tmps (fun e w'=>∃v σ',e=.returned v∧aD C (fun r=>r<64+W) (eF W res rows) σ' w' ⟨#[v],[]⟩) a'.defers .returning w₁:=by
    refine ie hro _ w₁ h1 fun w' h2=>?_
    obtain⟨q,vs',⟨l,hle⟩,hrun,hrel,hqw,hc⟩:=fc hT h2 _ _ hr
    have hres:(results fn a'.tmps).run P w' = .ok (if h:vs'.toArray.size=1 then vs'.toArray[0] else .tuple vs'.toArray) w':=by
      rw[my,Array.mapM_eq_mapM_toList]
      simp only[Sem.run_bind,Sem.run_map,hrun,Result.andThen_ok,Sem.run_pure]
    have hone:aD C (fun r=>r<st'.next) { st' with env:=[(0,iQ q)],sz:=1 } σ' w' ⟨#[if h:vs'.toArray.size=1 then vs'.toArray[0] else .tuple vs'.toArray],[]⟩:=
      { h2 with
        env:=fun i v hi=>by
          simp only[aM]at hi
          split at hi
          · rename_i e
            subst e
            simp only[Option.some.injEq]at hi
            subst hi
            exact⟨_,rfl,mx hc hrel⟩
          · simp[lk]at hi
        envG:=fun i v hi=>by
          simp only[aM]at hi
          split at hi
          · simp only[Option.some.injEq]at hi
            subst hi
            cases q with
            | acons v r=>cases r <;> first | exact hqw.1 | exact hqw
            | _=>exact hqw
          · simp[lk]at hi
        sz:=rfl
        defers:=trivial }
    exact⟨_,hres,_,_,rfl,hone.le hle⟩
  cases e with
  | normal=>exact hleave
  | ret=>exact hleave
  | _=>exact he.elim
end
section
variable {P : Program} {C : Ctx} {w w' : World} {G : Nat → Prop} {st : St} {σ : aF} {a : Act}
theorem aD.leaveW {W:Nat} (hW:0<W) (h:aD C G st σ w a) {l:bE} {h0 rows:List (Nat×Row)} {res:AV} {n:Nat} (hn:∀r,n≤r→r<n+W→¬G r) (hb64:st.bs=64) {X1:Nat→Prop} {σ2:aF} {v:Value}
  (hr:bT st.row l h0) (hkeys:fq l h0=true) (hX1:(∀b,st.X C.X0 σ b→¬bW (σ.via (rho l)) h0 b→X1 b)∨ew res rows)
  (h2:aD { B:=w.heap.size,w0:=w,X0:=X1,M:=bW (σ.via (rho l)) h0,bs:=64,σ0:=σ.via (rho l) } (fun r=>r<(64+W)) (eF W res rows) σ2 w' ⟨#[v],[]⟩) :
  ∃σ',aD C (fun r=>G r∨n≤r∧r<n+W) (st.upd (bD l n h0 rows)) σ' w' a∧RelV σ' w' ((st.upd (bD l n h0 rows)).X C.X0 σ') (res.ren (dG l n)) v ∧
   (res.ren (dG l n)).within (fun r=>G r∨n≤r∧r<n+W):=by
 have hbs:C.bs=64:=h.bs.symm.trans hb64
 have hn64:64≤n:=by
  rcases Nat.lt_or_ge n 64 with hlt | hge
  ·exact absurd (h.baseG n (by omega)) (hn n (Nat.le_refl _) (by omega))
  ·exact hge
 let σ':aF:=fun r=>if n≤r∧r<n+W then σ2 (64+(r-n)) else σ r
 have hσG:∀r,G r→σ' r=σ r:=fun r hg=>by
  show (if n≤r∧r<n+W then σ2 (64+(r-n)) else σ r)=σ r
  rw[if_neg (fun e=>hn r e.1 e.2 hg)]
 have hlow:∀k,k<64→∃k',rho l k=some k'∧G k':=by
  intro k hk
  by_cases hkk:k∈aX h0
  ·obtain⟨row,hrow⟩:=po h0 k hkk
   obtain⟨_,_,k',x,h3,h4,_⟩:=bT.out h0 hr k row hrow
   exact⟨k',h3,(h.rowsG k' x h4).1⟩
  ·exact⟨k,kb l hkeys k hkk,h.baseG k (by omega)⟩
 have hout:∀k,k<(64+W)→σ' (bI l n k)=σ2 k∧(G (bI l n k)∨n≤bI l n k∧bI l n k<n+W):=by
  intro k hk
  rcases Nat.lt_or_ge k 64 with hlt | hge
  ·obtain⟨k',h3,h4⟩:=hlow k hlt
   have e:bI l n k=k':=by
    have:Nat.blt k 64=true:=Nat.ble_eq_true_of_le hlt
    simp only[bI,this,cond_true,h3]
   rw[e]
   refine⟨?_,.inl h4⟩
   rw[hσG k' h4,h2.agree k hlt]
   simp only[aF.via,h3]
  ·have e:bI l n k=n+(k-64):=by
    have:Nat.blt k 64=false:=by
     cases hb:Nat.blt k 64 with
     | false=>rfl
     | true=>have:=Nat.le_of_ble_eq_true hb; omega
    simp only[bI,this,cond_false]
   rw[e]
   refine⟨?_,.inr ⟨by omega,by omega⟩⟩
   show (if n≤n+(k-64)∧n+(k-64)<n+W then σ2 (64+(n+(k-64)-n)) else _)=_
   rw[if_pos ⟨by omega,by omega⟩]
   congr 1; omega
 have hres0:∀r,(eF W res rows).row r=lk rows r:=fun r=>dS rows r
 have hrow:∀r row,(st.upd (bD l n h0 rows)).row r=some row→(∃k row0,lk rows k=some row0∧r=bI l n k∧row=row0.ren (dG l n))∨(st.row r=some row∧∀k row0,lk h0 k=some row0→r≠bI l n k):=by
  intro r row h1
  simp only[St.row,St.upd,bD,ed]at h1
  cases hc:lk (g9 l n rows) r with
  | some x =>
   simp only[hc,Option.bind_some,id]at h1
   subst h1
   obtain⟨k,row0,h3,h4,h5⟩:=ka rows r _ hc
   simp only[Option.some.injEq]at h5
   exact .inl ⟨k,row0,h3,h4,h5⟩
  | none =>
   simp only[hc]at h1
   cases hd:lk (eV l n h0) r with
   | some x =>
    simp only[hd,Option.bind_some,id]at h1
    rw[jc h0 r x hd]at h1
    cases h1
   | none =>
    simp only[hd]at h1
    exact .inr ⟨h1,fun k row0 hk=>e8 h0 r hd k row0 hk⟩
 have hMX:∀b,bW (σ.via (rho l)) h0 b→∃k k' row0 x c,lk h0 k=some row0∧bI l n k=k'∧st.row k'=some x∧σ k'=some (b,c):=by
  rintro b ⟨k,row0,c,h3,h4⟩
  obtain⟨hk64,_,k',x,h5,h6,_⟩:=bT.out h0 hr k row0 h3
  simp only[aF.via,h5]at h4
  refine⟨k,k',row0,x,c,h3,?_,h6,h4⟩
  have:Nat.blt k 64=true:=Nat.ble_eq_true_of_le hk64
  simp only[bI,this,cond_true,h5]
 have hkept:∀r row b c,st.row r=some row→(∀k row0,lk h0 k=some row0→r≠bI l n k)→σ r=some (b,c)→¬bW (σ.via (rho l)) h0 b:=by
  intro r row b c h3 h4 h5 hM
  obtain⟨k,k',row0,x,c',h6,h7,h8,h9⟩:=hMX b hM
  exact h4 k row0 h6 ((h.inj _ _ _ _ _ _ _ h3 h8 h5 h9).trans h7.symm)
 have hXnew:∀b,(st.upd (bD l n h0 rows)).X C.X0 σ' b→(st.X C.X0 σ b∧¬bW (σ.via (rho l)) h0 b)∨∃k row0 c,(eF W res rows).row k=some row0∧σ2 k=some (b,c):=by
  rintro b (hx | ⟨r,row,c,h1,h3⟩)
  ·refine .inl ⟨.inl hx,fun hM=>?_⟩
   obtain⟨k,k',row0,x,c',_,_,h8,h9⟩:=hMX b hM
   obtain⟨h10,h11⟩:=h.x0 b hx
   rcases h.high _ _ _ _ h8 h9 with h12 | h12
   ·omega
   ·exact h11 h12
  ·rcases hrow r row h1 with ⟨k,row0,h4,rfl,rfl⟩ | ⟨h4,h5⟩
   ·have h6:(eF W res rows).row k=some row0:=(hres0 k).trans h4
    rw[(hout k (h2.rowsG k row0 h6).1).1]at h3
    exact .inr ⟨k,row0,c,h6,h3⟩
   ·rw[hσG r (h.rowsG r row h4).1]at h3
    exact .inl ⟨.inr ⟨r,row,c,h4,h3⟩,hkept r row b c h4 h5 h3⟩
 have hlt:∀b,st.X C.X0 σ b→b<w.heap.size:=by
  rintro b (hx | ⟨r,row,c,h3,h4⟩)
  ·have:=(h.x0 b hx).1; have:=h.size; omega
  ·exact h.lt h3 h4
 have hkeep:∀b,b<w.heap.size→¬bW (σ.via (rho l)) h0 b→w'.heap[b]?=w.heap[b]?:=fun b h3 h4=>h2.below.block b h3 h4
 have hk1:∀(a:Addr) (u:Value),w.cell? a=some u→¬st.X C.X0 σ a.block→w'.cell? a=some u∧¬(st.upd (bD l n h0 rows)).X C.X0 σ' a.block:=by
  intro ad u h3 h4
  have hl:=World.block_lt_of_cell? w ad h3
  have hnM:¬bW (σ.via (rho l)) h0 ad.block:=fun hM=>by
   obtain⟨k,k',row0,x,c',_,_,h8,h9⟩:=hMX _ hM
   exact h4 (.inr ⟨k',x,c',h8,h9⟩)
  refine⟨by rw[World.cell?_of_block (hkeep _ hl hnM)]; exact h3,fun hx=>?_⟩
  rcases hXnew _ hx with hx | ⟨k,row0,c,h5,h6⟩
  ·exact h4 hx.1
  ·rcases h2.high k row0 _ c h5 h6 with h7 | h7
   ·simp only at h7; omega
   ·exact hnM h7
 have hsub:(∀b,st.X C.X0 σ b→¬bW (σ.via (rho l)) h0 b→X1 b)→∀b,(st.upd (bD l n h0 rows)).X C.X0 σ' b→(eF W res rows).X X1 σ2 b:=fun hX b hx=>by
  rcases hXnew b hx with ⟨h3,h4⟩ | ⟨k,row0,c,h3,h4⟩
  ·exact .inl (hX b h3 h4)
  ·exact .inr ⟨k,row0,c,h3,h4⟩
 obtain⟨v',hv1,hv2⟩:=h2.env 0 res rfl
 have hv':v'=v:=by simpa using hv1.symm
 subst hv'
 have hresG:=h2.envG 0 res rfl
 have hres:RelV σ2 w' ((st.upd (bD l n h0 rows)).X C.X0 σ') res v':=by
  rcases hX1 with hX | hpl
  ·exact RelV.mono (G:=fun r=>r<(64+W)) (fun _ _=>rfl) (fun _ _ h3 h4=>⟨h3,fun hx=>h4 (hsub hX _ hx)⟩) hresG hv2
  ·exact (hpl σ2 w' _ _).1 v' hv2
 have hrows':∀k row0,(eF W res rows).row k=some row0→bw σ2 w' ((st.upd (bD l n h0 rows)).X C.X0 σ') k row0:=by
  intro k row0 h3
  have h4:=h2.rows k row0 h3
  rcases hX1 with hX | hpl
  ·exact bw.mono (G:=fun r=>r<(64+W)) (fun _ _=>rfl) (fun _ _ h5 h6=>⟨h5,fun hx=>h6 (hsub hX _ hx)⟩) (h2.rowsG k row0 h3).1 (h2.rowsG k row0 h3).2 (fun _ _ _=>rfl) h4
  ·rw[hres0]at h3
   exact (hpl σ2 w' _ _).2 k row0 h3 h4
 have hG72:∀k,k<(64+W)→(fun r=>G r∨n≤r∧r<n+W) (bI l n k):=fun k hk=>(hout k hk).2
 refine⟨σ',h.core (fun r hr=>.inl hr) hσG hk1 rfl rfl rfl ?_ ?_ ?_ (by have h9:w.heap.size≤w'.heap.size:=h2.below.size; have:=h.size; omega) ?_,?_,?_⟩
 ·intro r row h1
  rcases hrow r row h1 with ⟨k,row0,h3,rfl,rfl⟩ | ⟨h3,h4⟩
  ·have h5:(eF W res rows).row k=some row0:=(hres0 k).trans h3
   have hg:=h2.rowsG k row0 h5
   exact .inr ⟨hG72 k hg.1,Row.within.out (G:=fun r=>r<(64+W)) hG72 hg.2,bw.out (G:=fun r=>r<(64+W)) (fun r hr=>(hout r hr).1) hg.1 hg.2 (hrows' k row0 h5)⟩
  ·exact .inl ⟨h3,fun b c h5=>hkeep b (h.lt h3 h5) (hkept r row b c h3 h4 h5)⟩
 ·intro r r' row row' b c c' h1 h3 h5 h6
  rcases hrow r row h1 with ⟨k,row0,h7,rfl,rfl⟩ | ⟨h7,h8⟩ <;> rcases hrow r' row' h3 with ⟨k',row0',h9,rfl,rfl⟩ | ⟨h9,h10⟩
  ·have e1:(eF W res rows).row k=some row0:=(hres0 k).trans h7
   have e2:(eF W res rows).row k'=some row0':=(hres0 k').trans h9
   rw[(hout k (h2.rowsG k row0 e1).1).1]at h5
   rw[(hout k' (h2.rowsG k' row0' e2).1).1]at h6
   rw[h2.inj _ _ _ _ _ _ _ e1 e2 h5 h6]
  ·have e1:(eF W res rows).row k=some row0:=(hres0 k).trans h7
   rw[(hout k (h2.rowsG k row0 e1).1).1]at h5
   rw[hσG r' (h.rowsG r' row' h9).1]at h6
   exfalso
   rcases h2.high _ _ _ _ e1 h5 with h11 | h11
   ·have:=h.lt h9 h6; simp only at h11; omega
   ·exact hkept _ _ _ _ h9 h10 h6 h11
  ·have e2:(eF W res rows).row k'=some row0':=(hres0 k').trans h9
   rw[(hout k' (h2.rowsG k' row0' e2).1).1]at h6
   rw[hσG r (h.rowsG r row h7).1]at h5
   exfalso
   rcases h2.high _ _ _ _ e2 h6 with h11 | h11
   ·have:=h.lt h7 h5; simp only at h11; omega
   ·exact hkept _ _ _ _ h7 h8 h5 h11
  ·rw[hσG r (h.rowsG r row h7).1]at h5
   rw[hσG r' (h.rowsG r' row' h9).1]at h6
   exact h.inj _ _ _ _ _ _ _ h7 h9 h5 h6
 ·intro r row b c h1 h3
  rcases hrow r row h1 with ⟨k,row0,h7,rfl,rfl⟩ | ⟨h7,h8⟩
  ·have e1:(eF W res rows).row k=some row0:=(hres0 k).trans h7
   rw[(hout k (h2.rowsG k row0 e1).1).1]at h3
   rcases h2.high _ _ _ _ e1 h3 with h11 | h11
   ·simp only at h11; have:=h.size; exact .inl (by omega)
   ·obtain⟨_,k',_,x,c',_,_,h8,h9⟩:=hMX b h11
    exact h.high _ _ _ _ h8 h9
  ·rw[hσG r (h.rowsG r row h7).1]at h3
   exact h.high _ _ _ _ h7 h3
 ·have hb:=h2.below
  refine⟨hb.os,hb.tape,hb.output,hb.size,fun k hk hm=>hb.block k (show k<w.heap.size by have:=h.size; omega) (fun hM=>?_),hb.book⟩
  obtain⟨_,k',_,x,c',_,_,h8,h9⟩:=hMX k hM
  rcases h.high _ _ _ _ h8 h9 with h12 | h12
  ·omega
  ·exact hm h12
 ·unfold RelV at hres ⊢
  rw[show (res.ren (dG l n)).isAgg=res.isAgg from AV.out_agg _ _]
  split at hres <;> rename_i hag
  ·obtain⟨c,rfl,hc⟩:=hres
   rw[if_pos hag]
   exact⟨c,rfl,Rel.out (G:=fun r=>r<(64+W)) (fun r hr=>(hout r hr).1) res _ _ hresG hc⟩
  ·rw[if_neg hag]
   exact Rel.out (G:=fun r=>r<(64+W)) (fun r hr=>(hout r hr).1) res _ _ hresG hres
 ·exact AV.within.out (G:=fun r=>r<(64+W)) hG72 res hresG
end
def mg (W:Nat) (P:Program) (op:Op) (env:Env) (h:Upds) (n:Nat) (v:Option AV) (u:Upds):Prop :=
 ∀(C:Ctx) (G:Nat→Prop) (st:St) (σ:aF) (w:World) (a:Act) (o:Oper),o.op=op→fp env h st→(∀d,o.dst=some d→d<st.sz)→aD C G st σ w a →
  (∀r,n≤r→r<n+W→¬G r)→st.bs=64→∀(next:Act→World→Prop) (Q:Exit→Act→World→Prop),
   (∀x w' σ' G',aD C G' (st.put o.dst v u) σ' w' (a.put o.dst x)→(∀r,G r→G' r)→(∀r,G' r→G r∨n≤r∧r<n+W)→next (a.put o.dst x) w')→o.wpIn (fen C.ro) 0 P a w next Q
section
variable {P : Program} {T : Tab} {C : Ctx} {w : World} {G : Nat → Prop} {st : St} {σ : aF} {a : Act} {o : Oper} {n : Nat} {env : Env} {h : Upds}
theorem mg.call {W:Nat} (hW:0<W) {f:Operand} {args:Array Operand} {ts:Array TypeId} {g:FuncId} {first caps:AV} {bs9 avs:List AV} {h0 rows:List (Nat×Row)} {res:AV} (l:bE)
  (hfn:js W P g avs h0 res rows) (hf:aq env f=some (.fn (.func g) first caps)) (hl:evL (aq env) args.toList=some bs9) (hc1:first.chain=true) (hc2:caps.chain=true)
  (ha:b7 (aT h) (rho l) (bx first++(bs9++bx caps)) avs) (hr:bT (aT h) l h0) (hi:ep (rho l) (aX h0)=true) (hk:fq l h0=true)
  (hm:ca (bx first++(bs9++bx caps)) avs=true∨h0=[]∧ew res rows) :
  mg W P (.call { callee :=.value f,args:=args,argTypes:=ts }) env h n (some (res.ren (dG l n))) (bD l n h0 rows):=by
 intro C G st σ w a o ho hA hd hst hn hbs next Q hnext
 have hf:=hA.ev hf
 have hl':=jI (ev':=aq st.env) (fun x v=>hA.ev) _ _ hl
 have ha:=b7.agree hA.row _ _ ha
 have hr:=bT.agree hA.row _ hr
 obtain⟨h1,h2⟩:=au hst hf
 obtain⟨vs,us,hu,hr1,hr2⟩:∃vs us:List Value,a.eval f=.func (.func g) vs.toArray us.toArray∧Rel σ w (st.X C.X0 σ) first true vs∧Rel σ w (st.X C.X0 σ) caps true us:=by
  unfold RelV at h1
  simp only[AV.isAgg]at h1
  obtain⟨vs,us,he,h3,h4⟩:=h1
  exact⟨vs,us,by simpa using he,h3,h4⟩
 obtain⟨l1,l2,l3⟩:=e9 first vs hc1 hr1 h2.1
 obtain⟨m1,m2,m3⟩:=e9 caps us hc2 hr2 h2.2
 obtain⟨e1,e2,e3⟩:=kE hst _ bs9 hl'
 have hrel:=fK (bx first) (bs9++bx caps) vs (args.toList.map a.eval++us) l1 l3 (fK bs9 (bx caps) (args.toList.map a.eval) us (by simpa using e1) e3 m3)
 have hg:∀v∈bx first++(bs9++bx caps),v.within G:=fun v hv=>by
  rcases List.mem_append.1 hv with hv | hv
  ·exact l2 v hv
  ·rcases List.mem_append.1 hv with hv | hv
   ·exact e2 v hv
   ·exact m2 v hv
 have hrun:(execOp a.eval o).run P w=.ok (.enter g (vs++(args.toList.map a.eval++us)).toArray) w:=by
  have harr:vs.toArray++args.map a.eval++us.toArray=(vs++(args.toList.map a.eval++us)).toArray:=Array.ext' (by simp)
  simp only[execOp,ho,resolve,hu,Deferred.ofValue,Sem.run_bind,Sem.run_pure,Result.andThen_ok,invoke,gX hfn.1,harr]
 refine⟨fun _ _=>trivial,?_⟩
 rw[gB hrun (fun c hc=>by rw[ho]at hc; cases hc),Oper.uponIn_enter]
 refine⟨fun h=>(by cases h),jk ?_⟩
 have fin:∀(X1:Nat→Prop),(∀b,X1 b→b<w.heap.size∧¬bW (σ.via (rho l)) h0 b)→(∀b,X1 b→st.X C.X0 σ b)→(ca (bx first++(bs9++bx caps)) avs=true∨h0=[] ∧ ∀b,X1 b↔C.X0 b) →
   ((∀b,st.X C.X0 σ b→¬bW (σ.via (rho l)) h0 b→X1 b)∨ew res rows)→Calls P g (vs++(args.toList.map a.eval++us)).toArray w fun
   | .returned v,w''=>next (a.put o.dst v) w''
   | .panicked chain,w''=>Q (.panic chain) a w''
   | .outgrown,_=>LetsOut Q:=by
  intro X1 hX hsub hm' hX1
  have hent:=hst.enter X1 (by simp at e1 ⊢; omega) hrel hg ha hr hi hX hsub hm'
  refine (hfn.2 _ _ w _ rfl rfl rfl rfl rfl hent).mono ?_
  rintro e w' ⟨v,σ2,rfl,h2⟩
  obtain⟨σ',h5,h6,h7⟩:=hst.leaveW hW hn hbs hr hk hX1 h2
  exact hnext v w' σ' _ (by rw[St.put_upd]; exact h5.set hd h6 h7) (fun r hr=>.inl hr) (fun r hr=>hr)
 have hXlt:∀b,st.X C.X0 σ b→b<w.heap.size:=by
  rintro b (hx | ⟨r,row,c,h3,h4⟩)
  ·have:=(hst.x0 b hx).1; have:=hst.size; omega
  ·exact hst.lt h3 h4
 rcases hm with hm | ⟨rfl,hpl⟩
 ·exact fin (fun b=>st.X C.X0 σ b∧¬bW (σ.via (rho l)) h0 b) (fun b hb=>⟨hXlt b hb.1,hb.2⟩) (fun b hb=>hb.1) (.inl hm) (.inl fun b h1 h2=>⟨h1,h2⟩)
 ·exact fin C.X0 (fun b hb=>⟨hXlt b (.inl hb),fun⟨r,row,c,h3,_⟩=>by simp[lk]at h3⟩) (fun b hb=>.inl hb) (.inr ⟨rfl,fun _=>Iff.rfl⟩) (.inr hpl)
end
section
variable {P : Program} {sz : Nat} {env : Env} {h : Upds} {n : Nat} {all l : List Oper} {K : Env → Upds → Nat → Prop}
theorem xc {W:Nat} {o:Oper} {v:Option AV} {u:Upds} (hw:∀(C:Ctx) (σ:aF) (w:World) (a:Act),aD C (fun r=>r<n) ⟨env,h,n,sz,64⟩ σ w a→Region.wanted o (yielded all.toArray a.tmps)=true) (hd:dU o.dst sz=true) (hs:mg W P o.op env h n v u)
  (h1:RegS P all sz l (n+W) (putE o.dst v env) (u++h) K):RegS P all sz (o::l) n env h K:=by
 intro C σ w a hst Q hQ
 unfold wpListIn
 rw[if_pos (hw C σ w a hst)]
 refine (hs C _ ⟨env,h,n,sz,64⟩ σ w a o rfl ⟨fun i v hi=>hi,fun r row hr=>by rw[←hr,←bc]⟩ (ee hd) hst (fun r h1 h2 h3=>Nat.not_lt.2 h1 h3) rfl _ _ ?_)
 intro x w' σ' G' hst' _ h2
 rw[jZ]at hst'
 refine h1 C σ' w' _ ?_ Q hQ
 have:=hst'.grow (G':=fun r=>r<n+W) (fun r hr=>by rcases h2 r hr with hr | hr <;> (try simp only at hr) <;> omega)
 exact { this with }
theorem gD {W:Nat} (hW:0<W) {d:Tmp} {f:Operand} {args:Array Operand} {ts:Array TypeId} {ty:TypeId} {pos:String} {af:Array Edge} {g:FuncId} {caps:AV} {bs9 avs:List AV} {h0 rows:List (Nat×Row)} {res v:AV} {u h':Upds} (l0:bE) (hd:Nat.blt d sz=true)
  (hfn:js W P g avs h0 res rows) (hf:aq env f=some (.fn (.func g) .anil caps)) (hl:evL (aq env) args.toList=some bs9) (hc2:caps.chain=true)
  (ha:b7 (aT h) (rho l0) (bs9++bx caps) avs) (hr:bT (aT h) l0 h0) (hi:ep (rho l0) (aX h0)=true) (hk:fq l0 h0=true)
  (hm:ca (bs9++bx caps) avs=true∨h0=[]∧ew res rows) (hv:res.ren (dG l0 n)=v) (hu:bD l0 n h0 rows=u) (hh:u++h=h')
  (h1:RegS P all sz l (n+W) ((d,v)::env) h' K):RegS P all sz (⟨some d,.call { callee :=.value f,args:=args,argTypes:=ts },ty,pos,af,none⟩::l) n env h K:=by
 refine xc (W:=W) (v:=some v) (u:=u) (fun _ _ _ _ _=>rfl) hd ?_ (by rw[hh]; exact h1)
 have:=mg.call (n:=n) (ts:=ts) (h0:=h0) (rows:=rows) (res:=res) hW l0 hfn hf hl rfl hc2 ha hr hi hk hm
 rw[hv,hu]at this
 exact this
end
end Go.Eng
namespace Go.Proofs.Ytkehohfgbblokaa
open Go.Eng Go.Plain
set_option maxHeartbeats 32000000
set_option maxRecDepth 20000
attribute [local irreducible] WC RegS RegD SeqQ BlkQ ScoQ RegK CutK Sat SatN FnIs LoopQ aj OpIs
def bA (h:List HEv):Nat:=1+h.countP fun x=>decide (x.kind=3)
abbrev ptrE (e:Int):AV :=.tup (.acons (.d (.sc (.pointer none))) (.acons (.int .i64 e) .anil))
abbrev xX (l:List HOp) (b e:Int) (ops st sp:AV):Row :=.box 121 (.acons (.d (eU l)) (.acons (.int .i64 b) (.acons (.int .i64 e) (.acons (.mapr 65) (.acons (.mapr 66) (.acons ops (.acons (.mapr 68) (.acons (.mapr 69) (.acons (.mapr 70) (.acons (.mapr 71) (.acons (.mapr 72) (.acons st (.acons sp .anil)))))))))))))
abbrev j7 (l:List HOp) (b e:Int) (p:Prep) (sp:List (List aI)) (q:QS):List (Nat×Row):=[(64,xX l b e (.own 67 0 p.ops.length 1 none) (.own 73 0 q.2.length 4 none) (.own 74 0 sp.length 1 none)),(65,fm p.pl),(66,gi p.vs),(67,e7 p.ops),(68,cC p.af),(69,cC p.ah),(70,dP p.lo),(71,dP p.st),(72,kRow q.1),(73,uQ q.2),(74,uZ sp)]
abbrev wY (l:List HOp) (b:Int) (c:Nat):List (Nat×Row):=[(64,xX l b (c:Int) sNil sNil sNil),(65,fm []),(66,gi [(zBk,0)]),(68,cC []),(69,cC []),(70,dP []),(71,dP []),(72,kRow [])]
theorem wt {h:List HEv} {i:Nat} {x:HEv} (hx:h[i]?=some x):(h.take (i+1)).countP (fun x=>decide (x.kind=3))=(h.take i).countP (fun x=>decide (x.kind=3))+if x.kind=3 then 1 else 0:=by
 have hlt:=(List.getElem?_eq_some_iff.1 hx).1
 rw[List.take_succ_eq_append_getElem hlt,(List.getElem?_eq_some_iff.1 hx).2,List.countP_append,List.countP_cons,List.countP_nil]
 simp
theorem pS (h:List HEv) (b fuel:Int) (hh:h.length≤9223372036854775807) (hal:(rdH h).all.length≤1048576) (hE:opE h b≠0):FnIs Try.prog 56 [.d (encH h),.int .i64 b,.int .i64 fuel] [] (ptrE (opE h b)) []:=by
 have ho:=fe h b hh hal
 have d0:(!decide (opE h b=0))=true:=by rw[dF hE]; rfl
 refine aG aa Try.func56 rfl rfl rfl ?_;refine sR<|zD<|nR ?_;refine zD ?_;refine rQ (aA ho rfl rfl (ak (ak ai)) (.inl rfl) (fun _=>rfl)) ?_;iterate 5 refine rC ?_
 refine zW<|zD ?_;refine zI<|sR ?_;refine zU<|zT<|bQ ?_
 exact⟨trivial,[],lf⟩
theorem pR (h:List HEv) (b fuel:Int) (hh:h.length≤9223372036854775807) (hal:(rdH h).all.length≤1048576) (hE:opE h b=0) (hf:fuel<0∨1048576<fuel):FnIs Try.prog 56 [.d (encH h),.int .i64 b,.int .i64 fuel] [] (ptrE 1) []:=by
 have ho:=fe h b hh hal
 rw[hE]at ho
 refine aG aa Try.func56 rfl rfl rfl ?_
 by_cases h0:fuel<0
 ·have d1:decide (fuel<0)=true:=dT h0
  refine sR<|zD<|nR ?_;refine zD ?_;refine rQ (aA ho rfl rfl (ak (ak ai)) (.inl rfl) (fun _=>rfl)) ?_;iterate 5 refine rC ?_
  refine zW<|zD ?_;refine zJ<|kS<|qR ?_;refine zU ?_
  iterate 2 refine rS ?_
  refine rQ iT ?_;refine zO<|sR ?_;refine zD<|zT<|bQ ?_
  exact⟨trivial,[],lf⟩
 ·have d1:decide (fuel<0)=false:=dF h0
  have d2:decide (1048576<fuel)=true:=dT (by omega)
  refine sR<|zD<|nR ?_;refine zD ?_;refine rQ (aA ho rfl rfl (ak (ak ai)) (.inl rfl) (fun _=>rfl)) ?_;iterate 5 refine rC ?_
  refine zW<|zD ?_;refine zJ<|kS<|qR ?_;refine zU ?_;refine rO ?_;refine rC ?_;refine rO ?_;refine rC ?_;refine rQ iF ?_;refine zI<|sR ?_;refine zD<|zT<|bQ ?_
  exact⟨trivial,[],lf⟩
def sD (h:List HEv) (b fuel:Int) (p:Prep) (l:List HOp) (e:Nat):Option (QS×List (List aI))→Prop
 | none=>js 16 Try.prog 56 [.d (encH h),.int .i64 b,.int .i64 fuel] [] (ptrE 4) []
 | some (q,sp)=>js 16 Try.prog 56 [.d (encH h),.int .i64 b,.int .i64 fuel] [] (.tup (.acons (.ptr 64 []) (.acons (.int .i64 0) .anil))) (j7 l b e p sp q)
theorem rr {p:Prep} {l:List HOp} {e:Nat} {fuel:Int} {n i:Nat} {q:QS} {sp:List (List aI)} {x:LSt} (hx:q.2[i]?=some x) (hf:¬fuel<(q.2.length:Int)):fw p l e fuel (n+1) i q sp=fw p l e fuel n (i+1) (cu p l e x q).1 (sp++[(cu p l e x q).2]):=by
 rw[fw,hx]
 simp only[if_neg hf]
theorem tC (h:List HEv) (b fuel:Int) (hh:h.length≤8192) (hal:(rdH h).all.length≤8192) (hE:opE h b=0) (h0:0≤fuel) (h1:fuel≤1048576) (l:List HOp) (hl:l=opL h b) (e:Nat) (he:e=bA h) (p:Prep) (hp:p=cP l b e)
  (P:POk l e p) (h32:∀o∈l,mayB o b=true→o.op.kind=2→o.op.data.length=32) (Inv:Nat→QS→List (List aI)→Prop) (hI0:Inv 0 (addS ([],[]) (c6 p)).1 []) (hIs:∀i q sp x,Inv i q sp→q.2[i]?=some x→(q.2.length:Int)≤fuel→Inv (i+1) (cu p l e x q).1 (sp++[(cu p l e x q).2])) (hIb:∀i q sp,Inv i q sp→q.2.length+8200≤1048576):sD h b fuel p l e (nI p l e fuel):=by
 have ho:=fe h b (by omega) (by omega)
 rw[hE,←hl]at ho
 have d1:decide (fuel<0)=false:=dF (by omega)
 have d2:decide (1048576<fuel)=false:=dF (by omega)
 have hcl:h.countP (fun x=>decide (x.kind=3))≤h.length:=List.countP_le_length
 have hel:e≤8193:=by rw[he,bA]; omega
 have he0:0<e:=by rw[he,bA]; omega
 have hll:l.length≤8192:=by rw[hl,opL,if_pos hE]; unfold opsH; split <;> first | exact hal | exact Nat.zero_le _
 have hprep:=xh l b e [] (by omega) (by omega) h32
 rw[←hp]at hprep
 have hw2:IntKind.i64.wrap (2*((asC i6 p.pl).length:Int))=((2*p.pl.length:Nat):Int):=by have:=P.pln; rw[fB,bp (by omega) (by omega)]; omega
 have hlz:2*p.pl.length≤1048576:=by have:=P.pln; omega
 have hno:FnIs Try.prog 70 [.ptr 0 [],.int .i64 0] (bZ l b e p [] ([],[]) 9) (.d (strD (cz (zOf p 0).length))) (bZ l b e p [] ([],[]) 9):=qg l b e p [] ([],[]) P 0 he0
 obtain⟨q1,hq1⟩:∃q1,q1=(addS ([],[]) (c6 p)).1:=⟨_,rfl⟩
 have had:FnIs Try.prog 69 [.ptr 0 [],.d (bR ⟨0,cz (zOf p 0).length,cz (2*p.pl.length),cz (2*p.pl.length)⟩)] (bZ l b e p [] ([],[]) 9) (.int .i64 (addS ([],[]) (c6 p)).2) (bZ l b e p [] q1 64):=by subst hq1; exact pD l b e p [] ([],[]) (c6 p) (by decide)
 have hS1:∀y∈q1.2,SOk p e y:=by
  subst hq1
  exact mb (fun y hy=>by cases hy) ⟨⟨Int.le_refl _,by show (0:Int)<e; omega⟩,by simp[c6,cz],by simp[c6,cz],by simp[c6,cz]⟩
 have goal:∀r,r=nI p l e fuel→sD h b fuel p l e r:=fun r hr=>by
  have main:∀(Res:AV) (rows:List (Nat×Row)),(match r with | none=>Res=ptrE 4∧rows=[] | some (q,sp)=>Res=.tup (.acons (.ptr 64 []) (.acons (.int .i64 0) .anil))∧rows=j7 l b e p sp q)→js 16 Try.prog 56 [.d (encH h),.int .i64 b,.int .i64 fuel] [] Res rows:=by
   intro Res rows hRes
   refine wc (W:=16) aa Try.func56 rfl rfl rfl ?_;refine sR<|zD<|nR ?_;refine zD ?_;refine rQ (aA ho rfl rfl (ak (ak ai)) (.inl rfl) (fun _=>rfl)) ?_;iterate 5 refine rC ?_
   refine zW<|zD ?_;refine zJ<|kS<|qR ?_;refine zU ?_;refine rO ?_;refine rC ?_;refine rO ?_;refine rC ?_;refine rQ iF ?_;refine zG<|kS<|sR ?_;refine zD ?_
   iterate 2 refine bt (gF) rfl ?_
   refine rQ (bH aa rfl rfl rfl) ?_;refine bF rfl (sb (κ:=List UInt8) (enc:=bd) (l:=[]) (k:=zBk) keyB Try.underlying114 rfl rfl rfl rfl rfl) rfl rfl ?_;refine rC ?_;iterate 5 refine bt (gF) rfl ?_
   refine rQ iS ?_;refine rN ?_;refine rC<|zW ?_;refine rC ?_;refine rQ iE ?_;refine rC<|zP ?_
   refine wc_inv (fun i:Nat=>⟨[(45,.int .i64 i),(44,.int .i64 h.length),(43,.d (encH h)),(10,.ptr 64 []),(2,.int .i64 fuel)],aB (wY l b (1+(h.take i).countP (fun x=>decide (x.kind=3)))),80,Try.f56.ntmps,64⟩) (fun i=>i≤h.length) (fun i=>h.length-i) 0 [(64,some 312),(65,some 224),(66,some 232),(68,some 264),(69,some 272),(70,some 280),(71,some 288),(72,some 296)] (Nat.zero_le _)
    (lg zh ⟨zR,⟨rfl,bn _,_,rfl,aO.of_eq (by show _=Row.mo ((mapC _ (asC _ _)).ren _); rw[ba]; rfl)⟩,⟨rfl,bn _,_,rfl,aO.of_eq (by show _=Row.mo ((mapC _ (asC _ _)).ren _); rw[ba]; rfl)⟩,⟨rfl,bn _,_,rfl,aO.of_eq (by show _=Row.mo ((mapC _ (asC _ _)).ren _); rw[ba]; rfl)⟩,⟨rfl,bn _,_,rfl,aO.of_eq (by show _=Row.mo ((mapC _ (asC _ _)).ren _); rw[ba]; rfl)⟩,⟨rfl,bn _,_,rfl,aO.of_eq (by show _=Row.mo ((mapC _ (asC _ _)).ren _); rw[ba]; rfl)⟩,⟨rfl,bn _,_,rfl,aO.of_eq (by show _=Row.mo ((mapC _ (asC _ _)).ren _); rw[ba]; rfl)⟩,⟨rfl,bn _,_,rfl,aO.of_eq (by show _=Row.mo ((mapC _ (asC _ _)).ren _); rw[ba]; rfl)⟩,trivial⟩) ?_
   intro i hi
   refine cf ?_
   by_cases hlt:i<h.length
   ·have d3:decide ((i:Int)<(h.length:Int))=true:=dT (by omega)
    obtain⟨x,hx⟩:∃x,h[i]?=some x:=⟨_,List.getElem?_eq_getElem hlt⟩
    have hx2:h[((i:Int)).toNat]?=some x:=by rw[Int.toNat_natCast]; exact hx
    have hst:=wt hx
    have hc2:(h.take i).countP (fun x=>decide (x.kind=3))≤(h.take i).length:=List.countP_le_length
    rw[List.length_take]at hc2
    generalize (h.take i).countP (fun x=>decide (x.kind=3))=c at *
    by_cases hk:x.kind=3
    ·have d4:decide (x.kind=3)=true:=dT hk
     rw[if_pos hk]at hst
     have hwc:IntKind.i64.wrap (((1+c:Nat):Int)+1)=((1+(c+1):Nat):Int):=by rw[bp (by omega) (by omega)]; omega
     refine sR<|rC<|nQ ?_;refine wT<|zQ<|zS ?_;refine rQ iA ?_;refine rQ iL ?_;refine rN ?_;refine rW<|nR ?_;refine rC ?_;refine rQ iB ?_;refine rC ?_;refine zI<|ao ?_;refine zU ?_;refine rQ iM ?_;refine rQ (ce (m:=((1+(c+1):Nat):Int)) aa rfl rfl hwc) ?_;refine zD ?_;refine bO (aK aa rfl rfl rfl ⟨_,⟨_,⟨rfl,rfl,rfl⟩,rfl⟩,rfl⟩ rfl)<|aE<|zC<|ao ?_;refine rQ iD ?_;refine rC<|aE ?_
     exact aU (i+1) [(64,some 64),(65,some 65),(66,some 66),(68,some 68),(69,some 69),(70,some 70),(71,some 71),(72,some 72)] hlt (by omega) (by rw[hst]; exact lg zh ⟨zR,zM,zM,zM,zM,zM,zM,zM,trivial⟩)
    ·have d4:decide (x.kind=3)=false:=dF hk
     rw[if_neg hk,Nat.add_zero]at hst
     refine sR<|rC<|nQ ?_;refine wT<|zQ<|zS ?_;refine rQ iA ?_;refine rQ iL ?_;refine rN ?_;refine rW<|nR ?_;refine rC ?_;refine rQ iB ?_;refine rC ?_;refine zG<|bg<|zC<|ao ?_;refine rQ iD ?_;refine rC<|aE ?_
     exact aU (i+1) [(64,some 64),(65,some 65),(66,some 66),(68,some 68),(69,some 69),(70,some 70),(71,some 71),(72,some 72)] hlt (by omega) (by rw[hst]; exact lg zh ⟨zR,zM,zM,zM,zM,zM,zM,zM,trivial⟩)
   ·have d3:decide ((i:Int)<(h.length:Int))=false:=dF (by omega)
    obtain rfl:i=h.length:=by omega
    rw[List.take_length]
    have hee:1+h.countP (fun x=>decide (x.kind=3))=e:=he.symm
    rw[hee]
    refine sR<|rC<|nQ ?_;refine wF<|zX<|sR ?_;refine rC ?_;refine bF rfl (aQ [(0,some 64),(1,some 65),(2,some 66),(4,some 68),(5,some 69),(6,some 70),(7,some 71),(8,some 72)] hprep rfl rfl rfl (aV rfl rfl ai) ⟨zH,zN,zN,zN,zN,zN,zN,zN,trivial⟩ rfl rfl (.inl rfl) rfl rfl) rfl rfl<|nS ?_;refine fO 104 [(67,some 96),(73,none),(74,none)] (env':=[(10,.ptr 64 []),(2,.int .i64 fuel)]) (h':=aB (j7 l b e p [] ([],[]))) (lg zk ⟨zR,zM,zM,zR,zM,zM,zM,zM,zM,⟨rfl,rfl,rfl⟩,⟨rfl,rfl,rfl⟩,trivial⟩)<|sR ?_;refine zU ?_;refine rQ iM ?_;refine rQ (fy (κ:=Int) (enc:=i6) (l:=asC i6 p.pl) Try.underlying113 rfl rfl) ?_;refine rQ (ib (m:=((2*p.pl.length:Nat):Int)) aa rfl rfl hw2) ?_;refine rQ (aj.frozen (dz (enc:=cD) (s:=1) (N:=2*p.pl.length) aa (0:Int) rfl rfl rfl rfl rfl rfl rfl hlz rfl) od) ?_;refine rQ (gg aa rfl rfl rfl rfl) ?_;refine rC<|nR ?_;refine zD ?_;refine bF rfl (aQ [(0,some 64),(1,some 65),(2,some 66),(3,some 67),(4,some 68),(5,some 69),(6,some 70),(7,some 71),(8,some 72),(9,some 73),(10,some 74)] hno rfl rfl rfl (aV rfl rfl (ak ai)) ⟨zH,zN,zN,zH,zN,zN,zN,zN,zN,zH,zH,trivial⟩ rfl rfl (.inl rfl) rfl rfl) rfl rfl ?_;refine zD ?_;refine rQ iS ?_;refine bF rfl (aQ [(0,some 64),(1,some 65),(2,some 66),(3,some 67),(4,some 68),(5,some 69),(6,some 70),(7,some 71),(8,some 72),(9,some 73),(10,some 74)] had rfl rfl rfl (aV rfl rfl (ak ai)) ⟨zH,zN,zN,zH,zN,zN,zN,zN,zN,zH,zH,trivial⟩ rfl rfl (.inl rfl) rfl rfl) rfl rfl<|zW ?_;refine rC<|zP ?_
    refine wc_inv (fun s:Nat×QS×List (List aI)=>⟨[(10,.ptr 64 []),(14,.int .i64 s.1),(2,.int .i64 fuel)],aB (j7 l b e p s.2.2 s.2.1),80,Try.f56.ntmps,64⟩) (fun s=>fw p l e fuel (fuel.toNat+2-s.1) s.1 s.2.1 s.2.2=r∧Inv s.1 s.2.1 s.2.2∧(∀y∈s.2.1.2,SOk p e y)∧s.2.2.length=s.1∧s.1≤fuel.toNat+1) (fun s=>fuel.toNat+2-s.1) (0,q1,[]) [(73,some 224)] ⟨by rw[hr,hq1]; rfl,hq1 ▸ hI0,hS1,rfl,Nat.zero_le _⟩
     (lg zj ⟨zR,zM,zM,zR,zM,zM,zM,zM,zM,zR,zR,trivial⟩) ?_
    rintro⟨i,q,sp⟩ ⟨hg,hInv,hS,hspl,hif⟩
    simp only at hg hInv hS hspl hif
    refine cf ?_
    show WC _ _ _ _ [(10,.ptr 64 []),(14,.int .i64 i),(2,.int .i64 fuel)] (aB (j7 l b e p sp q)) _
    have hqb:=hIb _ _ _ hInv
    cases hx0:q.2[i]? with
    | none =>
     have d5:decide ((i:Int)<(q.2.length:Int))=false:=dF (by have:=List.getElem?_eq_none_iff.1 hx0; omega)
     by_cases hf:fuel<(q.2.length:Int)
     ·have d6:decide (fuel<(q.2.length:Int))=true:=dT hf
      have hfe:fuel.toNat+2-i=(fuel.toNat+1-i)+1:=by omega
      rw[hfe,fw,hx0]at hg
      simp only[if_pos hf]at hg
      subst hg
      obtain⟨rfl,rfl⟩:=hRes
      refine qR ?_;iterate 4 refine rC ?_
      refine rQ iM ?_;refine rQ (bz aa rfl rfl) ?_;refine rC ?_;refine zG<|zX<|qR ?_;refine zU ?_;refine rQ iM ?_;refine rQ (bz aa rfl rfl) ?_;refine zD ?_;refine zI<|sR ?_;refine zD<|zT<|bQ ?_
      exact⟨trivial,[],lf⟩
     ·have d6:decide (fuel<(q.2.length:Int))=false:=dF hf
      have hfe:fuel.toNat+2-i=(fuel.toNat+1-i)+1:=by omega
      rw[hfe,fw,hx0]at hg
      simp only[if_neg hf]at hg
      subst hg
      obtain⟨rfl,rfl⟩:=hRes
      refine qR ?_;iterate 4 refine rC ?_
      refine rQ iM ?_;refine rQ (bz aa rfl rfl) ?_;refine rC ?_;refine zG<|zX<|qR ?_;refine zU ?_;refine rQ iM ?_;refine rQ (bz aa rfl rfl) ?_;refine zD ?_;refine zG<|kS<|sR ?_;refine zU<|zT ?_
      exact⟨trivial,[],lg zV ⟨zR,zM,zM,zR,zM,zM,zM,zM,zM,zR,zR,trivial⟩⟩
    | some x =>
     have hil:=(List.getElem?_eq_some_iff.1 hx0).1
     have hx:q.2[((i:Int)).toNat]?=some x:=by rw[Int.toNat_natCast]; exact hx0
     have d5:decide ((i:Int)<(q.2.length:Int))=true:=dT (by omega)
     by_cases hf:fuel<(q.2.length:Int)
     ·have d6:decide (fuel<(q.2.length:Int))=true:=dT hf
      have hfe:fuel.toNat+2-i=(fuel.toNat+1-i)+1:=by omega
      rw[hfe,fw,hx0]at hg
      simp only[if_pos hf]at hg
      subst hg
      obtain⟨rfl,rfl⟩:=hRes
      refine qR ?_;iterate 4 refine rC ?_
      refine rQ iM ?_;refine rQ (bz aa rfl rfl) ?_;refine rC ?_;refine zI<|zQ<|cm<|qR ?_;refine zU ?_;refine rQ iM ?_;refine rQ (bz aa rfl rfl) ?_;refine zD ?_;refine zI<|sR ?_;refine zD<|zT<|bQ<|zB<|dR<|zB ?_
      exact⟨trivial,[],lf⟩
     ·have d6:decide (fuel<(q.2.length:Int))=false:=dF hf
      have hfe:fuel.toNat+2-i=(fuel.toNat+1-i)+1:=by omega
      rw[hfe,rr hx0 hf]at hg
      have hxS:=hS x (List.mem_of_getElem? hx0)
      have hnext:=xn l b e p sp q x P hxS hS (by omega) hqb
      have hlsp:sp.length+1≤1048576:=by omega
      refine qR ?_;iterate 4 refine rC ?_
      refine rQ iM ?_;refine rQ (bz aa rfl rfl) ?_;refine rC ?_;refine zI<|zQ<|cm<|qR ?_;refine zU ?_;refine rQ iM ?_;refine rQ (bz aa rfl rfl) ?_;refine zD ?_;refine zG<|kS ?_;refine uI 4 13 (by kernel_rfl) ?_;iterate 2 refine dt_q [10] [] rfl (ay aa (fun K hk=>hk)) ?_
      refine dt_q [94] [] rfl (ay aa (fun K hk=>hk)) ?_;refine dt_q [95] [] rfl (ay aa (fun K hk=>hk)) ?_;refine dt_q [96] [64] rfl (aJ aa rfl rfl rfl rfl) ?_
      iterate 2 refine dt_q [10] [] rfl (ay aa (fun K hk=>hk)) ?_
      refine dt_q [99] [] rfl (ay aa (fun K hk=>hk)) ?_;refine dt_q [100] [] rfl (ay aa (fun K hk=>hk)) ?_;refine dt_q [101] [64] rfl (aJ aa rfl rfl rfl rfl) ?_;refine dt_q [14] [] rfl (ay aa (fun K hk=>hk)) ?_;refine dt_q [102,103] [] rfl (aP aa rfl rfl rfl rfl rfl (by omega) (by omega)) ?_;refine dt_q [104] [73] rfl (bf (v :=.d (bR x)) aa rfl rfl ⟨rfl,x,hx,bR x,rfl,rfl⟩ rfl) ?_;refine qM [98,105] [64,65,66,67,68,69,70,71,72,73,74] rfl (.plain (aQ [(0,some 64),(1,some 65),(2,some 66),(3,some 67),(4,some 68),(5,some 69),(6,some 70),(7,some 71),(8,some 72),(9,some 73),(10,some 74)] hnext rfl rfl rfl (aV rfl rfl (ak ai)) ⟨zH,zN,zN,zH,zN,zN,zN,zN,zN,zH,zH,trivial⟩ rfl rfl (.inl rfl) rfl rfl)) rfl rfl ?_;refine dt_w [106] [] rfl (aH aa rfl rfl rfl rfl rfl rfl rfl rfl) ?_;refine BA [97,107] [74,304] rfl (bG (s:=1) (enc:=cr) (xs:=sp) aa (cu p l e x q).2 rfl rfl rfl rfl rfl rfl rfl rfl rfl hlsp rfl) ?_;refine dt_q [93] [] rfl (ay aa (fun K hk=>hk)) ?_;refine dt_q [109] [] rfl (ay aa (fun K hk=>hk)) ?_;refine dt_s [110,108] [64] (aK aa rfl rfl rfl ⟨_,⟨_,⟨rfl,rfl,rfl⟩,rfl⟩,rfl⟩ rfl) ?_;refine yR ⟨_,_,rfl,rfl,by decide,rfl,gb _ [] [] rfl (by kernel_rfl),gb _ [] [] rfl (by kernel_rfl),.plain (aJ aa rfl rfl rfl rfl)⟩<|zC<|ao ?_;refine rC ?_;refine rQ iD ?_;refine rC<|aE ?_
      exact aU (i+1,(cu p l e x q).1,sp++[(cu p l e x q).2]) [(73,some 296),(74,some 312)] ⟨by simp only; rw[show fuel.toNat+2-(i+1)=fuel.toNat+1-i by omega]; exact hg,hIs _ _ _ _ hInv hx0 (by omega),qi P hxS hS,by simp only[List.length_append,List.length_singleton]; omega,by simp only; omega⟩ (by simp only; omega) (lg zj ⟨⟨rfl,rfl,_,rfl,aO.of_eq (by simp only[List.length_append,List.length_singleton]; rfl)⟩,zM,zM,zR,zM,zM,zM,zM,zM,zR,zR,trivial⟩)
  cases r with
  | none=>exact main _ _ ⟨rfl,rfl⟩
  | some a=>obtain⟨q,sp⟩:=a; exact main _ _ ⟨rfl,rfl⟩
 exact goal _ rfl
end Go.Proofs.Ytkehohfgbblokaa
namespace Go.Eng
open Go.RowKit
section
variable {P : Program} {T : Tab} {sz : Nat} {env : Env} {h : Upds} {n : Nat}
theorem qX (hT:an P T) {t e r r2:Nat} {re:TyR} {s:Nat} {ex ex2:Bool} {cap2:Option Nat} {α:Type} {enc:α→D} {xs:List α} {x y:Operand} {d:D} (el:α) (ht:bq T t=some (.slice e)) (he:lk T e=some re) (hs:Nat.beq re.size s=true) (hs0:Nat.blt 0 s=true)
  (hx:aq env x=some (.own r 0 xs.length s none)) (hrow:aT h r=some (.ds e s ex enc xs)) (hy:aq env y=some (.own r2 0 1 s cap2)) (hrow2:aT h r2=some (.lits e s 1 ex2 (.acons (.d d) .anil))) (hd:d=enc el)
  (hlen:xs.length+1≤134217728) (hbytes:Nat.ble re.bytes 1048576=true) :
  aj P (.call { callee :=.builtin .append,args := #[x,y],argTypes := #[t,t] }) env h n (some (.own n 0 (xs.length+1) s none)) [(n,some (.ds e s false enc (xs++[el]))),(r,none)]:=by
 have hs0:=Nat.le_of_ble_eq_true hs0
 have hb:=Nat.le_of_ble_eq_true hbytes
 refine gj hT (ty:=0) (ys:=[el]) (ex:=ex) ht he (Nat.eq_of_beq_eq_true hs) hs0 hx hrow hy (by simp) (by simp only[maxLen,List.length_cons,List.length_nil]; omega) ?_ ?_
 ·have:(xs.length+[el].length)*re.bytes≤134217728*1048576:=Nat.mul_le_mul (by simpa using hlen) hb
  omega
 ·intro C G st σ w a hA hst
  obtain⟨hy1,_⟩:=au hst (hA.ev hy)
  have hr2:=hst.rows r2 _ (hA.row _ _ hrow2)
  rcases RelV.own.1 hy1 with ⟨_,_,h0,_⟩ | ⟨b,c,ad,hb,hv,hle,_,_,had⟩
  ·omega
  ·have:ad=⟨b,0,none⟩:=by have:=had (by omega); simpa using this
   subst this
   rcases hr2 with ⟨_,⟨hn,_⟩ | ⟨b',c',cur,cs,hb',_,hh,hcs,_,_,hcl,hrel,htk⟩⟩
   ·rw[hb]at hn; cases hn
   ·rw[hb]at hb'
    cases hb'
    obtain⟨c1,c2,rfl,h1,h2⟩:=hrel
    obtain rfl:c2=[]:=h2
    rw[List.append_nil]at hcl htk
    have h1:Enc w (st.X C.X0 σ) d c1:=h1
    refine⟨⟨b,0,none⟩,_,fun _=>c1,hv,fun i hi=>?_,fun j u hj=>?_⟩
    ·have:i=0:=by simp at hi; exact hi
     subst this
     exact⟨by simpa[←hd]using h1,by simpa using hcl⟩
    ·simp only[List.length_cons,List.length_nil,cat,List.nil_append]at hj
     have hjl:=(List.getElem?_eq_some_iff.1 hj).1
     rw[dY,cell_of_row w b _ cur e (0,0) hh,Nat.zero_add,←Array.getElem?_toList]
     rw[←htk,List.getElem?_take,if_pos (by omega)]at hj
     exact hj
end
end Go.Eng
namespace Go.Proofs.Ytkehohfgbblokaa
open Go.Eng Go.Plain
set_option maxHeartbeats 32000000
set_option maxRecDepth 20000
def dSt:LSt:=⟨0,[],[],[]⟩
def stN (st:List LSt) (i:Int):LSt:=(st[i.toNat]?).getD dSt
def spN (sp:List (List aI)) (i:Int):List aI:=(sp[i.toNat]?).getD []
def endB (p:Prep) (l:List HOp) (e:Nat) (x:LSt):Bool:=decide (x.era=(e:Int)-1)&&iJ l p.lo (zOf p x.era) x
def bkF (i:Nat) (B:List (List Int)) (y:aI):List (List Int):=B.set y.to.toNat (((B[y.to.toNat]?).getD [])++[(i:Int)])
structure GSt where
 B:List (List Int)
 out:List Bool
 opn:List Int
def gd1 (p:Prep) (l:List HOp) (e:Nat) (st:List LSt) (sp:List (List aI)) (g:GSt) (i:Nat):GSt :=
 if endB p l e (stN st i)=true then⟨(spN sp i).foldl (bkF i) g.B,g.out.set i true,g.opn++[(i:Int)]⟩
 else⟨(spN sp i).foldl (bkF i) g.B,g.out,g.opn⟩
def gd0 (n:Nat):GSt:=⟨List.replicate n [],List.replicate n false,[]⟩
def gdA (p:Prep) (l:List HOp) (e:Nat) (st:List LSt) (sp:List (List aI)):Nat→GSt
 | 0=>gd0 st.length
 | i+1=>gd1 p l e st sp (gdA p l e st sp i) i
def pshF (a:List Bool×List Int) (k:Int):List Bool×List Int:=if (a.1[k.toNat]?).getD false=true then a else (a.1.set k.toNat true,a.2++[k])
def popG (B:List (List Int)):Nat→List Bool→List Int→List Bool
 | 0,out,_=>out
 | n+1,out,opn=>match opn.getLast? with
  | none=>out
  | some i=>popG B n (((B[i.toNat]?).getD []).foldl pshF (out,opn.dropLast)).1 (((B[i.toNat]?).getD []).foldl pshF (out,opn.dropLast)).2
def dJ (p:Prep) (l:List HOp) (e:Nat) (st:List LSt) (sp:List (List aI)):List Bool :=
 popG (gdA p l e st sp st.length).B (st.length+1) (gdA p l e st sp st.length).out (gdA p l e st sp st.length).opn
def kH (p:Prep) (l:List HOp) (e:Nat) (st:List LSt) (sp:List (List aI)):Nat→Int→Bool
 | 0,_=>false
 | n+1,i=>if decide ((stN st i).era=(e:Int)-1)=true then iJ l p.lo (zOf p (stN st i).era) (stN st i) else
  match (spN sp i).find? (fun y=>decide (y.op<0)) with
  | none=>false
  | some y=>kH p l e st sp n y.to
def ga (g:List Bool) (y:aI):Bool:=(g[y.to.toNat]?).getD false
def eo (p:Prep) (l:List HOp) (e:Nat) (st:List LSt) (sp:List (List aI)) (g:List Bool):Nat→Int→List Int→List Int
 | 0,_,acc=>acc
 | n+1,i,acc=>if kH p l e st sp e i=true then acc else
  match (spN sp i).find? (ga g) with
  | none=>acc
  | some y=>eo p l e st sp g n y.to (if decide (0≤y.op)=true then acc++[y.op] else acc)
end Go.Proofs.Ytkehohfgbblokaa
