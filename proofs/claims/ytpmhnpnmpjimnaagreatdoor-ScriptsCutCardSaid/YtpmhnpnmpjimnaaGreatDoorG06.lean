/- Texts of the proof: Eng96, Z42, Eng111, Eng112, Eng113, Eng114, Eng115, Eng116, Eng117, Eng118, Eng119, Eng120, Eng121, Eng129, Eng130, Eng103, W1, Eng131, W2, Eng110, Eng132, W3, Eng133, Z22, Eng94, PZ, Z24, Z25, Z26, Z27, Z28, Z29, Z30, Z17, Z18, Z19, Z31, Z35, Z44, W4, Z40, Z43, W5, Eng134, Eng135, Eng97, Eng98. -/
import Derived.Test.YtpmhnpnmpjimnaaGreatDoorG04
import Derived.Test.YtpmhnpnmpjimnaaGreatDoorG05
import Derived.Test.YtpmhnpnmpjimnaaGreatDoorG02
import Derived.Test.YtpmhnpnmpjimnaaGreatDoorG03

set_option linter.unusedVariables false
set_option linter.unusedSimpArgs false
set_option linter.unusedSectionVars false
set_option maxRecDepth 10000

namespace Go.Eng
open Go.RowKit
section
variable {P : Program} {T : Tab} {env : Env} {h : Upds} {n : Nat}
end
theorem nt:∀(l:List D),(dsAV l).flat=true
 | []=>rfl
 | d::l=>by simp[dsAV,AV.flat,nt l]
theorem sv {n:Nat}:∀(l:List D),(dsAV l).lt n=true
 | []=>rfl
 | d::l=>by simp[dsAV,AV.lt,sv l]
theorem kE {G:Nat→Prop}:∀(l:List D),(dsAV l).within G
 | []=>trivial
 | d::l=>⟨trivial,kE l⟩
theorem pG {ρ:Nat→Option Nat}:∀(l:List D),(dsAV l).ren ρ=dsAV l
 | []=>rfl
 | d::l=>by simp only[dsAV,AV.ren,pG l]
def chF (A:AV) (l:List D):AV :=.acons A (dsAV l)
theorem mp {A:AV} (hA:A.flat=true) (l:List D):(chF A l).flat=true:=by simp[chF,AV.flat,hA,nt]
theorem cL {A:AV} {n:Nat} (hA:A.lt n=true) (l:List D):(chF A l).lt n=true:=by simp[chF,AV.lt,hA,sv]
theorem rm {A:AV} {G:Nat→Prop} (hA:A.within G) (l:List D):(chF A l).within G:=⟨hA,kE l⟩
theorem gI {A:AV} {ρ:Nat→Option Nat} (l:List D):(chF A l).ren ρ=chF (A.ren ρ) l:=by simp only[chF,AV.ren,pG]
theorem oj {s:Nat}:∀(l:List D) (i:Nat) (d:D),(∀x∈l,x.size=s)→l[i]?=some d→(dsAV l).chainAt i (i*s)=some (.d d)
 | [],i,d,_,h=>by simp at h
 | x::l,0,d,_,h=>by simp at h; subst h; simp[dsAV,AV.chainAt]
 | x::l,i+1,d,hs,h=>by
  have hd:=hs x (by simp)
  simp only[dsAV,AV.chainAt,AV.size,hd]
  have e:Nat.ble s ((i+1)*s)=true:=Nat.ble_eq_true_of_le (by rw[Nat.add_mul]; omega)
  rw[e,show (i+1)*s-s=i*s by rw[Nat.add_mul]; omega]
  exact oj l i d (fun x hx=>hs x (by simp[hx])) (by simpa using h)
theorem pF {d:D}:∀(l:List D) (i:Nat),i<l.length→AV.chainSet (.d d) i (dsAV l)=dsAV (l.set i d)
 | [],i,h=>by simp at h
 | x::l,0,_=>rfl
 | x::l,i+1,h=>by
  simp only[dsAV,AV.chainSet,List.set_cons_succ,pF l i (by simpa using h)]
theorem fu {t:TypeId} {s:Nat} {ex:Bool} {A:AV} {l:List D} {m i:Nat} (hm:0<m) (hi:i=0):RSub (.lits t s m ex (chF A l)) [.idx i s] A:=by
 subst hi
 refine⟨rfl,hm,?_⟩
 rw[Nat.zero_mul]
 rfl
theorem qj {t:TypeId} {s:Nat} {ex:Bool} {A y:AV} {l:List D} {m i:Nat} (hm:0<m) (hi:i=0) (h1:A.size=y.size) (h2:A.isAgg=y.isAgg):RUpd (.lits t s m ex (chF A l)) [.idx i s] y (.lits t s m ex (chF y l)):=by
 subst hi
 refine⟨rfl,hm,?_⟩
 rw[Nat.zero_mul]
 exact⟨y,⟨h1,h2,rfl⟩,rfl⟩
theorem s6 {t:TypeId} {s:Nat} {ex:Bool} {A:AV} {l:List D} {m i k:Nat} {d:D} (hA:A.size=s) (hl:∀d∈l,d.size=s) (hm:m=l.length+1) (hi:i=k+1) (hd:l[k]?=some d):RSub (.lits t s m ex (chF A l)) [.idx i s] (.d d):=by
 subst hm hi
 have hk:=(List.getElem?_eq_some_iff.1 hd).1
 refine⟨rfl,by omega,?_⟩
 have e:(chF A l).chainAt (k+1) ((k+1)*s)=some (.d d):=by
  simp only[chF,AV.chainAt,hA]
  have e:Nat.ble s ((k+1)*s)=true:=Nat.ble_eq_true_of_le (by rw[Nat.add_mul]; omega)
  rw[e,show (k+1)*s-s=k*s by rw[Nat.add_mul]; omega]
  exact oj l k d hl hd
 rw[e]
 rfl
theorem s5 {t:TypeId} {s:Nat} {ex:Bool} {A:AV} {l:List D} {m i k:Nat} {d y:D} (hA:A.size=s) (hl:∀d∈l,d.size=s) (hm:m=l.length+1) (hi:i=k+1) (hd:l[k]?=some d) (h1:d.size=y.size) (h2:d.isAgg=y.isAgg):RUpd (.lits t s m ex (chF A l)) [.idx i s] (.d y) (.lits t s m ex (chF A (l.set k y))):=by
 subst hm hi
 have hk:=(List.getElem?_eq_some_iff.1 hd).1
 refine⟨rfl,by omega,?_⟩
 have e:(chF A l).chainAt (k+1) ((k+1)*s)=some (.d d):=by
  simp only[chF,AV.chainAt,hA]
  have e:Nat.ble s ((k+1)*s)=true:=Nat.ble_eq_true_of_le (by rw[Nat.add_mul]; omega)
  rw[e,show (k+1)*s-s=k*s by rw[Nat.add_mul]; omega]
  exact oj l k d hl hd
 rw[e]
 refine⟨.d y,?_,?_⟩
 ·show AUpd (.d d) [] (.d y) (.d y)
  exact⟨h1,h2,rfl⟩
 ·simp only[chF,AV.chainSet,pF l k hk]
theorem aE.ds_chF {t:TypeId} {s m:Nat} {ex:Bool} {α:Type} {enc:α→D} {xs:List α} {y:α} {z:D} (hm:m=xs.length+1) (hz:z=enc y):aE (.ds t s ex enc (y::xs)) (.lits t s m ex (chF (.d z) (xs.map enc))):=by
 subst hm hz
 intro σ w X r h
 refine⟨mp rfl _,?_⟩
 rcases h with ⟨h0,h1⟩ | ⟨b,c,cur,hb,hex,hh,hsz,hlen,hmax,f,hf,htake⟩
 ·simp at h1
 ·have hfl:∀i,i<xs.length+1→(f i).length=s:=fun i hi=>(hf i hi).2
  exact .inr ⟨b,c,cur,cat f (xs.length+1),hb,hex,hh,hsz,hlen,hmax,bS _ hfl,oi (σ:=σ) (w:=w) (X:=X) (y::xs) f fun i hi=>(hf i hi).1,htake⟩
theorem FrzR.first {r t te s s2 m:Nat} {ex ex2:Bool} {α β:Type} {enc:α→D} {enc2:β→D} {xs:List α} {y:α} {ys:List β} {len:Nat} {l:List D} (hl:len=ys.length) (hy:enc y=.arr s2 enc2 ys) (hm:m=xs.length+1) (hs:∀x,(enc x).size=s) (hmap:l=xs.map enc) :
  FrzR r (.ds te s2 ex2 enc2 ys) (.lits t s m ex (chF (.own r 0 len s2 none) l)) (.ds t s ex enc (y::xs)):=by
 subst hm hmap
 refine⟨fun G h=>trivial,fun σ w X X' q hx hn hr hq=>?_⟩
 rcases hq with ⟨_,⟨_,h1⟩ | ⟨b',c',cur,cs',hb',hex,hh,hsz,hlen,hmax,hcl,hrel,htake⟩⟩
 ·omega
 ·obtain⟨c2,c1,rfl,h2,h1⟩:=hrel
  have h3:=(Frz.own (te:=te) (ex:=ex2) (cap:=none) hl).2.2.2 σ w X X' hx hn hr c2 h2
  rw[←hy]at h3
  obtain⟨f,hf,rfl⟩:=hO xs _ h1
  have hfl:∀i,i<xs.length→(f i).length=s:=fun i hi=>by rw[←hs xs[i]]; exact Enc.len _ _ (hf i hi)
  have hc2:c2.length=s:=by rw[←hs y]; exact Enc.len _ _ h3
  refine .inr ⟨b',c',cur,hb',hex,hh,hsz,hlen,hmax,fun i=>if i=0 then c2 else f (i-1),fun i hi=>?_,?_⟩
  ·cases i with
   | zero=>exact⟨h3,hc2⟩
   | succ i =>
    have hi2:i<xs.length:=by simpa using hi
    simp only[Nat.add_one_ne_zero,if_false,Nat.add_sub_cancel,List.getElem_cons_succ]
    exact⟨Enc.sub hx _ _ (hf i hi2),hfl i hi2⟩
  ·rw[List.length_cons,htake,Nat.add_comm xs.length 1,eu 1]
   congr 1
   exact cN _ fun i _=>by simp[show 1+i-1=i by omega]
section
variable {P : Program} {T : Tab} {env : Env} {h : Upds} {n : Nat}
end
end Go.Eng
namespace Go.Proofs.YtpmhnpnmpjimnaaGreatDoor
open Go.Eng Go.Plain
set_option maxHeartbeats 32000000
set_option maxRecDepth 20000
attribute [local irreducible] WC RegS RegD SeqQ BlkQ ScoQ RegK CutK Sat SatN FnIs LoopQ aq OpIs
theorem bZ {ρ:Nat→Option Nat} {t s m b b' len:Nat} {ex:Bool} {l:List D} (h:ρ b'=some b):aE (.lits t s m ex (chF (.own b 0 len 3 none) l)) (Row.ren ρ (.lits t s m ex (chF (.own b' 0 len 3 none) l))):=by
 refine aE.of_eq ?_
 simp only[Row.ren,gI,AV.ren,h]
abbrev rowF (l:List (List POp)) (b:Nat):Row:=match l with
 | []=>.lits 49 1 0 false .anil
 | p::l=>.lits 49 1 (l.length+1) false (chF (.own b 0 p.length 3 none) (l.map encP))
abbrev rowH (l:List (List POp)):Row :=.ds 52 3 false br (l.head?.getD [])
end Go.Proofs.YtpmhnpnmpjimnaaGreatDoor
namespace Go.Eng
open Go.RowKit
section
variable {P : Program} {T : Tab} {sz : Nat} {env : Env} {h : Upds} {n : Nat}
end
end Go.Eng
namespace Go.Eng
open Go.RowKit
section
variable {P : Program} {T : Tab} {f : FuncId} {avs avs' : List AV} {h0 rows : List (Nat × Row)} {res res' : AV} {env : Env} {h : Upds} {n : Nat}
theorem FnIs.res_le (hl:AVLe res res') (hw:∀G:Nat→Prop,res'.within G) (h:FnIs P f avs h0 res rows):FnIs P f avs h0 res' rows:=by
 refine⟨h.1,fun C σ w vs hbs hB hw0 hσ hro hst=>(h.2 C σ w vs hbs hB hw0 hσ hro hst).mono ?_⟩
 rintro e w' ⟨v,σ',rfl,hr⟩
 refine⟨v,σ',rfl, { hr with env:=fun i x hi=>?_,envG:=fun i x hi=>?_ }⟩
 ·by_cases e:i=0
  ·subst e
   simp only[bx,aD,if_pos,Option.some.injEq]at hi
   subst hi
   obtain⟨u,hu,hv⟩:=hr.env 0 _ rfl
   exact⟨u,hu,hl _ _ _ _ hv⟩
  ·simp only[bx,aD,if_neg (Ne.symm e),lk]at hi
   cases hi
 ·by_cases e:i=0
  ·subst e
   simp only[bx,aD,if_pos,Option.some.injEq]at hi
   subst hi
   exact hw _
  ·simp only[bx,aD,if_neg (Ne.symm e),lk]at hi
   cases hi
def BM (res:AV) (row:Row):Prop:=(∀(σ:Place) (w:World) (X X':Nat→Prop) (v:Value),RelV σ w X res v→RelV σ w X' res v)∧(∀(σ:Place) (w:World) (X X':Nat→Prop),bd σ w X 64 row→bd σ w X' 64 row)∧res.within (fun r=>r<72)∧row.within (fun r=>r<72)
def AV.free:AV→Bool
 | .d (.sc _)=>true
 | .own .. => true
 | .sl _=>true
 | .anil=>true
 | .acons a r=>bif a.free then r.free else false
 | .tup q=>q.free
 | _=>false
theorem Rel.free {σ:Place} {w w':World} {X X':Nat→Prop}:∀(a:AV) (m:Bool) (cs:List Value),a.free=true→Rel σ w X a m cs→Rel σ w' X' a m cs:=by
 intro a
 induction a with
 | d x =>
  intro m cs hf h
  cases x with
  | sc v=>exact h
  | _=>simp[AV.free]at hf
 | anil=>intro m cs _ h; exact h
 | acons a r iha ihr =>
  intro m cs hf h
  have hf2:a.free=true∧r.free=true:=by
   simp only[AV.free]at hf
   cases ha:a.free with
   | false=>rw[ha]at hf; cases hf
   | true=>rw[ha]at hf; exact⟨rfl,hf⟩
  cases m with
  | false =>
   obtain⟨c1,c2,rfl,h1,h2⟩:=h
   exact⟨c1,c2,rfl,iha _ _ hf2.1 h1,ihr _ _ hf2.2 h2⟩
  | true =>
   obtain⟨v,us,rfl,h1,h2⟩:=h
   refine⟨v,us,rfl,?_,ihr _ _ hf2.2 h2⟩
   split at h1 <;> rename_i hag
   ·obtain⟨c,rfl,hc⟩:=h1
    rw[if_pos hag]
    exact⟨c,rfl,iha _ _ hf2.1 hc⟩
   ·rw[if_neg hag]
    exact iha _ _ hf2.1 h1
 | own=>intro m cs _ h; exact h
 | sl n=>intro m cs _ h; exact h
 | tup q ih =>
  rintro m cs hf ⟨vs,rfl,h1⟩
  exact⟨vs,rfl,ih _ _ hf h1⟩
 | _=>intro m cs hf; simp[AV.free]at hf
theorem RelV.free {σ:Place} {w w':World} {X X':Nat→Prop} {a:AV} {v:Value} (hf:a.free=true) (h:RelV σ w X a v):RelV σ w' X' a v:=by
 unfold RelV at h ⊢
 split at h <;> rename_i hag
 ·obtain⟨c,rfl,hc⟩:=h
  rw[if_pos hag]
  exact⟨c,rfl,Rel.free a _ _ hf hc⟩
 ·rw[if_neg hag]
  exact Rel.free a _ _ hf h
end
end Go.Eng
namespace Go.Eng
open Go.RowKit
theorem RelV.re {f:Bool} {σ:Place} {w:World} {X S:Nat→Prop} {x:D} {u:Value}:RelV σ w X (.d (.re f S x)) u↔RelV σ w (fun b=>X b∨S b∨(f=true∧Icy w b)) (.d x) u:=by
 unfold RelV
 exact Iff.rfl
theorem DLe.re {f:Bool} {S:Nat→Prop} {x:D}:DLe (.re f S x) x:=fun w X cs h=>Enc.mono (X:=fun b=>X b∨S b∨(f=true∧Icy w b)) (fun _ _ h1 h2=>⟨.rfl' h1,fun h3=>h2 (.inl h3)⟩) x cs h
theorem DLe.re_sub {f:Bool} {S S':Nat→Prop} {x:D} (hs:∀b,S' b→S b):DLe (.re f S x) (.re f S' x):=fun w X cs h =>
 Enc.mono (X:=fun b=>X b∨S b∨(f=true∧Icy w b)) (X':=fun b=>X b∨S' b∨(f=true∧Icy w b)) (fun _ _ h1 h2=>⟨.rfl' h1,fun h3=>h2 (h3.imp id (Or.imp (hs _) id))⟩) x cs h
theorem DLe.re_jk {α:Type} {S:Nat→Prop} {p:Value→Prop} {e:α→Value} {xs:List α} {n:Nat} (hn:xs.length=n) (hp:∀x,p (e x)):DLe (.re true S (.arr 1 (fun i=>.sc (e i)) xs)) (.jk S p n):=by
 subst hn
 rintro w X cs (⟨rfl,rfl⟩ | ⟨a,c,rfl,_,_,f,hf⟩)
 ·exact⟨none,0,rfl,fun j hj=>by cases hj⟩
 ·refine⟨some a,c,rfl,fun j hj=>?_⟩
  obtain⟨h1,_,h3⟩:=hf j hj
  obtain⟨h4,h5⟩:=h3 0 (e xs[j]) (by rw[h1.1]; rfl)
  exact⟨a,_,rfl,by simpa using h4,fun h=>h5 (.inl h),fun h=>h5 (.inr (.inl h)),fun h=>h5 (.inr (.inr ⟨rfl,h⟩)),hp _⟩
def Row.wet:Row→Bool
 | .box .. => true
 | .ds .. => true
 | .lits .. => true
 | _=>false
theorem Row.wet_ice {σ:Place} {w:World} {X:Nat→Prop} {r:Nat} {row:Row} (hw:row.wet=true) (h:bd σ w X r row) {b c:Nat} (hb:σ r=some (b,c)):¬Icy w b:=by
 have key:∀cur t,w.heap[b]?=some (.cells cur t (0,0))→¬Icy w b:=by
  rintro cur t h1 ⟨a,rfl,h2⟩
  simp only[World.frozen?,h1]at h2
  simp at h2
 cases row with
 | box t a =>
  obtain⟨_,b',cs,h1,h2,_⟩:=h
  rw[hb]at h1; cases h1
  exact key _ _ h2
 | ds t s ex enc xs =>
  rcases h with ⟨h1,_⟩ | ⟨b',c',cur,h1,_,h2,_⟩
  ·rw[hb]at h1; cases h1
  ·rw[hb]at h1; cases h1
   exact key _ _ h2
 | lits t s n ex a =>
  rcases h with ⟨_,⟨h1,_⟩ | ⟨b',c',cur,cs,h1,_,h2,_⟩⟩
  ·rw[hb]at h1; cases h1
  ·rw[hb]at h1; cases h1
   exact key _ _ h2
 | _=>cases hw
section
variable {P : Program} {f : FuncId} {avs : List AV} {res : AV}
theorem FnIs.new_re {S:Nat→Prop} {k:Nat} (hk:k<64) {row:Row} {x:D} (hfr:∀(σ:Place) (w:World) (X X':Nat→Prop),bd σ w X 64 row→bd σ w X' 64 row) (hwet:row.wet=true) (hres:res.free=true) (hag:res.isAgg=false) (hF:Frz 64 row res (.d x))
    (h:FnIs P f avs [] res [(64,row)]):FnIs P f avs [(k,.lo S)] (.d (.re true S x)) [(k,.lo S)]:=by
  refine⟨h.1,fun C σ w vs hbs hB hw hσ hro hst=>?_⟩
  have hlo:=hst.rows k (.lo S) (by simp[inSt,aS,St.row,lk])
  have hXe:∀b,(inSt avs []).X C.X0 σ b→(inSt avs [(k,.lo S)]).X C.X0 σ b:=by
    rintro b (hb | ⟨r,ro,c,g1,_⟩)
    · exact .inl hb
    · simp[inSt,aS,St.row,lk]at g1
  have hc:aG { C with M:=fun _=>False } (fun r=>r<64) (inSt avs []) σ w ⟨vs.toArray,[]⟩:=
    { env:=fun i v hi=>by
        obtain⟨u,h1,h2⟩:=hst.env i v hi
        exact⟨u,h1,RelV.mono (G:=fun _=>True) (fun _ _=>rfl) (fun _ _ h3 h4=>⟨.rfl' h3,fun h5=>h4 (hXe _ h5)⟩) v.within_all h2⟩
      envG:=hst.envG
      rows:=fun r row hr=>by simp[inSt,aS,St.row,lk]at hr
      rowsG:=fun r row hr=>by simp[inSt,aS,St.row,lk]at hr
      inj:=fun r r' row row' b c c' hr=>by simp[inSt,aS,St.row,lk]at hr
      high:=fun r row b c hr=>by simp[inSt,aS,St.row,lk]at hr
      size:=hst.size
      below:=by show cX C.B _ C.w0 w; rw[hw]; exact cX.refl _ _ _
      defers:=trivial
      sz:=hst.sz
      x0:=fun b hb=>⟨(hst.x0 b hb).1,id⟩
      agree:=hst.agree
      baseG:=hst.baseG
      bs:=hst.bs
      rok:=hst.rok
      glob:=fun x hx=>⟨(hst.glob x hx).1,(hst.glob x hx).2.1,id⟩ }
  refine (h.2 { C with M:=fun _=>False } σ w vs hbs hB hw hσ hro hc).mono ?_
  rintro e w' ⟨v,σ',rfl,hr⟩
  refine⟨v,σ',rfl,?_⟩
  have hbm:cX C.B (fun _=>False) w w':=by have:=hr.below; rw[←hw]; exact this
  have hag2:∀r,r<64→σ' r=σ r:=fun r hr64=>by
    have:=hr.agree r (by show r<C.bs; omega)
    rw[this]; show C.σ0 r=σ r; rw[hσ]
  have hnew:∀b c,σ' 64=some (b,c)→w.heap.size≤b:=fun b c hb=>by
    rcases hr.high 64 row b c rfl hb with h | h
    · have h:C.B≤b:=h
      omega
    · exact h.elim
  have hX:∀b,(bx (.d (.re true S x)) [(k,.lo S)]).X C.X0 σ' b→b<w.heap.size:=by
    rintro b (hb | ⟨r,ro,c,g1,g2⟩)
    · have:=(hst.x0 b hb).1; omega
    · have:r=k:=by
        simp only[bx,aS,St.row,aD]at g1
        by_cases e:k=r
        · exact e.symm
        · rw[if_neg e]at g1; simp[lk]at g1
      subst this
      rw[hag2 r hk,hlo.1]at g2; cases g2
  obtain⟨u,hu,hv⟩:=hr.env 0 _ rfl
  have hrow:=hr.rows 64 row rfl
  exact
    { env:=fun i y hi=>by
        by_cases e:i=0
        · subst e
          simp only[bx,aD,if_pos,Option.some.injEq]at hi
          subst hi
          refine⟨v,rfl,?_⟩
          have hu':v=u:=by simpa using hu
          subst hu'
          rw[RelV.re]
          have h1:=RelV.free (X':=fun b=>(bx (.d (.re true S x)) [(k,.lo S)]).X C.X0 σ' b∨S b∨(true=true∧Icy w' b)) (w':=w') hres hv
          unfold RelV at h1 ⊢
          rw[if_neg (by rw[hag]; decide)]at h1
          rw[if_neg (by rw[hF.1,hag]; decide)]
          refine hF.2.2.2 σ' w' _ _ (fun _ h=>h) (fun b c hb=>?_) (hfr _ _ _ _ hrow) _ h1
          have:=hnew b c hb
          rintro (h2 | h2 | h2)
          · have:=hX b h2; omega
          · have:=hlo.2 b h2; omega
          · exact Row.wet_ice hwet hrow hb h2.2
        · simp only[bx,aD,if_neg (Ne.symm e),lk]at hi
          cases hi
      envG:=fun i y hi=>by
        by_cases e:i=0
        · subst e
          simp only[bx,aD,if_pos,Option.some.injEq]at hi
          subst hi
          trivial
        · simp only[bx,aD,if_neg (Ne.symm e),lk]at hi
          cases hi
      rows:=fun r ro hr'=>by
        simp only[bx,aS,St.row,aD]at hr'
        by_cases e:k=r
        · subst e
          rw[if_pos rfl]at hr'
          simp only[Option.bind_some,id,Option.some.injEq]at hr'
          subst hr'
          exact⟨by rw[hag2 k hk]; exact hlo.1,fun b hb=>Nat.lt_of_lt_of_le (hlo.2 b hb) hbm.size⟩
        · rw[if_neg e]at hr'; simp[lk]at hr'
      rowsG:=fun r ro hr'=>by
        simp only[bx,aS,St.row,aD]at hr'
        by_cases e:k=r
        · subst e
          rw[if_pos rfl]at hr'
          simp only[Option.bind_some,id,Option.some.injEq]at hr'
          subst hr'
          exact⟨by show k<72; omega,trivial⟩
        · rw[if_neg e]at hr'; simp[lk]at hr'
      inj:=fun r r' ro ro' b c c' g1 g2 _ _=>by
        simp only[bx,aS,St.row,aD]at g1 g2
        by_cases e:k=r <;> by_cases e':k=r'
        · omega
        · rw[if_neg e']at g2; simp[lk]at g2
        · rw[if_neg e]at g1; simp[lk]at g1
        · rw[if_neg e]at g1; simp[lk]at g1
      high:=fun r ro b c g1 g2=>by
        simp only[bx,aS,St.row,aD]at g1
        by_cases e:k=r
        · subst e
          rw[hag2 k hk,hlo.1]at g2; cases g2
        · rw[if_neg e]at g1; simp[lk]at g1
      size:=hr.size
      below:=by rw[hw]; exact⟨hbm.os,hbm.tape,hbm.output,hbm.size,fun k hk _=>hbm.block k hk id,hbm.book⟩
      defers:=trivial
      sz:=rfl
      x0:=hst.x0
      agree:=fun r hr2=>hr.agree r hr2
      baseG:=fun r hr=>by have:=hst.baseG r hr; exact Nat.lt_of_lt_of_le this (by decide)
      bs:=hst.bs
      rok:=fun l hl=>by rw[hro]at hl; cases hl
      glob:=hst.glob }
end
end Go.Eng
namespace Go.Eng
open Go.RowKit
abbrev NotS (S:Nat→Prop):Nat→Prop:=fun b=>¬S b
section
variable {P : Program} {S : Nat → Prop} {c : Code} {Q : Exit → St → Prop} {st : St}
def SatC (S:Nat→Prop) (P:Program) (c:Code) (Q:Exit→St→Prop) (st:St):Prop :=
 ∀(C:Ctx) (σ:Place) (w:World) (a:Act),(∀b,¬S b→C.B≤b)→aG C (fun r=>r<st.next) st σ w a→c.wpIn (fen C.ro) 0 P (Lift C Q) a w
theorem Sat.toC (h:Sat P c Q st):SatC S P c Q st:=fun C σ w a _ hst=>h C σ w a hst
def SeqT (S:Nat→Prop) (P:Program) (b:Code) (Q:Exit→St→Prop) (e:Exit) (st:St):Prop:=match e with
 | .normal=>SatC S P b Q st
 | e=>Q e st
theorem jw {x y:Code} (h1:SatC S P x (SeqT S P y Q) st):SatC S P (.seq x y) Q st:=by
 intro C σ w a hS hst
 refine wpIn_seq (wpIn_mono (h1 C σ w a hS hst) ?_)
 rintro e a' w' ⟨st',σ',h1,h2⟩
 cases e with
 | normal=>exact h1 C σ' w' a' hS h2
 | _=>exact⟨st',σ',h1,h2⟩
theorem cj {b:Code} (h1:SatC S P b Q st):SeqT S P b Q .normal st:=h1
def ib (S:Nat→Prop) (env env':Env):Prop:=∀i v',lk env' i=some v' → ∃v,lk env i=some v∧(v'=v∨∃x,v=.d x∧v' = .d (.re false (NotS S) x))
theorem ib.nil {env:Env}:ib S env []:=fun i v' h=>by simp[lk]at h
theorem ib.keep {env env':Env} {i:Nat} {v:AV} (h:lk env i=some v) (h2:ib S env env'):ib S env ((i,v)::env'):=fun j v' hj=>by
 rw[aD]at hj
 by_cases e:i=j
 ·subst e; rw[if_pos rfl]at hj; cases hj; exact⟨v,h,.inl rfl⟩
 ·rw[if_neg e]at hj; exact h2 j v' hj
theorem rD {C:Ctx} {σ:Place} {w:World} {a:Act} (env':(Nat→Prop)→Env) (hE:∀S,ib S st.env (env' S)) (hbs:st.bs≤st.next) (hst:aG C (fun r=>r<st.next) st σ w a) :
  ∃(S:Nat→Prop) (σ':Place),S=(fun b=>b<w.heap.size)∧(∀b,¬S b→C.B≤b)∧aG C (fun r=>r<st.next+8) ⟨env' S,(st.next,some (.lo S))::st.heap,st.next+8,st.sz,st.bs⟩ σ' w a:=by
 obtain⟨S,hSd⟩:∃S:Nat→Prop,S=fun b=>b<w.heap.size:=⟨_,rfl⟩
 obtain⟨σ',hσd⟩:∃σ':Place,σ'=fun r=>if r=st.next then none else σ r:=⟨_,rfl⟩
 have hσ:∀r,r<st.next→σ' r=σ r:=fun r hr=>by rw[hσd]; simp only; rw[if_neg (by omega)]
 have hσn:σ' st.next=none:=by rw[hσd]; simp
 have hrow:∀r,(⟨st.env,(st.next,some (.lo S))::st.heap,st.next+8,st.sz,st.bs⟩:St).row r=if st.next=r then some (.lo S) else st.row r:=fun r=>by
  simp only[St.row,aD]
  split <;> rfl
 have hX:∀b,(⟨st.env,(st.next,some (.lo S))::st.heap,st.next+8,st.sz,st.bs⟩:St).X C.X0 σ' b→st.X C.X0 σ b:=by
  rintro b (hb | ⟨r,ro,d,g1,g2⟩)
  ·exact .inl hb
  ·rw[hrow]at g1
   by_cases e:st.next=r
   ·subst e; rw[hσn]at g2; cases g2
   ·rw[if_neg e]at g1
    rw[hσ r (hst.rowsG r ro g1).1]at g2
    exact .inr ⟨r,ro,d,g1,g2⟩
 have hk:∀(ad:Addr) (u:Value),w.cell? ad=some u→¬st.X C.X0 σ ad.block→Kp w w ad u∧¬(⟨st.env,(st.next,some (.lo S))::st.heap,st.next+8,st.sz,st.bs⟩:St).X C.X0 σ' ad.block:=fun ad u h1 h2=>⟨.rfl' h1,fun h3=>h2 (hX _ h3)⟩
 have h1:aG C (fun r=>r<st.next+8) ⟨st.env,(st.next,some (.lo S))::st.heap,st.next+8,st.sz,st.bs⟩ σ' w a:=by
  refine⟨fun i v hi=>?_,fun i v hi=>?_,fun r ro hr=>?_,fun r ro hr=>?_,fun r r' ro ro' b d d' g1 g2 g3 g4=>?_,fun r ro b d g1 g2=>?_,hst.size,hst.below,hst.defers,hst.sz,hst.x0,fun r hr=>?_,fun r hr=>?_,hst.bs,hst.rok,hst.glob⟩
  ·obtain⟨u,g1,g2⟩:=hst.env i v hi
   exact⟨u,g1,RelV.mono hσ hk (hst.envG i v hi) g2⟩
  ·exact AV.within.mono (fun r hr=>Nat.lt_add_right 8 hr) v (hst.envG i v hi)
  ·rw[hrow]at hr
   by_cases e:st.next=r
   ·subst e; rw[if_pos rfl]at hr; cases hr
    exact⟨hσn,fun b hb=>by rw[hSd]at hb; exact hb⟩
   ·rw[if_neg e]at hr
    exact bd.mono hσ hk (Nat.le_refl _) (hst.rowsG r ro hr).1 (hst.rowsG r ro hr).2 (fun _ _ _=>rfl) (hst.rows r ro hr)
  ·rw[hrow]at hr
   by_cases e:st.next=r
   ·subst e; rw[if_pos rfl]at hr; cases hr
    exact⟨by omega,trivial⟩
   ·rw[if_neg e]at hr
    obtain⟨g1,g2⟩:=hst.rowsG r ro hr
    refine⟨Nat.lt_add_right 8 g1,?_⟩
    cases ro with
    | box t x=>exact AV.within.mono (fun r hr=>Nat.lt_add_right 8 hr) x g2
    | ds=>trivial
    | lits t s n ex x=>exact AV.within.mono (fun r hr=>Nat.lt_add_right 8 hr) x g2
    | mo x=>exact AV.within.mono (fun r hr=>Nat.lt_add_right 8 hr) x g2
    | si=>trivial
    | mq=>trivial
    | lo=>trivial
    | mi x=>exact AV.within.mono (fun r hr=>Nat.lt_add_right 8 hr) x g2
  ·rw[hrow]at g1 g2
   by_cases e:st.next=r
   ·subst e; rw[hσn]at g3; cases g3
   ·by_cases e':st.next=r'
    ·subst e'; rw[hσn]at g4; cases g4
    ·rw[if_neg e]at g1
     rw[if_neg e']at g2
     rw[hσ r (hst.rowsG r ro g1).1]at g3
     rw[hσ r' (hst.rowsG r' ro' g2).1]at g4
     exact hst.inj r r' ro ro' b d d' g1 g2 g3 g4
  ·rw[hrow]at g1
   by_cases e:st.next=r
   ·subst e; rw[hσn]at g2; cases g2
   ·rw[if_neg e]at g1
    rw[hσ r (hst.rowsG r ro g1).1]at g2
    exact hst.high r ro b d g1 g2
  ·rw[hσ r (by have:=hst.bs; omega)]; exact hst.agree r hr
  ·exact Nat.lt_add_right 8 (hst.baseG r hr)
 refine⟨S,σ',hSd,fun b hb=>?_, { h1 with env:=fun i v' hi=>?_,envG:=fun i v' hi=>?_ }⟩
 ·have:=hst.size
  rw[hSd]at hb
  simp only at hb
  omega
 ·obtain⟨v,g1,g2⟩:=hE S i v' hi
  obtain⟨u,g3,g4⟩:=h1.env i v g1
  refine⟨u,g3,?_⟩
  rcases g2 with rfl | ⟨x,rfl,rfl⟩
  ·exact g4
  ·rw[RelV.re]
   refine RelV.mono (G:=fun _=>True) (fun _ _=>rfl) (fun ad u' h5 h6=>⟨.rfl' h5,?_⟩) (AV.within_all _) g4
   rintro (h7 | h7 | h7)
   rotate_right
   ·exact Bool.noConfusion h7.1
   ·exact h6 h7
   ·exact h7 (by rw[hSd]; exact World.block_lt_of_cell? w ad h5)
 ·obtain⟨v,g1,g2⟩:=hE S i v' hi
  rcases g2 with rfl | ⟨x,rfl,rfl⟩
  ·exact h1.envG i v' g1
  ·trivial
theorem aG.rebox {C:Ctx} {G:Nat→Prop} {σ:Place} {w:World} {a:Act} {r:Nat} {t:TypeId} {x:D} (hst:aG C G st σ w a) (hr:st.row r=some (.box t (.d x))) (hS:S=fun b=>b<w.heap.size) :
  aG C G (st.upd [(r,some (.box t (.d (.re false (NotS S) x))))]) σ w a:=by
 obtain⟨hf,b,cs,h1,h2,h3⟩:=hst.rows r _ hr
 have h4:Enc w (st.X C.X0 σ) (.re false (NotS S) x) cs.toList:=by
  refine Enc.mono (fun ad u h5 h6=>⟨.rfl' h5,?_⟩) x cs.toList h3
  rintro (h7 | h7 | h7)
  ·exact h6 h7
  ·exact h7 (by rw[hS]; exact World.block_lt_of_cell? w ad h5)
  ·exact Bool.noConfusion h7.1
 have:=hst.write (new:=cs) hr h1 h2 (row :=.box t (.d (.re false (NotS S) x))) trivial (fun w' _ hE hh=>⟨hf,b,cs,h1,hh,hE _ _ h4⟩)
 rw[setRow_self w b cs t (0,0) h2]at this
 exact this
end
end Go.Eng
namespace Go.Eng
open Go.RowKit
def D.safe (S:Nat→Prop) (u:Value):D→Prop
 | .sc _=>True
 | .nil=>True
 | .cons a r=>a.safe S u∧r.safe S u
 | .vec _ _ enc _=>∀x,(enc x).safe S u
 | .re _ T _=>∀b,¬S b→T b
 | .jk _ p _=>p u
 | _=>False
def Turn (w w':World) (ad:Addr) (u:Value):Prop:=∀(a:Addr) (v:Value),w.cell? a=some v→(a.block≠ad.block→w'.cell? a=some v)∧(∃v',w'.cell? a=some v'∧(v'=v∨v'=u))∧(Icy w' a.block→Icy w a.block)
theorem Enc.safe {S:Nat→Prop} {u:Value} {w w':World} {ad:Addr} (ht:Turn w w' ad u) (hS:¬S ad.block):∀(d:D) (X:Nat→Prop) (cs:List Value),d.safe S u→Enc w X d cs→Enc w' X d cs:=by
 intro d
 induction d with
 | sc v=>intro X cs _ h; exact h
 | nil=>intro X cs _ h; exact h
 | cons a r iha ihr =>
  rintro X cs ⟨p1,p2⟩ ⟨c1,c2,rfl,h1,h2⟩
  exact⟨c1,c2,rfl,iha X _ p1 h1,ihr X _ p2 h2⟩
 | vec n s enc xs ih =>
  rintro X cs p ⟨hn,f,hf,rfl⟩
  exact⟨hn,f,fun i hi=>⟨ih _ X _ (p _) (hf i hi).1,(hf i hi).2⟩,rfl⟩
 | re f T y ih =>
  intro X cs p h
  refine Enc.mono (X:=fun b=>X b∨T b∨(f=true∧Icy w b)) (X':=fun b=>X b∨T b∨(f=true∧Icy w' b)) (fun a v hc hx=>⟨⟨(ht a v hc).1 fun e=>hx (.inr (.inl (p _ (by rw[e]; exact hS)))),(ht a v hc).2.2⟩,fun hx'=>hx (hx'.imp id (Or.imp id fun h=>⟨h.1,(ht a v hc).2.2 h.2⟩))⟩) y cs h
 | jk T q n =>
  rintro X cs p ⟨a,c,rfl,h⟩
  refine⟨a,c,rfl,fun j hj=>?_⟩
  obtain⟨b,v,h1,h2,h3,h4,h8,h5⟩:=h j hj
  obtain⟨⟨v',h6,h7⟩,h9⟩:=(ht _ v h2).2
  rw[Addr.add_block]at h9
  refine⟨b,v',h1,h6,h3,h4,fun h=>h8 (h9 h),?_⟩
  rcases h7 with rfl | rfl
  ·exact h5
  ·exact p
 | arr=>intro X cs p; exact p.elim
 | pt=>intro X cs p; exact p.elim
 | arx=>intro X cs p; exact p.elim
def AV.safe (S:Nat→Prop) (u:Value):AV→Prop
 | .d x=>x.safe S u
 | .anil=>True
 | .acons a r=>a.safe S u∧r.safe S u
 | .own .. => True
 | .ptr .. => True
 | .sl _=>True
 | .tup q=>q.safe S u
 | _=>False
theorem Rel.safe {S:Nat→Prop} {u:Value} {w w':World} {ad:Addr} {σ:Place} {X:Nat→Prop} (ht:Turn w w' ad u) (hS:¬S ad.block):∀(a:AV) (m:Bool) (cs:List Value),a.safe S u→Rel σ w X a m cs→Rel σ w' X a m cs:=by
 intro a
 induction a with
 | d x=>intro m cs p h; exact Enc.safe ht hS x X cs p h
 | anil=>intro m cs _ h; exact h
 | acons a r iha ihr =>
  rintro m cs ⟨p1,p2⟩ h
  cases m with
  | false =>
   obtain⟨c1,c2,rfl,h1,h2⟩:=h
   exact⟨c1,c2,rfl,iha _ _ p1 h1,ihr _ _ p2 h2⟩
  | true =>
   obtain⟨v,us,rfl,h1,h2⟩:=h
   refine⟨v,us,rfl,?_,ihr _ _ p2 h2⟩
   split at h1 <;> rename_i hag
   ·obtain⟨c,rfl,hc⟩:=h1
    rw[if_pos hag]
    exact⟨c,rfl,iha _ _ p1 hc⟩
   ·rw[if_neg hag]
    exact iha _ _ p1 h1
 | own=>intro m cs _ h; exact h
 | ptr=>intro m cs _ h; exact h
 | sl n=>intro m cs _ h; exact h
 | tup q ih =>
  rintro m cs p ⟨vs,rfl,h1⟩
  exact⟨vs,rfl,ih _ _ p h1⟩
 | _=>intro m cs p; exact p.elim
theorem RelV.safe {S:Nat→Prop} {u:Value} {w w':World} {ad:Addr} {σ:Place} {X:Nat→Prop} {a:AV} {v:Value} (ht:Turn w w' ad u) (hS:¬S ad.block) (p:a.safe S u) (h:RelV σ w X a v):RelV σ w' X a v:=by
 unfold RelV at h ⊢
 split at h <;> rename_i hag
 ·obtain⟨c,rfl,hc⟩:=h
  rw[if_pos hag]
  exact⟨c,rfl,Rel.safe ht hS a _ _ p hc⟩
 ·rw[if_neg hag]
  exact Rel.safe ht hS a _ _ p h
def Row.safe (S:Nat→Prop) (u:Value):Row→Prop
 | .box _ a=>a.safe S u
 | .ds _ _ _ enc _=>∀x,(enc x).safe S u
 | .lits _ _ _ _ a=>a.safe S u
 | .lo _=>True
 | _=>False
theorem bd.safe {S:Nat→Prop} {u:Value} {w w':World} {ad:Addr} {σ:Place} {X:Nat→Prop} {r:Nat} {row:Row} (ht:Turn w w' ad u) (hS:¬S ad.block) (hz:w.heap.size≤w'.heap.size) (p:row.safe S u) (hb:∀b c,σ r=some (b,c)→w'.heap[b]?=w.heap[b]?) (h:bd σ w X r row):bd σ w' X r row:=by
 cases row with
 | box t a =>
  obtain⟨hf,b,cs,h1,h2,h3⟩:=h
  exact⟨hf,b,cs,h1,(hb b _ h1).trans h2,Rel.safe ht hS a _ _ p h3⟩
 | ds t s ex enc xs =>
  rcases h with h | ⟨b,c,cur,h1,h0,h2,h3,h4,h5,f,hf,h6⟩
  ·exact .inl h
  ·exact .inr ⟨b,c,cur,h1,h0,(hb b _ h1).trans h2,h3,h4,h5,f,fun i hi=>⟨Enc.safe ht hS _ X _ (p _) (hf i hi).1,(hf i hi).2⟩,h6⟩
 | lits t s n ex a =>
  rcases h with ⟨hf,h | ⟨b,c,cur,cs,h1,h0,h2,h3,h4,h5,h6,h7,h8⟩⟩
  ·exact⟨hf,.inl h⟩
  ·exact⟨hf,.inr ⟨b,c,cur,cs,h1,h0,(hb b _ h1).trans h2,h3,h4,h5,h6,Rel.safe ht hS a _ _ p h7,h8⟩⟩
 | lo T=>exact⟨h.1,fun b hb'=>Nat.lt_of_lt_of_le (h.2 b hb') hz⟩
 | mo a=>exact p.elim
 | si=>exact p.elim
 | mq=>exact p.elim
 | mi=>exact p.elim
theorem aG.turn {C:Ctx} {G:Nat→Prop} {st:St} {σ:Place} {w w':World} {a:Act} {S:Nat→Prop} {ad:Addr} {u:Value} {o:Obj} (h:aG C G st σ w a) (hC:∀b,¬S b→C.B≤b) (ht:Turn w w' ad u) (hS:¬S ad.block) (hX:¬st.X C.X0 σ ad.block)
    (ho:w.heap[ad.block]?=some o) (hnb:gE o=false) (hoth:∀k,k≠ad.block→w'.heap[k]?=w.heap[k]?) (hsz:w'.heap.size=w.heap.size) (h1:w'.os=w.os) (h2:w'.tape=w.tape) (h3:w'.output=w.output)
    (henv:∀i v,lk st.env i=some v→v.safe S u) (hrow:∀r row,st.row r=some row→row.safe S u):aG C G st σ w' a:=by
  have hbk:∀(k:Nat) (x:Obj),w.heap[k]?=some x→gE x=true→w'.heap[k]?=some x:=fun k x hx hb=>by
    have:k≠ad.block:=by
      rintro rfl
      rw[ho]at hx; cases hx; rw[hnb]at hb; cases hb
    rw[hoth k this]; exact hx
  exact
    { env:=fun i v hi=>by
        obtain⟨x,g1,g2⟩:=h.env i v hi
        exact⟨x,g1,RelV.safe ht hS (henv i v hi) g2⟩
      envG:=h.envG
      rows:=fun r row hr=>bd.safe ht hS (by omega) (hrow r row hr) (fun b c hb=>hoth b (by rintro rfl; exact hX (.inr ⟨r,row,c,hr,hb⟩))) (h.rows r row hr)
      rowsG:=h.rowsG
      inj:=h.inj
      high:=h.high
      size:=by rw[hsz]; exact h.size
      below:=h.below.trans ⟨h1,h2,h3,by omega,fun k hk _=>hoth k (by have:=hC _ hS; omega),hbk⟩
      defers:=ie.go (fun k hk=>hbk k _ hk rfl) _ h.defers
      sz:=h.sz
      x0:=h.x0
      agree:=h.agree
      baseG:=h.baseG
      bs:=h.bs
      rok:=fun l hl=>by
        obtain⟨r,hr⟩:=h.rok l hl
        exact⟨r,hbk l _ hr rfl⟩
      glob:=h.glob }
end Go.Eng
namespace Go.Eng
open Go.RowKit
section
variable {P : Program} {T : Tab} {sz : Nat} {all l : List Oper} {n : Nat} {env : Env} {h : Upds} {K : Env → Upds → Nat → Prop}
theorem wh {C:Ctx} {G:Nat→Prop} {st:St} {w:World} {a:Act} {o:Oper} {v:Option AV} {u:Upds} (hc:bX P C G st n o a w (fun v' u'=>v'=v∧u'=u)) (next:Act→World→Prop) (Q:Exit→Act→World→Prop)
  (hnext:∀x w' σ' G',aG C G' (st.put o.dst v u) σ' w' (a.put o.dst x)→(∀r,G r→G' r)→(∀r,G' r→G r∨n≤r∧r<n+8)→next (a.put o.dst x) w'):o.wpIn (fen C.ro) 0 P a w next Q:=by
 obtain⟨v',u',nx,x,w',σ',G',⟨rfl,rfl⟩,hr,hx,hst',h1,h2⟩:=hc
 have hdef:∀c,o.op ≠ .defer c:=fun c hc=>by
  have:∃d w2,(execOp a.eval o).run P w=.ok (.defer d) w2∨∀y w3,(execOp a.eval o).run P w ≠ .ok y w3:=by
   simp only[execOp,hc,Sem.run_bind,Sem.run_pure]
   cases (resolve a.eval c o.type).run P w with
   | ok d w2=>exact⟨d,w2,.inl rfl⟩
   | _=>exact⟨{ target :=.collected 0,args := #[] },w,.inr fun y w3=>by simp[Result.andThen]⟩
  obtain⟨d,w2,h1 | h1⟩:=this
  ·rw[hr]at h1
   rcases hx with rfl | ⟨rfl,_⟩ <;> cases h1
  ·exact h1 _ _ hr
 refine⟨fun _ _=>trivial,?_⟩
 rw[ik hr hdef]
 rcases hx with rfl | ⟨rfl,rfl⟩
 ·exact hnext x w' σ' G' hst' h1 h2
 ·exact hnext undef w' σ' G' hst' h1 h2
theorem yp {α:Type} {V:α→AV} {d:Tmp} {op:Op} {ty:TypeId} {pos:String} {af:Array Edge} (hd:Nat.blt d sz=true)
  (hs:∀(C:Ctx) (G:Nat→Prop) (st:St) (σ:Place) (w:World) (a:Act) (o:Oper),o.op=op→fa env h st→(∀d,o.dst=some d→d<st.sz)→aG C G st σ w a→(∀r,n≤r→r<n+8→¬G r) →
   ∃x,bX P C G st n o a w (fun v' u'=>v'=some (V x)∧u'=[]))
  (h1:∀x,RegS P all sz l (n+8) ((d,V x)::env) h K):RegS P all sz (⟨some d,op,ty,pos,af,none⟩::l) n env h K:=by
 intro C σ w a hst Q hQ
 have hA:fa env h (⟨env,h,n,sz,64⟩:St):=⟨fun i v hi=>hi,fun r row hr=>by rw[←hr,←bK]⟩
 have hdd:∀d',(⟨some d,op,ty,pos,af,none⟩:Oper).dst=some d'→d'<sz:=fun d' e=>by cases e; exact Nat.le_of_ble_eq_true hd
 obtain⟨x,hx⟩:=hs C _ ⟨env,h,n,sz,64⟩ σ w a ⟨some d,op,ty,pos,af,none⟩ rfl hA hdd hst (fun r h1 h2 h3=>Nat.not_lt.2 h1 h3)
 unfold wpListIn
 rw[if_pos (show Region.wanted (⟨some d,op,ty,pos,af,none⟩:Oper) (yielded all.toArray a.tmps)=true from rfl)]
 refine wh hx _ _ ?_
 intro y2 w2 σ2 G2 k1 _ k3
 rw[n5]at k1
 refine h1 x C σ2 w2 _ ?_ Q hQ
 have:=k1.grow (G':=fun r=>r<n+8) (fun r hr=>by rcases k3 r hr with hr | hr <;> (try simp only at hr) <;> omega)
 exact { this with }
theorem yo (hT:an P T) {S:Nat→Prop} {p:Value→Prop} {m:Nat} {j:Int} {k:IntKind} {t e:TypeId} {re:TyR} {x i:Operand} {d:Tmp} {ty:TypeId} {pos:String} {af:Array Edge} (hd:Nat.blt d sz=true) (ht:aT T t=some (.slice e)) (he:lk T e=some re) (hs:Nat.beq re.size 1=true)
  (hx:au env x=some (.d (.jk S p m))) (hi:au env i=some (.int k j)) (h0:0≤j) (h1:j<(m:Int)) (hone:∀u,p u→u.oneCell'=true)
  (next:∀u,p u→RegS P all sz l (n+8) ((d,.d (.re true S (.pt (.sc u))))::env) h K):RegS P all sz (⟨some d,.indexAddr t x i,ty,pos,af,none⟩::l) n env h K:=by
 refine yp (α := {u:Value // p u}) (V:=fun u=>.d (.re true S (.pt (.sc u.1)))) hd (fun C G st σ w a o ho hA hd hst hn=>?_) (fun u=>next u.1 u.2)
 obtain⟨hx1,_⟩:=am hst (hA.ev hx)
 obtain⟨hi1,_⟩:=RelV.sc.1 (am hst (hA.ev hi)).1
 unfold RelV at hx1
 rw[if_neg (by simp[AV.isAgg,D.isAgg])]at hx1
 obtain⟨a0,c,hv,hc⟩:=hx1
 have hv:a.eval x=.slice a0 m c:=by simpa using hv
 obtain⟨b,u,rfl,hcell,hX,hS,hI,hp⟩:=hc j.toNat (by omega)
 refine⟨⟨u,hp⟩,.quiet (u :=.pointer (some (b.add j.toNat))) hst hd ⟨rfl,rfl⟩ ?_ ?_ trivial⟩
 ·simp only[execOp,ho,hv,hi1,Sem.run_bind,eh hT ht he h0 h1,Result.andThen_ok,Sem.run_pure,Nat.eq_of_beq_eq_true hs,Nat.mul_one]
 ·rw[RelV.re]
  unfold RelV
  rw[if_neg (by simp[AV.isAgg,D.isAgg])]
  refine⟨b.add j.toNat,[u],rfl,⟨rfl,hone u hp⟩,fun q v hq=>?_⟩
  have hq0:q=0:=by
   have:=(List.getElem?_eq_some_iff.1 hq).1
   simp at this; omega
  subst hq0
  simp only[List.getElem?_cons_zero,Option.some.injEq]at hq
  subst hq
  rw[fF,Nat.add_zero,Addr.add_block]
  exact⟨hcell,fun h=>h.elim hX fun h=>h.elim hS fun h=>hI h.2⟩
theorem qM (hT:an P T) {S:Nat→Prop} {p:Value→Prop} {m:Nat} {x:Operand} {t e:TypeId} (hx:au env x=some (.d (.jk S p m))) (ht:aT T t=some (.slice e)) :
  aq P (.call { callee :=.builtin .len,args := #[x],argTypes := #[t] }) env h n (some (.int .i64 m)) []:=.len rfl hx fun C st σ w a ty hr=>by
 obtain⟨u,hu,hdu⟩:=aM hT ht
 cases hdu
 unfold RelV at hr
 rw[if_neg (by simp[AV.isAgg,D.isAgg])]at hr
 obtain⟨a0,c,hv,_⟩:=hr
 have hv:a.eval x=.slice a0 m c:=by simpa using hv
 simp[Builtin.len_,hv,run_underlying hu]
end
end Go.Eng
namespace Go.Eng
open Go.RowKit
def RegC (S:Nat→Prop) (P:Program) (all:List Oper) (sz:Nat) (l:List Oper) (n:Nat) (env:Env) (h:Upds) (K:Env→Upds→Nat→Prop):Prop :=
 ∀(C:Ctx) (σ:Place) (w:World) (a:Act),(∀b,¬S b→C.B≤b)→aG C (fun r=>r<n) ⟨env,h,n,sz,64⟩ σ w a→∀(Q:Exit→Act→World→Prop),
  (∀env h n σ w a,K env h n→aG C (fun r=>r<n) ⟨env,h,n,sz,64⟩ σ w a→Q .normal a w)→wpListIn (fen C.ro) 0 P all.toArray Q l a w
section
variable {S : Nat → Prop} {P : Program} {T : Tab} {sz : Nat} {all l : List Oper} {n : Nat} {env : Env} {h : Upds} {K : Env → Upds → Nat → Prop} {Q : Exit → St → Prop}
theorem kv {id:Nat} {ops:Array Oper} (h1:RegC S P ops.toList sz ops.toList n env h (RegK Q sz)):SatC S P (.region id ops false) Q ⟨env,h,n,sz,64⟩:=by
 intro C σ w a hS hst
 refine wpIn_region_list ?_
 have:=h1 C σ w a hS hst (Lift C Q) fun env h n σ w a hk hst=>⟨_,σ,hk,hst⟩
 simpa using this
theorem wZ {o:Oper} {v:Option AV} {u:Upds} (hw:∀(C:Ctx) (σ:Place) (w:World) (a:Act),aG C (fun r=>r<n) ⟨env,h,n,sz,64⟩ σ w a→Region.wanted o (yielded all.toArray a.tmps)=true) (hd:fz o.dst sz=true) (hs:aq P o.op env h n v u)
  (h1:RegC S P all sz l (n+8) (putE o.dst v env) (u++h) K):RegC S P all sz (o::l) n env h K:=by
 intro C σ w a hS hst Q hQ
 unfold wpListIn
 rw[if_pos (hw C σ w a hst)]
 refine (hs C _ ⟨env,h,n,sz,64⟩ σ w a o rfl ⟨fun i v hi=>hi,fun r row hr=>by rw[←hr,←bK]⟩ (iH hd) hst (fun r h1 h2 h3=>Nat.not_lt.2 h1 h3) rfl _ _ ?_)
 intro x w' σ' G' hst' _ h2
 rw[n5]at hst'
 refine h1 C σ' w' _ hS ?_ Q hQ
 have:=hst'.grow (G':=fun r=>r<n+8) (fun r hr=>by rcases h2 r hr with hr | hr <;> (try simp only at hr) <;> omega)
 exact { this with }
theorem gw {d:Tmp} {op:Op} {ty:TypeId} {pos:String} {af:Array Edge} {v:AV} (hd:Nat.blt d sz=true) (hs:aq P op env h n (some v) []) (h1:RegC S P all sz l (n+8) ((d,v)::env) h K) :
  RegC S P all sz (⟨some d,op,ty,pos,af,none⟩::l) n env h K:=wZ (fun _ _ _ _ _=>rfl) hd hs h1
theorem o0 (h1:K env h n):RegC S P all sz [] n env h K:=fun C σ w a _ hst Q hQ=>hQ env h n σ w a h1 hst
theorem im {cnd:Operand} {x y:Code} {b:Bool} {st:St} (hc:au st.env cnd=some (.bool b)) (h1:b=true→SatC S P x Q st) (h2:b=false→SatC S P y Q st):SatC S P (.cond cnd x y) Q st:=by
 intro C σ w a hS hst
 obtain⟨h3,_⟩:=RelV.sc.1 (am hst hc).1
 refine wpIn_cond h3 ?_
 cases b with
 | true=>exact h1 rfl C σ w a hS hst
 | false=>exact h2 rfl C σ w a hS hst
theorem lz {id:Nat} {c:Code} {st:St} (h1:SatC S P c (BlkQ id Q) st):SatC S P (.block id c) Q st:=by
 intro C σ w a hS hst
 refine wpIn_block (wpIn_mono (h1 C σ w a hS hst) ?_)
 rintro e a' w' ⟨st',σ',h1,h2⟩
 cases e with
 | exit i =>
  simp only[Exit.inBlock]
  simp only[BlkQ]at h1
  by_cases hi:i=id
  ·rw[if_pos hi]at h1 ⊢
   exact⟨st',σ',h1,h2⟩
  ·rw[if_neg hi]at h1 ⊢
   exact⟨st',σ',h1,h2⟩
 | _=>exact⟨st',σ',h1,h2⟩
theorem il {c:Code} {st st':St} (l:ci) (hl:Le l st st') (h:SatC S P c Q st'):SatC S P c Q st :=
 fun C _ w a hS hst=>h C _ w a hS (hst.le hl)
def BD (S:Nat→Prop) (P:Program) (c:Code) (Q:Exit→St→Prop) (n:Nat) (st:St):Prop :=
 ∀(C:Ctx) (σ:Place) (w:World) (a:Act),(∀b,¬S b→C.B≤b)→aG C (fun r=>r<st.next) st σ w a→Code.roundsIn (fen C.ro) 0 P c (Lift C Q) n a w
theorem satC_inv.{u} {α:Type u} {c:Code} {st:St} (mk:α→St) (Inv:α→Prop) (μ:α→Nat) (a0:α) (l:ci) (h0:Inv a0)
  (hle:Le l st (mk a0)) (step:∀a,Inv a→SatC S P c (LoopQ Q mk Inv μ a) (mk a)):SatC S P (.loop c) Q st:=by
 have key:∀(m:Nat) (a:α),μ a≤m→Inv a→BD S P c Q (m+1) (mk a):=by
  intro m
  induction m with
  | zero =>
   intro a ha hi C σ w x hS hst
   rw[roundsIn_succ]
   refine wpIn_mono (step a hi C σ w x hS hst) ?_
   rintro e a' w' ⟨st',σ',h1,h2⟩
   cases e with
   | normal=>obtain⟨a',l',_,hlt,_⟩:=h1; omega
   | _=>exact⟨st',σ',h1,h2⟩
  | succ m ih =>
   intro a ha hi C σ w x hS hst
   rw[roundsIn_succ]
   refine wpIn_mono (step a hi C σ w x hS hst) ?_
   rintro e x' w' ⟨st',σ',h1,h2⟩
   cases e with
   | normal =>
    obtain⟨a',l',hi',hlt,hle'⟩:=h1
    exact ih a' (by omega) hi' C _ w' x' hS (h2.le hle')
   | _=>exact⟨st',σ',h1,h2⟩
 intro C σ w x hS hst
 exact wpIn_loop_rounds (μ a0+1) (key (μ a0) a0 (Nat.le_refl _) h0 C _ w x hS (hst.le hle))
end
end Go.Eng
namespace Go.Eng
open Go.RowKit
theorem fS (w:World) (ad:Addr) (v:Value) (k:Nat) (hk:k≠ad.block):(w.setCell ad v).heap[k]?=w.heap[k]?:=by
 simp only[World.setCell,Array.getElem?_modify]
 rw[if_neg (Ne.symm hk)]
theorem lw (w:World) (ad a:Addr) (v:Value):(w.setCell ad v).frozen? a=w.frozen? a:=by
 by_cases e:a.block=ad.block
 ·unfold World.frozen?
  rw[e]
  simp only[World.setCell,Array.getElem?_modify,if_true]
  cases w.heap[ad.block]? with
  | none=>rfl
  | some o=>cases o <;> rfl
 ·unfold World.frozen?
  rw[fS w ad v _ e]
theorem nT {w:World} {ad:Addr} {u v:Value} (hc:w.cell? ad=some u):Turn w (w.setCell ad v) ad v:=by
 intro a x ha
 have hice:Icy (w.setCell ad v) a.block→Icy w a.block:=fun⟨b,h1,h2⟩=>⟨b,h1,by rw[lw]at h2; exact h2⟩
 by_cases e:a.block=ad.block
 ·refine⟨fun h=>(h e).elim,?_,hice⟩
  unfold World.cell? at ha hc
  rw[e]at ha
  cases ho:w.heap[ad.block]? with
  | none=>rw[ho]at ha; cases ha
  | some o =>
   rw[ho]at ha hc
   cases o with
   | cells c t r =>
    have h1:a.spot.isSome=false:=by
     cases hs:a.spot.isSome with
     | false=>rfl
     | true=>simp[hs]at ha
    have h2:ad.spot.isSome=false:=by
     cases hs:ad.spot.isSome with
     | false=>rfl
     | true=>simp[hs]at hc
    simp only[h1,h2]at ha hc
    have hn:(w.setCell ad v).heap[ad.block]?=some (.cells (c.setIfInBounds ad.off v) t r):=by
     simp only[World.setCell,Array.getElem?_modify,if_true,ho,Option.map_some,h2]
     rfl
    have hcell:(w.setCell ad v).cell? a=(c.setIfInBounds ad.off v)[a.off]?:=by
     unfold World.cell?
     rw[e,hn]
     simp only[h1]
     rfl
    by_cases ho2:a.off=ad.off
    ·refine⟨v,?_,.inr rfl⟩
     rw[hcell,ho2]
     exact Array.getElem?_setIfInBounds_self_of_lt (Array.getElem?_eq_some_iff.1 hc).1
    ·refine⟨x,?_,.inl rfl⟩
     rw[hcell,Array.getElem?_setIfInBounds_ne (Ne.symm ho2)]
     exact ha
   | _=>cases ha
 ·have:(w.setCell ad v).cell? a=some x:=by rw[World.cell?_of_block (fS w ad v _ e)]; exact ha
  exact⟨fun _=>this,⟨x,this,.inl rfl⟩,hice⟩
def iQ (S:Nat→Prop) (v:Value) (env env':Env):Prop:=∀i x,lk env' i=some x→lk env i=some x∧x.safe S v
theorem iQ.nil {S:Nat→Prop} {v:Value} {env:Env}:iQ S v env []:=fun i x h=>by simp[lk]at h
theorem iQ.cons {S:Nat→Prop} {v:Value} {env env':Env} {i:Nat} {x:AV} (h:lk env i=some x) (hs:x.safe S v) (h2:iQ S v env env'):iQ S v env ((i,x)::env'):=fun j y hj=>by
 rw[aD]at hj
 by_cases e:i=j
 ·subst e; rw[if_pos rfl]at hj; cases hj; exact⟨h,hs⟩
 ·rw[if_neg e]at hj; exact h2 j y hj
def e9 (S:Nat→Prop) (v:Value):Upds→Prop
 | []=>True
 | (_,none)::l=>e9 S v l
 | (_,some row)::l=>row.safe S v∧e9 S v l
theorem e9.out {S:Nat→Prop} {v:Value}:∀ {h:Upds},e9 S v h→∀r row,bc h r=some row→row.safe S v
 | [],_,r,row,hr=>by simp[bc,lk]at hr
 | (k,none)::l,hs,r,row,hr=>by
  simp only[bc,aD]at hr
  by_cases e:k=r
  ·rw[if_pos e]at hr; cases hr
  ·rw[if_neg e]at hr
   exact e9.out (h:=l) hs r row hr
 | (k,some x)::l,hs,r,row,hr=>by
  simp only[bc,aD]at hr
  by_cases e:k=r
  ·rw[if_pos e]at hr; cases hr; exact hs.1
  ·rw[if_neg e]at hr
   exact e9.out (h:=l) hs.2 r row hr
section
variable {S : Nat → Prop} {P : Program} {T : Tab} {sz : Nat} {all l : List Oper} {n : Nat} {env : Env} {h : Upds} {K : Env → Upds → Nat → Prop} {Q : Exit → St → Prop}
theorem lB (hT:an P T) {t:TypeId} {x y:Operand} {u v:Value} {ty:TypeId} {pos:String} {af:Array Edge} (env':Env) (hx:au env x=some (.d (.re true S (.pt (.sc u))))) (hy:au env y=some (.d (.sc v))) (hs:bm T t (.d (.sc v))=true)
  (he:iQ S v env env') (hh:e9 S v h) (h1:RegC S P all sz l (n+8) env' h K):RegC S P all sz (⟨none,.store t x y,ty,pos,af,none⟩::l) n env h K:=by
 intro C σ w a hS hst Q hQ
 unfold wpListIn
 rw[if_pos (show Region.wanted (⟨none,.store t x y,ty,pos,af,none⟩:Oper) (yielded all.toArray a.tmps)=true from rfl)]
 obtain⟨hx1,_⟩:=am hst hx
 obtain⟨hy1,hy2⟩:=RelV.sc.1 (am hst hy).1
 rw[RelV.re]at hx1
 unfold RelV at hx1
 rw[if_neg (by simp[AV.isAgg,D.isAgg])]at hx1
 obtain⟨ad,c,hv,⟨rfl,hone⟩,hc⟩:=hx1
 have hv:a.eval x=.pointer (some ad):=by simpa using hv
 obtain⟨hcell,hX⟩:=hc 0 u rfl
 rw[Addr.add_zero']at hcell
 obtain⟨tr,htr,hsz,hf,hag⟩:=bm.out hs
 have hsize:tr.size=1:=by have:=hsz; simp[AV.size,D.size]at this; omega
 have hfro:w.frozen? ad=false:=by
  cases hq:w.frozen? ad with
  | false=>rfl
  | true=>exact (hX (.inr (.inr ⟨rfl,ad,rfl,hq⟩))).elim
 have hrun:(execOp a.eval ⟨none,.store t x y,ty,pos,af,none⟩).run P w=.ok .skip (w.setCell ad v):=by
  have hcs:v.cells = #[v]:=by cases v <;> first | rfl | cases hy2
  simp only[execOp,Instr.storeAt,hv,hy1,Instr.sureAddr,storeVar,Sem.run_bind,Sem.run_pure,Result.andThen_ok,(hT t tr htr).run_size,hcs]
  rw[if_neg (by rw[hsize]; simp)]
  simp only[storeCells,Sem.run_bind,Addr.add_zero',run_store P w ad v _ hy2,hcell,hfro,Sem.run_pure,Result.andThen_ok]
  rfl
 have hblk:∃o,w.heap[ad.block]?=some o∧gE o=false:=by
  unfold World.cell? at hcell
  cases ho:w.heap[ad.block]? with
  | none=>rw[ho]at hcell; cases hcell
  | some o =>
   rw[ho]at hcell
   cases o with
   | cells c t r=>exact⟨_,rfl,rfl⟩
   | _=>cases hcell
 obtain⟨o,ho,hnb⟩:=hblk
 have hsafe:aG C (fun r=>r<n) ⟨env',h,n,sz,64⟩ σ w a := { hst with env:=fun i z hi=>hst.env i z (he i z hi).1,envG:=fun i z hi=>hst.envG i z (he i z hi).1 }
 have hturn:=hsafe.turn hS (nT hcell) (fun hb=>hX (.inr (.inl hb))) (fun hb=>hX (.inl hb)) ho hnb (fun k hk=>fS w ad v k hk) (by simp[World.setCell]) rfl rfl rfl (fun i z hi=>(he i z hi).2) (fun r row hr=>e9.out hh r row (by rw[←hr]; exact bK (st:=⟨env',h,n,sz,64⟩) (r:=r)))
 refine⟨fun _ _=>trivial,?_⟩
 rw[ik hrun (fun c hc=>by cases hc)]
 refine h1 C σ _ _ hS ?_ Q hQ
 have hg:=hturn.grow (G':=fun r=>r<n+8) fun r hr=>Nat.lt_add_right 8 hr
 exact { hg with }
end
end Go.Eng
namespace Go.Eng
open Go.RowKit
section
variable {F : Fence} {n : Nat} {P : Program} {ops : Array Oper} {Q : Exit → Act → World → Prop}
theorem jB {Q Q':Exit→Act→World→Prop} (hq:∀e a w,e ≠ .normal→Q e a w→Q' e a w):LetsOut Q→LetsOut Q':=fun⟨a,w,h⟩=>⟨a,w,hq _ a w (by intro e; cases e) h⟩
theorem kq {o:Oper} {a:Act} {next next':Act→World→Prop} {Q Q':Exit→Act→World→Prop} (hn:∀a w,next a w→next' a w) (hq:∀e a w,e ≠ .normal→Q e a w→Q' e a w):∀(r:Result Next),o.uponIn F n P a next Q r→o.uponIn F n P a next' Q' r
 | .ok (.value v) w',h=>hn _ _ h
 | .ok .skip w',h=>hn _ _ h
 | .ok (.defer d) w',h=>hn _ _ h
 | .ok (.enter f args) w',h=>⟨h.1,h.2.mono fun e w2 h2=>by
   cases e with
   | returned v=>exact hn _ _ h2
   | panicked c=>exact hq _ _ _ (by intro e; cases e) h2
   | outgrown=>exact jB hq h2⟩
 | .ok (.row row args) w',h=>⟨h.1,h.2.mono fun v w2 h2=>hn _ _ h2⟩
 | .ok (.round l f tmps assign body) w',h=>⟨h.1,h.2.mono fun e w2 h2=>by
   cases e with
   | returned v=>exact hn _ _ h2
   | panicked c=>exact hq _ _ _ (by intro e; cases e) h2
   | outgrown=>exact jB hq h2⟩
 | .halt x w',h=>by
  cases x with
  | panic v=>exact hq _ _ _ (by intro e; cases e) h
  | _=>exact h
theorem fc:∀(l1 l2:List Oper) (a:Act) (w:World),wpListIn F n P ops (fun e a w=>match e with | .normal=>wpListIn F n P ops Q l2 a w | e=>Q e a w) l1 a w→wpListIn F n P ops Q (l1++l2) a w
 | [],l2,a,w,h=>h
 | o::l1,l2,a,w,h=>by
  rw[List.cons_append]
  rw[wpListIn]at h ⊢
  split at h <;> rename_i hw
  ·rw[if_pos hw]
   refine⟨h.1,kq (fun a w h=>fc l1 l2 a w h) (fun e a w he h=>?_) _ h.2⟩
   cases e <;> first | exact absurd rfl he | exact h
  ·rw[if_neg hw]
   exact⟨h.1,fc l1 l2 _ w h.2⟩
end
section
variable {S : Nat → Prop} {P : Program} {T : Tab} {sz : Nat} {all l l1 l2 : List Oper} {n : Nat} {env : Env} {h : Upds} {K : Env → Upds → Nat → Prop} {Q : Exit → St → Prop}
end
end Go.Eng
namespace Go.Eng
open Go.RowKit
section
variable {S : Nat → Prop} {P : Program} {sz : Nat} {n : Nat} {env : Env} {h : Upds} {Q : Exit → St → Prop} {c : Code}
theorem jd (h1:WC P sz c Q env h n):SatC S P c Q ⟨env,h,n,sz,64⟩:=Sat.toC h1
theorem bH {x y:Code} (h1:WC P sz x (SeqT S P y Q) env h n):SatC S P (.seq x y) Q ⟨env,h,n,sz,64⟩:=jw (Sat.toC h1)
end
section
variable {S : Nat → Prop} {P : Program} {T : Tab} {sz : Nat} {all l : List Oper} {n : Nat} {env : Env} {h : Upds} {K : Env → Upds → Nat → Prop}
theorem kW (hT:an P T) {p:Value→Prop} {m:Nat} {j:Int} {k:IntKind} {t e:TypeId} {re:TyR} {x i:Operand} {d:Tmp} {ty:TypeId} {pos:String} {af:Array Edge} (hd:Nat.blt d sz=true) (ht:aT T t=some (.slice e)) (he:lk T e=some re) (hs:Nat.beq re.size 1=true)
  (hx:au env x=some (.d (.jk S p m))) (hi:au env i=some (.int k j)) (h0:0≤j) (h1:j<(m:Int)) (hone:∀u,p u→u.oneCell'=true)
  (next:∀u,p u→RegC S P all sz l (n+8) ((d,.d (.re true S (.pt (.sc u))))::env) h K):RegC S P all sz (⟨some d,.indexAddr t x i,ty,pos,af,none⟩::l) n env h K:=by
 intro C σ w a hS hst Q hQ
 unfold wpListIn
 rw[if_pos (show Region.wanted (⟨some d,.indexAddr t x i,ty,pos,af,none⟩:Oper) (yielded all.toArray a.tmps)=true from rfl)]
 have key:=yo (l:=[]) (K:=fun env' h' n'=>∃u,p u∧env'=(d,.d (.re true S (.pt (.sc u))))::env∧h'=h∧n'=n+8) (all:=all) (P:=P) (sz:=sz) (n:=n) (h:=h) (ty:=ty) (pos:=pos) (af:=af) hT hd ht he hs hx hi h0 h1 hone (fun u hu=>kV ⟨u,hu,rfl,rfl,rfl⟩)
 have k2:=key C σ w a hst (fun e a w=>match e with | .normal=>wpListIn (fen C.ro) 0 P all.toArray Q l a w | e=>Q e a w) ?_
 ·rw[wpListIn,if_pos (show Region.wanted (⟨some d,.indexAddr t x i,ty,pos,af,none⟩:Oper) (yielded all.toArray a.tmps)=true from rfl)]at k2
  refine⟨k2.1,kq (fun a w h=>h) (fun e a w he h=>?_) _ k2.2⟩
  cases e <;> first | exact absurd rfl he | exact h
 ·rintro env' h' n' σ' w' a' ⟨u,hu,rfl,rfl,rfl⟩ hst'
  exact next u hu C σ' w' a' hS hst' Q hQ
theorem oZ {l1 l2:List Oper} (hl:l=l1++l2) (h1:RegS P all sz l1 n env h (fun env h n=>RegC S P all sz l2 n env h K)):RegC S P all sz l n env h K:=by
 intro C σ w a hS hst Q hQ
 rw[hl]
 refine fc _ _ _ _ (h1 C σ w a hst _ fun env h n σ w a hk hst=>hk C σ w a hS hst Q hQ)
end
section
variable {S : Nat → Prop} {P : Program} {sz n i : Nat} {env : Env} {h : Upds} {Q : Exit → St → Prop} {b : Code} {st : St}
theorem yS (h1:Q .normal st):BlkQ i Q (.exit i) st:=by
 show (if i=i then Q .normal st else Q (.exit i) st)
 rw[if_pos rfl]; exact h1
theorem yn (h1:Q (.exit i) st):SeqT S P b Q (.exit i) st:=h1
theorem loopQ_x.{u} {α:Type u} {mk:α→St} {Inv:α→Prop} {μ:α→Nat} {a:α} (h1:Q (.exit i) st):LoopQ Q mk Inv μ a (.exit i) st:=h1
end
end Go.Eng
namespace Go.Eng
open Go.RowKit
theorem aG.row_at {C:Ctx} {G:Nat→Prop} {st st':St} {σ:Place} {w:World} {a:Act} {n:Nat} {row row':Row} (h:aG C G st σ w a) (he:st'.env=st.env) (hs:st'.sz=st.sz) (hb:st'.bs=st.bs)
  (h1:st.row n=some row) (h2:st'.row n=some row') (h3:∀r,r≠n→st'.row r=st.row r) (hle:bd σ w (st.X C.X0 σ) n row→bd σ w (st.X C.X0 σ) n row') (hw:row'.within G):aG C G st' σ w a:=by
 have back:∀r x,st'.row r=some x→∃y,st.row r=some y:=fun r x hx=>by
  by_cases hr:r=n
  ·subst hr; exact⟨_,h1⟩
  ·rw[h3 r hr]at hx; exact⟨_,hx⟩
 have forth:∀r x,st.row r=some x→∃y,st'.row r=some y:=fun r x hx=>by
  by_cases hr:r=n
  ·subst hr; exact⟨_,h2⟩
  ·rw[←h3 r hr]at hx; exact⟨_,hx⟩
 have hX:st'.X C.X0 σ=st.X C.X0 σ:=by
  funext b
  apply propext
  constructor
  ·rintro (hx | ⟨r,x,c,g1,g2⟩)
   ·exact .inl hx
   ·obtain⟨y,hy⟩:=back r x g1; exact .inr ⟨r,y,c,hy,g2⟩
  ·rintro (hx | ⟨r,x,c,g1,g2⟩)
   ·exact .inl hx
   ·obtain⟨y,hy⟩:=forth r x g1; exact .inr ⟨r,y,c,hy,g2⟩
 refine⟨?_,?_,?_,?_,?_,?_,h.size,h.below,h.defers,by rw[hs]; exact h.sz,h.x0,h.agree,h.baseG,by rw[hb]; exact h.bs,h.rok,h.glob⟩
 ·rw[he,hX]; exact h.env
 ·rw[he]; exact h.envG
 ·intro r x hx
  rw[hX]
  by_cases hr:r=n
  ·subst hr
   rw[h2]at hx; cases hx
   exact hle (h.rows r _ h1)
  ·rw[h3 r hr]at hx; exact h.rows r x hx
 ·intro r x hx
  by_cases hr:r=n
  ·subst hr
   rw[h2]at hx; cases hx
   exact⟨(h.rowsG r _ h1).1,hw⟩
  ·rw[h3 r hr]at hx; exact h.rowsG r x hx
 ·intro r r' x x' b c c' g1 g2 g3 g4
  obtain⟨y,hy⟩:=back r x g1
  obtain⟨y',hy'⟩:=back r' x' g2
  exact h.inj r r' y y' b c c' hy hy' g3 g4
 ·intro r x b c g1 g2
  obtain⟨y,hy⟩:=back r x g1
  exact h.high r y b c hy g2
theorem vj {C:Ctx} {σ:Place} {st:St} {w:World} {S:Nat→Prop} {x:D} {cs:List Value} (hS:S=fun b=>b<w.heap.size) (h:Enc w (st.X C.X0 σ) x cs):Enc w (st.X C.X0 σ) (.re false (NotS S) x) cs:=by
 refine Enc.mono (fun ad u h5 h6=>⟨.rfl' h5,?_⟩) x cs h
 rintro (h7 | h7 | h7)
 ·exact h6 h7
 ·exact h7 (by rw[hS]; exact World.block_lt_of_cell? w ad h5)
 ·exact Bool.noConfusion h7.1
section
variable {P : Program} {S : Nat → Prop} {c : Code} {Q : Exit → St → Prop} {st : St}
theorem uC {S':Nat→Prop} (hs:∀b,¬S' b→¬S b) (h:SatC S' P c Q st):SatC S P c Q st:=fun C σ w a hS hst=>h C σ w a (fun b hb=>hS b (hs b hb)) hst
theorem aG.rebox_ds {C:Ctx} {G:Nat→Prop} {σ:Place} {w:World} {a:Act} {α:Type} {r t s:Nat} {ex:Bool} {enc:α→D} {xs:List α} (hst:aG C G st σ w a) (hr:st.row r=some (.ds t s ex enc xs)) (hS:S=fun b=>b<w.heap.size) :
  aG C G (st.upd [(r,some (.ds t s ex (fun x=>.re false (NotS S) (enc x)) xs))]) σ w a:=by
 refine hst.row_at (st':=st.upd [(r,some (.ds t s ex (fun x=>.re false (NotS S) (enc x)) xs))]) rfl rfl rfl hr (row' :=.ds t s ex (fun x=>.re false (NotS S) (enc x)) xs) (by simp[St.upd,St.row,aD]) (fun r' hr'=>by simp[St.upd,St.row,aD,Ne.symm hr']) ?_ trivial
 rintro (⟨h1,h2⟩ | ⟨b,c,cur,h1,h0,h2,h3,h4,h5,f,hf,h6⟩)
 ·exact .inl ⟨h1,h2⟩
 ·exact .inr ⟨b,c,cur,h1,h0,h2,h3,h4,h5,f,fun i hi=>⟨vj hS (hf i hi).1,(hf i hi).2⟩,h6⟩
theorem s4 {α β:Type} {r r' t s t' s':Nat} {ex ex':Bool} {enc:α→D} {enc':β→D} {xs:List α} {ys:List β} (hr:st.row r=some (.ds t s ex enc xs)) (hr':st.row r'=some (.ds t' s' ex' enc' ys)) (hlt:r<st.next) (hlt':r'<st.next) (hne:r≠r') (hbs:st.bs≤st.next)
  (h:∀S1:Nat→Prop,SatC S P c Q ⟨st.env,(r',some (.ds t' s' ex' (fun x=>.re false (NotS S1) (enc' x)) ys))::(r,some (.ds t s ex (fun x=>.re false (NotS S1) (enc x)) xs))::(st.next,some (.lo S1))::st.heap,st.next+8,st.sz,st.bs⟩):SatC S P c Q st:=by
 intro C σ w a hS hst
 obtain⟨S1,σ',hS1,_,h2⟩:=rD (fun _=>st.env) (fun S i v' hv=>⟨v',hv,.inl rfl⟩) hbs hst
 refine h S1 C σ' w a hS (aG.rebox_ds (aG.rebox_ds h2 (r:=r) ?_ hS1) (r:=r') ?_ hS1)
 ·simp only[St.row,aD]
  rw[if_neg (by omega)]; exact hr
 ·simp only[St.upd,St.row,aD,List.cons_append,List.nil_append]
  rw[if_neg hne,if_neg (by omega)]; exact hr'
theorem uA {r r':Nat} {t t':TypeId} {x x':D} (env':(Nat→Prop)→Env) (hr:st.row r=some (.box t (.d x))) (hr':st.row r'=some (.box t' (.d x'))) (hlt:r<st.next) (hlt':r'<st.next) (hne:r≠r') (hE:∀S,ib S st.env (env' S)) (hbs:st.bs≤st.next)
  (h:∀S,SatC S P c Q ⟨env' S,(r',some (.box t' (.d (.re false (NotS S) x'))))::(r,some (.box t (.d (.re false (NotS S) x))))::(st.next,some (.lo S))::st.heap,st.next+8,st.sz,st.bs⟩):Sat P c Q st:=by
 intro C σ w a hst
 obtain⟨S,σ',hS,h1,h2⟩:=rD env' hE hbs hst
 refine h S C σ' w a h1 ((h2.rebox (r:=r) ?_ hS).rebox (r:=r') ?_ hS)
 ·simp only[St.row,aD]
  rw[if_neg (by omega)]; exact hr
 ·simp only[St.upd,St.row,aD,List.cons_append,List.nil_append]
  rw[if_neg hne,if_neg (by omega)]; exact hr'
end
section
variable {P : Program} {sz : Nat} {env : Env} {h : Upds} {n : Nat} {c : Code} {Q : Exit → St → Prop}
theorem wN {r r':Nat} {t t':TypeId} {x x':D} (env':(Nat→Prop)→Env) (hr:bc h r=some (.box t (.d x))) (hr':bc h r'=some (.box t' (.d x'))) (hlt:Nat.blt r n=true) (hlt':Nat.blt r' n=true) (hne:Nat.beq r r'=false) (hn:Nat.ble 64 n=true) (hE:∀S,ib S env (env' S))
  (h1:∀S,SatC S P c Q ⟨env' S,(r',some (.box t' (.d (.re false (NotS S) x'))))::(r,some (.box t (.d (.re false (NotS S) x))))::(n,some (.lo S))::h,n+8,sz,64⟩):WC P sz c Q env h n :=
 uA (st:=⟨env,h,n,sz,64⟩) env' (by rw[←hr]; exact (bK (st:=⟨env,h,n,sz,64⟩) (r:=r)).symm) (by rw[←hr']; exact (bK (st:=⟨env,h,n,sz,64⟩) (r:=r')).symm) (Nat.le_of_ble_eq_true hlt) (Nat.le_of_ble_eq_true hlt') (fun e=>by rw[e,Nat.beq_refl]at hne; cases hne) hE (Nat.le_of_ble_eq_true hn) h1
theorem uj {S:Nat→Prop} {α β:Type} {r r' t s t' s':Nat} {ex ex':Bool} {enc:α→D} {enc':β→D} {xs:List α} {ys:List β} (hr:bc h r=some (.ds t s ex enc xs)) (hr':bc h r'=some (.ds t' s' ex' enc' ys)) (hlt:Nat.blt r n=true) (hlt':Nat.blt r' n=true) (hne:Nat.beq r r'=false) (hn:Nat.ble 64 n=true)
  (h1:∀S1:Nat→Prop,SatC S P c Q ⟨env,(r',some (.ds t' s' ex' (fun x=>.re false (NotS S1) (enc' x)) ys))::(r,some (.ds t s ex (fun x=>.re false (NotS S1) (enc x)) xs))::(n,some (.lo S1))::h,n+8,sz,64⟩):SatC S P c Q ⟨env,h,n,sz,64⟩:=
 s4 (st:=⟨env,h,n,sz,64⟩) (by rw[←hr]; exact (bK (st:=⟨env,h,n,sz,64⟩) (r:=r)).symm) (by rw[←hr']; exact (bK (st:=⟨env,h,n,sz,64⟩) (r:=r')).symm) (Nat.le_of_ble_eq_true hlt) (Nat.le_of_ble_eq_true hlt') (fun e=>by rw[e,Nat.beq_refl]at hne; cases hne) (Nat.le_of_ble_eq_true hn) h1
end
theorem aE.lo {S A:Nat→Prop} (h:∀b,A b→S b):aE (.lo S) (.lo A):=fun σ w X r h1=>⟨h1.1,fun b hb=>h1.2 b (h b hb)⟩
theorem rH {σ:Place} {w:World} {X:Nat→Prop} {α:Type} {s:Nat} {enc:α→D}:∀(l:List (List α)) (cs:List Value),Rel σ w X (dsAV (l.map fun p=>.arr s enc p)) false cs→∃us:List Value,us.length=l.length∧Rel σ w X (dsAV (us.map .sc)) false cs
 | [],cs,h=>⟨[],rfl,h⟩
 | p::l,cs,h=>by
  obtain⟨c1,c2,rfl,h1,h2⟩:=h
  obtain⟨us,h3,h4⟩:=rH l c2 h2
  rcases h1 with ⟨_,rfl⟩ | ⟨a,c,rfl,_⟩
  ·exact⟨_::us,by rw[List.length_cons,List.length_cons,h3],_,_,rfl,⟨rfl,rfl⟩,h4⟩
  ·exact⟨_::us,by rw[List.length_cons,List.length_cons,h3],_,_,rfl,⟨rfl,rfl⟩,h4⟩
theorem ns (S:Nat→Prop) (u:Value):∀us:List Value,(dsAV (us.map .sc)).safe S u
 | []=>trivial
 | _::us=>⟨trivial,ns S u us⟩
theorem pM {S:Nat→Prop} {u:Value} {A:AV} (hA:A.safe S u) (us:List Value):(chF A (us.map .sc)).safe S u:=⟨hA,ns S u us⟩
theorem oT {S:Nat→Prop} {P:Program} {c:Code} {Q:Exit→St→Prop} {st:St} {α:Type} {r t s m s':Nat} {ex:Bool} {A:AV} {enc:α→D} {l:List (List α)} (hr:st.row r=some (.lits t s m ex (chF A (l.map fun p=>.arr s' enc p))))
  (h:∀us:List Value,us.length=l.length→SatC S P c Q (st.upd [(r,some (.lits t s m ex (chF A (us.map .sc))))])):SatC S P c Q st:=by
 intro C σ w a hS hst
 have hw:=(hst.rowsG r _ hr).2
 have hrow:=hst.rows r _ hr
 obtain⟨us,hl,hrow'⟩:∃us:List Value,us.length=l.length∧bd σ w (st.X C.X0 σ) r (.lits t s m ex (chF A (us.map .sc))):=by
  obtain⟨hf,h1⟩:=hrow
  have hf2:A.flat=true:=by
   simp only[chF,AV.flat]at hf
   cases hA:A.flat with
   | true=>rfl
   | false=>rw[hA]at hf; exact hf
  rcases h1 with ⟨h1,h2⟩ | ⟨b,c,cur,cs,h1,h0,h2,h3,h4,h5,h6,h7,h8⟩
  ·exact⟨List.replicate l.length .nilIface,by simp,mp hf2 _,.inl ⟨h1,h2⟩⟩
  ·obtain⟨c1,c2,rfl,g1,g2⟩:=h7
   obtain⟨us,g3,g4⟩:=rH l c2 g2
   exact⟨us,g3,mp hf2 _,.inr ⟨b,c,cur,_,h1,h0,h2,h3,h4,h5,h6,⟨c1,c2,rfl,g1,g4⟩,h8⟩⟩
 refine h us hl C σ w a hS ?_;refine hst.row_at (st':=st.upd [(r,some (.lits t s m ex (chF A (us.map .sc))))]) rfl rfl rfl hr (row' :=.lits t s m ex (chF A (us.map .sc))) (by simp[St.upd,St.row,aD]) (fun r' hr'=>by simp[St.upd,St.row,aD,Ne.symm hr']) (fun _=>hrow') ?_
 exact rm hw.1 _
theorem qc {S:Nat→Prop} {P:Program} {sz:Nat} {env:Env} {h:Upds} {n:Nat} {c:Code} {Q:Exit→St→Prop} {α:Type} {r t s m s':Nat} {ex:Bool} {A:AV} {enc:α→D} {l:List (List α)} (hr:bc h r=some (.lits t s m ex (chF A (l.map fun p=>.arr s' enc p))))
  (h1:∀us:List Value,us.length=l.length→SatC S P c Q ⟨env,(r,some (.lits t s m ex (chF A (us.map .sc))))::h,n,sz,64⟩):SatC S P c Q ⟨env,h,n,sz,64⟩:=
 oT (st:=⟨env,h,n,sz,64⟩) (by rw[←hr]; exact (bK (st:=⟨env,h,n,sz,64⟩) (r:=r)).symm) h1
end Go.Eng
namespace Go.Eng
open Go.RowKit
theorem lS (g1 g2:D→AV):∀(ds:List D) (j i:Nat) (v:AV),lk (cM j (ds.map g1)) i=some v→∃d,v=g1 d∧lk (cM j (ds.map g2)) i=some (g2 d)
 | [],j,i,v,h=>by simp[cM,lk]at h
 | d::ds,j,i,v,h=>by
  simp only[List.map_cons,cM,aD]at h ⊢
  by_cases e:j=i
  ·rw[if_pos e]at h ⊢
   cases h
   exact⟨d,rfl,rfl⟩
  ·rw[if_neg e]at h ⊢
   exact lS g1 g2 ds (j+1) i v h
section
variable {P : Program} {f : FuncId}
theorem FnIs.avoid {A S:Nat→Prop} {k k':Nat} (hk:k<64) (hk':k'<64) (hne:k≠k') {ds:List D} {x:D} {v0:Value}
    (h:FnIs P f (ds.map .d) [(k,.lo S)] (.tup (.acons (.d x) (.acons (.d (.sc v0)) .anil))) [(k,.lo S)]) :
    FnIs P f (ds.map fun d=>.d (.re false A d)) [(k,.lo S),(k',.lo A)] (.tup (.acons (.d (.re false A x)) (.acons (.d (.sc v0)) .anil))) [(k,.lo S),(k',.lo A)]:=by
  refine⟨h.1,fun C σ w vs hbs hB hw hσ hro hst=>?_⟩
  have row2:∀(r:Nat) (ro:Row),(inSt (ds.map fun d=>AV.d (.re false A d)) [(k,.lo S),(k',.lo A)]).row r=some ro→(r=k∧ro=.lo S)∨(r=k'∧ro=.lo A):=by
    intro r ro hr
    simp only[inSt,aS,St.row,aD]at hr
    by_cases e:k=r
    · rw[if_pos e]at hr
      simp only[Option.bind_some,id,Option.some.injEq]at hr
      exact .inl ⟨e.symm,hr.symm⟩
    · rw[if_neg e]at hr
      by_cases e':k'=r
      · rw[if_pos e']at hr
        simp only[Option.bind_some,id,Option.some.injEq]at hr
        exact .inr ⟨e'.symm,hr.symm⟩
      · rw[if_neg e']at hr; simp[lk]at hr
  have row1:∀(avs:List AV) (r:Nat) (ro:Row),(inSt avs [(k,.lo S)]).row r=some ro→r=k∧ro=.lo S:=by
    intro avs r ro hr
    simp only[inSt,aS,St.row,aD]at hr
    by_cases e:k=r
    · rw[if_pos e]at hr
      simp only[Option.bind_some,id,Option.some.injEq]at hr
      exact⟨e.symm,hr.symm⟩
    · rw[if_neg e]at hr; simp[lk]at hr
  have hlS:=hst.rows k (.lo S) (by simp[inSt,aS,St.row,lk])
  have hbb:Nat.beq k k'=false:=by
    cases hb:Nat.beq k k' with
    | false=>rfl
    | true=>exact absurd (Nat.eq_of_beq_eq_true hb) hne
  have hlA:=hst.rows k' (.lo A) (by simp[inSt,aS,St.row,lk,hbb])
  have hX2:∀b,(inSt (ds.map fun d=>AV.d (.re false A d)) [(k,.lo S),(k',.lo A)]).X C.X0 σ b→C.X0 b:=by
    rintro b (hb | ⟨r,ro,c,g1,g2⟩)
    · exact hb
    · rcases row2 r ro g1 with ⟨rfl,rfl⟩ | ⟨rfl,rfl⟩
      · rw[hlS.1]at g2; cases g2
      · rw[hlA.1]at g2; cases g2
  obtain⟨C',hC'⟩:∃C':Ctx,C' = { C with X0:=fun b=>C.X0 b∨A b,M:=fun _=>False }:=⟨_,rfl⟩
  have hX1:∀b,(inSt (ds.map AV.d) [(k,.lo S)]).X C'.X0 σ b→C.X0 b∨A b:=by
    rintro b (hb | ⟨r,ro,c,g1,g2⟩)
    · rw[hC']at hb; exact hb
    · obtain⟨rfl,rfl⟩:=row1 _ r ro g1
      rw[hlS.1]at g2; cases g2
  have hc:aG C' (fun r=>r<64) (inSt (ds.map AV.d) [(k,.lo S)]) σ w ⟨vs.toArray,[]⟩:=
    { env:=fun i v hi=>by
        obtain⟨d,rfl,h2⟩:=lS .d (fun d=>.d (.re false A d)) ds 0 i v hi
        obtain⟨u,h3,h4⟩:=hst.env i _ h2
        refine⟨u,h3,?_⟩
        rw[RelV.re]at h4
        refine RelV.mono (G:=fun _=>True) (fun _ _=>rfl) (fun _ _ h5 h6=>⟨.rfl' h5,fun h7=>h6 ?_⟩) (AV.d d).within_all h4
        rcases hX1 _ h7 with h8 | h8
        · exact .inl (.inl h8)
        · exact .inr (.inl h8)
      envG:=fun i v hi=>by
        obtain⟨d,rfl,h2⟩:=lS .d (fun d=>.d (.re false A d)) ds 0 i v hi
        trivial
      rows:=fun r row hr=>by
        obtain⟨rfl,rfl⟩:=row1 _ r row hr
        exact hlS
      rowsG:=fun r row hr=>by
        obtain⟨rfl,rfl⟩:=row1 _ r row hr
        exact⟨hk,trivial⟩
      inj:=fun r r' row row' b c c' hr hr' h1 h2=>by
        rw[(row1 _ r row hr).1,(row1 _ r' row' hr').1]
      high:=fun r row b c hr h1=>by
        obtain⟨rfl,rfl⟩:=row1 _ r row hr
        rw[hlS.1]at h1; cases h1
      size:=by rw[hC']; exact hst.size
      below:=by rw[hC']; show cX C.B _ C.w0 w; rw[hw]; exact cX.refl _ _ _
      defers:=trivial
      sz:=by have:=hst.sz; simpa[inSt]using this
      x0:=by
        rw[hC']
        rintro b (hb | hb)
        · exact⟨(hst.x0 b hb).1,id⟩
        · have:=hlA.2 b hb
          exact⟨by show b<C.B; omega,id⟩
      agree:=by rw[hC']; exact hst.agree
      baseG:=by rw[hC']; exact hst.baseG
      bs:=by rw[hC']; exact hst.bs
      rok:=by rw[hC']; exact hst.rok
      glob:=by rw[hC']; exact fun x hx=>⟨(hst.glob x hx).1,(hst.glob x hx).2.1,id⟩ }
  refine (h.2 C' σ w vs (by rw[hC']; exact hbs) (by rw[hC']; exact hB) (by rw[hC']; exact hw) (by rw[hC']; exact hσ) (by rw[hC']; exact hro) hc).mono ?_
  rintro e w' ⟨v,σ',rfl,hr⟩
  refine⟨v,σ',rfl,?_⟩
  have hbm:cX C.B (fun _=>False) w w':=by have:=hr.below; rw[hC']at this; rw[←hw]; exact this
  have hag2:∀r,r<64→σ' r=σ r:=fun r hr64=>by
    have:=hr.agree r (by rw[hC']; show r<C.bs; omega)
    rw[this,hC']; show C.σ0 r=σ r; rw[hσ]
  have row3:∀(res:AV) (r:Nat) (ro:Row),(bx res [(k,.lo S),(k',.lo A)]).row r=some ro→(r=k∧ro=.lo S)∨(r=k'∧ro=.lo A):=by
    intro res r ro hr
    simp only[bx,aS,St.row,aD]at hr
    by_cases e:k=r
    · rw[if_pos e]at hr
      simp only[Option.bind_some,id,Option.some.injEq]at hr
      exact .inl ⟨e.symm,hr.symm⟩
    · rw[if_neg e]at hr
      by_cases e':k'=r
      · rw[if_pos e']at hr
        simp only[Option.bind_some,id,Option.some.injEq]at hr
        exact .inr ⟨e'.symm,hr.symm⟩
      · rw[if_neg e']at hr; simp[lk]at hr
  have hX3:∀(res:AV) b,(bx res [(k,.lo S),(k',.lo A)]).X C.X0 σ' b→C.X0 b:=by
    rintro res b (hb | ⟨r,ro,c,g1,g2⟩)
    · exact hb
    · rcases row3 res r ro g1 with ⟨rfl,rfl⟩ | ⟨rfl,rfl⟩
      · rw[hag2 _ hk,hlS.1]at g2; cases g2
      · rw[hag2 _ hk',hlA.1]at g2; cases g2
  obtain⟨u,hu,hv⟩:=hr.env 0 _ rfl
  have hvu:v=u:=by simpa using hu
  subst hvu
  exact
    { env:=fun i y hi=>by
        by_cases e:i=0
        · subst e
          simp only[bx,aD,if_pos,Option.some.injEq]at hi
          subst hi
          refine⟨v,rfl,?_⟩
          have hag:∀q:AV,(AV.tup q).isAgg=false:=fun _=>rfl
          unfold RelV at hv ⊢
          rw[if_neg (by rw[hag]; decide)]at hv ⊢
          obtain⟨l,hl,v1,us,rfl,hv1,v2,us2,rfl,hv2,hv3⟩:=hv
          refine⟨_,hl,v1,_,rfl,?_,v2,us2,rfl,hv2,hv3⟩
          have key:∀cs,Enc w' ((bx (.tup (.acons (.d x) (.acons (.d (.sc v0)) .anil))) [(k,.lo S)]).X C'.X0 σ') x cs→Enc w' (fun b=>(bx (.tup (.acons (.d (.re false A x)) (.acons (.d (.sc v0)) .anil))) [(k,.lo S),(k',.lo A)]).X C.X0 σ' b∨A b∨(false=true∧Icy w' b)) x cs:=fun cs hcs =>
            Enc.mono (fun ad u h5 h6=>⟨.rfl' h5,fun h7=>h6 (.inl (by
              rw[hC']
              rcases h7 with h7 | h7 | h7
              · exact .inl (hX3 _ _ h7)
              · exact .inr h7
              · exact Bool.noConfusion h7.1))⟩) x cs hcs
          by_cases hx:x.isAgg=true
          · rw[if_pos (show (AV.d x).isAgg=true from hx)]at hv1
            rw[if_pos (show (AV.d (.re false A x)).isAgg=true from hx)]
            obtain⟨cc,hcc,h9⟩:=hv1
            exact⟨cc,hcc,key _ h9⟩
          · rw[if_neg (show ¬(AV.d x).isAgg=true from hx)]at hv1
            rw[if_neg (show ¬(AV.d (.re false A x)).isAgg=true from hx)]
            exact key _ hv1
        · simp only[bx,aD,if_neg (Ne.symm e),lk]at hi
          cases hi
      envG:=fun i y hi=>by
        by_cases e:i=0
        · subst e
          simp only[bx,aD,if_pos,Option.some.injEq]at hi
          subst hi
          exact⟨trivial,trivial,trivial⟩
        · simp only[bx,aD,if_neg (Ne.symm e),lk]at hi
          cases hi
      rows:=fun r ro hr'=>by
        rcases row3 _ r ro hr' with ⟨rfl,rfl⟩ | ⟨rfl,rfl⟩
        · exact⟨by rw[hag2 _ hk]; exact hlS.1,fun b hb=>Nat.lt_of_lt_of_le (hlS.2 b hb) hbm.size⟩
        · exact⟨by rw[hag2 _ hk']; exact hlA.1,fun b hb=>Nat.lt_of_lt_of_le (hlA.2 b hb) hbm.size⟩
      rowsG:=fun r ro hr'=>by
        rcases row3 _ r ro hr' with ⟨rfl,rfl⟩ | ⟨rfl,rfl⟩
        · exact⟨by show _<72; omega,trivial⟩
        · exact⟨by show _<72; omega,trivial⟩
      inj:=fun r r' ro ro' b c c' g1 g2 g3 g4=>by
        rcases row3 _ r ro g1 with ⟨rfl,rfl⟩ | ⟨rfl,rfl⟩
        · rw[hag2 _ hk,hlS.1]at g3; cases g3
        · rw[hag2 _ hk',hlA.1]at g3; cases g3
      high:=fun r ro b c g1 g2=>by
        rcases row3 _ r ro g1 with ⟨rfl,rfl⟩ | ⟨rfl,rfl⟩
        · rw[hag2 _ hk,hlS.1]at g2; cases g2
        · rw[hag2 _ hk',hlA.1]at g2; cases g2
      size:=by have:=hr.size; rw[hC']at this; exact this
      below:=by rw[hw]; exact⟨hbm.os,hbm.tape,hbm.output,hbm.size,fun k hk _=>hbm.block k hk id,hbm.book⟩
      defers:=trivial
      sz:=rfl
      x0:=hst.x0
      agree:=fun r hr2=>by have:=hr.agree r (by rw[hC']; exact hr2); rw[this,hC']
      baseG:=fun r hr=>by have:=hst.baseG r hr; exact Nat.lt_of_lt_of_le this (by decide)
      bs:=hst.bs
      rok:=fun l hl=>by rw[hro]at hl; cases hl
      glob:=hst.glob }
end
end Go.Eng
namespace Go.Eng
open Go.RowKit
theorem iX:∀l:List AV,cR l l=true
 | []=>rfl
 | a::l=>by
  cases a <;> simp[cR,AV.isD,iX l]
theorem cC.self {look:Nat→Option Row}:∀l:List AV,(∀v∈l,v.flat=true∧v.lt 64=true)→cC look (rho []) l l
 | [],_=>rfl
 | a::l,h=>by
  refine⟨a,l,rfl,h a (by simp),?_,cC.self l fun v hv=>h v (by simp[hv])⟩
  cases a <;> first | exact⟨rfl,DLe.refl _⟩ | exact AVLe.of_eq (AV.ren_id _).symm
theorem hY:∀(avs:List AV) (k i:Nat) (v:AV),avs[i]?=some v→lk (cM k avs) (k+i)=some v
 | [],k,i,v,h=>by simp at h
 | x::avs,k,0,v,h=>by
  simp only[List.getElem?_cons_zero,Option.some.injEq]at h
  subst h
  simp[cM,aD]
 | x::avs,k,i+1,v,h=>by
  simp only[cM,aD]
  rw[if_neg (by omega),show k+(i+1)=k+1+i by omega]
  exact hY avs (k+1) i v (by simpa using h)
theorem FnIs.frame {P:Program} {f:FuncId} {avs:List AV} {h0 h1 rows rows':List (Nat×Row)} {res:AV} (lg:ci) (h:FnIs P f avs h0 res rows) (ha:∀v∈avs,v.flat=true∧v.lt 64=true)
  (hr:RowsIn (fun r=>lk h1 r) [] h0) (hi:gN (rho []) (bW h0)=true)
  (hle:Le lg ⟨[(0,res.ren (eb [] 64))],cz [] 64 h0 rows++aS h1,72,1,64⟩ ⟨[(0,res)],aS rows',72,1,64⟩):FnIs P f avs h1 res rows':=by
 refine⟨h.1,fun C σ w vs hbs hB hw hσ hro hst=>?_⟩
 have hlen:vs.length=avs.length:=by simpa[inSt]using hst.sz
 have hrow:∀r,(inSt avs h1).row r=lk h1 r:=fun r=>ee h1 r
 have hr':RowsIn (inSt avs h1).row [] h0:=by rw[show (inSt avs h1).row=fun r=>lk h1 r from funext hrow]; exact hr
 have hv:∀(i:Nat) (v:AV) (u:Value),avs[i]?=some v→vs[i]?=some u→RelV σ w ((inSt avs h1).X C.X0 σ) v u:=fun i v u h1 h2=>by
  have h3:=hY avs 0 i v h1
  rw[Nat.zero_add]at h3
  obtain⟨u',h4,h5⟩:=hst.env i v h3
  have:u=u':=by simpa[h2]using h4
  rw[this]; exact h5
 have hg:∀v∈avs,v.within (fun r=>r<64):=fun v hv=>by
  obtain⟨i,hi⟩:=List.mem_iff_getElem?.1 hv
  have h3:=hY avs 0 i v hi
  rw[Nat.zero_add]at h3
  exact hst.envG i v h3
 have hXlt:∀b,(inSt avs h1).X C.X0 σ b→b<w.heap.size:=by
  rintro b (hx | ⟨r,row,c,h3,h4⟩)
  ·have:=(hst.x0 b hx).1; have:=hst.size; omega
  ·exact hst.lt h3 h4
 have hent:=hst.enter (l:=[]) (us:=vs) (fun b=>(inSt avs h1).X C.X0 σ b∧¬ej (σ.via (rho [])) h0 b) hlen.symm hv hg (cC.self avs ha) hr' hi (fun b hb=>⟨hXlt b hb.1,hb.2⟩) (fun b hb=>hb.1) (.inl (iX avs))
 refine (h.2 _ _ w vs rfl rfl rfl rfl rfl hent).mono ?_
 rintro e w' ⟨v,σ2,rfl,h2⟩
 obtain⟨σ',h5,h6,h7⟩:=hst.leave (n:=64) (fun r h1 _ h3=>Nat.not_lt.2 h1 h3) rfl hr' rfl (.inl fun b h1 h2=>⟨h1,h2⟩) h2
 have h8:=h5.spread (env':=[(0,res.ren (eb [] 64))]) (sz':=1) (a':=⟨#[v],[]⟩) (fun i x hx=>by
  simp only[aD]at hx
  split at hx
  ·rename_i q
   subst q
   simp only[Option.some.injEq]at hx
   subst hx
   exact⟨⟨v,rfl,h6⟩,h7⟩
  ·simp[lk]at hx) rfl trivial
 have h9:=h8.grow (G':=fun r=>r<72) (fun r hr=>by rcases hr with hr | hr <;> (try simp only at hr) <;> omega)
 have h10:aG C (fun r=>r<72) ⟨[(0,res.ren (eb [] 64))],cz [] 64 h0 rows++aS h1,72,1,64⟩ σ' w' ⟨#[v],[]⟩:= { h9 with }
 exact⟨v,_,rfl,h10.le hle⟩
end Go.Eng
namespace Go.Proofs.YtpmhnpnmpjimnaaGreatDoor
open Go.Eng Go.Plain
set_option maxHeartbeats 32000000
set_option maxRecDepth 20000
attribute [local irreducible] WC RegS RegD SeqQ BlkQ ScoQ RegK CutK Sat SatN FnIs LoopQ aq OpIs
def dO (S:Nat→Prop) (x:POp):D :=.cons (u8s x.kind) (.cons (i6 x.index) (.cons (.re true S (encB x.data)) .nil))
def eS (S:Nat→Prop) (a:SAct):D :=.cons (u8s a.kind) (.cons (i6 a.thread) (.cons (i6 a.sector) (.cons (.re true S (encB a.bytes)) (.cons (i6 a.back) .nil))))
theorem yq (S:Nat→Prop):AVLe (.d (.sc nil_)) (.d (.re true S (encB []))):=AVLe.d (fun w X cs h=>by
 obtain⟨rfl,_⟩:=h
 exact .inl ⟨rfl,rfl⟩) rfl
theorem xH (l:List Int) (hp:0<l.length) (hlen:l.length≤1048576):FnIs Tryz.prog 30 [.d (.arr 1 bp l)] [] (.own 64 0 l.length 1 none) [(64,.ds 5 1 true bp l)]:=by
 have hd:decide ((l.length:Int)=0)=false:=dF (by omega)
 have hcp:l.take (List.replicate l.length (0:Int)).length++(List.replicate l.length (0:Int)).drop l.length=l:=by simp
 have hmin:min l.length (List.replicate l.length (0:Int)).length=l.length:=by simp
 refine aw aa Tryz.func30 rfl rfl rfl ?_;refine sR<|rC<|zW ?_;refine rC ?_;refine rQ iE ?_;refine rC ?_;refine zG<|kS<|sR ?_;refine rC ?_;refine rQ iE ?_;refine aN (da (enc:=bp) (s:=1) (N:=l.length) aa 0 rfl rfl rfl rfl rfl rfl rfl hlen rfl) rfl ?_;refine rC<|nR ?_;refine zD ?_;refine aN (jM (r:=64+8+8+8+8+8+8) (xs:=List.replicate l.length (0:Int)) (ys:=l) (enc:=bp) (zs:=l) (m:=l.length) aa rfl rfl rfl rfl (by rw[List.length_replicate]; rfl) rfl rfl hcp hmin) rfl<|nR ?_;refine zD<|zT ?_
 exact⟨trivial,[(64,some _)],lg zV ⟨zR,trivial⟩⟩
theorem q5 (S:Nat→Prop) (l:List UInt8) (hlen:l.length≤1048576):FnIs Tryz.prog 30 [.d (encB l)] [(2,.lo S)] (.d (.re true S (encB l))) [(2,.lo S)]:=by
 cases l with
 | nil =>
  have hd:decide ((0:Int)=0)=true:=rfl
  refine aw aa Tryz.func30 rfl rfl rfl ?_;refine sR<|rC<|zW ?_;refine rC ?_;refine rQ iE ?_;refine rC ?_;refine zO<|sR ?_;refine rC<|zT<|ba ?_
  exact⟨trivial,[],lg ⟨⟨_,rfl,yq S⟩,rfl,trivial⟩ ⟨zR,trivial⟩⟩
 | cons a l =>
  have h0:=xH (byI (a::l)) (by simp[byI]) (by rw[ch]; exact hlen)
  refine FnIs.new_re (by decide) ?_ rfl rfl rfl (Frz.own rfl) h0
  exact fun _ _ _ _ h=>h
def np:Option (List POp)→D
 | none=>.sc (.slice none 0 0)
 | some p=>encP p
theorem vV (l:List (Option (List POp))) (hp:0<l.length) (hlen:l.length≤1048576):FnIs Tryz.prog 28 [.d (.arr 1 np l)] [] (.own 64 0 l.length 1 none) [(64,.ds 49 1 true np l)]:=by
 have hd:decide ((l.length:Int)=0)=false:=dF (by omega)
 have hcp:l.take (List.replicate l.length (none:Option (List POp))).length++(List.replicate l.length (none:Option (List POp))).drop l.length=l:=by simp
 have hmin:min l.length (List.replicate l.length (none:Option (List POp))).length=l.length:=by simp
 refine aw aa Tryz.func28 rfl rfl rfl ?_;refine sR<|rC<|zW ?_;refine rC ?_;refine rQ iE ?_;refine rC ?_;refine zG<|kS<|sR ?_;refine rC ?_;refine rQ iE ?_;refine aN (da (enc:=np) (s:=1) (N:=l.length) aa none rfl rfl rfl rfl rfl rfl rfl hlen rfl) rfl ?_;refine rC<|nR ?_;refine zD ?_;refine aN (jM (r:=64+8+8+8+8+8+8) (xs:=List.replicate l.length none) (ys:=l) (enc:=np) (zs:=l) (m:=l.length) aa rfl rfl rfl rfl (by rw[List.length_replicate]; rfl) rfl rfl hcp hmin) rfl<|nR ?_;refine zD<|zT ?_
 exact⟨trivial,[(64,some _)],lg zV ⟨zR,trivial⟩⟩
theorem Bo (l:List (List POp)):eQ [.d (cE l)] [.d (.arr 1 np (l.map some))]:=⟨⟨AVLe.d (jL rfl fun _ _ _ _ _ h=>h) rfl,fun _ _=>trivial⟩,trivial⟩
theorem yz (l:List (List POp)):aE (.ds 49 1 true np (l.map some)) (.ds 49 1 true encP l):=
 aE.ds_map (fun o=>match o with | some x=>x | none=>[]) (by rw[List.map_map]; exact (List.map_id _).symm) fun x hx=>by
  obtain⟨y,_,rfl⟩:=List.mem_map.1 hx
  exact fun _ _ _ h=>h
theorem xG (l:List (List POp)) (hp:0<l.length) (hlen:l.length≤1048576):FnIs Tryz.prog 28 [.d (cE l)] [] (.own 64 0 l.length 1 none) [(64,.ds 49 1 true encP l)]:=by
 have h1:=vV (l.map some) (by rw[List.length_map]; exact hp) (by rw[List.length_map]; exact hlen)
 rw[List.length_map]at h1
 refine FnIs.args_le (Bo l) (FnIs.frame [(64,some 64)] h1 (by
  intro v hv; simp at hv; subst hv; exact⟨rfl,rfl⟩) trivial rfl ?_)
 exact lg zV ⟨⟨rfl,rfl,_,rfl,yz l⟩,trivial⟩
def nq:Option POp→D
 | none=>.cons (u8s 0) (.cons (i6 0) (.cons (.sc (.slice none 0 0)) .nil))
 | some o=>br o
theorem vW (l:List (Option POp)) (hp:0<l.length) (hlen:l.length≤1048576):FnIs Tryz.prog 29 [.d (.arr 3 nq l)] [] (.own 64 0 l.length 3 none) [(64,.ds 52 3 true nq l)]:=by
 have hd:decide ((l.length:Int)=0)=false:=dF (by omega)
 have hcp:l.take (List.replicate l.length (none:Option POp)).length++(List.replicate l.length (none:Option POp)).drop l.length=l:=by simp
 have hmin:min l.length (List.replicate l.length (none:Option POp)).length=l.length:=by simp
 refine aw aa Tryz.func29 rfl rfl rfl ?_;refine sR<|rC<|zW ?_;refine rC ?_;refine rQ iE ?_;refine rC ?_;refine zG<|kS<|sR ?_;refine rC ?_;refine rQ iE ?_;refine aN (da (enc:=nq) (s:=3) (N:=l.length) aa none rfl rfl rfl rfl rfl rfl rfl hlen rfl) rfl ?_;refine rC<|nR ?_;refine zD ?_;refine aN (jM (r:=64+8+8+8+8+8+8) (xs:=List.replicate l.length none) (ys:=l) (enc:=nq) (zs:=l) (m:=l.length) aa rfl rfl rfl rfl (by rw[List.length_replicate]; rfl) rfl rfl hcp hmin) rfl<|nR ?_;refine zD<|zT ?_
 exact⟨trivial,[(64,some _)],lg zV ⟨zR,trivial⟩⟩
theorem Bq (l:List POp):eQ [.d (encP l)] [.d (.arr 3 nq (l.map some))]:=⟨⟨AVLe.d (jL rfl fun _ _ _ _ _ h=>h) rfl,fun _ _=>trivial⟩,trivial⟩
theorem yA (l:List POp):aE (.ds 52 3 true nq (l.map some)) (.ds 52 3 true br l):=
 aE.ds_map (fun o=>match o with | some x=>x | none=>⟨0,0,[]⟩) (by rw[List.map_map]; exact (List.map_id _).symm) fun x hx=>by
  obtain⟨y,_,rfl⟩:=List.mem_map.1 hx
  exact fun _ _ _ h=>h
theorem sk (l:List POp) (hlen:l.length≤1048576):FnIs Tryz.prog 29 [.d (encP l)] [] (.own 64 0 l.length 3 none) [(64,.ds 52 3 true br l)]:=by
 cases l with
 | nil =>
  have hd:decide ((0:Int)=0)=true:=rfl
  refine aw aa Tryz.func29 rfl rfl rfl ?_;refine sR<|rC<|zW ?_;refine rC ?_;refine rQ iE ?_;refine rC ?_;refine zO<|sR ?_;refine rC<|zT<|ba ?_
  exact⟨trivial,[(64,none)],lg zV ⟨⟨rfl,rfl,rfl⟩,trivial⟩⟩
 | cons a l =>
  generalize hq:a::l=q at *
  have hp:0<q.length:=by rw[←hq]; simp
  have h1:=vW (q.map some) (by rw[List.length_map]; exact hp) (by rw[List.length_map]; exact hlen)
  rw[List.length_map]at h1
  refine FnIs.args_le (Bq q) (FnIs.frame [(64,some 64)] h1 (by
   intro v hv; simp at hv; subst hv; exact⟨rfl,rfl⟩) trivial rfl ?_)
  exact lg zV ⟨⟨rfl,rfl,_,rfl,yA q⟩,trivial⟩
theorem xI (l:List SAct) (hlen:l.length≤1048576):FnIs Tryz.prog 14 [.d (e6 l)] [] (.own 64 0 l.length 5 none) [(64,.ds 48 5 true aX l)]:=by
 cases l with
 | nil =>
  have hd:decide ((0:Int)=0)=true:=rfl
  refine aw aa Tryz.func14 rfl rfl rfl ?_;refine sR<|rC<|zW ?_;refine rC ?_;refine rQ iE ?_;refine rC ?_;refine zO<|sR ?_;refine rC<|zT<|ba ?_
  exact⟨trivial,[(64,none)],lg zV ⟨⟨rfl,rfl,rfl⟩,trivial⟩⟩
 | cons a l =>
  generalize hq:a::l=q at *
  have hp:0<q.length:=by rw[←hq]; simp
  have h1:=ni (q.map some) (by rw[List.length_map]; exact hp) (by rw[List.length_map]; exact hlen)
  rw[List.length_map]at h1
  refine FnIs.args_le (wK q) (FnIs.frame [(64,some 64)] h1 (by
   intro v hv; simp at hv; subst hv; exact⟨rfl,rfl⟩) trivial rfl ?_)
  exact lg zV ⟨⟨rfl,rfl,_,rfl,sG q⟩,trivial⟩
end Go.Proofs.YtpmhnpnmpjimnaaGreatDoor
namespace Go.Eng
open Go.RowKit
section
variable {P : Program} {S : Nat → Prop} {Q : Exit → St → Prop} {st : St}
theorem uD {α:Type} (mk:α→St) (Inv:α→Prop) {x y:Code} (hx:SatC S P x (MidQ mk Inv Q) st) (hy:∀a,Inv a→Sat P y Q (mk a)):SatC S P (.seq x y) Q st:=by
 intro C σ w a hS hst
 refine wpIn_seq (wpIn_mono (hx C σ w a hS hst) ?_)
 rintro e a' w' ⟨st',σ',h1,h2⟩
 cases e with
 | normal =>
  obtain⟨b,l,h3,h4⟩:=h1
  exact (Sat.le l h4 (hy b h3)) C σ' w' a' h2
 | _=>exact⟨st',σ',h1,h2⟩
end
end Go.Eng
namespace Go.Proofs.YtpmhnpnmpjimnaaGreatDoor
open Go.Eng Go.Plain
set_option maxHeartbeats 32000000
set_option maxRecDepth 20000
attribute [local irreducible] WC RegS RegD SeqQ BlkQ ScoQ RegK CutK Sat SatN FnIs LoopQ aq OpIs
def jI (S:Nat→Prop):Bool×POp→D
 | (true,o)=>dO S o
 | (false,o)=>br o
def oh (S:Nat→Prop):Bool×SAct→D
 | (true,o)=>eS S o
 | (false,o)=>aX o
def mixL {α:Type} (k:Nat) (l:List α):List (Bool×α):=(l.take k).map (fun x=>(true,x))++(l.drop k).map (fun x=>(false,x))
theorem vq {α:Type} (l:List α):mixL 0 l=l.map (fun x=>(false,x)):=by simp[mixL]
theorem jy {α:Type} (l:List α):mixL l.length l=l.map (fun x=>(true,x)):=by simp[mixL]
theorem lN {α:Type} {k:Nat} {l:List α} {x:α} (h:l[k]?=some x):(mixL k l)[k]?=some (false,x):=by
 have hk:=(List.getElem?_eq_some_iff.1 h).1
 have hl:((l.take k).map (fun x=>(true,x))).length=k:=by rw[List.length_map,List.length_take]; omega
 rw[mixL,List.getElem?_append_right (by omega),hl,Nat.sub_self,List.getElem?_map,List.getElem?_drop,Nat.add_zero,h]
 rfl
theorem lM {α:Type} {k:Nat} {l:List α} {x:α} (h:l[k]?=some x):(mixL k l).set k (true,x)=mixL (k+1) l:=by
 have hk:=(List.getElem?_eq_some_iff.1 h).1
 have hl:((l.take k).map (fun x=>(true,x))).length=k:=by rw[List.length_map,List.length_take]; omega
 have hd:l.drop k=x::l.drop (k+1):=by rw[List.drop_eq_getElem_cons hk]; congr 1; exact (List.getElem?_eq_some_iff.1 h).2
 rw[mixL,List.set_append_right _ _ (by omega),hl,Nat.sub_self,hd,List.map_cons,List.set_cons_zero,mixL,List.take_add_one,h]
 simp
theorem uO {S:Nat→Prop} {te:TypeId} {ex:Bool} (p:List POp):aE (.ds te 3 ex br p) (.ds te 3 ex (jI S) (mixL 0 p)):=
 aE.ds_map (fun x=>(false,x)) (vq p) fun _ _=>DLe.refl _
theorem rM {S:Nat→Prop} {te:TypeId} {ex:Bool} (p:List POp):aE (.ds te 3 ex (jI S) (mixL p.length p)) (.ds te 3 ex (dO S) p):=
 aE.ds_map Prod.snd (by rw[jy,List.map_map]; exact (List.map_id _).symm) fun x hx=>by
  rw[jy]at hx
  obtain⟨y,_,rfl⟩:=List.mem_map.1 hx
  exact DLe.refl _
theorem n6 {S:Nat→Prop} (x:POp):DLe (dO S x) (br x):=by
 rintro w X cs ⟨a1,r1,rfl,h1,a2,r2,rfl,h2,a3,r3,rfl,h3,h4⟩
 exact⟨a1,_,rfl,h1,a2,_,rfl,h2,a3,_,rfl,DLe.re w X a3 h3,h4⟩
theorem xZ {S:Nat→Prop} {te:TypeId} {ex:Bool} (p:List SAct):aE (.ds te 5 ex aX p) (.ds te 5 ex (oh S) (mixL 0 p)):=
 aE.ds_map (fun x=>(false,x)) (vq p) fun _ _=>DLe.refl _
theorem wJ {S:Nat→Prop} {te:TypeId} {ex:Bool} (p:List SAct):aE (.ds te 5 ex (oh S) (mixL p.length p)) (.ds te 5 ex (eS S) p):=
 aE.ds_map Prod.snd (by rw[jy,List.map_map]; exact (List.map_id _).symm) fun x hx=>by
  rw[jy]at hx
  obtain⟨y,_,rfl⟩:=List.mem_map.1 hx
  exact DLe.refl _
theorem sH {S:Nat→Prop} (x:SAct):DLe (eS S x) (aX x):=by
 rintro w X cs ⟨a1,r1,rfl,h1,a2,r2,rfl,h2,a3,r3,rfl,h3,a4,r4,rfl,h4,h5⟩
 exact⟨a1,_,rfl,h1,a2,_,rfl,h2,a3,_,rfl,h3,a4,_,rfl,DLe.re w X a4 h4,h5⟩
theorem yx {S:Nat→Prop} {te:TypeId} {ex:Bool} (p:List POp):aE (.ds te 3 ex (jI S) (mixL p.length p)) (.ds te 3 ex br p):=
 fun σ w X r h=>aE.ds_map id (List.map_id _).symm (fun x _=>n6 x) σ w X r (rM p σ w X r h)
theorem set_same'.{u} {α:Type u} {l:List α} {i:Nat} {a:α} (h:l[i]?=some a):l.set i a=l:=by
 obtain⟨h1,rfl⟩:=List.getElem?_eq_some_iff.1 h
 exact List.set_getElem_self h1
theorem nA (S:Nat→Prop) (c:SCfg) (p0:List POp) (rest:List (List POp)) (all bs:List SAct) (hr:rest.length≤100000) (hb:bs.length≤1000000) (hp:∀p∈p0::rest,p.length≤1000000∧∀o∈p,o.data.length≤1000000) (hbb:∀a∈bs,a.bytes.length≤1000000) :
  FnIs Tryz.prog 13 [.d (bB c (p0::rest) all),.d (e6 bs)] [(0,.lo S)] (.acons (.d (bt c)) (.acons (.own 64 0 (rest.length+1) 1 none) (.acons (.own 66 0 bs.length 5 none) (.d .nil))))
   [(0,.lo S),(64,.lits 49 1 (rest.length+1) true (chF (.own 65 0 p0.length 3 none) (rest.map encP))),(65,.ds 52 3 true (dO S) p0),(66,.ds 48 5 true (eS S) bs)]:=by
 have hexp:=xG (p0::rest) (by simp) (by simp; omega)
 have hexa:=xI bs (by omega)
 have hsz:∀d∈rest.map encP,d.size=1:=fun d hd=>by obtain⟨p,_,rfl⟩:=List.mem_map.1 hd; rfl
 refine aw aa Tryz.func13 rfl rfl rfl ?_;refine sR ?_;iterate 2 refine rN ?_
 refine nQ<|aH (by kernel_rfl) ?_;refine dC [2] [] ?_;refine dQ [10] [64] iB ?_;refine dC [2] [] ?_;refine dQ [12] [64] iB ?_;refine eL [13] [] rfl (fC hexp rfl rfl (aj ae) (.inl rfl) rfl rfl) ?_;refine dC [1] [] ?_;refine eL [15] [] rfl (fC hexa rfl rfl (aj ae) (.inl rfl) rfl rfl) ?_;refine dQ [11,14,16] [112,128] iS ?_;refine eL [] [] rfl (ay aa (fun K hk=>hk)) ?_;refine ca [5,17] [144] (aF aa rfl rfl rfl ⟨_,⟨rfl,rfl,rfl⟩,rfl⟩ rfl) ?_;refine aC (by kernel_rfl)<|aU<|qR ?_;refine rC ?_;refine rQ iM ?_;refine rQ (bq aa rfl rfl) ?_;refine rC<|zP ?_
 refine wc_inv (fun i:Nat=>match i with | 0=>⟨[(21,.int .i64 (0:Nat)),(20,.int .i64 ((rest.length+1:Nat):Int)),(19,.own 66 0 (rest.length+1) 1 none),(5,.ptr 65 []),(4,.ptr 64 [])],[(0,some (.lo S)),(64,some (.box 38 (.d r38.zero))),(65,some (.box 38 (.acons (.d (bt c)) (.acons (.own 66 0 (rest.length+1) 1 none) (.acons (.own 67 0 bs.length 5 none) (.d .nil)))))),(66,some (.lits 49 1 (rest.length+1) true (chF (.d (encP p0)) (rest.map encP)))),(67,some (.ds 48 5 true aX bs)),(68,some (.ds 52 3 true (dO S) []))],72,Tryz.f13.ntmps,64⟩ | i+1=>⟨[(21,.int .i64 ((i+1:Nat):Int)),(20,.int .i64 ((rest.length+1:Nat):Int)),(19,.own 66 0 (rest.length+1) 1 none),(5,.ptr 65 []),(4,.ptr 64 [])],[(0,some (.lo S)),(64,some (.box 38 (.d r38.zero))),(65,some (.box 38 (.acons (.d (bt c)) (.acons (.own 66 0 (rest.length+1) 1 none) (.acons (.own 67 0 bs.length 5 none) (.d .nil)))))),(66,some (.lits 49 1 (rest.length+1) true (chF (.own 68 0 p0.length 3 none) (rest.map encP)))),(67,some (.ds 48 5 true aX bs)),(68,some (.ds 52 3 true (dO S) p0))],72,Tryz.f13.ntmps,64⟩) (fun i=>i≤rest.length+1) (fun i=>rest.length+1-i) 0 [(64,some 72),(65,some 144),(66,some 112),(67,some 128),(68,none)] (Nat.zero_le _)
  (lg zh ⟨zR,zR,zR,⟨rfl,cL rfl _,_,rfl,by rw[show Row.ren (rho [(64,some 72),(65,some 144),(66,some 112),(67,some 128),(68,none)]) (.lits 49 1 (rest.length+1) true (chF (.d (encP p0)) (rest.map encP)))=.lits 49 1 (rest.length+1) true (chF (.d (encP p0)) (rest.map encP)) by simp only[Row.ren,gI]; rfl]; exact aE.ds_chF rfl rfl⟩,zR,⟨rfl,rfl,rfl⟩,trivial⟩) ?_
 intro i hi
 cases i with
 | zero =>
  refine bv ?_
  obtain⟨hp0l,hp0d⟩:=hp p0 List.mem_cons_self
  have hexo:=sk p0 (by omega)
  have d1:decide (((0:Nat):Int)<((rest.length+1:Nat):Int))=true:=dT (by omega)
  refine sR<|rC<|nQ ?_;refine wT<|zQ<|zS ?_;refine rC ?_;refine rQ (aP aa rfl rfl rfl rfl rfl (by omega) (by omega)) ?_;refine rQ (bM aa rfl rfl (fu (s:=1) (Nat.succ_pos _) rfl) rfl) ?_;refine zD<|nR ?_;refine rC ?_;refine aN (fC hexo rfl rfl (aj ae) (.inl rfl) rfl rfl) rfl ?_;refine rC<|zW ?_;refine rC ?_;refine rQ (bq aa rfl rfl) ?_;refine rC<|zP ?_
  refine wc_inv (fun k:Nat=>⟨[(30,.int .i64 k),(29,.int .i64 p0.length),(7,.own 69 0 p0.length 3 none),(6,.int .i64 (0:Nat)),(21,.int .i64 (0:Nat)),(20,.int .i64 ((rest.length+1:Nat):Int)),(19,.own 66 0 (rest.length+1) 1 none),(5,.ptr 65 []),(4,.ptr 64 [])],[(0,some (.lo S)),(64,some (.box 38 (.d r38.zero))),(65,some (.box 38 (.acons (.d (bt c)) (.acons (.own 66 0 (rest.length+1) 1 none) (.acons (.own 67 0 bs.length 5 none) (.d .nil)))))),(66,some (.lits 49 1 (rest.length+1) true (chF (.d (encP p0)) (rest.map encP)))),(67,some (.ds 48 5 true aX bs)),(68,some (.ds 52 3 true (dO S) [])),(69,some (.ds 52 3 true (jI S) (mixL k p0)))],72,Tryz.f13.ntmps,64⟩) (fun k=>k≤p0.length) (fun k=>p0.length-k) 0 [(64,some 64),(65,some 65),(66,some 66),(67,some 67),(68,none),(69,some 128)] (Nat.zero_le _)
   (lg zd ⟨zR,zR,zR,⟨rfl,cL rfl _,_,rfl,aE.of_eq (by simp only[Row.ren,gI]; rfl)⟩,zR,⟨rfl,rfl,rfl⟩,⟨rfl,rfl,_,rfl,uO p0⟩,trivial⟩) ?_
  intro k hk
  refine bv ?_
  by_cases hkl:k<p0.length
  ·have d2:decide ((k:Int)<(p0.length:Int))=true:=dT (by omega)
   obtain⟨o,ho⟩:∃o,p0[k]?=some o:=⟨_,List.getElem?_eq_getElem hkl⟩
   have hget:(mixL k p0)[((k:Int)).toNat]?=some (false,o):=by rw[Int.toNat_natCast]; exact lN ho
   have hexb:=q5 S o.data (by have:=hp0d o (List.mem_of_getElem? ho); omega)
   refine sR<|rC<|nQ ?_;refine wT<|zQ<|zS ?_;refine zD<|nS<|ao ?_;iterate 4 refine rC ?_
   refine rQ (aP aa rfl rfl rfl rfl rfl (by omega) (by omega)) ?_;refine rC ?_;refine rQ (bM aa rfl rfl ⟨rfl,(false,o),hget,_,rfl,rfl⟩ rfl) ?_;refine aJ (aO [(2,some 0)] hexb rfl rfl rfl (aj ae) ⟨zH,trivial⟩ rfl rfl (.inl rfl) rfl rfl) rfl ?_;refine rQ (aP aa rfl rfl rfl rfl rfl (by omega) (by omega)) ?_;refine rC ?_;refine aW (aF aa rfl rfl rfl ⟨rfl,(false,o),(true,o),hget,⟨_,⟨rfl,rfl,rfl⟩,rfl⟩,rfl⟩ rfl)<|aB<|ew<|aU<|ao ?_;refine rQ iD ?_;refine rC<|aB ?_
   exact aY (k+1) [(64,some 64),(65,some 65),(66,some 66),(67,some 67),(68,some 68),(69,some 69)] (show k+1≤_ by omega) (by show p0.length-(k+1)<p0.length-k; omega) (lg zd ⟨zR,zR,zR,⟨rfl,cL rfl _,_,rfl,aE.of_eq (by simp only[Row.ren,gI]; rfl)⟩,zR,zR,⟨rfl,rfl,_,rfl,aE.of_eq (by rw[Int.toNat_natCast,lM ho]; rfl)⟩,trivial⟩)
  ·have he:k=p0.length:=by omega
   subst he
   have d2:decide ((p0.length:Int)<(p0.length:Int))=false:=dF (by omega)
   refine sR<|rC<|nQ ?_;refine wF<|zX<|ao ?_;refine rC ?_;refine rQ iM ?_;refine zD ?_;refine rQ (aP aa rfl rfl rfl rfl rfl (by omega) (by omega)) ?_;refine aW (aF aa rfl rfl rfl (qj (s:=1) (Nat.succ_pos _) rfl rfl rfl) rfl)<|aB<|zC<|ao ?_;refine rQ iD ?_;refine rC<|aB ?_
   exact aY 1 [(64,some 64),(65,some 65),(66,some 66),(67,some 67),(68,some 69)] (show 1≤_ by omega) (by show rest.length+1-1<rest.length+1-0; omega) (lg zh ⟨zR,zR,zR,⟨rfl,cL rfl _,_,rfl,bZ rfl⟩,zR,⟨rfl,rfl,_,rfl,rM p0⟩,trivial⟩)
 | succ i =>
  refine bv ?_
  by_cases hlt:i<rest.length
  ·have d1:decide (((i+1:Nat):Int)<((rest.length+1:Nat):Int))=true:=dT (by omega)
   obtain⟨p,hpi⟩:∃p,rest[i]?=some p:=⟨_,List.getElem?_eq_getElem hlt⟩
   have hpk:(rest.map encP)[i]?=some (encP p):=by rw[List.getElem?_map,hpi]; rfl
   have hi1:(((i+1:Nat):Int)).toNat=i+1:=Int.toNat_natCast _
   obtain⟨hp0l,hp0d⟩:=hp p (List.mem_cons_of_mem _ (List.mem_of_getElem? hpi))
   have hexo:=sk p (by omega)
   refine sR<|rC<|nQ ?_;refine wT<|zQ<|zS ?_;refine rC ?_;refine rQ (aP aa rfl rfl rfl rfl rfl (by omega) (by omega)) ?_;refine rQ (bM aa rfl rfl (s6 (s:=1) (k:=i) rfl hsz (by simp) hi1 hpk) rfl) ?_;refine zD<|nR ?_;refine rC ?_;refine aN (fC hexo rfl rfl (aj ae) (.inl rfl) rfl rfl) rfl ?_;refine rC<|zW ?_;refine rC ?_;refine rQ (bq aa rfl rfl) ?_;refine rC<|zP ?_
   refine wc_inv (fun k:Nat=>⟨[(30,.int .i64 k),(29,.int .i64 p.length),(7,.own 69 0 p.length 3 none),(6,.int .i64 ((i+1:Nat):Int)),(21,.int .i64 ((i+1:Nat):Int)),(20,.int .i64 ((rest.length+1:Nat):Int)),(19,.own 66 0 (rest.length+1) 1 none),(5,.ptr 65 []),(4,.ptr 64 [])],[(0,some (.lo S)),(64,some (.box 38 (.d r38.zero))),(65,some (.box 38 (.acons (.d (bt c)) (.acons (.own 66 0 (rest.length+1) 1 none) (.acons (.own 67 0 bs.length 5 none) (.d .nil)))))),(66,some (.lits 49 1 (rest.length+1) true (chF (.own 68 0 p0.length 3 none) (rest.map encP)))),(67,some (.ds 48 5 true aX bs)),(68,some (.ds 52 3 true (dO S) p0)),(69,some (.ds 52 3 true (jI S) (mixL k p)))],72,Tryz.f13.ntmps,64⟩) (fun k=>k≤p.length) (fun k=>p.length-k) 0 [(64,some 64),(65,some 65),(66,some 66),(67,some 67),(68,some 68),(69,some 128)] (Nat.zero_le _)
    (lg zd ⟨zR,zR,zR,⟨rfl,cL rfl _,_,rfl,bZ rfl⟩,zR,zR,⟨rfl,rfl,_,rfl,uO p⟩,trivial⟩) ?_
   intro k hk
   refine bv ?_
   by_cases hkl:k<p.length
   ·have d2:decide ((k:Int)<(p.length:Int))=true:=dT (by omega)
    obtain⟨o,ho⟩:∃o,p[k]?=some o:=⟨_,List.getElem?_eq_getElem hkl⟩
    have hget:(mixL k p)[((k:Int)).toNat]?=some (false,o):=by rw[Int.toNat_natCast]; exact lN ho
    have hexb:=q5 S o.data (by have:=hp0d o (List.mem_of_getElem? ho); omega)
    refine sR<|rC<|nQ ?_;refine wT<|zQ<|zS ?_;refine zD<|nS<|ao ?_;iterate 4 refine rC ?_
    refine rQ (aP aa rfl rfl rfl rfl rfl (by omega) (by omega)) ?_;refine rC ?_;refine rQ (bM aa rfl rfl ⟨rfl,(false,o),hget,_,rfl,rfl⟩ rfl) ?_;refine aJ (aO [(2,some 0)] hexb rfl rfl rfl (aj ae) ⟨zH,trivial⟩ rfl rfl (.inl rfl) rfl rfl) rfl ?_;refine rQ (aP aa rfl rfl rfl rfl rfl (by omega) (by omega)) ?_;refine rC ?_;refine aW (aF aa rfl rfl rfl ⟨rfl,(false,o),(true,o),hget,⟨_,⟨rfl,rfl,rfl⟩,rfl⟩,rfl⟩ rfl)<|aB<|ew<|aU<|ao ?_;refine rQ iD ?_;refine rC<|aB ?_
    exact aY (k+1) [(64,some 64),(65,some 65),(66,some 66),(67,some 67),(68,some 68),(69,some 69)] (show k+1≤_ by omega) (by show p.length-(k+1)<p.length-k; omega) (lg zd ⟨zR,zR,zR,⟨rfl,cL rfl _,_,rfl,bZ rfl⟩,zR,zR,⟨rfl,rfl,_,rfl,aE.of_eq (by rw[Int.toNat_natCast,lM ho]; rfl)⟩,trivial⟩)
   ·have he:k=p.length:=by omega
    subst he
    have d2:decide ((p.length:Int)<(p.length:Int))=false:=dF (by omega)
    refine eC (env':=[(7,_),(29,_),(30,_),(6,_),(21,_),(20,_),(19,_),(5,_),(4,_)]) (h':=[(0,some _),(64,some _),(65,some _),(66,some _),(67,some _),(68,some _)]) 69 _ rfl ⟨⟨_,rfl,Frz.row_le (yx p) (Frz.own rfl)⟩,zE,zE,zE,zE,zE,zE,zE,zE,trivial⟩ ⟨⟨rfl,_,rfl,.refl _⟩,⟨rfl,_,rfl,.refl _⟩,⟨rfl,_,rfl,.refl _⟩,zF,⟨rfl,_,rfl,.refl _⟩,⟨rfl,_,rfl,.refl _⟩,trivial⟩<|sR ?_;refine rC<|nQ ?_;refine wF<|zX<|ao ?_;refine rC ?_;refine rQ iM ?_;refine zD ?_;refine rQ (aP aa rfl rfl rfl rfl rfl (by omega) (by omega)) ?_;refine aW (aF aa rfl rfl rfl (s5 (s:=1) (k:=i) rfl hsz (by simp) hi1 hpk rfl rfl) rfl)<|aB<|zC<|ao ?_;refine rQ iD ?_;refine rC<|aB ?_;refine aY (i+2) [(64,some 64),(65,some 65),(66,some 66),(67,some 67),(68,some 68)] (show i+2≤_ by omega) (by show rest.length+1-(i+2)<rest.length+1-(i+1); omega) ?_
    have hset:(rest.map encP).set i (.arr 3 br p)=rest.map encP:=set_same' hpk
    rw[hset]
    exact lg zh ⟨zR,zR,zR,⟨rfl,cL rfl _,_,rfl,bZ rfl⟩,zR,zR,trivial⟩
  ·have he:i=rest.length:=by omega
   subst he
   have d1:decide (((rest.length+1:Nat):Int)<((rest.length+1:Nat):Int))=false:=dF (by omega)
   refine sR<|rC<|nQ ?_;refine wF<|zX<|qR ?_;refine rC ?_;refine rQ iM ?_;refine rQ (bq aa rfl rfl) ?_;refine rC<|zP ?_
   refine wc_inv (fun i:Nat=>⟨[(53,.int .i64 i),(52,.int .i64 bs.length),(5,.ptr 65 []),(4,.ptr 64 [])],[(0,some (.lo S)),(64,some (.box 38 (.d r38.zero))),(65,some (.box 38 (.acons (.d (bt c)) (.acons (.own 66 0 (rest.length+1) 1 none) (.acons (.own 67 0 bs.length 5 none) (.d .nil)))))),(66,some (.lits 49 1 (rest.length+1) true (chF (.own 68 0 p0.length 3 none) (rest.map encP)))),(67,some (.ds 48 5 true (oh S) (mixL i bs))),(68,some (.ds 52 3 true (dO S) p0))],72,Tryz.f13.ntmps,64⟩) (fun i=>i≤bs.length) (fun i=>bs.length-i) 0 [(64,some 64),(65,some 65),(66,some 66),(67,some 67),(68,some 68)] (Nat.zero_le _)
    (lg zi ⟨zR,zR,zR,⟨rfl,cL rfl _,_,rfl,bZ rfl⟩,⟨rfl,rfl,_,rfl,xZ bs⟩,zR,trivial⟩) ?_
   intro i hi
   refine bv ?_
   by_cases hlt:i<bs.length
   ·have d3:decide ((i:Int)<(bs.length:Int))=true:=dT (by omega)
    obtain⟨a,ha⟩:∃a,bs[i]?=some a:=⟨_,List.getElem?_eq_getElem hlt⟩
    have hga:(mixL i bs)[((i:Int)).toNat]?=some (false,a):=by rw[Int.toNat_natCast]; exact lN ha
    have hexb:=q5 S a.bytes (by have:=hbb a (List.mem_of_getElem? ha); omega)
    refine sR<|rC<|nQ ?_;refine wT<|zQ<|zS ?_;refine zD<|nS ?_;refine aH (by kernel_rfl) ?_;refine dC [5] [] ?_;refine dQ [56] [65] iM ?_;refine dC [9] [] ?_;refine dC [5] [] ?_;refine dQ [59] [65] iM ?_;refine dC [9] [] ?_;refine dQ [60,61] [] (aP aa rfl rfl rfl rfl rfl (by omega) (by omega)) ?_;refine dC [62] [] ?_;refine dQ [63] [67] (bM aa rfl rfl ⟨rfl,(false,a),hga,_,rfl,rfl⟩ rfl) ?_;refine ek [64] [0] rfl (.plain (aO [(2,some 0)] hexb rfl rfl rfl (aj ae) ⟨zH,trivial⟩ rfl rfl (.inl rfl) rfl rfl)) rfl rfl ?_;refine dQ [57,58] [] (aP aa rfl rfl rfl rfl rfl (by omega) (by omega)) ?_;refine dC [66] [] ?_;refine ca [67,65] [67] (aF aa rfl rfl rfl ⟨rfl,(false,a),(true,a),hga,⟨_,⟨rfl,rfl,rfl⟩,rfl⟩,rfl⟩ rfl) ?_;refine aC (by kernel_rfl)<|zC<|ao ?_;refine rQ iD ?_;refine rC<|aB ?_
    exact aY (i+1) [(64,some 64),(65,some 65),(66,some 66),(67,some 67),(68,some 68)] (show i+1≤_ by omega) (by show bs.length-(i+1)<bs.length-i; omega) (lg zi ⟨zR,zR,zR,⟨rfl,cL rfl _,_,rfl,bZ rfl⟩,⟨rfl,rfl,_,rfl,aE.of_eq (by rw[Int.toNat_natCast,lM ha]; rfl)⟩,zR,trivial⟩)
   ·have he:i=bs.length:=by omega
    subst he
    have d3:decide ((bs.length:Int)<(bs.length:Int))=false:=dF (by omega)
    refine sR<|rC<|nQ ?_;refine wF<|zX<|sR ?_;refine rQ iM ?_;refine rW<|zT ?_
    exact⟨trivial,_,rfl,[(64,some 66),(65,some 68),(66,some 67)],lg zl ⟨zR,⟨rfl,cL rfl _,_,rfl,bZ rfl⟩,zR,⟨rfl,rfl,_,rfl,wJ bs⟩,trivial⟩⟩
end Go.Proofs.YtpmhnpnmpjimnaaGreatDoor
namespace Go.Eng
open Go.RowKit
section
variable {P : Program} {T : Tab} {env : Env} {h : Upds} {n : Nat}
theorem mC (hT:an P T) {t e:Nat} {re:TyR} {s:Nat} {α:Type} {enc:α→D} {xs ys:List α} {x y:Operand} (ht:aT T t=some (.slice e)) (he:lk T e=some re) (hs:Nat.beq re.size s=true) (hs0:Nat.blt 0 s=true)
  (hx:au env x=some (.d (.arx s enc xs))) (hy:au env y=some (.d (.arr s enc ys))) (hys:0<ys.length)
  (hlen:xs.length+ys.length≤1048576) (hbytes:Nat.ble re.bytes 134217728=true) :
  aq P (.call { callee :=.builtin .append,args := #[x,y],argTypes := #[t,t] }) env h n (some (.own n 0 (xs.length+ys.length) s none)) [(n,some (.ds e s false enc (xs++ys)))]:=by
 have hb:=Nat.le_of_ble_eq_true hbytes
 have hs1:=Nat.eq_of_beq_eq_true hs
 have hs0:=Nat.le_of_ble_eq_true hs0
 refine jS hT (ys:=ys) ht he hs1 hys (by simp only[maxLen]; omega) ?_ ?_ ?_
 ·have:(xs.length+ys.length)*re.bytes≤1048576*134217728:=Nat.mul_le_mul hlen hb
  omega
 ·intro C G st σ w a hA hst
  obtain⟨hx1,_⟩:=am hst (hA.ev hx)
  rcases RelV.arx.1 hx1 with ⟨rfl,ad,hv⟩ | ⟨ad,hv,hc1,f,hf⟩
  ·exact⟨ad,0,fun _=>[],hv,by simpa using hys,fun _=>⟨rfl,rfl⟩,fun i hi=>by simp at hi,fun _ _ j v hj=>by simp[cat]at hj⟩
  ·refine⟨some ad,xs.length,f,hv,by omega,(fun h=>by cases h),fun i hi=>⟨(hf i hi).1,(hf i hi).2.1⟩,fun ad' had j v hj=>?_⟩
   cases had
   have hfl:∀i,i<xs.length→(f i).length=s:=fun i hi=>(hf i hi).2.1
   have hjl:=(List.getElem?_eq_some_iff.1 hj).1
   rw[bS _ hfl]at hjl
   have hi:j/s<xs.length:=Nat.div_lt_of_lt_mul (by rw[Nat.mul_comm]; exact hjl)
   have hm:j % s<s:=Nat.mod_lt _ hs0
   have hdm:j/s*s+j % s=j:=by rw[Nat.mul_comm]; exact Nat.div_add_mod j s
   have hg:=cY (f:=f) xs.length hfl (j/s) (j % s) hi hm
   rw[hdm,hj]at hg
   have:=((hf (j/s) hi).2.2 (j % s) v hg.symm).1
   rwa [hdm]at this
 ·exact wQ hs0 hy hys
end
end Go.Eng
namespace Go.Eng
open Go.RowKit
section
variable {P : Program} {T : Tab} {env : Env} {h : Upds} {n : Nat}
theorem oA (hT:an P T) {t e:Nat} {re:TyR} {x y:Operand} {α:Type} {s:Nat} {enc:α→D} {xs:List α} (ht:aT T t=some (.slice e)) (he:lk T e=some re)
  (hx:au env x=some (.d (.arx s enc xs))) (hy:au env y=some (.d (.arr s enc ([]:List α)))) :
  aq P (.call { callee :=.builtin .append,args := #[x,y],argTypes := #[t,t] }) env h n (some (.d (.arx s enc xs))) []:=.of_comes fun C G st σ w ac o ho hA hd hst hn=>by
 obtain⟨ud,hud,hdd⟩:=aM hT ht
 cases hdd
 obtain⟨hx1,_⟩:=am hst (hA.ev hx)
 obtain⟨hy1,_⟩:=am hst (hA.ev hy)
 have hsz:=(hT e re he).run_size (P:=P)
 have h0:∀a:Addr,(loadCells a 0).run P w=.ok #[] w:=fun a=>by simpa using run_loadCells_list (P:=P) w a [] (by simp)
 refine .quiet (u:=ac.eval x) hst hd ⟨rfl,rfl⟩ ?_ hx1 trivial
 rcases RelV.arr.1 hy1 with ⟨_,hu⟩ | ⟨a,c,hu,_⟩
 ·rcases RelV.arx.1 hx1 with ⟨_,ad,hv⟩ | ⟨ad,hv,_⟩
  ·cases ad <;> simp[execOp,ho,resolve,invoke,builtin,Builtin.append_,hv,hu,run_underlying hud,hsz,Builtin.lenOf,Builtin.firstCells,storeCells,Sem.run_bind,Sem.run_pure,Result.andThen_ok]
  ·simp[execOp,ho,resolve,invoke,builtin,Builtin.append_,hv,hu,run_underlying hud,hsz,Builtin.lenOf,Builtin.firstCells,storeCells,Sem.run_bind,Sem.run_pure,Result.andThen_ok]
 ·rcases RelV.arx.1 hx1 with ⟨_,ad,hv⟩ | ⟨ad,hv,_⟩
  ·cases ad <;> simp[execOp,ho,resolve,invoke,builtin,Builtin.append_,hv,hu,run_underlying hud,hsz,Builtin.lenOf,Builtin.firstCells,h0,storeCells,Sem.run_bind,Sem.run_pure,Result.andThen_ok]
  ·simp[execOp,ho,resolve,invoke,builtin,Builtin.append_,hv,hu,run_underlying hud,hsz,Builtin.lenOf,Builtin.firstCells,h0,storeCells,Sem.run_bind,Sem.run_pure,Result.andThen_ok]
end
end Go.Eng
namespace Go.Proofs.YtpmhnpnmpjimnaaGreatDoor
open Go.Eng Go.Plain
set_option maxHeartbeats 32000000
set_option maxRecDepth 20000
attribute [local irreducible] WC RegS RegD SeqQ BlkQ ScoQ RegK CutK Sat SatN FnIs LoopQ aq OpIs
theorem qH {S:Nat→Prop} {n n1 n2 t k m:Nat} {ex:Bool} {l:List D} {te te2 s2 s3:Nat} {e2 e3:Bool} {α β:Type} {enc:α→D} {enc':β→D} {xs:List α} {ys:List β} (h:n+1=n1) (h2:n+2=n2) :
  cz [(0,some 0)] n [(0,.lo S)] [(0,.lo S),(64,.lits t 1 m ex (chF (.own 65 0 k 3 none) l)),(65,.ds te s2 e2 enc xs),(66,.ds te2 s3 e3 enc' ys)]=[(0,some (.lo S)),(n,some (.lits t 1 m ex (chF (.own n1 0 k 3 none) l))),(n1,some (.ds te s2 e2 enc xs)),(n2,some (.ds te2 s3 e3 enc' ys)),(0,none)]:=by
 subst h h2
 show[(0,some (Row.lo S)),(n+(64-64),some (Row.lits t 1 m ex ((chF (.own 65 0 k 3 none) l).ren (eb [(0,some 0)] n)))),(n+(65-64),some (.ds te s2 e2 enc xs)),(n+(66-64),some (.ds te2 s3 e3 enc' ys)),(0,none)]=_
 rw[gI]
 rfl
abbrev uz (c:SCfg) (m k:Nat):AV :=.acons (.d (bt c)) (.acons (.own 64 0 m 1 none) (.acons (.own 66 0 k 5 none) (.d .nil)))
abbrev wb (S:Nat→Prop) (p0:List POp) (rest:List (List POp)) (bs:List SAct):List (Nat×Row):=[(0,.lo S),(64,.lits 49 1 (rest.length+1) true (chF (.own 65 0 p0.length 3 none) (rest.map encP))),(65,.ds 52 3 true (dO S) p0),(66,.ds 48 5 true (eS S) bs)]
theorem wW (S:Nat→Prop) (c:SCfg) (p0:List POp) (rest:List (List POp)) (bs:List SAct) (k:Nat) (hk:k≤bs.length) (hr:rest.length≤100000) (hb:bs.length≤1000000) (hp:∀p∈p0::rest,p.length≤1000000∧∀o∈p,o.data.length≤1000000) (hbb:∀a∈bs,a.bytes.length≤1000000) :
  FnIs Tryz.prog 5 [.d (bB c (p0::rest) bs),.int .i64 k] [(0,.lo S)] (.tup (.acons (uz c (rest.length+1) (bs.take k).length) (.acons (.d (i6 0)) .anil))) (wb S p0 rest (bs.take k)):=by
 have hk':(k:Int)≤bs.length:=by omega
 have d1:decide ((k:Int)<0)=false:=dF (by omega)
 have d2:decide ((bs.length:Int)<(k:Int))=false:=dF (by omega)
 have hcp:=nA S c p0 rest bs (bs.take k) hr (by rw[List.length_take]; omega) hp (fun a ha=>hbb a (List.mem_of_mem_take ha))
 refine aw aa Tryz.func5 rfl rfl rfl ?_;refine sR ?_;iterate 2 refine rN ?_
 refine rC<|zW ?_;refine zU ?_;refine rP ?_;refine rC ?_;refine rP ?_;refine rC ?_;refine rP ?_;refine rQ iB ?_;refine rP ?_;refine rQ iE ?_;refine rP ?_;refine rC ?_;refine rQ iG<|nS ?_;refine wF<|zQ ?_;refine aH (by kernel_rfl) ?_;refine dQ [2] [64] iM ?_;refine dC [2] [] ?_;refine dQ [17] [64] iB ?_;refine dC [1] [] ?_;refine dQ [18,19] [] (dh (m:=(k:Int)) aa rfl rfl rfl rfl (by omega) hk') ?_;refine ek [16,20] [0] rfl (.plain (aO [(0,some 0)] hcp rfl rfl rfl (aj (aj ae)) ⟨zH,trivial⟩ rfl rfl (.inl rfl) rfl (qH (n1:=201) (n2:=202) rfl rfl))) rfl rfl ?_;refine ca [4,21] [72] (aF aa rfl rfl rfl ⟨_,⟨rfl,rfl,rfl⟩,rfl⟩ rfl) ?_;refine dC [] [] ?_;refine aC (by kernel_rfl)<|aU<|cg ?_
 exact⟨trivial,_,rfl,[(64,some 200),(65,some 201),(66,some 202)],lg zl ⟨zR,⟨rfl,cL rfl _,_,rfl,bZ rfl⟩,zR,zR,trivial⟩⟩
def mR:SCfg:=⟨0,0,0,0,0,0,List.replicate 32 0,0⟩
abbrev ug:D:=bB mR [] []
theorem dz:DLe r38.zero ug:=DLe.cons (DLe.refl _) (DLe.cons (DLe.nil_arr _ _) (DLe.cons (DLe.nil_arr _ _) (DLe.refl _)))
theorem uy (c:SCfg) (l:List (List POp)) (bs:List SAct) (n:Int) (hn:n<0∨(bs.length:Int)<n):FnIs Tryz.prog 5 [.d (bB c l bs),.int .i64 n] [] (.tup (.acons (.d ug) (.acons (.d (i6 1)) .anil))) []:=by
 refine aw aa Tryz.func5 rfl rfl rfl ?_
 by_cases h0:n<0
 ·have d1:decide (n<0)=true:=dT h0
  refine sR ?_;iterate 2 refine rN ?_
  refine rC<|zW ?_;refine zU ?_
  iterate 5 refine rS ?_
  refine rQ iT ?_;refine zO<|sR ?_;refine rQ iS ?_;refine rW ?_;refine rC<|zT<|ba ?_
  exact⟨trivial,_,rfl,[],lg ⟨⟨_,rfl,AVLe.tup1 (AVLe.d dz rfl) rfl⟩,rfl,trivial⟩ trivial⟩
 ·have d1:decide (n<0)=false:=dF h0
  have d2:decide ((bs.length:Int)<n)=true:=dT (by omega)
  refine sR ?_;iterate 2 refine rN ?_
  refine rC<|zW ?_;refine zU ?_;refine rO ?_;refine rC ?_;refine rO ?_;refine rC ?_;refine rO ?_;refine rQ iB ?_;refine rO ?_;refine rQ iE ?_;refine rO ?_;refine rC ?_;refine rQ iF<|nS ?_;refine wT<|sR ?_;refine rQ iS ?_;refine rW ?_;refine rC<|zT<|ba ?_
  exact⟨trivial,_,rfl,[],lg ⟨⟨_,rfl,AVLe.tup1 (AVLe.d dz rfl) rfl⟩,rfl,trivial⟩ trivial⟩
def woA (i:Nat) (bs:List SAct):List SAct:=bs.take i++bs.drop (i+1)
theorem sV (S:Nat→Prop) (c:SCfg) (p0:List POp) (rest:List (List POp)) (bs:List SAct) (i:Nat) (hi:i<bs.length) (hr:rest.length≤100000) (hb:bs.length≤1000000) (hp:∀p∈p0::rest,p.length≤1000000∧∀o∈p,o.data.length≤1000000) (hbb:∀a∈bs,a.bytes.length≤1000000) :
  FnIs Tryz.prog 6 [.d (bB c (p0::rest) bs),.int .i64 i] [(0,.lo S)] (.tup (.acons (uz c (rest.length+1) (woA i bs).length) (.acons (.d (i6 0)) .anil))) (wb S p0 rest (woA i bs)):=by
 have hi':(i:Int)≤bs.length:=by omega
 have hi2:i+1≤bs.length:=by omega
 have d1:decide ((i:Int)<0)=false:=dF (by omega)
 have d2:decide ((bs.length:Int)≤(i:Int))=false:=dF (by omega)
 have hw:IntKind.i64.wrap ((i:Int)+1)=((i+1:Nat):Int):=aI (by omega) (by omega)
 have hl1:(bs.take i).length≤1048576:=by rw[List.length_take]; omega
 have hlw:(woA i bs).length≤1000000:=by rw[woA,List.length_append,List.length_take,List.length_drop]; omega
 have hcp:=nA S c p0 rest bs (woA i bs) hr hlw hp (fun a ha=>by
  rcases List.mem_append.1 ha with h | h
  ·exact hbb a (List.mem_of_mem_take h)
  ·exact hbb a (List.mem_of_mem_drop h))
 refine aw aa Tryz.func6 rfl rfl rfl ?_
 by_cases hn:bs.drop (i+1)=[]
 ·have hd0:DLe (.arr 5 aX (bs.drop (i+1))) (.arr 5 aX []):=by rw[hn]; exact DLe.refl _
  have hle:DLe (.arx 5 aX (bs.take i)) (e6 (woA i bs)):=by rw[woA,hn,List.append_nil]; exact DLe.arx_arr
  refine sR ?_;iterate 2 refine rN ?_
  refine rC<|zW ?_;refine zU ?_;refine rP ?_;refine rC ?_;refine rP ?_;refine rC ?_;refine rP ?_;refine rQ iB ?_;refine rP ?_;refine rQ iE ?_;refine rP ?_;refine rC ?_;refine rQ iG<|nS ?_;refine wF<|zQ ?_;refine aH (by kernel_rfl) ?_;refine dQ [2] [64] iM ?_;refine dC [2] [] ?_;refine dQ [17] [64] iB ?_;refine dC [1] [] ?_;refine dQ [18,19] [] (dh (m:=(i:Int)) aa rfl rfl rfl rfl (by omega) hi') ?_;refine dQ [20] [] (ak (nj (bs.take i) hl1) rfl rfl (aj ae) (.inl rfl) (fun _=>rfl)) ?_;refine dC [2] [] ?_;refine dQ [22] [64] iB ?_;refine dC [1] [] ?_;refine dQ [24] [] (bk (m:=((i+1:Nat):Int)) aa rfl rfl hw) ?_;refine dQ [23,25] [] ((bV aa rfl rfl rfl rfl rfl hi2).val_le hd0 rfl) ?_;refine dQ [21,26] [] (oA aa rfl rfl rfl rfl) ?_;refine ek [16,27] [0] rfl (.plain (aO [(0,some 0)] hcp rfl rfl rfl (aj (bu rfl trivial hle ae)) ⟨zH,trivial⟩ rfl rfl (.inl rfl) rfl (qH (n1:=257) (n2:=258) rfl rfl))) rfl rfl ?_;refine ca [4,28] [72] (aF aa rfl rfl rfl ⟨_,⟨rfl,rfl,rfl⟩,rfl⟩ rfl) ?_;refine dC [] [] ?_;refine aC (by kernel_rfl)<|aU<|cg ?_
  exact⟨trivial,_,rfl,[(64,some 256),(65,some 257),(66,some 258)],lg zl ⟨zR,⟨rfl,cL rfl _,_,rfl,bZ rfl⟩,zR,zR,trivial⟩⟩
 ·have hpos:0<(bs.drop (i+1)).length:=List.length_pos_iff.2 hn
  have hl2:(bs.take i).length+(bs.drop (i+1)).length≤1048576:=by rw[List.length_take,List.length_drop]; omega
  have hfz:(bs.take i).length+(bs.drop (i+1)).length=(bs.take i++bs.drop (i+1)).length:=by rw[List.length_append]
  refine sR ?_;iterate 2 refine rN ?_
  refine rC<|zW ?_;refine zU ?_;refine rP ?_;refine rC ?_;refine rP ?_;refine rC ?_;refine rP ?_;refine rQ iB ?_;refine rP ?_;refine rQ iE ?_;refine rP ?_;refine rC ?_;refine rQ iG<|nS ?_;refine wF<|zQ ?_;refine aH (by kernel_rfl) ?_;refine dQ [2] [64] iM ?_;refine dC [2] [] ?_;refine dQ [17] [64] iB ?_;refine dC [1] [] ?_;refine dQ [18,19] [] (dh (m:=(i:Int)) aa rfl rfl rfl rfl (by omega) hi') ?_;refine dQ [20] [] (ak (nj (bs.take i) hl1) rfl rfl (aj ae) (.inl rfl) (fun _=>rfl)) ?_;refine dC [2] [] ?_;refine dQ [22] [64] iB ?_;refine dC [1] [] ?_;refine dQ [24] [] (bk (m:=((i+1:Nat):Int)) aa rfl rfl hw) ?_;refine dQ [23,25] [] (bV aa rfl rfl rfl rfl rfl hi2) ?_;refine dQ [21,26] [] (aq.frozen (mC (xs:=bs.take i) (ys:=bs.drop (i+1)) (s:=5) (enc:=aX) aa rfl rfl rfl rfl rfl rfl hpos hl2 rfl) (Frz.own hfz)) ?_;refine ek [16,27] [0] rfl (.plain (aO [(0,some 0)] hcp rfl rfl rfl (aj (aj ae)) ⟨zH,trivial⟩ rfl rfl (.inl rfl) rfl (qH (n1:=257) (n2:=258) rfl rfl))) rfl rfl ?_;refine ca [4,28] [72] (aF aa rfl rfl rfl ⟨_,⟨rfl,rfl,rfl⟩,rfl⟩ rfl) ?_;refine dC [] [] ?_;refine aC (by kernel_rfl)<|aU<|cg ?_
  exact⟨trivial,_,rfl,[(64,some 256),(65,some 257),(66,some 258)],lg zl ⟨zR,⟨rfl,cL rfl _,_,rfl,bZ rfl⟩,zR,zR,trivial⟩⟩
end Go.Proofs.YtpmhnpnmpjimnaaGreatDoor
namespace Go.Eng
open Go.RowKit
theorem FrzR.row_le {r:Nat} {row row' x x':Row} (h:aE row row') (hf:FrzR r row' x x'):FrzR r row x x':=⟨hf.1,fun σ w X X' q hx hn hr hq=>hf.2 σ w X X' q hx hn (h σ w X r hr) hq⟩
def D.cl:D→Prop
 | .sc _=>True
 | .nil=>True
 | .cons a r=>a.cl∧r.cl
 | .vec _ _ enc _=>∀x,(enc x).cl
 | _=>False
theorem Enc.cl {w w':World}:∀(d:D) (X X':Nat→Prop) (cs:List Value),d.cl→Enc w X d cs→Enc w' X' d cs:=by
 intro d
 induction d with
 | sc v=>intro X X' cs _ h; exact h
 | nil=>intro X X' cs _ h; exact h
 | cons a r iha ihr =>
  rintro X X' cs ⟨p1,p2⟩ ⟨c1,c2,rfl,h1,h2⟩
  exact⟨c1,c2,rfl,iha X X' _ p1 h1,ihr X X' _ p2 h2⟩
 | vec n s enc xs ih =>
  rintro X X' cs p ⟨hn,f,hf,rfl⟩
  exact⟨hn,f,fun i hi=>⟨ih _ X X' _ (p _) (hf i hi).1,(hf i hi).2⟩,rfl⟩
 | _=>intro X X' cs p; exact p.elim
theorem DLe.cl_re {f:Bool} {T:Nat→Prop} {d:D} (h:d.cl):DLe d (.re f T d):=fun w X cs g=>Enc.cl d X _ cs h g
theorem D.cl.safe {S:Nat→Prop} {u:Value}:∀(d:D),d.cl→d.safe S u:=by
 intro d
 induction d with
 | sc v=>intro _; trivial
 | nil=>intro _; trivial
 | cons a r iha ihr=>exact fun p=>⟨iha p.1,ihr p.2⟩
 | vec n s enc xs ih=>exact fun p x=>ih x (p x)
 | _=>intro p; exact p.elim
theorem DLe.re_cons {f:Bool} {T:Nat→Prop} {a b x y:D} (h1:DLe (.re f T a) x) (h2:DLe (.re f T b) y):DLe (.re f T (.cons a b)) (.cons x y):=by
 rintro w X cs ⟨c1,c2,rfl,h3,h4⟩
 exact⟨c1,c2,rfl,h1 w X _ h3,h2 w X _ h4⟩
theorem DLe.cons_re {f:Bool} {T:Nat→Prop} {a b x y:D} (h1:DLe x (.re f T a)) (h2:DLe y (.re f T b)):DLe (.cons x y) (.re f T (.cons a b)):=by
 rintro w X cs ⟨c1,c2,rfl,h3,h4⟩
 exact⟨c1,c2,rfl,h1 w X _ h3,h2 w X _ h4⟩
theorem DLe.trans {x y z:D} (h1:DLe x y) (h2:DLe y z):DLe x z:=fun w X cs h=>h2 w X cs (h1 w X cs h)
theorem DLe.re_re {S S1 T:Nat→Prop} {x:D} (hT:∀b,T b→S b∨¬S1 b):DLe (.re false (NotS S1) (.re true S x)) (.re true T x):=fun w X cs h =>
 Enc.mono (X:=fun b=>(X b∨NotS S1 b∨(false=true∧Icy w b))∨S b∨(true=true∧Icy w b)) (X':=fun b=>X b∨T b∨(true=true∧Icy w b)) (fun _ _ h1 h2=>⟨.rfl' h1,fun h3=>h2 (by
  rcases h3 with h3 | h3 | h3
  ·exact .inl (.inl h3)
  ·rcases hT _ h3 with h4 | h4
   ·exact .inr (.inl h4)
   ·exact .inl (.inr (.inl h4))
  ·exact .inr (.inr h3))⟩) x cs h
end Go.Eng
namespace Go.Proofs.YtpmhnpnmpjimnaaGreatDoor
open Go.Eng Go.Plain
set_option maxHeartbeats 32000000
set_option maxRecDepth 20000
attribute [local irreducible] WC RegS RegD SeqQ BlkQ ScoQ RegK CutK Sat SatN FnIs LoopQ aq OpIs
end Go.Proofs.YtpmhnpnmpjimnaaGreatDoor
namespace Go.Eng
section
variable {P : Program} {T : Tab} {env : Env} {h : Upds} {n : Nat}
end
end Go.Eng
namespace Go.Plain
open Go.Eng Go.Lib
end Go.Plain
namespace Go.Proofs.YtpmhnpnmpjimnaaGreatDoor
open Go.Eng Go.Plain
set_option maxHeartbeats 32000000
set_option maxRecDepth 20000
attribute [local irreducible] WC RegS RegD SeqQ BlkQ ScoQ RegK CutK Sat SatN FnIs LoopQ aq OpIs
def Bp:List UInt8→List Int
 | []=>[]
 | [a]=>[((16*nibV a:Nat):Int)]
 | a::b::l=>((16*nibV a+nibV b:Nat):Int)::Bp l
abbrev byR34 (o:Option (List UInt8)):AV :=.tup (.acons (.d (encB (o.getD []))) (.acons (.bool o.isSome) .anil))
def cQ (ws:List (List UInt8)):Option SAct:=match ws with
 | [v]=>if v=fh then some ⟨5,0,0,[],0⟩ else none
 | [v,a]=>if v=eU then (numS 31 a).map fun (n:Nat)=>⟨1,n,0,[],0⟩
  else if v=dG then (numS 31 a).map fun (n:Nat)=>⟨3,0,n,[],0⟩ else none
 | [v,a,b]=>if v=dW then (match numS 31 a,bQ b with
  | some n,some d=>some ⟨2,0,n,d,0⟩
  | _,_=>none)
  else if v=cr then (match numS 31 a,numS 31 b with
  | some n,some k=>some ⟨4,0,n,[],k⟩
  | _,_=>none) else none
 | _=>none
abbrev hdW:List (List UInt8):=[bw,bI,cB,bD,bj]
abbrev hdM:List Int:=[5,3,2,2,1]
abbrev hdB:List Int:=[31,64,8]
def nums (B:Nat) (ws:List (List UInt8)):List Int:=ws.map fun w=>(((numS B w).getD 0:Nat):Int)
def updH (i:Nat) (c:SCfg) (l:List Int):SCfg :=
 if i=0 then { c with blocks:=l.getD 0 0,shards:=l.getD 1 0,frames:=l.getD 2 0,clients:=l.getD 3 0 }
 else if i=1 then { c with limit:=l.getD 0 0,reserve:=l.getD 1 0 } else { c with flaw:=l.getD 0 0 }
end Go.Proofs.YtpmhnpnmpjimnaaGreatDoor
namespace Go.Proofs.YtpmhnpnmpjimnaaGreatDoor
open Go.Eng Go.Plain
set_option maxHeartbeats 32000000
set_option maxRecDepth 20000
end Go.Proofs.YtpmhnpnmpjimnaaGreatDoor
namespace Go.Proofs.YtpmhnpnmpjimnaaGreatDoor
open Go.Eng Go.Plain
set_option maxHeartbeats 32000000
set_option maxRecDepth 20000
attribute [local irreducible] WC RegS RegD SeqQ BlkQ ScoQ RegK CutK Sat SatN FnIs LoopQ aq OpIs
abbrev parSB (x:SScr) (n:Nat) (e:Int):AV :=.tup (.acons (.d (bB x.1 x.2.1 x.2.2)) (.acons (.int .i64 n) (.acons (.d (i6 e)) .anil)))
abbrev rowZ:Row :=.box 38 (.d r38.zero)
theorem mc {α:Type} {a b:List α} (hl:a.length=b.length) (h:∀j,j<a.length→a[j]?=b[j]?):a=b:=by
 refine List.ext_getElem? fun j=>?_
 by_cases hj:j<a.length
 ·exact h j hj
 ·rw[List.getElem?_eq_none (by omega),List.getElem?_eq_none (by omega)]
theorem wA (a b:List SAct) (ha:a.length≤1000000000) (hb:b.length≤1000000000):FnIs Tryz.prog 15 [.d (e6 a),.d (e6 b)] [] (.int .i64 (if a=b then 1 else 0)) []:=by
 refine aw aa Tryz.func15 rfl rfl rfl ?_;refine sR<|rC<|zW ?_;refine rC ?_;refine rQ iE ?_;refine rC ?_;refine rQ iE ?_;refine rC<|nS ?_
 by_cases hl:a.length=b.length
 ·have d1:(!decide ((a.length:Int)=(b.length:Int)))=false:=by rw[dT (by omega)]; rfl
  refine wF<|kS<|qR ?_;refine rC<|zP ?_
  refine wc_inv (fun i:Nat=>⟨[(5,.int .i64 i),(0,.d (e6 a)),(1,.d (e6 b))],[],64,Tryz.f15.ntmps,64⟩) (fun i=>i≤a.length∧∀j,j<i→a[j]?=b[j]?) (fun i=>a.length-i) 0 [] ⟨Nat.zero_le _,fun j hj=>absurd hj (Nat.not_lt_zero _)⟩
   (lg zj trivial) ?_
  rintro i ⟨hi,hall⟩
  refine bv ?_
  by_cases hlt:i<a.length
  ·have d0:decide ((i:Int)<(a.length:Int))=true:=dT (by omega)
   obtain⟨x,hx⟩:∃x,a[i]?=some x:=⟨_,List.getElem?_eq_getElem hlt⟩
   obtain⟨y,hy⟩:∃y,b[i]?=some y:=⟨_,List.getElem?_eq_getElem (by omega)⟩
   have hx2:a[((i:Int)).toNat]?=some x:=by rw[Int.toNat_natCast]; exact hx
   have hy2:b[((i:Int)).toNat]?=some y:=by rw[Int.toNat_natCast]; exact hy
   by_cases hq:x=y
   ·subst hq
    have e1:(!decide (x.kind=x.kind))=false:=by simp
    have e2:(!decide (x.thread=x.thread))=false:=by simp
    have e3:(!decide (x.sector=x.sector))=false:=by simp
    have e4:(!decide (x.back=x.back))=false:=by simp
    have e5:(!decide (fg (byI x.bytes)=fg (byI x.bytes)))=false:=by simp
    refine qR<|zD ?_;refine rQ iE ?_;refine rC ?_;refine zI<|zQ<|aZ<|b9 ?_;refine aH (by kernel_rfl) ?_;refine dC [0] [] ?_;refine dC [5] [] ?_;refine dQ [17,18] [] (aA aa rfl rfl rfl rfl rfl (by omega) hx2) ?_;refine dC [19] [] ?_;refine dQ [20] [] iL ?_;refine dC [1] [] ?_;refine dC [5] [] ?_;refine dQ [22,23] [] (aA aa rfl rfl rfl rfl rfl (by omega) hy2) ?_;refine dC [24] [] ?_;refine dQ [25] [] iL ?_;refine dC [21,26] [] ?_;refine dC [27] [] ?_;refine ab [28,0] [] rfl rfl (by assumption) rfl (ay aa (fun K hk=>hk)) ?_;refine ab [28,5] [] rfl rfl (by assumption) rfl (ay aa (fun K hk=>hk)) ?_;refine ab [28,29,30] [] rfl rfl (by assumption) rfl (aA aa rfl rfl rfl rfl rfl (by omega) hx2) ?_;refine ab [28,31] [] rfl rfl (by assumption) rfl (ay aa (fun K hk=>hk)) ?_;refine ab [28,32] [] rfl rfl (by assumption) rfl (bA aa rfl rfl) ?_;refine ab [28,1] [] rfl rfl (by assumption) rfl (ay aa (fun K hk=>hk)) ?_;refine ab [28,5] [] rfl rfl (by assumption) rfl (ay aa (fun K hk=>hk)) ?_;refine ab [28,34,35] [] rfl rfl (by assumption) rfl (aA aa rfl rfl rfl rfl rfl (by omega) hy2) ?_;refine ab [28,36] [] rfl rfl (by assumption) rfl (ay aa (fun K hk=>hk)) ?_;refine ab [28,37] [] rfl rfl (by assumption) rfl (bA aa rfl rfl) ?_;refine ab [28,33,38] [] rfl rfl (by assumption) rfl (ay aa (fun K hk=>hk)) ?_;refine dQ [28,39] [] iF ?_;refine dC [40] [] ?_;refine ab [41,0] [] rfl rfl (by assumption) rfl (ay aa (fun K hk=>hk)) ?_;refine ab [41,5] [] rfl rfl (by assumption) rfl (ay aa (fun K hk=>hk)) ?_;refine ab [41,42,43] [] rfl rfl (by assumption) rfl (aA aa rfl rfl rfl rfl rfl (by omega) hx2) ?_;refine ab [41,44] [] rfl rfl (by assumption) rfl (ay aa (fun K hk=>hk)) ?_;refine ab [41,45] [] rfl rfl (by assumption) rfl (bA aa rfl rfl) ?_;refine ab [41,1] [] rfl rfl (by assumption) rfl (ay aa (fun K hk=>hk)) ?_;refine ab [41,5] [] rfl rfl (by assumption) rfl (ay aa (fun K hk=>hk)) ?_;refine ab [41,47,48] [] rfl rfl (by assumption) rfl (aA aa rfl rfl rfl rfl rfl (by omega) hy2) ?_;refine ab [41,49] [] rfl rfl (by assumption) rfl (ay aa (fun K hk=>hk)) ?_;refine ab [41,50] [] rfl rfl (by assumption) rfl (bA aa rfl rfl) ?_;refine ab [41,46,51] [] rfl rfl (by assumption) rfl (ay aa (fun K hk=>hk)) ?_;refine dQ [41,52] [] iF ?_;refine dC [53] [] ?_;refine ab [54,0] [] rfl rfl (by assumption) rfl (ay aa (fun K hk=>hk)) ?_;refine ab [54,5] [] rfl rfl (by assumption) rfl (ay aa (fun K hk=>hk)) ?_;refine ab [54,55,56] [] rfl rfl (by assumption) rfl (aA aa rfl rfl rfl rfl rfl (by omega) hx2) ?_;refine ab [54,57] [] rfl rfl (by assumption) rfl (ay aa (fun K hk=>hk)) ?_;refine ab [54,58] [] rfl rfl (by assumption) rfl (bA aa rfl rfl) ?_;refine ab [54,1] [] rfl rfl (by assumption) rfl (ay aa (fun K hk=>hk)) ?_;refine ab [54,5] [] rfl rfl (by assumption) rfl (ay aa (fun K hk=>hk)) ?_;refine ab [54,60,61] [] rfl rfl (by assumption) rfl (aA aa rfl rfl rfl rfl rfl (by omega) hy2) ?_;refine ab [54,62] [] rfl rfl (by assumption) rfl (ay aa (fun K hk=>hk)) ?_;refine ab [54,63] [] rfl rfl (by assumption) rfl (bA aa rfl rfl) ?_;refine ab [54,59,64] [] rfl rfl (by assumption) rfl (ay aa (fun K hk=>hk)) ?_;refine dQ [54,65] [] iF ?_;refine dC [66] [] ?_;refine ab [67,0] [] rfl rfl (by assumption) rfl (ay aa (fun K hk=>hk)) ?_;refine ab [67,5] [] rfl rfl (by assumption) rfl (ay aa (fun K hk=>hk)) ?_;refine ab [67,68,69] [] rfl rfl (by assumption) rfl (aA aa rfl rfl rfl rfl rfl (by omega) hx2) ?_;refine ab [67,70] [] rfl rfl (by assumption) rfl (ay aa (fun K hk=>hk)) ?_;refine ab [67,71] [] rfl rfl (by assumption) rfl (bA aa rfl rfl) ?_;refine ab [67,72] [] rfl rfl (by assumption) rfl (cV aa rfl rfl rfl rfl) ?_;refine ab [67,1] [] rfl rfl (by assumption) rfl (ay aa (fun K hk=>hk)) ?_;refine ab [67,5] [] rfl rfl (by assumption) rfl (ay aa (fun K hk=>hk)) ?_;refine ab [67,74,75] [] rfl rfl (by assumption) rfl (aA aa rfl rfl rfl rfl rfl (by omega) hy2) ?_;refine ab [67,76] [] rfl rfl (by assumption) rfl (ay aa (fun K hk=>hk)) ?_;refine ab [67,77] [] rfl rfl (by assumption) rfl (bA aa rfl rfl) ?_;refine ab [67,78] [] rfl rfl (by assumption) rfl (cV aa rfl rfl rfl rfl) ?_;refine ab [67,73,79] [] rfl rfl (by assumption) rfl (iy aa rfl rfl rfl) ?_;refine dQ [67,80] [] iF ?_;refine aC (by kernel_rfl)<|aU ?_;refine wF<|bG<|zC<|ao ?_;refine rC ?_;refine rQ iD ?_;refine rC<|aB ?_
    exact aY (i+1) [] ⟨hlt,fun j hj=>by
     by_cases e:j=i
     ·subst e; rw[hx,hy]
     ·exact hall j (by omega)⟩ (by omega) (lg zj trivial)
   ·rw[if_neg (show ¬a=b from fun e=>by subst e; rw[hx]at hy; cases hy; exact hq rfl)]
    by_cases k1:x.kind=y.kind
    ·have e1:(!decide (x.kind=y.kind))=false:=by simp[k1]
     by_cases k2:x.thread=y.thread
     ·have e2:(!decide (x.thread=y.thread))=false:=by simp[k2]
      by_cases k3:x.sector=y.sector
      ·have e3:(!decide (x.sector=y.sector))=false:=by simp[k3]
       by_cases k4:x.back=y.back
       ·have e4:(!decide (x.back=y.back))=false:=by simp[k4]
        have k5:¬x.bytes=y.bytes:=fun k5=>hq (by cases x; cases y; simp_all)
        have e5:(!decide (fg (byI x.bytes)=fg (byI y.bytes)))=true:=by rw[eF,eF,gB]; simp[k5]
        refine qR<|zD ?_;refine rQ iE ?_;refine rC ?_;refine zI<|zQ<|aZ<|b9 ?_;refine aH (by kernel_rfl) ?_;refine dC [0] [] ?_;refine dC [5] [] ?_;refine dQ [17,18] [] (aA aa rfl rfl rfl rfl rfl (by omega) hx2) ?_;refine dC [19] [] ?_;refine dQ [20] [] iL ?_;refine dC [1] [] ?_;refine dC [5] [] ?_;refine dQ [22,23] [] (aA aa rfl rfl rfl rfl rfl (by omega) hy2) ?_;refine dC [24] [] ?_;refine dQ [25] [] iL ?_;refine dC [21,26] [] ?_;refine dC [27] [] ?_;refine ab [28,0] [] rfl rfl (by assumption) rfl (ay aa (fun K hk=>hk)) ?_;refine ab [28,5] [] rfl rfl (by assumption) rfl (ay aa (fun K hk=>hk)) ?_;refine ab [28,29,30] [] rfl rfl (by assumption) rfl (aA aa rfl rfl rfl rfl rfl (by omega) hx2) ?_;refine ab [28,31] [] rfl rfl (by assumption) rfl (ay aa (fun K hk=>hk)) ?_;refine ab [28,32] [] rfl rfl (by assumption) rfl (bA aa rfl rfl) ?_;refine ab [28,1] [] rfl rfl (by assumption) rfl (ay aa (fun K hk=>hk)) ?_;refine ab [28,5] [] rfl rfl (by assumption) rfl (ay aa (fun K hk=>hk)) ?_;refine ab [28,34,35] [] rfl rfl (by assumption) rfl (aA aa rfl rfl rfl rfl rfl (by omega) hy2) ?_;refine ab [28,36] [] rfl rfl (by assumption) rfl (ay aa (fun K hk=>hk)) ?_;refine ab [28,37] [] rfl rfl (by assumption) rfl (bA aa rfl rfl) ?_;refine ab [28,33,38] [] rfl rfl (by assumption) rfl (ay aa (fun K hk=>hk)) ?_;refine dQ [28,39] [] iF ?_;refine dC [40] [] ?_;refine ab [41,0] [] rfl rfl (by assumption) rfl (ay aa (fun K hk=>hk)) ?_;refine ab [41,5] [] rfl rfl (by assumption) rfl (ay aa (fun K hk=>hk)) ?_;refine ab [41,42,43] [] rfl rfl (by assumption) rfl (aA aa rfl rfl rfl rfl rfl (by omega) hx2) ?_;refine ab [41,44] [] rfl rfl (by assumption) rfl (ay aa (fun K hk=>hk)) ?_;refine ab [41,45] [] rfl rfl (by assumption) rfl (bA aa rfl rfl) ?_;refine ab [41,1] [] rfl rfl (by assumption) rfl (ay aa (fun K hk=>hk)) ?_;refine ab [41,5] [] rfl rfl (by assumption) rfl (ay aa (fun K hk=>hk)) ?_;refine ab [41,47,48] [] rfl rfl (by assumption) rfl (aA aa rfl rfl rfl rfl rfl (by omega) hy2) ?_;refine ab [41,49] [] rfl rfl (by assumption) rfl (ay aa (fun K hk=>hk)) ?_;refine ab [41,50] [] rfl rfl (by assumption) rfl (bA aa rfl rfl) ?_;refine ab [41,46,51] [] rfl rfl (by assumption) rfl (ay aa (fun K hk=>hk)) ?_;refine dQ [41,52] [] iF ?_;refine dC [53] [] ?_;refine ab [54,0] [] rfl rfl (by assumption) rfl (ay aa (fun K hk=>hk)) ?_;refine ab [54,5] [] rfl rfl (by assumption) rfl (ay aa (fun K hk=>hk)) ?_;refine ab [54,55,56] [] rfl rfl (by assumption) rfl (aA aa rfl rfl rfl rfl rfl (by omega) hx2) ?_;refine ab [54,57] [] rfl rfl (by assumption) rfl (ay aa (fun K hk=>hk)) ?_;refine ab [54,58] [] rfl rfl (by assumption) rfl (bA aa rfl rfl) ?_;refine ab [54,1] [] rfl rfl (by assumption) rfl (ay aa (fun K hk=>hk)) ?_;refine ab [54,5] [] rfl rfl (by assumption) rfl (ay aa (fun K hk=>hk)) ?_;refine ab [54,60,61] [] rfl rfl (by assumption) rfl (aA aa rfl rfl rfl rfl rfl (by omega) hy2) ?_;refine ab [54,62] [] rfl rfl (by assumption) rfl (ay aa (fun K hk=>hk)) ?_;refine ab [54,63] [] rfl rfl (by assumption) rfl (bA aa rfl rfl) ?_;refine ab [54,59,64] [] rfl rfl (by assumption) rfl (ay aa (fun K hk=>hk)) ?_;refine dQ [54,65] [] iF ?_;refine dC [66] [] ?_;refine ab [67,0] [] rfl rfl (by assumption) rfl (ay aa (fun K hk=>hk)) ?_;refine ab [67,5] [] rfl rfl (by assumption) rfl (ay aa (fun K hk=>hk)) ?_;refine ab [67,68,69] [] rfl rfl (by assumption) rfl (aA aa rfl rfl rfl rfl rfl (by omega) hx2) ?_;refine ab [67,70] [] rfl rfl (by assumption) rfl (ay aa (fun K hk=>hk)) ?_;refine ab [67,71] [] rfl rfl (by assumption) rfl (bA aa rfl rfl) ?_;refine ab [67,72] [] rfl rfl (by assumption) rfl (cV aa rfl rfl rfl rfl) ?_;refine ab [67,1] [] rfl rfl (by assumption) rfl (ay aa (fun K hk=>hk)) ?_;refine ab [67,5] [] rfl rfl (by assumption) rfl (ay aa (fun K hk=>hk)) ?_;refine ab [67,74,75] [] rfl rfl (by assumption) rfl (aA aa rfl rfl rfl rfl rfl (by omega) hy2) ?_;refine ab [67,76] [] rfl rfl (by assumption) rfl (ay aa (fun K hk=>hk)) ?_;refine ab [67,77] [] rfl rfl (by assumption) rfl (bA aa rfl rfl) ?_;refine ab [67,78] [] rfl rfl (by assumption) rfl (cV aa rfl rfl rfl rfl) ?_;refine ab [67,73,79] [] rfl rfl (by assumption) rfl (iy aa rfl rfl rfl) ?_;refine dQ [67,80] [] iF ?_;refine aC (by kernel_rfl)<|aU ?_;refine wT<|sR ?_;refine rC<|zT<|fD<|ba<|bT<|zB ?_
        exact⟨trivial,[],lf⟩
       ·have e4:(!decide (x.back=y.back))=true:=by simp[k4]
        refine qR<|zD ?_;refine rQ iE ?_;refine rC ?_;refine zI<|zQ<|aZ<|b9 ?_;refine aH (by kernel_rfl) ?_;refine dC [0] [] ?_;refine dC [5] [] ?_;refine dQ [17,18] [] (aA aa rfl rfl rfl rfl rfl (by omega) hx2) ?_;refine dC [19] [] ?_;refine dQ [20] [] iL ?_;refine dC [1] [] ?_;refine dC [5] [] ?_;refine dQ [22,23] [] (aA aa rfl rfl rfl rfl rfl (by omega) hy2) ?_;refine dC [24] [] ?_;refine dQ [25] [] iL ?_;refine dC [21,26] [] ?_;refine dC [27] [] ?_;refine ab [28,0] [] rfl rfl (by assumption) rfl (ay aa (fun K hk=>hk)) ?_;refine ab [28,5] [] rfl rfl (by assumption) rfl (ay aa (fun K hk=>hk)) ?_;refine ab [28,29,30] [] rfl rfl (by assumption) rfl (aA aa rfl rfl rfl rfl rfl (by omega) hx2) ?_;refine ab [28,31] [] rfl rfl (by assumption) rfl (ay aa (fun K hk=>hk)) ?_;refine ab [28,32] [] rfl rfl (by assumption) rfl (bA aa rfl rfl) ?_;refine ab [28,1] [] rfl rfl (by assumption) rfl (ay aa (fun K hk=>hk)) ?_;refine ab [28,5] [] rfl rfl (by assumption) rfl (ay aa (fun K hk=>hk)) ?_;refine ab [28,34,35] [] rfl rfl (by assumption) rfl (aA aa rfl rfl rfl rfl rfl (by omega) hy2) ?_;refine ab [28,36] [] rfl rfl (by assumption) rfl (ay aa (fun K hk=>hk)) ?_;refine ab [28,37] [] rfl rfl (by assumption) rfl (bA aa rfl rfl) ?_;refine ab [28,33,38] [] rfl rfl (by assumption) rfl (ay aa (fun K hk=>hk)) ?_;refine dQ [28,39] [] iF ?_;refine dC [40] [] ?_;refine ab [41,0] [] rfl rfl (by assumption) rfl (ay aa (fun K hk=>hk)) ?_;refine ab [41,5] [] rfl rfl (by assumption) rfl (ay aa (fun K hk=>hk)) ?_;refine ab [41,42,43] [] rfl rfl (by assumption) rfl (aA aa rfl rfl rfl rfl rfl (by omega) hx2) ?_;refine ab [41,44] [] rfl rfl (by assumption) rfl (ay aa (fun K hk=>hk)) ?_;refine ab [41,45] [] rfl rfl (by assumption) rfl (bA aa rfl rfl) ?_;refine ab [41,1] [] rfl rfl (by assumption) rfl (ay aa (fun K hk=>hk)) ?_;refine ab [41,5] [] rfl rfl (by assumption) rfl (ay aa (fun K hk=>hk)) ?_;refine ab [41,47,48] [] rfl rfl (by assumption) rfl (aA aa rfl rfl rfl rfl rfl (by omega) hy2) ?_;refine ab [41,49] [] rfl rfl (by assumption) rfl (ay aa (fun K hk=>hk)) ?_;refine ab [41,50] [] rfl rfl (by assumption) rfl (bA aa rfl rfl) ?_;refine ab [41,46,51] [] rfl rfl (by assumption) rfl (ay aa (fun K hk=>hk)) ?_;refine dQ [41,52] [] iF ?_;refine dC [53] [] ?_;refine ab [54,0] [] rfl rfl (by assumption) rfl (ay aa (fun K hk=>hk)) ?_;refine ab [54,5] [] rfl rfl (by assumption) rfl (ay aa (fun K hk=>hk)) ?_;refine ab [54,55,56] [] rfl rfl (by assumption) rfl (aA aa rfl rfl rfl rfl rfl (by omega) hx2) ?_;refine ab [54,57] [] rfl rfl (by assumption) rfl (ay aa (fun K hk=>hk)) ?_;refine ab [54,58] [] rfl rfl (by assumption) rfl (bA aa rfl rfl) ?_;refine ab [54,1] [] rfl rfl (by assumption) rfl (ay aa (fun K hk=>hk)) ?_;refine ab [54,5] [] rfl rfl (by assumption) rfl (ay aa (fun K hk=>hk)) ?_;refine ab [54,60,61] [] rfl rfl (by assumption) rfl (aA aa rfl rfl rfl rfl rfl (by omega) hy2) ?_;refine ab [54,62] [] rfl rfl (by assumption) rfl (ay aa (fun K hk=>hk)) ?_;refine ab [54,63] [] rfl rfl (by assumption) rfl (bA aa rfl rfl) ?_;refine ab [54,59,64] [] rfl rfl (by assumption) rfl (ay aa (fun K hk=>hk)) ?_;refine dQ [54,65] [] iF ?_;refine dC [66] [] ?_;refine ai [67,0] rfl rfl (by assumption) rfl ?_;refine ai [67,5] rfl rfl (by assumption) rfl ?_;refine ai [67,68,69] rfl rfl (by assumption) rfl ?_;refine ai [67,70] rfl rfl (by assumption) rfl ?_;refine ai [67,71] rfl rfl (by assumption) rfl ?_;refine ai [67,72] rfl rfl (by assumption) rfl ?_;refine ai [67,1] rfl rfl (by assumption) rfl ?_;refine ai [67,5] rfl rfl (by assumption) rfl ?_;refine ai [67,74,75] rfl rfl (by assumption) rfl ?_;refine ai [67,76] rfl rfl (by assumption) rfl ?_;refine ai [67,77] rfl rfl (by assumption) rfl ?_;refine ai [67,78] rfl rfl (by assumption) rfl ?_;refine ai [67,73,79] rfl rfl (by assumption) rfl ?_;refine dQ [67,80] [] iT ?_;refine aC (by kernel_rfl)<|aU ?_;refine wV<|sR ?_;refine rC<|zT<|fD<|ba<|bT<|zB ?_
        exact⟨trivial,[],lf⟩
      ·have e3:(!decide (x.sector=y.sector))=true:=by simp[k3]
       refine qR<|zD ?_;refine rQ iE ?_;refine rC ?_;refine zI<|zQ<|aZ<|b9 ?_;refine aH (by kernel_rfl) ?_;refine dC [0] [] ?_;refine dC [5] [] ?_;refine dQ [17,18] [] (aA aa rfl rfl rfl rfl rfl (by omega) hx2) ?_;refine dC [19] [] ?_;refine dQ [20] [] iL ?_;refine dC [1] [] ?_;refine dC [5] [] ?_;refine dQ [22,23] [] (aA aa rfl rfl rfl rfl rfl (by omega) hy2) ?_;refine dC [24] [] ?_;refine dQ [25] [] iL ?_;refine dC [21,26] [] ?_;refine dC [27] [] ?_;refine ab [28,0] [] rfl rfl (by assumption) rfl (ay aa (fun K hk=>hk)) ?_;refine ab [28,5] [] rfl rfl (by assumption) rfl (ay aa (fun K hk=>hk)) ?_;refine ab [28,29,30] [] rfl rfl (by assumption) rfl (aA aa rfl rfl rfl rfl rfl (by omega) hx2) ?_;refine ab [28,31] [] rfl rfl (by assumption) rfl (ay aa (fun K hk=>hk)) ?_;refine ab [28,32] [] rfl rfl (by assumption) rfl (bA aa rfl rfl) ?_;refine ab [28,1] [] rfl rfl (by assumption) rfl (ay aa (fun K hk=>hk)) ?_;refine ab [28,5] [] rfl rfl (by assumption) rfl (ay aa (fun K hk=>hk)) ?_;refine ab [28,34,35] [] rfl rfl (by assumption) rfl (aA aa rfl rfl rfl rfl rfl (by omega) hy2) ?_;refine ab [28,36] [] rfl rfl (by assumption) rfl (ay aa (fun K hk=>hk)) ?_;refine ab [28,37] [] rfl rfl (by assumption) rfl (bA aa rfl rfl) ?_;refine ab [28,33,38] [] rfl rfl (by assumption) rfl (ay aa (fun K hk=>hk)) ?_;refine dQ [28,39] [] iF ?_;refine dC [40] [] ?_;refine ab [41,0] [] rfl rfl (by assumption) rfl (ay aa (fun K hk=>hk)) ?_;refine ab [41,5] [] rfl rfl (by assumption) rfl (ay aa (fun K hk=>hk)) ?_;refine ab [41,42,43] [] rfl rfl (by assumption) rfl (aA aa rfl rfl rfl rfl rfl (by omega) hx2) ?_;refine ab [41,44] [] rfl rfl (by assumption) rfl (ay aa (fun K hk=>hk)) ?_;refine ab [41,45] [] rfl rfl (by assumption) rfl (bA aa rfl rfl) ?_;refine ab [41,1] [] rfl rfl (by assumption) rfl (ay aa (fun K hk=>hk)) ?_;refine ab [41,5] [] rfl rfl (by assumption) rfl (ay aa (fun K hk=>hk)) ?_;refine ab [41,47,48] [] rfl rfl (by assumption) rfl (aA aa rfl rfl rfl rfl rfl (by omega) hy2) ?_;refine ab [41,49] [] rfl rfl (by assumption) rfl (ay aa (fun K hk=>hk)) ?_;refine ab [41,50] [] rfl rfl (by assumption) rfl (bA aa rfl rfl) ?_;refine ab [41,46,51] [] rfl rfl (by assumption) rfl (ay aa (fun K hk=>hk)) ?_;refine dQ [41,52] [] iF ?_;refine dC [53] [] ?_;refine ai [54,0] rfl rfl (by assumption) rfl ?_;refine ai [54,5] rfl rfl (by assumption) rfl ?_;refine ai [54,55,56] rfl rfl (by assumption) rfl ?_;refine ai [54,57] rfl rfl (by assumption) rfl ?_;refine ai [54,58] rfl rfl (by assumption) rfl ?_;refine ai [54,1] rfl rfl (by assumption) rfl ?_;refine ai [54,5] rfl rfl (by assumption) rfl ?_;refine ai [54,60,61] rfl rfl (by assumption) rfl ?_;refine ai [54,62] rfl rfl (by assumption) rfl ?_;refine ai [54,63] rfl rfl (by assumption) rfl ?_;refine ai [54,59,64] rfl rfl (by assumption) rfl ?_;refine dQ [54,65] [] iT ?_;refine dC [66] [] ?_;refine ai [67,0] rfl rfl rfl rfl ?_;refine ai [67,5] rfl rfl rfl rfl ?_;refine ai [67,68,69] rfl rfl rfl rfl ?_;refine ai [67,70] rfl rfl rfl rfl ?_;refine ai [67,71] rfl rfl rfl rfl ?_;refine ai [67,72] rfl rfl rfl rfl ?_;refine ai [67,1] rfl rfl rfl rfl ?_;refine ai [67,5] rfl rfl rfl rfl ?_;refine ai [67,74,75] rfl rfl rfl rfl ?_;refine ai [67,76] rfl rfl rfl rfl ?_;refine ai [67,77] rfl rfl rfl rfl ?_;refine ai [67,78] rfl rfl rfl rfl ?_;refine ai [67,73,79] rfl rfl rfl rfl ?_;refine dQ [67,80] [] iU ?_;refine aC (by kernel_rfl)<|aU ?_;refine wV<|sR ?_;refine rC<|zT<|zB<|bT<|zB ?_
       exact⟨trivial,[],lf⟩
     ·have e2:(!decide (x.thread=y.thread))=true:=by simp[k2]
      refine qR<|zD ?_;refine rQ iE ?_;refine rC ?_;refine zI<|zQ<|aZ<|b9 ?_;refine aH (by kernel_rfl) ?_;refine dC [0] [] ?_;refine dC [5] [] ?_;refine dQ [17,18] [] (aA aa rfl rfl rfl rfl rfl (by omega) hx2) ?_;refine dC [19] [] ?_;refine dQ [20] [] iL ?_;refine dC [1] [] ?_;refine dC [5] [] ?_;refine dQ [22,23] [] (aA aa rfl rfl rfl rfl rfl (by omega) hy2) ?_;refine dC [24] [] ?_;refine dQ [25] [] iL ?_;refine dC [21,26] [] ?_;refine dC [27] [] ?_;refine ab [28,0] [] rfl rfl (by assumption) rfl (ay aa (fun K hk=>hk)) ?_;refine ab [28,5] [] rfl rfl (by assumption) rfl (ay aa (fun K hk=>hk)) ?_;refine ab [28,29,30] [] rfl rfl (by assumption) rfl (aA aa rfl rfl rfl rfl rfl (by omega) hx2) ?_;refine ab [28,31] [] rfl rfl (by assumption) rfl (ay aa (fun K hk=>hk)) ?_;refine ab [28,32] [] rfl rfl (by assumption) rfl (bA aa rfl rfl) ?_;refine ab [28,1] [] rfl rfl (by assumption) rfl (ay aa (fun K hk=>hk)) ?_;refine ab [28,5] [] rfl rfl (by assumption) rfl (ay aa (fun K hk=>hk)) ?_;refine ab [28,34,35] [] rfl rfl (by assumption) rfl (aA aa rfl rfl rfl rfl rfl (by omega) hy2) ?_;refine ab [28,36] [] rfl rfl (by assumption) rfl (ay aa (fun K hk=>hk)) ?_;refine ab [28,37] [] rfl rfl (by assumption) rfl (bA aa rfl rfl) ?_;refine ab [28,33,38] [] rfl rfl (by assumption) rfl (ay aa (fun K hk=>hk)) ?_;refine dQ [28,39] [] iF ?_;refine dC [40] [] ?_;refine ai [41,0] rfl rfl (by assumption) rfl ?_;refine ai [41,5] rfl rfl (by assumption) rfl ?_;refine ai [41,42,43] rfl rfl (by assumption) rfl ?_;refine ai [41,44] rfl rfl (by assumption) rfl ?_;refine ai [41,45] rfl rfl (by assumption) rfl ?_;refine ai [41,1] rfl rfl (by assumption) rfl ?_;refine ai [41,5] rfl rfl (by assumption) rfl ?_;refine ai [41,47,48] rfl rfl (by assumption) rfl ?_;refine ai [41,49] rfl rfl (by assumption) rfl ?_;refine ai [41,50] rfl rfl (by assumption) rfl ?_;refine ai [41,46,51] rfl rfl (by assumption) rfl ?_;refine dQ [41,52] [] iT ?_;refine dC [53] [] ?_;refine ai [54,0] rfl rfl rfl rfl ?_;refine ai [54,5] rfl rfl rfl rfl ?_;refine ai [54,55,56] rfl rfl rfl rfl ?_;refine ai [54,57] rfl rfl rfl rfl ?_;refine ai [54,58] rfl rfl rfl rfl ?_;refine ai [54,1] rfl rfl rfl rfl ?_;refine ai [54,5] rfl rfl rfl rfl ?_;refine ai [54,60,61] rfl rfl rfl rfl ?_;refine ai [54,62] rfl rfl rfl rfl ?_;refine ai [54,63] rfl rfl rfl rfl ?_;refine ai [54,59,64] rfl rfl rfl rfl ?_;refine dQ [54,65] [] iU ?_;refine dC [66] [] ?_;refine ai [67,0] rfl rfl rfl rfl ?_;refine ai [67,5] rfl rfl rfl rfl ?_;refine ai [67,68,69] rfl rfl rfl rfl ?_;refine ai [67,70] rfl rfl rfl rfl ?_;refine ai [67,71] rfl rfl rfl rfl ?_;refine ai [67,72] rfl rfl rfl rfl ?_;refine ai [67,1] rfl rfl rfl rfl ?_;refine ai [67,5] rfl rfl rfl rfl ?_;refine ai [67,74,75] rfl rfl rfl rfl ?_;refine ai [67,76] rfl rfl rfl rfl ?_;refine ai [67,77] rfl rfl rfl rfl ?_;refine ai [67,78] rfl rfl rfl rfl ?_;refine ai [67,73,79] rfl rfl rfl rfl ?_;refine dQ [67,80] [] iU ?_;refine aC (by kernel_rfl)<|aU ?_;refine wV<|sR ?_;refine rC<|zT<|zB<|bT<|zB ?_
      exact⟨trivial,[],lf⟩
    ·have e1:(!decide (x.kind=y.kind))=true:=by simp[k1]
     refine qR<|zD ?_;refine rQ iE ?_;refine rC ?_;refine zI<|zQ<|aZ<|b9 ?_;refine aH (by kernel_rfl) ?_;refine dC [0] [] ?_;refine dC [5] [] ?_;refine dQ [17,18] [] (aA aa rfl rfl rfl rfl rfl (by omega) hx2) ?_;refine dC [19] [] ?_;refine dQ [20] [] iL ?_;refine dC [1] [] ?_;refine dC [5] [] ?_;refine dQ [22,23] [] (aA aa rfl rfl rfl rfl rfl (by omega) hy2) ?_;refine dC [24] [] ?_;refine dQ [25] [] iL ?_;refine dC [21,26] [] ?_;refine dC [27] [] ?_;refine ai [28,0] rfl rfl (by assumption) rfl ?_;refine ai [28,5] rfl rfl (by assumption) rfl ?_;refine ai [28,29,30] rfl rfl (by assumption) rfl ?_;refine ai [28,31] rfl rfl (by assumption) rfl ?_;refine ai [28,32] rfl rfl (by assumption) rfl ?_;refine ai [28,1] rfl rfl (by assumption) rfl ?_;refine ai [28,5] rfl rfl (by assumption) rfl ?_;refine ai [28,34,35] rfl rfl (by assumption) rfl ?_;refine ai [28,36] rfl rfl (by assumption) rfl ?_;refine ai [28,37] rfl rfl (by assumption) rfl ?_;refine ai [28,33,38] rfl rfl (by assumption) rfl ?_;refine dQ [28,39] [] iT ?_;refine dC [40] [] ?_;refine ai [41,0] rfl rfl rfl rfl ?_;refine ai [41,5] rfl rfl rfl rfl ?_;refine ai [41,42,43] rfl rfl rfl rfl ?_;refine ai [41,44] rfl rfl rfl rfl ?_;refine ai [41,45] rfl rfl rfl rfl ?_;refine ai [41,1] rfl rfl rfl rfl ?_;refine ai [41,5] rfl rfl rfl rfl ?_;refine ai [41,47,48] rfl rfl rfl rfl ?_;refine ai [41,49] rfl rfl rfl rfl ?_;refine ai [41,50] rfl rfl rfl rfl ?_;refine ai [41,46,51] rfl rfl rfl rfl ?_;refine dQ [41,52] [] iU ?_;refine dC [53] [] ?_;refine ai [54,0] rfl rfl rfl rfl ?_;refine ai [54,5] rfl rfl rfl rfl ?_;refine ai [54,55,56] rfl rfl rfl rfl ?_;refine ai [54,57] rfl rfl rfl rfl ?_;refine ai [54,58] rfl rfl rfl rfl ?_;refine ai [54,1] rfl rfl rfl rfl ?_;refine ai [54,5] rfl rfl rfl rfl ?_;refine ai [54,60,61] rfl rfl rfl rfl ?_;refine ai [54,62] rfl rfl rfl rfl ?_;refine ai [54,63] rfl rfl rfl rfl ?_;refine ai [54,59,64] rfl rfl rfl rfl ?_;refine dQ [54,65] [] iU ?_;refine dC [66] [] ?_;refine ai [67,0] rfl rfl rfl rfl ?_;refine ai [67,5] rfl rfl rfl rfl ?_;refine ai [67,68,69] rfl rfl rfl rfl ?_;refine ai [67,70] rfl rfl rfl rfl ?_;refine ai [67,71] rfl rfl rfl rfl ?_;refine ai [67,72] rfl rfl rfl rfl ?_;refine ai [67,1] rfl rfl rfl rfl ?_;refine ai [67,5] rfl rfl rfl rfl ?_;refine ai [67,74,75] rfl rfl rfl rfl ?_;refine ai [67,76] rfl rfl rfl rfl ?_;refine ai [67,77] rfl rfl rfl rfl ?_;refine ai [67,78] rfl rfl rfl rfl ?_;refine ai [67,73,79] rfl rfl rfl rfl ?_;refine dQ [67,80] [] iU ?_;refine aC (by kernel_rfl)<|aU ?_;refine wV<|sR ?_;refine rC<|zT<|zB<|bT<|zB ?_
     exact⟨trivial,[],lf⟩
  ·have he:i=a.length:=by omega
   subst he
   have d0:decide ((a.length:Int)<(a.length:Int))=false:=dF (by omega)
   rw[if_pos (mc hl hall)]
   refine qR<|zD ?_;refine rQ iE ?_;refine rC ?_;refine zG<|zX<|sR ?_;refine rC<|zT ?_
   exact⟨trivial,[],lf⟩
 ·have d1:(!decide ((a.length:Int)=(b.length:Int)))=true:=by rw[dF (by omega)]; rfl
  rw[if_neg (show ¬a=b from fun e=>hl (by rw[e]))]
  refine wT<|sR ?_;refine rC<|zT<|ba ?_
  exact⟨trivial,[],lf⟩
def exC:SCfg:=⟨1,1,3,1,8,8,List.replicate 32 0,0⟩
abbrev exV:List (Bool×SAct):=[(true,⟨1,0,0,[],0⟩),(false,⟨2,0,2,[10,255],0⟩),(true,⟨3,0,1,[],0⟩),(true,⟨4,0,0,[],1⟩),(true,⟨5,0,0,[],0⟩)]
def su:Unit→D:=fun _=>.sc nil_
theorem Bw:FnIs Tryz.prog 20 [] [] (.acons (.d (bt exC)) (.acons (.d (.arr 1 su [()])) (.acons (.own 64 0 5 5 none) (.d .nil)))) [(64,.ds 48 5 true mf exV)]:=by
 refine aw aa Tryz.func20 rfl rfl rfl ?_;refine sR<|rN<|nR ?_;refine rQ iS ?_;refine rQ (aq.frozen (aV (s:=1) aa rfl rfl rfl rfl rfl rfl rfl rfl) (Frz.lits1 (enc:=su) () rfl rfl)) ?_;refine rQ iS ?_;refine rQ (aq.frozen (aV (s:=1) aa rfl rfl rfl rfl rfl rfl rfl rfl) (Frz.lits2 (enc:=bp) (10:Int) (255:Int) rfl rfl rfl rfl)) ?_
 iterate 4 refine rQ iS ?_
 refine aN (rp (s:=5) (enc:=mf) (xs:=exV) aa rfl rfl rfl rfl rfl rfl rfl rfl rfl ra rfl) rfl ?_;refine rQ iS ?_;refine rW<|nS<|cg ?_
 exact⟨trivial,_,rfl,[(64,some _)],lg zV ⟨zR,trivial⟩⟩
def exL (t s:Int):List SAct:=[⟨1,t,0,[],0⟩,⟨2,0,2,[10,255],0⟩,⟨3,0,s,[],0⟩,⟨4,0,0,[],1⟩,⟨5,0,0,[],0⟩]
theorem BA:schk exC [[]] (exL 0 1)=0:=by decide+kernel
theorem By:schk exC [[]] (exL 2 1)=1:=by decide+kernel
theorem Bz:schk exC [[]] (exL 1 1)=0:=by decide+kernel
theorem Bx:schk exC [[]] (exL 1 4)=1:=by decide+kernel
def lvA:List UInt8:=[118,111,108,117,109,101,32,49,32,49,32,51,32,49,10,110,111,110,99,101,115,32,56,32,56,10,102,108,97,119,32,48,10,109,97,115,116,101,114,32]
def lvB:List UInt8:=[10,112,114,111,103,114,97,109,115,10]
def lvC:List UInt8:=[97,99,116,105,111,110,115,10,112,105,99,107,32,48,10,101,100,105,116,32,50,32,48,97,102,102,10,101,114,97,115,101,32,49,10,114,101,112,108,97,121,32,48,32,49,10,102,97,108,108,10]
theorem exT:fp exC [[]] (exL 0 1)=(lvA++hexP (List.replicate 32 0)++lvB++bJ [[]]++lvC,0):=by decide+kernel
theorem exP:chkP [[]]=0:=by decide+kernel
def px1:List UInt8:=[118,111,108,117,109,101,32,49,32,49,32,51,10]
def px2:List UInt8:=[118,111,108,117,109,101,32,49,32,49,32,51,32,49,10,110,111,110,99,101,115,32,56,32,48,56,10]
def px3:List UInt8:=[118,111,108,117,109,101,32,49,32,49,32,51,32,49]
theorem px_1:gX px1=(zScr,1,5):=by decide+kernel
theorem px_2:gX px2=(zScr,2,5):=by decide+kernel
theorem px_3:gX px3=(zScr,0,5):=by decide+kernel
theorem l9:exC.Ok:=⟨by unfold InI exC; decide,by unfold InI exC; decide,by unfold InI exC; decide,by unfold InI exC; decide,by unfold InU exC; decide,by unfold InU exC; decide,rfl,by unfold exC; decide⟩
abbrev exW (t s:Int):List (Bool×SAct):=[(true,⟨1,t,0,[],0⟩),(false,⟨2,0,2,[10,255],0⟩),(true,⟨3,0,s,[],0⟩),(true,⟨4,0,0,[],1⟩),(true,⟨5,0,0,[],0⟩)]
theorem kc (t s:Int):∀x∈exW t s,AVOk x:=by
 intro x hx
 simp only[exW,List.mem_cons,List.not_mem_nil,or_false]at hx
 rcases hx with rfl | rfl | rfl | rfl | rfl
 ·exact fun _=>rfl
 ·exact fun h=>by cases h
 ·exact fun _=>rfl
 ·exact fun _=>rfl
 ·exact fun _=>rfl
theorem lJ:DLe (.arr 1 su [()]) (cE [[]]):=jL (g:=fun _=>[]) rfl fun _ _=>DLe.nil_arr 3 br
theorem iN {look:Nat→Option Row} {ρ:Nat→Option Nat} {c:SCfg} {l:List (List POp)} {r n te:Nat} {ex:Bool} {cap:Option Nat} {P:D} {V:List (Bool×SAct)} {bs:List SAct} {bs9 avs:List AV} (hr:look r=some (.ds te 5 ex mf V)) (hn:n=V.length) (hP:DLe P (cE l)) (hb:bs=V.map (·.2)) (hV:∀x∈V,AVOk x) (h:cC look ρ bs9 avs) :
  cC look ρ (.acons (.d (bt c)) (.acons (.d P) (.acons (.own r 0 n 5 cap) (.d .nil)))::bs9) (.d (bB c l bs)::avs):=
 ⟨_,avs,rfl,⟨rfl,rfl⟩,⟨rfl,_,_,rfl,DLe.refl _,_,_,rfl,hP,_,_,rfl,by subst hn; simp only[ArgD,hr]; exact⟨trivial,by simp,V,by simp,tQ hb hV⟩,DLe.refl _⟩,h⟩
theorem iC (t s:Int):(exL t s).length≤1000000000:=by show 5≤_; decide
theorem nk (t s:Int):exL t s=(exW t s).map (·.2):=rfl
theorem nb:Bd [[]]:=⟨by decide,fun p hp=>by simp only[List.mem_cons,List.not_mem_nil,or_false]at hp; subst hp; decide⟩
theorem nok:OkL [[]]:=fun p hp=>by simp only[List.mem_cons,List.not_mem_nil,or_false]at hp; subst hp; intro o ho; cases ho
theorem yN:∀a∈exL 0 1,a.Ok:=by
 intro a ha
 simp only[exL,List.mem_cons,List.not_mem_nil,or_false]at ha
 rcases ha with rfl | rfl | rfl | rfl | rfl <;> exact⟨by decide,by unfold InI; decide,by unfold InI; decide,by unfold InI; decide⟩
theorem plT (l:List UInt8) (e:Int):cd (.tup (.acons (.d (strD l)) (.acons (.d (i6 e)) .anil))) []:=cd.of ⟨trivial,trivial,trivial⟩ gV
theorem plC:cd (.tup (.acons (.int .i64 (cA isP (exL 0 1))) (.acons (.int .i64 (cA isE (exL 0 1))) (.acons (.int .i64 (cA isF (exL 0 1))) .anil)))) []:=cd.of ⟨trivial,trivial,trivial,trivial⟩ gV
theorem g9:FnIs Tryz.prog 10 [] [] (.bool true) []:=by
 have hl1:lvA.length+(hexP (List.replicate 32 0)).length≤9223372036854775807:=by decide+kernel
 have hl2:(lvA++hexP (List.replicate 32 0)).length+lvB.length≤9223372036854775807:=by decide+kernel
 have hl3:(lvA++hexP (List.replicate 32 0)++lvB).length+(bJ [[]]).length≤9223372036854775807:=by decide+kernel
 have hl4:(lvA++hexP (List.replicate 32 0)++lvB++bJ [[]]).length+lvC.length≤9223372036854775807:=by decide+kernel
 have hne:(!decide (mkS (lvA++hexP (List.replicate 32 0)++lvB++bJ [[]]++lvC)=mkS (lvA++hexP (List.replicate 32 0)++lvB++bJ [[]]++lvC)))=false:=by simp
 have hHex:=s7 (List.replicate 32 0) (by decide)
 have hText:=uu exC [[]] (exL 0 1) l9 nb nok (iC _ _) yN
 have hProg:=rE [[]] nb nok
 have hC0:=dK exC [[]] (exL 0 1) l9 nb (iC _ _)
 have hC2:=dK exC [[]] (exL 2 1) l9 nb (iC _ _)
 have hC1:=dK exC [[]] (exL 1 1) l9 nb (iC _ _)
 have hC4:=dK exC [[]] (exL 1 4) l9 nb (iC _ _)
 have hCnt:=nz exC [[]] (exL 0 1) (iC _ _)
 have hP1:=jY px1
 have hP2:=jY px2
 have hP3:=jY px3
 rw[exT]at hText
 rw[exP,if_pos rfl]at hProg
 rw[BA]at hC0
 rw[By]at hC2
 rw[Bz]at hC1
 rw[Bx]at hC4
 rw[px_1]at hP1
 rw[px_2]at hP2
 rw[px_3]at hP3
 refine aw aa Tryz.func10 rfl rfl rfl ?_;refine sR<|rC<|nR ?_;refine aN (fC Bw rfl rfl ae (.inl rfl) rfl rfl) rfl ?_;refine rN ?_;refine rW<|nR ?_;refine rQ iM ?_;refine rQ (ak hText rfl rfl (iN rfl rfl lJ (nk 0 1) (kc 0 1) ae) (.inr (plT _ _)) (fun _=>rfl)) ?_
 iterate 5 refine rC ?_
 refine nR<|rC ?_;refine rQ iM ?_;refine rQ (ak hProg rfl rfl (bu rfl trivial lJ ae) (.inl rfl) (fun _=>rfl)) ?_;iterate 5 refine rC ?_
 refine nR<|aN (da (enc:=bp) (s:=1) (N:=32) aa 0 rfl rfl rfl rfl rfl rfl rfl (by decide) rfl) rfl ?_;refine rQ (ak hHex rfl rfl (wz (xs:=byI (List.replicate 32 0)) (enc:=bp) (s:=1) rfl rfl ae) (.inr (cd.sc _)) (fun _=>rfl)) ?_;refine rQ (aR (a:=lvA) (b:=hexP (List.replicate 32 0)) rfl rfl hl1 rfl) ?_;refine rQ (aR (a:=lvA++hexP (List.replicate 32 0)) (b:=lvB) rfl rfl hl2 rfl) ?_;refine rC<|zW ?_;refine zU ?_;refine rP ?_;refine rC ?_;refine rP ?_;refine rC ?_;refine rQ iG ?_;refine rC ?_;refine rP ?_;refine rQ iM ?_;refine rP ?_;refine rQ (ak hC0 rfl rfl (iN rfl rfl lJ (nk 0 1) (kc 0 1) ae) (.inr (cd.sc _)) (fun _=>rfl)) ?_;refine rP ?_;refine rC ?_;refine rQ iG ?_;refine rC ?_;refine rP ?_;refine rC ?_;refine rP ?_;refine rC ?_;refine rP ?_;refine rC ?_;refine rP ?_;refine rQ (aR (a:=lvA++hexP (List.replicate 32 0)++lvB) (b:=bJ [[]]) rfl rfl hl3 rfl) ?_;refine rP ?_;refine rQ (aR (a:=lvA++hexP (List.replicate 32 0)++lvB++bJ [[]]) (b:=lvC) rfl rfl hl4 rfl) ?_;refine rP ?_;refine rQ (iy aa rfl rfl rfl) ?_;refine rQ iG ?_;refine zJ<|kS<|sR ?_;refine rQ iM ?_;refine rQ (ak hCnt rfl rfl (iN rfl rfl lJ (nk 0 1) (kc 0 1) ae) (.inr plC) (fun _=>rfl)) ?_
 iterate 7 refine rC ?_
 refine nR<|rC ?_;refine rQ iM ?_;refine rQ (aP aa rfl rfl rfl rfl rfl (by omega) (by omega)) ?_;refine rC ?_;refine aW (aF aa rfl rfl rfl ⟨rfl,(true,⟨1,0,0,[],0⟩),(true,⟨1,2,0,[],0⟩),rfl,⟨_,⟨rfl,rfl,rfl⟩,rfl⟩,rfl⟩ rfl)<|nR ?_;refine rQ iM ?_;refine rQ (ak hC2 rfl rfl (iN rfl rfl lJ (nk 2 1) (kc 2 1) ae) (.inr (cd.sc _)) (fun _=>rfl)) ?_;refine rC<|nR ?_;refine rC ?_;refine rQ iM ?_;refine rQ (aP aa rfl rfl rfl rfl rfl (by omega) (by omega)) ?_;refine rC ?_;refine aW (aF aa rfl rfl rfl ⟨rfl,(true,⟨1,2,0,[],0⟩),(true,⟨1,1,0,[],0⟩),rfl,⟨_,⟨rfl,rfl,rfl⟩,rfl⟩,rfl⟩ rfl)<|nR ?_;refine rQ iM ?_;refine rQ (ak hC1 rfl rfl (iN rfl rfl lJ (nk 1 1) (kc 1 1) ae) (.inr (cd.sc _)) (fun _=>rfl)) ?_;refine rC<|nR ?_;refine rC ?_;refine rQ iM ?_;refine rQ (aP aa rfl rfl rfl rfl rfl (by omega) (by omega)) ?_;refine rC ?_;refine aW (aF aa rfl rfl rfl ⟨rfl,(true,⟨3,0,1,[],0⟩),(true,⟨3,0,4,[],0⟩),rfl,⟨_,⟨rfl,rfl,rfl⟩,rfl⟩,rfl⟩ rfl)<|zW ?_;refine rQ (aq.frozen (aV (s:=1) aa rfl rfl rfl rfl rfl rfl rfl rfl) (Frz.litsN (enc:=strD) [px1,px2,px3] rfl (fun _ _=>rfl))) ?_;refine rQ iE ?_;refine rC<|zP ?_
 refine wc_inv (fun i:Nat=>⟨[(76,.int .i64 i),(75,.int .i64 3),(74,.d (.arr 1 strD [px1,px2,px3])),(1,.ptr 64 []),(7,.int .i64 1),(8,.int .i64 3),(9,.int .i64 1),(10,.int .i64 1),(11,.int .i64 0)],[(64,some (.box 38 (.acons (.d (bt exC)) (.acons (.d (.arr 1 su [()])) (.acons (.own 65 0 5 5 none) (.d .nil)))))),(65,some (.ds 48 5 true mf (exW 1 4)))],72,Tryz.f10.ntmps,64⟩) (fun i=>i≤3) (fun i=>3-i) 0 [(64,some _),(65,some _)] (Nat.zero_le _)
  (lg zd ⟨zR,zR,trivial⟩) ?_
 intro i hi
 refine bv ?_
 by_cases hlt:i<3
 ·have d0:decide ((i:Int)<3)=true:=dT (by omega)
  obtain⟨t,n,ht,hn,hP⟩:∃(t:List UInt8) (n:Nat),[px1,px2,px3][((i:Int)).toNat]?=some t∧Sub (.cons (i6 1) (.cons (i6 2) (.cons (i6 0) .nil))) [.idx ((i:Int)).toNat 1] (i6 n)∧FnIs Tryz.prog 24 [.d (strD t)] [] (pa zScr n 5) []:=by
   rw[Int.toNat_natCast]
   match i,hlt with
   | 0,_=>exact⟨px1,1,rfl,rfl,hP1⟩
   | 1,_=>exact⟨px2,2,rfl,rfl,hP2⟩
   | 2,_=>exact⟨px3,0,rfl,rfl,hP3⟩
  have dn:(!decide ((n:Int)=(n:Int)))=false:=by simp
  refine sR<|rC<|nQ ?_;refine wT<|zQ<|zS ?_;refine rC ?_;refine rQ (aA aa rfl rfl rfl rfl rfl (by omega) ht) ?_;refine rQ iL ?_;refine zD<|nR ?_;refine rC ?_;refine rQ (ak hP rfl rfl (aj ae) (.inl rfl) (fun _=>rfl)) ?_;iterate 4 refine rC ?_
  refine rN ?_;refine rW ?_;refine zD<|nR ?_;refine zU ?_;refine rP ?_;refine rC ?_;refine rP ?_;refine rQ (ou aa rfl rfl rfl rfl rfl rfl rfl) ?_;refine rP ?_;refine rC ?_;refine rP ?_;refine rQ (tA (k :=.i64) (m:=(i:Int)) (z:=i6 n) aa rfl rfl rfl rfl rfl (by omega) (by omega) hn rfl) ?_;refine rP ?_;refine rC ?_;refine rQ iG ?_;refine zG<|bG<|zC<|ao ?_;refine rQ iD ?_;refine rC<|aB ?_
  exact aY (i+1) [(64,some _),(65,some _)] hlt (by omega) (lg zd ⟨zR,zR,trivial⟩)
 ·have he:i=3:=by omega
  subst he
  refine sR<|rC<|nQ ?_;refine wG<|zX<|sR ?_;refine zU ?_;refine rP ?_;refine rC ?_;refine rP ?_;refine rC ?_;refine rQ iU ?_;refine rC ?_;refine rP ?_;refine rC ?_;refine rP ?_;refine rC ?_;refine rQ iU ?_;refine rC ?_;refine rP ?_;refine rC ?_;refine rP ?_;refine rC ?_;refine rQ iU ?_;refine rC ?_;refine rP ?_;refine rC ?_;refine rP ?_;refine rC ?_;refine rQ iU ?_;refine rC ?_;refine rP ?_;refine rQ iM ?_;refine rP ?_;refine rQ (ak hC4 rfl rfl (iN rfl rfl lJ (nk 1 4) (kc 1 4) ae) (.inr (cd.sc _)) (fun _=>rfl)) ?_;refine rP ?_;refine rC ?_;refine rQ iU ?_;refine rC<|zT ?_
  exact⟨trivial,[],lf⟩
theorem yG (a b:List UInt8):EqOk Tryz.prog 2 32 (encK a) (encK b) (decide (byI a=byI b)):=
 yP aa (P:=Tryz.prog) Tryz.underlying32 rfl (fun _=>rfl) rfl (fun _ _=>hJ (P:=Tryz.prog) Tryz.underlying5)
theorem xQ {a b:List UInt8}:byI a=byI b↔a=b:=by
 constructor
 ·intro h
  induction a generalizing b with
  | nil=>cases b with
   | nil=>rfl
   | cons y b=>simp[byI]at h
  | cons x a ih=>cases b with
   | nil=>simp[byI]at h
   | cons y b =>
    simp only[byI,List.map_cons,List.cons.injEq]at h
    rw[ih h.2,UInt8.toNat_inj.1 (Int.ofNat.inj h.1)]
 ·rintro rfl; rfl
theorem oo (a b:SCfg):EqOk Tryz.prog 3 34 (bt a) (bt b) (decide (a=b)):=by
 refine (tO (P:=Tryz.prog) Tryz.underlying34 (by kernel_rfl) rfl rfl (eZ aa rfl (by kernel_rfl) rfl rfl ((hJ (P:=Tryz.prog) Tryz.underlying3).up (by decide)) rfl (eZ aa rfl (by kernel_rfl) rfl rfl ((hJ (P:=Tryz.prog) Tryz.underlying3).up (by decide)) rfl (eZ aa rfl (by kernel_rfl) rfl rfl ((hJ (P:=Tryz.prog) Tryz.underlying3).up (by decide)) rfl (eZ aa rfl (by kernel_rfl) rfl rfl ((hJ (P:=Tryz.prog) Tryz.underlying3).up (by decide)) rfl (eZ aa rfl (by kernel_rfl) rfl rfl ((hJ (P:=Tryz.prog) Tryz.underlying30).up (by decide)) rfl (eZ aa rfl (by kernel_rfl) rfl rfl ((hJ (P:=Tryz.prog) Tryz.underlying30).up (by decide)) rfl (eZ aa rfl (by kernel_rfl) rfl rfl (yG _ _) rfl (eZ aa rfl (by kernel_rfl) rfl rfl ((hJ (P:=Tryz.prog) Tryz.underlying5).up (by decide)) rfl xK))))))))).cast ?_
 obtain⟨a1,a2,a3,a4,a5,a6,a7,a8⟩:=a
 obtain⟨b1,b2,b3,b4,b5,b6,b7,b8⟩:=b
 simp only[SCfg.mk.injEq]
 by_cases h1:a1=b1 <;> by_cases h2:a2=b2 <;> by_cases h3:a3=b3 <;> by_cases h4:a4=b4 <;> by_cases h5:a5=b5 <;> by_cases h6:a6=b6 <;> by_cases h7:a7=b7 <;> by_cases h8:a8=b8 <;> simp[xQ,h1,h2,h3,h4,h5,h6,h7,h8]
theorem rG (a b:List UInt8):decide (fg (byI a)=fg (byI b))=decide (a=b):=by rw[eF,eF,gB]
def iV (c d:SCfg) (l m:List (List POp)) (bs cs:List SAct):Bool:=decide (c=d)&&(decide (l=m)&&decide (bs=cs))
theorem gk (c d:SCfg) (l m:List (List POp)) (bs cs:List SAct) (hl:Bd l) (hm:Bd m) (hb:bs.length≤1000000000) (hc:cs.length≤1000000000):FnIs Tryz.prog 7 [.d (bB c l bs),.d (bB d m cs)] [] (.int .i64 (if iV c d l m bs cs=true then 1 else 0)) []:=by
 have hal:=wA bs cs hb hc
 have hl0:=hl.1
 have hm0:=hm.1
 refine aw aa Tryz.func7 rfl rfl rfl ?_
 by_cases hcd:c=d
 case neg =>
  have d0:(!decide (c=d))=true:=by rw[dF hcd]; rfl
  rw[if_neg (by rw[iV,dF hcd,Bool.false_and]; decide)]
  refine sR ?_;iterate 2 refine rN ?_
  refine rC<|zW ?_;refine rC ?_;refine rQ iB ?_;refine rC ?_;refine rQ iB ?_;refine rQ (lK rfl rfl rfl rfl (by kernel_rfl) (by decide) (oo c d)) ?_;refine rC ?_;iterate 7 refine rS ?_
  refine rQ iT ?_;refine zO<|sR ?_;refine rC<|zT<|ba ?_
  exact⟨trivial,[],lf⟩
 have d0:(!decide (c=d))=false:=by rw[dT hcd]; rfl
 by_cases hlm:l.length=m.length
 case neg =>
  have q1:(!decide ((l.length:Int)=(m.length:Int)))=true:=by rw[dF (by omega)]; rfl
  rw[if_neg (by rw[iV,dF (fun e=>hlm (congrArg _ e)),Bool.false_and,Bool.and_false]; decide)]
  refine sR ?_;iterate 2 refine rN ?_
  refine rC<|zW ?_;refine rC ?_;refine rQ iB ?_;refine rC ?_;refine rQ iB ?_;refine rQ (lK rfl rfl rfl rfl (by kernel_rfl) (by decide) (oo c d)) ?_;refine rC ?_;refine rO ?_;refine rC ?_;refine rO ?_;refine rQ iB ?_;refine rO ?_;refine rQ iE ?_;refine rO ?_;refine rC ?_;refine rO ?_;refine rQ iB ?_;refine rO ?_;refine rQ iE ?_;refine rO ?_;refine rC ?_;refine rQ iF ?_;refine zI<|sR ?_;refine rC<|zT<|ba ?_
  exact⟨trivial,[],lf⟩
 have q1:(!decide ((l.length:Int)=(m.length:Int)))=false:=by rw[dT (by omega)]; rfl
 refine sR ?_;iterate 2 refine rN ?_
 refine rC<|zW ?_;refine rC ?_;refine rQ iB ?_;refine rC ?_;refine rQ iB ?_;refine rQ (lK rfl rfl rfl rfl (by kernel_rfl) (by decide) (oo c d)) ?_;refine rC ?_;refine rO ?_;refine rC ?_;refine rO ?_;refine rQ iB ?_;refine rO ?_;refine rQ iE ?_;refine rO ?_;refine rC ?_;refine rO ?_;refine rQ iB ?_;refine rO ?_;refine rQ iE ?_;refine rO ?_;refine rC ?_;refine rQ iF ?_;refine zG<|kS<|qR ?_;refine rC<|zP ?_
 refine wc_inv (fun i:Nat=>⟨[(5,.int .i64 i),(3,.ptr 65 []),(2,.ptr 64 [])],[(64,some (.box 38 (.d (bB c l bs)))),(65,some (.box 38 (.d (bB d m cs))))],72,Tryz.f7.ntmps,64⟩) (fun i=>i≤l.length∧∀j,j<i→l[j]?=m[j]?) (fun i=>l.length-i) 0 [(64,some _),(65,some _)] ⟨Nat.zero_le _,fun j hj=>absurd hj (Nat.not_lt_zero _)⟩
  (lg zj ⟨zR,zR,trivial⟩) ?_
 rintro i ⟨hi,hsame⟩
 refine bv ?_
 by_cases hlt:i<l.length
 ·have d1:decide ((i:Int)<(l.length:Int))=true:=dT (by omega)
  obtain⟨p,hp⟩:∃p,l[i]?=some p:=⟨_,List.getElem?_eq_getElem hlt⟩
  obtain⟨q,hq⟩:∃q,m[i]?=some q:=⟨_,List.getElem?_eq_getElem (by omega)⟩
  have hp2:l[((i:Int)).toNat]?=some p:=by rw[Int.toNat_natCast]; exact hp
  have hq2:m[((i:Int)).toNat]?=some q:=by rw[Int.toNat_natCast]; exact hq
  have hpl:=hl.2 p (List.mem_of_getElem? hp)
  have hql:=hm.2 q (List.mem_of_getElem? hq)
  have hne:p≠q→iV c d l m bs cs=false:=fun h=>by
   rw[iV,dF (fun e:l=m=>h (by rw[e,hq]at hp; cases hp; rfl)),Bool.false_and,Bool.and_false]
  by_cases hpq:p.length=q.length
  case neg =>
   have q2:(!decide ((p.length:Int)=(q.length:Int)))=true:=by rw[dF (by omega)]; rfl
   rw[if_neg (by rw[hne (fun e=>hpq (congrArg _ e))]; decide)]
   refine qR<|zD ?_;refine rQ iB ?_;refine rQ iE ?_;refine rC ?_;refine zI<|zQ<|aZ<|b9 ?_;refine aH (by kernel_rfl) ?_;refine dC [2] [] ?_;refine dQ [30] [64] iB ?_;refine dC [5] [] ?_;refine dQ [31,32] [] (aA aa rfl rfl rfl rfl rfl (by omega) hp2) ?_;refine dQ [33] [] iL ?_;refine dC [3] [] ?_;refine dQ [35] [65] iB ?_;refine dC [5] [] ?_;refine dQ [36,37] [] (aA aa rfl rfl rfl rfl rfl (by omega) hq2) ?_;refine dQ [38] [] iL ?_;refine dC [34] [] ?_;refine dC [39] [] ?_;refine aC (by kernel_rfl)<|aU<|qR ?_;refine rC ?_;refine rQ iE ?_;refine rC ?_;refine rQ iE ?_;refine rC ?_;refine zI<|sR ?_;refine rC<|zT<|ba<|zB<|bT<|fD<|ba ?_
   exact⟨trivial,[],lf⟩
  have q2:(!decide ((p.length:Int)=(q.length:Int)))=false:=by rw[dT (by omega)]; rfl
  refine qR<|zD ?_;refine rQ iB ?_;refine rQ iE ?_;refine rC ?_;refine zI<|zQ<|aZ<|b9 ?_;refine aH (by kernel_rfl) ?_;refine dC [2] [] ?_;refine dQ [30] [64] iB ?_;refine dC [5] [] ?_;refine dQ [31,32] [] (aA aa rfl rfl rfl rfl rfl (by omega) hp2) ?_;refine dQ [33] [] iL ?_;refine dC [3] [] ?_;refine dQ [35] [65] iB ?_;refine dC [5] [] ?_;refine dQ [36,37] [] (aA aa rfl rfl rfl rfl rfl (by omega) hq2) ?_;refine dQ [38] [] iL ?_;refine dC [34] [] ?_;refine dC [39] [] ?_;refine aC (by kernel_rfl)<|aU<|qR ?_;refine rC ?_;refine rQ iE ?_;refine rC ?_;refine rQ iE ?_;refine rC ?_;refine zG<|kS<|sR ?_;refine rC<|zP ?_
  refine wc_inv (fun k:Nat=>⟨[(8,.int .i64 k),(7,.d (encP q)),(6,.d (encP p)),(5,.int .i64 i),(3,.ptr 65 []),(2,.ptr 64 [])],[(64,some (.box 38 (.d (bB c l bs)))),(65,some (.box 38 (.d (bB d m cs))))],72,Tryz.f7.ntmps,64⟩) (fun k=>k≤p.length∧∀j,j<k→p[j]?=q[j]?) (fun k=>p.length-k) 0 [(64,some _),(65,some _)] ⟨Nat.zero_le _,fun j hj=>absurd hj (Nat.not_lt_zero _)⟩
   (lg zg ⟨zR,zR,trivial⟩) ?_
  rintro k ⟨hk,hsk⟩
  refine bv ?_
  by_cases hkl:k<p.length
  ·have d2:decide ((k:Int)<(p.length:Int))=true:=dT (by omega)
   obtain⟨o,ho⟩:∃o,p[k]?=some o:=⟨_,List.getElem?_eq_getElem hkl⟩
   obtain⟨u,hu⟩:∃u,q[k]?=some u:=⟨_,List.getElem?_eq_getElem (by omega)⟩
   have ho2:p[((k:Int)).toNat]?=some o:=by rw[Int.toNat_natCast]; exact ho
   have hu2:q[((k:Int)).toNat]?=some u:=by rw[Int.toNat_natCast]; exact hu
   have hno:o≠u→iV c d l m bs cs=false:=fun h=>hne fun e=>h (by rw[e,hu]at ho; cases ho; rfl)
   by_cases k1:o.kind=u.kind
   case neg =>
    have e1:(!decide (o.kind=u.kind))=true:=by rw[dF k1]; rfl
    rw[if_neg (by rw[hno (fun e=>k1 (by rw[e]))]; decide)]
    refine qR<|zD ?_;refine rQ iE ?_;refine rC ?_;refine zI<|zQ<|aZ<|b9 ?_;refine aH (by kernel_rfl) ?_;refine dC [6] [] ?_;refine dC [8] [] ?_;refine dQ [51,52] [] (aA aa rfl rfl rfl rfl rfl (by omega) ho2) ?_;refine dC [53] [] ?_;refine dQ [54] [] iL ?_;refine dC [7] [] ?_;refine dC [8] [] ?_;refine dQ [56,57] [] (aA aa rfl rfl rfl rfl rfl (by omega) hu2) ?_;refine dC [58] [] ?_;refine dQ [59] [] iL ?_;refine dC [55,60] [] ?_;refine dC [61] [] ?_;refine ai [62,6] rfl rfl (by assumption) rfl ?_;refine ai [62,8] rfl rfl (by assumption) rfl ?_;refine ai [62,63,64] rfl rfl (by assumption) rfl ?_;refine ai [62,65] rfl rfl (by assumption) rfl ?_;refine ai [62,66] rfl rfl (by assumption) rfl ?_;refine ai [62,7] rfl rfl (by assumption) rfl ?_;refine ai [62,8] rfl rfl (by assumption) rfl ?_;refine ai [62,68,69] rfl rfl (by assumption) rfl ?_;refine ai [62,70] rfl rfl (by assumption) rfl ?_;refine ai [62,71] rfl rfl (by assumption) rfl ?_;refine ai [62,67,72] rfl rfl (by assumption) rfl ?_;refine dQ [62,73] [] iT ?_;refine dC [74] [] ?_;refine ai [75,6] rfl rfl rfl rfl ?_;refine ai [75,8] rfl rfl rfl rfl ?_;refine ai [75,76,77] rfl rfl rfl rfl ?_;refine ai [75,78] rfl rfl rfl rfl ?_;refine ai [75,79] rfl rfl rfl rfl ?_;refine ai [75,80] rfl rfl rfl rfl ?_;refine ai [75,7] rfl rfl rfl rfl ?_;refine ai [75,8] rfl rfl rfl rfl ?_;refine ai [75,82,83] rfl rfl rfl rfl ?_;refine ai [75,84] rfl rfl rfl rfl ?_;refine ai [75,85] rfl rfl rfl rfl ?_;refine ai [75,86] rfl rfl rfl rfl ?_;refine ai [75,81,87] rfl rfl rfl rfl ?_;refine dQ [75,88] [] iU ?_;refine aC (by kernel_rfl)<|aU ?_;refine wV<|sR ?_;refine rC<|zT<|zB<|bT ?_;iterate 2 refine fD ?_
    refine ba<|bT<|zB ?_
    exact⟨trivial,[],lf⟩
   have e1:(!decide (o.kind=u.kind))=false:=by rw[dT k1]; rfl
   by_cases k2:o.index=u.index
   case neg =>
    have e2:(!decide (o.index=u.index))=true:=by rw[dF k2]; rfl
    rw[if_neg (by rw[hno (fun e=>k2 (by rw[e]))]; decide)]
    refine qR<|zD ?_;refine rQ iE ?_;refine rC ?_;refine zI<|zQ<|aZ<|b9 ?_;refine aH (by kernel_rfl) ?_;refine dC [6] [] ?_;refine dC [8] [] ?_;refine dQ [51,52] [] (aA aa rfl rfl rfl rfl rfl (by omega) ho2) ?_;refine dC [53] [] ?_;refine dQ [54] [] iL ?_;refine dC [7] [] ?_;refine dC [8] [] ?_;refine dQ [56,57] [] (aA aa rfl rfl rfl rfl rfl (by omega) hu2) ?_;refine dC [58] [] ?_;refine dQ [59] [] iL ?_;refine dC [55,60] [] ?_;refine dC [61] [] ?_;refine ab [62,6] [] rfl rfl (by assumption) rfl (ay aa (fun K hk=>hk)) ?_;refine ab [62,8] [] rfl rfl (by assumption) rfl (ay aa (fun K hk=>hk)) ?_;refine ab [62,63,64] [] rfl rfl (by assumption) rfl (aA aa rfl rfl rfl rfl rfl (by omega) ho2) ?_;refine ab [62,65] [] rfl rfl (by assumption) rfl (ay aa (fun K hk=>hk)) ?_;refine ab [62,66] [] rfl rfl (by assumption) rfl (bA aa rfl rfl) ?_;refine ab [62,7] [] rfl rfl (by assumption) rfl (ay aa (fun K hk=>hk)) ?_;refine ab [62,8] [] rfl rfl (by assumption) rfl (ay aa (fun K hk=>hk)) ?_;refine ab [62,68,69] [] rfl rfl (by assumption) rfl (aA aa rfl rfl rfl rfl rfl (by omega) hu2) ?_;refine ab [62,70] [] rfl rfl (by assumption) rfl (ay aa (fun K hk=>hk)) ?_;refine ab [62,71] [] rfl rfl (by assumption) rfl (bA aa rfl rfl) ?_;refine ab [62,67,72] [] rfl rfl (by assumption) rfl (ay aa (fun K hk=>hk)) ?_;refine dQ [62,73] [] iF ?_;refine dC [74] [] ?_;refine ai [75,6] rfl rfl (by assumption) rfl ?_;refine ai [75,8] rfl rfl (by assumption) rfl ?_;refine ai [75,76,77] rfl rfl (by assumption) rfl ?_;refine ai [75,78] rfl rfl (by assumption) rfl ?_;refine ai [75,79] rfl rfl (by assumption) rfl ?_;refine ai [75,80] rfl rfl (by assumption) rfl ?_;refine ai [75,7] rfl rfl (by assumption) rfl ?_;refine ai [75,8] rfl rfl (by assumption) rfl ?_;refine ai [75,82,83] rfl rfl (by assumption) rfl ?_;refine ai [75,84] rfl rfl (by assumption) rfl ?_;refine ai [75,85] rfl rfl (by assumption) rfl ?_;refine ai [75,86] rfl rfl (by assumption) rfl ?_;refine ai [75,81,87] rfl rfl (by assumption) rfl ?_;refine dQ [75,88] [] iT ?_;refine aC (by kernel_rfl)<|aU ?_;refine wV<|sR ?_;refine rC<|zT<|fD<|ba<|bT ?_;iterate 2 refine fD ?_
    refine ba<|bT<|zB ?_
    exact⟨trivial,[],lf⟩
   have e2:(!decide (o.index=u.index))=false:=by rw[dT k2]; rfl
   by_cases k3:o.data=u.data
   case neg =>
    have e3:(!decide (fg (byI o.data)=fg (byI u.data)))=true:=by rw[rG,dF k3]; rfl
    rw[if_neg (by rw[hno (fun e=>k3 (by rw[e]))]; decide)]
    refine qR<|zD ?_;refine rQ iE ?_;refine rC ?_;refine zI<|zQ<|aZ<|b9 ?_;refine aH (by kernel_rfl) ?_;refine dC [6] [] ?_;refine dC [8] [] ?_;refine dQ [51,52] [] (aA aa rfl rfl rfl rfl rfl (by omega) ho2) ?_;refine dC [53] [] ?_;refine dQ [54] [] iL ?_;refine dC [7] [] ?_;refine dC [8] [] ?_;refine dQ [56,57] [] (aA aa rfl rfl rfl rfl rfl (by omega) hu2) ?_;refine dC [58] [] ?_;refine dQ [59] [] iL ?_;refine dC [55,60] [] ?_;refine dC [61] [] ?_;refine ab [62,6] [] rfl rfl (by assumption) rfl (ay aa (fun K hk=>hk)) ?_;refine ab [62,8] [] rfl rfl (by assumption) rfl (ay aa (fun K hk=>hk)) ?_;refine ab [62,63,64] [] rfl rfl (by assumption) rfl (aA aa rfl rfl rfl rfl rfl (by omega) ho2) ?_;refine ab [62,65] [] rfl rfl (by assumption) rfl (ay aa (fun K hk=>hk)) ?_;refine ab [62,66] [] rfl rfl (by assumption) rfl (bA aa rfl rfl) ?_;refine ab [62,7] [] rfl rfl (by assumption) rfl (ay aa (fun K hk=>hk)) ?_;refine ab [62,8] [] rfl rfl (by assumption) rfl (ay aa (fun K hk=>hk)) ?_;refine ab [62,68,69] [] rfl rfl (by assumption) rfl (aA aa rfl rfl rfl rfl rfl (by omega) hu2) ?_;refine ab [62,70] [] rfl rfl (by assumption) rfl (ay aa (fun K hk=>hk)) ?_;refine ab [62,71] [] rfl rfl (by assumption) rfl (bA aa rfl rfl) ?_;refine ab [62,67,72] [] rfl rfl (by assumption) rfl (ay aa (fun K hk=>hk)) ?_;refine dQ [62,73] [] iF ?_;refine dC [74] [] ?_;refine ab [75,6] [] rfl rfl (by assumption) rfl (ay aa (fun K hk=>hk)) ?_;refine ab [75,8] [] rfl rfl (by assumption) rfl (ay aa (fun K hk=>hk)) ?_;refine ab [75,76,77] [] rfl rfl (by assumption) rfl (aA aa rfl rfl rfl rfl rfl (by omega) ho2) ?_;refine ab [75,78] [] rfl rfl (by assumption) rfl (ay aa (fun K hk=>hk)) ?_;refine ab [75,79] [] rfl rfl (by assumption) rfl (bA aa rfl rfl) ?_;refine ab [75,80] [] rfl rfl (by assumption) rfl (cV aa rfl rfl rfl rfl) ?_;refine ab [75,7] [] rfl rfl (by assumption) rfl (ay aa (fun K hk=>hk)) ?_;refine ab [75,8] [] rfl rfl (by assumption) rfl (ay aa (fun K hk=>hk)) ?_;refine ab [75,82,83] [] rfl rfl (by assumption) rfl (aA aa rfl rfl rfl rfl rfl (by omega) hu2) ?_;refine ab [75,84] [] rfl rfl (by assumption) rfl (ay aa (fun K hk=>hk)) ?_;refine ab [75,85] [] rfl rfl (by assumption) rfl (bA aa rfl rfl) ?_;refine ab [75,86] [] rfl rfl (by assumption) rfl (cV aa rfl rfl rfl rfl) ?_;refine ab [75,81,87] [] rfl rfl (by assumption) rfl (iy aa rfl rfl rfl) ?_;refine dQ [75,88] [] iF ?_;refine aC (by kernel_rfl)<|aU ?_;refine wT<|sR ?_;refine rC<|zT<|fD<|ba<|bT ?_;iterate 2 refine fD ?_
    refine ba<|bT<|zB ?_
    exact⟨trivial,[],lf⟩
   have e3:(!decide (fg (byI o.data)=fg (byI u.data)))=false:=by rw[rG,dT k3]; rfl
   refine qR<|zD ?_;refine rQ iE ?_;refine rC ?_;refine zI<|zQ<|aZ<|b9 ?_;refine aH (by kernel_rfl) ?_;refine dC [6] [] ?_;refine dC [8] [] ?_;refine dQ [51,52] [] (aA aa rfl rfl rfl rfl rfl (by omega) ho2) ?_;refine dC [53] [] ?_;refine dQ [54] [] iL ?_;refine dC [7] [] ?_;refine dC [8] [] ?_;refine dQ [56,57] [] (aA aa rfl rfl rfl rfl rfl (by omega) hu2) ?_;refine dC [58] [] ?_;refine dQ [59] [] iL ?_;refine dC [55,60] [] ?_;refine dC [61] [] ?_;refine ab [62,6] [] rfl rfl (by assumption) rfl (ay aa (fun K hk=>hk)) ?_;refine ab [62,8] [] rfl rfl (by assumption) rfl (ay aa (fun K hk=>hk)) ?_;refine ab [62,63,64] [] rfl rfl (by assumption) rfl (aA aa rfl rfl rfl rfl rfl (by omega) ho2) ?_;refine ab [62,65] [] rfl rfl (by assumption) rfl (ay aa (fun K hk=>hk)) ?_;refine ab [62,66] [] rfl rfl (by assumption) rfl (bA aa rfl rfl) ?_;refine ab [62,7] [] rfl rfl (by assumption) rfl (ay aa (fun K hk=>hk)) ?_;refine ab [62,8] [] rfl rfl (by assumption) rfl (ay aa (fun K hk=>hk)) ?_;refine ab [62,68,69] [] rfl rfl (by assumption) rfl (aA aa rfl rfl rfl rfl rfl (by omega) hu2) ?_;refine ab [62,70] [] rfl rfl (by assumption) rfl (ay aa (fun K hk=>hk)) ?_;refine ab [62,71] [] rfl rfl (by assumption) rfl (bA aa rfl rfl) ?_;refine ab [62,67,72] [] rfl rfl (by assumption) rfl (ay aa (fun K hk=>hk)) ?_;refine dQ [62,73] [] iF ?_;refine dC [74] [] ?_;refine ab [75,6] [] rfl rfl (by assumption) rfl (ay aa (fun K hk=>hk)) ?_;refine ab [75,8] [] rfl rfl (by assumption) rfl (ay aa (fun K hk=>hk)) ?_;refine ab [75,76,77] [] rfl rfl (by assumption) rfl (aA aa rfl rfl rfl rfl rfl (by omega) ho2) ?_;refine ab [75,78] [] rfl rfl (by assumption) rfl (ay aa (fun K hk=>hk)) ?_;refine ab [75,79] [] rfl rfl (by assumption) rfl (bA aa rfl rfl) ?_;refine ab [75,80] [] rfl rfl (by assumption) rfl (cV aa rfl rfl rfl rfl) ?_;refine ab [75,7] [] rfl rfl (by assumption) rfl (ay aa (fun K hk=>hk)) ?_;refine ab [75,8] [] rfl rfl (by assumption) rfl (ay aa (fun K hk=>hk)) ?_;refine ab [75,82,83] [] rfl rfl (by assumption) rfl (aA aa rfl rfl rfl rfl rfl (by omega) hu2) ?_;refine ab [75,84] [] rfl rfl (by assumption) rfl (ay aa (fun K hk=>hk)) ?_;refine ab [75,85] [] rfl rfl (by assumption) rfl (bA aa rfl rfl) ?_;refine ab [75,86] [] rfl rfl (by assumption) rfl (cV aa rfl rfl rfl rfl) ?_;refine ab [75,81,87] [] rfl rfl (by assumption) rfl (iy aa rfl rfl rfl) ?_;refine dQ [75,88] [] iF ?_;refine aC (by kernel_rfl)<|aU ?_;refine wF<|bG<|zC<|ao ?_;refine rC ?_;refine rQ iD ?_;refine rC<|aB ?_
   exact aY (k+1) [(64,some _),(65,some _)] ⟨hkl,fun j hj=>by
    by_cases e:j=k
    ·subst e; rw[ho,hu]; obtain⟨_,_,_⟩:=o; obtain⟨_,_,_⟩:=u; simp only at k1 k2 k3; rw[k1,k2,k3]
    ·exact hsk j (by omega)⟩ (by omega) (lg zg ⟨zR,zR,trivial⟩)
  ·have d2:decide ((k:Int)<(p.length:Int))=false:=dF (by omega)
   have hpe:p=q:=mc hpq fun j hj=>hsk j (by omega)
   refine qR<|zD ?_;refine rQ iE ?_;refine rC ?_;refine zG<|dA<|gg<|eJ<|gq<|zC<|ao ?_;refine rC ?_;refine rQ iD ?_;refine rC<|aB ?_
   exact aY (i+1) [(64,some _),(65,some _)] ⟨hlt,fun j hj=>by
    by_cases e:j=i
    ·subst e; rw[hp,hq,hpe]
    ·exact hsame j (by omega)⟩ (by omega) (lg zj ⟨zR,zR,trivial⟩)
 ·have d1:decide ((i:Int)<(l.length:Int))=false:=dF (by omega)
  have hle:l=m:=mc hlm fun j hj=>hsame j (by omega)
  rw[show (if iV c d l m bs cs=true then (1:Int) else 0)=if bs=cs then 1 else 0 by rw[iV,dT hcd,dT hle]; by_cases h:bs=cs <;> simp[h]]
  refine qR<|zD ?_;refine rQ iB ?_;refine rQ iE ?_;refine rC ?_;refine zG<|zX<|sR ?_;refine rC ?_;refine rQ iB ?_;refine rC ?_;refine rQ iB ?_;refine rQ (ak hal rfl rfl (aj (aj ae)) (.inl rfl) (fun _=>rfl)) ?_;refine rC<|nS<|cg ?_
  exact⟨trivial,[],lf⟩
theorem Bn {S:Nat→Prop} {te:TypeId} {ex:Bool} (p:List POp):aE (.ds te 3 ex (dO S) p) (.ds te 3 ex br p):=aE.ds_map id (List.map_id _).symm fun x _=>n6 x
theorem BC {S:Nat→Prop} {te:TypeId} {ex:Bool} (p:List SAct):aE (.ds te 5 ex (eS S) p) (.ds te 5 ex aX p):=aE.ds_map id (List.map_id _).symm fun x _=>sH x
def df (T:Nat→Prop) (c:SCfg) (l:List (List POp)) (bs:List SAct):D :=.cons (bt c) (.cons (.re false T (cE l)) (.cons (.re false T (e6 bs)) .nil))
def kU (T:Nat→Prop) (c:SCfg) (l:List (List POp)) (bs:List SAct):D :=.cons (bt c) (.cons (.re false T (cE l)) (.cons (.re false T (jn bs)) .nil))
theorem fX (c:SCfg):(bt c).cl:=⟨trivial,trivial,trivial,trivial,trivial,trivial,fun _=>trivial,trivial,trivial⟩
theorem vk {T:Nat→Prop} {c:SCfg} {l:List (List POp)} {bs:List SAct}:DLe (.re false T (bB c l bs)) (df T c l bs):=
 DLe.re_cons DLe.re (DLe.re_cons (DLe.refl _) (DLe.re_cons (DLe.refl _) DLe.re))
theorem bE {T:Nat→Prop} {c:SCfg} {l:List (List POp)} {bs:List SAct}:DLe (df T c l bs) (bB c l bs):=
 DLe.cons (DLe.refl _) (DLe.cons DLe.re (DLe.cons DLe.re (DLe.refl _)))
theorem xm {A T:Nat→Prop} (h:∀b,A b→T b) {c:SCfg} {l:List (List POp)} {bs:List SAct}:DLe (df T c l bs) (.re false A (bB c l bs)):=
 DLe.cons_re (DLe.cl_re (fX c)) (DLe.cons_re (DLe.re_sub h) (DLe.cons_re (DLe.re_sub h) (DLe.cl_re trivial)))
theorem xn {T:Nat→Prop} {c:SCfg} {l:List (List POp)} {bs:List SAct}:DLe (.re false T (.cons (bt c) (.cons (cE l) (.cons (jn bs) .nil)))) (kU T c l bs):=
 DLe.re_cons DLe.re (DLe.re_cons (DLe.refl _) (DLe.re_cons (DLe.refl _) DLe.re))
theorem nN (S:Nat→Prop) (c:SCfg) (p0:List POp) (rest:List (List POp)) (bs:List SAct) (i:Nat) (hi:i<bs.length) (hr:rest.length≤100000) (hb:bs.length≤1000000) (hp:∀p∈p0::rest,p.length≤1000000∧∀o∈p,o.data.length≤1000000) (hbb:∀a∈bs,a.bytes.length≤1000000) :
  FnIs Tryz.prog 6 [.d (bB c (p0::rest) bs),.int .i64 i] [(0,.lo S)] (.tup (.acons (.d (.cons (bt c) (.cons (cE (p0::rest)) (.cons (jn (woA i bs)) .nil)))) (.acons (.d (i6 0)) .anil))) [(0,.lo S)]:=by
 have h0:=sV S c p0 rest bs i hi hr hb hp hbb
 have h1:=h0.freeze_out (rows':=[(0,.lo S),(64,.ds 49 1 true encP (p0::rest)),(66,.ds 48 5 true (eS S) (woA i bs))]) 65 _ rfl (Frz.refl _) ⟨zF,⟨rfl,_,rfl,FrzR.row_le (Bn p0) (FrzR.first (enc:=encP) (xs:=rest) (y:=p0) rfl rfl rfl (fun _=>rfl) rfl)⟩,zF,trivial⟩
 have h2:=h1.freeze_out (rows':=[(0,.lo S),(66,.ds 48 5 true (eS S) (woA i bs))]) (res' :=.tup (.acons (.acons (.d (bt c)) (.acons (.d (cE (p0::rest))) (.acons (.own 66 0 (woA i bs).length 5 none) (.d .nil)))) (.acons (.d (i6 0)) .anil))) 64 _ rfl (Frz.tup (FrzT.cons (Frz.cons (.refl _) (Frz.cons (Frz.own rfl) (.refl _))) (FrzT.cons (Frz.refl _) FrzT.nil))) ⟨zF,zF,trivial⟩
 exact h2.freeze_out 66 _ rfl (Frz.tup (FrzT.cons (Frz.dcons (.refl _) (Frz.dcons (.refl _) (Frz.dcons (Frz.row_le (BC _) (Frz.ownxe rfl)) (.refl _)))) (FrzT.cons (Frz.refl _) FrzT.nil))) ⟨zF,trivial⟩
theorem ur (A S:Nat→Prop) (c:SCfg) (p0:List POp) (rest:List (List POp)) (bs:List SAct) (i:Nat) (hi:i<bs.length) (hr:rest.length≤100000) (hb:bs.length≤1000000) (hp:∀p∈p0::rest,p.length≤1000000∧∀o∈p,o.data.length≤1000000) (hbb:∀a∈bs,a.bytes.length≤1000000) :
  FnIs Tryz.prog 6 [.d (.re false A (bB c (p0::rest) bs)),.d (.re false A (i6 i))] [(0,.lo S),(1,.lo A)] (.tup (.acons (.d (kU A c (p0::rest) (woA i bs))) (.acons (.d (i6 0)) .anil))) [(0,.lo S),(1,.lo A)]:=
 FnIs.res_le (AVLe.tup1 (AVLe.d xn rfl) rfl) (fun _=>⟨trivial,trivial,trivial⟩) (FnIs.avoid (k:=0) (k':=1) (A:=A) (ds:=[bB c (p0::rest) bs,i6 i]) (by decide) (by decide) (by decide) (nN S c p0 rest bs i hi hr hb hp hbb))
abbrev zS0:D :=.cons (bt mR) (.cons (.sc (.slice none 0 0)) (.cons (.sc (.slice none 0 0)) .nil))
theorem jW:DLe zS0 ug:=DLe.cons (DLe.refl _) (DLe.cons (DLe.nil_arr _ _) (DLe.cons (DLe.nil_arr _ _) (DLe.refl _)))
abbrev fI (c:SCfg) (m k q r:Nat):AV :=.acons (.d (bt c)) (.acons (.own q 0 m 1 none) (.acons (.own r 0 k 5 none) (.d .nil)))
abbrev kT (e1:POp→D) (e2:SAct→D) (p0:List POp) (rest:List (List POp)) (bs:List SAct):List (Nat×Row):=[(1,.lits 49 1 (rest.length+1) true (chF (.own 2 0 p0.length 3 none) (rest.map encP))),(2,.ds 52 3 true e1 p0),(3,.ds 48 5 true e2 bs)]
theorem qf {e1:POp→D} {e2:SAct→D} (h1:∀x,DLe (e1 x) (br x)) (h2:∀x,DLe (e2 x) (aX x)) (c:SCfg) (p0:List POp) (rest:List (List POp)) (bs:List SAct) (y:D) :
  jb [fI c (rest.length+1) bs.length 1 3,.d y] (kT e1 e2 p0 rest bs) [.d (bB c (p0::rest) bs),.d y] []:=
 .freeze (avs':=[fI c (rest.length+1) bs.length 1 3,.d y]) (h0':=[(1,.ds 49 1 true encP (p0::rest)),(3,.ds 48 5 true e2 bs)]) 2 _ rfl ⟨zE,zE,trivial⟩ ⟨⟨rfl,_,rfl,FrzR.row_le (aE.ds_map id (List.map_id _).symm fun x _=>h1 x) (FrzR.first (enc:=encP) (xs:=rest) (y:=p0) rfl rfl rfl (fun _=>rfl) rfl)⟩,zF,trivial⟩ rfl
 (.freeze (avs':=[.acons (.d (bt c)) (.acons (.d (cE (p0::rest))) (.acons (.own 3 0 bs.length 5 none) (.d .nil))),.d y]) (h0':=[(3,.ds 48 5 true e2 bs)]) 1 _ rfl ⟨⟨_,rfl,Frz.cons (.refl _) (Frz.cons (Frz.own rfl) (.refl _))⟩,zE,trivial⟩ ⟨zF,trivial⟩ rfl
 (.freeze (avs':=[.d (bB c (p0::rest) bs),.d y]) (h0':=[]) 3 _ rfl ⟨⟨_,rfl,Frz.dcons (.refl _) (Frz.dcons (.refl _) (Frz.dcons (Frz.row_le (aE.ds_map id (List.map_id _).symm fun x _=>h2 x) (Frz.own rfl)) (.refl _)))⟩,zE,trivial⟩ trivial rfl (jb.refl _ _)))
theorem sU {e1:POp→D} {e2:SAct→D} (h1:∀x,DLe (e1 x) (br x)) (h2:∀x,DLe (e2 x) (aX x)) (c:SCfg) (p0:List POp) (rest:List (List POp)) (bs:List SAct) :
  jb [fI c (rest.length+1) bs.length 1 3] (kT e1 e2 p0 rest bs) [.d (bB c (p0::rest) bs)] []:=
 .freeze (avs':=[fI c (rest.length+1) bs.length 1 3]) (h0':=[(1,.ds 49 1 true encP (p0::rest)),(3,.ds 48 5 true e2 bs)]) 2 _ rfl ⟨zE,trivial⟩ ⟨⟨rfl,_,rfl,FrzR.row_le (aE.ds_map id (List.map_id _).symm fun x _=>h1 x) (FrzR.first (enc:=encP) (xs:=rest) (y:=p0) rfl rfl rfl (fun _=>rfl) rfl)⟩,zF,trivial⟩ rfl
 (.freeze (avs':=[.acons (.d (bt c)) (.acons (.d (cE (p0::rest))) (.acons (.own 3 0 bs.length 5 none) (.d .nil)))]) (h0':=[(3,.ds 48 5 true e2 bs)]) 1 _ rfl ⟨⟨_,rfl,Frz.cons (.refl _) (Frz.cons (Frz.own rfl) (.refl _))⟩,trivial⟩ ⟨zF,trivial⟩ rfl
 (.freeze (avs':=[.d (bB c (p0::rest) bs)]) (h0':=[]) 3 _ rfl ⟨⟨_,rfl,Frz.dcons (.refl _) (Frz.dcons (.refl _) (Frz.dcons (Frz.row_le (aE.ds_map id (List.map_id _).symm fun x _=>h2 x) (Frz.own rfl)) (.refl _)))⟩,trivial⟩ trivial rfl (jb.refl _ _)))
def pE (x:CX) (ps:List (List PQ)) (l:List XA):D :=.cons (me x (kD ps)) (.cons (.arr 4 sp l) .nil)
def gR (x:CX) (l:List XA):List SAct:=(l.take 120).map fun a=>aOf a x
theorem Bl {α:Type} {l:List α} {i:Nat} (h:i≤120) (h2:i=l.length∨i=120):l.take i=l.take 120:=by
 rcases h2 with rfl | rfl
 ·rw[List.take_length,List.take_of_length_le h]
 ·rfl
abbrev x8 (c:SCfg) (l:List (List POp)) (n r:Nat):Row :=.box 38 (.acons (.d (bt c)) (.acons (.d (cE l)) (.acons (.own r 0 n 5 none) (.d .nil))))
theorem wR (x:CX) (ps:List (List PQ)) (l:List XA) (hb:∀p∈pOf ps,p.length≤1000) (hal:(pOf ps).length≤1000):FnIs Tryz.prog 4 [.d (pE x ps l)] [] (.acons (.d (bt (fB x))) (.acons (.d (cE (cv x.blocks x.clients (pOf ps)))) (.acons (.own 64 0 (gR x l).length 5 none) (.d .nil)))) [(64,.ds 48 5 false aX (gR x l))]:=by
 have hco:=yR x ps _ rfl hb hal
 obtain⟨L,hL⟩:∃L,cv x.blocks x.clients (pOf ps)=L:=⟨_,rfl⟩
 rw[hL]at hco ⊢
 refine aw aa Tryz.func4 rfl rfl rfl ?_;refine sR ?_;iterate 2 refine rN ?_
 refine nR<|rC ?_;refine rQ iB ?_;refine rQ (ak hco rfl rfl (aj ae) (.inl rfl) (fun _=>rfl)) ?_;refine zU ?_;refine rN ?_;refine rW ?_;refine rC<|nR ?_;refine rQ iM ?_;refine rC ?_;refine rQ iS ?_;refine rN ?_;refine rW<|zW ?_;refine rC<|zP ?_
 refine wc_inv (fun i:Nat=>⟨[(6,.int .i64 i),(5,.ptr 66 []),(3,.ptr 65 []),(2,.ptr 67 []),(1,.ptr 64 [])],[(64,some (.box 29 (.d (pE x ps l)))),(65,some (.box 34 (.d (bt (fB x))))),(66,some (x8 (fB x) L ((l.take i).map fun a=>aOf a x).length 68)),(67,some (.box 38 (.d r38.zero))),(68,some (.ds 48 5 false aX ((l.take i).map fun a=>aOf a x)))],72,Tryz.f4.ntmps,64⟩) (fun i=>i≤l.length∧i≤120) (fun i=>l.length-i) 0 [(64,some _),(65,some _),(66,some _),(67,some _),(68,none)] ⟨Nat.zero_le _,by omega⟩
  (lg zh ⟨zR,zR,⟨rfl,rfl,_,rfl,uw⟩,zR,⟨rfl,rfl,rfl⟩,trivial⟩) ?_
 rintro i ⟨hi,hi2⟩
 refine bv ?_
 by_cases hlt:i<l.length∧i<120
 ·obtain⟨h1,h2⟩:=hlt
  have d1:decide ((i:Int)<(l.length:Int))=true:=dT (by omega)
  have d2:decide ((i:Int)<120)=true:=dT (by omega)
  obtain⟨a,ha⟩:∃a,l[i]?=some a:=⟨_,List.getElem?_eq_getElem h1⟩
  have ha2:l[((i:Int)).toNat]?=some a:=by rw[Int.toNat_natCast]; exact ha
  have htk:((l.take (i+1)).map fun a=>aOf a x)=((l.take i).map fun a=>aOf a x)++[aOf a x]:=by rw[List.take_add_one,ha]; simp
  have hln:((l.take (i+1)).map fun a=>aOf a x).length=((l.take i).map fun a=>aOf a x).length+1:=by rw[htk]; simp
  have hA:((l.take i).map fun a=>aOf a x).length+1≤1048576:=by rw[List.length_map,List.length_take]; omega
  refine qR<|zD ?_;refine rQ iB ?_;refine rQ iE ?_;refine zD ?_;refine rO ?_;refine rC ?_;refine rO ?_;refine rC ?_;refine rQ iT ?_;refine zI<|zQ<|aZ ?_;refine aH (by kernel_rfl) ?_;refine dC [5] [] ?_;refine dQ [27] [66] iM ?_;refine dC [1] [] ?_;refine dQ [29] [64] iB ?_;refine dC [6] [] ?_;refine dQ [30,31] [] (aA aa rfl rfl rfl rfl rfl (by omega) ha2) ?_;refine dQ [32] [] iL ?_;refine dQ [3] [65] iM ?_;refine dQ [33,34] [] (ak (yT a x) rfl rfl (aj (aj ae)) (.inl rfl) (fun _=>rfl)) ?_;refine eL [35] [] rfl (aV (s:=5) aa rfl rfl rfl rfl rfl rfl rfl rfl) ?_
  refine gG [28,36] [68,216] rfl (bR (xs:=(l.take i).map fun a=>aOf a x) (s:=5) (enc:=aX) aa (aOf a x) rfl rfl rfl rfl rfl rfl rfl rfl rfl hA rfl) ?_
  refine dC [5] [] ?_;refine ca [38,37] [66] (aF aa rfl rfl rfl ⟨_,⟨_,⟨rfl,rfl,rfl⟩,rfl⟩,rfl⟩ rfl) ?_;refine aC (by kernel_rfl)<|ew<|aU<|ao ?_;refine rC ?_;refine rQ iD ?_;refine rC<|aB ?_
  exact aY (i+1) [(64,some _),(65,some _),(66,some _),(67,some _),(68,some _)] ⟨h1,by omega⟩ (by omega) (lg zh ⟨zR,zR,⟨rfl,rfl,_,rfl,aE.of_eq (by rw[x8,hln]; rfl)⟩,zR,⟨rfl,rfl,_,rfl,aE.of_eq (by rw[htk]; rfl)⟩,trivial⟩)
 ·have hops:((l.take i).map fun a=>aOf a x)=gR x l:=by rw[gR,Bl hi2 (by omega)]
  rw[hops]
  by_cases h5:i<l.length
  ·have d1:decide ((i:Int)<(l.length:Int))=true:=dT (by omega)
   have d2:decide ((i:Int)<120)=false:=dF (by omega)
   refine qR<|zD ?_;refine rQ iB ?_;refine rQ iE ?_;refine zD ?_;refine rO ?_;refine rC ?_;refine rO ?_;refine rC ?_;refine rQ iT ?_;refine zG<|dA<|gg<|eJ<|gq<|aU<|sR ?_;refine rQ iM ?_;refine rW<|zT ?_
   exact⟨trivial,_,rfl,[(64,some 68)],lg zV ⟨zR,trivial⟩⟩
  ·have d1:decide ((i:Int)<(l.length:Int))=false:=dF (by omega)
   refine qR<|zD ?_;refine rQ iB ?_;refine rQ iE ?_;refine zD ?_
   iterate 2 refine rS ?_
   refine rQ iF ?_;refine zJ<|zX<|sR ?_;refine rQ iM ?_;refine rW<|zT ?_
   exact⟨trivial,_,rfl,[(64,some 68)],lg zV ⟨zR,trivial⟩⟩
theorem ym (x:CX) (ps:List (List PQ)) (l:List XA) (hb:∀p∈pOf ps,p.length≤1000) (hal:(pOf ps).length≤1000):FnIs Tryz.prog 4 [.d (pE x ps l)] [] (.d (bB (fB x) (cv x.blocks x.clients (pOf ps)) (gR x l))) []:=
 (wR x ps l hb hal).freeze_out 64 _ rfl (Frz.dcons (.refl _) (Frz.dcons (.refl _) (Frz.dcons (Frz.own rfl) (.refl _)))) trivial
abbrev rowS3 (c:SCfg) (m q n r:Nat):Row :=.box 38 (.acons (.d (bt c)) (.acons (.own q 0 m 1 none) (.acons (.own r 0 n 5 none) (.d .nil))))
abbrev rowPF (rest:List (List POp)) (m b:Nat):Row :=.lits 49 1 (rest.length+1) false (chF (.own b 0 m 3 none) (rest.map encP))
abbrev rowP0 (p0:List POp):Row :=.ds 52 3 false br p0
abbrev rowAc (l:List SAct):Row :=.ds 48 5 false aX l
end Go.Proofs.YtpmhnpnmpjimnaaGreatDoor
namespace Go.Proofs.YtpmhnpnmpjimnaaGreatDoor
open Go.Eng Go.Plain
set_option maxHeartbeats 32000000
set_option maxRecDepth 20000
set_option maxRecDepth 20000
theorem yr (x:PQ):(qOf x).Ok:=by
 have h1:=x.kind.toNat_lt
 have h2:=x.index.toNat_lt
 have h3:=x.data.toNat_lt
 unfold qOf
 split
 ·exact⟨⟨by show (0:Int)≤1; decide,by show (1:Int)≤(255:Int); decide⟩,⟨by show-9223372036854775808≤((x.index.toNat % 22:Nat):Int)-1; omega,by show ((x.index.toNat % 22:Nat):Int)-1≤9223372036854775807; omega⟩⟩
 split
 ·exact⟨⟨by show (0:Int)≤2; decide,by show (2:Int)≤(255:Int); decide⟩,⟨by show-9223372036854775808≤((x.index.toNat % 22:Nat):Int)-1; omega,by show ((x.index.toNat % 22:Nat):Int)-1≤9223372036854775807; omega⟩⟩
 split
 ·exact⟨⟨by show (0:Int)≤((x.data.toNat % 4:Nat):Int); omega,by show ((x.data.toNat % 4:Nat):Int)≤255; omega⟩,⟨by show-9223372036854775808≤(x.index.toNat:Int)-100; omega,by show (x.index.toNat:Int)-100≤9223372036854775807; omega⟩⟩
 ·exact⟨⟨by decide,by decide⟩,⟨by decide,by decide⟩⟩
theorem uJ (x:PQ):(qOf x).data.length≤32:=by
 unfold qOf
 split
 ·simp
 split
 ·simp
 split
 ·simp; omega
 ·simp
theorem xe (l:List (List PQ)):(pOf l).length≤3:=by rw[pOf,List.length_map,List.length_take]; omega
theorem rR {l:List (List PQ)} {p:List POp} (hp:p∈pOf l):p.length≤3∧∀o∈p,o.Ok∧o.data.length≤32:=by
 obtain⟨q,_,rfl⟩:=List.mem_map.1 hp
 refine⟨by rw[ec,List.length_map,List.length_take]; omega,fun o ho=>?_⟩
 obtain⟨x,_,rfl⟩:=List.mem_map.1 ho
 exact⟨yr x,uJ x⟩
theorem xC {n:Nat} (hn:1≤n∧n≤20) {o:POp} (h:o.Ok):(idxM n o).Ok∧(idxM n o).data=o.data:=by
 unfold idxM
 split
 ·have hm:o.index.toNat % n<n:=Nat.mod_lt _ (by omega)
  generalize o.index.toNat % n=q at *
  exact⟨⟨h.kind,by simp only; omega⟩,rfl⟩
 ·exact⟨h,rfl⟩
theorem jf {x:CX} {ps:List (List PQ)} {p:List POp} (hp:p∈cv x.blocks x.clients (pOf ps)):p.length≤3∧∀o∈p,o.Ok∧o.data.length≤32:=by
 obtain⟨i,_,rfl⟩:=List.mem_map.1 hp
 rw[o7]
 cases hq:(pOf ps)[i]? with
 | none=>simp
 | some q =>
  obtain⟨h1,h2⟩:=rR (List.mem_of_getElem? hq)
  refine⟨by simpa using h1,fun o ho=>?_⟩
  obtain⟨o',ho',rfl⟩:=List.mem_map.1 ho
  obtain⟨h3,h4⟩:=xC ⟨(dI x).1,(dI x).2.1⟩ (h2 o' ho').1
  exact⟨h3,by rw[h4]; exact (h2 o' ho').2⟩
theorem qE (x:CX) (ps:List (List PQ)):chkP (cv x.blocks x.clients (pOf ps))=0:=by
 obtain⟨a1,a2,a3,a4,a5,a6,_⟩:=dI x
 refine ep.2 ⟨by rw[fv]; omega,fun p hp=>?_⟩
 obtain⟨h1,h2⟩:=jf hp
 simp only[badP,Bool.or_eq_false_iff,decide_eq_false_iff_not,List.any_eq_false,decide_eq_true_eq]
 exact⟨by omega,fun o ho=>by have:=(h2 o ho).2; omega⟩
theorem wX (x:CX) (ps:List (List PQ)) (l:List XA):schk (fB x) (cv x.blocks x.clients (pOf ps)) (gR x l)=0:=by
 have hl:(gR x l).length≤120:=by rw[gR,List.length_map,List.length_take]; omega
 rw[schk,if_neg (fun e=>e (mu x)),if_neg (fun e=>e (qE x ps)),if_neg (fun e=>e (by rw[fv]; rfl)),if_neg (by omega),if_pos]
 refine List.all_eq_true.2 fun a ha=>?_
 obtain⟨y,_,rfl⟩:=List.mem_map.1 ha
 exact (y5 y x).1
theorem wo (x:CX):(fB x).Wr:=by
 obtain⟨a1,a2,a3,a4,a5,a6,a7,a8,a9,a10⟩:=dI x
 obtain⟨_,_,_,_,_,_,f1,f2,_⟩:=rA (mu x)
 have hl:x.limit≤1000:=by unfold CX.limit; split <;> omega
 refine⟨⟨Int.natCast_nonneg _,?_⟩,⟨Int.natCast_nonneg _,?_⟩,⟨Int.natCast_nonneg _,by omega⟩,⟨Int.natCast_nonneg _,?_⟩,⟨Int.natCast_nonneg _,?_⟩,⟨Int.natCast_nonneg _,?_⟩,by simp[fB],⟨Int.le_refl _,by show (0:Int)≤255; decide⟩⟩
 ·show (x.blocks:Int)<_; omega
 ·show (x.shards:Int)<_; omega
 ·show (x.clients:Int)<_; omega
 ·show (x.limit:Int)≤_; omega
 ·show (x.reserve:Int)≤_; omega
theorem o6 (x:CX) (ps:List (List PQ)):∃p0 rest,cv x.blocks x.clients (pOf ps)=p0::rest:=by
 have hcx:=dI x
 have hL0:=fv x.blocks x.clients (pOf ps)
 cases h:cv x.blocks x.clients (pOf ps) with
 | nil=>rw[h]at hL0; simp at hL0; omega
 | cons p0 rest=>exact⟨p0,rest,rfl⟩
theorem oS {c:SCfg} {l:List (List POp)} {bs bs':List SAct} (h:schk c l bs=0) (hs:∀a∈bs',a∈bs) (hl:bs'.length≤bs.length):schk c l bs'=0:=by
 obtain⟨h1,h2,h3,h4,h5⟩:=jv h
 rw[schk,if_neg (fun e=>e h1),if_neg (fun e=>e h2),if_neg (fun e=>e h3),if_neg (by omega),if_pos]
 exact List.all_eq_true.2 fun a ha=>h5 a (hs a ha)
theorem uf {t s:Int} {a:SAct} (h:actB t s a=true):a.kind=1∨a.kind=2∨a.kind=3∨a.kind=4∨a.kind=5:=by
 unfold actB at h
 by_cases h1:a.kind=1
 ·exact .inl h1
 by_cases h2:a.kind=2
 ·exact .inr (.inl h2)
 by_cases h3:a.kind=3
 ·exact .inr (.inr (.inl h3))
 by_cases h4:a.kind=4
 ·exact .inr (.inr (.inr (.inl h4)))
 by_cases h5:a.kind=5
 ·exact .inr (.inr (.inr (.inr h5)))
 ·simp[h1,h2,h3,h4,h5]at h
theorem sA:∀(l:List SAct),(∀a∈l,a.kind=1∨a.kind=2∨a.kind=3∨a.kind=4∨a.kind=5)→cA isP l+cA isE l+cA isF l=l.length
 | [],_=>rfl
 | a::l,h=>by
  have h1:=sA l fun b hb=>h b (List.mem_cons_of_mem _ hb)
  have h2:=h a List.mem_cons_self
  simp only[cA]at h1 ⊢
  rw[List.countP_cons,List.countP_cons,List.countP_cons,List.length_cons]
  rcases h2 with e | e | e | e | e <;> simp[isP,isE,isF,e] <;> omega
theorem uh {i:Nat} {bs:List SAct}:∀a∈woA i bs,a∈bs:=fun a ha=>by
 rcases List.mem_append.1 ha with h | h
 ·exact List.mem_of_mem_take h
 ·exact List.mem_of_mem_drop h
theorem yj {i:Nat} {bs:List SAct} (h:i<bs.length):(woA i bs).length+1=bs.length:=by
 rw[woA,List.length_append,List.length_take,List.length_drop]; omega
end Go.Proofs.YtpmhnpnmpjimnaaGreatDoor
namespace Go.Eng
open Go.RowKit
section
variable {P : Program} {T : Tab} {env : Env} {h : Upds} {n : Nat}
theorem r8 (hT:an P T) {t:TypeId} {x:Operand} {y:D} {f:Bool} {S:Nat→Prop} (hx:au env x=some (.d (.re f S (.pt y)))) (hs:bm T t (.d y)=true):aq P (.load t x) env h n (some (.d y)) []:=.of_comes fun C G st σ w a o ho hA hd hst hn=>by
 obtain⟨h0,_⟩:=am hst (hA.ev hx)
 have h1:RelV σ w (st.X C.X0 σ) (.d (.pt y)) _:=RelV.mono (G:=fun _=>True) (fun _ _=>rfl) (fun _ _ h5 h6=>⟨.rfl' h5,fun h7=>h6 (.inl h7)⟩) (AV.d (.pt y)).within_all (RelV.re.1 h0)
 obtain⟨ad,m,hu,hm,hst'⟩:=RelV.iptr.1 (RelV.pt.1 h1)
 obtain⟨tr,htr,hsz,hf,hag⟩:=bm.out hs
 have hm':Rel σ w (st.X C.X0 σ) (.d y) false m:=hm
 have hl:m.length=tr.size:=by rw[Rel.len _ _ hf hm',hsz]
 obtain⟨u,hrun,hrel⟩:=fK (hT t tr htr) (fun j u hj=>(hst' j u hj).1) hl hm' hf hag
 refine .quiet hst hd ⟨rfl,rfl⟩ ?_ hrel trivial
 simp[execOp,ho,Instr.loadAt,hu,Instr.sureAddr,hrun]
end
end Go.Eng
namespace Go.Eng
open Go.RowKit
section
variable {P : Program} {T : Tab} {env : Env} {h : Upds} {n : Nat}
theorem oB (hT:an P T) {t e:Nat} {re:TyR} {x y:Operand} {α:Type} {s:Nat} {enc:α→D} {xs:List α} (ht:aT T t=some (.slice e)) (he:lk T e=some re)
  (hx:au env x=some (.d (.arr s enc xs))) (hy:au env y=some (.d (.arr s enc ([]:List α)))) :
  aq P (.call { callee :=.builtin .append,args := #[x,y],argTypes := #[t,t] }) env h n (some (.d (.arr s enc xs))) []:=.of_comes fun C G st σ w ac o ho hA hd hst hn=>by
 obtain⟨ud,hud,hdd⟩:=aM hT ht
 cases hdd
 obtain⟨hx1,_⟩:=am hst (hA.ev hx)
 obtain⟨hy1,_⟩:=am hst (hA.ev hy)
 have hsz:=(hT e re he).run_size (P:=P)
 have h0:∀a:Addr,(loadCells a 0).run P w=.ok #[] w:=fun a=>by simpa using run_loadCells_list (P:=P) w a [] (by simp)
 refine .quiet (u:=ac.eval x) hst hd ⟨rfl,rfl⟩ ?_ hx1 trivial
 rcases RelV.arr.1 hy1 with ⟨_,hu⟩ | ⟨a,c,hu,_⟩
 ·rcases RelV.arr.1 hx1 with ⟨_,hv⟩ | ⟨ad,c2,hv,hc,_⟩
  ·simp[execOp,ho,resolve,invoke,builtin,Builtin.append_,hv,hu,run_underlying hud,hsz,Builtin.lenOf,Builtin.firstCells,storeCells,Sem.run_bind,Sem.run_pure,Result.andThen_ok]
  ·simp[execOp,ho,resolve,invoke,builtin,Builtin.append_,hv,hu,hc,run_underlying hud,hsz,Builtin.lenOf,Builtin.firstCells,storeCells,Sem.run_bind,Sem.run_pure,Result.andThen_ok]
 ·rcases RelV.arr.1 hx1 with ⟨_,hv⟩ | ⟨ad,c2,hv,hc,_⟩
  ·simp[execOp,ho,resolve,invoke,builtin,Builtin.append_,hv,hu,run_underlying hud,hsz,Builtin.lenOf,Builtin.firstCells,h0,storeCells,Sem.run_bind,Sem.run_pure,Result.andThen_ok]
  ·simp[execOp,ho,resolve,invoke,builtin,Builtin.append_,hv,hu,hc,run_underlying hud,hsz,Builtin.lenOf,Builtin.firstCells,h0,storeCells,Sem.run_bind,Sem.run_pure,Result.andThen_ok]
end
end Go.Eng
namespace Go.Eng
open Go.RowKit
section
variable {P : Program} {T : Tab} {env : Env} {h : Upds} {n : Nat}
end
end Go.Eng
namespace Go.Eng
open Go.RowKit
section
variable {P : Program} {T : Tab} {env : Env} {h : Upds} {n : Nat}
theorem aq.frozen2 {op:Op} {av av':AV} {row:Row} {r:Nat} (hs:aq P op env h n (some av) [(n,some row),(r,none)]) (hf:Frz n row av av'):aq P op env h n (some av') [(r,none)]:=by
 intro C G st σ w a o ho hA hd hst hn hb next Q hnext
 refine hs C G st σ w a o ho hA hd hst hn hb next Q fun x w' σ' G' hst' h1 h2=>?_
 have hnr:∀q row',st.row q=some row'→q≠n:=fun q row' hq e=>by
  subst e
  exact hn q (Nat.le_refl _) (by omega) (hst.rowsG _ _ hq).1
 have hrow:(st.put o.dst (some av) [(n,some row),(r,none)]).row n=some row:=by
  simp[St.put,St.row,aD]
 refine hnext x w' σ' G' (hst'.freeze (st':=st.put o.dst (some av') [(r,none)]) n row hrow (fun i v' hi=>?_) (fun q x' hq=>?_) rfl rfl) h1 h2
 ·cases hdst:o.dst with
  | none =>
   simp only[St.put,hdst]at hi ⊢
   exact⟨v',hi,.refl _⟩
  | some d =>
   simp only[St.put,hdst,aD]at hi ⊢
   split at hi
   ·rename_i e
    rw[if_pos e]
    simp only[Option.some.injEq]at hi
    exact⟨av,rfl,by rw[←hi]; exact hf⟩
   ·rename_i e
    rw[if_neg e]
    exact⟨v',hi,.refl _⟩
 ·simp only[St.put,St.row,List.cons_append,List.nil_append,aD]at hq
  by_cases e:r=q
  ·rw[if_pos e]at hq; cases hq
  ·rw[if_neg e]at hq
   have hn2:q≠n:=hnr q x' hq
   refine⟨hn2,x',?_,.refl _⟩
   simp only[St.put,St.row,List.cons_append,List.nil_append,aD,if_neg (Ne.symm hn2),if_neg e]
   exact hq
end
end Go.Eng
