/- Texts of the proof: YG2, Eng104, Eng105, Y22, Y23, Eng108, Y24, YS, YS2, Eng109, Y25, P45, H18, H19, H20, YW, YR, Eng110, Y26, YT9. -/
import Derived.Test.YtkehohfgbblokaaG05
import Derived.Test.YtkehohfgbblokaaG02
import Derived.Test.YtkehohfgbblokaaG04
import Derived.Test.YtkehohfgbblokaaG03

set_option linter.unusedVariables false
set_option linter.unusedSimpArgs false
set_option linter.unusedSectionVars false

namespace Go.Proofs.Ytkehohfgbblokaa
open Go.Eng Go.Plain
set_option maxHeartbeats 32000000
set_option maxRecDepth 20000
def cntF (o:List Bool):Nat:=o.countP (!·)
theorem lc {o:List Bool} {i:Nat} (h:o[i]?=some false):cntF (o.set i true)+1=cntF o:=by
 induction o generalizing i with
 | nil=>simp at h
 | cons a o ih =>
  cases i with
  | zero =>
   simp only[List.getElem?_cons_zero,Option.some.injEq]at h
   subst h
   simp[cntF]
  | succ i =>
   have:=ih (i:=i) (by simpa using h)
   simp only[cntF,List.set_cons_succ,List.countP_cons]at this ⊢
   omega
theorem ru (n:Nat):cntF (List.replicate n false)=n:=by
 unfold cntF
 induction n with
 | zero=>rfl
 | succ n ih=>rw[List.replicate_succ,List.countP_cons,ih]; rfl
structure BOk (n c:Nat) (B:List (List Int)):Prop where
 bl:B.length=n
 be:∀b∈B,b.length≤c∧∀k∈b,0≤k∧k<(n:Int)
theorem BOk.get {n c:Nat} {B:List (List Int)} (h:BOk n c B) {j:Nat} (hj:j<n):∃b,B[j]?=some b∧b.length≤c∧∀k∈b,0≤k∧k<(n:Int):=by
 have hl:j<B.length:=by rw[h.bl]; exact hj
 exact⟨_,List.getElem?_eq_getElem hl,h.be _ (List.getElem_mem hl)⟩
theorem xK {n c i:Nat} {B:List (List Int)} {y:aM} {xs:List Int} (hx:B[y.to.toNat]?=some xs):bkF i B y=B.set y.to.toNat (xs++[(i:Int)]):=by
 rw[bkF,hx]; rfl
theorem AC {n c i:Nat} {B:List (List Int)} {y:aM} (h:BOk n c B) (hi:i<n) (h0:0≤y.to) (h1:y.to<(n:Int)):BOk n (c+1) (bkF i B y):=by
 obtain⟨b,hb,hbl,hbe⟩:=h.get (j:=y.to.toNat) (by omega)
 rw[xK (n:=n) (c:=c) hb]
 refine⟨by rw[List.length_set]; exact h.bl,fun z hz=>?_⟩
 rcases List.mem_or_eq_of_mem_set hz with hz | rfl
 ·exact⟨Nat.le_succ_of_le (h.be z hz).1,(h.be z hz).2⟩
 ·refine⟨by rw[List.length_append,List.length_singleton]; omega,fun k hk=>?_⟩
  rcases List.mem_append.1 hk with hk | hk
  ·exact hbe k hk
  ·rw[List.mem_singleton.1 hk]; omega
structure SpOk (st:List LSt) (sp:List (List aM)):Prop where
 len:sp.length=st.length
 to:∀ys∈sp,∀y∈ys,0≤y.to∧y.to<(st.length:Int)
def totS:List (List aM)→Nat
 | []=>0
 | ys::l=>ys.length+totS l
theorem lw {sp:List (List aM)} {i:Nat} {ys:List aM} (h:sp[i]?=some ys):totS (sp.take (i+1))=totS (sp.take i)+ys.length:=by
 induction sp generalizing i with
 | nil=>simp at h
 | cons a sp ih =>
  cases i with
  | zero =>
   simp only[List.getElem?_cons_zero,Option.some.injEq]at h
   subst h
   simp[totS]
  | succ i =>
   have:=ih (i:=i) (by simpa using h)
   simp only[List.take_succ_cons,totS]
   omega
theorem mw (sp:List (List aM)) (i:Nat):totS (sp.take i)≤totS sp:=by
 induction sp generalizing i with
 | nil=>simp[totS]
 | cons a sp ih =>
  cases i with
  | zero=>simp[totS]
  | succ i=>have:=ih i; simp only[List.take_succ_cons,totS]; omega
structure OOk (n:Nat) (out:List Bool) (opn:List Int):Prop where
 ol:out.length=n
 oe:∀k∈opn,0≤k∧k<(n:Int)
 cnt:opn.length+cntF out≤n
theorem OOk.get {n:Nat} {out:List Bool} {opn:List Int} (h:OOk n out opn) {k:Int} (h0:0≤k) (h1:k<(n:Int)):∃c,out[k.toNat]?=some c :=
 ⟨_,List.getElem?_eq_getElem (by rw[h.ol]; omega)⟩
theorem wx {out:List Bool} {opn:List Int} {k:Int} (h:out[k.toNat]?=some true):pshF (out,opn) k=(out,opn):=by
 simp[pshF,h]
theorem wy {out:List Bool} {opn:List Int} {k:Int} (h:out[k.toNat]?=some false):pshF (out,opn) k=(out.set k.toNat true,opn++[k]):=by
 simp[pshF,h]
theorem OOk.psh {n:Nat} {out:List Bool} {opn:List Int} (h:OOk n out opn) {k:Int} (h0:0≤k) (h1:k<(n:Int)) (hk:out[k.toNat]?=some false):OOk n (out.set k.toNat true) (opn++[k])∧(opn++[k]).length+cntF (out.set k.toNat true)=opn.length+cntF out:=by
 have hc:=lc hk
 have hcnt:=h.cnt
 refine⟨⟨by rw[List.length_set]; exact h.ol,fun j hj=>?_,?_⟩,?_⟩
 ·rcases List.mem_append.1 hj with hj | hj
  ·exact h.oe j hj
  ·rw[List.mem_singleton.1 hj]; exact⟨h0,h1⟩
 ·rw[List.length_append,List.length_singleton]; omega
 ·rw[List.length_append,List.length_singleton]; omega
theorem OOk.pop {n:Nat} {out:List Bool} {opn:List Int} (h:OOk n out opn):OOk n out opn.dropLast :=
 ⟨h.ol,fun k hk=>h.oe k (List.dropLast_subset _ hk),by have:=h.cnt; rw[List.length_dropLast]; omega⟩
theorem og {α β:Type} {f:β→α→β} {l:List α} {j:Nat} {a:α} (h:l[j]?=some a) (b:β):(l.take (j+1)).foldl f b=f ((l.take j).foldl f b) a:=by
 have hlt:=(List.getElem?_eq_some_iff.1 h).1
 rw[List.take_succ_eq_append_getElem hlt,(List.getElem?_eq_some_iff.1 h).2,List.foldl_append]
 rfl
end Go.Proofs.Ytkehohfgbblokaa
namespace Go.Eng
open Go.RowKit
def farQ (a:Nat):Bool:=bif Nat.blt a 1000 then true else Nat.ble 10000000 a
theorem hU {a:Nat} (h:farQ a=true):a<1000∨10000000≤a:=by
 simp only[farQ]at h
 cases h1:Nat.blt a 1000 with
 | true=>exact .inl (Nat.le_of_ble_eq_true h1)
 | false=>rw[h1]at h; exact .inr (Nat.le_of_ble_eq_true h)
def iu:Upds→Bool
 | []=>true
 | (r,_)::l=>bif farQ r then iu l else false
theorem qT:∀(l:Upds),iu l=true→∀r∈ba l,farQ r=true
 | [],_,r,h=>by simp[ba]at h
 | (a,x)::l,h,r,hr=>by
  simp only[iu]at h
  cases hf:farQ a <;> simp only[hf,cond_true,cond_false]at h
  ·cases h
  simp only[ba,List.mem_cons]at hr
  rcases hr with rfl | hr
  ·exact hf
  ·exact qT l h r hr
theorem Le.list {l:bH} {st:St} {env':Env} {h':Upds} {R':List Row} {n' sz' bs':Nat} (τ:Nat→Option Nat) (hsz:sz'=st.sz) (hbs:bs'=st.bs) (hnx:Nat.ble bs' n'=true) (hn':Nat.ble 10000000 n'=true)
  (hnm:cV bs' l=true) (hkf:iu h'=true) (hinj:eM (rho l) (ba h')=true) (hR:R'.length≤9000000)
  (hτ:∀i,i<R'.length→rho l (1000+i)=τ i) (hτi:∀i i' k,i<R'.length→i'<R'.length→τ i=some k→τ i'=some k→i=i') (hτc:∀i k,i<R'.length→τ i=some k→∀r∈ba h',rho l r≠some k)
  (henv:iZ (rho l) st.env n' env') (hrows:fO (rho l) st n' h')
  (htail:∀i row,R'[i]?=some row→row.lt n'=true∧match τ i with
   | some k=>∃x,st.row k=some x∧aR x (row.ren (rho l))
   | none=>row.isNil) :
  Le l st ⟨env',h'++bZ 1000 R',n',sz',bs'⟩:=by
 have hn2:=Nat.le_of_ble_eq_true hn'
 refine⟨?_,hsz,hbs,hnx,hnm,fun i v hi=>iZ.out _ henv i v hi,?_⟩
 ·have tl:∀a,a∈ba (bZ 1000 R')→∃i,a=1000+i∧i<R'.length:=fun a ha=>by
   have:=qS _ _ _ ha
   exact⟨a-1000,by omega,by omega⟩
  refine jl _ fun a b k ha hb h1 h2=>?_
  rcases np _ _ _ ha with ha | ha <;> rcases np _ _ _ hb with hb | hb
  ·exact jG _ hinj a b k ha hb h1 h2
  ·obtain⟨i,rfl,hi⟩:=tl b hb
   rw[hτ i hi]at h2
   exact absurd h1 (hτc i k hi h2 a ha)
  ·obtain⟨i,rfl,hi⟩:=tl a ha
   rw[hτ i hi]at h1
   exact absurd h2 (hτc i k hi h1 b hb)
  ·obtain⟨i,rfl,hi⟩:=tl a ha
   obtain⟨i',rfl,hi'⟩:=tl b hb
   rw[hτ i hi]at h1
   rw[hτ i' hi']at h2
   rw[hτi i i' k hi hi' h1 h2]
 ·intro r row hr
  rw[wR]at hr
  cases hc:lk h' r with
  | some x =>
   rw[hc]at hr
   exact fO.out _ hrows r row (by rw[hc]; exact hr)
  | none =>
   rw[hc]at hr
   simp only[sT]at hr
   split at hr
   ·rename_i hle
    cases hg:R'[r-1000]? with
    | none=>rw[hg]at hr; cases hr
    | some row' =>
     rw[hg]at hr
     simp only[Option.map_some,Option.bind_some,id]at hr
     cases hr
     obtain⟨h1,h2⟩:=htail _ _ hg
     have hlt:=(List.getElem?_eq_some_iff.1 hg).1
     refine⟨show r<n' by omega,h1,?_⟩
     have h3:=hτ (r-1000) hlt
     rw[show 1000+(r-1000)=r by omega]at h3
     rw[h3]
     cases hq:τ (r-1000) with
     | some k=>rw[hq]at h2; exact h2
     | none=>rw[hq]at h2; exact h2
   ·cases hr
section
variable {α : Type}
def chB (s:Nat) (τ:Nat→Nat):Nat→List (List α)→AV
 | _,[]=>.anil
 | i,xs::l=>.acons (.own (τ i) 0 xs.length s none) (chB s τ (i+1) l)
def e8 (t s:Nat) (enc:α→D) (S:List (List α)):List Row:=S.map fun xs=>.ds t s false enc xs
theorem fy {t s:Nat} {enc:α→D} (S:List (List α)) (i:Nat):(e8 t s enc S)[i]?=(S[i]?).map fun xs=>.ds t s false enc xs:=by simp[e8]
theorem cj {t s:Nat} {enc:α→D} (S:List (List α)):(e8 t s enc S).length=S.length:=by simp[e8]
theorem lP {s:Nat} {τ:Nat→Nat} {n:Nat}:∀(S:List (List α)) (i:Nat),(∀j,j<S.length→τ (i+j)<n)→(chB s τ i S).lt n=true
 | [],_,_=>rfl
 | _::S,i,h=>by
  have h0:Nat.blt (τ i) n=true:=Nat.ble_eq_true_of_le (h 0 (by simp))
  simp only[chB,AV.lt,h0,cond_true]
  exact lP S (i+1) fun j hj=>by have:=h (j+1) (by simp; omega); rwa [show i+(j+1)=i+1+j by omega]at this
theorem mz {s:Nat} {τ τ':Nat→Nat} {ρ:Nat→Option Nat}:∀(S:List (List α)) (i:Nat),(∀j,j<S.length→ρ (τ (i+j))=some (τ' (i+j)))→(chB s τ i S).ren ρ=chB s τ' i S
 | [],_,_=>rfl
 | _::S,i,h=>by
  have h0:=h 0 (by simp)
  simp only[Nat.add_zero]at h0
  simp only[chB,AV.ren,h0]
  rw[mz S (i+1) fun j hj=>by have:=h (j+1) (by simp; omega); rwa [show i+(j+1)=i+1+j by omega]at this]
theorem tc {s:Nat} {τ:Nat→Nat}:∀(S:List (List α)) (i j:Nat) (xs:List α),S[j]?=some xs→(chB s τ i S).chainAt j (j*1)=some (.own (τ (i+j)) 0 xs.length s none)
 | [],_,j,xs,h=>by simp at h
 | ys::S,i,0,xs,h=>by
  simp only[List.getElem?_cons_zero,Option.some.injEq]at h
  subst h
  rfl
 | ys::S,i,j+1,xs,h=>by
  have ih:=tc (s:=s) (τ:=τ) S (i+1) j xs (by simpa using h)
  have e:Nat.ble 1 ((j+1)*1)=true:=Nat.ble_eq_true_of_le (by omega)
  simp only[chB,AV.chainAt,AV.size,e]
  rw[show (j+1)*1-1=j*1 by omega,show i+(j+1)=i+1+j by omega]
  exact ih
theorem uh {s:Nat} {τ τ':Nat→Nat}:∀(S:List (List α)) (i j m:Nat) (xs:List α),j<S.length→xs.length=m→(∀k,k<S.length→k≠j→τ' (i+k)=τ (i+k))→AV.chainSet (.own (τ' (i+j)) 0 m s none) j (chB s τ i S)=chB s τ' i (S.set j xs)
 | [],_,j,m,xs,h,_,_=>by simp at h
 | ys::S,i,0,m,xs,_,hm,h=>by
  have:∀(S:List (List α)) (i:Nat),(∀k,k<S.length→τ' (i+k)=τ (i+k))→chB s τ i S=chB s τ' i S:=by
   intro S
   induction S with
   | nil=>intro _ _; rfl
   | cons ys S ih =>
    intro i h
    have h0:=h 0 (by simp)
    simp only[Nat.add_zero]at h0
    simp only[chB,h0]
    rw[ih (i+1) fun k hk=>by have:=h (k+1) (by simp; omega); rwa [show i+(k+1)=i+1+k by omega]at this]
  subst hm
  simp only[chB,AV.chainSet,List.set_cons_zero,Nat.add_zero]
  rw[this S (i+1) fun k hk=>by have:=h (k+1) (by simp; omega) (by omega); rwa [show i+(k+1)=i+1+k by omega]at this]
 | ys::S,i,j+1,m,xs,hj,hm,h=>by
  have h0:=h 0 (by simp) (by omega)
  simp only[Nat.add_zero]at h0
  have ih:=uh (s:=s) (τ:=τ) (τ':=τ') S (i+1) j m xs (by simpa using hj) hm fun k hk hne=>by have:=h (k+1) (by simp; omega) (by omega); rwa [show i+(k+1)=i+1+k by omega]at this
  simp only[chB,AV.chainSet,List.set_cons_succ,h0]
  rw[show i+(j+1)=i+1+j by omega,ih]
theorem wb {t:TypeId} {s m i:Nat} {ex:Bool} {τ:Nat→Nat} {S:List (List α)} {xs:List α} (hm:m=S.length) (h:S[i]?=some xs):RSub (.lits t 1 m ex (chB s τ 0 S)) [.idx i 1] (.own (τ i) 0 xs.length s none):=by
 subst hm
 refine⟨rfl,(List.getElem?_eq_some_iff.1 h).1,?_⟩
 rw[tc S 0 i xs h,Nat.zero_add]
 rfl
theorem vZ {t:TypeId} {s m i:Nat} {ex:Bool} {τ τ':Nat→Nat} {S:List (List α)} {xs ys:List α} {k len:Nat} (hm:m=S.length) (h:S[i]?=some xs) (hk:τ' i=k) (hl:ys.length=len) (hτ:∀j,j<S.length→j≠i→τ' j=τ j):RUpd (.lits t 1 m ex (chB s τ 0 S)) [.idx i 1] (.own k 0 len s none) (.lits t 1 m ex (chB s τ' 0 (S.set i ys))):=by
 subst hm
 have hi:=(List.getElem?_eq_some_iff.1 h).1
 refine⟨rfl,hi,?_⟩
 rw[tc S 0 i xs h]
 refine⟨_,⟨rfl,rfl,rfl⟩,?_⟩
 have:=uh (s:=s) (τ:=τ) (τ':=τ') S 0 i len ys hi hl (fun k hk hne=>by rw[Nat.zero_add]; exact hτ k hk hne)
 rw[Nat.zero_add,hk]at this
 rw[this]
theorem rv {s:Nat} {τ:Nat→Nat} {ρ:Nat→Option Nat}:∀(n i:Nat),(∀j,j<n→ρ (τ (i+j))=none)→(chB s τ i (List.replicate n ([]:List α))).ren ρ=dsAV (List.replicate n (.sc nil_))
 | 0,_,_=>rfl
 | n+1,i,h=>by
  have h0:=h 0 (by omega)
  simp only[Nat.add_zero]at h0
  have ih:=rv (s:=s) (τ:=τ) (ρ:=ρ) n (i+1) fun j hj=>by have:=h (j+1) (by omega); rwa [show i+(j+1)=i+1+j by omega]at this
  simp only[List.replicate_succ,chB,AV.ren,h0,dsAV,ih]
  rfl
theorem aR.nils {t:TypeId} {s n:Nat} {ex:Bool} {β:Type} {enc:β→D} {z:β} (hz:enc z=.sc nil_):aR (.ds t s ex enc (List.replicate n z)) (.lits t s n ex (dsAV (List.replicate n (.sc nil_)))):=by
 rintro σ w X r (⟨h1,h2⟩ | ⟨b,c,cur,h1,h2,h3,h4,h5,h6,f,h7,h8⟩)
 ·have:n=0:=by simpa using h2
  exact⟨lM _,.inl ⟨h1,this⟩⟩
 ·simp only[List.length_replicate]at h2 h5 h7 h8
  refine⟨lM _,.inr ⟨b,c,cur,cat f n,h1,h2,h3,h4,h5,h6,cE n fun i hi=>(h7 i hi).2,?_,h8⟩⟩
  have:=tZ (σ:=σ) (w:=w) (X:=X) (enc:=enc) (List.replicate n z) f fun i hi=>by
   have:=(h7 i (by simpa using hi)).1
   simpa using this
  rw[List.length_replicate,List.map_replicate,hz]at this
  exact this
end
def fB:Nat→Nat→bH
 | _,0=>[]
 | b,n+1=>(b,none)::fB (b+1) n
theorem sy:∀(n b i:Nat),i<n→rho (fB b n) (b+i)=none
 | 0,_,_,h=>by omega
 | n+1,b,0,_=>by simp[fB,rho]
 | n+1,b,i+1,h=>by
  have:Nat.beq b (b+(i+1))=false:=by
   cases hc:Nat.beq b (b+(i+1)) with
   | true=>have:=Nat.eq_of_beq_eq_true hc; omega
   | false=>rfl
  simp only[fB,rho,this,cond_false]
  rw[show b+(i+1)=b+1+i by omega]
  exact sy n (b+1) i (by omega)
theorem mS:∀(n b r:Nat),(r<b∨b+n≤r)→rho (fB b n) r=some r
 | 0,_,_,_=>rfl
 | n+1,b,r,h=>by
  have:Nat.beq b r=false:=by
   cases hc:Nat.beq b r with
   | true=>have:=Nat.eq_of_beq_eq_true hc; omega
   | false=>rfl
  simp only[fB,rho,this,cond_false]
  exact mS n (b+1) r (by omega)
theorem kL {bs:Nat}:∀(n b:Nat),bs≤b→cV bs (fB b n)=true
 | 0,_,_=>rfl
 | n+1,b,h=>by
  simp only[fB,cV,Nat.ble_eq_true_of_le h,cond_true]
  exact kL n (b+1) (by omega)
def iJ:bH→Bool
 | []=>true
 | (r,_)::l=>bif farQ r then iJ l else false
theorem mc:∀(l:bH),iJ l=true→∀p∈l,p.1<1000∨10000000≤p.1
 | [],_,p,h=>by simp at h
 | (r,k)::l,h,p,hp=>by
  simp only[iJ]at h
  cases hf:farQ r <;> simp only[hf,cond_true,cond_false]at h
  ·cases h
  simp only[List.mem_cons]at hp
  rcases hp with rfl | hp
  ·exact hU hf
  ·exact mc l h p hp
theorem qn:∀(l0:bH) (l:bH) (r:Nat),(∀p∈l0,p.1≠r)→rho (l0++l) r=rho l r
 | [],_,_,_=>rfl
 | (j,k)::l0,l,r,h=>by
  have:Nat.beq j r=false:=by
   cases hc:Nat.beq j r with
   | true=>exact absurd (Nat.eq_of_beq_eq_true hc) (h (j,k) List.mem_cons_self)
   | false=>rfl
  simp only[List.cons_append,rho,this,cond_false]
  exact qn l0 l r fun p hp=>h p (List.mem_cons_of_mem _ hp)
theorem pz {l0:bH} (hd:iJ l0=true) (l:bH) {i:Nat} (hi:i<9000000):rho (l0++l) (1000+i)=rho l (1000+i):=
 qn l0 l _ fun p hp=>by have:=mc l0 hd p hp; omega
end Go.Eng
namespace Go.Eng
open Go.RowKit
def okn (m r:Nat):Bool:=bif farQ r then !Nat.beq r m else false
theorem dN {m r:Nat} (h:okn m r=true):(r<1000∨10000000≤r)∧r≠m:=by
 simp only[okn]at h
 cases hf:farQ r <;> simp only[hf,cond_true,cond_false]at h
 ·cases h
 exact⟨hU hf,fun e=>by subst e; rw[Nat.beq_refl]at h; cases h⟩
def AV.okm (m:Nat):AV→Bool
 | .acons a r=>bif a.okm m then r.okm m else false
 | .own r _ _ _ _=>okn m r
 | .ptr r _=>okn m r
 | .asl r _ _ _=>okn m r
 | .mapr r=>okn m r
 | .fn _ p q=>bif p.okm m then q.okm m else false
 | .tup q=>q.okm m
 | _=>true
def Row.okm (m:Nat):Row→Bool
 | .box _ a=>a.okm m
 | .lits _ _ _ _ a=>a.okm m
 | .mo a=>a.okm m
 | .mi a _ _ _=>a.okm m
 | _=>true
theorem AV.okm_ren {m:Nat} {ρ:Nat→Option Nat} (hρ:∀r,okn m r=true→ρ r=some r):∀(v:AV),v.okm m=true→v.ren ρ=v:=by
 intro v
 induction v with
 | acons a r iha ihr =>
  intro h
  simp only[AV.okm]at h
  cases ha:a.okm m <;> simp only[ha,cond_true,cond_false]at h
  ·cases h
  simp only[AV.ren,iha ha,ihr h]
 | own r=>intro h; simp only[AV.ren,hρ r h]
 | ptr r=>intro h; simp only[AV.ren,hρ r h]
 | asl r=>intro h; simp only[AV.ren,hρ r h]
 | mapr r=>intro h; simp only[AV.ren,hρ r h]
 | fn f p q ihp ihq =>
  intro h
  simp only[AV.okm]at h
  cases ha:p.okm m <;> simp only[ha,cond_true,cond_false]at h
  ·cases h
  simp only[AV.ren,ihp ha,ihq h]
 | tup q ih=>intro h; simp only[AV.ren,ih h]
 | _=>intro _; rfl
theorem Row.okm_ren {m:Nat} {ρ:Nat→Option Nat} (hρ:∀r,okn m r=true→ρ r=some r) (row:Row) (h:row.okm m=true):row.ren ρ=row:=by
 cases row with
 | box t a=>simp only[Row.ren,AV.okm_ren hρ a h]
 | lits t s k ex a=>simp only[Row.ren,AV.okm_ren hρ a h]
 | mo a=>simp only[Row.ren,AV.okm_ren hρ a h]
 | mi a=>simp only[Row.ren,AV.okm_ren hρ a h]
 | _=>rfl
theorem qL {κ ν:Type} {enc:κ→D} {encV:ν→D} {m:Nat}:∀(l:List (κ×ν)),(mapC enc (asC encV l)).okm m=true
 | []=>rfl
 | (k,v)::l=>by
  have:=qL (enc:=enc) (encV:=encV) (m:=m) l
  simp only[asC,List.map_cons,mapC,AV.okm,cond_true]at this ⊢
  exact this
def j3 (m:Nat) (env0:Env) (n:Nat):Env→Prop
 | []=>True
 | (i,v)::l=>lk env0 i=some v∧v.lt n=true∧v.okm m=true∧j3 m env0 n l
def ew (m:Nat) (h0:Upds) (n:Nat):Upds→Prop
 | []=>True
 | (r,row)::l=>okn m r=true∧(match row with
   | none=>True
   | some row=>Nat.blt r n=true∧row.lt n=true∧row.okm m=true∧aX h0 r=some row)∧ew m h0 n l
theorem j3.le {m n:Nat} {env0:Env} {ρ:Nat→Option Nat} (hρ:∀r,okn m r=true→ρ r=some r):∀(env:Env),j3 m env0 n env→iZ ρ env0 n env
 | [],_=>trivial
 | (i,v)::l,⟨h1,h2,h3,h4⟩=>⟨⟨v,h1,AVLe.of_eq (AV.okm_ren hρ v h3).symm⟩,h2,j3.le hρ l h4⟩
theorem ew.le {m n:Nat} {st:St} {ρ:Nat→Option Nat} (hρ:∀r,okn m r=true→ρ r=some r):∀(h:Upds),ew m st.heap n h→fO ρ st n h
 | [],_=>trivial
 | (r,none)::l,⟨_,_,h3⟩=>⟨trivial,ew.le hρ l h3⟩
 | (r,some row)::l,⟨h1,⟨h2,h3,h4,h5⟩,h6⟩=>⟨⟨h2,h3,by rw[hρ r h1]; exact⟨row,by rw[←bq]; exact h5,aR.of_eq (Row.okm_ren hρ row h4).symm⟩⟩,ew.le hρ l h6⟩
theorem ew.keys {m n:Nat} {h0:Upds}:∀(h:Upds),ew m h0 n h→∀r∈ba h,okn m r=true
 | [],_,r,hr=>by simp[ba]at hr
 | (a,x)::l,⟨h1,_,h3⟩,r,hr=>by
  simp only[ba,List.mem_cons]at hr
  rcases hr with rfl | hr
  ·exact h1
  ·exact ew.keys l h3 r hr
theorem it:∀(l:Upds),(∀r∈ba l,farQ r=true)→iu l=true
 | [],_=>rfl
 | (a,x)::l,h=>by
  simp only[iu]
  rw[h a (by simp[ba]),cond_true]
  exact it l fun r hr=>h r (by simp[ba,hr])
theorem pV {a:Nat} (h:a<1000∨10000000≤a):farQ a=true:=by
 unfold farQ
 rcases h with h | h
 ·rw[show Nat.blt a 1000=true from Nat.ble_eq_true_of_le h]; rfl
 ·rw[Nat.ble_eq_true_of_le h]; cases Nat.blt a 1000 <;> rfl
theorem kh:∀(B:Upds) (R:List Row) (i:Nat) (row:Row),i<9000000→(∀r∈ba B,r<1000∨10000000≤r)→R[i]?=some row→aX (B++bZ 1000 R) (1000+i)=some row
 | [],R,i,row,_,_,h=>df h
 | (a,x)::B,R,i,row,hi,hf,h=>by
  have:=hf a (by simp[ba])
  exact oT (by omega) (kh B R i row hi (fun r hr=>hf r (by simp[ba,hr])) h)
theorem farl {a i:Nat} {y:Option Row} {l:Upds} {x:Option Row} (ha:farQ a=true) (hi:i<9000000) (h:aX l (1000+i)=x):aX ((a,y)::l) (1000+i)=x:=by
 have:=hU ha
 exact oT (by omega) h
section
variable {P : Program} {sz n : Nat} {env : Env} {Q : Exit → St → Prop} {c : Code} {α : Type} {t tt s : Nat} {ex : Bool} {enc : α → D} {S : List (List α)}
theorem Le.stayL {l0:bH} {st:St} {env':Env} {h':Upds} {n' sz' bs':Nat} (hsz:sz'=st.sz) (hbs:bs'=st.bs) (hnx:Nat.ble bs' n'=true) (hn':Nat.ble 10000000 n'=true)
  (hnm:cV bs' l0=true) (hkf:iu h'=true) (hinj:eM (rho l0) (ba h')=true) (hdom:iJ l0=true) (him:∀r∈ba h',∀k,rho l0 r=some k→k<1000∨10000000≤k) (hR:S.length≤9000000)
  (henv:iZ (rho l0) st.env n' env') (hrows:fO (rho l0) st n' h')
  (hlk:∀i row,(e8 t s enc S)[i]?=some row→aX st.heap (1000+i)=some row) :
  Le l0 st ⟨env',h'++bZ 1000 (e8 t s enc S),n',sz',bs'⟩:=by
 refine Le.list (fun i=>some (1000+i)) hsz hbs hnx hn' hnm hkf hinj (by rw[cj]; exact hR) (fun i hi=>?_) (fun i i' k _ _ h1 h2=>by simp only[Option.some.injEq]at h1 h2; omega) (fun i k hi h1 r hr h2=>by cases h1; rw[cj]at hi; have:=him r hr _ h2; omega) henv hrows (fun i row hr=>?_)
 ·rw[cj]at hi
  have:=pz hdom [] (i:=i) (by omega)
  rw[List.append_nil]at this
  exact this
 ·have hlt:=(List.getElem?_eq_some_iff.1 hr).1
  have h2:=hlk i row hr
  rw[fy]at hr
  cases hc:S[i]? with
  | none=>rw[hc]at hr; cases hr
  | some xs =>
   rw[hc]at hr
   cases hr
   exact⟨rfl,_,by rw[←bq]; exact h2,aR.refl _⟩
theorem cW {l0:bH} {h':Upds} (h:(ba h').all (fun r=>match rho l0 r with | some k=>farQ k | none=>true)=true):∀r∈ba h',∀k,rho l0 r=some k→k<1000∨10000000≤k:=fun r hr k hk=>by
 have:=List.all_eq_true.1 h r hr
 simp only[hk]at this
 exact hU this
theorem dI {l0:bH} {τ τ':Nat→Nat} {m:Nat} (h:∀i,i<S.length→rho l0 (τ' i)=some (τ i)):aR (.lits tt 1 m ex (chB s τ 0 S)) ((Row.lits tt 1 m ex (chB s τ' 0 S)).ren (rho l0)):=by
 refine aR.of_eq ?_
 simp only[Row.ren]
 rw[mz (τ':=τ) S 0 fun j hj=>by rw[Nat.zero_add]; exact h j hj]
theorem ig {l0:bH} (hdom:iJ l0=true) (hS:S.length≤9000000):∀i,i<S.length→rho l0 ((fun i=>1000+i) i)=some ((fun i=>1000+i) i):=fun i hi=>by
 have:=pz hdom [] (i:=i) (by omega)
 rw[List.append_nil]at this
 exact this
theorem jv {l0:bH} {j m N:Nat} (hdom:iJ l0=true) (hS:S.length≤9000000) (hm:rho l0 m=some N):∀i,i<S.length→rho l0 (cP j m i)=some (cP j N i):=fun i hi=>by
 unfold cP
 split
 ·exact hm
 ·have:=pz hdom [] (i:=i) (by omega)
  rw[List.append_nil]at this
  exact this
theorem Le.openL (A:Upds) (j m r0 n0:Nat) (xs:List α) (hS:S[j]?=some xs) (hl:S.length≤9000000) (hm:Nat.ble 64 m=true) (hmf:farQ m=true) (hmn:Nat.blt m n=true) (hr:okn m r0=true) (hrn:Nat.blt r0 n=true) (hn:Nat.ble 10000000 n=true)
  (he:j3 m env n env) (hA:ew m ((r0,some (.lits tt 1 n0 ex (chB s (fun i=>1000+i) 0 S)))::A++bZ 1000 (e8 t s enc S)) n A)
  :
  Le [(m,some (1000+j)),(1000+j,none)] ⟨env,((r0,some (.lits tt 1 n0 ex (chB s (fun i=>1000+i) 0 S)))::A++bZ 1000 (e8 t s enc S)),n,sz,64⟩ ⟨env,((m,some (.ds t s false enc xs))::(r0,some (.lits tt 1 n0 ex (chB s (cP j m) 0 S)))::A++bZ 1000 (e8 t s enc (S.set j []))),n,sz,64⟩:=by
 have hjl:=(List.getElem?_eq_some_iff.1 hS).1
 have hm2:=Nat.le_of_ble_eq_true hm
 have hn2:=Nat.le_of_ble_eq_true hn
 have hmf2:=hU hmf
 obtain⟨hr1,hr2⟩:=dN hr
 have hρ:∀r,okn m r=true→rho [(m,some (1000+j)),(1000+j,none)] r=some r:=fun r h=>by
  obtain⟨h1,h2⟩:=dN h
  have e1:Nat.beq m r=false:=by
   cases hc:Nat.beq m r with
   | true=>exact absurd (Nat.eq_of_beq_eq_true hc).symm h2
   | false=>rfl
  have e2:Nat.beq (1000+j) r=false:=by
   cases hc:Nat.beq (1000+j) r with
   | true=>have:=Nat.eq_of_beq_eq_true hc; omega
   | false=>rfl
  simp[rho,e1,e2]
 have hρm:rho [(m,some (1000+j)),(1000+j,none)] m=some (1000+j):=by simp[rho,Nat.beq_refl]
 have hρl:∀i,i<S.length→rho [(m,some (1000+j)),(1000+j,none)] (1000+i)=if i=j then none else some (1000+i):=fun i hi=>by
  have e1:Nat.beq m (1000+i)=false:=by
   cases hc:Nat.beq m (1000+i) with
   | true=>have:=Nat.eq_of_beq_eq_true hc; omega
   | false=>rfl
  by_cases h:i=j
  ·subst h; simp[rho,e1,Nat.beq_refl]
  ·have e2:Nat.beq (1000+j) (1000+i)=false:=by
    cases hc:Nat.beq (1000+j) (1000+i) with
    | true=>have:=Nat.eq_of_beq_eq_true hc; omega
    | false=>rfl
   simp[rho,e1,e2,h]
 have hkA:=ew.keys A hA
 have hkall:∀r∈ba ((m,some (.ds t s false enc xs))::(r0,some (.lits tt 1 n0 ex (chB s (cP j m) 0 S)))::A),r=m∨okn m r=true:=fun r hr'=>by
  simp only[ba,List.mem_cons]at hr'
  rcases hr' with rfl | rfl | hr'
  ·exact .inl rfl
  ·exact .inr hr
  ·exact .inr (hkA r hr')
 have hlk:∀i row,(e8 t s enc S)[i]?=some row→aX ((r0,some (.lits tt 1 n0 ex (chB s (fun i=>1000+i) 0 S)))::A++bZ 1000 (e8 t s enc S)) (1000+i)=some row:=fun i row h=>by
  have hi:=(List.getElem?_eq_some_iff.1 h).1
  rw[cj]at hi
  refine kh _ _ i row (by omega) (fun r hr'=>?_) h
  simp only[ba,List.mem_cons]at hr'
  rcases hr' with rfl | hr'
  ·exact hr1
  ·exact (dN (hkA r hr')).1
 refine (Le.list (h':=(m,some (.ds t s false enc xs))::(r0,some (.lits tt 1 n0 ex (chB s (cP j m) 0 S)))::A) (fun i=>if i=j then none else some (1000+i)) rfl rfl (Nat.ble_eq_true_of_le (by omega)) hn ?_ (it _ fun r hr'=>?_) (jl _ fun a b k ha hb h1 h2=>?_) (by rw[cj,List.length_set]; exact hl) (fun i hi=>hρl i (by rw[cj,List.length_set]at hi; exact hi)) (fun i i' k _ _ h1 h2=>?_) (fun i k hi h1 r hr' h2=>?_) (j3.le hρ _ he) ⟨⟨hmn,rfl,?_⟩,⟨hrn,?_,?_⟩,ew.le hρ A hA⟩ (fun i row hrow=>?_))
 ·simp only[cV,hm,cond_true]
  rw[Nat.ble_eq_true_of_le (by omega:64≤1000+j)]; rfl
 ·rcases hkall r hr' with rfl | h
  ·exact hmf
  ·exact pV (dN h).1
 ·rcases hkall a ha with rfl | h3 <;> rcases hkall b hb with rfl | h4
  ·rfl
  ·rw[hρm]at h1
   rw[hρ b h4]at h2
   cases h1
   cases h2
   have:=(dN h4).1; omega
  ·rw[hρm]at h2
   rw[hρ a h3]at h1
   cases h1
   cases h2
   have:=(dN h3).1; omega
  ·rw[hρ a h3]at h1
   rw[hρ b h4]at h2
   cases h1
   cases h2
   rfl
 ·split at h1
  ·cases h1
  ·split at h2
   ·cases h2
   ·simp only[Option.some.injEq]at h1 h2; omega
 ·rw[cj,List.length_set]at hi
  split at h1
  ·cases h1
  ·rename_i hne
   cases h1
   rcases hkall r hr' with rfl | h
   ·rw[hρm]at h2; simp only[Option.some.injEq]at h2; omega
   ·rw[hρ r h]at h2
    cases h2
    have:=(dN h).1; omega
 ·rw[hρm]
  exact⟨_,by rw[←bq]; exact hlk j _ (by rw[fy,hS]; rfl),aR.refl _⟩
 ·have:=Nat.le_of_ble_eq_true hmn
  refine lP S 0 fun i hi=>?_
  rw[Nat.zero_add]
  unfold cP
  split <;> omega
 ·rw[hρ r0 hr]
  refine⟨.lits tt 1 n0 ex (chB s (fun i=>1000+i) 0 S),by rw[←bq]; simp only[aX,List.cons_append,aT,if_pos],aR.of_eq ?_⟩
  simp only[Row.ren]
  rw[mz (τ':=fun i=>1000+i) S 0 fun i hi=>?_]
  rw[Nat.zero_add]
  unfold cP
  split
  ·rename_i e; subst e; exact hρm
  ·rename_i e; rw[hρl i hi,if_neg e]
 ·have hi:=(List.getElem?_eq_some_iff.1 hrow).1
  rw[fy]at hrow
  rw[cj,List.length_set]at hi
  by_cases h:i=j
  ·subst h
   rw[List.getElem?_set_self hjl]at hrow
   cases hrow
   refine⟨rfl,?_⟩
   rw[if_pos rfl]
   exact rfl
  ·rw[List.getElem?_set_ne (Ne.symm h)]at hrow
   cases hc:S[i]? with
   | none=>rw[hc]at hrow; cases hrow
   | some ys =>
    rw[hc]at hrow
    cases hrow
    refine⟨rfl,?_⟩
    rw[if_neg h]
    exact⟨_,by rw[←bq]; exact hlk i _ (by rw[fy,hc]; rfl),aR.refl _⟩
theorem Le.closeL (A:Upds) (j N r0 n0:Nat) (ys:List α) (hS:S[j]?=some ys) (hl:S.length≤9000000) (hNf:farQ N=true) (hr:okn N r0=true) (hrn:Nat.blt r0 n=true) (hn:Nat.ble 10000000 n=true)
  (he:j3 N env n env) (hA:ew N ((N,some (.ds t s false enc ys))::(r0,some (.lits tt 1 n0 ex (chB s (cP j N) 0 S)))::A++bZ 1000 (e8 t s enc (S.set j []))) n A)
  :
  Le [(1000+j,some N)] ⟨env,((N,some (.ds t s false enc ys))::(r0,some (.lits tt 1 n0 ex (chB s (cP j N) 0 S)))::A++bZ 1000 (e8 t s enc (S.set j []))),n,sz,64⟩ ⟨env,((r0,some (.lits tt 1 n0 ex (chB s (fun i=>1000+i) 0 S)))::A++bZ 1000 (e8 t s enc S)),n,sz,64⟩:=by
 have hjl:=(List.getElem?_eq_some_iff.1 hS).1
 have hn2:=Nat.le_of_ble_eq_true hn
 have hNf2:=hU hNf
 obtain⟨hr1,hr2⟩:=dN hr
 have hρ:∀r,okn N r=true→rho [(1000+j,some N)] r=some r:=fun r h=>by
  obtain⟨h1,h2⟩:=dN h
  have e2:Nat.beq (1000+j) r=false:=by
   cases hc:Nat.beq (1000+j) r with
   | true=>have:=Nat.eq_of_beq_eq_true hc; omega
   | false=>rfl
  simp[rho,e2]
 have hρl:∀i,i<S.length→rho [(1000+j,some N)] (1000+i)=some (cP j N i):=fun i hi=>by
  unfold cP
  by_cases h:i=j
  ·subst h; simp[rho,Nat.beq_refl]
  ·have e2:Nat.beq (1000+j) (1000+i)=false:=by
    cases hc:Nat.beq (1000+j) (1000+i) with
    | true=>have:=Nat.eq_of_beq_eq_true hc; omega
    | false=>rfl
   simp[rho,e2,h]
 have hkA:=ew.keys A hA
 have hlk:∀i row,(e8 t s enc (S.set j []))[i]?=some row→aX ((N,some (.ds t s false enc ys))::(r0,some (.lits tt 1 n0 ex (chB s (cP j N) 0 S)))::A++bZ 1000 (e8 t s enc (S.set j []))) (1000+i)=some row:=fun i row h=>by
  have hi:=(List.getElem?_eq_some_iff.1 h).1
  rw[cj,List.length_set]at hi
  refine kh _ _ i row (by omega) (fun r hr'=>?_) h
  simp only[ba,List.mem_cons]at hr'
  rcases hr' with rfl | rfl | hr'
  ·exact hNf2
  ·exact hr1
  ·exact (dN (hkA r hr')).1
 have hkall:∀r∈ba ((r0,some (.lits tt 1 n0 ex (chB s (fun i=>1000+i) 0 S)))::A),okn N r=true:=fun r hr'=>by
  simp only[ba,List.mem_cons]at hr'
  rcases hr' with rfl | hr'
  ·exact hr
  ·exact hkA r hr'
 refine (Le.list (h':=(r0,some (.lits tt 1 n0 ex (chB s (fun i=>1000+i) 0 S)))::A) (fun i=>some (cP j N i)) rfl rfl (Nat.ble_eq_true_of_le (by omega)) hn ?_ (it _ fun r hr'=>?_) (jl _ fun a b k ha hb h1 h2=>?_) (by rw[cj]; exact hl) (fun i hi=>hρl i (by rw[cj]at hi; exact hi)) (fun i i' k hi hi' h1 h2=>?_) (fun i k hi h1 r hr' h2=>?_) (j3.le hρ _ he) ⟨⟨hrn,?_,?_⟩,ew.le hρ A hA⟩ (fun i row hrow=>?_))
 ·simp only[cV]
  rw[Nat.ble_eq_true_of_le (by omega:64≤1000+j)]; rfl
 ·exact pV (dN (hkall r hr')).1
 ·rw[hρ a (hkall a ha)]at h1
  rw[hρ b (hkall b hb)]at h2
  cases h1
  cases h2
  rfl
 ·rw[cj]at hi hi'
  cases h1
  simp only[Option.some.injEq]at h2
  unfold cP at h2
  split at h2 <;> split at h2 <;> omega
 ·rw[cj]at hi
  cases h1
  have h3:=hkall r hr'
  rw[hρ r h3]at h2
  simp only[Option.some.injEq]at h2
  obtain⟨h4,h5⟩:=dN h3
  unfold cP at h2
  split at h2
  ·exact h5 h2
  ·omega
 ·refine lP S 0 fun i hi=>?_
  omega
 ·rw[hρ r0 hr]
  refine⟨.lits tt 1 n0 ex (chB s (cP j N) 0 S),?_,aR.of_eq ?_⟩
  ·rw[←bq]
   simp only[aX,List.cons_append,aT]
   rw[if_neg (Ne.symm hr2)]
   simp
  ·simp only[Row.ren]
   rw[mz (τ':=cP j N) S 0 fun i hi=>by rw[Nat.zero_add]; exact hρl i hi]
 ·have hi:=(List.getElem?_eq_some_iff.1 hrow).1
  rw[fy]at hrow
  rw[cj]at hi
  cases hc:S[i]? with
  | none=>rw[hc]at hrow; cases hrow
  | some zs =>
   rw[hc]at hrow
   cases hrow
   refine⟨rfl,?_⟩
   by_cases h:i=j
   ·subst h
    rw[hS]at hc
    cases hc
    refine⟨.ds t s false enc ys,?_,aR.refl _⟩
    rw[jC,←bq]
    simp only[aX,List.cons_append,aT,if_pos]
   ·refine⟨.ds t s false enc zs,?_,aR.refl _⟩
    rw[lF h,←bq]
    exact hlk i _ (by rw[fy,List.getElem?_set_ne (Ne.symm h),hc]; rfl)
theorem Le.nilsL (A:Upds) (r0 k:Nat) (hk:k≤9000000) (hr:okn 999 r0=true) (hrn:Nat.blt r0 n=true) (hn:Nat.ble 10000000 n=true)
  (he:j3 999 env n env) (hA:ew 999 ((r0,some (.lits tt 1 k ex (dsAV (List.replicate k (.sc nil_)))))::A) n A)
  :
  Le (fB 1000 k) ⟨env,((r0,some (.lits tt 1 k ex (dsAV (List.replicate k (.sc nil_)))))::A),n,sz,64⟩ ⟨env,((r0,some (.lits tt 1 k ex (chB s (fun i=>1000+i) 0 (List.replicate k ([]:List α)))))::A++bZ 1000 (e8 t s enc (List.replicate k []))),n,sz,64⟩:=by
 have hn2:=Nat.le_of_ble_eq_true hn
 obtain⟨hr1,hr2⟩:=dN hr
 have hρ:∀r,okn 999 r=true→rho (fB 1000 k) r=some r:=fun r h=>by
  obtain⟨h1,h2⟩:=dN h
  exact mS k 1000 r (by omega)
 have hkA:=ew.keys A hA
 have hkall:∀r∈ba ((r0,some (.lits tt 1 k ex (chB s (fun i=>1000+i) 0 (List.replicate k ([]:List α)))))::A),okn 999 r=true:=fun r hr'=>by
  simp only[ba,List.mem_cons]at hr'
  rcases hr' with rfl | hr'
  ·exact hr
  ·exact hkA r hr'
 refine (Le.list (h':=(r0,some (.lits tt 1 k ex (chB s (fun i=>1000+i) 0 (List.replicate k ([]:List α)))))::A) (fun _=>none) rfl rfl (Nat.ble_eq_true_of_le (by omega)) hn (kL _ _ (by decide)) (it _ fun r hr'=>pV (dN (hkall r hr')).1) (jl _ fun a b k ha hb h1 h2=>?_) (by rw[cj,List.length_replicate]; exact hk) (fun i hi=>by rw[cj,List.length_replicate]at hi; exact sy k 1000 i hi) (fun i i' k _ _ h1=>by cases h1) (fun i k hi h1=>by cases h1) (j3.le hρ _ he) ⟨⟨hrn,?_,?_⟩,ew.le hρ A hA⟩ (fun i row hrow=>?_))
 ·rw[hρ a (hkall a ha)]at h1
  rw[hρ b (hkall b hb)]at h2
  cases h1
  cases h2
  rfl
 ·refine lP _ 0 fun i hi=>?_
  rw[List.length_replicate]at hi
  omega
 ·rw[hρ r0 hr]
  refine⟨.lits tt 1 k ex (dsAV (List.replicate k (.sc nil_))),?_,aR.of_eq ?_⟩
  ·rw[←bq]
   simp only[aX,aT,if_pos]
  ·simp only[Row.ren]
   rw[rv k 0 fun i hi=>by rw[Nat.zero_add]; exact sy k 1000 i hi]
 ·rw[fy]at hrow
  cases hc:(List.replicate k ([]:List α))[i]? with
  | none=>rw[hc]at hrow; cases hrow
  | some zs =>
   rw[hc]at hrow
   cases hrow
   have:zs=[]:=(List.mem_replicate.1 (List.mem_of_getElem? hc)).2
   subst this
   exact⟨rfl,rfl⟩
end
end Go.Eng
namespace Go.Proofs.Ytkehohfgbblokaa
open Go.Eng Go.Plain
set_option maxHeartbeats 32000000
set_option maxRecDepth 20000
attribute [local irreducible] WC RegS RegD SeqQ BlkQ ScoQ RegK CutK Sat SatN FnIs LoopQ au OpIs
theorem dK {α:Type} {t s:Nat} {enc:α→D} {S:List (List α)} {i:Nat} {row:Row} (h:(e8 t s enc S)[i]?=some row):i<S.length:=by
 have:=(List.getElem?_eq_some_iff.1 h).1
 rwa [cj]at this
theorem iO {α:Type} {B:List (List α)} {t m n:Nat} {ex:Bool} (h:B.length≤9000000) (hn:10000000≤n):(Row.lits t 1 m ex (chB 1 (fun i=>1000+i) 0 B)).lt n=true :=
 lP B 0 fun i hi=>by omega
theorem ib {α:Type} {B:List (List α)} {t m n j N:Nat} {ex:Bool} (h:B.length≤9000000) (hn:10000000≤n) (hN:N<n):(Row.lits t 1 m ex (chB 1 (cP j N) 0 B)).lt n=true :=
 lP B 0 fun i hi=>by rw[Nat.zero_add]; unfold cP; split <;> omega
theorem ov {α:Type} {t s m i k:Nat} {ex:Bool} {τ:Nat→Nat} {S:List (List α)} {xs:List α} (hm:m=S.length) (h:S[i]?=some xs) (hk:τ i=k):RSub (.lits t 1 m ex (chB s τ 0 S)) [.idx i 1] (.own k 0 xs.length s none):=hk ▸ wb hm h
abbrev gA (l:List HOp) (b e:Int) (p:Prep) (sp:List (List aM)) (q:QS) (out:List Bool) (opn:List Int) (ext:List (Nat×Row)):List (Nat×Row):=[(65,.ds 4 1 true eb out),(67,zRow opn)]++ext++cu l b e p sp q 9
abbrev gC (n:Nat) (B:List (List Int)) (A:List (Nat×Row)):Upds:=(66,some (.lits 39 1 n true (chB 1 (fun i=>1000+i) 0 B)))::aF A++Go.Eng.bZ 1000 (e8 3 1 i6 B)
abbrev gO (n:Nat) (B:List (List Int)) (j m:Nat) (xs:List Int) (A:List (Nat×Row)):Upds:=(m,some (.ds 3 1 false i6 xs))::(66,some (.lits 39 1 n true (chB 1 (cP j m) 0 B)))::aF A++Go.Eng.bZ 1000 (e8 3 1 i6 (B.set j []))
abbrev gE1 (n i:Nat) (opn:List Int):Env:=[(30,.int .i64 i),(29,.int .i64 n),(28,.own 9 0 n 4 none),(0,.ptr 0 []),(3,.own 65 0 n 1 none),(4,.own 66 0 n 1 none),(5,.own 67 0 opn.length 1 none)]
abbrev gE2 (n i j:Nat) (ys:List aM) (opn:List Int):Env:=[(43,.int .i64 j),(42,.int .i64 ys.length),(41,.d (cC ys)),(6,.int .i64 i),(7,.ptr 68 [])]++gE1 n i opn
abbrev gE3 (n:Nat) (opn:List Int):Env:=[(0,.ptr 0 []),(3,.own 65 0 n 1 none),(4,.own 66 0 n 1 none),(5,.own 67 0 opn.length 1 none)]
abbrev gE4 (n j:Nat) (bk:List Int) (opn:List Int):Env:=[(100,.int .i64 j),(99,.int .i64 bk.length),(98,.own 69 0 bk.length 1 none)]++gE3 n opn
theorem xg (l:List HOp) (b:Int) (e:Nat) (p:Prep) (sp:List (List aM)) (q:QS) (P:POk l e p) (hS:∀y∈q.2,SOk p e y) (he:e≤1048576) (hsp:SpOk q.2 sp) (hN:q.2.length≤1048576) (h0:0<q.2.length) (hT:totS sp+1≤67108864):FnIs Try.prog 72 [.ptr 0 []] (cu l b e p sp q 9) (.own 64 0 q.2.length 1 none) ((64,.ds 4 1 true eb (ei p l e q.2 sp))::cu l b e p sp q 9):=by
 obtain⟨n,hn⟩:∃n,n=q.2.length:=⟨_,rfl⟩
 have hwe:IntKind.i64.wrap ((e:Int)-1)=(e:Int)-1:=aV (by omega) (by omega)
 refine aE aa Try.func72 rfl rfl rfl ?_;refine sR<|rC<|nR ?_;refine zU ?_;refine rQ iM ?_;refine rQ (bS aa rfl rfl) ?_;refine aW (dB (s:=1) (enc:=eb) (N:=q.2.length) aa false rfl rfl rfl rfl rfl rfl rfl hN rfl) rfl ?_;refine rC<|nR ?_;refine zU ?_;refine rQ iM ?_;refine rQ (bS aa rfl rfl) ?_;refine aW (dB (s:=1) (enc:=fun _:Unit=>.sc nil_) (N:=q.2.length) aa () rfl rfl rfl rfl rfl rfl rfl hN rfl) rfl ?_;refine rC<|nR ?_;refine rC<|zW ?_;refine zU ?_;refine rQ iM ?_;refine rQ (bS aa rfl rfl) ?_;refine rC<|zP ?_
 refine gr 10000000 [(65,some 112),(66,some 168),(67,none)] (env':=gE1 q.2.length 0 []) (h':=(66,some (.lits 39 1 q.2.length true (dsAV (List.replicate q.2.length (.sc nil_)))))::aF (gA l b e p sp q (List.replicate q.2.length false) [] []))
  (lg zf ⟨⟨rfl,ua _,_,rfl,(by simp only[Row.ren,rn]; exact aR.nils rfl)⟩,zR,⟨rfl,rfl,rfl⟩,zR,zM,zM,zR,zM,zM,zM,zM,zM,zR,zR,trivial⟩) ?_
 refine gr 10000000 _ (Le.nilsL (s:=1) (t:=3) (enc:=i6) (aF (gA l b e p sp q (List.replicate q.2.length false) [] [])) 66 q.2.length (by omega) rfl rfl rfl ⟨rfl,rfl,rfl,rfl,rfl,rfl,rfl,rfl,rfl,rfl,rfl,rfl,rfl,rfl,rfl,rfl,rfl,rfl,rfl,rfl,rfl,trivial⟩ ⟨rfl,⟨rfl,rfl,rfl,rfl⟩,rfl,⟨rfl,rfl,rfl,rfl⟩,rfl,⟨rfl,rfl,rfl,rfl⟩,rfl,zK,rfl,zK,rfl,⟨rfl,rfl,rfl,rfl⟩,rfl,zK,rfl,zK,rfl,zK,rfl,zK,rfl,zK,rfl,⟨rfl,rfl,rfl,rfl⟩,rfl,⟨rfl,rfl,rfl,rfl⟩,trivial⟩) ?_
 refine wc_inv (fun s:Nat×GSt=>⟨gE1 q.2.length s.1 s.2.opn,gC q.2.length s.2.B (gA l b e p sp q s.2.out s.2.opn []),10000000,Try.f72.ntmps,64⟩) (fun s=>s.1≤n∧s.2=gdA p l e q.2 sp s.1∧BOk n (totS (sp.take s.1)) s.2.B∧OOk n s.2.out s.2.opn∧∀j,s.1≤j→j<n→s.2.out[j]?=some false) (fun s=>n-s.1) (0,gd0 q.2.length) [] ⟨Nat.zero_le _,rfl,⟨by simp[gd0,hn],fun b hb=>by rw[(List.mem_replicate.1 hb).2]; exact⟨Nat.zero_le _,fun k hk=>by cases hk⟩⟩,⟨by simp[gd0,hn],(fun k hk=>by cases hk),by show 0+cntF (List.replicate _ _)≤n; rw[ru]; omega⟩,fun j _ hj=>by show (List.replicate _ _)[j]?=_; rw[List.getElem?_replicate,if_pos (by omega)]⟩
  (Le.stayL rfl rfl rfl rfl rfl rfl rfl rfl (cW rfl) (show (List.replicate q.2.length ([]:List Int)).length≤9000000 by rw[List.length_replicate]; omega) zf ⟨⟨rfl,iO (show (List.replicate q.2.length ([]:List Int)).length≤9000000 by rw[List.length_replicate]; omega) (by decide),_,rfl,dI (ig rfl (show (List.replicate q.2.length ([]:List Int)).length≤9000000 by rw[List.length_replicate]; omega))⟩,zR,zR,zR,zM,zM,zR,zM,zM,zM,zM,zM,zR,zR,trivial⟩ (fun i9 row hr=>by have hi9:=dK hr; have hi8:=(show (List.replicate q.2.length ([]:List Int)).length≤9000000 by rw[List.length_replicate]; omega); repeat (first | exact df hr | refine farl rfl (Nat.lt_of_lt_of_le hi9 hi8) ?_))) ?_
 rintro⟨i,g⟩ ⟨hi,hg,hB,hO,hfr⟩
 simp only at hi hg hB hO hfr
 refine bM ?_
 show WC _ _ _ _ (gE1 q.2.length i g.opn) (gC q.2.length g.B (gA l b e p sp q g.out g.opn [])) _
 have hBl:g.B.length≤9000000:=by rw[hB.bl]; omega
 by_cases hlt:i<n
 ·have d1:decide ((i:Int)<(q.2.length:Int))=true:=dT (by omega)
  obtain⟨x,hx0⟩:∃x,q.2[i]?=some x:=⟨_,List.getElem?_eq_getElem (by omega)⟩
  have hx:q.2[((i:Int)).toNat]?=some x:=by rw[Int.toNat_natCast]; exact hx0
  obtain⟨ys,hys0⟩:∃ys,sp[i]?=some ys:=⟨_,List.getElem?_eq_getElem (by rw[hsp.len]; omega)⟩
  have hys:sp[((i:Int)).toNat]?=some ys:=by rw[Int.toNat_natCast]; exact hys0
  have hspl:i<sp.length:=by rw[hsp.len]; omega
  have hto:=hsp.to ys (List.mem_of_getElem? hys0)
  have htt:=lw hys0
  have htl:=mw sp (i+1)
  have hxS:=hS x (List.mem_of_getElem? hx0)
  have hfu:=nG l b e p sp q x P hxS
  have hstn:stN q.2 (i:Int)=x:=by rw[stN,hx]; rfl
  have hspn:spN sp (i:Int)=ys:=by rw[spN,hys]; rfl
  refine sR<|rC<|nQ ?_;refine wT<|zQ<|zS ?_;refine rC ?_;refine rQ (aP aa rfl rfl rfl rfl rfl (by omega) (by omega)) ?_;refine rQ (bd (v :=.d (bU x)) aa rfl rfl ⟨rfl,x,hx,bU x,rfl,rfl⟩ rfl) ?_;refine rN ?_;refine rC ?_;refine rW<|zW ?_;refine zU ?_;refine rQ iM ?_;refine rC ?_;refine rQ (aP aa rfl rfl rfl rfl rfl (by omega) (by omega)) ?_;refine rQ (bd (v :=.d (cC ys)) aa rfl rfl ⟨rfl,ys,hys,cC ys,rfl,rfl⟩ rfl) ?_;refine rQ iE ?_;refine rC<|zP ?_
  refine wc_inv (fun s:Nat×List (List Int)=>⟨gE2 q.2.length i s.1 ys g.opn,gC q.2.length s.2 (gA l b e p sp q g.out g.opn [(68,.box 141 (.d (bU x)))]),10000000,Try.f72.ntmps,64⟩) (fun s=>s.1≤ys.length∧s.2=(ys.take s.1).foldl (bkF i) g.B∧BOk n (totS (sp.take i)+s.1) s.2) (fun s=>ys.length-s.1) (0,g.B) [(65,some 65),(66,some 66),(67,some 67),(68,some 10000032)] ⟨Nat.zero_le _,rfl,hB⟩
   (Le.stayL rfl rfl rfl rfl rfl rfl rfl rfl (cW rfl) hBl za ⟨⟨rfl,iO hBl (by decide),_,rfl,dI (ig rfl hBl)⟩,zR,zR,zR,zR,zM,zM,zR,zM,zM,zM,zM,zM,zR,zR,trivial⟩ (fun i9 row hr=>by have hi9:=dK hr; have hi8:=hBl; repeat (first | exact df hr | refine farl rfl (Nat.lt_of_lt_of_le hi9 hi8) ?_))) ?_
  rintro⟨j,B⟩ ⟨hj,hBe,hB2⟩
  simp only at hj hBe hB2
  refine bM ?_
  show WC _ _ _ _ (gE2 q.2.length i j ys g.opn) (gC q.2.length B (gA l b e p sp q g.out g.opn [(68,.box 141 (.d (bU x)))])) _
  have hBl2:B.length≤9000000:=by rw[hB2.bl]; omega
  by_cases hjl:j<ys.length
  ·have d2:decide ((j:Int)<(ys.length:Int))=true:=dT (by omega)
   obtain⟨y,hy⟩:∃y,ys[j]?=some y:=⟨_,List.getElem?_eq_getElem hjl⟩
   have hy2:ys[((j:Int)).toNat]?=some y:=by rw[Int.toNat_natCast]; exact hy
   obtain⟨hy0,hy1⟩:=hto y (List.mem_of_getElem? hy)
   obtain⟨xs,hxs,hxl0,hxe⟩:=hB2.get (j:=y.to.toNat) (by omega)
   have hxl:xs.length+1≤134217728:=by omega
   have hBn:q.2.length=B.length:=by rw[hB2.bl]; exact hn.symm
   have hB3:=AC hB2 hlt hy0 (by omega)
   have hbe:=og (f:=bkF i) hy g.B
   rw[←hBe]at hbe
   rw[xK (n:=n) (c:=totS (sp.take i)+j) hxs]at hbe hB3
   have hS3:(B.set y.to.toNat (xs++[(i:Int)]))[y.to.toNat]?=some (xs++[(i:Int)]):=by rw[List.getElem?_set_self (List.getElem?_eq_some_iff.1 hxs).1]
   have hss:(B.set y.to.toNat (xs++[(i:Int)])).set y.to.toNat []=B.set y.to.toNat []:=List.set_set ..
   have hBl3:(B.set y.to.toNat (xs++[(i:Int)])).length≤9000000:=by rw[List.length_set]; exact hBl2
   have hBl4:((B.set y.to.toNat (xs++[(i:Int)])).set y.to.toNat []).length≤9000000:=by rw[List.length_set]; exact hBl3
   refine gr 10000000 _ (Le.openL (aF (gA l b e p sp q g.out g.opn [(68,.box 141 (.d (bU x)))])) y.to.toNat 69 66 q.2.length xs hxs hBl2 rfl rfl rfl rfl rfl rfl ⟨rfl,rfl,rfl,rfl,rfl,rfl,rfl,rfl,rfl,rfl,rfl,rfl,rfl,rfl,rfl,rfl,rfl,rfl,rfl,rfl,rfl,rfl,rfl,rfl,rfl,rfl,rfl,rfl,rfl,rfl,rfl,rfl,rfl,rfl,rfl,rfl,trivial⟩ ⟨rfl,⟨rfl,rfl,rfl,rfl⟩,rfl,⟨rfl,rfl,rfl,rfl⟩,rfl,⟨rfl,rfl,rfl,rfl⟩,rfl,⟨rfl,rfl,rfl,rfl⟩,rfl,zK,rfl,zK,rfl,⟨rfl,rfl,rfl,rfl⟩,rfl,zK,rfl,zK,rfl,zK,rfl,zK,rfl,zK,rfl,⟨rfl,rfl,rfl,rfl⟩,rfl,⟨rfl,rfl,rfl,rfl⟩,trivial⟩)<|sR ?_;refine rC<|nQ ?_;refine wT<|zQ<|zS ?_;refine rQ (ao aa rfl rfl rfl rfl rfl (by omega) hy2) ?_;refine rQ iL ?_;refine rN ?_;refine rW<|nS ?_;refine aA (by kernel_rfl) ?_;refine dC [4] [] ?_;refine dC [9] [] ?_;refine dQ [48] [10000024] iB ?_;refine dC [4] [] ?_;refine dC [9] [] ?_;refine dQ [51] [10000024] iB ?_;refine dQ [50,52] [] (aP aa rfl rfl rfl rfl rfl hy0 (by omega)) ?_;refine dQ [53] [66] (bd (v :=.own 69 0 xs.length 1 none) aa rfl rfl (ov hBn hxs jC) rfl) ?_;refine dC [6] [] ?_;refine cY [55] [] rfl (aD aa rfl rfl rfl rfl rfl rfl rfl rfl) ?_;refine iH [54,56] [69,10000112] rfl (rG (s:=1) (enc:=i6) (xs:=xs) aa ((i:Nat):Int) rfl rfl rfl rfl rfl rfl rfl rfl rfl hxl rfl) ?_;refine dQ [47,49] [] (aP aa rfl rfl rfl rfl rfl hy0 (by omega)) ?_;refine bu [58,57] [66] (aL aa rfl rfl rfl (vZ (τ':=cP y.to.toNat 10000120) (ys:=xs++[((i:Nat):Int)]) hBn hxs jC (by simp) (fun k _ hk=>by rw[lF hk,lF hk])) rfl) ?_;refine am (by kernel_rfl)<|zC<|aj ?_
   refine wq (env':=gE2 q.2.length i j ys g.opn) (h':=gO q.2.length (B.set y.to.toNat (xs++[(i:Int)])) y.to.toNat 69 (xs++[(i:Int)]) (gA l b e p sp q g.out g.opn [(68,.box 141 (.d (bU x)))])) [(65,some 65),(66,some 66),(67,some 67),(68,some 68),(69,some 10000120)] (Le.stayL rfl rfl rfl rfl rfl rfl rfl rfl (cW rfl) hBl4 za ⟨zR,⟨rfl,ib hBl3 (by decide) (by decide),_,rfl,dI (jv rfl hBl3 (by rfl))⟩,zR,zR,zR,zR,zM,zM,zR,zM,zM,zM,zM,zM,zR,zR,trivial⟩ (fun i9 row hr=>by have hi9:=dK hr; rw[hss]at hr; have hi8:=hBl4; repeat (first | exact df hr | refine farl rfl (Nat.lt_of_lt_of_le hi9 hi8) ?_))) ?_
   refine wq _ (Le.closeL (aF (gA l b e p sp q g.out g.opn [(68,.box 141 (.d (bU x)))])) y.to.toNat 69 66 q.2.length (xs++[(i:Int)]) hS3 hBl3 rfl rfl rfl rfl ⟨rfl,rfl,rfl,rfl,rfl,rfl,rfl,rfl,rfl,rfl,rfl,rfl,rfl,rfl,rfl,rfl,rfl,rfl,rfl,rfl,rfl,rfl,rfl,rfl,rfl,rfl,rfl,rfl,rfl,rfl,rfl,rfl,rfl,rfl,rfl,rfl,trivial⟩ ⟨rfl,⟨rfl,rfl,rfl,rfl⟩,rfl,⟨rfl,rfl,rfl,rfl⟩,rfl,⟨rfl,rfl,rfl,rfl⟩,rfl,⟨rfl,rfl,rfl,rfl⟩,rfl,zK,rfl,zK,rfl,⟨rfl,rfl,rfl,rfl⟩,rfl,zK,rfl,zK,rfl,zK,rfl,zK,rfl,zK,rfl,⟨rfl,rfl,rfl,rfl⟩,rfl,⟨rfl,rfl,rfl,rfl⟩,trivial⟩) ?_;refine rQ iD ?_;refine rC<|aw ?_
   exact aI (j+1,B.set y.to.toNat (xs++[(i:Int)])) [(65,some 65),(66,some 66),(67,some 67),(68,some 68)] ⟨hjl,hbe.symm,hB3⟩ (by simp only; omega) (Le.stayL rfl rfl rfl rfl rfl rfl rfl rfl (cW rfl) hBl3 za ⟨⟨rfl,iO hBl3 (by decide),_,rfl,dI (ig rfl hBl3)⟩,zR,zR,zR,zR,zM,zM,zR,zM,zM,zM,zM,zM,zR,zR,trivial⟩ (fun i9 row hr=>by have hi9:=dK hr; have hi8:=hBl3; repeat (first | exact df hr | refine farl rfl (Nat.lt_of_lt_of_le hi9 hi8) ?_)))
  ·have d2:decide ((j:Int)<(ys.length:Int))=false:=dF (by omega)
   obtain rfl:j=ys.length:=by omega
   rw[List.take_length]at hBe
   have hB4:BOk n (totS (sp.take (i+1))) B:=by rw[htt]; exact hB2
   cases dE:decide (x.era=(e:Int)-1) with
   | false =>
    have hg1:gdA p l e q.2 sp (i+1)=⟨B,g.out,g.opn⟩:=by
     rw[gdA,←hg,gd1,hstn,hspn,endB,dE,Bool.false_and,if_neg (by decide),hBe]
    refine sR<|rC<|nQ ?_;refine wF<|zX<|aS ?_;refine aA (by kernel_rfl) ?_;refine dC [7] [] ?_;refine dQ [60] [68] iB ?_;refine dC [0] [] ?_;refine dC [62] [] ?_;refine dC [63] [] ?_;refine dQ [64] [0] iM ?_;refine dQ [65] [] (ce (m:=(e:Int)-1) aa rfl rfl hwe) ?_;refine dC [61,66] [] ?_;refine dC [67] [] ?_;refine ae [68,0] rfl rfl (by assumption) rfl ?_;refine ae [68,7] rfl rfl (by assumption) rfl ?_;refine ae [68,69,70] rfl rfl (by assumption) rfl ?_;refine dQ [68,71] [] iF ?_;refine am (by kernel_rfl)<|aG ?_;refine wG<|aN<|zC<|aj ?_;refine rQ iD ?_;refine rC<|aw ?_
    exact aI (i+1,⟨B,g.out,g.opn⟩) [(65,some 65),(66,some 66),(67,some 67)] ⟨hlt,hg1.symm,hB4,hO,fun j h1 h2=>hfr j (by simp only at h1; omega) h2⟩ (by simp only; omega) (Le.stayL rfl rfl rfl rfl rfl rfl rfl rfl (cW rfl) hBl2 zf ⟨⟨rfl,iO hBl2 (by decide),_,rfl,dI (ig rfl hBl2)⟩,zR,zR,zR,zM,zM,zR,zM,zM,zM,zM,zM,zR,zR,trivial⟩ (fun i9 row hr=>by have hi9:=dK hr; have hi8:=hBl2; repeat (first | exact df hr | refine farl rfl (Nat.lt_of_lt_of_le hi9 hi8) ?_)))
   | true =>
    cases hf:iW l p.lo (zOf p x.era) x with
    | false =>
     rw[hf]at hfu
     have hg1:gdA p l e q.2 sp (i+1)=⟨B,g.out,g.opn⟩:=by
      rw[gdA,←hg,gd1,hstn,hspn,endB,dE,hf,Bool.true_and,if_neg (by decide),hBe]
     refine sR<|rC<|nQ ?_;refine wF<|zX<|aS ?_;refine aA (by kernel_rfl) ?_;refine dC [7] [] ?_;refine dQ [60] [68] iB ?_;refine dC [0] [] ?_;refine dC [62] [] ?_;refine dC [63] [] ?_;refine dQ [64] [0] iM ?_;refine dQ [65] [] (ce (m:=(e:Int)-1) aa rfl rfl hwe) ?_;refine dC [61,66] [] ?_;refine dC [67] [] ?_;refine ab [68,0] [] rfl rfl (by assumption) rfl (an aa (fun K hk=>hk)) ?_;refine ab [68,7] [68] rfl rfl (by assumption) rfl (aK aa rfl rfl rfl rfl) ?_;refine cQ [68,69,70] [0,1,2,3,4,5,6,7,8,9,10] rfl (.on rfl rfl dE (bc [] hfu rfl rfl rfl (aZ rfl rfl (ak ai)) ⟨zH,zN,zN,zH,zN,zN,zN,zN,zN,zH,zH,trivial⟩ rfl rfl (.inl rfl) rfl rfl)) rfl rfl ?_;refine dQ [68,71] [] iT ?_;refine am (by kernel_rfl)<|aG ?_;refine wG<|aN<|zC<|aj ?_;refine rQ iD ?_;refine rC<|aw ?_
     exact aI (i+1,⟨B,g.out,g.opn⟩) [(65,some 65),(66,some 66),(67,some 67)] ⟨hlt,hg1.symm,hB4,hO,fun j h1 h2=>hfr j (by simp only at h1; omega) h2⟩ (by simp only; omega) (Le.stayL rfl rfl rfl rfl rfl rfl rfl rfl (cW rfl) hBl2 zf ⟨⟨rfl,iO hBl2 (by decide),_,rfl,dI (ig rfl hBl2)⟩,zR,zR,zR,zM,zM,zR,zM,zM,zM,zM,zM,zR,zR,trivial⟩ (fun i9 row hr=>by have hi9:=dK hr; have hi8:=hBl2; repeat (first | exact df hr | refine farl rfl (Nat.lt_of_lt_of_le hi9 hi8) ?_)))
    | true =>
     rw[hf]at hfu
     have hg1:gdA p l e q.2 sp (i+1)=⟨B,g.out.set i true,g.opn++[(i:Int)]⟩:=by
      rw[gdA,←hg,gd1,hstn,hspn,endB,dE,hf,Bool.true_and,if_pos rfl,hBe]
     have hti:=hfr i (Nat.le_refl _) hlt
     have ht:g.out[((i:Int)).toNat]?=some false:=by rw[Int.toNat_natCast]; exact hti
     have hO2:=(hO.psh (k:=(i:Int)) (by omega) (by omega) ht).1
     rw[Int.toNat_natCast]at hO2
     have hol:g.opn.length+1≤1048576:=by have:=hO.cnt; have:=lc hti; omega
     refine sR<|rC<|nQ ?_;refine wF<|zX<|aS ?_;refine aA (by kernel_rfl) ?_;refine dC [7] [] ?_;refine dQ [60] [68] iB ?_;refine dC [0] [] ?_;refine dC [62] [] ?_;refine dC [63] [] ?_;refine dQ [64] [0] iM ?_;refine dQ [65] [] (ce (m:=(e:Int)-1) aa rfl rfl hwe) ?_;refine dC [61,66] [] ?_;refine dC [67] [] ?_;refine ab [68,0] [] rfl rfl (by assumption) rfl (an aa (fun K hk=>hk)) ?_;refine ab [68,7] [68] rfl rfl (by assumption) rfl (aK aa rfl rfl rfl rfl) ?_;refine cQ [68,69,70] [0,1,2,3,4,5,6,7,8,9,10] rfl (.on rfl rfl dE (bc [] hfu rfl rfl rfl (aZ rfl rfl (ak ai)) ⟨zH,zN,zN,zH,zN,zN,zN,zN,zN,zH,zH,trivial⟩ rfl rfl (.inl rfl) rfl rfl)) rfl rfl ?_;refine dQ [68,71] [] iT ?_;refine am (by kernel_rfl)<|aG ?_;refine wV<|sR ?_;refine zD ?_;refine rQ (aP aa rfl rfl rfl rfl rfl (by omega) (by omega)) ?_;refine bO (aL aa rfl rfl rfl ⟨rfl,false,true,ht,⟨rfl,rfl,rfl⟩,rfl⟩ rfl)<|nS<|aj ?_;refine zD ?_;refine aW (aD aa rfl rfl rfl rfl rfl rfl rfl rfl) rfl ?_;refine aO (aQ (s:=1) (enc:=i6) (xs:=g.opn) aa ((i:Nat):Int) rfl rfl rfl rfl rfl rfl rfl rfl rfl hol rfl) rfl ?_;refine rC<|aw<|zC<|aj ?_;refine rQ iD ?_;refine rC<|aw ?_
     exact aI (i+1,⟨B,g.out.set i true,g.opn++[(i:Int)]⟩) [(65,some 65),(66,some 66),(67,some 10000168)] ⟨hlt,hg1.symm,hB4,hO2,fun j h1 h2=>by simp only at h1 ⊢; rw[List.getElem?_set_ne (by omega)]; exact hfr j (by omega) h2⟩ (by simp only; omega) (Le.stayL rfl rfl rfl rfl rfl rfl rfl rfl (cW rfl) hBl2 ⟨zE,rfl,zE,rfl,zE,rfl,zE,rfl,zE,rfl,zE,rfl,⟨_,rfl,AVLe.of_eq (by simp only[List.length_append,List.length_singleton]; rfl)⟩,rfl,trivial⟩ ⟨⟨rfl,iO hBl2 (by decide),_,rfl,dI (ig rfl hBl2)⟩,zR,zR,zR,zM,zM,zR,zM,zM,zM,zM,zM,zR,zR,trivial⟩ (fun i9 row hr=>by have hi9:=dK hr; have hi8:=hBl2; repeat (first | exact df hr | refine farl rfl (Nat.lt_of_lt_of_le hi9 hi8) ?_)))
 ·have d1:decide ((i:Int)<(q.2.length:Int))=false:=dF (by omega)
  obtain rfl:i=n:=by omega
  have hgd:ei p l e q.2 sp=popG g.B (i+1) g.out g.opn:=by rw[ei,←hn,←hg]
  obtain⟨B,hBd⟩:∃B,B=g.B:=⟨_,rfl⟩
  obtain⟨b0,hb0,_,_⟩:=hB.get (j:=0) (by omega)
  rw[←hBd]at hB hBl hb0 hgd
  have hBn:q.2.length=B.length:=by rw[hB.bl]; exact hn.symm
  refine sR<|rC<|nQ ?_;refine wF<|zX<|aS<|bn ?_
  refine gr 10000000 [(65,some 65),(66,some 66),(67,some 67)] (env':=gE3 q.2.length g.opn) (h':=gC q.2.length B (gA l b e p sp q g.out g.opn [])) (Le.stayL rfl rfl rfl rfl rfl rfl rfl rfl (cW rfl) hBl zi ⟨⟨rfl,iO hBl (by decide),_,rfl,(by rw[hBd]; exact dI (ig rfl (hBd ▸ hBl)))⟩,zR,zR,zR,zM,zM,zR,zM,zM,zM,zM,zM,zR,zR,trivial⟩ (fun i9 row hr=>by have hi9:=dK hr; rw[hBd]at hr; have hi8:=hBl; repeat (first | exact df hr | refine farl rfl (Nat.lt_of_lt_of_le hi9 hi8) ?_))) ?_
  refine gr 10000000 _ (Le.openL (aF (gA l b e p sp q g.out g.opn [])) 0 69 66 q.2.length b0 hb0 hBl rfl rfl rfl rfl rfl rfl ⟨rfl,rfl,rfl,rfl,rfl,rfl,rfl,rfl,rfl,rfl,rfl,rfl,trivial⟩ ⟨rfl,⟨rfl,rfl,rfl,rfl⟩,rfl,⟨rfl,rfl,rfl,rfl⟩,rfl,⟨rfl,rfl,rfl,rfl⟩,rfl,zK,rfl,zK,rfl,⟨rfl,rfl,rfl,rfl⟩,rfl,zK,rfl,zK,rfl,zK,rfl,zK,rfl,zK,rfl,⟨rfl,rfl,rfl,rfl⟩,rfl,⟨rfl,rfl,rfl,rfl⟩,trivial⟩) ?_
  refine wc_inv (fun s:Nat×List Bool×List Int×Nat×List Int=>⟨gE3 q.2.length s.2.2.1,gO q.2.length B s.2.2.2.1 69 s.2.2.2.2 (gA l b e p sp q s.2.1 s.2.2.1 []),10000000,Try.f72.ntmps,64⟩) (fun s=>popG B s.1 s.2.1 s.2.2.1=ei p l e q.2 sp∧OOk i s.2.1 s.2.2.1∧s.2.2.1.length+cntF s.2.1<s.1∧B[s.2.2.2.1]?=some s.2.2.2.2) (fun s=>s.2.2.1.length+cntF s.2.1) (i+1,g.out,g.opn,0,b0) [(65,some 65),(66,some 66),(67,some 67),(69,some 69)] ⟨hgd.symm,hO,by have:=hO.cnt; simp only; omega,hb0⟩
   (Le.stayL rfl rfl rfl rfl rfl rfl rfl rfl (cW rfl) (show (B.set 0 []).length≤9000000 by rw[List.length_set]; exact hBl) zi ⟨zR,⟨rfl,ib hBl (by decide) (by decide),_,rfl,dI (jv rfl hBl (by rfl))⟩,zR,zR,zR,zM,zM,zR,zM,zM,zM,zM,zM,zR,zR,trivial⟩ (fun i9 row hr=>by have hi9:=dK hr; have hi8:=(show (B.set 0 []).length≤9000000 by rw[List.length_set]; exact hBl); repeat (first | exact df hr | refine farl rfl (Nat.lt_of_lt_of_le hi9 hi8) ?_))) ?_
  rintro⟨k,out,opn,j,xs⟩ ⟨hpop,hO,hk,hxs⟩
  simp only at hpop hO hk hxs
  refine bM ?_
  show WC _ _ _ _ (gE3 q.2.length opn) (gO q.2.length B j 69 xs (gA l b e p sp q out opn [])) _
  have hcnt:=hO.cnt
  have htl:=mw sp i
  cases hgl:opn.getLast? with
  | none =>
   have hol0:opn=[]:=List.getLast?_eq_none_iff.1 hgl
   subst hol0
   have hgo:ei p l e q.2 sp=out:=by
    rw[←hpop]
    cases k with
    | zero=>rfl
    | succ k=>rfl
   rw[hgo]
   refine qR<|rC ?_;refine rQ (bS aa rfl rfl) ?_;refine rC ?_;refine zJ<|bV<|db<|dY<|dj<|aG<|sR ?_;refine zD<|zT ?_
   exact⟨trivial,[(64,some 65)],lg zV ⟨zR,zR,zM,zM,zR,zM,zM,zM,zM,zM,zR,zR,trivial⟩⟩
  | some iI =>
   obtain⟨k2,rfl⟩:∃k2,k=k2+1:=⟨k-1,by omega⟩
   rw[popG,hgl]at hpop
   simp only at hpop
   have hne:opn≠[]:=fun e=>by rw[e]at hgl; cases hgl
   have hlen:0<opn.length:=List.length_pos_iff.2 hne
   have hlast0:opn[opn.length-1]?=some iI:=by rw[←List.getLast?_eq_getElem?]; exact hgl
   have hlast:opn[(((opn.length-1:Nat):Int)).toNat]?=some iI:=by rw[Int.toNat_natCast]; exact hlast0
   obtain⟨hi0,hi1⟩:=hO.oe iI (List.mem_of_getElem? hlast0)
   obtain⟨bk,hbk,hbkl,hbke⟩:=hB.get (j:=iI.toNat) (by omega)
   rw[hbk]at hpop
   simp only[Option.getD_some]at hpop
   have d3:decide ((0:Int)<(opn.length:Int))=true:=dT (by omega)
   have hw87:IntKind.i64.wrap ((opn.length:Int)-1)=((opn.length-1:Nat):Int):=by rw[aV (by omega) (by omega)]; omega
   refine gr 10000000 _ (Le.closeL (aF (gA l b e p sp q out opn [])) j 69 66 q.2.length xs hxs hBl rfl rfl rfl rfl ⟨rfl,rfl,rfl,rfl,rfl,rfl,rfl,rfl,rfl,rfl,rfl,rfl,trivial⟩ ⟨rfl,⟨rfl,rfl,rfl,rfl⟩,rfl,⟨rfl,rfl,rfl,rfl⟩,rfl,⟨rfl,rfl,rfl,rfl⟩,rfl,zK,rfl,zK,rfl,⟨rfl,rfl,rfl,rfl⟩,rfl,zK,rfl,zK,rfl,zK,rfl,zK,rfl,zK,rfl,⟨rfl,rfl,rfl,rfl⟩,rfl,⟨rfl,rfl,rfl,rfl⟩,trivial⟩) ?_;refine gr 10000000 _ (Le.openL (aF (gA l b e p sp q out opn [])) iI.toNat 69 66 q.2.length bk hbk hBl rfl rfl rfl rfl rfl rfl ⟨rfl,rfl,rfl,rfl,rfl,rfl,rfl,rfl,rfl,rfl,rfl,rfl,trivial⟩ ⟨rfl,⟨rfl,rfl,rfl,rfl⟩,rfl,⟨rfl,rfl,rfl,rfl⟩,rfl,⟨rfl,rfl,rfl,rfl⟩,rfl,zK,rfl,zK,rfl,⟨rfl,rfl,rfl,rfl⟩,rfl,zK,rfl,zK,rfl,zK,rfl,zK,rfl,zK,rfl,⟨rfl,rfl,rfl,rfl⟩,rfl,⟨rfl,rfl,rfl,rfl⟩,trivial⟩)<|qR ?_;refine rC ?_;refine rQ (bS aa rfl rfl) ?_;refine rC ?_;refine zI<|kS<|zS ?_;refine zD ?_;refine rQ (bS aa rfl rfl) ?_;refine rQ (ce (m:=((opn.length-1:Nat):Int)) aa rfl rfl hw87) ?_;refine rQ (aP aa rfl rfl rfl rfl rfl (by omega) (by omega)) ?_;refine rQ (bd (v :=.int .i64 iI) aa rfl rfl ⟨rfl,iI,hlast,_,rfl,rfl⟩ rfl) ?_;refine rC<|nR ?_;refine zD ?_;refine rQ (bS aa rfl rfl) ?_;refine rQ (ce (m:=((opn.length-1:Nat):Int)) aa rfl rfl hw87) ?_;refine rQ (py (m:=opn.length-1) aa rfl rfl rfl rfl (by omega)) ?_;refine rC<|nR ?_;refine zD ?_;refine rQ (aP aa rfl rfl rfl rfl rfl hi0 (by omega)) ?_;refine rQ (bd (v :=.own 69 0 bk.length 1 none) aa rfl rfl (ov hBn hbk jC) rfl) ?_;refine rQ (bS aa rfl rfl) ?_;refine rC<|zP ?_
   refine wc_inv (fun s:Nat×List Bool×List Int=>⟨gE4 q.2.length s.1 bk s.2.2,gO q.2.length B iI.toNat 69 bk (gA l b e p sp q s.2.1 s.2.2 []),10000000,Try.f72.ntmps,64⟩) (fun s=>s.1≤bk.length∧(s.2.1,s.2.2)=(bk.take s.1).foldl pshF (out,opn.dropLast)∧OOk i s.2.1 s.2.2∧s.2.2.length+cntF s.2.1+1=opn.length+cntF out) (fun s=>bk.length-s.1) (0,out,opn.dropLast) [(65,some 65),(66,some 66),(67,some 67),(69,some 69)] ⟨Nat.zero_le _,rfl,hO.pop,by simp only; rw[List.length_dropLast]; omega⟩
    (Le.stayL rfl rfl rfl rfl rfl rfl rfl rfl (cW rfl) (show (B.set iI.toNat []).length≤9000000 by rw[List.length_set]; exact hBl) ⟨zE,rfl,zE,rfl,zE,rfl,zE,rfl,zE,rfl,zE,rfl,⟨_,rfl,AVLe.of_eq (by rw[List.length_dropLast]; rfl)⟩,rfl,trivial⟩ ⟨zR,⟨rfl,ib hBl (by decide) (by decide),_,rfl,dI (jv rfl hBl (by rfl))⟩,zR,⟨rfl,rfl,_,rfl,(by rw[List.dropLast_eq_take]; exact aR.ds_take)⟩,zR,zM,zM,zR,zM,zM,zM,zM,zM,zR,zR,trivial⟩ (fun i9 row hr=>by have hi9:=dK hr; have hi8:=(show (B.set iI.toNat []).length≤9000000 by rw[List.length_set]; exact hBl); repeat (first | exact df hr | refine farl rfl (Nat.lt_of_lt_of_le hi9 hi8) ?_))) ?_
   rintro⟨j4,out4,opn4⟩ ⟨hj4,hf4,hO4,hc4⟩
   simp only at hj4 hf4 hO4 hc4
   refine bM ?_
   show WC _ _ _ _ (gE4 q.2.length j4 bk opn4) (gO q.2.length B iI.toNat 69 bk (gA l b e p sp q out4 opn4 [])) _
   by_cases hjl:j4<bk.length
   ·have d4:decide ((j4:Int)<(bk.length:Int))=true:=dT (by omega)
    obtain⟨kI,hkI⟩:∃kI,bk[j4]?=some kI:=⟨_,List.getElem?_eq_getElem hjl⟩
    have hk2:bk[((j4:Int)).toNat]?=some kI:=by rw[Int.toNat_natCast]; exact hkI
    obtain⟨hk0,hk1⟩:=hbke kI (List.mem_of_getElem? hkI)
    have hts:=og (f:=pshF) hkI (out,opn.dropLast)
    rw[←hf4]at hts
    obtain⟨c,ht⟩:=hO4.get hk0 hk1
    clear hw87 hlast d3 hpop hlast0
    cases c with
    | true =>
     rw[wx ht]at hts
     refine sR<|rC<|nQ ?_;refine wT<|zQ<|zS ?_;refine rQ (aP aa rfl rfl rfl rfl rfl (by omega) (by omega)) ?_;refine rQ (bd (v :=.int .i64 kI) aa rfl rfl ⟨rfl,kI,hk2,_,rfl,rfl⟩ rfl) ?_;refine rC<|nR ?_;refine zD ?_;refine rQ (aP aa rfl rfl rfl rfl rfl hk0 (by omega)) ?_;refine rQ (bd aa rfl rfl ⟨rfl,_,ht,_,rfl,rfl⟩ rfl) ?_;refine rC<|nS ?_;refine wG<|aN<|zC<|aj ?_;refine rQ iD ?_;refine rC<|aw ?_
     exact aI (j4+1,out4,opn4) [(65,some 65),(66,some 66),(67,some 67),(69,some 69)] ⟨hjl,hts.symm,hO4,hc4⟩ (by simp only; omega) (Le.stayL rfl rfl rfl rfl rfl rfl rfl rfl (cW rfl) (show (B.set iI.toNat []).length≤9000000 by rw[List.length_set]; exact hBl) zf ⟨zR,⟨rfl,ib hBl (by decide) (by decide),_,rfl,dI (jv rfl hBl (by rfl))⟩,zR,zR,zR,zM,zM,zR,zM,zM,zM,zM,zM,zR,zR,trivial⟩ (fun i9 row hr=>by have hi9:=dK hr; have hi8:=(show (B.set iI.toNat []).length≤9000000 by rw[List.length_set]; exact hBl); repeat (first | exact df hr | refine farl rfl (Nat.lt_of_lt_of_le hi9 hi8) ?_)))
    | false =>
     rw[wy ht]at hts
     obtain⟨hO5,hc5⟩:=hO4.psh hk0 hk1 ht
     have hol:opn4.length+1≤1048576:=by have:=hO4.cnt; omega
     refine sR<|rC<|nQ ?_;refine wT<|zQ<|zS ?_;refine rQ (aP aa rfl rfl rfl rfl rfl (by omega) (by omega)) ?_;refine rQ (bd (v :=.int .i64 kI) aa rfl rfl ⟨rfl,kI,hk2,_,rfl,rfl⟩ rfl) ?_;refine rC<|nR ?_;refine zD ?_;refine rQ (aP aa rfl rfl rfl rfl rfl hk0 (by omega)) ?_;refine rQ (bd aa rfl rfl ⟨rfl,_,ht,_,rfl,rfl⟩ rfl) ?_;refine rC<|nS ?_;refine wV<|sR ?_;refine zD ?_;refine rQ (aP aa rfl rfl rfl rfl rfl hk0 (by omega)) ?_;refine bO (aL aa rfl rfl rfl ⟨rfl,false,true,ht,⟨rfl,rfl,rfl⟩,rfl⟩ rfl)<|nS<|aj ?_;refine zD ?_;refine aW (aD aa rfl rfl rfl rfl rfl rfl rfl rfl) rfl ?_;refine aO (aQ (s:=1) (enc:=i6) (xs:=opn4) aa kI rfl rfl rfl rfl rfl rfl rfl rfl rfl hol rfl) rfl ?_;refine rC<|aw<|zC<|aj ?_;refine rQ iD ?_;refine rC<|aw ?_
     exact aI (j4+1,out4.set kI.toNat true,opn4++[kI]) [(65,some 65),(66,some 66),(67,some 10000128),(69,some 69)] ⟨hjl,hts.symm,hO5,by simp only at hc5 ⊢; omega⟩ (by simp only; omega) (Le.stayL rfl rfl rfl rfl rfl rfl rfl rfl (cW rfl) (show (B.set iI.toNat []).length≤9000000 by rw[List.length_set]; exact hBl) ⟨zE,rfl,zE,rfl,zE,rfl,zE,rfl,zE,rfl,zE,rfl,⟨_,rfl,AVLe.of_eq (by simp only[List.length_append,List.length_singleton]; rfl)⟩,rfl,trivial⟩ ⟨zR,⟨rfl,ib hBl (by decide) (by decide),_,rfl,dI (jv rfl hBl (by rfl))⟩,zR,zR,zR,zM,zM,zR,zM,zM,zM,zM,zM,zR,zR,trivial⟩ (fun i9 row hr=>by have hi9:=dK hr; have hi8:=(show (B.set iI.toNat []).length≤9000000 by rw[List.length_set]; exact hBl); repeat (first | exact df hr | refine farl rfl (Nat.lt_of_lt_of_le hi9 hi8) ?_)))
   ·have d4:decide ((j4:Int)<(bk.length:Int))=false:=dF (by omega)
    obtain rfl:j4=bk.length:=by omega
    rw[List.take_length]at hf4
    rw[←hf4]at hpop
    refine sR<|rC<|nQ ?_;refine wF<|bV<|db<|dY<|dj<|ep ?_
    exact aI (k2,out4,opn4,iI.toNat,bk) [(65,some 65),(66,some 66),(67,some 67),(69,some 69)] ⟨hpop,hO4,by simp only; omega,hbk⟩ (by simp only; omega) (Le.stayL rfl rfl rfl rfl rfl rfl rfl rfl (cW rfl) (show (B.set iI.toNat []).length≤9000000 by rw[List.length_set]; exact hBl) zi ⟨zR,⟨rfl,ib hBl (by decide) (by decide),_,rfl,dI (jv rfl hBl (by rfl))⟩,zR,zR,zR,zM,zM,zR,zM,zM,zM,zM,zM,zR,zR,trivial⟩ (fun i9 row hr=>by have hi9:=dK hr; have hi8:=(show (B.set iI.toNat []).length≤9000000 by rw[List.length_set]; exact hBl); repeat (first | exact df hr | refine farl rfl (Nat.lt_of_lt_of_le hi9 hi8) ?_)))
theorem ye (l:List Int):∀(a:List Bool×List Int),(l.foldl pshF a).1.length=a.1.length:=by
 induction l with
 | nil=>intro a; rfl
 | cons k l ih =>
  intro a
  rw[List.foldl_cons,ih]
  unfold pshF
  split
  ·rfl
  ·rw[List.length_set]
theorem qy (B:List (List Int)):∀(k:Nat) (out:List Bool) (opn:List Int),(popG B k out opn).length=out.length
 | 0,_,_=>rfl
 | k+1,out,opn=>by
  unfold popG
  split
  ·rfl
  ·rw[qy B k,ye]
theorem tU (p:Prep) (l:List HOp) (e:Nat) (st:List LSt) (sp:List (List aM)):∀i,(gdA p l e st sp i).out.length=st.length
 | 0=>by simp[gdA,gd0]
 | i+1=>by
  have:=tU p l e st sp i
  unfold gdA gd1
  split
  ·rw[List.length_set]; exact this
  ·exact this
theorem nE (p:Prep) (l:List HOp) (e:Nat) (st:List LSt) (sp:List (List aM)):(ei p l e st sp).length=st.length:=by
 rw[ei,qy,tU]
theorem yB (l:List HOp) (b:Int) (e:Nat) (p:Prep) (sp:List (List aM)) (q:QS) (P:POk l e p) (hS:∀y∈q.2,SOk p e y) (he:e≤1048576) (hsp:SpOk q.2 sp) (hN:q.2.length≤1048576) (h0:0<q.2.length) (hT:totS sp+1≤67108864):FnIs Try.prog 72 [.ptr 0 []] (cu l b e p sp q 9) (.d (.arr 1 eb (ei p l e q.2 sp))) (cu l b e p sp q 9):=
 (xg l b e p sp q P hS he hsp hN h0 hT).freeze_out 64 _ rfl (Frz.own (nE p l e q.2 sp).symm) ⟨zF,zF,zF,zF,zF,zF,zF,zF,zF,zF,zF,trivial⟩
def xS (st:List LSt) (sp:List (List aM)):Prop:=∀(i:Nat) (x:LSt) (ys:List aM),st[i]?=some x→sp[i]?=some ys→∀y∈ys,y.op<0→∃x',st[y.to.toNat]?=some x'∧x'.era=x.era+1
theorem vp {p:aM→Bool} {l:List aM} {j:Nat} {y:aM} (h:l[j]?=some y):(l.drop j).find? p=if p y=true then some y else (l.drop (j+1)).find? p:=by
 rw[List.drop_eq_getElem_cons (List.getElem?_eq_some_iff.1 h).1,(List.getElem?_eq_some_iff.1 h).2,List.find?_cons]
 cases p y <;> rfl
abbrev eE (ys:List aM) (j:Nat):Env:=[(34,.int .i64 j),(33,.int .i64 ys.length),(32,.d (cC ys)),(0,.ptr 0 [])]
theorem tX (l:List HOp) (b:Int) (e:Nat) (p:Prep) (sp:List (List aM)) (q:QS) (P:POk l e p) (hS:∀y∈q.2,SOk p e y) (he:e≤1048576) (hsp:SpOk q.2 sp) (hE:xS q.2 sp) (hT:totS sp+1≤67108864):∀(n:Nat) (i:Int) (x:LSt),0≤i→q.2[i.toNat]?=some x→(e:Int)≤x.era+n→FnIs Try.prog 73 [.ptr 0 [],.int .i64 i] (cu l b e p sp q 9) (.bool (kX p l e q.2 sp n i)) (cu l b e p sp q 9)
 | 0,i,x,_,hx,hn=>by have:=(hS x (List.mem_of_getElem? hx)).era; omega
 | n+1,i,x,hi0,hx,hn=>by
  have hxS:=hS x (List.mem_of_getElem? hx)
  have hxl:=(List.getElem?_eq_some_iff.1 hx).1
  have hera:=hxS.era
  have hwe:IntKind.i64.wrap ((e:Int)-1)=(e:Int)-1:=aV (by omega) (by omega)
  have hspl:=hsp.len
  have hfu:=nG l b e p sp q x P hxS
  have hstn:stN q.2 i=x:=by rw[stN,hx]; rfl
  rw[kX,hstn]
  refine aE aa Try.func73 rfl rfl rfl ?_
  cases d1:decide (x.era=(e:Int)-1) with
  | true =>
   rw[if_pos rfl]
   refine sR<|rC<|nR ?_;refine zU ?_;refine rQ iM ?_;refine rC ?_;refine rQ (aP aa rfl rfl rfl rfl rfl hi0 (by omega)) ?_;refine rQ (bd (v :=.d (bU x)) aa rfl rfl ⟨rfl,x,hx,bU x,rfl,rfl⟩ rfl) ?_;refine rN ?_;refine rW<|nQ<|aS ?_;refine aA (by kernel_rfl) ?_;refine dC [5] [] ?_;refine dQ [15] [128] iB ?_;refine dC [0] [] ?_;refine dC [17] [] ?_;refine dC [18] [] ?_;refine dQ [19] [0] iM ?_;refine dQ [20] [] (ce (m:=(e:Int)-1) aa rfl rfl hwe) ?_;refine dC [16,21] [] ?_;refine am (by kernel_rfl)<|aG ?_;refine wT<|sR ?_;refine rC ?_;refine rQ iM ?_;refine bK rfl (bc [] hfu rfl rfl rfl (aZ rfl rfl (ak ai)) ⟨zH,zN,zN,zH,zN,zN,zN,zN,zN,zH,zH,trivial⟩ rfl rfl (.inl rfl) rfl rfl) rfl rfl ?_;refine rC<|zT<|bA ?_
   exact⟨trivial,[],lg zV ⟨zR,zM,zM,zR,zM,zM,zM,zM,zM,zR,zR,trivial⟩⟩
  | false =>
   rw[if_neg (by decide)]
   obtain⟨ys,hys⟩:∃ys,sp[i.toNat]?=some ys:=⟨_,List.getElem?_eq_getElem (by omega)⟩
   have hspn:spN sp i=ys:=by rw[spN,hys]; rfl
   have hyl:ys.length≤67108864:=by have h1:=lw hys; have h2:=mw sp (i.toNat+1); omega
   rw[hspn]
   refine sR<|rC<|nR ?_;refine zU ?_;refine rQ iM ?_;refine rC ?_;refine rQ (aP aa rfl rfl rfl rfl rfl hi0 (by omega)) ?_;refine rQ (bd (v :=.d (bU x)) aa rfl rfl ⟨rfl,x,hx,bU x,rfl,rfl⟩ rfl) ?_;refine rN ?_;refine rW<|nQ<|aS ?_;refine aA (by kernel_rfl) ?_;refine dC [5] [] ?_;refine dQ [15] [128] iB ?_;refine dC [0] [] ?_;refine dC [17] [] ?_;refine dC [18] [] ?_;refine dQ [19] [0] iM ?_;refine dQ [20] [] (ce (m:=(e:Int)-1) aa rfl rfl hwe) ?_;refine dC [16,21] [] ?_;refine am (by kernel_rfl)<|aG ?_;refine wF<|kS<|qR ?_;refine zU ?_;refine rQ iM ?_;refine rC ?_;refine rQ (aP aa rfl rfl rfl rfl rfl hi0 (by omega)) ?_;refine rQ (bd (v :=.d (cC ys)) aa rfl rfl ⟨rfl,ys,hys,cC ys,rfl,rfl⟩ rfl) ?_;refine rQ iE ?_;refine rC<|zP ?_
   refine wc_inv (fun j:Nat=>⟨eE ys j,aF (cu l b e p sp q 9),72,Try.f73.ntmps,64⟩) (fun j=>j≤ys.length∧(ys.drop j).find? (fun y=>decide (y.op<0))=ys.find? (fun y=>decide (y.op<0))) (fun j=>ys.length-j) 0 [] ⟨Nat.zero_le _,rfl⟩
    (lg zi ⟨zR,zM,zM,zR,zM,zM,zM,zM,zM,zR,zR,trivial⟩) ?_
   rintro j ⟨hj,hfd⟩
   refine bM ?_
   show WC _ _ _ _ (eE ys j) (aF (cu l b e p sp q 9)) _
   by_cases hjl:j<ys.length
   ·have d2:decide ((j:Int)<(ys.length:Int))=true:=dT (by omega)
    obtain⟨y,hy⟩:∃y,ys[j]?=some y:=⟨_,List.getElem?_eq_getElem hjl⟩
    have hy2:ys[((j:Int)).toNat]?=some y:=by rw[Int.toNat_natCast]; exact hy
    have hym:=List.mem_of_getElem? hy
    rw[vp hy]at hfd
    cases d3:decide (y.op<0) with
    | true =>
     rw[d3,if_pos rfl]at hfd
     rw[←hfd]
     obtain⟨x2,hx2,hx2e⟩:=hE i.toNat x ys hx hys y hym (of_decide_eq_true d3)
     have hre:=tX l b e p sp q P hS he hsp hE hT n y.to x2 (hsp.to ys (List.mem_of_getElem? hys) y hym).1 hx2 (by omega)
     refine sR<|rC<|nQ ?_;refine wT<|zQ<|zS ?_;refine rQ (ao aa rfl rfl rfl rfl rfl (by omega) hy2) ?_;refine rQ iL ?_;refine rN ?_;refine rW<|nR ?_;refine rC ?_;refine rQ iB ?_;refine rC ?_;refine zI<|sR ?_;refine zD ?_;refine rQ iB ?_;refine bK rfl (bc [] hre rfl rfl rfl (aZ rfl rfl (ak ai)) ⟨zH,zN,zN,zH,zN,zN,zN,zN,zN,zH,zH,trivial⟩ rfl rfl (.inl rfl) rfl rfl) rfl rfl ?_;refine rC<|zT<|zB<|ci<|zB ?_
     exact⟨trivial,[],lg zV ⟨zR,zM,zM,zR,zM,zM,zM,zM,zM,zR,zR,trivial⟩⟩
    | false =>
     rw[d3,if_neg (by decide)]at hfd
     refine sR<|rC<|nQ ?_;refine wT<|zQ<|zS ?_;refine rQ (ao aa rfl rfl rfl rfl rfl (by omega) hy2) ?_;refine rQ iL ?_;refine rN ?_;refine rW<|nR ?_;refine rC ?_;refine rQ iB ?_;refine rC ?_;refine zG<|aN<|zC<|aj ?_;refine rQ iD ?_;refine rC<|aw ?_
     exact aI (j+1) [] ⟨hjl,hfd⟩ (by omega) (lg zi ⟨zR,zM,zM,zR,zM,zM,zM,zM,zM,zR,zR,trivial⟩)
   ·have d2:decide ((j:Int)<(ys.length:Int))=false:=dF (by omega)
    rw[List.drop_eq_nil_of_le (by omega)]at hfd
    rw[←hfd]
    refine sR<|rC<|nQ ?_;refine wF<|zX<|sR ?_;refine rC<|zT ?_
    exact⟨trivial,[],lg zV ⟨zR,zM,zM,zR,zM,zM,zM,zM,zM,zR,zR,trivial⟩⟩
end Go.Proofs.Ytkehohfgbblokaa
namespace Go.Eng
open Go.RowKit
section
variable {P : Program} {T : Tab} {sz : Nat} {env : Env} {h : Upds} {n : Nat}
theorem nX (hT:ay P T) {t e r2:Nat} {re:TyR} {s:Nat} {ex2:Bool} {cap2:Option Nat} {α:Type} {enc:α→D} {x y:Operand} {d:D} (el:α) (ht:bz T t=some (.slice e)) (he:lk T e=some re) (hs:Nat.beq re.size s=true)
  {v:AV} (hx:aB env x=some v) (hv:v=.empty∨v=.d (.sc (.slice none 0 0))) (hy:aB env y=some (.own r2 0 1 s cap2)) (hrow2:aX h r2=some (.lits e s 1 ex2 (.acons (.d d) .anil))) (hd:d=enc el) (hbytes:Nat.ble re.bytes 134217728=true) :
  au P (.call { callee :=.builtin .append,args := #[x,y],argTypes := #[t,t] }) env h n (some (.own n 0 1 s none)) [(n,some (.ds e s false enc [el]))]:=by
 have hb:=Nat.le_of_ble_eq_true hbytes
 refine ln (ys:=[el]) hT ht he (Nat.eq_of_beq_eq_true hs) hx hv (by simp) (by simp[maxLen]) (by simp; omega) ?_
 intro C G st σ w a hA hst
 obtain⟨hy1,_⟩:=aC hst (hA.ev hy)
 have hr2:=hst.rows r2 _ (hA.row _ _ hrow2)
 rcases RelV.own.1 hy1 with ⟨_,_,h0,_⟩ | ⟨b,c,ad,hb,hv,hle,_,_,had⟩
 ·omega
 ·have:ad=⟨b,0,none⟩:=by have:=had (by omega); simpa using this
  subst this
  rcases hr2 with ⟨_,⟨hn,_⟩ | ⟨b',c',cur,cs,hb',_,hh,hcs,_,_,hcl,hrel,htk⟩⟩
  ·rw[hb]at hn; cases hn
  ·rw[hb]at hb'
   cases hb'
   obtain⟨c1,c2,rfl,h1,h2⟩:=hrel
   obtain rfl:c2=[]:=h2
   rw[List.append_nil]at hcl htk
   have h1:Enc w (st.X C.X0 σ) d c1:=h1
   refine⟨⟨b,0,none⟩,_,fun _=>c1,hv,fun i hi=>?_,fun j u hj=>?_⟩
   ·have:i=0:=by simp at hi; exact hi
    subst this
    exact⟨by simpa[←hd]using h1,by simpa using hcl⟩
   ·simp only[List.length_cons,List.length_nil,cat,List.nil_append]at hj
    have hjl:=(List.getElem?_eq_some_iff.1 hj).1
    rw[eW,cell_of_row w b _ cur e (0,0) hh,Nat.zero_add,←Array.getElem?_toList]
    rw[←htk,List.getElem?_take,if_pos (by omega)]at hj
    exact hj
end
end Go.Eng
namespace Go.Proofs.Ytkehohfgbblokaa
open Go.Eng Go.Plain
set_option maxHeartbeats 32000000
set_option maxRecDepth 20000
attribute [local irreducible] WC RegS RegD SeqQ BlkQ ScoQ RegK CutK Sat SatN FnIs LoopQ au OpIs
def ixG (p:aM→Bool) (l:List aM) (i:Nat):Int:=match l with
 | [] => -1
 | o::l=>if p o=true then (i:Int) else ixG p l (i+1)
theorem xb {p:aM→Bool} {l:List aM} {i:Nat} {o:aM} (h:l[i]?=some o):ixG p (l.drop i) i=if p o=true then (i:Int) else ixG p (l.drop (i+1)) (i+1):=by
 have hlt:=(List.getElem?_eq_some_iff.1 h).1
 rw[List.drop_eq_getElem_cons hlt,(List.getElem?_eq_some_iff.1 h).2]
 rfl
theorem qX {p:aM→Bool} {y:aM}:∀(l:List aM) (i:Nat),l.find? p=some y→∃k:Nat,ixG p l i=((i+k:Nat):Int)∧l[k]?=some y
 | [],i,h=>by simp at h
 | o::l,i,h=>by
  rw[List.find?_cons]at h
  unfold ixG
  cases hp:p o with
  | true =>
   rw[hp]at h
   cases h
   exact⟨0,rfl,rfl⟩
  | false =>
   rw[hp]at h
   obtain⟨k,h1,h2⟩:=qX l (i+1) h
   refine⟨k+1,?_,by simpa using h2⟩
   rw[if_neg (by decide),h1]
   congr 1; omega
abbrev nn (g:List Bool):List (Nat×Row):=[(0,.box 93 (.d (.arr 1 eb g)))]
theorem An (g:List Bool) (y:aM) (h0:0≤y.to) (h1:y.to<g.length):FnIs Try.prog 75 [.d (o9 y),.ptr 0 []] (nn g) (.bool (gJ g y)) (nn g):=by
 obtain⟨c,hc⟩:∃c,g[y.to.toNat]?=some c:=⟨_,List.getElem?_eq_getElem (by omega)⟩
 rw[gJ,hc]
 refine aE aa Try.func75 rfl rfl rfl ?_;refine sR<|rN ?_;refine rC<|nR ?_;refine rQ iM ?_;refine rC ?_;refine rQ iB ?_;refine rQ (ao aa rfl rfl rfl rfl rfl h0 hc) ?_;refine rQ iL ?_;refine rC<|zT ?_
 exact⟨trivial,[],lg zV ⟨zR,trivial⟩⟩
theorem Ae (l:List aM) (f:Nat) (g:List Bool) (p:aM→Bool) (hL:l.length≤9223372036854775807) (hp:∀o∈l,FnIs Try.prog f [.d (o9 o),.ptr 0 []] (nn g) (.bool (p o)) (nn g)):FnIs Try.prog 74 [.d (cC l),.fn (.func f) .anil (.acons (.ptr 0 []) .anil)] (nn g) (.int .i64 (ixG p l 0)) (nn g):=by
 refine aE aa Try.func74 rfl rfl rfl ?_;refine sR<|rC<|zW ?_;refine rC ?_;refine rQ iE ?_;refine rC<|zP ?_
 refine wc_inv (fun k:Nat=>⟨[(8,.int .i64 k),(7,.int .i64 l.length),(0,.d (cC l)),(1,.fn (.func f) .anil (.acons (.ptr 0 []) .anil))],aF (nn g),72,Try.f74.ntmps,64⟩) (fun k=>k≤l.length∧ixG p (l.drop k) k=ixG p l 0) (fun k=>l.length-k) 0 [] ⟨Nat.zero_le _,by rw[List.drop_zero]⟩
  (lg zi ⟨zR,trivial⟩) ?_
 rintro k ⟨hk,hix⟩
 refine bM ?_
 by_cases hlt:k<l.length
 ·have d1:decide ((k:Int)<(l.length:Int))=true:=dT (by omega)
  obtain⟨o,ho⟩:∃o,l[k]?=some o:=⟨_,List.getElem?_eq_getElem hlt⟩
  have ho2:l[((k:Int)).toNat]?=some o:=by rw[Int.toNat_natCast]; exact ho
  rw[xb ho]at hix
  refine sR<|rC<|nQ ?_;refine wT<|zQ<|zS ?_;refine zD<|nR ?_;refine zU ?_;refine rQ iA ?_;refine rQ iL ?_;refine aO (bc [(0,some 0)] (hp o (List.mem_of_getElem? ho)) rfl rfl rfl (ak (aZ rfl rfl ai)) ⟨zH,trivial⟩ rfl rfl (.inl rfl) rfl rfl) rfl<|nS ?_
  cases hpo:p o with
  | true =>
   rw[hpo,if_pos rfl]at hix
   rw[←hix]
   refine wV<|sR ?_;refine zD<|zT<|zB<|ci<|zB ?_
   exact⟨trivial,[],lg zV ⟨zR,trivial⟩⟩
  | false =>
   rw[hpo,if_neg (by decide)]at hix
   refine wG<|aN<|zC<|aj ?_;refine rQ iD ?_;refine rC<|aw ?_
   exact aI (k+1) [] ⟨hlt,hix⟩ (by omega) (lg zi ⟨zR,trivial⟩)
 ·have d1:decide ((k:Int)<(l.length:Int))=false:=dF (by omega)
  have he:k=l.length:=by omega
  subst he
  rw[List.drop_length]at hix
  rw[←hix]
  refine sR<|rC<|nQ ?_;refine wF<|zX<|sR ?_;refine rC<|zT ?_
  exact⟨trivial,[],lg zV ⟨zR,trivial⟩⟩
theorem xC (l:List Int):FnIs Try.prog 76 [.d (.arr 1 i6 l)] [] (.d (.arx 1 i6 l)) []:=by
 refine aE aa Try.func76 rfl rfl rfl ?_;refine sR<|rC<|nR ?_;refine zD ?_;refine rQ iE ?_;refine rC ?_;refine rQ iE ?_;refine rQ (mO aa rfl rfl rfl rfl rfl) ?_;refine rC<|zT ?_
 exact⟨trivial,[],lf⟩
abbrev kY (l:List Int):D :=.arx 1 i6 l
abbrev ordE (o:List Int) (f:Bool):AV :=.tup (.acons (.d (kY o)) (.acons (.bool f) .anil))
def ordV:List Int→AV
 | []=>.empty
 | a::o=>.own 66 0 (a::o).length 1 none
def ordR:List Int→List (Nat×Row)
 | []=>[]
 | a::o=>[(66,zRow (a::o))]
abbrev lE (at_:Int) (v:AV):Env:=[(6,.int .i64 at_),(5,v),(4,.ptr 65 []),(0,.ptr 0 [])]
abbrev lR (l:List HOp) (b e:Int) (p:Prep) (sp:List (List aM)) (q:QS) (g:List Bool) (o:List (Nat×Row)):List (Nat×Row):=(65,.box 93 (.d (.arr 1 eb g)))::(o++cu l b e p sp q 9)
structure uu (p:Prep) (l:List HOp) (e:Nat) (st:List LSt) (sp:List (List aM)) (μ:Nat→Nat):Prop where
 go:∀(i:Nat),(ei p l e st sp)[i]?=some true→kX p l e st sp e i=true∨∃y,(spN sp i).find? (gJ (ei p l e st sp))=some y
 dn:∀(i:Nat) ys,sp[i]?=some ys→∀y∈ys,μ y.to.toNat<μ i
 m0:μ 0≤1000000
def lG (p:Prep) (l:List HOp) (e:Nat) (st:List LSt) (sp:List (List aM)) (n:Nat):List Int×Bool :=
 if (ei p l e st sp)[0]?=some true then (eJ p l e st sp (ei p l e st sp) n 0 [],true) else ([],false)
theorem gH {p:Prep} {l:List HOp} {e:Nat} {st:List LSt} {sp:List (List aM)} {g:List Bool} {μ:Nat→Nat} (dn:∀(i:Nat) ys,sp[i]?=some ys→∀y∈ys,μ y.to.toNat<μ i):∀(n:Nat) (i:Int) (o:List Int) (m:Nat),μ i.toNat<n→μ i.toNat<m→eJ p l e st sp g n i o=eJ p l e st sp g m i o
 | 0,_,_,_,h,_=>by omega
 | n+1,i,o,0,_,h=>by omega
 | n+1,i,o,m+1,h1,h2=>by
  unfold eJ
  split
  ·rfl
  ·split
   ·rfl
   ·rename_i y hy
    have hym:=List.mem_of_find?_eq_some hy
    have hd:μ y.to.toNat<μ i.toNat:=by
     unfold spN at hym
     cases hs:sp[i.toNat]? with
     | none=>rw[hs]at hym; cases hym
     | some ys=>rw[hs]at hym; exact dn i.toNat ys hs y hym
    exact gH dn n y.to _ m (by omega) (by omega)
theorem wU (l:List HOp) (b:Int) (e:Nat) (p:Prep) (sp:List (List aM)) (q:QS) (μ:Nat→Nat) (P:POk l e p) (hS:∀y∈q.2,SOk p e y) (he:e≤1048576) (hsp:SpOk q.2 sp) (hE:xS q.2 sp) (hN:q.2.length≤1048576) (h0:0<q.2.length) (hT:totS sp+1≤67108864) (hL:uu p l e q.2 sp μ):FnIs Try.prog 57 [.ptr 0 []] (cu l b e p sp q 9) (ordE (lG p l e q.2 sp (μ 0+1)).1 (lG p l e q.2 sp (μ 0+1)).2) (cu l b e p sp q 9):=by
 have hgood:=yB l b e p sp q P hS he hsp hN h0 hT
 have hgl:=nE p l e q.2 sp
 have hgo:=hL.go
 obtain⟨g,hgd⟩:∃g,g=ei p l e q.2 sp:=⟨_,rfl⟩
 unfold lG
 rw[←hgd]at hgood hgl hgo ⊢
 obtain⟨c,hc⟩:∃c,g[0]?=some c:=⟨_,List.getElem?_eq_getElem (by omega)⟩
 have hg0:g[((0:Int)).toNat]?=some c:=hc
 refine aE aa Try.func57 rfl rfl rfl ?_
 cases c with
 | false =>
  rw[if_neg (by rw[hc]; decide)]
  refine sR<|zD<|nR ?_;refine rC ?_;refine bK rfl (bc [] hgood rfl rfl rfl (aZ rfl rfl ai) ⟨zH,zN,zN,zH,zN,zN,zN,zN,zN,zH,zH,trivial⟩ rfl rfl (.inl rfl) rfl rfl) rfl rfl ?_;refine rN ?_;refine rW<|zW ?_;refine rQ iM ?_;refine rQ (ao aa rfl rfl rfl rfl rfl (by decide) hg0) ?_;refine rQ iL ?_;refine rC ?_;refine zO<|sR ?_;refine zD<|zT<|bA ?_
  exact⟨trivial,[],lg ⟨⟨_,rfl,AVLe.tup1 (io _ _) rfl⟩,rfl,trivial⟩ ⟨zR,zM,zM,zR,zM,zM,zM,zM,zM,zR,zR,trivial⟩⟩
 | true =>
  rw[if_pos hc]
  have hm0:=hL.m0
  have hspl:=hsp.len
  refine sR<|zD<|nR ?_;refine rC ?_;refine bK rfl (bc [] hgood rfl rfl rfl (aZ rfl rfl ai) ⟨zH,zN,zN,zH,zN,zN,zN,zN,zN,zH,zH,trivial⟩ rfl rfl (.inl rfl) rfl rfl) rfl rfl ?_;refine rN ?_;refine rW<|zW ?_;refine rQ iM ?_;refine rQ (ao aa rfl rfl rfl rfl rfl (by decide) hg0) ?_;refine rQ iL ?_;refine rC ?_;refine zJ<|kS<|sR ?_;refine rQ (rB aa rfl rfl) ?_;refine rC<|zW ?_;refine rC<|zP ?_
  refine wc_inv (fun s:Int×List Int=>⟨lE s.1 (ordV s.2),aF (lR l b e p sp q g (ordR s.2)),72,Try.f57.ntmps,64⟩) (fun s=>0≤s.1∧s.1<(q.2.length:Int)∧g[s.1.toNat]?=some true∧s.2.length+μ s.1.toNat≤μ 0∧∀k,μ s.1.toNat<k→eJ p l e q.2 sp g k s.1 s.2=eJ p l e q.2 sp g (μ 0+1) 0 []) (fun s=>μ s.1.toNat) (0,[]) [(65,some 96)] ⟨Int.le_refl _,by simp only; omega,hc,by simp,(fun k hk=>gH hL.dn k 0 [] _ hk (Nat.lt_succ_self _))⟩
   (lg zi ⟨zR,zR,zM,zM,zR,zM,zM,zM,zM,zM,zR,zR,trivial⟩) ?_
  rintro⟨i,o⟩ ⟨hi0,hi1,hgi,hol0,hlG⟩
  simp only at hi0 hi1 hgi hol0 hlG
  refine bM ?_
  show WC _ _ _ _ (lE i (ordV o)) (aF (lR l b e p sp q g (ordR o))) _
  obtain⟨x,hx⟩:∃x,q.2[i.toNat]?=some x:=⟨_,List.getElem?_eq_getElem (by omega)⟩
  have hends:=tX l b e p sp q P hS he hsp hE hT e i x hi0 hx (by have:=(hS x (List.mem_of_getElem? hx)).era; omega)
  have hlG1:=hlG (μ i.toNat+1) (by omega)
  rw[eJ]at hlG1
  cases hen:kX p l e q.2 sp e i with
  | true =>
   rw[hen]at hends
   rw[hen,if_pos rfl]at hlG1
   rw[←hlG1]
   cases o with
   | nil =>
    show WC _ _ _ _ (lE i .empty) (aF (lR l b e p sp q g [])) _
    have d9:decide ((0:Int)=0)=true:=rfl
    refine qR<|zD ?_;refine bK rfl (bc [] hends rfl rfl rfl (aZ rfl rfl (ak ai)) ⟨zH,zN,zN,zH,zN,zN,zN,zN,zN,zH,zH,trivial⟩ rfl rfl (.inl rfl) rfl rfl) rfl rfl ?_;refine rC ?_;refine zJ<|zX<|qR ?_;refine rC ?_;refine rQ (u7 aa rfl rfl) ?_;refine rC ?_;refine zO<|sR ?_;refine zD<|zT<|bA ?_
    exact⟨trivial,[],lg ⟨⟨_,rfl,AVLe.tup1 (io _ _) rfl⟩,rfl,trivial⟩ ⟨zR,zM,zM,zR,zM,zM,zM,zM,zM,zR,zR,trivial⟩⟩
   | cons a0 o0 =>
    show WC _ _ _ _ (lE i (.own 66 0 (a0::o0).length 1 none)) (aF (lR l b e p sp q g [(66,zRow (a0::o0))])) _
    generalize hoo:a0::o0=o at *
    have d9:decide ((o.length:Int)=0)=false:=dF (by rw[←hoo]; simp only[List.length_cons]; omega)
    refine ez (env':=lE i (.d (.arr 1 i6 o))) (h':=aF (lR l b e p sp q g [])) 66 (zRow o) rfl ⟨⟨_,rfl,Frz.refl _⟩,⟨_,rfl,Frz.own rfl⟩,⟨_,rfl,Frz.refl _⟩,⟨_,rfl,Frz.refl _⟩,trivial⟩ ⟨zF,zF,zF,zF,zF,zF,zF,zF,zF,zF,zF,zF,trivial⟩<|qR ?_;refine zD ?_;refine bK rfl (bc [] hends rfl rfl rfl (aZ rfl rfl (ak ai)) ⟨zH,zN,zN,zH,zN,zN,zN,zN,zN,zH,zH,trivial⟩ rfl rfl (.inl rfl) rfl rfl) rfl rfl ?_;refine rC ?_;refine zJ<|zX<|qR ?_;refine rC ?_;refine rQ iE ?_;refine rC ?_;refine zG<|kS<|sR ?_;refine rC ?_;refine rQ (aq (xC o) rfl rfl (ak ai) (.inl rfl) (fun _=>rfl)) ?_;refine zD<|zT ?_
    exact⟨trivial,[],lg zV ⟨zR,zM,zM,zR,zM,zM,zM,zM,zM,zR,zR,trivial⟩⟩
  | false =>
   rw[hen]at hends
   rw[hen,if_neg (by decide)]at hlG1
   obtain⟨ys,hys⟩:∃ys,sp[i.toNat]?=some ys:=⟨_,List.getElem?_eq_getElem (by omega)⟩
   have hspn:spN sp i=ys:=by rw[spN,hys]; rfl
   have hspn2:spN sp ((i.toNat:Nat):Int)=ys:=by rw[Int.toNat_of_nonneg hi0]; exact hspn
   obtain⟨y,hy⟩:∃y,ys.find? (gJ g)=some y:=by
    rcases hgo i.toNat hgi with h | ⟨y,h⟩
    ·rw[Int.toNat_of_nonneg hi0,hen]at h; cases h
    ·rw[hspn2]at h; exact⟨y,h⟩
   have hto:=hsp.to ys (List.mem_of_getElem? hys)
   have hyl:ys.length≤67108864:=by have h1:=lw hys; have h2:=mw sp (i.toNat+1); omega
   have hix:=Ae ys 75 g (gJ g) (by omega) (fun o ho=>An g o (hto o ho).1 (by have:=(hto o ho).2; omega))
   obtain⟨k,hk,hyk⟩:=qX ys 0 hy
   rw[hk,Nat.zero_add]at hix
   have hkl:=(List.getElem?_eq_some_iff.1 hyk).1
   have hk2:ys[((k:Nat):Int).toNat]?=some y:=by rw[Int.toNat_natCast]; exact hyk
   have hym:=List.mem_of_getElem? hyk
   obtain⟨hy0,hy1⟩:=hto y hym
   have hdn:=hL.dn i.toNat ys hys y hym
   have hgy:g[y.to.toNat]?=some true:=by
    have:=List.find?_some hy
    unfold gJ at this
    cases hq:g[y.to.toNat]? with
    | none=>rw[hq]at this; cases this
    | some c=>rw[hq]at this; simp only[Option.getD_some]at this; rw[this]
   have hlG2:∀m,eJ p l e q.2 sp g (m+1) i o=eJ p l e q.2 sp g m y.to (if decide (0≤y.op)=true then o++[y.op] else o):=fun m=>by
    rw[eJ,hen,if_neg (by decide),hspn,hy]
   have hlG3:∀k,μ y.to.toNat<k→eJ p l e q.2 sp g k y.to (if decide (0≤y.op)=true then o++[y.op] else o)=eJ p l e q.2 sp g (μ 0+1) 0 []:=fun m hm=>by
    rw[gH hL.dn m y.to _ (μ i.toNat) hm hdn,←hlG2]
    exact hlG _ (by omega)
   cases d5:decide (0≤y.op) with
   | false =>
    rw[d5,if_neg (by decide)]at hlG3
    cases o with
    | nil =>
     show WC _ _ _ _ (lE i .empty) (aF (lR l b e p sp q g [])) _
     refine qR<|zD ?_;refine bK rfl (bc [] hends rfl rfl rfl (aZ rfl rfl (ak ai)) ⟨zH,zN,zN,zH,zN,zN,zN,zN,zN,zH,zH,trivial⟩ rfl rfl (.inl rfl) rfl rfl) rfl rfl ?_;refine rC ?_;refine zO<|kS<|zS ?_;refine zU ?_;refine rQ iM ?_;refine rC ?_;refine rQ (aP aa rfl rfl rfl rfl rfl hi0 (by omega)) ?_;refine rQ (bd (v :=.d (cC ys)) aa rfl rfl ⟨rfl,ys,hys,cC ys,rfl,rfl⟩ rfl) ?_;refine rC ?_;refine aO (bc [(0,some 65)] hix rfl rfl rfl (ak (cR rfl rfl ai)) ⟨zH,trivial⟩ rfl rfl (.inl rfl) rfl rfl) rfl ?_;refine rC<|nR ?_;refine zU ?_;refine rQ iM ?_;refine rC ?_;refine rQ (aP aa rfl rfl rfl rfl rfl hi0 (by omega)) ?_;refine rQ (bd (v :=.d (cC ys)) aa rfl rfl ⟨rfl,ys,hys,cC ys,rfl,rfl⟩ rfl) ?_;refine rC ?_;refine rQ (ao aa rfl rfl rfl rfl rfl (by omega) hk2) ?_;refine rQ iL ?_;refine rN ?_;refine rW<|nR ?_;refine rC ?_;refine rQ iB ?_;refine rC<|nR ?_;refine rC ?_;refine rQ iB ?_;refine rC ?_;refine zG<|aN<|ep ?_
     exact aI (y.to,[]) [(65,some 65)] ⟨hy0,hy1,hgy,by simp only[List.length_nil]at hol0 ⊢; omega,hlG3⟩ hdn (lg zi ⟨zR,zR,zM,zM,zR,zM,zM,zM,zM,zM,zR,zR,trivial⟩)
    | cons a0 o0 =>
     show WC _ _ _ _ (lE i (.own 66 0 (a0::o0).length 1 none)) (aF (lR l b e p sp q g [(66,zRow (a0::o0))])) _
     refine qR<|zD ?_;refine bK rfl (bc [] hends rfl rfl rfl (aZ rfl rfl (ak ai)) ⟨zH,zN,zN,zH,zN,zN,zN,zN,zN,zH,zH,trivial⟩ rfl rfl (.inl rfl) rfl rfl) rfl rfl ?_;refine rC ?_;refine zO<|kS<|zS ?_;refine zU ?_;refine rQ iM ?_;refine rC ?_;refine rQ (aP aa rfl rfl rfl rfl rfl hi0 (by omega)) ?_;refine rQ (bd (v :=.d (cC ys)) aa rfl rfl ⟨rfl,ys,hys,cC ys,rfl,rfl⟩ rfl) ?_;refine rC ?_;refine aO (bc [(0,some 65)] hix rfl rfl rfl (ak (cR rfl rfl ai)) ⟨zH,trivial⟩ rfl rfl (.inl rfl) rfl rfl) rfl ?_;refine rC<|nR ?_;refine zU ?_;refine rQ iM ?_;refine rC ?_;refine rQ (aP aa rfl rfl rfl rfl rfl hi0 (by omega)) ?_;refine rQ (bd (v :=.d (cC ys)) aa rfl rfl ⟨rfl,ys,hys,cC ys,rfl,rfl⟩ rfl) ?_;refine rC ?_;refine rQ (ao aa rfl rfl rfl rfl rfl (by omega) hk2) ?_;refine rQ iL ?_;refine rN ?_;refine rW<|nR ?_;refine rC ?_;refine rQ iB ?_;refine rC<|nR ?_;refine rC ?_;refine rQ iB ?_;refine rC ?_;refine zG<|aN<|ep ?_
     exact aI (y.to,a0::o0) [(65,some 65),(66,some 66)] ⟨hy0,hy1,hgy,by simp only at hol0 ⊢; omega,hlG3⟩ hdn (lg zi ⟨zR,zR,zR,zM,zM,zR,zM,zM,zM,zM,zM,zR,zR,trivial⟩)
   | true =>
    rw[d5,if_pos rfl]at hlG3
    cases o with
    | nil =>
     show WC _ _ _ _ (lE i .empty) (aF (lR l b e p sp q g [])) _
     refine qR<|zD ?_;refine bK rfl (bc [] hends rfl rfl rfl (aZ rfl rfl (ak ai)) ⟨zH,zN,zN,zH,zN,zN,zN,zN,zN,zH,zH,trivial⟩ rfl rfl (.inl rfl) rfl rfl) rfl rfl ?_;refine rC ?_;refine zO<|kS<|zS ?_;refine zU ?_;refine rQ iM ?_;refine rC ?_;refine rQ (aP aa rfl rfl rfl rfl rfl hi0 (by omega)) ?_;refine rQ (bd (v :=.d (cC ys)) aa rfl rfl ⟨rfl,ys,hys,cC ys,rfl,rfl⟩ rfl) ?_;refine rC ?_;refine aO (bc [(0,some 65)] hix rfl rfl rfl (ak (cR rfl rfl ai)) ⟨zH,trivial⟩ rfl rfl (.inl rfl) rfl rfl) rfl ?_;refine rC<|nR ?_;refine zU ?_;refine rQ iM ?_;refine rC ?_;refine rQ (aP aa rfl rfl rfl rfl rfl hi0 (by omega)) ?_;refine rQ (bd (v :=.d (cC ys)) aa rfl rfl ⟨rfl,ys,hys,cC ys,rfl,rfl⟩ rfl) ?_;refine rC ?_;refine rQ (ao aa rfl rfl rfl rfl rfl (by omega) hk2) ?_;refine rQ iL ?_;refine rN ?_;refine rW<|nR ?_;refine rC ?_;refine rQ iB ?_;refine rC<|nR ?_;refine rC ?_;refine rQ iB ?_;refine rC ?_;refine zI<|aj ?_;refine zD ?_;refine rQ iB ?_;refine aW (aD aa rfl rfl rfl rfl rfl rfl rfl rfl) rfl ?_;refine aW (nX (enc:=i6) (s:=1) aa y.op rfl rfl rfl rfl (.inl rfl) rfl rfl rfl rfl) rfl ?_;refine rC<|aw<|ep ?_
     exact aI (y.to,[y.op]) [(65,some 65),(66,some 360)] ⟨hy0,hy1,hgy,by simp only[List.length_nil,List.length_singleton]at hol0 ⊢; omega,hlG3⟩ hdn (lg zi ⟨zR,zR,zR,zM,zM,zR,zM,zM,zM,zM,zM,zR,zR,trivial⟩)
    | cons a0 o0 =>
     show WC _ _ _ _ (lE i (.own 66 0 (a0::o0).length 1 none)) (aF (lR l b e p sp q g [(66,zRow (a0::o0))])) _
     obtain⟨o,ho⟩:∃o,o=a0::o0:=⟨_,rfl⟩
     rw[←ho]at hol0 hlG3 ⊢
     have hol:o.length+1≤1048576:=by omega
     refine qR<|zD ?_;refine bK rfl (bc [] hends rfl rfl rfl (aZ rfl rfl (ak ai)) ⟨zH,zN,zN,zH,zN,zN,zN,zN,zN,zH,zH,trivial⟩ rfl rfl (.inl rfl) rfl rfl) rfl rfl ?_;refine rC ?_;refine zO<|kS<|zS ?_;refine zU ?_;refine rQ iM ?_;refine rC ?_;refine rQ (aP aa rfl rfl rfl rfl rfl hi0 (by omega)) ?_;refine rQ (bd (v :=.d (cC ys)) aa rfl rfl ⟨rfl,ys,hys,cC ys,rfl,rfl⟩ rfl) ?_;refine rC ?_;refine aO (bc [(0,some 65)] hix rfl rfl rfl (ak (cR rfl rfl ai)) ⟨zH,trivial⟩ rfl rfl (.inl rfl) rfl rfl) rfl ?_;refine rC<|nR ?_;refine zU ?_;refine rQ iM ?_;refine rC ?_;refine rQ (aP aa rfl rfl rfl rfl rfl hi0 (by omega)) ?_;refine rQ (bd (v :=.d (cC ys)) aa rfl rfl ⟨rfl,ys,hys,cC ys,rfl,rfl⟩ rfl) ?_;refine rC ?_;refine rQ (ao aa rfl rfl rfl rfl rfl (by omega) hk2) ?_;refine rQ iL ?_;refine rN ?_;refine rW<|nR ?_;refine rC ?_;refine rQ iB ?_;refine rC<|nR ?_;refine rC ?_;refine rQ iB ?_;refine rC ?_;refine zI<|aj ?_;refine zD ?_;refine rQ iB ?_;refine aW (aD aa rfl rfl rfl rfl rfl rfl rfl rfl) rfl ?_;refine aO (aQ (s:=1) (enc:=i6) (xs:=o) aa y.op rfl rfl rfl rfl rfl rfl rfl rfl rfl hol rfl) rfl ?_;refine rC<|aw<|ep ?_
     subst ho
     exact aI (y.to,a0::o0++[y.op]) [(65,some 65),(66,some 360)] ⟨hy0,hy1,hgy,by simp only[List.length_append,List.length_singleton]at hol0 ⊢; omega,hlG3⟩ hdn (lg ⟨zE,rfl,⟨_,rfl,AVLe.of_eq (by show _=AV.ren _ (AV.own 66 0 (a0::o0++[y.op]).length 1 none); rw[List.length_append]; rfl)⟩,rfl,zE,rfl,zE,rfl,trivial⟩ ⟨zR,zR,zR,zM,zM,zR,zM,zM,zM,zM,zM,zR,zR,trivial⟩)
end Go.Proofs.Ytkehohfgbblokaa
namespace Go.Proofs.Ytkehohfgbblokaa
open Go.Eng Go.Plain
set_option maxHeartbeats 32000000
set_option maxRecDepth 20000
def ic (t:List UInt8):Nat:=t.countP fun c=>decide (c=0)
theorem mI (n:Nat):ic (cJ n)=n:=by
 unfold ic cJ
 induction n with
 | zero=>rfl
 | succ n ih=>rw[List.replicate_succ,List.countP_cons,ih]; rfl
theorem qa {t:List UInt8} {k:Nat} (h:t[k]?=some 0):ic (gV t k)+1=ic t:=by
 have hlt:=(List.getElem?_eq_some_iff.1 h).1
 have e:t=t.take k++0::t.drop (k+1):=by
  have:=List.take_append_drop k t
  rw[List.drop_eq_getElem_cons hlt,(List.getElem?_eq_some_iff.1 h).2]at this
  exact this.symm
 unfold ic gV
 rw[List.countP_append,List.countP_append]
 conv=>rhs; rw[e,List.countP_append,List.countP_cons]
 simp
 omega
theorem uz {t:List UInt8} {k:Nat} (hk:k<t.length) (h:tkB t (k:Int)=false):t[k]?=some 0:=by
 obtain⟨c,hc⟩:∃c,t[k]?=some c:=⟨_,List.getElem?_eq_getElem hk⟩
 unfold tkB at h
 rw[Int.toNat_natCast,hc,Option.getD_some]at h
 have h2:=of_decide_eq_false h
 rw[hc]
 congr 1
 apply UInt8.toNat_inj.1
 show c.toNat=0
 omega
def mE (p:Prep) (st:List LSt) (x:LSt) (y:aM):Prop :=
 0≤y.to∧∃x',st[y.to.toNat]?=some x'∧((0≤y.op∧x'.era=x.era∧ic x'.taken+1=ic x.taken)∨(y.op<0∧x'.era=x.era+1∧ic x'.taken=(zOf p x'.era).length))
def Ext (a b:List LSt):Prop:=∀(i:Nat) (x:LSt),a[i]?=some x→b[i]?=some x
theorem Ext.refl (a:List LSt):Ext a a:=fun _ _ h=>h
theorem Ext.trans {a b c:List LSt} (h1:Ext a b) (h2:Ext b c):Ext a c:=fun i x h=>h2 i x (h1 i x h)
theorem Ext.step {p:Prep} {a b:List LSt} {x:LSt} {y:aM} (h:Ext a b) (hs:mE p a x y):mE p b x y:=by
 obtain⟨h0,x',h1,h2⟩:=hs
 exact⟨h0,x',h _ _ h1,h2⟩
structure QOk (p:Prep) (e:Nat) (q:QS):Prop where
 st:∀y∈q.2,SOk p e y
 kn:∀x n,getA q.1 x=some n→0≤n∧q.2[n.toNat]?=some x
 uq:∀(i:Nat) (x:LSt),q.2[i]?=some x→getA q.1 x=some (i:Int)
theorem mC {p:Prep} {e:Nat} {q:QS} {x:LSt} (Q:QOk p e q) (hx:SOk p e x):QOk p e (addS q x).1∧Ext q.2 (addS q x).1.2∧0≤(addS q x).2∧(addS q x).1.2[(addS q x).2.toNat]?=some x:=by
 have hok:=mB (q:=q) Q.st hx
 unfold addS at hok ⊢
 cases hg:getA q.1 x with
 | some n =>
  obtain⟨h1,h2⟩:=Q.kn x n hg
  exact⟨Q,Ext.refl _,h1,h2⟩
 | none =>
  rw[hg]at hok
  simp only at hok ⊢
  refine⟨⟨hok,fun z n hz=>?_,fun i z hz=>?_⟩,fun i z hz=>?_,by omega,?_⟩
  ·rw[g8]at hz
   split at hz
   ·rename_i e; cases hz; subst e
    exact⟨by omega,by rw[Int.toNat_natCast,List.getElem?_append_right (Nat.le_refl _),Nat.sub_self]; rfl⟩
   ·obtain⟨h1,h2⟩:=Q.kn z n hz
    exact⟨h1,by rw[List.getElem?_append_left (List.getElem?_eq_some_iff.1 h2).1]; exact h2⟩
  ·rw[g8]
   by_cases hi:i<q.2.length
   ·rw[List.getElem?_append_left hi]at hz
    have:=Q.uq i z hz
    split
    ·rename_i e; subst e; rw[hg]at this; cases this
    ·exact this
   ·rw[List.getElem?_append_right (by omega)]at hz
    have hil:i-q.2.length=0:=by have:=(List.getElem?_eq_some_iff.1 hz).1; simp at this; omega
    rw[hil]at hz
    simp only[List.getElem?_cons_zero,Option.some.injEq]at hz
    subst hz
    rw[if_pos rfl]
    congr 1; omega
  ·rw[List.getElem?_append_left (List.getElem?_eq_some_iff.1 hz).1]; exact hz
  ·rw[Int.toNat_natCast,List.getElem?_append_right (Nat.le_refl _),Nat.sub_self]; rfl
theorem xf (p:Prep) (x:LSt) (o:HOp):(hapS p x o).1.era=x.era:=by unfold hapS; split <;> (try split) <;> (try split) <;> rfl
structure NInv (p:Prep) (e:Nat) (q:QS) (x:LSt) (k:Nat) (a:QS×List aM):Prop where
 ok:QOk p e a.1
 ext:Ext q.2 a.1.2
 rel:∀y∈a.2,mE p a.1.2 x y
 len:a.2.length≤k
theorem yl {l:List HOp} {e:Nat} {p:Prep} {x:LSt} {k:Nat} {i:Int} {q:QS} {a:QS×List aM} (P:POk l e p) (S:SOk p e x) (hi:(zOf p x.era)[k]?=some i) (N:NInv p e q x k a):NInv p e q x (k+1) (opS p l x k i a):=by
 obtain⟨e0,e1⟩:=S.era
 obtain⟨n,hn⟩:∃n:Nat,x.era=n:=⟨x.era.toNat,by omega⟩
 have hm:=P.zm (k:=n) (by omega)
 have hi':=hi
 rw[hn]at hi
 obtain⟨i0,o,ho,hO⟩:=P.row _ hm i (List.mem_of_getElem? hi)
 have hop:opN l i.toNat=o:=by rw[opN,ho]; rfl
 have hkl:=(List.getElem?_eq_some_iff.1 hi).1
 have htk:k<x.taken.length:=by rw[S.tk,hn]; exact hkl
 unfold opS
 split
 ·exact⟨N.ok,N.ext,N.rel,Nat.le_succ_of_le N.len⟩
 ·rename_i hsk
  split
  ·rw[hop]
   have hS:=tQ P S hO
   have hera:=xf p x o
   have hy:SOk p e { (hapS p x o).1 with taken:=gV x.taken k }:=⟨hS.era,by simp only; rw[oj htk,S.tk,hera],hS.ar,hS.du⟩
   obtain⟨h1,h2,h3,h4⟩:=mC N.ok hy
   have hz:x.taken[k]?=some 0:=uz htk (by
    unfold jS at hsk
    simp only[Bool.or_eq_true,not_or,Bool.not_eq_true]at hsk
    exact hsk.2.1)
   refine⟨h1,N.ext.trans h2,fun y hy'=>?_,by simp only[List.length_append,List.length_singleton]; have:=N.len; omega⟩
   rcases List.mem_append.1 hy' with hy' | hy'
   ·exact h2.step (N.rel y hy')
   ·rw[List.mem_singleton.1 hy']
    exact⟨h3,_,h4,.inl ⟨i0,hera,qa hz⟩⟩
  ·exact⟨N.ok,N.ext,N.rel,Nat.le_succ_of_le N.len⟩
theorem oR {l:List HOp} {e:Nat} {p:Prep} {x:LSt} {q:QS} (P:POk l e p) (S:SOk p e x):∀(z:List Int) (k:Nat) (a:QS×List aM),(zOf p x.era).drop k=z→NInv p e q x k a→NInv p e q x (k+z.length) (dA p l x z k a)
 | [],_,a,_,h=>h
 | i::z,k,a,hz,h=>by
  have hi:(zOf p x.era)[k]?=some i:=by
   have:=congrArg (fun l=>l[0]?) hz
   simpa using this
  have:=oR P S z (k+1) _ (by have:=congrArg List.tail hz; simpa using this) (yl P S hi h)
  rw[List.length_cons,show k+(z.length+1)=k+1+z.length by omega]
  exact this
theorem uZ {l:List HOp} {e:Nat} {p:Prep} {x:LSt} {q:QS} (P:POk l e p) (S:SOk p e x) (Q:QOk p e q):NInv p e q x ((zOf p x.era).length+1) (cF p l e x q):=by
 have h:=oR P S (zOf p x.era) 0 (q,[]) (by simp) ⟨Q,Ext.refl _,(fun y hy=>by cases hy),Nat.le_refl _⟩
 rw[Nat.zero_add]at h
 have hw:NInv p e q x ((zOf p x.era).length+1) (dA p l x (zOf p x.era) 0 (q,[])):=⟨h.ok,h.ext,h.rel,Nat.le_succ_of_le h.len⟩
 obtain⟨e0,e1⟩:=S.era
 unfold cF nh
 split
 ·rename_i hd
  have hd:=of_decide_eq_true hd
  split
  ·have hy:SOk p e ⟨x.era+1,cJ (zOf p (x.era+1)).length,x.durable,x.durable⟩:=⟨⟨by simp only; omega,hd⟩,by simp[cJ],S.du,S.du⟩
   obtain⟨h1,h2,h3,h4⟩:=mC h.ok hy
   refine⟨h1,h.ext.trans h2,fun y hy'=>?_,by simp only[List.length_append,List.length_singleton]; have:=h.len; omega⟩
   rcases List.mem_append.1 hy' with hy' | hy'
   ·exact h2.step (h.rel y hy')
   ·rw[List.mem_singleton.1 hy']
    exact⟨h3,_,h4,.inr ⟨show (-1:Int)<0 by decide,rfl,mI _⟩⟩
  ·exact hw
 ·exact hw
structure SInv (p:Prep) (e:Nat) (i:Nat) (q:QS) (sp:List (List aM)):Prop where
 ok:QOk p e q
 len:sp.length=i
 le:i≤q.2.length
 fst:q.2[0]?=some (dG p)
 rel:∀(k:Nat) x ys,q.2[k]?=some x→sp[k]?=some ys→ys.length≤(zOf p x.era).length+1∧∀y∈ys,mE p q.2 x y
theorem vo {p:Prep} {e:Nat} (he:0<e):SOk p e (dG p):=⟨⟨Int.le_refl _,by show (0:Int)<e; omega⟩,by simp[dG,cJ],by simp[dG,cJ],by simp[dG,cJ]⟩
theorem y4 {p:Prep} {e:Nat} (he:0<e):SInv p e 0 (addS ([],[]) (dG p)).1 []:=by
 obtain⟨h1,h2,h3,h4⟩:=mC (q:=([],[])) ⟨(fun y hy=>by cases hy),(fun x n h=>by cases h),(fun i x h=>by simp at h)⟩ (vo (p:=p) he)
 exact⟨h1,rfl,Nat.zero_le _,h4,fun k x ys _ hs=>by simp at hs⟩
theorem uG {l:List HOp} {p:Prep} {e:Nat} {i:Nat} {q:QS} {sp:List (List aM)} {x:LSt} (P:POk l e p) (I:SInv p e i q sp) (hx:q.2[i]?=some x):SInv p e (i+1) (cF p l e x q).1 (sp++[(cF p l e x q).2]):=by
 have N:=uZ P (I.ok.st x (List.mem_of_getElem? hx)) I.ok
 have hil:=(List.getElem?_eq_some_iff.1 hx).1
 have hle:=oP p l e x q
 refine⟨N.ok,by rw[List.length_append,List.length_singleton,I.len],by omega,N.ext _ _ I.fst,fun k z ys hz hs=>?_⟩
 by_cases hk:k<i
 ·rw[List.getElem?_append_left (by rw[I.len]; exact hk)]at hs
  obtain⟨z',hz'⟩:∃z',q.2[k]?=some z':=⟨_,List.getElem?_eq_getElem (by omega)⟩
  have e1:=N.ext k z' hz'
  rw[hz]at e1
  cases e1
  obtain⟨h1,h2⟩:=I.rel k z ys hz' hs
  exact⟨h1,fun y hy=>N.ext.step (h2 y hy)⟩
 ·rw[List.getElem?_append_right (by rw[I.len]; omega),I.len]at hs
  have hk0:k-i=0:=by have:=(List.getElem?_eq_some_iff.1 hs).1; simp at this; omega
  rw[hk0]at hs
  simp only[List.getElem?_cons_zero,Option.some.injEq]at hs
  subst hs
  have hki:k=i:=by omega
  subst hki
  have e1:=N.ext k x hx
  rw[hz]at e1
  cases e1
  exact⟨N.len,N.rel⟩
theorem ou {l:List HOp} {p:Prep} {e:Nat} {fuel:Int} (P:POk l e p):∀(n i:Nat) (q:QS) (sp:List (List aM)) (r:QS×List (List aM)),SInv p e i q sp→fP p l e fuel n i q sp=some r→SInv p e r.1.2.length r.1 r.2∧(r.1.2.length:Int)≤fuel
 | 0,i,q,sp,r,_,h=>by simp[fP]at h
 | n+1,i,q,sp,r,I,h=>by
  unfold fP at h
  cases hx:q.2[i]? with
  | none =>
   rw[hx]at h
   simp only at h
   split at h
   ·cases h
   ·cases h
    have h1:=List.getElem?_eq_none_iff.1 hx
    have h2:=I.le
    have h3:i=q.2.length:=by omega
    subst h3
    exact⟨I,by simp only; omega⟩
  | some x =>
   rw[hx]at h
   simp only at h
   split at h
   ·cases h
   ·exact ou P n (i+1) _ _ r (uG P I hx) h
theorem jw {l:List HOp} {p:Prep} {e:Nat} {fuel:Int} {q:QS} {sp:List (List aM)} (P:POk l e p) (he:0<e) (h:ot p l e fuel=some (q,sp)):SInv p e q.2.length q sp∧(q.2.length:Int)≤fuel :=
 ou P _ _ _ _ _ (y4 he) h
def l5 (p:Prep):Nat→Nat→Nat
 | 0,_=>0
 | n+1,k=>(zOf p k).length+l5 p n (k+1)
def rkS (p:Prep) (e:Nat) (x:LSt):Nat:=(e-x.era.toNat)+l5 p (e-(x.era.toNat+1)) (x.era.toNat+1)+ic x.taken
def muS (p:Prep) (e:Nat) (st:List LSt) (i:Nat):Nat:=match st[i]? with
 | some x=>rkS p e x
 | none=>0
theorem SInv.spOk {p:Prep} {e:Nat} {q:QS} {sp:List (List aM)} (I:SInv p e q.2.length q sp):SpOk q.2 sp:=by
 refine⟨I.len,fun ys hys y hy=>?_⟩
 obtain⟨k,hk⟩:=List.mem_iff_getElem?.1 hys
 have hkl:=(List.getElem?_eq_some_iff.1 hk).1
 rw[I.len]at hkl
 obtain⟨h0,x',h1,_⟩:=(I.rel k _ ys (List.getElem?_eq_getElem hkl) hk).2 y hy
 have:=(List.getElem?_eq_some_iff.1 h1).1
 exact⟨h0,by omega⟩
theorem SInv.eraOk {p:Prep} {e:Nat} {q:QS} {sp:List (List aM)} (I:SInv p e q.2.length q sp):xS q.2 sp:=fun i x ys hx hys y hy hop=>by
 obtain⟨h0,x',h1,h2 | h2⟩:=(I.rel i x ys hx hys).2 y hy
 ·omega
 ·exact⟨x',h1,h2.2.1⟩
theorem SInv.dn {p:Prep} {e:Nat} {q:QS} {sp:List (List aM)} (I:SInv p e q.2.length q sp) (i:Nat) (ys:List aM) (hys:sp[i]?=some ys) (y:aM) (hy:y∈ys):muS p e q.2 y.to.toNat<muS p e q.2 i:=by
 have hil:=(List.getElem?_eq_some_iff.1 hys).1
 rw[I.len]at hil
 obtain⟨x,hx⟩:∃x,q.2[i]?=some x:=⟨_,List.getElem?_eq_getElem hil⟩
 obtain⟨h0,x',h1,h2⟩:=(I.rel i x ys hx hys).2 y hy
 have hxe:=(I.ok.st x (List.mem_of_getElem? hx)).era
 have hxe':=(I.ok.st x' (List.mem_of_getElem? h1)).era
 unfold muS
 rw[h1,hx]
 simp only[rkS]
 rcases h2 with ⟨_,h3,h4⟩ | ⟨_,h3,h4⟩
 ·rw[h3]; omega
 ·have e1:x'.era.toNat=x.era.toNat+1:=by omega
  have e2:e-(x.era.toNat+1)=(e-(x'.era.toNat+1))+1:=by omega
  rw[e2,l5,h4,e1,show ((x.era.toNat+1:Nat):Int)=x'.era by omega]
  omega
theorem oy {l:List HOp} {b:Int} {e:Nat} {p:Prep} {ks:List Int} {kv:List (List UInt8)} (F:gn l b e p ks kv):∀n k,k+n=e→l5 p n k+sumM l b k=sumM l b e
 | 0,k,h=>by
  have:k=e:=by omega
  subst this; simp[l5]
 | n+1,k,h=>by
  have ih:=oy F n (k+1) (by omega)
  have hz:zOf p k=zs (mayI l b k):=by rw[zOf,Int.toNat_natCast,F.opk k (by omega)]; rfl
  rw[show sumM l b (k+1)=sumM l b k+(mayI l b k).length from rfl]at ih
  rw[l5,hz,fm]
  omega
theorem mu0 {l:List HOp} {b:Int} {e:Nat} {p:Prep} {ks:List Int} {kv:List (List UInt8)} {q:QS} {sp:List (List aM)} (F:gn l b e p ks kv) (I:SInv p e q.2.length q sp) (he:0<e):muS p e q.2 0=e+sumM l b e:=by
 unfold muS
 rw[I.fst]
 simp only[rkS,dG]
 obtain⟨n,rfl⟩:∃n,e=n+1:=⟨e-1,by omega⟩
 have h1:=oy F (n+1) 0 (by omega)
 have h2:sumM l b 0=0:=rfl
 rw[mI]
 have h3:l5 p (n+1) 0=(zOf p 0).length+l5 p n 1:=rfl
 have e0:Int.toNat 0=0:=rfl
 rw[e0,show n+1-(0+1)=n by omega,show 0+1=1 from rfl]
 omega
theorem zA {sp:List (List aM)} {M:Nat} (h:∀ys∈sp,ys.length≤M):totS sp≤sp.length*M:=by
 induction sp with
 | nil=>simp[totS]
 | cons a sp ih =>
  have h1:=h a (by simp)
  have h2:=ih fun ys hys=>h ys (by simp[hys])
  simp only[totS,List.length_cons,Nat.add_mul,Nat.one_mul]
  omega
theorem SInv.tot {p:Prep} {e:Nat} {q:QS} {sp:List (List aM)} (I:SInv p e q.2.length q sp) {M:Nat} (hM:∀x∈q.2,(zOf p x.era).length≤M):totS sp≤q.2.length*(M+1):=by
 have:=zA (sp:=sp) (M:=M+1) fun ys hys=>by
  obtain⟨k,hk⟩:=List.mem_iff_getElem?.1 hys
  have hkl:=(List.getElem?_eq_some_iff.1 hk).1
  rw[I.len]at hkl
  have h1:=(I.rel k _ ys (List.getElem?_eq_getElem hkl) hk).1
  have h2:=hM _ (List.getElem_mem hkl)
  omega
 rwa [I.len]at this
end Go.Proofs.Ytkehohfgbblokaa
namespace Go.Proofs.Ytkehohfgbblokaa
open Go.Eng Go.Plain
set_option maxHeartbeats 32000000
set_option maxRecDepth 20000
section
variable {p : Prep} {l : List HOp} {e : Nat} {st : List LSt} {sp : List (List aM)} {B : List (List Int)} {n : Nat}
def bN (B:List (List Int)) (i:Nat):List Int:=(B[i]?).getD []
def sb (sp:List (List aM)) (n m:Nat) (B:List (List Int)):Prop:=B.length=n∧∀(i:Nat) (k:Int),i<n→(k∈bN B i ↔ ∃j:Nat,k=j∧j<m∧∃y∈spN sp (j:Int),y.to.toNat=i)
theorem xJ {i:Nat} (hi:i<n):∀(ys:List aM) (B:List (List Int)),B.length=n→(∀y∈ys,y.to.toNat<n)→(ys.foldl (bkF i) B).length=n∧∀(j:Nat) (k:Int),j<n→(k∈bN (ys.foldl (bkF i) B) j↔k∈bN B j∨(k=i∧∃y∈ys,y.to.toNat=j))
 | [],B,hl,_=>⟨hl,fun j k _=>by simp⟩
 | y::ys,B,hl,hy=>by
  have h0:=hy y (by simp)
  obtain⟨b,hb⟩:∃b,B[y.to.toNat]?=some b:=⟨_,List.getElem?_eq_getElem (by omega)⟩
  have he:bkF i B y=B.set y.to.toNat (b++[(i:Int)]):=by rw[bkF,hb]; rfl
  have hl2:(bkF i B y).length=n:=by rw[he,List.length_set]; exact hl
  obtain⟨h1,h2⟩:=xJ hi ys (bkF i B y) hl2 fun z hz=>hy z (by simp[hz])
  refine⟨h1,fun j k hj=>?_⟩
  rw[List.foldl_cons,h2 j k hj]
  have h3:k∈bN (bkF i B y) j↔k∈bN B j∨(k=i∧y.to.toNat=j):=by
   rw[he]
   unfold bN
   by_cases hyj:y.to.toNat=j
   ·subst hyj
    rw[List.getElem?_set_self (by omega),hb]
    simp
   ·rw[List.getElem?_set_ne hyj]
    simp[hyj]
  rw[h3]
  simp only[List.mem_cons,exists_eq_or_imp]
  constructor
  ·rintro ((h | h) | h)
   ·exact .inl h
   ·exact .inr ⟨h.1,.inl h.2⟩
   ·exact .inr ⟨h.1,.inr h.2⟩
  ·rintro (h | ⟨h,h4 | h4⟩)
   ·exact .inl (.inl h)
   ·exact .inl (.inr ⟨h,h4⟩)
   ·exact .inr ⟨h,h4⟩
structure G1 (p:Prep) (l:List HOp) (e:Nat) (st:List LSt) (sp:List (List aM)) (m:Nat) (g:GSt):Prop where
 b:sb sp st.length m g.B
 ol:g.out.length=st.length
 o:∀i,i<st.length→(g.out[i]?=some true↔i<m∧endB p l e (stN st i)=true)
 q:∀k,k∈g.opn ↔ ∃j:Nat,k=j∧j<m∧endB p l e (stN st j)=true
theorem rb (hsp:SpOk st sp):∀m,m≤st.length→G1 p l e st sp m (gdA p l e st sp m)
 | 0,_=>by
  refine⟨⟨by simp[gdA,gd0],fun i k hi=>?_⟩,by simp[gdA,gd0],fun i hi=>?_,fun k=>?_⟩
  ·simp only[gdA,gd0,bN,List.getElem?_replicate,if_pos hi]
   simp
  ·simp only[gdA,gd0,List.getElem?_replicate,if_pos hi]
   simp
  ·simp[gdA,gd0]
 | m+1,hm=>by
  have ih:=rb hsp m (by omega)
  obtain⟨hbl,hbm⟩:=ih.b
  have hto:∀y∈spN sp (m:Int),y.to.toNat<st.length:=fun y hy=>by
   unfold spN at hy
   rw[Int.toNat_natCast]at hy
   cases hs:sp[m]? with
   | none=>rw[hs]at hy; cases hy
   | some ys=>rw[hs]at hy; have:=hsp.to ys (List.mem_of_getElem? hs) y hy; omega
  obtain⟨h1,h2⟩:=xJ (n:=st.length) (i:=m) (by omega) (spN sp m) (gdA p l e st sp m).B hbl hto
  have hB:sb sp st.length (m+1) ((spN sp m).foldl (bkF m) (gdA p l e st sp m).B):=⟨h1,fun i k hi=>by
   rw[h2 i k hi,hbm i k hi]
   constructor
   ·rintro (⟨j,h3,h4,h5⟩ | ⟨h3,h4⟩)
    ·exact⟨j,h3,by omega,h5⟩
    ·exact⟨m,h3,by omega,h4⟩
   ·rintro⟨j,h3,h4,h5⟩
    by_cases hj:j=m
    ·subst hj; exact .inr ⟨h3,h5⟩
    ·exact .inl ⟨j,h3,by omega,h5⟩⟩
  unfold gdA gd1
  cases he:endB p l e (stN st m) with
  | true =>
   rw[if_pos rfl]
   refine⟨hB,by simp only; rw[List.length_set]; exact ih.ol,fun i hi=>?_,fun k=>?_⟩
   ·simp only
    by_cases him:i=m
    ·subst him
     rw[List.getElem?_set_self (by rw[ih.ol]; exact hi)]
     simp[he]
    ·rw[List.getElem?_set_ne (fun e=>him e.symm),ih.o i hi]
     constructor
     ·rintro⟨h3,h4⟩; exact⟨by omega,h4⟩
     ·rintro⟨h3,h4⟩; exact⟨by omega,h4⟩
   ·simp only[List.mem_append,List.mem_singleton,ih.q k]
    constructor
    ·rintro (⟨j,h3,h4,h5⟩ | h3)
     ·exact⟨j,h3,by omega,h5⟩
     ·exact⟨m,h3,by omega,he⟩
    ·rintro⟨j,h3,h4,h5⟩
     by_cases hj:j=m
     ·subst hj; exact .inr h3
     ·exact .inl ⟨j,h3,by omega,h5⟩
  | false =>
   rw[if_neg (by decide)]
   refine⟨hB,ih.ol,fun i hi=>?_,fun k=>?_⟩
   ·simp only
    rw[ih.o i hi]
    constructor
    ·rintro⟨h3,h4⟩; exact⟨by omega,h4⟩
    ·rintro⟨h3,h4⟩
     refine⟨?_,h4⟩
     by_cases him:i=m
     ·subst him; rw[he]at h4; cases h4
     ·omega
   ·simp only[ih.q k]
    constructor
    ·rintro⟨j,h3,h4,h5⟩; exact⟨j,h3,by omega,h5⟩
    ·rintro⟨j,h3,h4,h5⟩
     refine⟨j,h3,?_,h5⟩
     by_cases hj:j=m
     ·subst hj; rw[he]at h5; cases h5
     ·omega
structure PJ (p:Prep) (l:List HOp) (e:Nat) (st:List LSt) (sp:List (List aM)) (B:List (List Int)) (i:Option Nat) (out:List Bool) (opn:List Int):Prop where
 ol:out.length=st.length
 a:∀k∈opn,0≤k∧out[k.toNat]?=some true
 b:∀k:Nat,out[k]?=some true→endB p l e (stN st k)=true∨∃y∈spN sp k,out[y.to.toNat]?=some true
 c:∀k:Nat,k<st.length→endB p l e (stN st k)=true→out[k]?=some true
 d:∀j:Nat,out[j]?=some true→(j:Int)∈opn∨some j=i∨∀k∈bN B j,out[k.toNat]?=some true
theorem PJ.psh {i:Nat} {out:List Bool} {opn:List Int} {k:Int} (hB:sb sp st.length st.length B) (hi:i<st.length) (hio:out[i]?=some true) (J:PJ p l e st sp B (some i) out opn) (hk:k∈bN B i):PJ p l e st sp B (some i) (pshF (out,opn) k).1 (pshF (out,opn) k).2∧(∀j:Nat,out[j]?=some true→(pshF (out,opn) k).1[j]?=some true)∧(pshF (out,opn) k).1[k.toNat]?=some true:=by
 obtain⟨j,rfl,hj,y,hy,hyi⟩:=(hB.2 i k hi).1 hk
 obtain⟨c,hc⟩:∃c,out[j]?=some c:=⟨_,List.getElem?_eq_getElem (by rw[J.ol]; exact hj)⟩
 have hc':out[((j:Int)).toNat]?=some c:=by rw[Int.toNat_natCast]; exact hc
 cases c with
 | true =>
  rw[wx hc']
  exact⟨J,fun _ h=>h,hc'⟩
 | false =>
  rw[wy hc']
  have hset:∀m:Nat,(out.set ((j:Int)).toNat true)[m]?=some true↔m=j∨out[m]?=some true:=fun m=>by
   rw[Int.toNat_natCast]
   by_cases hm:j=m
   ·subst hm
    rw[List.getElem?_set_self (by rw[J.ol]; exact hj)]; simp
   ·rw[List.getElem?_set_ne hm]
    constructor
    ·exact .inr
    ·rintro (h | h)
     ·exact absurd h.symm hm
     ·exact h
  refine⟨⟨by simp only; rw[List.length_set]; exact J.ol,fun m hm=>?_,fun m hm=>?_,fun m hm he=>?_,fun m hm=>?_⟩,fun m hm=>(hset m).2 (.inr hm),(hset _).2 (.inl (Int.toNat_natCast j))⟩
  ·rcases List.mem_append.1 hm with hm | hm
   ·exact⟨(J.a m hm).1,(hset _).2 (.inr (J.a m hm).2)⟩
   ·rw[List.mem_singleton.1 hm]
    exact⟨by omega,(hset _).2 (.inl (Int.toNat_natCast j))⟩
  ·rcases (hset m).1 hm with rfl | hm
   ·exact .inr ⟨y,hy,(hset _).2 (.inr (by rw[hyi]; exact hio))⟩
   ·rcases J.b m hm with h | ⟨z,hz,h⟩
    ·exact .inl h
    ·exact .inr ⟨z,hz,(hset _).2 (.inr h)⟩
  ·exact (hset m).2 (.inr (J.c m hm he))
  ·rcases (hset m).1 hm with rfl | hm
   ·exact .inl (List.mem_append.2 (.inr (List.mem_singleton.2 rfl)))
   ·rcases J.d m hm with h | h | h
    ·exact .inl (List.mem_append.2 (.inl h))
    ·exact .inr (.inl h)
    ·exact .inr (.inr fun k hk=>(hset _).2 (.inr (h k hk)))
theorem PJ.fold {i:Nat} (hB:sb sp st.length st.length B) (hi:i<st.length):∀(bk:List Int) (out:List Bool) (opn:List Int),out[i]?=some true→PJ p l e st sp B (some i) out opn→(∀k∈bk,k∈bN B i) →
  PJ p l e st sp B (some i) (bk.foldl pshF (out,opn)).1 (bk.foldl pshF (out,opn)).2∧(∀j:Nat,out[j]?=some true→(bk.foldl pshF (out,opn)).1[j]?=some true)∧∀k∈bk,(bk.foldl pshF (out,opn)).1[k.toNat]?=some true
 | [],out,opn,_,J,_=>⟨J,fun _ h=>h,fun k hk=>by cases hk⟩
 | k::bk,out,opn,hio,J,hk=>by
  obtain⟨h1,h2,h3⟩:=J.psh hB hi hio (hk k (by simp))
  obtain⟨h4,h5,h6⟩:=PJ.fold hB hi bk (pshF (out,opn) k).1 (pshF (out,opn) k).2 (h2 i hio) h1 fun k' hk'=>hk k' (by simp[hk'])
  refine⟨h4,fun j hj=>h5 j (h2 j hj),fun k' hk'=>?_⟩
  rcases List.mem_cons.1 hk' with rfl | hk'
  ·exact h5 _ h3
  ·exact h6 k' hk'
theorem yf {out:List Bool} {opn:List Int}:∀(bk:List Int),(∀k∈bk,k.toNat<out.length)→(bk.foldl pshF (out,opn)).2.length+cntF (bk.foldl pshF (out,opn)).1=opn.length+cntF out:=by
 intro bk
 induction bk generalizing out opn with
 | nil=>intro _; rfl
 | cons k bk ih =>
  intro hk
  obtain⟨c,hc⟩:∃c,out[k.toNat]?=some c:=⟨_,List.getElem?_eq_getElem (hk k (by simp))⟩
  rw[List.foldl_cons]
  cases c with
  | true=>rw[wx hc]; exact ih fun k' hk'=>hk k' (by simp[hk'])
  | false =>
   rw[wy hc,ih fun k' hk'=>by rw[List.length_set]; exact hk k' (by simp[hk'])]
   have:=lc hc
   rw[List.length_append,List.length_singleton]; omega
theorem oJ (hB:sb sp st.length st.length B):∀(n:Nat) (out:List Bool) (opn:List Int),opn.length+cntF out<n→PJ p l e st sp B none out opn→PJ p l e st sp B none (popG B n out opn) []
 | 0,_,_,h,_=>by omega
 | n+1,out,opn,h,J=>by
  unfold popG
  cases hgl:opn.getLast? with
  | none =>
   have:opn=[]:=List.getLast?_eq_none_iff.1 hgl
   subst this
   exact J
  | some i =>
   simp only
   have hne:opn≠[]:=fun e=>by rw[e]at hgl; cases hgl
   have him:i∈opn:=List.mem_of_getLast? hgl
   obtain⟨hi0,hio⟩:=J.a i him
   have hil:i.toNat<st.length:=by have:=(List.getElem?_eq_some_iff.1 hio).1; rwa [J.ol]at this
   have hdl:∀k∈opn,k=i∨k∈opn.dropLast:=fun k hk=>by
    have hx:opn.dropLast++[i]=opn:=by
     have h1:=List.dropLast_concat_getLast hne
     rw[List.getLast?_eq_some_getLast hne]at hgl
     rw[Option.some.inj hgl]at h1
     exact h1
    rw[←hx]at hk
    rcases List.mem_append.1 hk with hk | hk
    ·exact .inr hk
    ·exact .inl (List.mem_singleton.1 hk)
   have J1:PJ p l e st sp B (some i.toNat) out opn.dropLast:=⟨J.ol,fun k hk=>J.a k (List.dropLast_subset _ hk),J.b,J.c,fun j hj=>by
    rcases J.d j hj with h | h | h
    ·rcases hdl _ h with h | h
     ·exact .inr (.inl (by rw[←h]; rw[Int.toNat_natCast]))
     ·exact .inl h
    ·cases h
    ·exact .inr (.inr h)⟩
   have hbe:(B[i.toNat]?).getD []=bN B i.toNat:=rfl
   rw[hbe]
   obtain⟨J2,hmono,hall⟩:=PJ.fold hB hil (bN B i.toNat) out opn.dropLast hio J1 fun _ h=>h
   have hc:=yf (out:=out) (opn:=opn.dropLast) (bN B i.toNat) fun k hk=>by
    obtain⟨j,rfl,hj,_⟩:=(hB.2 i.toNat k hil).1 hk
    rw[J.ol,Int.toNat_natCast]; exact hj
   have hlen:0<opn.length:=List.length_pos_iff.2 hne
   rw[List.length_dropLast]at hc
   refine oJ hB n _ _ (by omega) ⟨J2.ol,J2.a,J2.b,J2.c,fun j hj=>?_⟩
   rcases J2.d j hj with h | h | h
   ·exact .inl h
   ·simp only[Option.some.injEq]at h
    subst h
    exact .inr (.inr hall)
   ·exact .inr (.inr h)
theorem q9 (hsp:SpOk st sp) (i:Nat) (hi:i<st.length):(ei p l e st sp)[i]?=some true↔endB p l e (stN st i)=true∨∃y∈spN sp i,(ei p l e st sp)[y.to.toNat]?=some true:=by
 have g:=rb (p:=p) (l:=l) (e:=e) hsp st.length (Nat.le_refl _)
 have hcnt:(gdA p l e st sp st.length).opn.length+cntF (gdA p l e st sp st.length).out<st.length+1:=by
  have:∀m,m≤st.length→(gdA p l e st sp m).opn.length+cntF (gdA p l e st sp m).out≤st.length∧∀j,m≤j→j<st.length→(gdA p l e st sp m).out[j]?=some false:=by
   intro m
   induction m with
   | zero=>intro _; exact⟨by simp only[gdA,gd0,List.length_nil,ru]; omega,fun j _ hj=>by simp only[gdA,gd0]; rw[List.getElem?_replicate,if_pos hj]⟩
   | succ m ih =>
    intro hm
    obtain⟨h1,h2⟩:=ih (by omega)
    unfold gdA gd1
    split
    ·have h3:=lc (h2 m (Nat.le_refl _) (by omega))
     refine⟨by simp only[List.length_append,List.length_singleton]; omega,fun j hj hjl=>?_⟩
     simp only
     rw[List.getElem?_set_ne (by omega)]
     exact h2 j (by omega) hjl
    ·exact⟨h1,fun j hj hjl=>h2 j (by omega) hjl⟩
  have:=(this st.length (Nat.le_refl _)).1
  omega
 have J0:PJ p l e st sp (gdA p l e st sp st.length).B none (gdA p l e st sp st.length).out (gdA p l e st sp st.length).opn:=by
  refine⟨g.ol,fun k hk=>?_,fun k hk=>?_,fun k hk he=>(g.o k hk).2 ⟨hk,he⟩,fun j hj=>?_⟩
  ·obtain⟨j,rfl,hj,he⟩:=(g.q k).1 hk
   exact⟨by omega,by rw[Int.toNat_natCast]; exact (g.o j hj).2 ⟨hj,he⟩⟩
  ·have hk2:k<st.length:=by have:=(List.getElem?_eq_some_iff.1 hk).1; rwa [g.ol]at this
   exact .inl ((g.o k hk2).1 hk).2
  ·have hk2:j<st.length:=by have:=(List.getElem?_eq_some_iff.1 hj).1; rwa [g.ol]at this
   exact .inl ((g.q _).2 ⟨j,rfl,hk2,((g.o j hk2).1 hj).2⟩)
 have J:=oJ g.b _ _ _ hcnt J0
 have hG:popG (gdA p l e st sp st.length).B (st.length+1) (gdA p l e st sp st.length).out (gdA p l e st sp st.length).opn=ei p l e st sp:=rfl
 rw[hG]at J
 constructor
 ·exact J.b i
 ·rintro (h | ⟨y,hy,h⟩)
  ·exact J.c i hi h
  ·rcases J.d _ h with h2 | h2 | h2
   ·cases h2
   ·cases h2
   ·have hyl:y.to.toNat<st.length:=by have:=(List.getElem?_eq_some_iff.1 h).1; rwa [J.ol]at this
    have:=h2 (i:Int) ((g.b.2 _ _ hyl).2 ⟨i,rfl,hi,y,hy,rfl⟩)
    rwa [Int.toNat_natCast]at this
end
theorem SInv.leastOk {l:List HOp} {b:Int} {p:Prep} {e:Nat} {ks:List Int} {kv:List (List UInt8)} {q:QS} {sp:List (List aM)} (F:gn l b e p ks kv) (I:SInv p e q.2.length q sp) (he:0<e) (hb:e+l.length≤1000000):uu p l e q.2 sp (muS p e q.2):=by
 refine⟨fun i hi=>?_,fun i ys hys y hy=>I.dn i ys hys y hy,?_⟩
 ·have hil:i<q.2.length:=by have:=(List.getElem?_eq_some_iff.1 hi).1; rwa [nE]at this
  rcases (q9 I.spOk i hil).1 hi with h | ⟨y,hy,h⟩
  ·left
   obtain⟨n,rfl⟩:∃n,e=n+1:=⟨e-1,by omega⟩
   unfold endB at h
   simp only[Bool.and_eq_true]at h
   rw[kX,if_pos h.1]
   exact h.2
  ·right
   cases hf:(spN sp (i:Int)).find? (gJ (ei p l e q.2 sp)) with
   | some z=>exact⟨z,rfl⟩
   | none =>
    have:=List.find?_eq_none.1 hf y hy
    exact absurd (by unfold gJ; rw[h]; rfl) this
 ·rw[mu0 F I he]
  have:=mL l b e
  omega
end Go.Proofs.Ytkehohfgbblokaa
namespace Go.Eng
open Go.RowKit
theorem FnIs.wide {P:Program} {f:FuncId} {avs:List AV} {h0 rows:List (Nat×Row)} {res:AV} {W:Nat} (hW:8≤W) (h:FnIs P f avs h0 res rows):ju W P f avs h0 res rows:=by
 refine⟨h.1,fun C σ w vs h1 h2 h3 h4 h5 h6=>(h.2 C σ w vs h1 h2 h3 h4 h5 h6).mono ?_⟩
 rintro e w' ⟨v,σ',he,hst⟩
 have:=hst.grow (G':=fun r=>r<64+W) (fun r hr=>by omega)
 exact⟨v,σ',he, { this with }⟩
end Go.Eng
namespace Go.Proofs.Ytkehohfgbblokaa
open Go.Eng Go.Plain
set_option maxHeartbeats 32000000
set_option maxRecDepth 20000
attribute [local irreducible] WC RegS RegD SeqQ BlkQ ScoQ RegK CutK Sat SatN FnIs LoopQ au OpIs
abbrev lH (h:List HEv) (b:Int):List HOp:=opL h b
abbrev pH (h:List HEv) (b:Int):Prep:=cX (lH h b) b (aU h)
def ky (h:List HEv) (b fuel:Int):Option (QS×List (List aM)):=ot (pH h b) (lH h b) (aU h) fuel
def eN (h:List HEv) (b fuel:Int):(List Int×Bool)×Int :=
 if opE h b=0 then
  if fuel<0∨1048576<fuel then (([],false),1)
  else match ky h b fuel with
   | none=>(([],false),4)
   | some r=>(lG (pH h b) (lH h b) (aU h) r.1.2 r.2 (aU h+sumM (lH h b) b (aU h)+1),0)
 else (([],false),opE h b)
def ii (h:List HEv) (b fuel:Int):Int×Int :=
 if opE h b=0 then
  if fuel<0∨1048576<fuel then (0,1)
  else match ky h b fuel with
   | none=>(0,4)
   | some r=>(r.1.2.length,0)
 else (0,opE h b)
structure n4 (h:List HEv) (b fuel:Int):Prop where
 len:h.length≤8192
 al:(rdH h).all.length≤8192
 run:opE h b=0→0≤fuel→fuel≤1048576→th h b fuel (pH h b) (lH h b) (aU h) (ky h b fuel)
 pok:opE h b=0→∃ks kv,gn (lH h b) b (aU h) (pH h b) ks kv
 ll:opE h b=0→(lH h b).length≤8192
 tot:∀r,opE h b=0→0≤fuel→fuel≤1048576→ky h b fuel=some r→totS r.2+1≤67108864
theorem mN (h:List HEv) (b fuel:Int) (c:Int) (hw:ju 16 Try.prog 56 [.d (encH h),.int .i64 b,.int .i64 fuel] [] (ptrE c) []) (hc:c≠0):FnIs Try.prog 21 [.d (encH h),.int .i64 b,.int .i64 fuel] [] (.tup (.acons (.int .i64 0) (.acons (.int .i64 c) .anil))) []:=by
 have d0:(!decide (c=0))=true:=by rw[dF hc]; rfl
 refine aE aa Try.func21 rfl rfl rfl ?_;refine sR<|zD<|nR ?_;refine zU ?_;refine jx (by decide) [] rfl hw rfl rfl rfl (ak (ak (ak ai))) trivial rfl rfl (.inl rfl) rfl rfl rfl ?_;iterate 5 refine rC ?_
 refine zW<|zD ?_;refine zI<|sR ?_;refine zU<|zT<|bA ?_
 exact⟨trivial,[],lf⟩
theorem vS (h:List HEv) (b fuel:Int) (l:List HOp) (e:Int) (p:Prep) (q:QS) (sp:List (List aM)) (hw:ju 16 Try.prog 56 [.d (encH h),.int .i64 b,.int .i64 fuel] [] (.tup (.acons (.ptr 64 []) (.acons (.int .i64 0) .anil))) (kf l b e p sp q)):FnIs Try.prog 21 [.d (encH h),.int .i64 b,.int .i64 fuel] [] (.tup (.acons (.int .i64 q.2.length) (.acons (.int .i64 0) .anil))) []:=by
 refine aE aa Try.func21 rfl rfl rfl ?_;refine sR<|zD<|nR ?_;refine zU ?_;refine jx (by decide) [] rfl hw rfl rfl rfl (ak (ak (ak ai))) trivial rfl rfl (.inl rfl) rfl rfl rfl ?_;iterate 5 refine rC ?_
 refine zW<|zD ?_;refine zJ<|kS<|sR ?_;refine zU ?_;refine rQ iM ?_;refine rQ (bS aa rfl rfl) ?_;refine zD<|zT ?_
 exact⟨trivial,[],lf⟩
theorem s1 (h:List HEv) (b fuel:Int) (c:Int) (hw:ju 16 Try.prog 56 [.d (encH h),.int .i64 b,.int .i64 fuel] [] (ptrE c) []) (hc:c≠0):FnIs Try.prog 23 [.d (encH h),.int .i64 b,.int .i64 fuel] [] (.tup (.acons (.d (kY [])) (.acons (.bool false) (.acons (.int .i64 c) .anil)))) []:=by
 have d0:(!decide (c=0))=true:=by rw[dF hc]; rfl
 refine aE aa Try.func23 rfl rfl rfl ?_;refine sR<|zU<|nR ?_;refine zU ?_;refine jx (by decide) [] rfl hw rfl rfl rfl (ak (ak (ak ai))) trivial rfl rfl (.inl rfl) rfl rfl rfl ?_;iterate 5 refine rC ?_
 refine zW<|zD ?_;refine zI<|sR ?_;iterate 4 refine rC ?_
 refine zT<|bA ?_
 exact⟨trivial,[],lg ⟨⟨_,rfl,AVLe.tup1 (io _ _) rfl⟩,rfl,trivial⟩ trivial⟩
theorem Aq (h:List HEv) (b fuel:Int) (l:List HOp) (e:Int) (p:Prep) (q:QS) (sp:List (List aM)) (o:List Int) (f:Bool) (hle:FnIs Try.prog 57 [.ptr 0 []] (cu l b e p sp q 9) (ordE o f) (cu l b e p sp q 9)) (hw:ju 16 Try.prog 56 [.d (encH h),.int .i64 b,.int .i64 fuel] [] (.tup (.acons (.ptr 64 []) (.acons (.int .i64 0) .anil))) (kf l b e p sp q)):FnIs Try.prog 23 [.d (encH h),.int .i64 b,.int .i64 fuel] [] (.tup (.acons (.d (kY o)) (.acons (.bool f) (.acons (.int .i64 0) .anil)))) []:=by
 refine aE aa Try.func23 rfl rfl rfl ?_;refine sR<|zU<|nR ?_;refine zU ?_;refine jx (by decide) [] rfl hw rfl rfl rfl (ak (ak (ak ai))) trivial rfl rfl (.inl rfl) rfl rfl rfl ?_;iterate 5 refine rC ?_
 refine zW<|zD ?_;refine zJ<|kS<|sR ?_;refine rC ?_;refine bK rfl (bc [(0,some 112),(1,some 113),(2,some 114),(3,some 115),(4,some 116),(5,some 117),(6,some 118),(7,some 119),(8,some 120),(9,some 121),(10,some 122)] hle rfl rfl rfl (aZ rfl rfl ai) ⟨zH,zN,zN,zH,zN,zN,zN,zN,zN,zH,zH,trivial⟩ rfl rfl (.inl rfl) rfl rfl) rfl rfl ?_
 iterate 5 refine rC ?_
 refine nR ?_;iterate 5 refine rC ?_
 refine zT ?_
 exact⟨trivial,[],lf⟩
theorem fv (h:List HEv):0<aU h:=by unfold aU; omega
theorem xp {h:List HEv} (hh:h.length≤8192):aU h≤8193:=by
 have:h.countP (fun x=>decide (x.kind=3))≤h.length:=List.countP_le_length
 unfold aU; omega
theorem uF {h:List HEv} {b fuel:Int} (R:n4 h b fuel):FnIs Try.prog 21 [.d (encH h),.int .i64 b,.int .i64 fuel] [] (.tup (.acons (.int .i64 (ii h b fuel).1) (.acons (.int .i64 (ii h b fuel).2) .anil))) []:=by
 have hl:=R.len
 have ha:=R.al
 unfold ii
 by_cases hE:opE h b=0
 ·rw[if_pos hE]
  by_cases hf:fuel<0∨1048576<fuel
  ·rw[if_pos hf]
   exact mN h b fuel 1 ((qi h b fuel (by omega) (by omega) hE hf).wide (by decide)) (by decide)
  ·rw[if_neg hf]
   have hr:=R.run hE (by omega) (by omega)
   cases hs:ky h b fuel with
   | none =>
    rw[hs]at hr
    exact mN h b fuel 4 hr (by decide)
   | some r =>
    obtain⟨q,sp⟩:=r
    rw[hs]at hr
    exact vS h b fuel _ _ _ q sp hr
 ·rw[if_neg hE]
  exact mN h b fuel (opE h b) ((qj h b fuel (by omega) (by omega) hE).wide (by decide)) hE
theorem pU {h:List HEv} {b fuel:Int} (R:n4 h b fuel):FnIs Try.prog 23 [.d (encH h),.int .i64 b,.int .i64 fuel] [] (.tup (.acons (.d (kY (eN h b fuel).1.1)) (.acons (.bool (eN h b fuel).1.2) (.acons (.int .i64 (eN h b fuel).2) .anil)))) []:=by
 have hl:=R.len
 have ha:=R.al
 unfold eN
 by_cases hE:opE h b=0
 ·rw[if_pos hE]
  by_cases hf:fuel<0∨1048576<fuel
  ·rw[if_pos hf]
   exact s1 h b fuel 1 ((qi h b fuel (by omega) (by omega) hE hf).wide (by decide)) (by decide)
  ·rw[if_neg hf]
   have hr:=R.run hE (by omega) (by omega)
   cases hs:ky h b fuel with
   | none =>
    rw[hs]at hr
    exact s1 h b fuel 4 hr (by decide)
   | some r =>
    obtain⟨q,sp⟩:=r
    rw[hs]at hr
    obtain⟨ks,kv,F⟩:=R.pok hE
    have hll:=R.ll hE
    have he:=fv h
    have he2:=xp hl
    have P:=F.ok hll
    obtain⟨I,hfu⟩:=jw P he hs
    have ht:=R.tot _ hE (by omega) (by omega) hs
    have hq0:=(List.getElem?_eq_some_iff.1 I.fst).1
    have hle:=wU (lH h b) b (aU h) (pH h b) sp q (muS (pH h b) (aU h) q.2) P I.ok.st (by omega) I.spOk I.eraOk (by omega) hq0 ht (I.leastOk F he (by omega))
    rw[mu0 F I he]at hle
    exact Aq h b fuel _ _ _ q sp _ _ hle hr
 ·rw[if_neg hE]
  exact s1 h b fuel (opE h b) ((qj h b fuel (by omega) (by omega) hE).wide (by decide)) hE
theorem qQ {h:List HEv} {b fuel:Int} (R:n4 h b fuel):FnIs Try.prog 22 [.d (encH h),.int .i64 b,.int .i64 fuel] [] (.tup (.acons (.bool (eN h b fuel).1.2) (.acons (.int .i64 (eN h b fuel).2) .anil))) []:=by
 have hfi:=pU R
 refine aE aa Try.func22 rfl rfl rfl ?_;refine sR<|zD<|nR ?_;refine zU ?_;refine rQ (aq hfi rfl rfl (ak (ak (ak ai))) (.inl rfl) (fun _=>rfl)) ?_;iterate 7 refine rC ?_
 refine nR ?_;iterate 4 refine rC ?_
 refine zT ?_
 exact⟨trivial,[],lf⟩
structure PQ where
 kind:UInt8
 index:UInt8
 data:UInt8
def encQ (x:PQ):D :=.cons (u8s x.kind.toNat) (.cons (u8s x.index.toNat) (.cons (u8s x.data.toNat) .nil))
def qOf (x:PQ):POp :=
 if x.kind.toNat % 9<4 then⟨1,((x.index.toNat % 22:Nat):Int)-1,[]⟩
 else if x.kind.toNat % 9<7 then⟨2,((x.index.toNat % 22:Nat):Int)-1,List.replicate 32 x.data⟩
 else if x.kind.toNat % 9=8 then⟨((x.data.toNat % 4:Nat):Int),(x.index.toNat:Int)-100,List.replicate (x.index.toNat % 32) x.data⟩
 else⟨3,0,[]⟩
theorem fZ (k i:Int):AVLe (.d (.cons (.sc (.int .u8 k)) (.cons (.sc (.int .i64 i)) (.cons (.sc nil_) .nil)))) (.d (cr ⟨k,i,[]⟩)):=
 AVLe.d (x:=encV (true,⟨k,i,[]⟩)) (fun w X cs h=>yI (x:=(true,⟨k,i,[]⟩)) (fun _=>rfl) h) rfl
def gk (d:Int) (n i:Nat):List Int:=List.replicate i d++List.replicate (n-i) 0
theorem s2 (d:Int) (n:Nat):gk d n 0=List.replicate n 0:=by simp[gk]
theorem oZ {d:Int} {n i:Nat} (h:i<n):(gk d n i)[i]?=some 0:=by
 obtain⟨k,hk⟩:∃k,n-i=k+1:=⟨n-i-1,by omega⟩
 rw[gk,hk,List.getElem?_append_right (by simp),List.length_replicate,Nat.sub_self]
 rfl
theorem oY {d:Int} {n i:Nat} (h:i<n):(gk d n i).set i d=gk d n (i+1):=by
 obtain⟨k,hk⟩:∃k,n-i=k+1:=⟨n-i-1,by omega⟩
 rw[gk,gk,List.set_append_right _ _ (by simp),List.replicate_succ' (n:=i),List.append_assoc,hk,show n-(i+1)=k by omega,List.length_replicate,Nat.sub_self]
 rfl
theorem o4 (d:UInt8) (n:Nat):gk d.toNat n n=byI (List.replicate n d):=by simp[gk,byI]
theorem z3 (x:PQ):FnIs Try.prog 62 [.d (encQ x)] [] (.d (cr (qOf x))) []:=by
 have hx1:=x.kind.toNat_lt
 have hx2:=x.index.toNat_lt
 have hx3:=x.data.toNat_lt
 refine aE aa Try.func62 rfl rfl rfl ?_;refine sR ?_;iterate 2 refine rN ?_
 refine nR<|rQ iS ?_;refine rN ?_;refine rW<|nR ?_;refine aW (dB (enc:=cU) (s:=1) (N:=32) aa (0:Int) rfl rfl rfl rfl rfl rfl rfl (by decide) rfl) rfl ?_;refine rC<|zW ?_;refine rC<|zP ?_
 refine wc_inv (fun i:Nat=>⟨[(5,.int .i64 i),(4,.own 67 0 32 1 none),(3,.ptr 66 []),(2,.ptr 65 []),(1,.ptr 64 [])],[(64,some (.box 130 (.d (encQ x)))),(65,some (.box 25 (.d (encV (true,wN))))),(66,some (.box 25 (.d (encV (true,⟨3,0,[]⟩))))),(67,some (.ds 5 1 true cU (gk x.data.toNat 32 i)))],72,Try.f62.ntmps,64⟩) (fun i=>i≤32) (fun i=>32-i) 0 [(64,some _),(65,some _),(66,some _),(67,some _)] (Nat.zero_le _)
  (lg zh ⟨zR,zR,zR,⟨rfl,rfl,_,rfl,aR.of_eq (by rw[s2]; rfl)⟩,trivial⟩) ?_
 intro i hi
 by_cases hlt:i<32
 ·have h3:decide ((i:Int)<32)=true:=dT (by omega)
  have hg:(gk x.data.toNat 32 i)[((i:Int)).toNat]?=some 0:=by rw[Int.toNat_natCast]; exact oZ hlt
  have hset:=oY (d:=(x.data.toNat:Int)) hlt
  refine bM<|qR ?_;refine zD ?_;refine zI<|zQ<|bn<|aj ?_;refine zU ?_;refine rQ iB ?_;refine rQ (aP aa rfl rfl rfl rfl rfl (by omega) (by omega)) ?_;refine bO (aL aa rfl rfl rfl ⟨rfl,(0:Int),(x.data.toNat:Int),hg,⟨rfl,rfl,rfl⟩,rfl⟩ rfl)<|aw<|zC<|aj ?_;refine rC ?_;refine rQ iD ?_;refine rC<|aw ?_
  exact aI (i+1) [] hlt (by omega) (lg zh ⟨zR,zR,zR,⟨rfl,rfl,_,rfl,aR.of_eq (congrArg (Row.ds 5 1 true cU) hset)⟩,trivial⟩)
 ·have he:i=32:=by omega
  subst he
  rw[o4]
  have h3:decide (((32:Nat):Int)<32)=false:=rfl
  have hl32:32=(byI (List.replicate 32 x.data)).length:=by rw[fD,List.length_replicate]
  refine bM ?_;refine ez (env':=[(5,_),(4,_),(3,_),(2,_),(1,_)]) (h':=[(64,some _),(65,some _),(66,some _)]) 67 _ rfl ⟨zE,⟨_,rfl,Frz.own hl32⟩,zE,zE,zE,trivial⟩ ⟨⟨rfl,_,rfl,.refl _⟩,⟨rfl,_,rfl,.refl _⟩,⟨rfl,_,rfl,.refl _⟩,trivial⟩ ?_
  have hw27:IntKind.i64.wrap ((x.index.toNat % 22:Nat):Int)=((x.index.toNat % 22:Nat):Int):=aV (by omega) (by omega)
  have hw48:IntKind.i64.wrap (x.index.toNat:Int)=(x.index.toNat:Int):=aV (by omega) (by omega)
  have h54:((x.index.toNat % 32:Nat):Int)≤(byI (List.replicate 32 x.data)).length:=by rw[fD,List.length_replicate]; omega
  by_cases q4:x.kind.toNat % 9<4
  ·have d4:decide (((x.kind.toNat % 9:Nat):Int)<4)=true:=dT (by omega)
   rw[show qOf x=⟨1,((x.index.toNat % 22:Nat):Int)-1,[]⟩ by rw[qOf,if_pos q4]]
   refine qR<|zD ?_;refine zJ<|zX<|qR ?_;refine rC ?_;refine rQ iB ?_;refine rQ (cm (a:=x.kind.toNat) (b:=9) aa rfl rfl rfl (by decide)) ?_;refine rC<|zP<|sR ?_;refine zU ?_;refine zI<|aj ?_;refine rC ?_;refine rQ iB ?_;refine rQ (cm (a:=x.index.toNat) (b:=22) aa rfl rfl rfl (by decide)) ?_;refine rQ (cM (m:=((x.index.toNat % 22:Nat):Int)) aa rfl rfl rfl hw27) ?_;refine rQ (ce aa rfl rfl (aV (by omega) (by omega))) ?_;refine rQ iS ?_;refine rW<|aw<|zC<|sR ?_;refine rQ iM ?_;refine rW<|zT ?_
   exact⟨trivial,_,rfl,[],lg ⟨⟨_,rfl,fZ _ _⟩,rfl,trivial⟩ trivial⟩
  have d4:decide (((x.kind.toNat % 9:Nat):Int)<4)=false:=dF (by omega)
  by_cases q7:x.kind.toNat % 9<7
  ·have d7:decide (((x.kind.toNat % 9:Nat):Int)<7)=true:=dT (by omega)
   rw[show qOf x=⟨2,((x.index.toNat % 22:Nat):Int)-1,List.replicate 32 x.data⟩ by rw[qOf,if_neg q4,if_pos q7]]
   refine qR<|zD ?_;refine zJ<|zX<|qR ?_;refine rC ?_;refine rQ iB ?_;refine rQ (cm (a:=x.kind.toNat) (b:=9) aa rfl rfl rfl (by decide)) ?_;refine rC<|zP<|sR ?_;refine zU ?_;refine zG<|sR ?_;refine zU ?_;refine zI<|aj ?_;refine rC ?_;refine rQ iB ?_;refine rQ (cm (a:=x.index.toNat) (b:=22) aa rfl rfl rfl (by decide)) ?_;refine rQ (cM (m:=((x.index.toNat % 22:Nat):Int)) aa rfl rfl rfl hw27) ?_;refine rQ (ce aa rfl rfl (aV (by omega) (by omega))) ?_;refine rC ?_;refine rQ iS ?_;refine rW<|aw<|zC<|sR ?_;refine rQ iM ?_;refine rW<|zT ?_
   exact⟨trivial,_,rfl,[],lf⟩
  have d7:decide (((x.kind.toNat % 9:Nat):Int)<7)=false:=dF (by omega)
  by_cases q8:x.kind.toNat % 9=8
  ·have d8:decide (((x.kind.toNat % 9:Nat):Int)=8)=true:=dT (by omega)
   rw[show qOf x=⟨((x.data.toNat % 4:Nat):Int),(x.index.toNat:Int)-100,List.replicate (x.index.toNat % 32) x.data⟩ by rw[qOf,if_neg q4,if_neg q7,if_pos q8]]
   have ht:(byI (List.replicate 32 x.data)).take (((x.index.toNat % 32:Nat):Int)).toNat=byI (List.replicate (x.index.toNat % 32) x.data):=by
    rw[Int.toNat_natCast,byI,byI,←List.map_take,List.take_replicate,Nat.min_eq_left (by omega)]
   refine qR<|zD ?_;refine zJ<|zX<|qR ?_;refine rC ?_;refine rQ iB ?_;refine rQ (cm (a:=x.kind.toNat) (b:=9) aa rfl rfl rfl (by decide)) ?_;refine rC<|zP<|sR ?_;refine zU ?_;refine zG<|sR ?_;refine zU ?_;refine zG<|sR ?_;refine zU ?_;refine zI ?_;refine aA (by kernel_rfl) ?_;refine dC [1] [] ?_;refine dQ [43] [64] iB ?_;refine dQ [44] [] (cm (a:=x.data.toNat) (b:=4) aa rfl rfl rfl (by decide)) ?_;refine dC [1] [] ?_;refine dQ [46] [64] iB ?_;refine dQ [47] [] (cM (m:=(x.index.toNat:Int)) aa rfl rfl rfl hw48) ?_;refine dQ [48] [] (ce aa rfl rfl (aV (by omega) (by omega))) ?_;refine dC [4] [] ?_;refine dC [1] [] ?_;refine dQ [51] [64] iB ?_;refine dQ [52] [] (cm (a:=x.index.toNat) (b:=32) aa rfl rfl rfl (by decide)) ?_;refine dQ [50,53] [] (kz (m:=((x.index.toNat % 32:Nat):Int)) aa rfl rfl rfl rfl (by omega) h54) ?_;refine dQ [45,49,54] [] iS ?_;refine bu [3,55] [66] (aL aa rfl rfl rfl ⟨_,⟨rfl,rfl,rfl⟩,rfl⟩ rfl) ?_;refine am (by kernel_rfl)<|ep<|aG<|sR ?_;refine rQ iM ?_;refine rW<|zT ?_
   rw[ht]
   exact⟨trivial,_,rfl,[],lf⟩
  ·have d8:decide (((x.kind.toNat % 9:Nat):Int)=8)=false:=dF (by omega)
   rw[show qOf x=⟨3,0,[]⟩ by rw[qOf,if_neg q4,if_neg q7,if_neg q8]]
   refine qR<|zD ?_;refine zJ<|zX<|qR ?_;refine rC ?_;refine rQ iB ?_;refine rQ (cm (a:=x.kind.toNat) (b:=9) aa rfl rfl rfl (by decide)) ?_;refine rC<|zP<|sR ?_;refine zU ?_;refine zG<|sR ?_;refine zU ?_;refine zG<|sR ?_;refine zU ?_;refine zG<|aN<|zC<|sR ?_;refine rQ iM ?_;refine rW<|zT ?_
   exact⟨trivial,_,rfl,[],lg ⟨⟨_,rfl,fZ _ _⟩,rfl,trivial⟩ trivial⟩
def blkB (d:UInt8):UInt8:=(d.toNat % 4).toUInt8
theorem xI (d:UInt8):(blkB d).toNat=d.toNat % 4:=by
 rw[blkB,Nat.toUInt8_eq,UInt8.toNat_ofNat']
 omega
theorem kq (d:UInt8):FnIs Try.prog 41 [.int .u8 d.toNat] [] (.d (br (List.replicate 32 (blkB d)))) []:=by
 have hd:=d.toNat_lt
 refine aE aa Try.func41 rfl rfl rfl ?_;refine sR<|rN<|nR ?_;refine rN<|zW ?_;refine rC<|zP ?_
 refine wc_inv (fun i:Nat=>⟨[(4,.int .i64 i),(3,.ptr 65 []),(2,.ptr 66 []),(0,.int .u8 d.toNat)],[(65,some (.box 27 (.d (.vec 32 1 cU (gk ((d.toNat % 4:Nat):Int) 32 i))))),(66,some (.box 27 (.d (.vec 32 1 cU (List.replicate 32 0)))))],72,Try.f41.ntmps,64⟩) (fun i=>i≤32) (fun i=>32-i) 0 [(65,some _),(66,some _)] (Nat.zero_le _)
  (lg zi ⟨zR,zR,trivial⟩) ?_
 intro i hi
 refine bM<|qR ?_;refine zD<|nS ?_
 refine gu rfl (fun h3=>?_) (fun h3=>?_)
 ·have hlt:i<32:=by have:=of_decide_eq_true h3; omega
  have hg:(gk ((d.toNat % 4:Nat):Int) 32 i)[((i:Int)).toNat]?=some 0:=by rw[Int.toNat_natCast]; exact oZ hlt
  have hs:=oY (d:=((d.toNat % 4:Nat):Int)) hlt
  refine zQ<|bn<|aj<|zD ?_;refine rQ (cm (a:=d.toNat) (b:=4) aa rfl rfl rfl (by decide)) ?_;refine rQ (an aa (fun K hk=>⟨by omega,by omega,hk⟩)) ?_;refine bO (aL aa rfl rfl rfl ⟨_,⟨_,⟨rfl,_,((d.toNat % 4:Nat):Int),hg,⟨rfl,rfl,rfl⟩,rfl⟩,rfl⟩,rfl⟩ rfl)<|aw<|zC<|aj ?_;refine rC ?_;refine rQ iD ?_;refine rC<|aw ?_
  exact aI (i+1) [(65,some 65),(66,some 66)] hlt (by omega) (lg zi ⟨⟨rfl,rfl,_,rfl,aR.of_eq (congrArg (fun l=>Row.box 27 (.d (.vec 32 1 cU l))) hs)⟩,zR,trivial⟩)
 ·have he:i=32:=by have:=of_decide_eq_false h3; omega
  subst he
  have hE:gk ((d.toNat % 4:Nat):Int) 32 32=byI (List.replicate 32 (blkB d)):=by rw[←xI]; exact o4 _ _
  rw[hE]
  refine zX<|sR<|rQ iM ?_;refine rW<|zT ?_
  exact⟨trivial,_,rfl,[],lf⟩
structure XE where
 who:UInt8
 what:UInt8
 data:UInt8
def tY (x:XE):D :=.cons (u8s x.who.toNat) (.cons (u8s x.what.toNat) (.cons (u8s x.data.toNat) .nil))
def opX (x:XE):POp :=
 if x.what.toNat % 8<3 then⟨1,((x.data.toNat/4 % 3:Nat):Int),[]⟩
 else if x.what.toNat % 8<6 then⟨2,((x.data.toNat/4 % 3:Nat):Int),List.replicate 32 (blkB x.data)⟩
 else if x.what.toNat % 8=6 then⟨3,0,[]⟩
 else qOf ⟨8,x.data,x.what⟩
theorem wH (x:XE):FnIs Try.prog 40 [.d (tY x)] [] (.d (cr (opX x))) []:=by
 have hx1:=x.what.toNat_lt
 have hx2:=x.data.toNat_lt
 have hwc:IntKind.i64.wrap ((x.data.toNat/4:Nat):Int)=((x.data.toNat/4:Nat):Int):=aV (by omega) (by omega)
 refine aE aa Try.func40 rfl rfl rfl ?_;refine sR ?_;iterate 2 refine rN ?_
 refine nR<|rC ?_;refine rQ iB ?_;refine rQ (aq (kq x.data) rfl rfl (ak ai) (.inl rfl) (fun _=>rfl)) ?_;refine rN ?_;refine rW<|nS ?_;refine ez (env':=[(3,_),(2,_),(1,_)]) (h':=[(64,some _),(72,some _)]) 104 _ rfl ⟨⟨_,rfl,Frz.ptr⟩,zE,zE,trivial⟩ ⟨⟨rfl,_,rfl,.refl _⟩,⟨rfl,_,rfl,.refl _⟩,trivial⟩ ?_
 have hw8:x.what.toNat % 8<8:=Nat.mod_lt _ (by decide)
 refine qR<|rC ?_;refine rQ iB ?_;refine rQ (cm (a:=x.what.toNat) (b:=8) aa rfl rfl rfl (by decide))<|zP<|qR ?_;refine zD<|nS ?_
 by_cases w0:x.what.toNat % 8=0
 ·have e0:decide (((x.what.toNat % 8:Nat):Int)=0)=true:=dT (by omega)
  rw[show opX x=⟨1,((x.data.toNat/4 % 3:Nat):Int),[]⟩ by rw[opX,if_pos (by omega)]]
  refine wT<|kS ?_;refine wT<|sR ?_;refine rC ?_;refine rQ iB ?_;refine rQ (gw (a:=x.data.toNat) (s:=2) (m:=x.data.toNat/4) rfl rfl (by decide) rfl) ?_;refine rQ (cM (m:=((x.data.toNat/4:Nat):Int)) aa rfl rfl rfl hwc) ?_;refine rQ (cm (a:=x.data.toNat/4) (b:=3) aa rfl rfl rfl (by decide)) ?_;refine rQ iS ?_;refine rW<|zT<|zB ?_
  exact⟨trivial,_,rfl,[],lg ⟨⟨_,rfl,fZ _ _⟩,rfl,trivial⟩ trivial⟩
 skip
 by_cases w1:x.what.toNat % 8=1
 ·have e0:decide (((x.what.toNat % 8:Nat):Int)=0)=false:=dF (by omega)
  have e1:decide (((x.what.toNat % 8:Nat):Int)=1)=true:=dT (by omega)
  rw[show opX x=⟨1,((x.data.toNat/4 % 3:Nat):Int),[]⟩ by rw[opX,if_pos (by omega)]]
  refine wF<|sR ?_;refine zD ?_;refine zI<|kS ?_;refine wT<|sR ?_;refine rC ?_;refine rQ iB ?_;refine rQ (gw (a:=x.data.toNat) (s:=2) (m:=x.data.toNat/4) rfl rfl (by decide) rfl) ?_;refine rQ (cM (m:=((x.data.toNat/4:Nat):Int)) aa rfl rfl rfl hwc) ?_;refine rQ (cm (a:=x.data.toNat/4) (b:=3) aa rfl rfl rfl (by decide)) ?_;refine rQ iS ?_;refine rW<|zT<|zB ?_
  exact⟨trivial,_,rfl,[],lg ⟨⟨_,rfl,fZ _ _⟩,rfl,trivial⟩ trivial⟩
 skip
 by_cases w2:x.what.toNat % 8=2
 ·have e0:decide (((x.what.toNat % 8:Nat):Int)=0)=false:=dF (by omega)
  have e1:decide (((x.what.toNat % 8:Nat):Int)=1)=false:=dF (by omega)
  have e2:decide (((x.what.toNat % 8:Nat):Int)=2)=true:=dT (by omega)
  rw[show opX x=⟨1,((x.data.toNat/4 % 3:Nat):Int),[]⟩ by rw[opX,if_pos (by omega)]]
  refine wF<|sR ?_;refine zD ?_;refine zG<|aj ?_;refine zD ?_;refine zI<|sR ?_;refine rC ?_;refine rQ iB ?_;refine rQ (gw (a:=x.data.toNat) (s:=2) (m:=x.data.toNat/4) rfl rfl (by decide) rfl) ?_;refine rQ (cM (m:=((x.data.toNat/4:Nat):Int)) aa rfl rfl rfl hwc) ?_;refine rQ (cm (a:=x.data.toNat/4) (b:=3) aa rfl rfl rfl (by decide)) ?_;refine rQ iS ?_;refine rW<|zT<|zB ?_
  exact⟨trivial,_,rfl,[],lg ⟨⟨_,rfl,fZ _ _⟩,rfl,trivial⟩ trivial⟩
 skip
 by_cases w3:x.what.toNat % 8=3
 ·have e0:decide (((x.what.toNat % 8:Nat):Int)=0)=false:=dF (by omega)
  have e1:decide (((x.what.toNat % 8:Nat):Int)=1)=false:=dF (by omega)
  have e2:decide (((x.what.toNat % 8:Nat):Int)=2)=false:=dF (by omega)
  have e3:decide (((x.what.toNat % 8:Nat):Int)=3)=true:=dT (by omega)
  rw[show opX x=⟨2,((x.data.toNat/4 % 3:Nat):Int),List.replicate 32 (blkB x.data)⟩ by rw[opX,if_neg (by omega),if_pos (by omega)]]
  refine wF<|sR ?_;refine zD ?_;refine zG<|aj ?_;refine zD ?_;refine zG<|qR ?_;refine zD ?_;refine zI<|kS ?_;refine wT<|aS ?_;refine aA (by kernel_rfl) ?_;refine dC [1] [] ?_;refine dQ [24] [64] iB ?_;refine dQ [25] [] (gw (a:=x.data.toNat) (s:=2) (m:=x.data.toNat/4) rfl rfl (by decide) rfl) ?_;refine dQ [26] [] (cM (m:=((x.data.toNat/4:Nat):Int)) aa rfl rfl rfl hwc) ?_;refine dQ [27] [] (cm (a:=x.data.toNat/4) (b:=3) aa rfl rfl rfl (by decide)) ?_;refine dQ [3] [] (kA aa rfl rfl rfl rfl rfl) ?_;refine dQ [28,29] [] iS ?_;refine bu [2,30] [72] (aL aa rfl rfl rfl ⟨_,⟨rfl,rfl,rfl⟩,rfl⟩ rfl) ?_;refine am (by kernel_rfl)<|aG<|dV<|zB ?_
  exact⟨trivial,_,rfl,[],lf⟩
 skip
 by_cases w4:x.what.toNat % 8=4
 ·have e0:decide (((x.what.toNat % 8:Nat):Int)=0)=false:=dF (by omega)
  have e1:decide (((x.what.toNat % 8:Nat):Int)=1)=false:=dF (by omega)
  have e2:decide (((x.what.toNat % 8:Nat):Int)=2)=false:=dF (by omega)
  have e3:decide (((x.what.toNat % 8:Nat):Int)=3)=false:=dF (by omega)
  have e4:decide (((x.what.toNat % 8:Nat):Int)=4)=true:=dT (by omega)
  rw[show opX x=⟨2,((x.data.toNat/4 % 3:Nat):Int),List.replicate 32 (blkB x.data)⟩ by rw[opX,if_neg (by omega),if_pos (by omega)]]
  refine wF<|sR ?_;refine zD ?_;refine zG<|aj ?_;refine zD ?_;refine zG<|qR ?_;refine zD ?_;refine zG<|sR ?_;refine zD ?_;refine zI<|kS ?_;refine wT<|aS ?_;refine aA (by kernel_rfl) ?_;refine dC [1] [] ?_;refine dQ [24] [64] iB ?_;refine dQ [25] [] (gw (a:=x.data.toNat) (s:=2) (m:=x.data.toNat/4) rfl rfl (by decide) rfl) ?_;refine dQ [26] [] (cM (m:=((x.data.toNat/4:Nat):Int)) aa rfl rfl rfl hwc) ?_;refine dQ [27] [] (cm (a:=x.data.toNat/4) (b:=3) aa rfl rfl rfl (by decide)) ?_;refine dQ [3] [] (kA aa rfl rfl rfl rfl rfl) ?_;refine dQ [28,29] [] iS ?_;refine bu [2,30] [72] (aL aa rfl rfl rfl ⟨_,⟨rfl,rfl,rfl⟩,rfl⟩ rfl) ?_;refine am (by kernel_rfl)<|aG<|dV<|zB ?_
  exact⟨trivial,_,rfl,[],lf⟩
 skip
 by_cases w5:x.what.toNat % 8=5
 ·have e0:decide (((x.what.toNat % 8:Nat):Int)=0)=false:=dF (by omega)
  have e1:decide (((x.what.toNat % 8:Nat):Int)=1)=false:=dF (by omega)
  have e2:decide (((x.what.toNat % 8:Nat):Int)=2)=false:=dF (by omega)
  have e3:decide (((x.what.toNat % 8:Nat):Int)=3)=false:=dF (by omega)
  have e4:decide (((x.what.toNat % 8:Nat):Int)=4)=false:=dF (by omega)
  have e5:decide (((x.what.toNat % 8:Nat):Int)=5)=true:=dT (by omega)
  rw[show opX x=⟨2,((x.data.toNat/4 % 3:Nat):Int),List.replicate 32 (blkB x.data)⟩ by rw[opX,if_neg (by omega),if_pos (by omega)]]
  refine wF<|sR ?_;refine zD ?_;refine zG<|aj ?_;refine zD ?_;refine zG<|qR ?_;refine zD ?_;refine zG<|sR ?_;refine zD ?_;refine zG<|aj ?_;refine zD ?_;refine zI<|aS ?_;refine aA (by kernel_rfl) ?_;refine dC [1] [] ?_;refine dQ [24] [64] iB ?_;refine dQ [25] [] (gw (a:=x.data.toNat) (s:=2) (m:=x.data.toNat/4) rfl rfl (by decide) rfl) ?_;refine dQ [26] [] (cM (m:=((x.data.toNat/4:Nat):Int)) aa rfl rfl rfl hwc) ?_;refine dQ [27] [] (cm (a:=x.data.toNat/4) (b:=3) aa rfl rfl rfl (by decide)) ?_;refine dQ [3] [] (kA aa rfl rfl rfl rfl rfl) ?_;refine dQ [28,29] [] iS ?_;refine bu [2,30] [72] (aL aa rfl rfl rfl ⟨_,⟨rfl,rfl,rfl⟩,rfl⟩ rfl) ?_;refine am (by kernel_rfl)<|aG<|dV<|zB ?_
  exact⟨trivial,_,rfl,[],lf⟩
 skip
 by_cases w6:x.what.toNat % 8=6
 ·have e0:decide (((x.what.toNat % 8:Nat):Int)=0)=false:=dF (by omega)
  have e1:decide (((x.what.toNat % 8:Nat):Int)=1)=false:=dF (by omega)
  have e2:decide (((x.what.toNat % 8:Nat):Int)=2)=false:=dF (by omega)
  have e3:decide (((x.what.toNat % 8:Nat):Int)=3)=false:=dF (by omega)
  have e4:decide (((x.what.toNat % 8:Nat):Int)=4)=false:=dF (by omega)
  have e5:decide (((x.what.toNat % 8:Nat):Int)=5)=false:=dF (by omega)
  have e6:decide (((x.what.toNat % 8:Nat):Int)=6)=true:=dT (by omega)
  rw[show opX x=⟨3,0,[]⟩ by rw[opX,if_neg (by omega),if_neg (by omega),if_pos w6]]
  refine wF<|sR ?_;refine zD ?_;refine zG<|aj ?_;refine zD ?_;refine zG<|qR ?_;refine zD ?_;refine zG<|sR ?_;refine zD ?_;refine zG<|aj ?_;refine zD ?_;refine zG<|sR ?_;refine zD ?_;refine zI<|sR ?_;refine rQ iS ?_;refine rW<|zT<|zB ?_
  exact⟨trivial,_,rfl,[],lg ⟨⟨_,rfl,fZ _ _⟩,rfl,trivial⟩ trivial⟩
 have w7:x.what.toNat % 8=7:=by omega
 have e0:decide (((x.what.toNat % 8:Nat):Int)=0)=false:=dF (by omega)
 have e1:decide (((x.what.toNat % 8:Nat):Int)=1)=false:=dF (by omega)
 have e2:decide (((x.what.toNat % 8:Nat):Int)=2)=false:=dF (by omega)
 have e3:decide (((x.what.toNat % 8:Nat):Int)=3)=false:=dF (by omega)
 have e4:decide (((x.what.toNat % 8:Nat):Int)=4)=false:=dF (by omega)
 have e5:decide (((x.what.toNat % 8:Nat):Int)=5)=false:=dF (by omega)
 have e6:decide (((x.what.toNat % 8:Nat):Int)=6)=false:=dF (by omega)
 rw[show opX x=qOf ⟨8,x.data,x.what⟩ by rw[opX,if_neg (by omega),if_neg (by omega),if_neg w6]]
 refine wF<|sR ?_;refine zD ?_;refine zG<|aj ?_;refine zD ?_;refine zG<|qR ?_;refine zD ?_;refine zG<|sR ?_;refine zD ?_;refine zG<|aj ?_;refine zD ?_;refine zG<|sR ?_;refine zD ?_;refine zG<|aN<|zC<|sR ?_;refine rC ?_;refine rQ iB ?_;refine rC ?_;refine rQ iB ?_;refine rQ iS ?_;refine rQ (aq (z3 ⟨8,x.data,x.what⟩) rfl rfl (ak ai) (.inl rfl) (fun _=>rfl)) ?_;refine rW<|zT ?_
 exact⟨trivial,_,rfl,[],lf⟩
def nL (l:List XE):D :=.cons (.arr 3 tY l) .nil
def kU:List Int:=[0,0,0,0,0,1,8,9]
def errX (y:HEv) (x:XE):Int:=if badO y.op 3&&decide (x.what.toNat<200) then 1 else kU[x.what.toNat % 8]?.getD 0
def b7 (out:List HEv) (x:XE):List HEv :=
 if x.who.toNat % 4=3∧x.what.toNat≤20 then out++[⟨3,0,zOp,zBk,0⟩]
 else if pend out ((x.who.toNat % 4 % 3:Nat):Int)<0 then out++[⟨1,((x.who.toNat % 4 % 3:Nat):Int),opX x,zBk,0⟩]
 else match out[(pend out ((x.who.toNat % 4 % 3:Nat):Int)).toNat]? with
  | none=>out
  | some y=>out++[⟨2,((x.who.toNat % 4 % 3:Nat):Int),zOp,if y.op.kind=1∧errX y x=0 then List.replicate 32 (blkB x.data) else zBk,errX y x⟩]
def hOf (l:List XE):List HEv:=(l.take 24).foldl b7 []
theorem se (k c e:Int):DLe (.cons (u8s k) (.cons (i6 c) (.cons zPOp (.cons (.vec 32 1 cU (List.replicate 32 0)) (.cons (i6 e) .nil))))) (bY ⟨k,c,zOp,zBk,e⟩):=by
 rintro w X cs ⟨c1,r1,rfl,h1,c2,r2,rfl,h2,c3,r3,rfl,h3,h4⟩
 exact⟨c1,_,rfl,h1,c2,_,rfl,h2,c3,_,rfl,zu _ _ _ h3,h4⟩
theorem uD (out:List HEv) (x:XE):(b7 out x).length≤out.length+1:=by
 unfold b7
 split
 ·simp
 ·split
  ·simp
  ·split <;> simp
theorem jK:∀(l:List XE) (out:List HEv),(l.foldl b7 out).length≤out.length+l.length
 | [],out=>by simp
 | x::l,out=>by
  have h1:=jK l (b7 out x)
  have h2:=uD out x
  simp only[List.foldl_cons,List.length_cons]
  omega
theorem sZ {l:List XE} {i:Nat} {x:XE} (hx:l[i]?=some x):(l.take (i+1)).foldl b7 []=b7 ((l.take i).foldl b7 []) x:=by
 rw[List.take_add_one,hx,Option.toList_some,List.foldl_append]; rfl
theorem yx (l:List XE):FnIs Try.prog 17 [.d (nL l)] [] (.own 64 0 (hOf l).length 38 none) [(64,.ds 63 38 false bY (hOf l))]:=by
 refine aE aa Try.func17 rfl rfl rfl ?_;refine sR<|rN ?_;refine rC<|nR ?_;refine rC<|zW ?_;refine rC<|nS<|bn ?_
 refine wc_inv (fun q:Nat×List HEv=>⟨[(4,.int .i64 q.1),(3,.own 65 0 q.2.length 38 none),(1,.ptr 64 [])],[(64,some (.box 38 (.d (nL l)))),(65,some (.ds 63 38 false bY q.2))],72,Try.f17.ntmps,64⟩) (fun q=>q.1≤l.length∧q.1≤24∧q.2=(l.take q.1).foldl b7 []) (fun q=>24-q.1) (0,[]) [(64,some 64),(65,none)] ⟨Nat.zero_le _,Nat.zero_le _,rfl⟩
  (lg zj ⟨zR,⟨rfl,rfl,rfl⟩,trivial⟩) ?_
 rintro⟨i,out⟩ ⟨hi,h24,hout⟩
 simp only at hi h24 hout
 have hol:out.length≤24:=by
  have:=jK (l.take i) []
  rw[←hout,List.length_take]at this
  simp at this; omega
 have hal:out.length+1≤1048576:=by omega
 have hpl:out.length≤9223372036854775807:=by omega
 refine bM<|qR ?_;refine zD ?_;refine rQ iB ?_;refine rQ iE ?_;refine zD ?_
 by_cases hlt:i<l.length
 ·have c1:decide ((i:Int)<(l.length:Int))=true:=dT (by omega)
  refine rO ?_;refine rC ?_;refine rO ?_;refine rC ?_;refine rQ iT<|nS ?_
  by_cases h24:i<24
  ·have c2:decide ((i:Int)<24)=true:=dT (by omega)
   obtain⟨x,hx⟩:∃u,l[i]?=some u:=⟨_,List.getElem?_eq_getElem hlt⟩
   have hx':l[((i:Int)).toNat]?=some x:=by rw[Int.toNat_natCast]; exact hx
   have hx1:=x.who.toNat_lt
   have hx2:=x.what.toNat_lt
   have hwc:IntKind.i64.wrap ((x.who.toNat % 4:Nat):Int)=((x.who.toNat % 4:Nat):Int):=aV (by omega) (by omega)
   have hfx:=sZ hx
   rw[←hout]at hfx
   refine wT<|zQ<|zS ?_;refine rC ?_;refine rQ iB ?_;refine rC ?_;refine rQ (ao aa rfl rfl rfl rfl rfl (by omega) hx') ?_;refine rQ iL ?_;refine rN ?_;refine rW<|nR ?_;refine rC ?_;refine rQ iB ?_;refine rQ (cm (a:=x.who.toNat) (b:=4) aa rfl rfl rfl (by decide)) ?_;refine rQ (cM (m:=((x.who.toNat % 4:Nat):Int)) aa rfl rfl rfl hwc) ?_;refine rC<|zW ?_;refine zU ?_
   by_cases w3:x.who.toNat % 4=3
   ·have d3:decide (((x.who.toNat % 4:Nat):Int)=3)=true:=dT (by omega)
    refine rO ?_;refine rC ?_;refine rO ?_;refine rQ iB ?_;refine rO ?_;refine rC ?_;refine rQ iT<|nS ?_
    by_cases w20:x.what.toNat≤20
    ·have d20:decide ((x.what.toNat:Int)≤20)=true:=dT (by omega)
     have hst:b7 out x=out++[⟨3,0,zOp,zBk,0⟩]:=by rw[b7,if_pos ⟨w3,w20⟩]
     have hl1:out.length+1=(out++[(⟨3,0,zOp,zBk,0⟩:HEv)]).length:=by simp
     refine wT<|sR ?_;refine rC ?_;refine rQ (au.val_le (bp aa rfl rfl rfl rfl) (se 3 0 0) rfl) ?_;refine aW (aD (s:=38) aa rfl rfl rfl rfl rfl rfl rfl rfl) rfl ?_;refine aO (aQ (enc:=bY) (s:=38) (xs:=out) aa ⟨3,0,zOp,zBk,0⟩ rfl rfl rfl rfl rfl rfl rfl rfl rfl hal rfl) rfl ?_;refine rC<|nS<|bV<|db<|dj<|aG<|aj ?_;refine rC ?_;refine rQ iD ?_;refine rC<|aw ?_
     exact aI (i+1,out++[⟨3,0,zOp,zBk,0⟩]) [(64,some 64),(65,some _)] ⟨hlt,h24,by rw[hfx,hst]⟩ (by show 24-(i+1)<24-i; omega) (lg ⟨zE,rfl,⟨_,rfl,AVLe.of_eq (congrArg (fun n=>AV.own _ 0 n 38 none) hl1)⟩,rfl,zE,rfl,trivial⟩ ⟨zR,zR,trivial⟩)
    ·have d20:decide ((x.what.toNat:Int)≤20)=false:=dF (by omega)
     have hns:¬(x.who.toNat % 4=3∧x.what.toNat≤20):=by omega
     refine wF<|kS<|sR ?_;refine rC ?_;refine rQ (cm (a:=x.who.toNat % 4) (b:=3) aa rfl rfl rfl (by decide)) ?_;refine rC<|nR ?_;refine zD ?_;refine rQ (aq (tC out ((x.who.toNat % 4 % 3:Nat):Int) hpl) rfl rfl (p4 rfl (ak ai)) (.inr (cN.sc _)) (fun _=>rfl)) ?_;refine rC<|zW ?_;refine zD<|nS ?_
     by_cases hp:pend out ((x.who.toNat % 4 % 3:Nat):Int)<0
     ·have dp:decide (pend out ((x.who.toNat % 4 % 3:Nat):Int)<0)=true:=dT hp
      have hst:b7 out x=out++[⟨1,((x.who.toNat % 4 % 3:Nat):Int),opX x,zBk,0⟩]:=by rw[b7,if_neg hns,if_pos hp]
      have hl1:out.length+1=(out++[(⟨1,((x.who.toNat % 4 % 3:Nat):Int),opX x,zBk,0⟩:HEv)]).length:=by simp
      refine wT<|sR ?_;refine zD ?_;refine rQ iM ?_;refine rQ (aq (wH x) rfl rfl (ak ai) (.inl rfl) (fun _=>rfl)) ?_;refine rQ iS ?_;refine aW (aD (s:=38) aa rfl rfl rfl rfl rfl rfl rfl rfl) rfl ?_;refine aO (aQ (enc:=bY) (s:=38) (xs:=out) aa ⟨1,((x.who.toNat % 4 % 3:Nat):Int),opX x,zBk,0⟩ rfl rfl rfl rfl rfl rfl rfl rfl rfl hal rfl) rfl ?_;refine rC<|nS<|bV<|db<|dj<|aG<|aj ?_;refine rC ?_;refine rQ iD ?_;refine rC<|aw ?_
      exact aI (i+1,out++[⟨1,((x.who.toNat % 4 % 3:Nat):Int),opX x,zBk,0⟩]) [(64,some 64),(65,some _)] ⟨hlt,h24,by rw[hfx,hst]⟩ (by show 24-(i+1)<24-i; omega) (lg ⟨zE,rfl,⟨_,rfl,AVLe.of_eq (congrArg (fun n=>AV.own _ 0 n 38 none) hl1)⟩,rfl,zE,rfl,trivial⟩ ⟨zR,zR,trivial⟩)
     ·have dp:decide (pend out ((x.who.toNat % 4 % 3:Nat):Int)<0)=false:=dF hp
      have hpi:=tD out ((x.who.toNat % 4 % 3:Nat):Int)
      have hge:0≤pend out ((x.who.toNat % 4 % 3:Nat):Int):=by omega
      have hlp:pend out ((x.who.toNat % 4 % 3:Nat):Int)<(out.length:Int):=hpi.2
      obtain⟨y,hy⟩:∃y,out[(pend out ((x.who.toNat % 4 % 3:Nat):Int)).toNat]?=some y:=⟨_,List.getElem?_eq_getElem (by omega)⟩
      obtain⟨e0,he0⟩:∃e0,kU[x.what.toNat % 8]?=some e0:=⟨_,List.getElem?_eq_getElem (Nat.mod_lt _ (by decide))⟩
      have hE:kU[(((x.what.toNat % 8:Nat):Int)).toNat]?=some e0:=by rw[Int.toNat_natCast]; exact he0
      have hs0:b7 out x=out++[⟨2,((x.who.toNat % 4 % 3:Nat):Int),zOp,if y.op.kind=1∧errX y x=0 then List.replicate 32 (blkB x.data) else zBk,errX y x⟩]:=by rw[b7,if_neg hns,if_neg hp,hy]
      have hb:=pG y.op 3
      obtain⟨bad,hbad⟩:∃b,badO y.op 3=b:=⟨_,rfl⟩
      obtain⟨lo,hlo⟩:∃b,decide (x.what.toNat<200)=b:=⟨_,rfl⟩
      have hlo':decide ((x.what.toNat:Int)<200)=lo:=by rw[←hlo]; exact decide_eq_decide.2 (by omega)
      rw[hbad]at hb
      unfold r01 at hb
      refine wF<|kS<|sR ?_;refine rC ?_;refine rQ (au.frozen (aD (s:=1) aa rfl rfl rfl rfl rfl rfl rfl rfl) (Frz.litsN (enc:=i6) [0,0,0,0,0,1,8,9] rfl (fun _ _=>rfl))) ?_;refine rC ?_;refine rQ iB ?_;refine rQ (cm (a:=x.what.toNat) (b:=8) aa rfl rfl rfl (by decide)) ?_;refine rQ (ao (xs:=kU) aa rfl rfl rfl rfl rfl (by omega) hE) ?_;refine rQ iL ?_;refine rQ (au.val_le (bp aa rfl rfl rfl rfl) (se 2 ((x.who.toNat % 4 % 3:Nat):Int) e0) rfl) ?_;refine rN ?_;refine rW<|zW ?_;refine zD ?_;refine rQ (aP aa rfl rfl rfl rfl rfl hge hlp) ?_;refine rC ?_;refine rQ (bd aa rfl rfl ⟨rfl,y,hy,_,rfl,rfl⟩ rfl) ?_;refine rQ (aq hb rfl rfl (ak (ak ai)) (.inl rfl) (fun _=>rfl)) ?_;refine zD ?_
      cases bad with
      | true =>
       rw[if_pos rfl]at hb
       refine rP ?_;refine rC ?_;refine rP ?_;refine rQ iB ?_;refine rP ?_;refine rC ?_;refine rQ iU<|nS ?_
       cases lo with
       | true =>
        have heX:errX y x=1:=by rw[errX,hbad,hlo]; rfl
        rw[heX]at hs0
        refine wT<|aj ?_;refine rC ?_;refine rX<|zW ?_;refine zD ?_;refine rQ (aP aa rfl rfl rfl rfl rfl hge hlp) ?_;refine zD ?_;refine rQ (bd aa rfl rfl ⟨rfl,y,hy,_,rfl,rfl⟩ rfl) ?_;refine zD ?_
        by_cases hk:y.op.kind=1
        ·have dk:decide (y.op.kind=1)=true:=dT hk
         have hst:b7 out x=out++[⟨2,((x.who.toNat % 4 % 3:Nat):Int),zOp,zBk,1⟩]:=by rw[hs0,if_neg (by omega)]
         have hl1:out.length+1=(out++[(⟨2,((x.who.toNat % 4 % 3:Nat):Int),zOp,zBk,1⟩:HEv)]).length:=by simp
         refine rO ?_;refine rC ?_;refine rO ?_;refine rQ iB ?_;refine rO ?_;refine rC ?_;refine rQ iT ?_;refine zJ<|kS<|aj ?_;refine rC ?_;refine rQ iM ?_;refine aW (aD (s:=38) aa rfl rfl rfl rfl rfl rfl rfl rfl) rfl ?_;refine aO (aQ (enc:=bY) (s:=38) (xs:=out) aa ⟨2,((x.who.toNat % 4 % 3:Nat):Int),zOp,zBk,1⟩ rfl rfl rfl rfl rfl rfl rfl rfl rfl hal rfl) rfl ?_;refine rC<|aw<|zC<|aj ?_;refine rC ?_;refine rQ iD ?_;refine rC<|aw ?_
         exact aI (i+1,out++[⟨2,((x.who.toNat % 4 % 3:Nat):Int),zOp,zBk,1⟩]) [(64,some 64),(65,some _)] ⟨hlt,h24,by rw[hfx,hst]⟩ (by show 24-(i+1)<24-i; omega) (lg ⟨zE,rfl,⟨_,rfl,AVLe.of_eq (congrArg (fun n=>AV.own _ 0 n 38 none) hl1)⟩,rfl,zE,rfl,trivial⟩ ⟨zR,zR,trivial⟩)
        ·have dk:decide (y.op.kind=1)=false:=dF hk
         have hst:b7 out x=out++[⟨2,((x.who.toNat % 4 % 3:Nat):Int),zOp,zBk,1⟩]:=by rw[hs0,if_neg (fun h=>hk h.1)]
         have hl1:out.length+1=(out++[(⟨2,((x.who.toNat % 4 % 3:Nat):Int),zOp,zBk,1⟩:HEv)]).length:=by simp
         iterate 3 refine rS ?_
         refine rQ iF ?_;refine zJ<|kS<|aj ?_;refine rC ?_;refine rQ iM ?_;refine aW (aD (s:=38) aa rfl rfl rfl rfl rfl rfl rfl rfl) rfl ?_;refine aO (aQ (enc:=bY) (s:=38) (xs:=out) aa ⟨2,((x.who.toNat % 4 % 3:Nat):Int),zOp,zBk,1⟩ rfl rfl rfl rfl rfl rfl rfl rfl rfl hal rfl) rfl ?_;refine rC<|aw<|zC<|aj ?_;refine rC ?_;refine rQ iD ?_;refine rC<|aw ?_
         exact aI (i+1,out++[⟨2,((x.who.toNat % 4 % 3:Nat):Int),zOp,zBk,1⟩]) [(64,some 64),(65,some _)] ⟨hlt,h24,by rw[hfx,hst]⟩ (by show 24-(i+1)<24-i; omega) (lg ⟨zE,rfl,⟨_,rfl,AVLe.of_eq (congrArg (fun n=>AV.own _ 0 n 38 none) hl1)⟩,rfl,zE,rfl,trivial⟩ ⟨zR,zR,trivial⟩)
       | false =>
        have heX:errX y x=e0:=by rw[errX,hbad,hlo,he0]; rfl
        rw[heX]at hs0
        refine wF<|kS<|qR ?_;refine zD ?_;refine rQ (aP aa rfl rfl rfl rfl rfl hge hlp) ?_;refine zD ?_;refine rQ (bd aa rfl rfl ⟨rfl,y,hy,_,rfl,rfl⟩ rfl) ?_;refine zD ?_
        by_cases hk:y.op.kind=1
        ·have dk:decide (y.op.kind=1)=true:=dT hk
         refine rO ?_;refine rC ?_;refine rO ?_;refine rQ iB ?_;refine rO ?_;refine rC ?_;refine rQ iT<|nS ?_
         by_cases hz:e0=0
         ·have dz:decide (e0=0)=true:=dT hz
          have hst:b7 out x=out++[⟨2,((x.who.toNat % 4 % 3:Nat):Int),zOp,List.replicate 32 (blkB x.data),e0⟩]:=by rw[hs0,if_pos ⟨hk,hz⟩]
          have hl1:out.length+1=(out++[(⟨2,((x.who.toNat % 4 % 3:Nat):Int),zOp,List.replicate 32 (blkB x.data),e0⟩:HEv)]).length:=by simp
          refine wT<|aj ?_;refine rC ?_;refine rQ iB ?_;refine rQ (aq (kq x.data) rfl rfl (ak ai) (.inl rfl) (fun _=>rfl)) ?_;refine rC ?_;refine rX<|nS<|aj ?_;refine rC ?_;refine rQ iM ?_;refine aW (aD (s:=38) aa rfl rfl rfl rfl rfl rfl rfl rfl) rfl ?_;refine aO (aQ (enc:=bY) (s:=38) (xs:=out) aa ⟨2,((x.who.toNat % 4 % 3:Nat):Int),zOp,List.replicate 32 (blkB x.data),e0⟩ rfl rfl rfl rfl rfl rfl rfl rfl rfl hal rfl) rfl ?_;refine rC<|aw<|zC<|aj ?_;refine rC ?_;refine rQ iD ?_;refine rC<|aw ?_
          exact aI (i+1,out++[⟨2,((x.who.toNat % 4 % 3:Nat):Int),zOp,List.replicate 32 (blkB x.data),e0⟩]) [(64,some 64),(65,some _)] ⟨hlt,h24,by rw[hfx,hst]⟩ (by show 24-(i+1)<24-i; omega) (lg ⟨zE,rfl,⟨_,rfl,AVLe.of_eq (congrArg (fun n=>AV.own _ 0 n 38 none) hl1)⟩,rfl,zE,rfl,trivial⟩ ⟨zR,zR,trivial⟩)
         ·have dz:decide (e0=0)=false:=dF hz
          have hst:b7 out x=out++[⟨2,((x.who.toNat % 4 % 3:Nat):Int),zOp,zBk,e0⟩]:=by rw[hs0,if_neg (fun h=>hz h.2)]
          have hl1:out.length+1=(out++[(⟨2,((x.who.toNat % 4 % 3:Nat):Int),zOp,zBk,e0⟩:HEv)]).length:=by simp
          refine wF<|kS<|aj ?_;refine rC ?_;refine rQ iM ?_;refine aW (aD (s:=38) aa rfl rfl rfl rfl rfl rfl rfl rfl) rfl ?_;refine aO (aQ (enc:=bY) (s:=38) (xs:=out) aa ⟨2,((x.who.toNat % 4 % 3:Nat):Int),zOp,zBk,e0⟩ rfl rfl rfl rfl rfl rfl rfl rfl rfl hal rfl) rfl ?_;refine rC<|aw<|zC<|aj ?_;refine rC ?_;refine rQ iD ?_;refine rC<|aw ?_
          exact aI (i+1,out++[⟨2,((x.who.toNat % 4 % 3:Nat):Int),zOp,zBk,e0⟩]) [(64,some 64),(65,some _)] ⟨hlt,h24,by rw[hfx,hst]⟩ (by show 24-(i+1)<24-i; omega) (lg ⟨zE,rfl,⟨_,rfl,AVLe.of_eq (congrArg (fun n=>AV.own _ 0 n 38 none) hl1)⟩,rfl,zE,rfl,trivial⟩ ⟨zR,zR,trivial⟩)
        ·have dk:decide (y.op.kind=1)=false:=dF hk
         have hst:b7 out x=out++[⟨2,((x.who.toNat % 4 % 3:Nat):Int),zOp,zBk,e0⟩]:=by rw[hs0,if_neg (fun h=>hk h.1)]
         have hl1:out.length+1=(out++[(⟨2,((x.who.toNat % 4 % 3:Nat):Int),zOp,zBk,e0⟩:HEv)]).length:=by simp
         iterate 3 refine rS ?_
         refine rQ iF ?_;refine zJ<|kS<|aj ?_;refine rC ?_;refine rQ iM ?_;refine aW (aD (s:=38) aa rfl rfl rfl rfl rfl rfl rfl rfl) rfl ?_;refine aO (aQ (enc:=bY) (s:=38) (xs:=out) aa ⟨2,((x.who.toNat % 4 % 3:Nat):Int),zOp,zBk,e0⟩ rfl rfl rfl rfl rfl rfl rfl rfl rfl hal rfl) rfl ?_;refine rC<|aw<|zC<|aj ?_;refine rC ?_;refine rQ iD ?_;refine rC<|aw ?_
         exact aI (i+1,out++[⟨2,((x.who.toNat % 4 % 3:Nat):Int),zOp,zBk,e0⟩]) [(64,some 64),(65,some _)] ⟨hlt,h24,by rw[hfx,hst]⟩ (by show 24-(i+1)<24-i; omega) (lg ⟨zE,rfl,⟨_,rfl,AVLe.of_eq (congrArg (fun n=>AV.own _ 0 n 38 none) hl1)⟩,rfl,zE,rfl,trivial⟩ ⟨zR,zR,trivial⟩)
      | false =>
       rw[if_neg (by decide)]at hb
       have heX:errX y x=e0:=by rw[errX,hbad,he0]; rfl
       rw[heX]at hs0
       iterate 3 refine rT ?_
       refine rQ iG ?_;refine zJ<|kS<|qR ?_;refine zD ?_;refine rQ (aP aa rfl rfl rfl rfl rfl hge hlp) ?_;refine zD ?_;refine rQ (bd aa rfl rfl ⟨rfl,y,hy,_,rfl,rfl⟩ rfl) ?_;refine zD ?_
       by_cases hk:y.op.kind=1
       ·have dk:decide (y.op.kind=1)=true:=dT hk
        refine rO ?_;refine rC ?_;refine rO ?_;refine rQ iB ?_;refine rO ?_;refine rC ?_;refine rQ iT<|nS ?_
        by_cases hz:e0=0
        ·have dz:decide (e0=0)=true:=dT hz
         have hst:b7 out x=out++[⟨2,((x.who.toNat % 4 % 3:Nat):Int),zOp,List.replicate 32 (blkB x.data),e0⟩]:=by rw[hs0,if_pos ⟨hk,hz⟩]
         have hl1:out.length+1=(out++[(⟨2,((x.who.toNat % 4 % 3:Nat):Int),zOp,List.replicate 32 (blkB x.data),e0⟩:HEv)]).length:=by simp
         refine wT<|aj ?_;refine rC ?_;refine rQ iB ?_;refine rQ (aq (kq x.data) rfl rfl (ak ai) (.inl rfl) (fun _=>rfl)) ?_;refine rC ?_;refine rX<|nS<|aj ?_;refine rC ?_;refine rQ iM ?_;refine aW (aD (s:=38) aa rfl rfl rfl rfl rfl rfl rfl rfl) rfl ?_;refine aO (aQ (enc:=bY) (s:=38) (xs:=out) aa ⟨2,((x.who.toNat % 4 % 3:Nat):Int),zOp,List.replicate 32 (blkB x.data),e0⟩ rfl rfl rfl rfl rfl rfl rfl rfl rfl hal rfl) rfl ?_;refine rC<|aw<|zC<|aj ?_;refine rC ?_;refine rQ iD ?_;refine rC<|aw ?_
         exact aI (i+1,out++[⟨2,((x.who.toNat % 4 % 3:Nat):Int),zOp,List.replicate 32 (blkB x.data),e0⟩]) [(64,some 64),(65,some _)] ⟨hlt,h24,by rw[hfx,hst]⟩ (by show 24-(i+1)<24-i; omega) (lg ⟨zE,rfl,⟨_,rfl,AVLe.of_eq (congrArg (fun n=>AV.own _ 0 n 38 none) hl1)⟩,rfl,zE,rfl,trivial⟩ ⟨zR,zR,trivial⟩)
        ·have dz:decide (e0=0)=false:=dF hz
         have hst:b7 out x=out++[⟨2,((x.who.toNat % 4 % 3:Nat):Int),zOp,zBk,e0⟩]:=by rw[hs0,if_neg (fun h=>hz h.2)]
         have hl1:out.length+1=(out++[(⟨2,((x.who.toNat % 4 % 3:Nat):Int),zOp,zBk,e0⟩:HEv)]).length:=by simp
         refine wF<|kS<|aj ?_;refine rC ?_;refine rQ iM ?_;refine aW (aD (s:=38) aa rfl rfl rfl rfl rfl rfl rfl rfl) rfl ?_;refine aO (aQ (enc:=bY) (s:=38) (xs:=out) aa ⟨2,((x.who.toNat % 4 % 3:Nat):Int),zOp,zBk,e0⟩ rfl rfl rfl rfl rfl rfl rfl rfl rfl hal rfl) rfl ?_;refine rC<|aw<|zC<|aj ?_;refine rC ?_;refine rQ iD ?_;refine rC<|aw ?_
         exact aI (i+1,out++[⟨2,((x.who.toNat % 4 % 3:Nat):Int),zOp,zBk,e0⟩]) [(64,some 64),(65,some _)] ⟨hlt,h24,by rw[hfx,hst]⟩ (by show 24-(i+1)<24-i; omega) (lg ⟨zE,rfl,⟨_,rfl,AVLe.of_eq (congrArg (fun n=>AV.own _ 0 n 38 none) hl1)⟩,rfl,zE,rfl,trivial⟩ ⟨zR,zR,trivial⟩)
       ·have dk:decide (y.op.kind=1)=false:=dF hk
        have hst:b7 out x=out++[⟨2,((x.who.toNat % 4 % 3:Nat):Int),zOp,zBk,e0⟩]:=by rw[hs0,if_neg (fun h=>hk h.1)]
        have hl1:out.length+1=(out++[(⟨2,((x.who.toNat % 4 % 3:Nat):Int),zOp,zBk,e0⟩:HEv)]).length:=by simp
        iterate 3 refine rS ?_
        refine rQ iF ?_;refine zJ<|kS<|aj ?_;refine rC ?_;refine rQ iM ?_;refine aW (aD (s:=38) aa rfl rfl rfl rfl rfl rfl rfl rfl) rfl ?_;refine aO (aQ (enc:=bY) (s:=38) (xs:=out) aa ⟨2,((x.who.toNat % 4 % 3:Nat):Int),zOp,zBk,e0⟩ rfl rfl rfl rfl rfl rfl rfl rfl rfl hal rfl) rfl ?_;refine rC<|aw<|zC<|aj ?_;refine rC ?_;refine rQ iD ?_;refine rC<|aw ?_
        exact aI (i+1,out++[⟨2,((x.who.toNat % 4 % 3:Nat):Int),zOp,zBk,e0⟩]) [(64,some 64),(65,some _)] ⟨hlt,h24,by rw[hfx,hst]⟩ (by show 24-(i+1)<24-i; omega) (lg ⟨zE,rfl,⟨_,rfl,AVLe.of_eq (congrArg (fun n=>AV.own _ 0 n 38 none) hl1)⟩,rfl,zE,rfl,trivial⟩ ⟨zR,zR,trivial⟩)
   ·have d3:decide (((x.who.toNat % 4:Nat):Int)=3)=false:=dF (by omega)
    have hns:¬(x.who.toNat % 4=3∧x.what.toNat≤20):=by omega
    iterate 3 refine rS ?_
    refine rQ iF ?_;refine zJ<|kS<|sR ?_;refine rC ?_;refine rQ (cm (a:=x.who.toNat % 4) (b:=3) aa rfl rfl rfl (by decide)) ?_;refine rC<|nR ?_;refine zD ?_;refine rQ (aq (tC out ((x.who.toNat % 4 % 3:Nat):Int) hpl) rfl rfl (p4 rfl (ak ai)) (.inr (cN.sc _)) (fun _=>rfl)) ?_;refine rC<|zW ?_;refine zD<|nS ?_
    by_cases hp:pend out ((x.who.toNat % 4 % 3:Nat):Int)<0
    ·have dp:decide (pend out ((x.who.toNat % 4 % 3:Nat):Int)<0)=true:=dT hp
     have hst:b7 out x=out++[⟨1,((x.who.toNat % 4 % 3:Nat):Int),opX x,zBk,0⟩]:=by rw[b7,if_neg hns,if_pos hp]
     have hl1:out.length+1=(out++[(⟨1,((x.who.toNat % 4 % 3:Nat):Int),opX x,zBk,0⟩:HEv)]).length:=by simp
     refine wT<|sR ?_;refine zD ?_;refine rQ iM ?_;refine rQ (aq (wH x) rfl rfl (ak ai) (.inl rfl) (fun _=>rfl)) ?_;refine rQ iS ?_;refine aW (aD (s:=38) aa rfl rfl rfl rfl rfl rfl rfl rfl) rfl ?_;refine aO (aQ (enc:=bY) (s:=38) (xs:=out) aa ⟨1,((x.who.toNat % 4 % 3:Nat):Int),opX x,zBk,0⟩ rfl rfl rfl rfl rfl rfl rfl rfl rfl hal rfl) rfl ?_;refine rC<|nS<|bV<|db<|dj<|aG<|aj ?_;refine rC ?_;refine rQ iD ?_;refine rC<|aw ?_
     exact aI (i+1,out++[⟨1,((x.who.toNat % 4 % 3:Nat):Int),opX x,zBk,0⟩]) [(64,some 64),(65,some _)] ⟨hlt,h24,by rw[hfx,hst]⟩ (by show 24-(i+1)<24-i; omega) (lg ⟨zE,rfl,⟨_,rfl,AVLe.of_eq (congrArg (fun n=>AV.own _ 0 n 38 none) hl1)⟩,rfl,zE,rfl,trivial⟩ ⟨zR,zR,trivial⟩)
    ·have dp:decide (pend out ((x.who.toNat % 4 % 3:Nat):Int)<0)=false:=dF hp
     have hpi:=tD out ((x.who.toNat % 4 % 3:Nat):Int)
     have hge:0≤pend out ((x.who.toNat % 4 % 3:Nat):Int):=by omega
     have hlp:pend out ((x.who.toNat % 4 % 3:Nat):Int)<(out.length:Int):=hpi.2
     obtain⟨y,hy⟩:∃y,out[(pend out ((x.who.toNat % 4 % 3:Nat):Int)).toNat]?=some y:=⟨_,List.getElem?_eq_getElem (by omega)⟩
     obtain⟨e0,he0⟩:∃e0,kU[x.what.toNat % 8]?=some e0:=⟨_,List.getElem?_eq_getElem (Nat.mod_lt _ (by decide))⟩
     have hE:kU[(((x.what.toNat % 8:Nat):Int)).toNat]?=some e0:=by rw[Int.toNat_natCast]; exact he0
     have hs0:b7 out x=out++[⟨2,((x.who.toNat % 4 % 3:Nat):Int),zOp,if y.op.kind=1∧errX y x=0 then List.replicate 32 (blkB x.data) else zBk,errX y x⟩]:=by rw[b7,if_neg hns,if_neg hp,hy]
     have hb:=pG y.op 3
     obtain⟨bad,hbad⟩:∃b,badO y.op 3=b:=⟨_,rfl⟩
     obtain⟨lo,hlo⟩:∃b,decide (x.what.toNat<200)=b:=⟨_,rfl⟩
     have hlo':decide ((x.what.toNat:Int)<200)=lo:=by rw[←hlo]; exact decide_eq_decide.2 (by omega)
     rw[hbad]at hb
     unfold r01 at hb
     refine wF<|kS<|sR ?_;refine rC ?_;refine rQ (au.frozen (aD (s:=1) aa rfl rfl rfl rfl rfl rfl rfl rfl) (Frz.litsN (enc:=i6) [0,0,0,0,0,1,8,9] rfl (fun _ _=>rfl))) ?_;refine rC ?_;refine rQ iB ?_;refine rQ (cm (a:=x.what.toNat) (b:=8) aa rfl rfl rfl (by decide)) ?_;refine rQ (ao (xs:=kU) aa rfl rfl rfl rfl rfl (by omega) hE) ?_;refine rQ iL ?_;refine rQ (au.val_le (bp aa rfl rfl rfl rfl) (se 2 ((x.who.toNat % 4 % 3:Nat):Int) e0) rfl) ?_;refine rN ?_;refine rW<|zW ?_;refine zD ?_;refine rQ (aP aa rfl rfl rfl rfl rfl hge hlp) ?_;refine rC ?_;refine rQ (bd aa rfl rfl ⟨rfl,y,hy,_,rfl,rfl⟩ rfl) ?_;refine rQ (aq hb rfl rfl (ak (ak ai)) (.inl rfl) (fun _=>rfl)) ?_;refine zD ?_
     cases bad with
     | true =>
      rw[if_pos rfl]at hb
      refine rP ?_;refine rC ?_;refine rP ?_;refine rQ iB ?_;refine rP ?_;refine rC ?_;refine rQ iU<|nS ?_
      cases lo with
      | true =>
       have heX:errX y x=1:=by rw[errX,hbad,hlo]; rfl
       rw[heX]at hs0
       refine wT<|aj ?_;refine rC ?_;refine rX<|zW ?_;refine zD ?_;refine rQ (aP aa rfl rfl rfl rfl rfl hge hlp) ?_;refine zD ?_;refine rQ (bd aa rfl rfl ⟨rfl,y,hy,_,rfl,rfl⟩ rfl) ?_;refine zD ?_
       by_cases hk:y.op.kind=1
       ·have dk:decide (y.op.kind=1)=true:=dT hk
        have hst:b7 out x=out++[⟨2,((x.who.toNat % 4 % 3:Nat):Int),zOp,zBk,1⟩]:=by rw[hs0,if_neg (by omega)]
        have hl1:out.length+1=(out++[(⟨2,((x.who.toNat % 4 % 3:Nat):Int),zOp,zBk,1⟩:HEv)]).length:=by simp
        refine rO ?_;refine rC ?_;refine rO ?_;refine rQ iB ?_;refine rO ?_;refine rC ?_;refine rQ iT ?_;refine zJ<|kS<|aj ?_;refine rC ?_;refine rQ iM ?_;refine aW (aD (s:=38) aa rfl rfl rfl rfl rfl rfl rfl rfl) rfl ?_;refine aO (aQ (enc:=bY) (s:=38) (xs:=out) aa ⟨2,((x.who.toNat % 4 % 3:Nat):Int),zOp,zBk,1⟩ rfl rfl rfl rfl rfl rfl rfl rfl rfl hal rfl) rfl ?_;refine rC<|aw<|zC<|aj ?_;refine rC ?_;refine rQ iD ?_;refine rC<|aw ?_
        exact aI (i+1,out++[⟨2,((x.who.toNat % 4 % 3:Nat):Int),zOp,zBk,1⟩]) [(64,some 64),(65,some _)] ⟨hlt,h24,by rw[hfx,hst]⟩ (by show 24-(i+1)<24-i; omega) (lg ⟨zE,rfl,⟨_,rfl,AVLe.of_eq (congrArg (fun n=>AV.own _ 0 n 38 none) hl1)⟩,rfl,zE,rfl,trivial⟩ ⟨zR,zR,trivial⟩)
       ·have dk:decide (y.op.kind=1)=false:=dF hk
        have hst:b7 out x=out++[⟨2,((x.who.toNat % 4 % 3:Nat):Int),zOp,zBk,1⟩]:=by rw[hs0,if_neg (fun h=>hk h.1)]
        have hl1:out.length+1=(out++[(⟨2,((x.who.toNat % 4 % 3:Nat):Int),zOp,zBk,1⟩:HEv)]).length:=by simp
        iterate 3 refine rS ?_
        refine rQ iF ?_;refine zJ<|kS<|aj ?_;refine rC ?_;refine rQ iM ?_;refine aW (aD (s:=38) aa rfl rfl rfl rfl rfl rfl rfl rfl) rfl ?_;refine aO (aQ (enc:=bY) (s:=38) (xs:=out) aa ⟨2,((x.who.toNat % 4 % 3:Nat):Int),zOp,zBk,1⟩ rfl rfl rfl rfl rfl rfl rfl rfl rfl hal rfl) rfl ?_;refine rC<|aw<|zC<|aj ?_;refine rC ?_;refine rQ iD ?_;refine rC<|aw ?_
        exact aI (i+1,out++[⟨2,((x.who.toNat % 4 % 3:Nat):Int),zOp,zBk,1⟩]) [(64,some 64),(65,some _)] ⟨hlt,h24,by rw[hfx,hst]⟩ (by show 24-(i+1)<24-i; omega) (lg ⟨zE,rfl,⟨_,rfl,AVLe.of_eq (congrArg (fun n=>AV.own _ 0 n 38 none) hl1)⟩,rfl,zE,rfl,trivial⟩ ⟨zR,zR,trivial⟩)
      | false =>
       have heX:errX y x=e0:=by rw[errX,hbad,hlo,he0]; rfl
       rw[heX]at hs0
       refine wF<|kS<|qR ?_;refine zD ?_;refine rQ (aP aa rfl rfl rfl rfl rfl hge hlp) ?_;refine zD ?_;refine rQ (bd aa rfl rfl ⟨rfl,y,hy,_,rfl,rfl⟩ rfl) ?_;refine zD ?_
       by_cases hk:y.op.kind=1
       ·have dk:decide (y.op.kind=1)=true:=dT hk
        refine rO ?_;refine rC ?_;refine rO ?_;refine rQ iB ?_;refine rO ?_;refine rC ?_;refine rQ iT<|nS ?_
        by_cases hz:e0=0
        ·have dz:decide (e0=0)=true:=dT hz
         have hst:b7 out x=out++[⟨2,((x.who.toNat % 4 % 3:Nat):Int),zOp,List.replicate 32 (blkB x.data),e0⟩]:=by rw[hs0,if_pos ⟨hk,hz⟩]
         have hl1:out.length+1=(out++[(⟨2,((x.who.toNat % 4 % 3:Nat):Int),zOp,List.replicate 32 (blkB x.data),e0⟩:HEv)]).length:=by simp
         refine wT<|aj ?_;refine rC ?_;refine rQ iB ?_;refine rQ (aq (kq x.data) rfl rfl (ak ai) (.inl rfl) (fun _=>rfl)) ?_;refine rC ?_;refine rX<|nS<|aj ?_;refine rC ?_;refine rQ iM ?_;refine aW (aD (s:=38) aa rfl rfl rfl rfl rfl rfl rfl rfl) rfl ?_;refine aO (aQ (enc:=bY) (s:=38) (xs:=out) aa ⟨2,((x.who.toNat % 4 % 3:Nat):Int),zOp,List.replicate 32 (blkB x.data),e0⟩ rfl rfl rfl rfl rfl rfl rfl rfl rfl hal rfl) rfl ?_;refine rC<|aw<|zC<|aj ?_;refine rC ?_;refine rQ iD ?_;refine rC<|aw ?_
         exact aI (i+1,out++[⟨2,((x.who.toNat % 4 % 3:Nat):Int),zOp,List.replicate 32 (blkB x.data),e0⟩]) [(64,some 64),(65,some _)] ⟨hlt,h24,by rw[hfx,hst]⟩ (by show 24-(i+1)<24-i; omega) (lg ⟨zE,rfl,⟨_,rfl,AVLe.of_eq (congrArg (fun n=>AV.own _ 0 n 38 none) hl1)⟩,rfl,zE,rfl,trivial⟩ ⟨zR,zR,trivial⟩)
        ·have dz:decide (e0=0)=false:=dF hz
         have hst:b7 out x=out++[⟨2,((x.who.toNat % 4 % 3:Nat):Int),zOp,zBk,e0⟩]:=by rw[hs0,if_neg (fun h=>hz h.2)]
         have hl1:out.length+1=(out++[(⟨2,((x.who.toNat % 4 % 3:Nat):Int),zOp,zBk,e0⟩:HEv)]).length:=by simp
         refine wF<|kS<|aj ?_;refine rC ?_;refine rQ iM ?_;refine aW (aD (s:=38) aa rfl rfl rfl rfl rfl rfl rfl rfl) rfl ?_;refine aO (aQ (enc:=bY) (s:=38) (xs:=out) aa ⟨2,((x.who.toNat % 4 % 3:Nat):Int),zOp,zBk,e0⟩ rfl rfl rfl rfl rfl rfl rfl rfl rfl hal rfl) rfl ?_;refine rC<|aw<|zC<|aj ?_;refine rC ?_;refine rQ iD ?_;refine rC<|aw ?_
         exact aI (i+1,out++[⟨2,((x.who.toNat % 4 % 3:Nat):Int),zOp,zBk,e0⟩]) [(64,some 64),(65,some _)] ⟨hlt,h24,by rw[hfx,hst]⟩ (by show 24-(i+1)<24-i; omega) (lg ⟨zE,rfl,⟨_,rfl,AVLe.of_eq (congrArg (fun n=>AV.own _ 0 n 38 none) hl1)⟩,rfl,zE,rfl,trivial⟩ ⟨zR,zR,trivial⟩)
       ·have dk:decide (y.op.kind=1)=false:=dF hk
        have hst:b7 out x=out++[⟨2,((x.who.toNat % 4 % 3:Nat):Int),zOp,zBk,e0⟩]:=by rw[hs0,if_neg (fun h=>hk h.1)]
        have hl1:out.length+1=(out++[(⟨2,((x.who.toNat % 4 % 3:Nat):Int),zOp,zBk,e0⟩:HEv)]).length:=by simp
        iterate 3 refine rS ?_
        refine rQ iF ?_;refine zJ<|kS<|aj ?_;refine rC ?_;refine rQ iM ?_;refine aW (aD (s:=38) aa rfl rfl rfl rfl rfl rfl rfl rfl) rfl ?_;refine aO (aQ (enc:=bY) (s:=38) (xs:=out) aa ⟨2,((x.who.toNat % 4 % 3:Nat):Int),zOp,zBk,e0⟩ rfl rfl rfl rfl rfl rfl rfl rfl rfl hal rfl) rfl ?_;refine rC<|aw<|zC<|aj ?_;refine rC ?_;refine rQ iD ?_;refine rC<|aw ?_
        exact aI (i+1,out++[⟨2,((x.who.toNat % 4 % 3:Nat):Int),zOp,zBk,e0⟩]) [(64,some 64),(65,some _)] ⟨hlt,h24,by rw[hfx,hst]⟩ (by show 24-(i+1)<24-i; omega) (lg ⟨zE,rfl,⟨_,rfl,AVLe.of_eq (congrArg (fun n=>AV.own _ 0 n 38 none) hl1)⟩,rfl,zE,rfl,trivial⟩ ⟨zR,zR,trivial⟩)
     | false =>
      rw[if_neg (by decide)]at hb
      have heX:errX y x=e0:=by rw[errX,hbad,he0]; rfl
      rw[heX]at hs0
      iterate 3 refine rT ?_
      refine rQ iG ?_;refine zJ<|kS<|qR ?_;refine zD ?_;refine rQ (aP aa rfl rfl rfl rfl rfl hge hlp) ?_;refine zD ?_;refine rQ (bd aa rfl rfl ⟨rfl,y,hy,_,rfl,rfl⟩ rfl) ?_;refine zD ?_
      by_cases hk:y.op.kind=1
      ·have dk:decide (y.op.kind=1)=true:=dT hk
       refine rO ?_;refine rC ?_;refine rO ?_;refine rQ iB ?_;refine rO ?_;refine rC ?_;refine rQ iT<|nS ?_
       by_cases hz:e0=0
       ·have dz:decide (e0=0)=true:=dT hz
        have hst:b7 out x=out++[⟨2,((x.who.toNat % 4 % 3:Nat):Int),zOp,List.replicate 32 (blkB x.data),e0⟩]:=by rw[hs0,if_pos ⟨hk,hz⟩]
        have hl1:out.length+1=(out++[(⟨2,((x.who.toNat % 4 % 3:Nat):Int),zOp,List.replicate 32 (blkB x.data),e0⟩:HEv)]).length:=by simp
        refine wT<|aj ?_;refine rC ?_;refine rQ iB ?_;refine rQ (aq (kq x.data) rfl rfl (ak ai) (.inl rfl) (fun _=>rfl)) ?_;refine rC ?_;refine rX<|nS<|aj ?_;refine rC ?_;refine rQ iM ?_;refine aW (aD (s:=38) aa rfl rfl rfl rfl rfl rfl rfl rfl) rfl ?_;refine aO (aQ (enc:=bY) (s:=38) (xs:=out) aa ⟨2,((x.who.toNat % 4 % 3:Nat):Int),zOp,List.replicate 32 (blkB x.data),e0⟩ rfl rfl rfl rfl rfl rfl rfl rfl rfl hal rfl) rfl ?_;refine rC<|aw<|zC<|aj ?_;refine rC ?_;refine rQ iD ?_;refine rC<|aw ?_
        exact aI (i+1,out++[⟨2,((x.who.toNat % 4 % 3:Nat):Int),zOp,List.replicate 32 (blkB x.data),e0⟩]) [(64,some 64),(65,some _)] ⟨hlt,h24,by rw[hfx,hst]⟩ (by show 24-(i+1)<24-i; omega) (lg ⟨zE,rfl,⟨_,rfl,AVLe.of_eq (congrArg (fun n=>AV.own _ 0 n 38 none) hl1)⟩,rfl,zE,rfl,trivial⟩ ⟨zR,zR,trivial⟩)
       ·have dz:decide (e0=0)=false:=dF hz
        have hst:b7 out x=out++[⟨2,((x.who.toNat % 4 % 3:Nat):Int),zOp,zBk,e0⟩]:=by rw[hs0,if_neg (fun h=>hz h.2)]
        have hl1:out.length+1=(out++[(⟨2,((x.who.toNat % 4 % 3:Nat):Int),zOp,zBk,e0⟩:HEv)]).length:=by simp
        refine wF<|kS<|aj ?_;refine rC ?_;refine rQ iM ?_;refine aW (aD (s:=38) aa rfl rfl rfl rfl rfl rfl rfl rfl) rfl ?_;refine aO (aQ (enc:=bY) (s:=38) (xs:=out) aa ⟨2,((x.who.toNat % 4 % 3:Nat):Int),zOp,zBk,e0⟩ rfl rfl rfl rfl rfl rfl rfl rfl rfl hal rfl) rfl ?_;refine rC<|aw<|zC<|aj ?_;refine rC ?_;refine rQ iD ?_;refine rC<|aw ?_
        exact aI (i+1,out++[⟨2,((x.who.toNat % 4 % 3:Nat):Int),zOp,zBk,e0⟩]) [(64,some 64),(65,some _)] ⟨hlt,h24,by rw[hfx,hst]⟩ (by show 24-(i+1)<24-i; omega) (lg ⟨zE,rfl,⟨_,rfl,AVLe.of_eq (congrArg (fun n=>AV.own _ 0 n 38 none) hl1)⟩,rfl,zE,rfl,trivial⟩ ⟨zR,zR,trivial⟩)
      ·have dk:decide (y.op.kind=1)=false:=dF hk
       have hst:b7 out x=out++[⟨2,((x.who.toNat % 4 % 3:Nat):Int),zOp,zBk,e0⟩]:=by rw[hs0,if_neg (fun h=>hk h.1)]
       have hl1:out.length+1=(out++[(⟨2,((x.who.toNat % 4 % 3:Nat):Int),zOp,zBk,e0⟩:HEv)]).length:=by simp
       iterate 3 refine rS ?_
       refine rQ iF ?_;refine zJ<|kS<|aj ?_;refine rC ?_;refine rQ iM ?_;refine aW (aD (s:=38) aa rfl rfl rfl rfl rfl rfl rfl rfl) rfl ?_;refine aO (aQ (enc:=bY) (s:=38) (xs:=out) aa ⟨2,((x.who.toNat % 4 % 3:Nat):Int),zOp,zBk,e0⟩ rfl rfl rfl rfl rfl rfl rfl rfl rfl hal rfl) rfl ?_;refine rC<|aw<|zC<|aj ?_;refine rC ?_;refine rQ iD ?_;refine rC<|aw ?_
       exact aI (i+1,out++[⟨2,((x.who.toNat % 4 % 3:Nat):Int),zOp,zBk,e0⟩]) [(64,some 64),(65,some _)] ⟨hlt,h24,by rw[hfx,hst]⟩ (by show 24-(i+1)<24-i; omega) (lg ⟨zE,rfl,⟨_,rfl,AVLe.of_eq (congrArg (fun n=>AV.own _ 0 n 38 none) hl1)⟩,rfl,zE,rfl,trivial⟩ ⟨zR,zR,trivial⟩)
  ·have c2:decide ((i:Int)<24)=false:=dF (by omega)
   have hE:out=hOf l:=by rw[hout,hOf,show i=24 by omega]
   rw[←hE]
   refine wF<|zX<|sR ?_;refine zD<|zT ?_
   exact⟨trivial,[(64,some _)],lg zV ⟨zR,trivial⟩⟩
 ·have c1:decide ((i:Int)<(l.length:Int))=false:=dF (by omega)
  have hE:out=hOf l:=by rw[hout,hOf,List.take_of_length_le (by omega),List.take_of_length_le (by omega)]
  rw[←hE]
  iterate 2 refine rS ?_
  refine rQ iF ?_;refine zJ<|zX<|sR ?_;refine zD<|zT ?_
  exact⟨trivial,[(64,some _)],lg zV ⟨zR,trivial⟩⟩
end Go.Proofs.Ytkehohfgbblokaa
namespace Go.Proofs.Ytkehohfgbblokaa
open Go.Eng Go.Plain
set_option maxHeartbeats 32000000
set_option maxRecDepth 20000
set_option linter.unusedVariables false
theorem yu {e:Int} (h:kn4 e=true):e=0∨e=1∨e=8∨e=9:=by
 simp only[kn4,Bool.or_eq_true,decide_eq_true_eq]at h
 omega
theorem xh {rd:RdS} {x:HEv} {l:List HEv} {i:Nat}:goS rd (x::l) i=if (bW rd x).2 then goS (bW rd x).1 l (i+1) else ((bW rd x).1,(i:Int)):=by
 have:=kP (s:=rd) (h:=List.replicate i x++x::l) (i:=i) (x:=x) (by simp)
 rw[List.drop_left' (by simp)]at this
 rw[this,show List.replicate i x++x::l=(List.replicate i x++[x])++l by simp,List.drop_left' (by simp)]
theorem zZ (x:PQ):(qOf x).Ok:=by
 have h1:=x.kind.toNat_lt
 have h2:=x.index.toNat_lt
 have h3:=x.data.toNat_lt
 unfold qOf
 split
 ·exact⟨⟨by show (0:Int)≤1; decide,by show (1:Int)≤(255:Int); decide⟩,⟨by show-9223372036854775808≤((x.index.toNat % 22:Nat):Int)-1; omega,by show ((x.index.toNat % 22:Nat):Int)-1≤9223372036854775807; omega⟩⟩
 split
 ·exact⟨⟨by show (0:Int)≤2; decide,by show (2:Int)≤(255:Int); decide⟩,⟨by show-9223372036854775808≤((x.index.toNat % 22:Nat):Int)-1; omega,by show ((x.index.toNat % 22:Nat):Int)-1≤9223372036854775807; omega⟩⟩
 split
 ·exact⟨⟨by show (0:Int)≤((x.data.toNat % 4:Nat):Int); omega,by show ((x.data.toNat % 4:Nat):Int)≤255; omega⟩,⟨by show-9223372036854775808≤(x.index.toNat:Int)-100; omega,by show (x.index.toNat:Int)-100≤9223372036854775807; omega⟩⟩
 ·exact⟨⟨by decide,by decide⟩,⟨by decide,by decide⟩⟩
theorem wv (x:PQ):(qOf x).data.length≤32:=by
 unfold qOf
 split
 ·simp
 split
 ·simp
 split
 ·simp; omega
 ·simp
theorem pw (s:RdS) (x:HEv):(bW s x).1.all.length≤s.all.length+1:=by
 unfold bW
 simp only
 split
 ·split
  ·simp
  ·simp
 ·split
  ·split
   ·simp only
    cases opOf s x <;> simp
   ·simp
  ·split <;> simp
theorem l9:∀(h:List HEv) (s:RdS) (i:Nat),(goS s h i).1.all.length≤s.all.length+h.length
 | [],s,i=>by simp[goS]
 | x::h,s,i=>by
  rw[xh]
  have h1:=pw s x
  split
  ·have:=l9 h (bW s x).1 (i+1)
   simp only[List.length_cons]
   omega
  ·simp only[List.length_cons]
   omega
theorem eY (h:List HEv):(rdH h).all.length≤h.length:=by
 unfold rdH
 split
 ·simp[rd0]
 ·have:=l9 h rd0 0
  simpa[rd0]using this
def eK (h:List HEv):Prop:=∀i x,h[i]?=some x→fitB (h.take i) x=true
theorem tg:eK []:=fun i x h=>by simp at h
theorem eK.snoc {h:List HEv} {x:HEv} (H:eK h) (hx:fitB h x=true):eK (h++[x]):=by
 intro i y hy
 by_cases hi:i<h.length
 ·rw[List.getElem?_append_left hi]at hy
  rw[List.take_append_of_le_length (by omega)]
  exact H i y hy
 ·have hlt:=(List.getElem?_eq_some_iff.1 hy).1
  have he:i=h.length:=by simp at hlt; omega
  subst he
  rw[List.getElem?_append_right (by omega),Nat.sub_self]at hy
  simp at hy
  subst hy
  rw[List.take_left']
  ·exact hx
  ·rfl
theorem qt {h:List HEv} (H:eK h):∀(n i:Nat),oA h n i=(0,0)
 | 0,i=>rfl
 | n+1,i=>by
  rw[oA]
  cases hx:h[i]? with
  | none=>rfl
  | some x =>
   simp only
   rw[H i x hx,if_pos rfl]
   exact qt H n (i+1)
theorem ug {h:List HEv} (H:eK h) (hl:h.length≤8192):chkH h=(0,0):=by
 rw[xD,rchk,if_neg (by omega)]
 exact qt H _ _
theorem xo:∀e∈kU,kn4 e=true:=by decide
theorem yF (y:HEv) (x:XE):kn4 (errX y x)=true:=by
 unfold errX
 split
 ·rfl
 ·obtain⟨e,he⟩:∃e,kU[x.what.toNat % 8]?=some e:=⟨_,List.getElem?_eq_getElem (Nat.mod_lt _ (by decide))⟩
  rw[he]
  exact xo e (List.mem_of_getElem? he)
theorem wM (x:XE):(opX x).data.length≤64:=by
 unfold opX
 split
 ·simp
 split
 ·simp
 split
 ·simp
 ·have:=wv ⟨8,x.data,x.what⟩; omega
theorem z7 (x:XE):(opX x).Ok:=by
 have h2:=x.data.toNat_lt
 unfold opX
 split
 ·exact⟨⟨by show (0:Int)≤1; decide,by show (1:Int)≤(255:Int); decide⟩,⟨by show-9223372036854775808≤((x.data.toNat/4 % 3:Nat):Int); omega,by show ((x.data.toNat/4 % 3:Nat):Int)≤9223372036854775807; omega⟩⟩
 split
 ·exact⟨⟨by show (0:Int)≤2; decide,by show (2:Int)≤(255:Int); decide⟩,⟨by show-9223372036854775808≤((x.data.toNat/4 % 3:Nat):Int); omega,by show ((x.data.toNat/4 % 3:Nat):Int)≤9223372036854775807; omega⟩⟩
 split
 ·exact⟨⟨by decide,by decide⟩,⟨by decide,by decide⟩⟩
 ·exact zZ _
theorem zop_ok':zOp.Ok:=⟨by decide,by decide⟩
theorem uE {out:List HEv} (x:XE) (H:eK out) (hok:∀y∈out,y.Ok):eK (b7 out x)∧∀y∈b7 out x,y.Ok:=by
 have app:∀(e:HEv),fitB out e=true→e.Ok→eK (out++[e])∧∀y∈out++[e],y.Ok:=fun e h1 h2=>⟨H.snoc h1,fun y hy=>by
  rcases List.mem_append.1 hy with hy | hy
  ·exact hok y hy
  ·rw[List.mem_singleton.1 hy]; exact h2⟩
 unfold b7
 split
 ·exact app _ rfl ⟨show (0:Int)≤3∧(3:Int)≤255 by decide,show (-9223372036854775808:Int)≤0∧(0:Int)≤9223372036854775807 by decide,zop_ok',rfl,show (-9223372036854775808:Int)≤0∧(0:Int)≤9223372036854775807 by decide⟩
 ·split
  ·rename_i hp
   refine app _ ?_ ⟨show (0:Int)≤1∧(1:Int)≤255 by decide,show (-9223372036854775808:Int)≤((x.who.toNat % 4 % 3:Nat):Int)∧((x.who.toNat % 4 % 3:Nat):Int)≤9223372036854775807 by omega,z7 x,rfl,show (-9223372036854775808:Int)≤0∧(0:Int)≤9223372036854775807 by decide⟩
   rw[fitB,if_pos rfl,fit1]
   simp only[Bool.and_eq_true,decide_eq_true_eq]
   exact⟨⟨⟨⟨⟨by omega,by omega⟩,hp⟩,wM x⟩,trivial⟩,trivial⟩
  ·rename_i hp
   split
   ·exact⟨H,hok⟩
   ·rename_i y hy
    have hk:=yF y x
    have hkr:=yu hk
    refine app _ ?_ ⟨show (0:Int)≤2∧(2:Int)≤255 by decide,show (-9223372036854775808:Int)≤((x.who.toNat % 4 % 3:Nat):Int)∧((x.who.toNat % 4 % 3:Nat):Int)≤9223372036854775807 by omega,zop_ok',?_,?_⟩
    ·rw[fitB,if_neg (show ¬(2:Int)=1 by decide),if_pos rfl,fit2]
     simp only[Bool.and_eq_true,Bool.or_eq_true,decide_eq_true_eq,Bool.not_eq_true',decide_eq_false_iff_not]
     refine⟨⟨⟨⟨⟨by omega,by omega⟩,hp⟩,trivial⟩,hk⟩,?_⟩
     rw[hy]
     simp only[Bool.and_eq_true,decide_eq_true_eq]
     by_cases hc:y.op.kind=1∧errX y x=0
     ·exact .inl hc
     ·exact .inr (by rw[if_neg hc])
    ·show (if y.op.kind=1∧errX y x=0 then List.replicate 32 (blkB x.data) else zBk).length=32
     split
     ·simp
     ·rfl
    ·show-9223372036854775808≤errX y x∧errX y x≤9223372036854775807
     omega
theorem oW:∀(l:List XE) (out:List HEv),eK out→(∀y∈out,y.Ok)→eK (l.foldl b7 out)∧∀y∈l.foldl b7 out,y.Ok
 | [],out,H,hok=>⟨H,hok⟩
 | x::l,out,H,hok=>by
  obtain⟨h1,h2⟩:=uE x H hok
  exact oW l _ h1 h2
theorem tS (l:List XE):eK (hOf l):=(oW _ [] tg (fun y hy=>by cases hy)).1
theorem yA (l:List XE):(hOf l).length≤24:=by
 have:=jK (l.take 24) []
 rw[List.length_take]at this
 unfold hOf
 simp at this
 omega
theorem tT (l:List XE):chkH (hOf l)=(0,0):=ug (tS l) (by have:=yA l; omega)
end Go.Proofs.Ytkehohfgbblokaa
namespace Go.Proofs.Ytkehohfgbblokaa
open Go.Eng Go.Plain
set_option maxHeartbeats 32000000
set_option maxRecDepth 20000
theorem wJ (h:List HEv):(opsH h).length≤h.length:=by
 unfold opsH
 split
 ·exact eY h
 ·exact Nat.zero_le _
theorem pP (h:List HEv) (b:Int):(lH h b).length≤h.length:=by
 unfold lH opL
 split
 ·exact wJ h
 ·exact Nat.zero_le _
theorem POk.zle {l:List HOp} {e:Nat} {p:Prep} (P:POk l e p) {x:LSt} (S:SOk p e x):(zOf p x.era).length≤8192:=by
 obtain⟨e0,e1⟩:=S.era
 obtain⟨n,hn⟩:∃n:Nat,x.era=n:=⟨x.era.toNat,by omega⟩
 rw[hn]
 exact P.zl _ (P.zm (by omega))
theorem gn.zle {l:List HOp} {b:Int} {e:Nat} {p:Prep} {ks:List Int} {kv:List (List UInt8)} (F:gn l b e p ks kv) {x:LSt} (S:SOk p e x):(zOf p x.era).length≤l.length:=by
 obtain⟨e0,e1⟩:=S.era
 obtain⟨n,hn⟩:∃n:Nat,x.era=n:=⟨x.era.toNat,by omega⟩
 rw[hn,zOf,Int.toNat_natCast,F.opk n (by omega),Option.getD_some,fm,mayI]
 exact fF _ l 0
theorem wa (h:List HEv) (b fuel:Int) (hh:h.length≤8192) (Inv:Nat→QS→List (List aM)→Prop)
  (hI0:opE h b=0→Inv 0 (addS ([],[]) (dG (pH h b))).1 []) (hIs:∀i q sp x,opE h b=0→POk (lH h b) (aU h) (pH h b)→0≤fuel→Inv i q sp→q.2[i]?=some x→(q.2.length:Int)≤fuel→Inv (i+1) (cF (pH h b) (lH h b) (aU h) x q).1 (sp++[(cF (pH h b) (lH h b) (aU h) x q).2])) (hIb:∀i q sp,0≤fuel→Inv i q sp→q.2.length+8200≤1048576)
  (htot:∀r,opE h b=0→0≤fuel→fuel≤1048576→ky h b fuel=some r→r.1.2.length*(h.length+1)+1≤67108864):n4 h b fuel:=by
 have hal:(rdH h).all.length≤8192:=Nat.le_trans (eY h) hh
 have hll:(lH h b).length≤8192:=Nat.le_trans (pP h b) hh
 obtain⟨ks,kv,F⟩:=fp (lH h b) b (aU h)
 have P:=F.ok hll
 refine⟨hh,hal,fun hE h0 h1=>?_,fun _=>⟨ks,kv,F⟩,fun _=>hll,fun r hE h0 h1 hr=>?_⟩
 ·exact uI h b fuel hh hal hE h0 h1 _ rfl _ rfl _ rfl P (fun o _ hm hk=>(gZ hm).2.1 hk) Inv (hI0 hE) (fun i q sp x=>hIs i q sp x hE P h0) (fun i q sp=>hIb i q sp h0)
 ·obtain⟨q,sp⟩:=r
  obtain⟨I,hfu⟩:=jw P (fv h) hr
  have h2:=I.tot (M:=h.length) fun x hx=>Nat.le_trans (F.zle (I.ok.st x hx)) (pP h b)
  have h3:=htot _ hE h0 h1 hr
  simp only at h3 ⊢
  omega
theorem lA (h:List HEv) (b fuel:Int) (hh:h.length≤8192) (hf:fuel≤1000000∨1048576<fuel∨opE h b≠0) (ht:fuel≤1000000→fuel.toNat*(h.length+1)+1≤67108864):n4 h b fuel:=by
 rcases hf with hf | hf
 ·refine wa h b fuel hh (fun i q sp=>(∀y∈q.2,SOk (pH h b) (aU h) y)∧q.2.length≤fuel.toNat+8194) (fun hE=>⟨(y4 (fv h)).ok.st,?_⟩) (fun i q sp x hE P h0 hI hx hle=>?_) (fun i q sp h0 hI=>?_) (fun r hE h0 _ hr=>?_)
  ·have:=(lq ([],[]) (dG (pH h b))).2
   simp only[List.length_nil]at this
   omega
  ·obtain⟨h1,h2⟩:=hI
   have hxm:=List.mem_of_getElem? hx
   have h3:=(oP (pH h b) (lH h b) (aU h) x q).2
   have h4:=P.zle (h1 x hxm)
   exact⟨qG P (h1 x hxm) h1,by omega⟩
  ·have:=hI.2; omega
  ·obtain⟨ks,kv,F⟩:=fp (lH h b) b (aU h)
   have P:=F.ok (Nat.le_trans (pP h b) hh)
   obtain⟨q,sp⟩:=r
   obtain⟨I,hfu⟩:=jw P (fv h) hr
   have h1:=ht hf
   have h2:q.2.length≤fuel.toNat:=by omega
   have h3:=Nat.mul_le_mul_right (h.length+1) h2
   simp only
   omega
 ·have hal:(rdH h).all.length≤8192:=Nat.le_trans (eY h) hh
  have hll:(lH h b).length≤8192:=Nat.le_trans (pP h b) hh
  obtain⟨ks,kv,F⟩:=fp (lH h b) b (aU h)
  have P:=F.ok hll
  refine⟨hh,hal,fun hE h0 h1=>?_,fun _=>⟨ks,kv,F⟩,fun _=>hll,fun r hE h0 h1 hr=>?_⟩
  ·rcases hf with hf | hf
   ·omega
   ·exact absurd hE hf
  ·rcases hf with hf | hf
   ·omega
   ·exact absurd hE hf
end Go.Proofs.Ytkehohfgbblokaa
namespace Go.Eng
open Go.RowKit
section
variable {P : Program} {T : Tab} {env : Env} {h : Upds} {n : Nat}
theorem eu (hT:ay P T) {t e:Nat} {re:TyR} {s:Nat} {α:Type} {enc:α→D} {xs ys:List α} {x y:Operand} (ht:bz T t=some (.slice e)) (he:lk T e=some re) (hs:Nat.beq re.size s=true) (hs0:Nat.blt 0 s=true)
  (hx:aB env x=some (.d (.arx s enc xs))) (hy:aB env y=some (.d (.arr s enc ys))) (hys:0<ys.length)
  (hlen:xs.length+ys.length≤1048576) (hbytes:Nat.ble re.bytes 134217728=true) :
  au P (.call { callee :=.builtin .append,args := #[x,y],argTypes := #[t,t] }) env h n (some (.own n 0 (xs.length+ys.length) s none)) [(n,some (.ds e s false enc (xs++ys)))]:=by
 have hb:=Nat.le_of_ble_eq_true hbytes
 have hs1:=Nat.eq_of_beq_eq_true hs
 have hs0:=Nat.le_of_ble_eq_true hs0
 refine lm hT (ys:=ys) ht he hs1 hys (by simp only[maxLen]; omega) ?_ ?_ ?_
 ·have:(xs.length+ys.length)*re.bytes≤1048576*134217728:=Nat.mul_le_mul hlen hb
  omega
 ·intro C G st σ w a hA hst
  obtain⟨hx1,_⟩:=aC hst (hA.ev hx)
  rcases RelV.arx.1 hx1 with ⟨rfl,ad,hv⟩ | ⟨ad,hv,hc1,f,hf⟩
  ·exact⟨ad,0,fun _=>[],hv,by simpa using hys,fun _=>⟨rfl,rfl⟩,fun i hi=>by simp at hi,fun _ _ j v hj=>by simp[cat]at hj⟩
  ·refine⟨some ad,xs.length,f,hv,by omega,(fun h=>by cases h),fun i hi=>⟨(hf i hi).1,(hf i hi).2.1⟩,fun ad' had j v hj=>?_⟩
   cases had
   have hfl:∀i,i<xs.length→(f i).length=s:=fun i hi=>(hf i hi).2.1
   have hjl:=(List.getElem?_eq_some_iff.1 hj).1
   rw[cE _ hfl]at hjl
   have hi:j/s<xs.length:=Nat.div_lt_of_lt_mul (by rw[Nat.mul_comm]; exact hjl)
   have hm:j % s<s:=Nat.mod_lt _ hs0
   have hdm:j/s*s+j % s=j:=by rw[Nat.mul_comm]; exact Nat.div_add_mod j s
   have hg:=eR (f:=f) xs.length hfl (j/s) (j % s) hi hm
   rw[hdm,hj]at hg
   have:=((hf (j/s) hi).2.2 (j % s) v hg.symm).1
   rwa [hdm]at this
 ·exact x5 hs0 hy hys
theorem Frz.litsX {r:Nat} {t s m:Nat} {α:Type} {enc:α→D} (xs:List α) (hm:m=xs.length) (hs:∀x,(enc x).size=s):Frz r (.lits t s m true (pY enc xs)) (.own r 0 m s none) (.d (.arx s enc xs)):=
 Frz.row_le (aR.lits_ds hs hm) (Frz.ownxe hm)
end
end Go.Eng
namespace Go.Proofs.Ytkehohfgbblokaa
open Go.Eng Go.Plain
set_option maxHeartbeats 32000000
set_option maxRecDepth 20000
attribute [local irreducible] WC RegS RegD SeqQ BlkQ ScoQ RegK CutK Sat SatN FnIs LoopQ au OpIs
theorem lC (k i:Int):DLe (.cons (u8s k) (.cons (i6 i) (.cons (.sc nil_) .nil))) (cr ⟨k,i,[]⟩):=by
 rintro w X cs ⟨d1,q1,rfl,g1,d2,q2,rfl,g2,d3,q3,rfl,⟨rfl,_⟩,rfl⟩
 exact⟨d1,_,rfl,g1,d2,_,rfl,g2,[.slice none 0 0],[],rfl,.inl ⟨rfl,rfl⟩,rfl⟩
theorem fN (k c ok oi e:Int) (v:List UInt8):DLe (.cons (u8s k) (.cons (i6 c) (.cons (.cons (u8s ok) (.cons (i6 oi) (.cons (.sc nil_) .nil))) (.cons (br v) (.cons (i6 e) .nil))))) (bY ⟨k,c,⟨ok,oi,[]⟩,v,e⟩):=by
 rintro w X cs ⟨c1,r1,rfl,h1,c2,r2,rfl,h2,c3,r3,rfl,h3,h4⟩
 exact⟨c1,_,rfl,h1,c2,_,rfl,h2,c3,_,rfl,lC _ _ _ _ _ h3,h4⟩
theorem AH {α:Type} (s:Nat) (enc:α→D) (xs:List α):AVLe (.d (.arx s enc xs)) (.d (.arr s enc xs)):=AVLe.of_enc rfl rfl fun w X cs h=>Enc.arx_arr (fun _ _ h=>h) cs h
abbrev Cp (l:List HEv):D :=.arx 38 bY l
def didL (op:POp) (v:List UInt8):List HEv:=[⟨1,0,op,zBk,0⟩,⟨2,0,zOp,v,0⟩]
def wrO (d:UInt8):POp:=⟨2,0,List.replicate 32 (blkB d)⟩
def rdO:POp:=⟨1,0,[]⟩
def flO:POp:=⟨3,0,[]⟩
def cS:List UInt8:=List.replicate 32 (blkB 1)
theorem fE (d:UInt8):FnIs Try.prog 33 [.int .u8 d.toNat] [] (.d (cr (wrO d))) []:=by
 refine aE aa Try.func33 rfl rfl rfl ?_;refine sR<|rN<|nR ?_;refine rC ?_;refine rQ (aq (kq d) rfl rfl (ak ai) (.inl rfl) (fun _=>rfl)) ?_;refine rN ?_;refine rW<|nS ?_;refine ez (env':=[(3,_),(2,_)]) (h':=[(64,some _)]) 88 _ rfl ⟨⟨_,rfl,Frz.ptr⟩,zE,trivial⟩ ⟨⟨rfl,_,rfl,.refl _⟩,trivial⟩<|sR ?_;refine rQ (kA aa rfl rfl rfl rfl rfl) ?_;refine rQ iS ?_;refine rW<|zT ?_
 exact⟨trivial,_,rfl,[],lf⟩
theorem kK:FnIs Try.prog 36 [] [] (.d (br cS)) []:=by
 refine aE aa Try.func36 rfl rfl rfl ?_;refine sR<|rN<|nR ?_;refine rQ (aq (kq 1) rfl rfl (ak ai) (.inl rfl) (fun _=>rfl)) ?_;refine rW<|zT ?_
 exact⟨trivial,_,rfl,[],lf⟩
theorem uc (op:POp) (v:List UInt8):FnIs Try.prog 32 [.d (cr op),.d (br v)] [] (.d (Cp (didL op v))) []:=by
 refine aE aa Try.func32 rfl rfl rfl ?_;refine sR ?_;iterate 2 refine rN ?_
 refine rC<|nR ?_;refine rQ iM ?_;refine rQ iS ?_;refine rQ iM ?_;refine rQ (au.val_le (bp aa rfl rfl rfl rfl) (fN 2 0 0 0 0 v) rfl) ?_;refine rQ (au.frozen (aD (s:=38) aa rfl rfl rfl rfl rfl rfl rfl rfl) (Frz.litsX (enc:=bY) (didL op v) rfl (fun _=>rfl))) ?_;refine rC<|zT ?_
 exact⟨trivial,[],lf⟩
theorem jm (op:POp) (v:List UInt8):FnIs Try.prog 32 [.d (cr op),.d (br v)] [] (.d (encH (didL op v))) []:=by
 refine aE aa Try.func32 rfl rfl rfl ?_;refine sR ?_;iterate 2 refine rN ?_
 refine rC<|nR ?_;refine rQ iM ?_;refine rQ iS ?_;refine rQ iM ?_;refine rQ (au.val_le (bp aa rfl rfl rfl rfl) (fN 2 0 0 0 0 v) rfl) ?_;refine rQ (au.frozen (aD (s:=38) aa rfl rfl rfl rfl rfl rfl rfl rfl) (Frz.litsX (enc:=bY) (didL op v) rfl (fun _=>rfl))) ?_;refine rC<|zT ?_
 exact⟨trivial,[],lg ⟨⟨_,rfl,AH _ _ _⟩,rfl,trivial⟩ trivial⟩
def eO (v:List UInt8):List HEv:=[⟨1,0,wrO 1,zBk,0⟩,⟨1,1,rdO,zBk,0⟩,⟨2,1,zOp,v,0⟩,⟨2,0,zOp,zBk,0⟩]
theorem ul (v:List UInt8):FnIs Try.prog 35 [.d (br v)] [] (.d (encH (eO v))) []:=by
 refine aE aa Try.func35 rfl rfl rfl ?_;refine sR<|rN ?_;refine rC<|nQ ?_;refine aA (by kernel_rfl) ?_;refine dQ [] [] (aq (fE 1) rfl rfl (ak ai) (.inl rfl) (fun _=>rfl)) ?_;refine dQ [3] [] iS ?_;refine dQ [] [] iS ?_;refine dQ [5] [] (au.val_le (bp aa rfl rfl rfl rfl) (fN 1 1 1 0 0 zBk) rfl) ?_;refine dQ [1] [64] iM ?_;refine dQ [7] [] (au.val_le (bp aa rfl rfl rfl rfl) (fN 2 1 0 0 0 v) rfl) ?_;refine dQ [] [] (au.val_le (bp aa rfl rfl rfl rfl) (fN 2 0 0 0 0 zBk) rfl) ?_;refine dQ [4,6,8,9] [] (au.frozen (aD (s:=38) aa rfl rfl rfl rfl rfl rfl rfl rfl) (Frz.litsN (enc:=bY) (eO v) rfl (fun _ _=>rfl))) ?_;refine dC [10] [] ?_;refine am (by kernel_rfl)<|aG<|dV ?_
 exact⟨trivial,[],lf⟩
def iK (f:Bool):List HEv:=didL (wrO 1) zBk++(if f then didL flO zBk else[])++didL (wrO 0) zBk++[⟨3,0,zOp,zBk,0⟩]++didL rdO cS
theorem s6:FnIs Try.prog 37 [.bool true] [] (.own 64 0 9 38 none) [(64,.ds 63 38 false bY (iK true))]:=by
 refine aE aa Try.func37 rfl rfl rfl ?_;refine sR<|rC<|nR ?_;refine rQ (aq (fE 1) rfl rfl (ak ai) (.inl rfl) (fun _=>rfl)) ?_;refine rQ (bI aa rfl rfl rfl) ?_;refine rQ (aq (uc (wrO 1) zBk) rfl rfl (ak (ak ai)) (.inl rfl) (fun _=>rfl)) ?_;refine rC<|zW ?_;refine rC ?_;refine zO<|aj ?_;refine rC ?_;refine rQ (au.val_le (bp aa rfl rfl rfl rfl) (lC 3 0) rfl) ?_;refine rQ (bI aa rfl rfl rfl) ?_;refine rQ (aq (jm flO zBk) rfl rfl (ak (ak ai)) (.inl rfl) (fun _=>rfl)) ?_;refine aW (eu (s:=38) (enc:=bY) (xs:=didL (wrO 1) zBk) (ys:=didL flO zBk) aa rfl rfl rfl rfl rfl rfl (by decide) (by decide) rfl) rfl ?_;refine rC<|nR ?_;refine rC ?_;refine rQ (aq (fE 0) rfl rfl (ak ai) (.inl rfl) (fun _=>rfl)) ?_;refine rQ (bI aa rfl rfl rfl) ?_;refine rQ (aq (jm (wrO 0) zBk) rfl rfl (ak (ak ai)) (.inl rfl) (fun _=>rfl)) ?_;refine aO (ku (s:=38) (enc:=bY) (xs:=didL (wrO 1) zBk++didL flO zBk) (ys:=didL (wrO 0) zBk) aa rfl rfl rfl rfl rfl rfl rfl (by decide) (by decide) rfl) rfl ?_;refine rC<|nR ?_;refine rC ?_;refine rQ (au.val_le (bp aa rfl rfl rfl rfl) (fN 3 0 0 0 0 zBk) rfl) ?_;refine aW (aD (s:=38) aa rfl rfl rfl rfl rfl rfl rfl rfl) rfl ?_;refine aO (aQ (s:=38) (enc:=bY) (xs:=didL (wrO 1) zBk++didL flO zBk++didL (wrO 0) zBk) aa (⟨3,0,zOp,zBk,0⟩:HEv) rfl rfl rfl rfl rfl rfl rfl rfl rfl (by decide) rfl) rfl ?_;refine rQ (au.val_le (bp aa rfl rfl rfl rfl) (lC 1 0) rfl) ?_;refine rQ (aq kK rfl rfl ai (.inl rfl) (fun _=>rfl)) ?_;refine rQ (aq (jm rdO cS) rfl rfl (ak (ak ai)) (.inl rfl) (fun _=>rfl)) ?_;refine aO (ku (s:=38) (enc:=bY) (xs:=didL (wrO 1) zBk++didL flO zBk++didL (wrO 0) zBk++[⟨3,0,zOp,zBk,0⟩]) (ys:=didL rdO cS) aa rfl rfl rfl rfl rfl rfl rfl (by decide) (by decide) rfl) rfl ?_;refine rC<|zT ?_
 exact⟨trivial,[(64,some 264)],lg zV ⟨⟨rfl,rfl,_,rfl,aR.of_eq rfl⟩,trivial⟩⟩
theorem lN:FnIs Try.prog 37 [.bool true] [] (.d (encH (iK true))) []:=s6.freeze_out 64 _ rfl (Frz.own rfl) trivial
theorem s7:FnIs Try.prog 37 [.bool false] [] (.own 64 0 7 38 none) [(64,.ds 63 38 false bY (iK false))]:=by
 refine aE aa Try.func37 rfl rfl rfl ?_;refine sR<|rC<|nR ?_;refine rQ (aq (fE 1) rfl rfl (ak ai) (.inl rfl) (fun _=>rfl)) ?_;refine rQ (bI aa rfl rfl rfl) ?_;refine rQ (aq (uc (wrO 1) zBk) rfl rfl (ak (ak ai)) (.inl rfl) (fun _=>rfl)) ?_;refine rC<|zW ?_;refine rC ?_;refine zJ<|kS<|sR ?_;refine rC ?_;refine rQ (aq (fE 0) rfl rfl (ak ai) (.inl rfl) (fun _=>rfl)) ?_;refine rQ (bI aa rfl rfl rfl) ?_;refine rQ (aq (jm (wrO 0) zBk) rfl rfl (ak (ak ai)) (.inl rfl) (fun _=>rfl)) ?_;refine aW (eu (s:=38) (enc:=bY) (xs:=didL (wrO 1) zBk) (ys:=didL (wrO 0) zBk) aa rfl rfl rfl rfl rfl rfl (by decide) (by decide) rfl) rfl ?_;refine rC<|nR ?_;refine rC ?_;refine rQ (au.val_le (bp aa rfl rfl rfl rfl) (fN 3 0 0 0 0 zBk) rfl) ?_;refine aW (aD (s:=38) aa rfl rfl rfl rfl rfl rfl rfl rfl) rfl ?_;refine aO (aQ (s:=38) (enc:=bY) (xs:=didL (wrO 1) zBk++didL (wrO 0) zBk) aa (⟨3,0,zOp,zBk,0⟩:HEv) rfl rfl rfl rfl rfl rfl rfl rfl rfl (by decide) rfl) rfl ?_;refine rQ (au.val_le (bp aa rfl rfl rfl rfl) (lC 1 0) rfl) ?_;refine rQ (aq kK rfl rfl ai (.inl rfl) (fun _=>rfl)) ?_;refine rQ (aq (jm rdO cS) rfl rfl (ak (ak ai)) (.inl rfl) (fun _=>rfl)) ?_;refine aO (ku (s:=38) (enc:=bY) (xs:=didL (wrO 1) zBk++didL (wrO 0) zBk++[⟨3,0,zOp,zBk,0⟩]) (ys:=didL rdO cS) aa rfl rfl rfl rfl rfl rfl rfl (by decide) (by decide) rfl) rfl ?_;refine rC<|zT ?_
 exact⟨trivial,[(64,some 216)],lg zV ⟨⟨rfl,rfl,_,rfl,aR.of_eq rfl⟩,trivial⟩⟩
theorem lO:FnIs Try.prog 37 [.bool false] [] (.d (encH (iK false))) []:=s7.freeze_out 64 _ rfl (Frz.own rfl) trivial
end Go.Proofs.Ytkehohfgbblokaa
namespace Go.Proofs.Ytkehohfgbblokaa
open Go.Eng Go.Plain
set_option maxHeartbeats 32000000
set_option maxRecDepth 20000
def qN:List HEv:=[⟨1,0,wrO 1,zBk,0⟩,⟨3,0,zOp,zBk,0⟩]
def tN:List HEv:=[⟨1,0,wrO 1,zBk,0⟩,⟨1,1,flO,zBk,0⟩,⟨3,0,zOp,zBk,0⟩]
def rD:List HEv:=[⟨1,0,rdO,zBk,0⟩,⟨2,0,zOp,zBk,9⟩]
def badL:List HEv:=rD++didL (wrO 1) zBk
theorem ex1:eN (eO cS) 1 9=(([0,1],true),0):=by decide+kernel
theorem ex2:eN (eO zBk) 1 9=(([1,0],true),0):=by decide+kernel
theorem ex3:ii (eO cS) 1 3=(3,0):=by decide+kernel
theorem ex4:ii (eO cS) 1 2=(0,4):=by decide+kernel
theorem ex5:ii (eO zBk) 1 4=(4,0):=by decide+kernel
theorem ex6:eN (iK true) 1 99=(([0,1,2,3],true),0):=by decide+kernel
theorem ex7:(eN (iK false) 1 99).1.2=false∧(eN (iK false) 1 99).2=0:=by decide+kernel
theorem ex8:(eN (qN++didL rdO cS) 1 99).1.2=false∧(eN (qN++didL rdO cS) 1 99).2=0:=by decide+kernel
theorem ex9:eN (tN++didL rdO cS) 1 99=(([0,1,2],true),0):=by decide+kernel
theorem ex10:(if (chkH badL).2=0 then stV (opsH badL) else false)=false∧(chkH badL).2=0:=by decide+kernel
theorem ex11:(eN badL 1 9).1.2=true∧(eN badL 1 9).2=0:=by decide+kernel
theorem acA (o:List Int) (e:Int) (h:_root_.Go.Proofs.Ytkehohfgbblokaa.accS 1 (opsH (eO cS)) o=e):(if opE (eO cS) 1=0 then _root_.Go.Proofs.Ytkehohfgbblokaa.accS 1 (opsH (eO cS)) o else opE (eO cS) 1)=e:=by
 rw[if_pos (by decide+kernel),h]
theorem ex12:_root_.Go.Proofs.Ytkehohfgbblokaa.accS 1 (opsH (eO cS)) [1,0]=15∧_root_.Go.Proofs.Ytkehohfgbblokaa.accS 1 (opsH (eO cS)) [0]=15∧_root_.Go.Proofs.Ytkehohfgbblokaa.accS 1 (opsH (eO cS)) [0,0]=1∧_root_.Go.Proofs.Ytkehohfgbblokaa.accS 1 (opsH (eO cS)) [0,1]=0:=by decide+kernel
end Go.Proofs.Ytkehohfgbblokaa
