/- Texts of the proof: YG2, Eng104, Eng105, Y22, Y23, Eng108, Y24, YS, YS2, Eng109, Y25, P45, H18, H19, H20, YW, YR, Eng110, Y26, YT9. -/
import Derived.Test.YtkehohfgbblokaaG05
import Derived.Test.YtkehohfgbblokaaG02
import Derived.Test.YtkehohfgbblokaaG04
import Derived.Test.YtkehohfgbblokaaG03

set_option linter.unusedVariables false
set_option linter.unusedSimpArgs false
set_option linter.unusedSectionVars false

namespace Go.Proofs.Ytkehohfgbblokaa
open Go.Eng Go.Plain
set_option maxHeartbeats 32000000
set_option maxRecDepth 20000
def cntF (o:List Bool):Nat:=o.countP (!·)
theorem lj {o:List Bool} {i:Nat} (h:o[i]?=some false):cntF (o.set i true)+1=cntF o:=by
 induction o generalizing i with
 | nil=>simp at h
 | cons a o ih =>
  cases i with
  | zero =>
   simp only[List.getElem?_cons_zero,Option.some.injEq]at h
   subst h
   simp[cntF]
  | succ i =>
   have:=ih (i:=i) (by simpa using h)
   simp only[cntF,List.set_cons_succ,List.countP_cons]at this ⊢
   omega
theorem rV (n:Nat):cntF (List.replicate n false)=n:=by
 unfold cntF
 induction n with
 | zero=>rfl
 | succ n ih=>rw[List.replicate_succ,List.countP_cons,ih]; rfl
structure BOk (n c:Nat) (B:List (List Int)):Prop where
 bl:B.length=n
 be:∀b∈B,b.length≤c∧∀k∈b,0≤k∧k<(n:Int)
theorem BOk.get {n c:Nat} {B:List (List Int)} (h:BOk n c B) {j:Nat} (hj:j<n):∃b,B[j]?=some b∧b.length≤c∧∀k∈b,0≤k∧k<(n:Int):=by
 have hl:j<B.length:=by rw[h.bl]; exact hj
 exact⟨_,List.getElem?_eq_getElem hl,h.be _ (List.getElem_mem hl)⟩
theorem xU {n c i:Nat} {B:List (List Int)} {y:aI} {xs:List Int} (hx:B[y.to.toNat]?=some xs):bkF i B y=B.set y.to.toNat (xs++[(i:Int)]):=by
 rw[bkF,hx]; rfl
theorem AO {n c i:Nat} {B:List (List Int)} {y:aI} (h:BOk n c B) (hi:i<n) (h0:0≤y.to) (h1:y.to<(n:Int)):BOk n (c+1) (bkF i B y):=by
 obtain⟨b,hb,hbl,hbe⟩:=h.get (j:=y.to.toNat) (by omega)
 rw[xU (n:=n) (c:=c) hb]
 refine⟨by rw[List.length_set]; exact h.bl,fun z hz=>?_⟩
 rcases List.mem_or_eq_of_mem_set hz with hz | rfl
 ·exact⟨Nat.le_succ_of_le (h.be z hz).1,(h.be z hz).2⟩
 ·refine⟨by rw[List.length_append,List.length_singleton]; omega,fun k hk=>?_⟩
  rcases List.mem_append.1 hk with hk | hk
  ·exact hbe k hk
  ·rw[List.mem_singleton.1 hk]; omega
structure SpOk (st:List LSt) (sp:List (List aI)):Prop where
 len:sp.length=st.length
 to:∀ys∈sp,∀y∈ys,0≤y.to∧y.to<(st.length:Int)
def totS:List (List aI)→Nat
 | []=>0
 | ys::l=>ys.length+totS l
theorem lB {sp:List (List aI)} {i:Nat} {ys:List aI} (h:sp[i]?=some ys):totS (sp.take (i+1))=totS (sp.take i)+ys.length:=by
 induction sp generalizing i with
 | nil=>simp at h
 | cons a sp ih =>
  cases i with
  | zero =>
   simp only[List.getElem?_cons_zero,Option.some.injEq]at h
   subst h
   simp[totS]
  | succ i =>
   have:=ih (i:=i) (by simpa using h)
   simp only[List.take_succ_cons,totS]
   omega
theorem mI (sp:List (List aI)) (i:Nat):totS (sp.take i)≤totS sp:=by
 induction sp generalizing i with
 | nil=>simp[totS]
 | cons a sp ih =>
  cases i with
  | zero=>simp[totS]
  | succ i=>have:=ih i; simp only[List.take_succ_cons,totS]; omega
structure OOk (n:Nat) (out:List Bool) (opn:List Int):Prop where
 ol:out.length=n
 oe:∀k∈opn,0≤k∧k<(n:Int)
 cnt:opn.length+cntF out≤n
theorem OOk.get {n:Nat} {out:List Bool} {opn:List Int} (h:OOk n out opn) {k:Int} (h0:0≤k) (h1:k<(n:Int)):∃c,out[k.toNat]?=some c :=
 ⟨_,List.getElem?_eq_getElem (by rw[h.ol]; omega)⟩
theorem wB {out:List Bool} {opn:List Int} {k:Int} (h:out[k.toNat]?=some true):pshF (out,opn) k=(out,opn):=by
 simp[pshF,h]
theorem wC {out:List Bool} {opn:List Int} {k:Int} (h:out[k.toNat]?=some false):pshF (out,opn) k=(out.set k.toNat true,opn++[k]):=by
 simp[pshF,h]
theorem OOk.psh {n:Nat} {out:List Bool} {opn:List Int} (h:OOk n out opn) {k:Int} (h0:0≤k) (h1:k<(n:Int)) (hk:out[k.toNat]?=some false):OOk n (out.set k.toNat true) (opn++[k])∧(opn++[k]).length+cntF (out.set k.toNat true)=opn.length+cntF out:=by
 have hc:=lj hk
 have hcnt:=h.cnt
 refine⟨⟨by rw[List.length_set]; exact h.ol,fun j hj=>?_,?_⟩,?_⟩
 ·rcases List.mem_append.1 hj with hj | hj
  ·exact h.oe j hj
  ·rw[List.mem_singleton.1 hj]; exact⟨h0,h1⟩
 ·rw[List.length_append,List.length_singleton]; omega
 ·rw[List.length_append,List.length_singleton]; omega
theorem OOk.pop {n:Nat} {out:List Bool} {opn:List Int} (h:OOk n out opn):OOk n out opn.dropLast :=
 ⟨h.ol,fun k hk=>h.oe k (List.dropLast_subset _ hk),by have:=h.cnt; rw[List.length_dropLast]; omega⟩
theorem oB {α β:Type} {f:β→α→β} {l:List α} {j:Nat} {a:α} (h:l[j]?=some a) (b:β):(l.take (j+1)).foldl f b=f ((l.take j).foldl f b) a:=by
 have hlt:=(List.getElem?_eq_some_iff.1 h).1
 rw[List.take_succ_eq_append_getElem hlt,(List.getElem?_eq_some_iff.1 h).2,List.foldl_append]
 rfl
end Go.Proofs.Ytkehohfgbblokaa
namespace Go.Eng
open Go.RowKit
def farQ (a:Nat):Bool:=bif Nat.blt a 1000 then true else Nat.ble 10000000 a
theorem hU {a:Nat} (h:farQ a=true):a<1000∨10000000≤a:=by
 simp only[farQ]at h
 cases h1:Nat.blt a 1000 with
 | true=>exact .inl (Nat.le_of_ble_eq_true h1)
 | false=>rw[h1]at h; exact .inr (Nat.le_of_ble_eq_true h)
def iw:Upds→Bool
 | []=>true
 | (r,_)::l=>bif farQ r then iw l else false
theorem rh:∀(l:Upds),iw l=true→∀r∈aU l,farQ r=true
 | [],_,r,h=>by simp[aU]at h
 | (a,x)::l,h,r,hr=>by
  simp only[iw]at h
  cases hf:farQ a <;> simp only[hf,cond_true,cond_false]at h
  ·cases h
  simp only[aU,List.mem_cons]at hr
  rcases hr with rfl | hr
  ·exact hf
  ·exact rh l h r hr
theorem Le.list {l:bG} {st:St} {env':Env} {h':Upds} {R':List Row} {n' sz' bs':Nat} (τ:Nat→Option Nat) (hsz:sz'=st.sz) (hbs:bs'=st.bs) (hnx:Nat.ble bs' n'=true) (hn':Nat.ble 10000000 n'=true)
  (hnm:cU bs' l=true) (hkf:iw h'=true) (hinj:eh (rho l) (aU h')=true) (hR:R'.length≤9000000)
  (hτ:∀i,i<R'.length→rho l (1000+i)=τ i) (hτi:∀i i' k,i<R'.length→i'<R'.length→τ i=some k→τ i'=some k→i=i') (hτc:∀i k,i<R'.length→τ i=some k→∀r∈aU h',rho l r≠some k)
  (henv:jc (rho l) st.env n' env') (hrows:fL (rho l) st n' h')
  (htail:∀i row,R'[i]?=some row→row.lt n'=true∧match τ i with
   | some k=>∃x,st.row k=some x∧aN x (row.ren (rho l))
   | none=>row.isNil) :
  Le l st ⟨env',h'++bZ 1000 R',n',sz',bs'⟩:=by
 have hn2:=Nat.le_of_ble_eq_true hn'
 refine⟨?_,hsz,hbs,hnx,hnm,fun i v hi=>jc.out _ henv i v hi,?_⟩
 ·have tl:∀a,a∈aU (bZ 1000 R')→∃i,a=1000+i∧i<R'.length:=fun a ha=>by
   have:=rf _ _ _ ha
   exact⟨a-1000,by omega,by omega⟩
  refine jo _ fun a b k ha hb h1 h2=>?_
  rcases nH _ _ _ ha with ha | ha <;> rcases nH _ _ _ hb with hb | hb
  ·exact jJ _ hinj a b k ha hb h1 h2
  ·obtain⟨i,rfl,hi⟩:=tl b hb
   rw[hτ i hi]at h2
   exact absurd h1 (hτc i k hi h2 a ha)
  ·obtain⟨i,rfl,hi⟩:=tl a ha
   rw[hτ i hi]at h1
   exact absurd h2 (hτc i k hi h1 b hb)
  ·obtain⟨i,rfl,hi⟩:=tl a ha
   obtain⟨i',rfl,hi'⟩:=tl b hb
   rw[hτ i hi]at h1
   rw[hτ i' hi']at h2
   rw[hτi i i' k hi hi' h1 h2]
 ·intro r row hr
  rw[wZ]at hr
  cases hc:lk h' r with
  | some x =>
   rw[hc]at hr
   exact fL.out _ hrows r row (by rw[hc]; exact hr)
  | none =>
   rw[hc]at hr
   simp only[s1]at hr
   split at hr
   ·rename_i hle
    cases hg:R'[r-1000]? with
    | none=>rw[hg]at hr; cases hr
    | some row' =>
     rw[hg]at hr
     simp only[Option.map_some,Option.bind_some,id]at hr
     cases hr
     obtain⟨h1,h2⟩:=htail _ _ hg
     have hlt:=(List.getElem?_eq_some_iff.1 hg).1
     refine⟨show r<n' by omega,h1,?_⟩
     have h3:=hτ (r-1000) hlt
     rw[show 1000+(r-1000)=r by omega]at h3
     rw[h3]
     cases hq:τ (r-1000) with
     | some k=>rw[hq]at h2; exact h2
     | none=>rw[hq]at h2; exact h2
   ·cases hr
section
variable {α : Type}
def chB (s:Nat) (τ:Nat→Nat):Nat→List (List α)→AV
 | _,[]=>.anil
 | i,xs::l=>.acons (.own (τ i) 0 xs.length s none) (chB s τ (i+1) l)
def eV (t s:Nat) (enc:α→D) (S:List (List α)):List Row:=S.map fun xs=>.ds t s false enc xs
theorem ft {t s:Nat} {enc:α→D} (S:List (List α)) (i:Nat):(eV t s enc S)[i]?=(S[i]?).map fun xs=>.ds t s false enc xs:=by simp[eV]
theorem cg {t s:Nat} {enc:α→D} (S:List (List α)):(eV t s enc S).length=S.length:=by simp[eV]
theorem lY {s:Nat} {τ:Nat→Nat} {n:Nat}:∀(S:List (List α)) (i:Nat),(∀j,j<S.length→τ (i+j)<n)→(chB s τ i S).lt n=true
 | [],_,_=>rfl
 | _::S,i,h=>by
  have h0:Nat.blt (τ i) n=true:=Nat.ble_eq_true_of_le (h 0 (by simp))
  simp only[chB,AV.lt,h0,cond_true]
  exact lY S (i+1) fun j hj=>by have:=h (j+1) (by simp; omega); rwa [show i+(j+1)=i+1+j by omega]at this
theorem mN {s:Nat} {τ τ':Nat→Nat} {ρ:Nat→Option Nat}:∀(S:List (List α)) (i:Nat),(∀j,j<S.length→ρ (τ (i+j))=some (τ' (i+j)))→(chB s τ i S).ren ρ=chB s τ' i S
 | [],_,_=>rfl
 | _::S,i,h=>by
  have h0:=h 0 (by simp)
  simp only[Nat.add_zero]at h0
  simp only[chB,AV.ren,h0]
  rw[mN S (i+1) fun j hj=>by have:=h (j+1) (by simp; omega); rwa [show i+(j+1)=i+1+j by omega]at this]
theorem tp {s:Nat} {τ:Nat→Nat}:∀(S:List (List α)) (i j:Nat) (xs:List α),S[j]?=some xs→(chB s τ i S).chainAt j (j*1)=some (.own (τ (i+j)) 0 xs.length s none)
 | [],_,j,xs,h=>by simp at h
 | ys::S,i,0,xs,h=>by
  simp only[List.getElem?_cons_zero,Option.some.injEq]at h
  subst h
  rfl
 | ys::S,i,j+1,xs,h=>by
  have ih:=tp (s:=s) (τ:=τ) S (i+1) j xs (by simpa using h)
  have e:Nat.ble 1 ((j+1)*1)=true:=Nat.ble_eq_true_of_le (by omega)
  simp only[chB,AV.chainAt,AV.size,e]
  rw[show (j+1)*1-1=j*1 by omega,show i+(j+1)=i+1+j by omega]
  exact ih
theorem uu {s:Nat} {τ τ':Nat→Nat}:∀(S:List (List α)) (i j m:Nat) (xs:List α),j<S.length→xs.length=m→(∀k,k<S.length→k≠j→τ' (i+k)=τ (i+k))→AV.chainSet (.own (τ' (i+j)) 0 m s none) j (chB s τ i S)=chB s τ' i (S.set j xs)
 | [],_,j,m,xs,h,_,_=>by simp at h
 | ys::S,i,0,m,xs,_,hm,h=>by
  have:∀(S:List (List α)) (i:Nat),(∀k,k<S.length→τ' (i+k)=τ (i+k))→chB s τ i S=chB s τ' i S:=by
   intro S
   induction S with
   | nil=>intro _ _; rfl
   | cons ys S ih =>
    intro i h
    have h0:=h 0 (by simp)
    simp only[Nat.add_zero]at h0
    simp only[chB,h0]
    rw[ih (i+1) fun k hk=>by have:=h (k+1) (by simp; omega); rwa [show i+(k+1)=i+1+k by omega]at this]
  subst hm
  simp only[chB,AV.chainSet,List.set_cons_zero,Nat.add_zero]
  rw[this S (i+1) fun k hk=>by have:=h (k+1) (by simp; omega) (by omega); rwa [show i+(k+1)=i+1+k by omega]at this]
 | ys::S,i,j+1,m,xs,hj,hm,h=>by
  have h0:=h 0 (by simp) (by omega)
  simp only[Nat.add_zero]at h0
  have ih:=uu (s:=s) (τ:=τ) (τ':=τ') S (i+1) j m xs (by simpa using hj) hm fun k hk hne=>by have:=h (k+1) (by simp; omega) (by omega); rwa [show i+(k+1)=i+1+k by omega]at this
  simp only[chB,AV.chainSet,List.set_cons_succ,h0]
  rw[show i+(j+1)=i+1+j by omega,ih]
theorem wm {t:TypeId} {s m i:Nat} {ex:Bool} {τ:Nat→Nat} {S:List (List α)} {xs:List α} (hm:m=S.length) (h:S[i]?=some xs):RSub (.lits t 1 m ex (chB s τ 0 S)) [.idx i 1] (.own (τ i) 0 xs.length s none):=by
 subst hm
 refine⟨rfl,(List.getElem?_eq_some_iff.1 h).1,?_⟩
 rw[tp S 0 i xs h,Nat.zero_add]
 rfl
theorem wk {t:TypeId} {s m i:Nat} {ex:Bool} {τ τ':Nat→Nat} {S:List (List α)} {xs ys:List α} {k len:Nat} (hm:m=S.length) (h:S[i]?=some xs) (hk:τ' i=k) (hl:ys.length=len) (hτ:∀j,j<S.length→j≠i→τ' j=τ j):RUpd (.lits t 1 m ex (chB s τ 0 S)) [.idx i 1] (.own k 0 len s none) (.lits t 1 m ex (chB s τ' 0 (S.set i ys))):=by
 subst hm
 have hi:=(List.getElem?_eq_some_iff.1 h).1
 refine⟨rfl,hi,?_⟩
 rw[tp S 0 i xs h]
 refine⟨_,⟨rfl,rfl,rfl⟩,?_⟩
 have:=uu (s:=s) (τ:=τ) (τ':=τ') S 0 i len ys hi hl (fun k hk hne=>by rw[Nat.zero_add]; exact hτ k hk hne)
 rw[Nat.zero_add,hk]at this
 rw[this]
theorem rY {s:Nat} {τ:Nat→Nat} {ρ:Nat→Option Nat}:∀(n i:Nat),(∀j,j<n→ρ (τ (i+j))=none)→(chB s τ i (List.replicate n ([]:List α))).ren ρ=dsAV (List.replicate n (.sc nil_))
 | 0,_,_=>rfl
 | n+1,i,h=>by
  have h0:=h 0 (by omega)
  simp only[Nat.add_zero]at h0
  have ih:=rY (s:=s) (τ:=τ) (ρ:=ρ) n (i+1) fun j hj=>by have:=h (j+1) (by omega); rwa [show i+(j+1)=i+1+j by omega]at this
  simp only[List.replicate_succ,chB,AV.ren,h0,dsAV,ih]
  rfl
theorem aN.nils {t:TypeId} {s n:Nat} {ex:Bool} {β:Type} {enc:β→D} {z:β} (hz:enc z=.sc nil_):aN (.ds t s ex enc (List.replicate n z)) (.lits t s n ex (dsAV (List.replicate n (.sc nil_)))):=by
 rintro σ w X r (⟨h1,h2⟩ | ⟨b,c,cur,h1,h2,h3,h4,h5,h6,f,h7,h8⟩)
 ·have:n=0:=by simpa using h2
  exact⟨lV _,.inl ⟨h1,this⟩⟩
 ·simp only[List.length_replicate]at h2 h5 h7 h8
  refine⟨lV _,.inr ⟨b,c,cur,cat f n,h1,h2,h3,h4,h5,h6,cF n fun i hi=>(h7 i hi).2,?_,h8⟩⟩
  have:=um (σ:=σ) (w:=w) (X:=X) (enc:=enc) (List.replicate n z) f fun i hi=>by
   have:=(h7 i (by simpa using hi)).1
   simpa using this
  rw[List.length_replicate,List.map_replicate,hz]at this
  exact this
end
def fw:Nat→Nat→bG
 | _,0=>[]
 | b,n+1=>(b,none)::fw (b+1) n
theorem sM:∀(n b i:Nat),i<n→rho (fw b n) (b+i)=none
 | 0,_,_,h=>by omega
 | n+1,b,0,_=>by simp[fw,rho]
 | n+1,b,i+1,h=>by
  have:Nat.beq b (b+(i+1))=false:=by
   cases hc:Nat.beq b (b+(i+1)) with
   | true=>have:=Nat.eq_of_beq_eq_true hc; omega
   | false=>rfl
  simp only[fw,rho,this,cond_false]
  rw[show b+(i+1)=b+1+i by omega]
  exact sM n (b+1) i (by omega)
theorem nh:∀(n b r:Nat),(r<b∨b+n≤r)→rho (fw b n) r=some r
 | 0,_,_,_=>rfl
 | n+1,b,r,h=>by
  have:Nat.beq b r=false:=by
   cases hc:Nat.beq b r with
   | true=>have:=Nat.eq_of_beq_eq_true hc; omega
   | false=>rfl
  simp only[fw,rho,this,cond_false]
  exact nh n (b+1) r (by omega)
theorem kT {bs:Nat}:∀(n b:Nat),bs≤b→cU bs (fw b n)=true
 | 0,_,_=>rfl
 | n+1,b,h=>by
  simp only[fw,cU,Nat.ble_eq_true_of_le h,cond_true]
  exact kT n (b+1) (by omega)
def iP:bG→Bool
 | []=>true
 | (r,_)::l=>bif farQ r then iP l else false
theorem mv:∀(l:bG),iP l=true→∀p∈l,p.1<1000∨10000000≤p.1
 | [],_,p,h=>by simp at h
 | (r,k)::l,h,p,hp=>by
  simp only[iP]at h
  cases hf:farQ r <;> simp only[hf,cond_true,cond_false]at h
  ·cases h
  simp only[List.mem_cons]at hp
  rcases hp with rfl | hp
  ·exact hU hf
  ·exact mv l h p hp
theorem qE:∀(l0:bG) (l:bG) (r:Nat),(∀p∈l0,p.1≠r)→rho (l0++l) r=rho l r
 | [],_,_,_=>rfl
 | (j,k)::l0,l,r,h=>by
  have:Nat.beq j r=false:=by
   cases hc:Nat.beq j r with
   | true=>exact absurd (Nat.eq_of_beq_eq_true hc) (h (j,k) List.mem_cons_self)
   | false=>rfl
  simp only[List.cons_append,rho,this,cond_false]
  exact qE l0 l r fun p hp=>h p (List.mem_cons_of_mem _ hp)
theorem pP {l0:bG} (hd:iP l0=true) (l:bG) {i:Nat} (hi:i<9000000):rho (l0++l) (1000+i)=rho l (1000+i):=
 qE l0 l _ fun p hp=>by have:=mv l0 hd p hp; omega
end Go.Eng
namespace Go.Eng
open Go.RowKit
def okn (m r:Nat):Bool:=bif farQ r then !Nat.beq r m else false
theorem dJ {m r:Nat} (h:okn m r=true):(r<1000∨10000000≤r)∧r≠m:=by
 simp only[okn]at h
 cases hf:farQ r <;> simp only[hf,cond_true,cond_false]at h
 ·cases h
 exact⟨hU hf,fun e=>by subst e; rw[Nat.beq_refl]at h; cases h⟩
def AV.okm (m:Nat):AV→Bool
 | .acons a r=>bif a.okm m then r.okm m else false
 | .own r _ _ _ _=>okn m r
 | .ptr r _=>okn m r
 | .asl r _ _ _=>okn m r
 | .mapr r=>okn m r
 | .fn _ p q=>bif p.okm m then q.okm m else false
 | .tup q=>q.okm m
 | _=>true
def Row.okm (m:Nat):Row→Bool
 | .box _ a=>a.okm m
 | .lits _ _ _ _ a=>a.okm m
 | .mo a=>a.okm m
 | .mi a _ _ _=>a.okm m
 | _=>true
theorem AV.okm_ren {m:Nat} {ρ:Nat→Option Nat} (hρ:∀r,okn m r=true→ρ r=some r):∀(v:AV),v.okm m=true→v.ren ρ=v:=by
 intro v
 induction v with
 | acons a r iha ihr =>
  intro h
  simp only[AV.okm]at h
  cases ha:a.okm m <;> simp only[ha,cond_true,cond_false]at h
  ·cases h
  simp only[AV.ren,iha ha,ihr h]
 | own r=>intro h; simp only[AV.ren,hρ r h]
 | ptr r=>intro h; simp only[AV.ren,hρ r h]
 | asl r=>intro h; simp only[AV.ren,hρ r h]
 | mapr r=>intro h; simp only[AV.ren,hρ r h]
 | fn f p q ihp ihq =>
  intro h
  simp only[AV.okm]at h
  cases ha:p.okm m <;> simp only[ha,cond_true,cond_false]at h
  ·cases h
  simp only[AV.ren,ihp ha,ihq h]
 | tup q ih=>intro h; simp only[AV.ren,ih h]
 | _=>intro _; rfl
theorem Row.okm_ren {m:Nat} {ρ:Nat→Option Nat} (hρ:∀r,okn m r=true→ρ r=some r) (row:Row) (h:row.okm m=true):row.ren ρ=row:=by
 cases row with
 | box t a=>simp only[Row.ren,AV.okm_ren hρ a h]
 | lits t s k ex a=>simp only[Row.ren,AV.okm_ren hρ a h]
 | mo a=>simp only[Row.ren,AV.okm_ren hρ a h]
 | mi a=>simp only[Row.ren,AV.okm_ren hρ a h]
 | _=>rfl
theorem qZ {κ ν:Type} {enc:κ→D} {encV:ν→D} {m:Nat}:∀(l:List (κ×ν)),(mapC enc (asC encV l)).okm m=true
 | []=>rfl
 | (k,v)::l=>by
  have:=qZ (enc:=enc) (encV:=encV) (m:=m) l
  simp only[asC,List.map_cons,mapC,AV.okm,cond_true]at this ⊢
  exact this
def ka (m:Nat) (env0:Env) (n:Nat):Env→Prop
 | []=>True
 | (i,v)::l=>lk env0 i=some v∧v.lt n=true∧v.okm m=true∧ka m env0 n l
def eo (m:Nat) (h0:Upds) (n:Nat):Upds→Prop
 | []=>True
 | (r,row)::l=>okn m r=true∧(match row with
   | none=>True
   | some row=>Nat.blt r n=true∧row.lt n=true∧row.okm m=true∧aT h0 r=some row)∧eo m h0 n l
theorem ka.le {m n:Nat} {env0:Env} {ρ:Nat→Option Nat} (hρ:∀r,okn m r=true→ρ r=some r):∀(env:Env),ka m env0 n env→jc ρ env0 n env
 | [],_=>trivial
 | (i,v)::l,⟨h1,h2,h3,h4⟩=>⟨⟨v,h1,AVLe.of_eq (AV.okm_ren hρ v h3).symm⟩,h2,ka.le hρ l h4⟩
theorem eo.le {m n:Nat} {st:St} {ρ:Nat→Option Nat} (hρ:∀r,okn m r=true→ρ r=some r):∀(h:Upds),eo m st.heap n h→fL ρ st n h
 | [],_=>trivial
 | (r,none)::l,⟨_,_,h3⟩=>⟨trivial,eo.le hρ l h3⟩
 | (r,some row)::l,⟨h1,⟨h2,h3,h4,h5⟩,h6⟩=>⟨⟨h2,h3,by rw[hρ r h1]; exact⟨row,by rw[←bg]; exact h5,aN.of_eq (Row.okm_ren hρ row h4).symm⟩⟩,eo.le hρ l h6⟩
theorem eo.keys {m n:Nat} {h0:Upds}:∀(h:Upds),eo m h0 n h→∀r∈aU h,okn m r=true
 | [],_,r,hr=>by simp[aU]at hr
 | (a,x)::l,⟨h1,_,h3⟩,r,hr=>by
  simp only[aU,List.mem_cons]at hr
  rcases hr with rfl | hr
  ·exact h1
  ·exact eo.keys l h3 r hr
theorem iv:∀(l:Upds),(∀r∈aU l,farQ r=true)→iw l=true
 | [],_=>rfl
 | (a,x)::l,h=>by
  simp only[iw]
  rw[h a (by simp[aU]),cond_true]
  exact iv l fun r hr=>h r (by simp[aU,hr])
theorem qg {a:Nat} (h:a<1000∨10000000≤a):farQ a=true:=by
 unfold farQ
 rcases h with h | h
 ·rw[show Nat.blt a 1000=true from Nat.ble_eq_true_of_le h]; rfl
 ·rw[Nat.ble_eq_true_of_le h]; cases Nat.blt a 1000 <;> rfl
theorem kw:∀(B:Upds) (R:List Row) (i:Nat) (row:Row),i<9000000→(∀r∈aU B,r<1000∨10000000≤r)→R[i]?=some row→aT (B++bZ 1000 R) (1000+i)=some row
 | [],R,i,row,_,_,h=>da h
 | (a,x)::B,R,i,row,hi,hf,h=>by
  have:=hf a (by simp[aU])
  exact pd (by omega) (kw B R i row hi (fun r hr=>hf r (by simp[aU,hr])) h)
theorem farl {a i:Nat} {y:Option Row} {l:Upds} {x:Option Row} (ha:farQ a=true) (hi:i<9000000) (h:aT l (1000+i)=x):aT ((a,y)::l) (1000+i)=x:=by
 have:=hU ha
 exact pd (by omega) h
section
variable {P : Program} {sz n : Nat} {env : Env} {Q : Exit → St → Prop} {c : Code} {α : Type} {t tt s : Nat} {ex : Bool} {enc : α → D} {S : List (List α)}
theorem Le.stayL {l0:bG} {st:St} {env':Env} {h':Upds} {n' sz' bs':Nat} (hsz:sz'=st.sz) (hbs:bs'=st.bs) (hnx:Nat.ble bs' n'=true) (hn':Nat.ble 10000000 n'=true)
  (hnm:cU bs' l0=true) (hkf:iw h'=true) (hinj:eh (rho l0) (aU h')=true) (hdom:iP l0=true) (him:∀r∈aU h',∀k,rho l0 r=some k→k<1000∨10000000≤k) (hR:S.length≤9000000)
  (henv:jc (rho l0) st.env n' env') (hrows:fL (rho l0) st n' h')
  (hlk:∀i row,(eV t s enc S)[i]?=some row→aT st.heap (1000+i)=some row) :
  Le l0 st ⟨env',h'++bZ 1000 (eV t s enc S),n',sz',bs'⟩:=by
 refine Le.list (fun i=>some (1000+i)) hsz hbs hnx hn' hnm hkf hinj (by rw[cg]; exact hR) (fun i hi=>?_) (fun i i' k _ _ h1 h2=>by simp only[Option.some.injEq]at h1 h2; omega) (fun i k hi h1 r hr h2=>by cases h1; rw[cg]at hi; have:=him r hr _ h2; omega) henv hrows (fun i row hr=>?_)
 ·rw[cg]at hi
  have:=pP hdom [] (i:=i) (by omega)
  rw[List.append_nil]at this
  exact this
 ·have hlt:=(List.getElem?_eq_some_iff.1 hr).1
  have h2:=hlk i row hr
  rw[ft]at hr
  cases hc:S[i]? with
  | none=>rw[hc]at hr; cases hr
  | some xs =>
   rw[hc]at hr
   cases hr
   exact⟨rfl,_,by rw[←bg]; exact h2,aN.refl _⟩
theorem cV {l0:bG} {h':Upds} (h:(aU h').all (fun r=>match rho l0 r with | some k=>farQ k | none=>true)=true):∀r∈aU h',∀k,rho l0 r=some k→k<1000∨10000000≤k:=fun r hr k hk=>by
 have:=List.all_eq_true.1 h r hr
 simp only[hk]at this
 exact hU this
theorem dx {l0:bG} {τ τ':Nat→Nat} {m:Nat} (h:∀i,i<S.length→rho l0 (τ' i)=some (τ i)):aN (.lits tt 1 m ex (chB s τ 0 S)) ((Row.lits tt 1 m ex (chB s τ' 0 S)).ren (rho l0)):=by
 refine aN.of_eq ?_
 simp only[Row.ren]
 rw[mN (τ':=τ) S 0 fun j hj=>by rw[Nat.zero_add]; exact h j hj]
theorem ig {l0:bG} (hdom:iP l0=true) (hS:S.length≤9000000):∀i,i<S.length→rho l0 ((fun i=>1000+i) i)=some ((fun i=>1000+i) i):=fun i hi=>by
 have:=pP hdom [] (i:=i) (by omega)
 rw[List.append_nil]at this
 exact this
theorem jA {l0:bG} {j m N:Nat} (hdom:iP l0=true) (hS:S.length≤9000000) (hm:rho l0 m=some N):∀i,i<S.length→rho l0 (cN j m i)=some (cN j N i):=fun i hi=>by
 unfold cN
 split
 ·exact hm
 ·have:=pP hdom [] (i:=i) (by omega)
  rw[List.append_nil]at this
  exact this
theorem Le.openL (A:Upds) (j m r0 n0:Nat) (xs:List α) (hS:S[j]?=some xs) (hl:S.length≤9000000) (hm:Nat.ble 64 m=true) (hmf:farQ m=true) (hmn:Nat.blt m n=true) (hr:okn m r0=true) (hrn:Nat.blt r0 n=true) (hn:Nat.ble 10000000 n=true)
  (he:ka m env n env) (hA:eo m ((r0,some (.lits tt 1 n0 ex (chB s (fun i=>1000+i) 0 S)))::A++bZ 1000 (eV t s enc S)) n A)
  :
  Le [(m,some (1000+j)),(1000+j,none)] ⟨env,((r0,some (.lits tt 1 n0 ex (chB s (fun i=>1000+i) 0 S)))::A++bZ 1000 (eV t s enc S)),n,sz,64⟩ ⟨env,((m,some (.ds t s false enc xs))::(r0,some (.lits tt 1 n0 ex (chB s (cN j m) 0 S)))::A++bZ 1000 (eV t s enc (S.set j []))),n,sz,64⟩:=by
 have hjl:=(List.getElem?_eq_some_iff.1 hS).1
 have hm2:=Nat.le_of_ble_eq_true hm
 have hn2:=Nat.le_of_ble_eq_true hn
 have hmf2:=hU hmf
 obtain⟨hr1,hr2⟩:=dJ hr
 have hρ:∀r,okn m r=true→rho [(m,some (1000+j)),(1000+j,none)] r=some r:=fun r h=>by
  obtain⟨h1,h2⟩:=dJ h
  have e1:Nat.beq m r=false:=by
   cases hc:Nat.beq m r with
   | true=>exact absurd (Nat.eq_of_beq_eq_true hc).symm h2
   | false=>rfl
  have e2:Nat.beq (1000+j) r=false:=by
   cases hc:Nat.beq (1000+j) r with
   | true=>have:=Nat.eq_of_beq_eq_true hc; omega
   | false=>rfl
  simp[rho,e1,e2]
 have hρm:rho [(m,some (1000+j)),(1000+j,none)] m=some (1000+j):=by simp[rho,Nat.beq_refl]
 have hρl:∀i,i<S.length→rho [(m,some (1000+j)),(1000+j,none)] (1000+i)=if i=j then none else some (1000+i):=fun i hi=>by
  have e1:Nat.beq m (1000+i)=false:=by
   cases hc:Nat.beq m (1000+i) with
   | true=>have:=Nat.eq_of_beq_eq_true hc; omega
   | false=>rfl
  by_cases h:i=j
  ·subst h; simp[rho,e1,Nat.beq_refl]
  ·have e2:Nat.beq (1000+j) (1000+i)=false:=by
    cases hc:Nat.beq (1000+j) (1000+i) with
    | true=>have:=Nat.eq_of_beq_eq_true hc; omega
    | false=>rfl
   simp[rho,e1,e2,h]
 have hkA:=eo.keys A hA
 have hkall:∀r∈aU ((m,some (.ds t s false enc xs))::(r0,some (.lits tt 1 n0 ex (chB s (cN j m) 0 S)))::A),r=m∨okn m r=true:=fun r hr'=>by
  simp only[aU,List.mem_cons]at hr'
  rcases hr' with rfl | rfl | hr'
  ·exact .inl rfl
  ·exact .inr hr
  ·exact .inr (hkA r hr')
 have hlk:∀i row,(eV t s enc S)[i]?=some row→aT ((r0,some (.lits tt 1 n0 ex (chB s (fun i=>1000+i) 0 S)))::A++bZ 1000 (eV t s enc S)) (1000+i)=some row:=fun i row h=>by
  have hi:=(List.getElem?_eq_some_iff.1 h).1
  rw[cg]at hi
  refine kw _ _ i row (by omega) (fun r hr'=>?_) h
  simp only[aU,List.mem_cons]at hr'
  rcases hr' with rfl | hr'
  ·exact hr1
  ·exact (dJ (hkA r hr')).1
 refine (Le.list (h':=(m,some (.ds t s false enc xs))::(r0,some (.lits tt 1 n0 ex (chB s (cN j m) 0 S)))::A) (fun i=>if i=j then none else some (1000+i)) rfl rfl (Nat.ble_eq_true_of_le (by omega)) hn ?_ (iv _ fun r hr'=>?_) (jo _ fun a b k ha hb h1 h2=>?_) (by rw[cg,List.length_set]; exact hl) (fun i hi=>hρl i (by rw[cg,List.length_set]at hi; exact hi)) (fun i i' k _ _ h1 h2=>?_) (fun i k hi h1 r hr' h2=>?_) (ka.le hρ _ he) ⟨⟨hmn,rfl,?_⟩,⟨hrn,?_,?_⟩,eo.le hρ A hA⟩ (fun i row hrow=>?_))
 ·simp only[cU,hm,cond_true]
  rw[Nat.ble_eq_true_of_le (by omega:64≤1000+j)]; rfl
 ·rcases hkall r hr' with rfl | h
  ·exact hmf
  ·exact qg (dJ h).1
 ·rcases hkall a ha with rfl | h3 <;> rcases hkall b hb with rfl | h4
  ·rfl
  ·rw[hρm]at h1
   rw[hρ b h4]at h2
   cases h1
   cases h2
   have:=(dJ h4).1; omega
  ·rw[hρm]at h2
   rw[hρ a h3]at h1
   cases h1
   cases h2
   have:=(dJ h3).1; omega
  ·rw[hρ a h3]at h1
   rw[hρ b h4]at h2
   cases h1
   cases h2
   rfl
 ·split at h1
  ·cases h1
  ·split at h2
   ·cases h2
   ·simp only[Option.some.injEq]at h1 h2; omega
 ·rw[cg,List.length_set]at hi
  split at h1
  ·cases h1
  ·rename_i hne
   cases h1
   rcases hkall r hr' with rfl | h
   ·rw[hρm]at h2; simp only[Option.some.injEq]at h2; omega
   ·rw[hρ r h]at h2
    cases h2
    have:=(dJ h).1; omega
 ·rw[hρm]
  exact⟨_,by rw[←bg]; exact hlk j _ (by rw[ft,hS]; rfl),aN.refl _⟩
 ·have:=Nat.le_of_ble_eq_true hmn
  refine lY S 0 fun i hi=>?_
  rw[Nat.zero_add]
  unfold cN
  split <;> omega
 ·rw[hρ r0 hr]
  refine⟨.lits tt 1 n0 ex (chB s (fun i=>1000+i) 0 S),by rw[←bg]; simp only[aT,List.cons_append,aM,if_pos],aN.of_eq ?_⟩
  simp only[Row.ren]
  rw[mN (τ':=fun i=>1000+i) S 0 fun i hi=>?_]
  rw[Nat.zero_add]
  unfold cN
  split
  ·rename_i e; subst e; exact hρm
  ·rename_i e; rw[hρl i hi,if_neg e]
 ·have hi:=(List.getElem?_eq_some_iff.1 hrow).1
  rw[ft]at hrow
  rw[cg,List.length_set]at hi
  by_cases h:i=j
  ·subst h
   rw[List.getElem?_set_self hjl]at hrow
   cases hrow
   refine⟨rfl,?_⟩
   rw[if_pos rfl]
   exact rfl
  ·rw[List.getElem?_set_ne (Ne.symm h)]at hrow
   cases hc:S[i]? with
   | none=>rw[hc]at hrow; cases hrow
   | some ys =>
    rw[hc]at hrow
    cases hrow
    refine⟨rfl,?_⟩
    rw[if_neg h]
    exact⟨_,by rw[←bg]; exact hlk i _ (by rw[ft,hc]; rfl),aN.refl _⟩
theorem Le.closeL (A:Upds) (j N r0 n0:Nat) (ys:List α) (hS:S[j]?=some ys) (hl:S.length≤9000000) (hNf:farQ N=true) (hr:okn N r0=true) (hrn:Nat.blt r0 n=true) (hn:Nat.ble 10000000 n=true)
  (he:ka N env n env) (hA:eo N ((N,some (.ds t s false enc ys))::(r0,some (.lits tt 1 n0 ex (chB s (cN j N) 0 S)))::A++bZ 1000 (eV t s enc (S.set j []))) n A)
  :
  Le [(1000+j,some N)] ⟨env,((N,some (.ds t s false enc ys))::(r0,some (.lits tt 1 n0 ex (chB s (cN j N) 0 S)))::A++bZ 1000 (eV t s enc (S.set j []))),n,sz,64⟩ ⟨env,((r0,some (.lits tt 1 n0 ex (chB s (fun i=>1000+i) 0 S)))::A++bZ 1000 (eV t s enc S)),n,sz,64⟩:=by
 have hjl:=(List.getElem?_eq_some_iff.1 hS).1
 have hn2:=Nat.le_of_ble_eq_true hn
 have hNf2:=hU hNf
 obtain⟨hr1,hr2⟩:=dJ hr
 have hρ:∀r,okn N r=true→rho [(1000+j,some N)] r=some r:=fun r h=>by
  obtain⟨h1,h2⟩:=dJ h
  have e2:Nat.beq (1000+j) r=false:=by
   cases hc:Nat.beq (1000+j) r with
   | true=>have:=Nat.eq_of_beq_eq_true hc; omega
   | false=>rfl
  simp[rho,e2]
 have hρl:∀i,i<S.length→rho [(1000+j,some N)] (1000+i)=some (cN j N i):=fun i hi=>by
  unfold cN
  by_cases h:i=j
  ·subst h; simp[rho,Nat.beq_refl]
  ·have e2:Nat.beq (1000+j) (1000+i)=false:=by
    cases hc:Nat.beq (1000+j) (1000+i) with
    | true=>have:=Nat.eq_of_beq_eq_true hc; omega
    | false=>rfl
   simp[rho,e2,h]
 have hkA:=eo.keys A hA
 have hlk:∀i row,(eV t s enc (S.set j []))[i]?=some row→aT ((N,some (.ds t s false enc ys))::(r0,some (.lits tt 1 n0 ex (chB s (cN j N) 0 S)))::A++bZ 1000 (eV t s enc (S.set j []))) (1000+i)=some row:=fun i row h=>by
  have hi:=(List.getElem?_eq_some_iff.1 h).1
  rw[cg,List.length_set]at hi
  refine kw _ _ i row (by omega) (fun r hr'=>?_) h
  simp only[aU,List.mem_cons]at hr'
  rcases hr' with rfl | rfl | hr'
  ·exact hNf2
  ·exact hr1
  ·exact (dJ (hkA r hr')).1
 have hkall:∀r∈aU ((r0,some (.lits tt 1 n0 ex (chB s (fun i=>1000+i) 0 S)))::A),okn N r=true:=fun r hr'=>by
  simp only[aU,List.mem_cons]at hr'
  rcases hr' with rfl | hr'
  ·exact hr
  ·exact hkA r hr'
 refine (Le.list (h':=(r0,some (.lits tt 1 n0 ex (chB s (fun i=>1000+i) 0 S)))::A) (fun i=>some (cN j N i)) rfl rfl (Nat.ble_eq_true_of_le (by omega)) hn ?_ (iv _ fun r hr'=>?_) (jo _ fun a b k ha hb h1 h2=>?_) (by rw[cg]; exact hl) (fun i hi=>hρl i (by rw[cg]at hi; exact hi)) (fun i i' k hi hi' h1 h2=>?_) (fun i k hi h1 r hr' h2=>?_) (ka.le hρ _ he) ⟨⟨hrn,?_,?_⟩,eo.le hρ A hA⟩ (fun i row hrow=>?_))
 ·simp only[cU]
  rw[Nat.ble_eq_true_of_le (by omega:64≤1000+j)]; rfl
 ·exact qg (dJ (hkall r hr')).1
 ·rw[hρ a (hkall a ha)]at h1
  rw[hρ b (hkall b hb)]at h2
  cases h1
  cases h2
  rfl
 ·rw[cg]at hi hi'
  cases h1
  simp only[Option.some.injEq]at h2
  unfold cN at h2
  split at h2 <;> split at h2 <;> omega
 ·rw[cg]at hi
  cases h1
  have h3:=hkall r hr'
  rw[hρ r h3]at h2
  simp only[Option.some.injEq]at h2
  obtain⟨h4,h5⟩:=dJ h3
  unfold cN at h2
  split at h2
  ·exact h5 h2
  ·omega
 ·refine lY S 0 fun i hi=>?_
  omega
 ·rw[hρ r0 hr]
  refine⟨.lits tt 1 n0 ex (chB s (cN j N) 0 S),?_,aN.of_eq ?_⟩
  ·rw[←bg]
   simp only[aT,List.cons_append,aM]
   rw[if_neg (Ne.symm hr2)]
   simp
  ·simp only[Row.ren]
   rw[mN (τ':=cN j N) S 0 fun i hi=>by rw[Nat.zero_add]; exact hρl i hi]
 ·have hi:=(List.getElem?_eq_some_iff.1 hrow).1
  rw[ft]at hrow
  rw[cg]at hi
  cases hc:S[i]? with
  | none=>rw[hc]at hrow; cases hrow
  | some zs =>
   rw[hc]at hrow
   cases hrow
   refine⟨rfl,?_⟩
   by_cases h:i=j
   ·subst h
    rw[hS]at hc
    cases hc
    refine⟨.ds t s false enc ys,?_,aN.refl _⟩
    rw[jG,←bg]
    simp only[aT,List.cons_append,aM,if_pos]
   ·refine⟨.ds t s false enc zs,?_,aN.refl _⟩
    rw[lO h,←bg]
    exact hlk i _ (by rw[ft,List.getElem?_set_ne (Ne.symm h),hc]; rfl)
theorem Le.nilsL (A:Upds) (r0 k:Nat) (hk:k≤9000000) (hr:okn 999 r0=true) (hrn:Nat.blt r0 n=true) (hn:Nat.ble 10000000 n=true)
  (he:ka 999 env n env) (hA:eo 999 ((r0,some (.lits tt 1 k ex (dsAV (List.replicate k (.sc nil_)))))::A) n A)
  :
  Le (fw 1000 k) ⟨env,((r0,some (.lits tt 1 k ex (dsAV (List.replicate k (.sc nil_)))))::A),n,sz,64⟩ ⟨env,((r0,some (.lits tt 1 k ex (chB s (fun i=>1000+i) 0 (List.replicate k ([]:List α)))))::A++bZ 1000 (eV t s enc (List.replicate k []))),n,sz,64⟩:=by
 have hn2:=Nat.le_of_ble_eq_true hn
 obtain⟨hr1,hr2⟩:=dJ hr
 have hρ:∀r,okn 999 r=true→rho (fw 1000 k) r=some r:=fun r h=>by
  obtain⟨h1,h2⟩:=dJ h
  exact nh k 1000 r (by omega)
 have hkA:=eo.keys A hA
 have hkall:∀r∈aU ((r0,some (.lits tt 1 k ex (chB s (fun i=>1000+i) 0 (List.replicate k ([]:List α)))))::A),okn 999 r=true:=fun r hr'=>by
  simp only[aU,List.mem_cons]at hr'
  rcases hr' with rfl | hr'
  ·exact hr
  ·exact hkA r hr'
 refine (Le.list (h':=(r0,some (.lits tt 1 k ex (chB s (fun i=>1000+i) 0 (List.replicate k ([]:List α)))))::A) (fun _=>none) rfl rfl (Nat.ble_eq_true_of_le (by omega)) hn (kT _ _ (by decide)) (iv _ fun r hr'=>qg (dJ (hkall r hr')).1) (jo _ fun a b k ha hb h1 h2=>?_) (by rw[cg,List.length_replicate]; exact hk) (fun i hi=>by rw[cg,List.length_replicate]at hi; exact sM k 1000 i hi) (fun i i' k _ _ h1=>by cases h1) (fun i k hi h1=>by cases h1) (ka.le hρ _ he) ⟨⟨hrn,?_,?_⟩,eo.le hρ A hA⟩ (fun i row hrow=>?_))
 ·rw[hρ a (hkall a ha)]at h1
  rw[hρ b (hkall b hb)]at h2
  cases h1
  cases h2
  rfl
 ·refine lY _ 0 fun i hi=>?_
  rw[List.length_replicate]at hi
  omega
 ·rw[hρ r0 hr]
  refine⟨.lits tt 1 k ex (dsAV (List.replicate k (.sc nil_))),?_,aN.of_eq ?_⟩
  ·rw[←bg]
   simp only[aT,aM,if_pos]
  ·simp only[Row.ren]
   rw[rY k 0 fun i hi=>by rw[Nat.zero_add]; exact sM k 1000 i hi]
 ·rw[ft]at hrow
  cases hc:(List.replicate k ([]:List α))[i]? with
  | none=>rw[hc]at hrow; cases hrow
  | some zs =>
   rw[hc]at hrow
   cases hrow
   have:zs=[]:=(List.mem_replicate.1 (List.mem_of_getElem? hc)).2
   subst this
   exact⟨rfl,rfl⟩
end
end Go.Eng
namespace Go.Proofs.Ytkehohfgbblokaa
open Go.Eng Go.Plain
set_option maxHeartbeats 32000000
set_option maxRecDepth 20000
attribute [local irreducible] WC RegS RegD SeqQ BlkQ ScoQ RegK CutK Sat SatN FnIs LoopQ ak OpIs
theorem dD {α:Type} {t s:Nat} {enc:α→D} {S:List (List α)} {i:Nat} {row:Row} (h:(eV t s enc S)[i]?=some row):i<S.length:=by
 have:=(List.getElem?_eq_some_iff.1 h).1
 rwa [cg]at this
theorem iV {α:Type} {B:List (List α)} {t m n:Nat} {ex:Bool} (h:B.length≤9000000) (hn:10000000≤n):(Row.lits t 1 m ex (chB 1 (fun i=>1000+i) 0 B)).lt n=true :=
 lY B 0 fun i hi=>by omega
theorem ib {α:Type} {B:List (List α)} {t m n j N:Nat} {ex:Bool} (h:B.length≤9000000) (hn:10000000≤n) (hN:N<n):(Row.lits t 1 m ex (chB 1 (cN j N) 0 B)).lt n=true :=
 lY B 0 fun i hi=>by rw[Nat.zero_add]; unfold cN; split <;> omega
theorem oI {α:Type} {t s m i k:Nat} {ex:Bool} {τ:Nat→Nat} {S:List (List α)} {xs:List α} (hm:m=S.length) (h:S[i]?=some xs) (hk:τ i=k):RSub (.lits t 1 m ex (chB s τ 0 S)) [.idx i 1] (.own k 0 xs.length s none):=hk ▸ wm hm h
abbrev gA (l:List HOp) (b e:Int) (p:Prep) (sp:List (List aI)) (q:QS) (out:List Bool) (opn:List Int) (ext:List (Nat×Row)):List (Nat×Row):=[(65,.ds 4 1 true dY out),(67,zRow opn)]++ext++cw l b e p sp q 9
abbrev gC (n:Nat) (B:List (List Int)) (A:List (Nat×Row)):Upds:=(66,some (.lits 39 1 n true (chB 1 (fun i=>1000+i) 0 B)))::aD A++Go.Eng.bZ 1000 (eV 3 1 i6 B)
abbrev gO (n:Nat) (B:List (List Int)) (j m:Nat) (xs:List Int) (A:List (Nat×Row)):Upds:=(m,some (.ds 3 1 false i6 xs))::(66,some (.lits 39 1 n true (chB 1 (cN j m) 0 B)))::aD A++Go.Eng.bZ 1000 (eV 3 1 i6 (B.set j []))
abbrev gE1 (n i:Nat) (opn:List Int):Env:=[(30,.int .i64 i),(29,.int .i64 n),(28,.own 9 0 n 4 none),(0,.ptr 0 []),(3,.own 65 0 n 1 none),(4,.own 66 0 n 1 none),(5,.own 67 0 opn.length 1 none)]
abbrev gE2 (n i j:Nat) (ys:List aI) (opn:List Int):Env:=[(43,.int .i64 j),(42,.int .i64 ys.length),(41,.d (cD ys)),(6,.int .i64 i),(7,.ptr 68 [])]++gE1 n i opn
abbrev gE3 (n:Nat) (opn:List Int):Env:=[(0,.ptr 0 []),(3,.own 65 0 n 1 none),(4,.own 66 0 n 1 none),(5,.own 67 0 opn.length 1 none)]
abbrev gE4 (n j:Nat) (bk:List Int) (opn:List Int):Env:=[(100,.int .i64 j),(99,.int .i64 bk.length),(98,.own 69 0 bk.length 1 none)]++gE3 n opn
theorem xn (l:List HOp) (b:Int) (e:Nat) (p:Prep) (sp:List (List aI)) (q:QS) (P:POk l e p) (hS:∀y∈q.2,SOk p e y) (he:e≤1048576) (hsp:SpOk q.2 sp) (hN:q.2.length≤1048576) (h0:0<q.2.length) (hT:totS sp+1≤67108864):FnIs Try.prog 72 [.ptr 0 []] (cw l b e p sp q 9) (.own 64 0 q.2.length 1 none) ((64,.ds 4 1 true dY (dX p l e q.2 sp))::cw l b e p sp q 9):=by
 obtain⟨n,hn⟩:∃n,n=q.2.length:=⟨_,rfl⟩
 have hwe:IntKind.i64.wrap ((e:Int)-1)=(e:Int)-1:=bh (by omega) (by omega)
 refine aH aa Try.func72 rfl rfl rfl ?_;refine sR<|rC<|nR ?_;refine zU ?_;refine rQ iM ?_;refine rQ (bR aa rfl rfl) ?_;refine aX (eS (s:=1) (enc:=dY) (N:=q.2.length) aa false rfl rfl rfl rfl rfl rfl rfl hN rfl) rfl ?_;refine rC<|nR ?_;refine zU ?_;refine rQ iM ?_;refine rQ (bR aa rfl rfl) ?_;refine aX (eS (s:=1) (enc:=fun _:Unit=>.sc nil_) (N:=q.2.length) aa () rfl rfl rfl rfl rfl rfl rfl hN rfl) rfl ?_;refine rC<|nR ?_;refine rC<|zW ?_;refine zU ?_;refine rQ iM ?_;refine rQ (bR aa rfl rfl) ?_;refine rC<|zP ?_
 refine gn 10000000 [(65,some 112),(66,some 168),(67,none)] (env':=gE1 q.2.length 0 []) (h':=(66,some (.lits 39 1 q.2.length true (dsAV (List.replicate q.2.length (.sc nil_)))))::aD (gA l b e p sp q (List.replicate q.2.length false) [] []))
  (lg zf ⟨⟨rfl,un _,_,rfl,(by simp only[Row.ren,rK]; exact aN.nils rfl)⟩,zR,⟨rfl,rfl,rfl⟩,zR,zM,zM,zR,zM,zM,zM,zM,zM,zR,zR,trivial⟩) ?_
 refine gn 10000000 _ (Le.nilsL (s:=1) (t:=3) (enc:=i6) (aD (gA l b e p sp q (List.replicate q.2.length false) [] [])) 66 q.2.length (by omega) rfl rfl rfl ⟨rfl,rfl,rfl,rfl,rfl,rfl,rfl,rfl,rfl,rfl,rfl,rfl,rfl,rfl,rfl,rfl,rfl,rfl,rfl,rfl,rfl,trivial⟩ ⟨rfl,⟨rfl,rfl,rfl,rfl⟩,rfl,⟨rfl,rfl,rfl,rfl⟩,rfl,⟨rfl,rfl,rfl,rfl⟩,rfl,zK,rfl,zK,rfl,⟨rfl,rfl,rfl,rfl⟩,rfl,zK,rfl,zK,rfl,zK,rfl,zK,rfl,zK,rfl,⟨rfl,rfl,rfl,rfl⟩,rfl,⟨rfl,rfl,rfl,rfl⟩,trivial⟩) ?_
 refine wc_inv (fun s:Nat×GSt=>⟨gE1 q.2.length s.1 s.2.opn,gC q.2.length s.2.B (gA l b e p sp q s.2.out s.2.opn []),10000000,Try.f72.ntmps,64⟩) (fun s=>s.1≤n∧s.2=gdA p l e q.2 sp s.1∧BOk n (totS (sp.take s.1)) s.2.B∧OOk n s.2.out s.2.opn∧∀j,s.1≤j→j<n→s.2.out[j]?=some false) (fun s=>n-s.1) (0,gd0 q.2.length) [] ⟨Nat.zero_le _,rfl,⟨by simp[gd0,hn],fun b hb=>by rw[(List.mem_replicate.1 hb).2]; exact⟨Nat.zero_le _,fun k hk=>by cases hk⟩⟩,⟨by simp[gd0,hn],(fun k hk=>by cases hk),by show 0+cntF (List.replicate _ _)≤n; rw[rV]; omega⟩,fun j _ hj=>by show (List.replicate _ _)[j]?=_; rw[List.getElem?_replicate,if_pos (by omega)]⟩
  (Le.stayL rfl rfl rfl rfl rfl rfl rfl rfl (cV rfl) (show (List.replicate q.2.length ([]:List Int)).length≤9000000 by rw[List.length_replicate]; omega) zf ⟨⟨rfl,iV (show (List.replicate q.2.length ([]:List Int)).length≤9000000 by rw[List.length_replicate]; omega) (by decide),_,rfl,dx (ig rfl (show (List.replicate q.2.length ([]:List Int)).length≤9000000 by rw[List.length_replicate]; omega))⟩,zR,zR,zR,zM,zM,zR,zM,zM,zM,zM,zM,zR,zR,trivial⟩ (fun i9 row hr=>by have hi9:=dD hr; have hi8:=(show (List.replicate q.2.length ([]:List Int)).length≤9000000 by rw[List.length_replicate]; omega); repeat (first | exact da hr | refine farl rfl (Nat.lt_of_lt_of_le hi9 hi8) ?_))) ?_
 rintro⟨i,g⟩ ⟨hi,hg,hB,hO,hfr⟩
 simp only at hi hg hB hO hfr
 refine cj ?_
 show WC _ _ _ _ (gE1 q.2.length i g.opn) (gC q.2.length g.B (gA l b e p sp q g.out g.opn [])) _
 have hBl:g.B.length≤9000000:=by rw[hB.bl]; omega
 by_cases hlt:i<n
 ·have d1:decide ((i:Int)<(q.2.length:Int))=true:=dT (by omega)
  obtain⟨x,hx0⟩:∃x,q.2[i]?=some x:=⟨_,List.getElem?_eq_getElem (by omega)⟩
  have hx:q.2[((i:Int)).toNat]?=some x:=by rw[Int.toNat_natCast]; exact hx0
  obtain⟨ys,hys0⟩:∃ys,sp[i]?=some ys:=⟨_,List.getElem?_eq_getElem (by rw[hsp.len]; omega)⟩
  have hys:sp[((i:Int)).toNat]?=some ys:=by rw[Int.toNat_natCast]; exact hys0
  have hspl:i<sp.length:=by rw[hsp.len]; omega
  have hto:=hsp.to ys (List.mem_of_getElem? hys0)
  have htt:=lB hys0
  have htl:=mI sp (i+1)
  have hxS:=hS x (List.mem_of_getElem? hx0)
  have hfu:=nY l b e p sp q x P hxS
  have hstn:stN q.2 (i:Int)=x:=by rw[stN,hx]; rfl
  have hspn:spN sp (i:Int)=ys:=by rw[spN,hys]; rfl
  refine sR<|rC<|nQ ?_;refine wT<|zQ<|zS ?_;refine rC ?_;refine rQ (aL aa rfl rfl rfl rfl rfl (by omega) (by omega)) ?_;refine rQ (a9 (v :=.d (bT x)) aa rfl rfl ⟨rfl,x,hx,bT x,rfl,rfl⟩ rfl) ?_;refine rN ?_;refine rC ?_;refine rW<|zW ?_;refine zU ?_;refine rQ iM ?_;refine rC ?_;refine rQ (aL aa rfl rfl rfl rfl rfl (by omega) (by omega)) ?_;refine rQ (a9 (v :=.d (cD ys)) aa rfl rfl ⟨rfl,ys,hys,cD ys,rfl,rfl⟩ rfl) ?_;refine rQ iE ?_;refine rC<|zP ?_
  refine wc_inv (fun s:Nat×List (List Int)=>⟨gE2 q.2.length i s.1 ys g.opn,gC q.2.length s.2 (gA l b e p sp q g.out g.opn [(68,.box 141 (.d (bT x)))]),10000000,Try.f72.ntmps,64⟩) (fun s=>s.1≤ys.length∧s.2=(ys.take s.1).foldl (bkF i) g.B∧BOk n (totS (sp.take i)+s.1) s.2) (fun s=>ys.length-s.1) (0,g.B) [(65,some 65),(66,some 66),(67,some 67),(68,some 10000032)] ⟨Nat.zero_le _,rfl,hB⟩
   (Le.stayL rfl rfl rfl rfl rfl rfl rfl rfl (cV rfl) hBl za ⟨⟨rfl,iV hBl (by decide),_,rfl,dx (ig rfl hBl)⟩,zR,zR,zR,zR,zM,zM,zR,zM,zM,zM,zM,zM,zR,zR,trivial⟩ (fun i9 row hr=>by have hi9:=dD hr; have hi8:=hBl; repeat (first | exact da hr | refine farl rfl (Nat.lt_of_lt_of_le hi9 hi8) ?_))) ?_
  rintro⟨j,B⟩ ⟨hj,hBe,hB2⟩
  simp only at hj hBe hB2
  refine cj ?_
  show WC _ _ _ _ (gE2 q.2.length i j ys g.opn) (gC q.2.length B (gA l b e p sp q g.out g.opn [(68,.box 141 (.d (bT x)))])) _
  have hBl2:B.length≤9000000:=by rw[hB2.bl]; omega
  by_cases hjl:j<ys.length
  ·have d2:decide ((j:Int)<(ys.length:Int))=true:=dT (by omega)
   obtain⟨y,hy⟩:∃y,ys[j]?=some y:=⟨_,List.getElem?_eq_getElem hjl⟩
   have hy2:ys[((j:Int)).toNat]?=some y:=by rw[Int.toNat_natCast]; exact hy
   obtain⟨hy0,hy1⟩:=hto y (List.mem_of_getElem? hy)
   obtain⟨xs,hxs,hxl0,hxe⟩:=hB2.get (j:=y.to.toNat) (by omega)
   have hxl:xs.length+1≤134217728:=by omega
   have hBn:q.2.length=B.length:=by rw[hB2.bl]; exact hn.symm
   have hB3:=AO hB2 hlt hy0 (by omega)
   have hbe:=oB (f:=bkF i) hy g.B
   rw[←hBe]at hbe
   rw[xU (n:=n) (c:=totS (sp.take i)+j) hxs]at hbe hB3
   have hS3:(B.set y.to.toNat (xs++[(i:Int)]))[y.to.toNat]?=some (xs++[(i:Int)]):=by rw[List.getElem?_set_self (List.getElem?_eq_some_iff.1 hxs).1]
   have hss:(B.set y.to.toNat (xs++[(i:Int)])).set y.to.toNat []=B.set y.to.toNat []:=List.set_set ..
   have hBl3:(B.set y.to.toNat (xs++[(i:Int)])).length≤9000000:=by rw[List.length_set]; exact hBl2
   have hBl4:((B.set y.to.toNat (xs++[(i:Int)])).set y.to.toNat []).length≤9000000:=by rw[List.length_set]; exact hBl3
   refine gn 10000000 _ (Le.openL (aD (gA l b e p sp q g.out g.opn [(68,.box 141 (.d (bT x)))])) y.to.toNat 69 66 q.2.length xs hxs hBl2 rfl rfl rfl rfl rfl rfl ⟨rfl,rfl,rfl,rfl,rfl,rfl,rfl,rfl,rfl,rfl,rfl,rfl,rfl,rfl,rfl,rfl,rfl,rfl,rfl,rfl,rfl,rfl,rfl,rfl,rfl,rfl,rfl,rfl,rfl,rfl,rfl,rfl,rfl,rfl,rfl,rfl,trivial⟩ ⟨rfl,⟨rfl,rfl,rfl,rfl⟩,rfl,⟨rfl,rfl,rfl,rfl⟩,rfl,⟨rfl,rfl,rfl,rfl⟩,rfl,⟨rfl,rfl,rfl,rfl⟩,rfl,zK,rfl,zK,rfl,⟨rfl,rfl,rfl,rfl⟩,rfl,zK,rfl,zK,rfl,zK,rfl,zK,rfl,zK,rfl,⟨rfl,rfl,rfl,rfl⟩,rfl,⟨rfl,rfl,rfl,rfl⟩,trivial⟩)<|sR ?_;refine rC<|nQ ?_;refine wT<|zQ<|zS ?_;refine rQ (aA aa rfl rfl rfl rfl rfl (by omega) hy2) ?_;refine rQ iL ?_;refine rN ?_;refine rW<|nS ?_;refine aB (by kernel_rfl) ?_;refine dC [4] [] ?_;refine dC [9] [] ?_;refine dQ [48] [10000024] iB ?_;refine dC [4] [] ?_;refine dC [9] [] ?_;refine dQ [51] [10000024] iB ?_;refine dQ [50,52] [] (aL aa rfl rfl rfl rfl rfl hy0 (by omega)) ?_;refine dQ [53] [66] (a9 (v :=.own 69 0 xs.length 1 none) aa rfl rfl (oI hBn hxs jG) rfl) ?_;refine dC [6] [] ?_;refine fc [55] [] rfl (ay aa rfl rfl rfl rfl rfl rfl rfl rfl) ?_;refine iO [54,56] [69,10000112] rfl (sh (s:=1) (enc:=i6) (xs:=xs) aa ((i:Nat):Int) rfl rfl rfl rfl rfl rfl rfl rfl rfl hxl rfl) ?_;refine dQ [47,49] [] (aL aa rfl rfl rfl rfl rfl hy0 (by omega)) ?_;refine bC [58,57] [66] (aO aa rfl rfl rfl (wk (τ':=cN y.to.toNat 10000120) (ys:=xs++[((i:Nat):Int)]) hBn hxs jG (by simp) (fun k _ hk=>by rw[lO hk,lO hk])) rfl) ?_;refine ao (by kernel_rfl)<|zC<|ae ?_
   refine wu (env':=gE2 q.2.length i j ys g.opn) (h':=gO q.2.length (B.set y.to.toNat (xs++[(i:Int)])) y.to.toNat 69 (xs++[(i:Int)]) (gA l b e p sp q g.out g.opn [(68,.box 141 (.d (bT x)))])) [(65,some 65),(66,some 66),(67,some 67),(68,some 68),(69,some 10000120)] (Le.stayL rfl rfl rfl rfl rfl rfl rfl rfl (cV rfl) hBl4 za ⟨zR,⟨rfl,ib hBl3 (by decide) (by decide),_,rfl,dx (jA rfl hBl3 (by rfl))⟩,zR,zR,zR,zR,zM,zM,zR,zM,zM,zM,zM,zM,zR,zR,trivial⟩ (fun i9 row hr=>by have hi9:=dD hr; rw[hss]at hr; have hi8:=hBl4; repeat (first | exact da hr | refine farl rfl (Nat.lt_of_lt_of_le hi9 hi8) ?_))) ?_
   refine wu _ (Le.closeL (aD (gA l b e p sp q g.out g.opn [(68,.box 141 (.d (bT x)))])) y.to.toNat 69 66 q.2.length (xs++[(i:Int)]) hS3 hBl3 rfl rfl rfl rfl ⟨rfl,rfl,rfl,rfl,rfl,rfl,rfl,rfl,rfl,rfl,rfl,rfl,rfl,rfl,rfl,rfl,rfl,rfl,rfl,rfl,rfl,rfl,rfl,rfl,rfl,rfl,rfl,rfl,rfl,rfl,rfl,rfl,rfl,rfl,rfl,rfl,trivial⟩ ⟨rfl,⟨rfl,rfl,rfl,rfl⟩,rfl,⟨rfl,rfl,rfl,rfl⟩,rfl,⟨rfl,rfl,rfl,rfl⟩,rfl,⟨rfl,rfl,rfl,rfl⟩,rfl,zK,rfl,zK,rfl,⟨rfl,rfl,rfl,rfl⟩,rfl,zK,rfl,zK,rfl,zK,rfl,zK,rfl,zK,rfl,⟨rfl,rfl,rfl,rfl⟩,rfl,⟨rfl,rfl,rfl,rfl⟩,trivial⟩) ?_;refine rQ iD ?_;refine rC<|aq ?_
   exact aJ (j+1,B.set y.to.toNat (xs++[(i:Int)])) [(65,some 65),(66,some 66),(67,some 67),(68,some 68)] ⟨hjl,hbe.symm,hB3⟩ (by simp only; omega) (Le.stayL rfl rfl rfl rfl rfl rfl rfl rfl (cV rfl) hBl3 za ⟨⟨rfl,iV hBl3 (by decide),_,rfl,dx (ig rfl hBl3)⟩,zR,zR,zR,zR,zM,zM,zR,zM,zM,zM,zM,zM,zR,zR,trivial⟩ (fun i9 row hr=>by have hi9:=dD hr; have hi8:=hBl3; repeat (first | exact da hr | refine farl rfl (Nat.lt_of_lt_of_le hi9 hi8) ?_)))
  ·have d2:decide ((j:Int)<(ys.length:Int))=false:=dF (by omega)
   obtain rfl:j=ys.length:=by omega
   rw[List.take_length]at hBe
   have hB4:BOk n (totS (sp.take (i+1))) B:=by rw[htt]; exact hB2
   cases dE:decide (x.era=(e:Int)-1) with
   | false =>
    have hg1:gdA p l e q.2 sp (i+1)=⟨B,g.out,g.opn⟩:=by
     rw[gdA,←hg,gd1,hstn,hspn,endB,dE,Bool.false_and,if_neg (by decide),hBe]
    refine sR<|rC<|nQ ?_;refine wF<|zX<|aZ ?_;refine aB (by kernel_rfl) ?_;refine dC [7] [] ?_;refine dQ [60] [68] iB ?_;refine dC [0] [] ?_;refine dC [62] [] ?_;refine dC [63] [] ?_;refine dQ [64] [0] iM ?_;refine dQ [65] [] (dh (m:=(e:Int)-1) aa rfl rfl hwe) ?_;refine dC [61,66] [] ?_;refine dC [67] [] ?_;refine ab [68,0] rfl rfl (by assumption) rfl ?_;refine ab [68,7] rfl rfl (by assumption) rfl ?_;refine ab [68,69,70] rfl rfl (by assumption) rfl ?_;refine dQ [68,71] [] iF ?_;refine ao (by kernel_rfl)<|aK ?_;refine wG<|aS<|zC<|ae ?_;refine rQ iD ?_;refine rC<|aq ?_
    exact aJ (i+1,⟨B,g.out,g.opn⟩) [(65,some 65),(66,some 66),(67,some 67)] ⟨hlt,hg1.symm,hB4,hO,fun j h1 h2=>hfr j (by simp only at h1; omega) h2⟩ (by simp only; omega) (Le.stayL rfl rfl rfl rfl rfl rfl rfl rfl (cV rfl) hBl2 zf ⟨⟨rfl,iV hBl2 (by decide),_,rfl,dx (ig rfl hBl2)⟩,zR,zR,zR,zM,zM,zR,zM,zM,zM,zM,zM,zR,zR,trivial⟩ (fun i9 row hr=>by have hi9:=dD hr; have hi8:=hBl2; repeat (first | exact da hr | refine farl rfl (Nat.lt_of_lt_of_le hi9 hi8) ?_)))
   | true =>
    cases hf:ja l p.lo (zOf p x.era) x with
    | false =>
     rw[hf]at hfu
     have hg1:gdA p l e q.2 sp (i+1)=⟨B,g.out,g.opn⟩:=by
      rw[gdA,←hg,gd1,hstn,hspn,endB,dE,hf,Bool.true_and,if_neg (by decide),hBe]
     refine sR<|rC<|nQ ?_;refine wF<|zX<|aZ ?_;refine aB (by kernel_rfl) ?_;refine dC [7] [] ?_;refine dQ [60] [68] iB ?_;refine dC [0] [] ?_;refine dC [62] [] ?_;refine dC [63] [] ?_;refine dQ [64] [0] iM ?_;refine dQ [65] [] (dh (m:=(e:Int)-1) aa rfl rfl hwe) ?_;refine dC [61,66] [] ?_;refine dC [67] [] ?_;refine ai [68,0] [] rfl rfl (by assumption) rfl (aC aa (fun K hk=>hk)) ?_;refine ai [68,7] [68] rfl rfl (by assumption) rfl (aQ aa rfl rfl rfl rfl) ?_;refine cP [68,69,70] [0,1,2,3,4,5,6,7,8,9,10] rfl (.on rfl rfl dE (aY [] hfu rfl rfl rfl (aV rfl rfl (am aj)) ⟨zH,zN,zN,zH,zN,zN,zN,zN,zN,zH,zH,trivial⟩ rfl rfl (.inl rfl) rfl rfl)) rfl rfl ?_;refine dQ [68,71] [] iT ?_;refine ao (by kernel_rfl)<|aK ?_;refine wG<|aS<|zC<|ae ?_;refine rQ iD ?_;refine rC<|aq ?_
     exact aJ (i+1,⟨B,g.out,g.opn⟩) [(65,some 65),(66,some 66),(67,some 67)] ⟨hlt,hg1.symm,hB4,hO,fun j h1 h2=>hfr j (by simp only at h1; omega) h2⟩ (by simp only; omega) (Le.stayL rfl rfl rfl rfl rfl rfl rfl rfl (cV rfl) hBl2 zf ⟨⟨rfl,iV hBl2 (by decide),_,rfl,dx (ig rfl hBl2)⟩,zR,zR,zR,zM,zM,zR,zM,zM,zM,zM,zM,zR,zR,trivial⟩ (fun i9 row hr=>by have hi9:=dD hr; have hi8:=hBl2; repeat (first | exact da hr | refine farl rfl (Nat.lt_of_lt_of_le hi9 hi8) ?_)))
    | true =>
     rw[hf]at hfu
     have hg1:gdA p l e q.2 sp (i+1)=⟨B,g.out.set i true,g.opn++[(i:Int)]⟩:=by
      rw[gdA,←hg,gd1,hstn,hspn,endB,dE,hf,Bool.true_and,if_pos rfl,hBe]
     have hti:=hfr i (Nat.le_refl _) hlt
     have ht:g.out[((i:Int)).toNat]?=some false:=by rw[Int.toNat_natCast]; exact hti
     have hO2:=(hO.psh (k:=(i:Int)) (by omega) (by omega) ht).1
     rw[Int.toNat_natCast]at hO2
     have hol:g.opn.length+1≤1048576:=by have:=hO.cnt; have:=lj hti; omega
     refine sR<|rC<|nQ ?_;refine wF<|zX<|aZ ?_;refine aB (by kernel_rfl) ?_;refine dC [7] [] ?_;refine dQ [60] [68] iB ?_;refine dC [0] [] ?_;refine dC [62] [] ?_;refine dC [63] [] ?_;refine dQ [64] [0] iM ?_;refine dQ [65] [] (dh (m:=(e:Int)-1) aa rfl rfl hwe) ?_;refine dC [61,66] [] ?_;refine dC [67] [] ?_;refine ai [68,0] [] rfl rfl (by assumption) rfl (aC aa (fun K hk=>hk)) ?_;refine ai [68,7] [68] rfl rfl (by assumption) rfl (aQ aa rfl rfl rfl rfl) ?_;refine cP [68,69,70] [0,1,2,3,4,5,6,7,8,9,10] rfl (.on rfl rfl dE (aY [] hfu rfl rfl rfl (aV rfl rfl (am aj)) ⟨zH,zN,zN,zH,zN,zN,zN,zN,zN,zH,zH,trivial⟩ rfl rfl (.inl rfl) rfl rfl)) rfl rfl ?_;refine dQ [68,71] [] iT ?_;refine ao (by kernel_rfl)<|aK ?_;refine wV<|sR ?_;refine zD ?_;refine rQ (aL aa rfl rfl rfl rfl rfl (by omega) (by omega)) ?_;refine bS (aO aa rfl rfl rfl ⟨rfl,false,true,ht,⟨rfl,rfl,rfl⟩,rfl⟩ rfl)<|nS<|ae ?_;refine zD ?_;refine aX (ay aa rfl rfl rfl rfl rfl rfl rfl rfl) rfl ?_;refine aP (aR (s:=1) (enc:=i6) (xs:=g.opn) aa ((i:Nat):Int) rfl rfl rfl rfl rfl rfl rfl rfl rfl hol rfl) rfl ?_;refine rC<|aq<|zC<|ae ?_;refine rQ iD ?_;refine rC<|aq ?_
     exact aJ (i+1,⟨B,g.out.set i true,g.opn++[(i:Int)]⟩) [(65,some 65),(66,some 66),(67,some 10000168)] ⟨hlt,hg1.symm,hB4,hO2,fun j h1 h2=>by simp only at h1 ⊢; rw[List.getElem?_set_ne (by omega)]; exact hfr j (by omega) h2⟩ (by simp only; omega) (Le.stayL rfl rfl rfl rfl rfl rfl rfl rfl (cV rfl) hBl2 ⟨zE,rfl,zE,rfl,zE,rfl,zE,rfl,zE,rfl,zE,rfl,⟨_,rfl,AVLe.of_eq (by simp only[List.length_append,List.length_singleton]; rfl)⟩,rfl,trivial⟩ ⟨⟨rfl,iV hBl2 (by decide),_,rfl,dx (ig rfl hBl2)⟩,zR,zR,zR,zM,zM,zR,zM,zM,zM,zM,zM,zR,zR,trivial⟩ (fun i9 row hr=>by have hi9:=dD hr; have hi8:=hBl2; repeat (first | exact da hr | refine farl rfl (Nat.lt_of_lt_of_le hi9 hi8) ?_)))
 ·have d1:decide ((i:Int)<(q.2.length:Int))=false:=dF (by omega)
  obtain rfl:i=n:=by omega
  have hgd:dX p l e q.2 sp=popG g.B (i+1) g.out g.opn:=by rw[dX,←hn,←hg]
  obtain⟨B,hBd⟩:∃B,B=g.B:=⟨_,rfl⟩
  obtain⟨b0,hb0,_,_⟩:=hB.get (j:=0) (by omega)
  rw[←hBd]at hB hBl hb0 hgd
  have hBn:q.2.length=B.length:=by rw[hB.bl]; exact hn.symm
  refine sR<|rC<|nQ ?_;refine wF<|zX<|aZ<|bQ ?_
  refine gn 10000000 [(65,some 65),(66,some 66),(67,some 67)] (env':=gE3 q.2.length g.opn) (h':=gC q.2.length B (gA l b e p sp q g.out g.opn [])) (Le.stayL rfl rfl rfl rfl rfl rfl rfl rfl (cV rfl) hBl zi ⟨⟨rfl,iV hBl (by decide),_,rfl,(by rw[hBd]; exact dx (ig rfl (hBd ▸ hBl)))⟩,zR,zR,zR,zM,zM,zR,zM,zM,zM,zM,zM,zR,zR,trivial⟩ (fun i9 row hr=>by have hi9:=dD hr; rw[hBd]at hr; have hi8:=hBl; repeat (first | exact da hr | refine farl rfl (Nat.lt_of_lt_of_le hi9 hi8) ?_))) ?_
  refine gn 10000000 _ (Le.openL (aD (gA l b e p sp q g.out g.opn [])) 0 69 66 q.2.length b0 hb0 hBl rfl rfl rfl rfl rfl rfl ⟨rfl,rfl,rfl,rfl,rfl,rfl,rfl,rfl,rfl,rfl,rfl,rfl,trivial⟩ ⟨rfl,⟨rfl,rfl,rfl,rfl⟩,rfl,⟨rfl,rfl,rfl,rfl⟩,rfl,⟨rfl,rfl,rfl,rfl⟩,rfl,zK,rfl,zK,rfl,⟨rfl,rfl,rfl,rfl⟩,rfl,zK,rfl,zK,rfl,zK,rfl,zK,rfl,zK,rfl,⟨rfl,rfl,rfl,rfl⟩,rfl,⟨rfl,rfl,rfl,rfl⟩,trivial⟩) ?_
  refine wc_inv (fun s:Nat×List Bool×List Int×Nat×List Int=>⟨gE3 q.2.length s.2.2.1,gO q.2.length B s.2.2.2.1 69 s.2.2.2.2 (gA l b e p sp q s.2.1 s.2.2.1 []),10000000,Try.f72.ntmps,64⟩) (fun s=>popG B s.1 s.2.1 s.2.2.1=dX p l e q.2 sp∧OOk i s.2.1 s.2.2.1∧s.2.2.1.length+cntF s.2.1<s.1∧B[s.2.2.2.1]?=some s.2.2.2.2) (fun s=>s.2.2.1.length+cntF s.2.1) (i+1,g.out,g.opn,0,b0) [(65,some 65),(66,some 66),(67,some 67),(69,some 69)] ⟨hgd.symm,hO,by have:=hO.cnt; simp only; omega,hb0⟩
   (Le.stayL rfl rfl rfl rfl rfl rfl rfl rfl (cV rfl) (show (B.set 0 []).length≤9000000 by rw[List.length_set]; exact hBl) zi ⟨zR,⟨rfl,ib hBl (by decide) (by decide),_,rfl,dx (jA rfl hBl (by rfl))⟩,zR,zR,zR,zM,zM,zR,zM,zM,zM,zM,zM,zR,zR,trivial⟩ (fun i9 row hr=>by have hi9:=dD hr; have hi8:=(show (B.set 0 []).length≤9000000 by rw[List.length_set]; exact hBl); repeat (first | exact da hr | refine farl rfl (Nat.lt_of_lt_of_le hi9 hi8) ?_))) ?_
  rintro⟨k,out,opn,j,xs⟩ ⟨hpop,hO,hk,hxs⟩
  simp only at hpop hO hk hxs
  refine cj ?_
  show WC _ _ _ _ (gE3 q.2.length opn) (gO q.2.length B j 69 xs (gA l b e p sp q out opn [])) _
  have hcnt:=hO.cnt
  have htl:=mI sp i
  cases hgl:opn.getLast? with
  | none =>
   have hol0:opn=[]:=List.getLast?_eq_none_iff.1 hgl
   subst hol0
   have hgo:dX p l e q.2 sp=out:=by
    rw[←hpop]
    cases k with
    | zero=>rfl
    | succ k=>rfl
   rw[hgo]
   refine qR<|rC ?_;refine rQ (bR aa rfl rfl) ?_;refine rC ?_;refine zJ<|ci<|dU<|fl<|dZ<|aK<|sR ?_;refine zD<|zT ?_
   exact⟨trivial,[(64,some 65)],lg zV ⟨zR,zR,zM,zM,zR,zM,zM,zM,zM,zM,zR,zR,trivial⟩⟩
  | some iI =>
   obtain⟨k2,rfl⟩:∃k2,k=k2+1:=⟨k-1,by omega⟩
   rw[popG,hgl]at hpop
   simp only at hpop
   have hne:opn≠[]:=fun e=>by rw[e]at hgl; cases hgl
   have hlen:0<opn.length:=List.length_pos_iff.2 hne
   have hlast0:opn[opn.length-1]?=some iI:=by rw[←List.getLast?_eq_getElem?]; exact hgl
   have hlast:opn[(((opn.length-1:Nat):Int)).toNat]?=some iI:=by rw[Int.toNat_natCast]; exact hlast0
   obtain⟨hi0,hi1⟩:=hO.oe iI (List.mem_of_getElem? hlast0)
   obtain⟨bk,hbk,hbkl,hbke⟩:=hB.get (j:=iI.toNat) (by omega)
   rw[hbk]at hpop
   simp only[Option.getD_some]at hpop
   have d3:decide ((0:Int)<(opn.length:Int))=true:=dT (by omega)
   have hw87:IntKind.i64.wrap ((opn.length:Int)-1)=((opn.length-1:Nat):Int):=by rw[bh (by omega) (by omega)]; omega
   refine gn 10000000 _ (Le.closeL (aD (gA l b e p sp q out opn [])) j 69 66 q.2.length xs hxs hBl rfl rfl rfl rfl ⟨rfl,rfl,rfl,rfl,rfl,rfl,rfl,rfl,rfl,rfl,rfl,rfl,trivial⟩ ⟨rfl,⟨rfl,rfl,rfl,rfl⟩,rfl,⟨rfl,rfl,rfl,rfl⟩,rfl,⟨rfl,rfl,rfl,rfl⟩,rfl,zK,rfl,zK,rfl,⟨rfl,rfl,rfl,rfl⟩,rfl,zK,rfl,zK,rfl,zK,rfl,zK,rfl,zK,rfl,⟨rfl,rfl,rfl,rfl⟩,rfl,⟨rfl,rfl,rfl,rfl⟩,trivial⟩) ?_;refine gn 10000000 _ (Le.openL (aD (gA l b e p sp q out opn [])) iI.toNat 69 66 q.2.length bk hbk hBl rfl rfl rfl rfl rfl rfl ⟨rfl,rfl,rfl,rfl,rfl,rfl,rfl,rfl,rfl,rfl,rfl,rfl,trivial⟩ ⟨rfl,⟨rfl,rfl,rfl,rfl⟩,rfl,⟨rfl,rfl,rfl,rfl⟩,rfl,⟨rfl,rfl,rfl,rfl⟩,rfl,zK,rfl,zK,rfl,⟨rfl,rfl,rfl,rfl⟩,rfl,zK,rfl,zK,rfl,zK,rfl,zK,rfl,zK,rfl,⟨rfl,rfl,rfl,rfl⟩,rfl,⟨rfl,rfl,rfl,rfl⟩,trivial⟩)<|qR ?_;refine rC ?_;refine rQ (bR aa rfl rfl) ?_;refine rC ?_;refine zI<|kS<|zS ?_;refine zD ?_;refine rQ (bR aa rfl rfl) ?_;refine rQ (dh (m:=((opn.length-1:Nat):Int)) aa rfl rfl hw87) ?_;refine rQ (aL aa rfl rfl rfl rfl rfl (by omega) (by omega)) ?_;refine rQ (a9 (v :=.int .i64 iI) aa rfl rfl ⟨rfl,iI,hlast,_,rfl,rfl⟩ rfl) ?_;refine rC<|nR ?_;refine zD ?_;refine rQ (bR aa rfl rfl) ?_;refine rQ (dh (m:=((opn.length-1:Nat):Int)) aa rfl rfl hw87) ?_;refine rQ (pO (m:=opn.length-1) aa rfl rfl rfl rfl (by omega)) ?_;refine rC<|nR ?_;refine zD ?_;refine rQ (aL aa rfl rfl rfl rfl rfl hi0 (by omega)) ?_;refine rQ (a9 (v :=.own 69 0 bk.length 1 none) aa rfl rfl (oI hBn hbk jG) rfl) ?_;refine rQ (bR aa rfl rfl) ?_;refine rC<|zP ?_
   refine wc_inv (fun s:Nat×List Bool×List Int=>⟨gE4 q.2.length s.1 bk s.2.2,gO q.2.length B iI.toNat 69 bk (gA l b e p sp q s.2.1 s.2.2 []),10000000,Try.f72.ntmps,64⟩) (fun s=>s.1≤bk.length∧(s.2.1,s.2.2)=(bk.take s.1).foldl pshF (out,opn.dropLast)∧OOk i s.2.1 s.2.2∧s.2.2.length+cntF s.2.1+1=opn.length+cntF out) (fun s=>bk.length-s.1) (0,out,opn.dropLast) [(65,some 65),(66,some 66),(67,some 67),(69,some 69)] ⟨Nat.zero_le _,rfl,hO.pop,by simp only; rw[List.length_dropLast]; omega⟩
    (Le.stayL rfl rfl rfl rfl rfl rfl rfl rfl (cV rfl) (show (B.set iI.toNat []).length≤9000000 by rw[List.length_set]; exact hBl) ⟨zE,rfl,zE,rfl,zE,rfl,zE,rfl,zE,rfl,zE,rfl,⟨_,rfl,AVLe.of_eq (by rw[List.length_dropLast]; rfl)⟩,rfl,trivial⟩ ⟨zR,⟨rfl,ib hBl (by decide) (by decide),_,rfl,dx (jA rfl hBl (by rfl))⟩,zR,⟨rfl,rfl,_,rfl,(by rw[List.dropLast_eq_take]; exact aN.ds_take)⟩,zR,zM,zM,zR,zM,zM,zM,zM,zM,zR,zR,trivial⟩ (fun i9 row hr=>by have hi9:=dD hr; have hi8:=(show (B.set iI.toNat []).length≤9000000 by rw[List.length_set]; exact hBl); repeat (first | exact da hr | refine farl rfl (Nat.lt_of_lt_of_le hi9 hi8) ?_))) ?_
   rintro⟨j4,out4,opn4⟩ ⟨hj4,hf4,hO4,hc4⟩
   simp only at hj4 hf4 hO4 hc4
   refine cj ?_
   show WC _ _ _ _ (gE4 q.2.length j4 bk opn4) (gO q.2.length B iI.toNat 69 bk (gA l b e p sp q out4 opn4 [])) _
   by_cases hjl:j4<bk.length
   ·have d4:decide ((j4:Int)<(bk.length:Int))=true:=dT (by omega)
    obtain⟨kI,hkI⟩:∃kI,bk[j4]?=some kI:=⟨_,List.getElem?_eq_getElem hjl⟩
    have hk2:bk[((j4:Int)).toNat]?=some kI:=by rw[Int.toNat_natCast]; exact hkI
    obtain⟨hk0,hk1⟩:=hbke kI (List.mem_of_getElem? hkI)
    have hts:=oB (f:=pshF) hkI (out,opn.dropLast)
    rw[←hf4]at hts
    obtain⟨c,ht⟩:=hO4.get hk0 hk1
    clear hw87 hlast d3 hpop hlast0
    cases c with
    | true =>
     rw[wB ht]at hts
     refine sR<|rC<|nQ ?_;refine wT<|zQ<|zS ?_;refine rQ (aL aa rfl rfl rfl rfl rfl (by omega) (by omega)) ?_;refine rQ (a9 (v :=.int .i64 kI) aa rfl rfl ⟨rfl,kI,hk2,_,rfl,rfl⟩ rfl) ?_;refine rC<|nR ?_;refine zD ?_;refine rQ (aL aa rfl rfl rfl rfl rfl hk0 (by omega)) ?_;refine rQ (a9 aa rfl rfl ⟨rfl,_,ht,_,rfl,rfl⟩ rfl) ?_;refine rC<|nS ?_;refine wG<|aS<|zC<|ae ?_;refine rQ iD ?_;refine rC<|aq ?_
     exact aJ (j4+1,out4,opn4) [(65,some 65),(66,some 66),(67,some 67),(69,some 69)] ⟨hjl,hts.symm,hO4,hc4⟩ (by simp only; omega) (Le.stayL rfl rfl rfl rfl rfl rfl rfl rfl (cV rfl) (show (B.set iI.toNat []).length≤9000000 by rw[List.length_set]; exact hBl) zf ⟨zR,⟨rfl,ib hBl (by decide) (by decide),_,rfl,dx (jA rfl hBl (by rfl))⟩,zR,zR,zR,zM,zM,zR,zM,zM,zM,zM,zM,zR,zR,trivial⟩ (fun i9 row hr=>by have hi9:=dD hr; have hi8:=(show (B.set iI.toNat []).length≤9000000 by rw[List.length_set]; exact hBl); repeat (first | exact da hr | refine farl rfl (Nat.lt_of_lt_of_le hi9 hi8) ?_)))
    | false =>
     rw[wC ht]at hts
     obtain⟨hO5,hc5⟩:=hO4.psh hk0 hk1 ht
     have hol:opn4.length+1≤1048576:=by have:=hO4.cnt; omega
     refine sR<|rC<|nQ ?_;refine wT<|zQ<|zS ?_;refine rQ (aL aa rfl rfl rfl rfl rfl (by omega) (by omega)) ?_;refine rQ (a9 (v :=.int .i64 kI) aa rfl rfl ⟨rfl,kI,hk2,_,rfl,rfl⟩ rfl) ?_;refine rC<|nR ?_;refine zD ?_;refine rQ (aL aa rfl rfl rfl rfl rfl hk0 (by omega)) ?_;refine rQ (a9 aa rfl rfl ⟨rfl,_,ht,_,rfl,rfl⟩ rfl) ?_;refine rC<|nS ?_;refine wV<|sR ?_;refine zD ?_;refine rQ (aL aa rfl rfl rfl rfl rfl hk0 (by omega)) ?_;refine bS (aO aa rfl rfl rfl ⟨rfl,false,true,ht,⟨rfl,rfl,rfl⟩,rfl⟩ rfl)<|nS<|ae ?_;refine zD ?_;refine aX (ay aa rfl rfl rfl rfl rfl rfl rfl rfl) rfl ?_;refine aP (aR (s:=1) (enc:=i6) (xs:=opn4) aa kI rfl rfl rfl rfl rfl rfl rfl rfl rfl hol rfl) rfl ?_;refine rC<|aq<|zC<|ae ?_;refine rQ iD ?_;refine rC<|aq ?_
     exact aJ (j4+1,out4.set kI.toNat true,opn4++[kI]) [(65,some 65),(66,some 66),(67,some 10000128),(69,some 69)] ⟨hjl,hts.symm,hO5,by simp only at hc5 ⊢; omega⟩ (by simp only; omega) (Le.stayL rfl rfl rfl rfl rfl rfl rfl rfl (cV rfl) (show (B.set iI.toNat []).length≤9000000 by rw[List.length_set]; exact hBl) ⟨zE,rfl,zE,rfl,zE,rfl,zE,rfl,zE,rfl,zE,rfl,⟨_,rfl,AVLe.of_eq (by simp only[List.length_append,List.length_singleton]; rfl)⟩,rfl,trivial⟩ ⟨zR,⟨rfl,ib hBl (by decide) (by decide),_,rfl,dx (jA rfl hBl (by rfl))⟩,zR,zR,zR,zM,zM,zR,zM,zM,zM,zM,zM,zR,zR,trivial⟩ (fun i9 row hr=>by have hi9:=dD hr; have hi8:=(show (B.set iI.toNat []).length≤9000000 by rw[List.length_set]; exact hBl); repeat (first | exact da hr | refine farl rfl (Nat.lt_of_lt_of_le hi9 hi8) ?_)))
   ·have d4:decide ((j4:Int)<(bk.length:Int))=false:=dF (by omega)
    obtain rfl:j4=bk.length:=by omega
    rw[List.take_length]at hf4
    rw[←hf4]at hpop
    refine sR<|rC<|nQ ?_;refine wF<|ci<|dU<|fl<|dZ<|gJ ?_
    exact aJ (k2,out4,opn4,iI.toNat,bk) [(65,some 65),(66,some 66),(67,some 67),(69,some 69)] ⟨hpop,hO4,by simp only; omega,hbk⟩ (by simp only; omega) (Le.stayL rfl rfl rfl rfl rfl rfl rfl rfl (cV rfl) (show (B.set iI.toNat []).length≤9000000 by rw[List.length_set]; exact hBl) zi ⟨zR,⟨rfl,ib hBl (by decide) (by decide),_,rfl,dx (jA rfl hBl (by rfl))⟩,zR,zR,zR,zM,zM,zR,zM,zM,zM,zM,zM,zR,zR,trivial⟩ (fun i9 row hr=>by have hi9:=dD hr; have hi8:=(show (B.set iI.toNat []).length≤9000000 by rw[List.length_set]; exact hBl); repeat (first | exact da hr | refine farl rfl (Nat.lt_of_lt_of_le hi9 hi8) ?_)))
theorem yl (l:List Int):∀(a:List Bool×List Int),(l.foldl pshF a).1.length=a.1.length:=by
 induction l with
 | nil=>intro a; rfl
 | cons k l ih =>
  intro a
  rw[List.foldl_cons,ih]
  unfold pshF
  split
  ·rfl
  ·rw[List.length_set]
theorem qP (B:List (List Int)):∀(k:Nat) (out:List Bool) (opn:List Int),(popG B k out opn).length=out.length
 | 0,_,_=>rfl
 | k+1,out,opn=>by
  unfold popG
  split
  ·rfl
  ·rw[qP B k,yl]
theorem uc (p:Prep) (l:List HOp) (e:Nat) (st:List LSt) (sp:List (List aI)):∀i,(gdA p l e st sp i).out.length=st.length
 | 0=>by simp[gdA,gd0]
 | i+1=>by
  have:=uc p l e st sp i
  unfold gdA gd1
  split
  ·rw[List.length_set]; exact this
  ·exact this
theorem nW (p:Prep) (l:List HOp) (e:Nat) (st:List LSt) (sp:List (List aI)):(dX p l e st sp).length=st.length:=by
 rw[dX,qP,uc]
theorem yK (l:List HOp) (b:Int) (e:Nat) (p:Prep) (sp:List (List aI)) (q:QS) (P:POk l e p) (hS:∀y∈q.2,SOk p e y) (he:e≤1048576) (hsp:SpOk q.2 sp) (hN:q.2.length≤1048576) (h0:0<q.2.length) (hT:totS sp+1≤67108864):FnIs Try.prog 72 [.ptr 0 []] (cw l b e p sp q 9) (.d (.arr 1 dY (dX p l e q.2 sp))) (cw l b e p sp q 9):=
 (xn l b e p sp q P hS he hsp hN h0 hT).freeze_out 64 _ rfl (Frz.own (nW p l e q.2 sp).symm) ⟨zF,zF,zF,zF,zF,zF,zF,zF,zF,zF,zF,trivial⟩
def x4 (st:List LSt) (sp:List (List aI)):Prop:=∀(i:Nat) (x:LSt) (ys:List aI),st[i]?=some x→sp[i]?=some ys→∀y∈ys,y.op<0→∃x',st[y.to.toNat]?=some x'∧x'.era=x.era+1
theorem vD {p:aI→Bool} {l:List aI} {j:Nat} {y:aI} (h:l[j]?=some y):(l.drop j).find? p=if p y=true then some y else (l.drop (j+1)).find? p:=by
 rw[List.drop_eq_getElem_cons (List.getElem?_eq_some_iff.1 h).1,(List.getElem?_eq_some_iff.1 h).2,List.find?_cons]
 cases p y <;> rfl
abbrev eE (ys:List aI) (j:Nat):Env:=[(34,.int .i64 j),(33,.int .i64 ys.length),(32,.d (cD ys)),(0,.ptr 0 [])]
theorem uj (l:List HOp) (b:Int) (e:Nat) (p:Prep) (sp:List (List aI)) (q:QS) (P:POk l e p) (hS:∀y∈q.2,SOk p e y) (he:e≤1048576) (hsp:SpOk q.2 sp) (hE:x4 q.2 sp) (hT:totS sp+1≤67108864):∀(n:Nat) (i:Int) (x:LSt),0≤i→q.2[i.toNat]?=some x→(e:Int)≤x.era+n→FnIs Try.prog 73 [.ptr 0 [],.int .i64 i] (cw l b e p sp q 9) (.bool (la p l e q.2 sp n i)) (cw l b e p sp q 9)
 | 0,i,x,_,hx,hn=>by have:=(hS x (List.mem_of_getElem? hx)).era; omega
 | n+1,i,x,hi0,hx,hn=>by
  have hxS:=hS x (List.mem_of_getElem? hx)
  have hxl:=(List.getElem?_eq_some_iff.1 hx).1
  have hera:=hxS.era
  have hwe:IntKind.i64.wrap ((e:Int)-1)=(e:Int)-1:=bh (by omega) (by omega)
  have hspl:=hsp.len
  have hfu:=nY l b e p sp q x P hxS
  have hstn:stN q.2 i=x:=by rw[stN,hx]; rfl
  rw[la,hstn]
  refine aH aa Try.func73 rfl rfl rfl ?_
  cases d1:decide (x.era=(e:Int)-1) with
  | true =>
   rw[if_pos rfl]
   refine sR<|rC<|nR ?_;refine zU ?_;refine rQ iM ?_;refine rC ?_;refine rQ (aL aa rfl rfl rfl rfl rfl hi0 (by omega)) ?_;refine rQ (a9 (v :=.d (bT x)) aa rfl rfl ⟨rfl,x,hx,bT x,rfl,rfl⟩ rfl) ?_;refine rN ?_;refine rW<|nQ<|aZ ?_;refine aB (by kernel_rfl) ?_;refine dC [5] [] ?_;refine dQ [15] [128] iB ?_;refine dC [0] [] ?_;refine dC [17] [] ?_;refine dC [18] [] ?_;refine dQ [19] [0] iM ?_;refine dQ [20] [] (dh (m:=(e:Int)-1) aa rfl rfl hwe) ?_;refine dC [16,21] [] ?_;refine ao (by kernel_rfl)<|aK ?_;refine wT<|sR ?_;refine rC ?_;refine rQ iM ?_;refine bJ rfl (aY [] hfu rfl rfl rfl (aV rfl rfl (am aj)) ⟨zH,zN,zN,zH,zN,zN,zN,zN,zN,zH,zH,trivial⟩ rfl rfl (.inl rfl) rfl rfl) rfl rfl ?_;refine rC<|zT<|bX ?_
   exact⟨trivial,[],lg zV ⟨zR,zM,zM,zR,zM,zM,zM,zM,zM,zR,zR,trivial⟩⟩
  | false =>
   rw[if_neg (by decide)]
   obtain⟨ys,hys⟩:∃ys,sp[i.toNat]?=some ys:=⟨_,List.getElem?_eq_getElem (by omega)⟩
   have hspn:spN sp i=ys:=by rw[spN,hys]; rfl
   have hyl:ys.length≤67108864:=by have h1:=lB hys; have h2:=mI sp (i.toNat+1); omega
   rw[hspn]
   refine sR<|rC<|nR ?_;refine zU ?_;refine rQ iM ?_;refine rC ?_;refine rQ (aL aa rfl rfl rfl rfl rfl hi0 (by omega)) ?_;refine rQ (a9 (v :=.d (bT x)) aa rfl rfl ⟨rfl,x,hx,bT x,rfl,rfl⟩ rfl) ?_;refine rN ?_;refine rW<|nQ<|aZ ?_;refine aB (by kernel_rfl) ?_;refine dC [5] [] ?_;refine dQ [15] [128] iB ?_;refine dC [0] [] ?_;refine dC [17] [] ?_;refine dC [18] [] ?_;refine dQ [19] [0] iM ?_;refine dQ [20] [] (dh (m:=(e:Int)-1) aa rfl rfl hwe) ?_;refine dC [16,21] [] ?_;refine ao (by kernel_rfl)<|aK ?_;refine wF<|kS<|qR ?_;refine zU ?_;refine rQ iM ?_;refine rC ?_;refine rQ (aL aa rfl rfl rfl rfl rfl hi0 (by omega)) ?_;refine rQ (a9 (v :=.d (cD ys)) aa rfl rfl ⟨rfl,ys,hys,cD ys,rfl,rfl⟩ rfl) ?_;refine rQ iE ?_;refine rC<|zP ?_
   refine wc_inv (fun j:Nat=>⟨eE ys j,aD (cw l b e p sp q 9),72,Try.f73.ntmps,64⟩) (fun j=>j≤ys.length∧(ys.drop j).find? (fun y=>decide (y.op<0))=ys.find? (fun y=>decide (y.op<0))) (fun j=>ys.length-j) 0 [] ⟨Nat.zero_le _,rfl⟩
    (lg zi ⟨zR,zM,zM,zR,zM,zM,zM,zM,zM,zR,zR,trivial⟩) ?_
   rintro j ⟨hj,hfd⟩
   refine cj ?_
   show WC _ _ _ _ (eE ys j) (aD (cw l b e p sp q 9)) _
   by_cases hjl:j<ys.length
   ·have d2:decide ((j:Int)<(ys.length:Int))=true:=dT (by omega)
    obtain⟨y,hy⟩:∃y,ys[j]?=some y:=⟨_,List.getElem?_eq_getElem hjl⟩
    have hy2:ys[((j:Int)).toNat]?=some y:=by rw[Int.toNat_natCast]; exact hy
    have hym:=List.mem_of_getElem? hy
    rw[vD hy]at hfd
    cases d3:decide (y.op<0) with
    | true =>
     rw[d3,if_pos rfl]at hfd
     rw[←hfd]
     obtain⟨x2,hx2,hx2e⟩:=hE i.toNat x ys hx hys y hym (of_decide_eq_true d3)
     have hre:=uj l b e p sp q P hS he hsp hE hT n y.to x2 (hsp.to ys (List.mem_of_getElem? hys) y hym).1 hx2 (by omega)
     refine sR<|rC<|nQ ?_;refine wT<|zQ<|zS ?_;refine rQ (aA aa rfl rfl rfl rfl rfl (by omega) hy2) ?_;refine rQ iL ?_;refine rN ?_;refine rW<|nR ?_;refine rC ?_;refine rQ iB ?_;refine rC ?_;refine zI<|sR ?_;refine zD ?_;refine rQ iB ?_;refine bJ rfl (aY [] hre rfl rfl rfl (aV rfl rfl (am aj)) ⟨zH,zN,zN,zH,zN,zN,zN,zN,zN,zH,zH,trivial⟩ rfl rfl (.inl rfl) rfl rfl) rfl rfl ?_;refine rC<|zT<|zB<|ef<|zB ?_
     exact⟨trivial,[],lg zV ⟨zR,zM,zM,zR,zM,zM,zM,zM,zM,zR,zR,trivial⟩⟩
    | false =>
     rw[d3,if_neg (by decide)]at hfd
     refine sR<|rC<|nQ ?_;refine wT<|zQ<|zS ?_;refine rQ (aA aa rfl rfl rfl rfl rfl (by omega) hy2) ?_;refine rQ iL ?_;refine rN ?_;refine rW<|nR ?_;refine rC ?_;refine rQ iB ?_;refine rC ?_;refine zG<|aS<|zC<|ae ?_;refine rQ iD ?_;refine rC<|aq ?_
     exact aJ (j+1) [] ⟨hjl,hfd⟩ (by omega) (lg zi ⟨zR,zM,zM,zR,zM,zM,zM,zM,zM,zR,zR,trivial⟩)
   ·have d2:decide ((j:Int)<(ys.length:Int))=false:=dF (by omega)
    rw[List.drop_eq_nil_of_le (by omega)]at hfd
    rw[←hfd]
    refine sR<|rC<|nQ ?_;refine wF<|zX<|sR ?_;refine rC<|zT ?_
    exact⟨trivial,[],lg zV ⟨zR,zM,zM,zR,zM,zM,zM,zM,zM,zR,zR,trivial⟩⟩
end Go.Proofs.Ytkehohfgbblokaa
namespace Go.Eng
open Go.RowKit
section
variable {P : Program} {T : Tab} {sz : Nat} {env : Env} {h : Upds} {n : Nat}
theorem ob (hT:an P T) {t e r2:Nat} {re:TyR} {s:Nat} {ex2:Bool} {cap2:Option Nat} {α:Type} {enc:α→D} {x y:Operand} {d:D} (el:α) (ht:bt T t=some (.slice e)) (he:lk T e=some re) (hs:Nat.beq re.size s=true)
  {v:AV} (hx:au env x=some v) (hv:v=.empty∨v=.d (.sc (.slice none 0 0))) (hy:au env y=some (.own r2 0 1 s cap2)) (hrow2:aT h r2=some (.lits e s 1 ex2 (.acons (.d d) .anil))) (hd:d=enc el) (hbytes:Nat.ble re.bytes 134217728=true) :
  ak P (.call { callee :=.builtin .append,args := #[x,y],argTypes := #[t,t] }) env h n (some (.own n 0 1 s none)) [(n,some (.ds e s false enc [el]))]:=by
 have hb:=Nat.le_of_ble_eq_true hbytes
 refine lw (ys:=[el]) hT ht he (Nat.eq_of_beq_eq_true hs) hx hv (by simp) (by simp[maxLen]) (by simp; omega) ?_
 intro C G st σ w a hA hst
 obtain⟨hy1,_⟩:=aw hst (hA.ev hy)
 have hr2:=hst.rows r2 _ (hA.row _ _ hrow2)
 rcases RelV.own.1 hy1 with ⟨_,_,h0,_⟩ | ⟨b,c,ad,hb,hv,hle,_,_,had⟩
 ·omega
 ·have:ad=⟨b,0,none⟩:=by have:=had (by omega); simpa using this
  subst this
  rcases hr2 with ⟨_,⟨hn,_⟩ | ⟨b',c',cur,cs,hb',_,hh,hcs,_,_,hcl,hrel,htk⟩⟩
  ·rw[hb]at hn; cases hn
  ·rw[hb]at hb'
   cases hb'
   obtain⟨c1,c2,rfl,h1,h2⟩:=hrel
   obtain rfl:c2=[]:=h2
   rw[List.append_nil]at hcl htk
   have h1:Enc w (st.X C.X0 σ) d c1:=h1
   refine⟨⟨b,0,none⟩,_,fun _=>c1,hv,fun i hi=>?_,fun j u hj=>?_⟩
   ·have:i=0:=by simp at hi; exact hi
    subst this
    exact⟨by simpa[←hd]using h1,by simpa using hcl⟩
   ·simp only[List.length_cons,List.length_nil,cat,List.nil_append]at hj
    have hjl:=(List.getElem?_eq_some_iff.1 hj).1
    rw[eQ,cell_of_row w b _ cur e (0,0) hh,Nat.zero_add,←Array.getElem?_toList]
    rw[←htk,List.getElem?_take,if_pos (by omega)]at hj
    exact hj
end
end Go.Eng
namespace Go.Proofs.Ytkehohfgbblokaa
open Go.Eng Go.Plain
set_option maxHeartbeats 32000000
set_option maxRecDepth 20000
attribute [local irreducible] WC RegS RegD SeqQ BlkQ ScoQ RegK CutK Sat SatN FnIs LoopQ ak OpIs
def ixG (p:aI→Bool) (l:List aI) (i:Nat):Int:=match l with
 | [] => -1
 | o::l=>if p o=true then (i:Int) else ixG p l (i+1)
theorem xh {p:aI→Bool} {l:List aI} {i:Nat} {o:aI} (h:l[i]?=some o):ixG p (l.drop i) i=if p o=true then (i:Int) else ixG p (l.drop (i+1)) (i+1):=by
 have hlt:=(List.getElem?_eq_some_iff.1 h).1
 rw[List.drop_eq_getElem_cons hlt,(List.getElem?_eq_some_iff.1 h).2]
 rfl
theorem rl {p:aI→Bool} {y:aI}:∀(l:List aI) (i:Nat),l.find? p=some y→∃k:Nat,ixG p l i=((i+k:Nat):Int)∧l[k]?=some y
 | [],i,h=>by simp at h
 | o::l,i,h=>by
  rw[List.find?_cons]at h
  unfold ixG
  cases hp:p o with
  | true =>
   rw[hp]at h
   cases h
   exact⟨0,rfl,rfl⟩
  | false =>
   rw[hp]at h
   obtain⟨k,h1,h2⟩:=rl l (i+1) h
   refine⟨k+1,?_,by simpa using h2⟩
   rw[if_neg (by decide),h1]
   congr 1; omega
abbrev nG (g:List Bool):List (Nat×Row):=[(0,.box 93 (.d (.arr 1 dY g)))]
theorem AB (g:List Bool) (y:aI) (h0:0≤y.to) (h1:y.to<g.length):FnIs Try.prog 75 [.d (pv y),.ptr 0 []] (nG g) (.bool (gF g y)) (nG g):=by
 obtain⟨c,hc⟩:∃c,g[y.to.toNat]?=some c:=⟨_,List.getElem?_eq_getElem (by omega)⟩
 rw[gF,hc]
 refine aH aa Try.func75 rfl rfl rfl ?_;refine sR<|rN ?_;refine rC<|nR ?_;refine rQ iM ?_;refine rC ?_;refine rQ iB ?_;refine rQ (aA aa rfl rfl rfl rfl rfl h0 hc) ?_;refine rQ iL ?_;refine rC<|zT ?_
 exact⟨trivial,[],lg zV ⟨zR,trivial⟩⟩
theorem Ar (l:List aI) (f:Nat) (g:List Bool) (p:aI→Bool) (hL:l.length≤9223372036854775807) (hp:∀o∈l,FnIs Try.prog f [.d (pv o),.ptr 0 []] (nG g) (.bool (p o)) (nG g)):FnIs Try.prog 74 [.d (cD l),.fn (.func f) .anil (.acons (.ptr 0 []) .anil)] (nG g) (.int .i64 (ixG p l 0)) (nG g):=by
 refine aH aa Try.func74 rfl rfl rfl ?_;refine sR<|rC<|zW ?_;refine rC ?_;refine rQ iE ?_;refine rC<|zP ?_
 refine wc_inv (fun k:Nat=>⟨[(8,.int .i64 k),(7,.int .i64 l.length),(0,.d (cD l)),(1,.fn (.func f) .anil (.acons (.ptr 0 []) .anil))],aD (nG g),72,Try.f74.ntmps,64⟩) (fun k=>k≤l.length∧ixG p (l.drop k) k=ixG p l 0) (fun k=>l.length-k) 0 [] ⟨Nat.zero_le _,by rw[List.drop_zero]⟩
  (lg zi ⟨zR,trivial⟩) ?_
 rintro k ⟨hk,hix⟩
 refine cj ?_
 by_cases hlt:k<l.length
 ·have d1:decide ((k:Int)<(l.length:Int))=true:=dT (by omega)
  obtain⟨o,ho⟩:∃o,l[k]?=some o:=⟨_,List.getElem?_eq_getElem hlt⟩
  have ho2:l[((k:Int)).toNat]?=some o:=by rw[Int.toNat_natCast]; exact ho
  rw[xh ho]at hix
  refine sR<|rC<|nQ ?_;refine wT<|zQ<|zS ?_;refine zD<|nR ?_;refine zU ?_;refine rQ iA ?_;refine rQ iL ?_;refine aP (aY [(0,some 0)] (hp o (List.mem_of_getElem? ho)) rfl rfl rfl (am (aV rfl rfl aj)) ⟨zH,trivial⟩ rfl rfl (.inl rfl) rfl rfl) rfl<|nS ?_
  cases hpo:p o with
  | true =>
   rw[hpo,if_pos rfl]at hix
   rw[←hix]
   refine wV<|sR ?_;refine zD<|zT<|zB<|ef<|zB ?_
   exact⟨trivial,[],lg zV ⟨zR,trivial⟩⟩
  | false =>
   rw[hpo,if_neg (by decide)]at hix
   refine wG<|aS<|zC<|ae ?_;refine rQ iD ?_;refine rC<|aq ?_
   exact aJ (k+1) [] ⟨hlt,hix⟩ (by omega) (lg zi ⟨zR,trivial⟩)
 ·have d1:decide ((k:Int)<(l.length:Int))=false:=dF (by omega)
  have he:k=l.length:=by omega
  subst he
  rw[List.drop_length]at hix
  rw[←hix]
  refine sR<|rC<|nQ ?_;refine wF<|zX<|sR ?_;refine rC<|zT ?_
  exact⟨trivial,[],lg zV ⟨zR,trivial⟩⟩
theorem xL (l:List Int):FnIs Try.prog 76 [.d (.arr 1 i6 l)] [] (.d (.arx 1 i6 l)) []:=by
 refine aH aa Try.func76 rfl rfl rfl ?_;refine sR<|rC<|nR ?_;refine zD ?_;refine rQ iE ?_;refine rC ?_;refine rQ iE ?_;refine rQ (nb aa rfl rfl rfl rfl rfl) ?_;refine rC<|zT ?_
 exact⟨trivial,[],lf⟩
abbrev mu (l:List Int):D :=.arx 1 i6 l
abbrev ordE (o:List Int) (f:Bool):AV :=.tup (.acons (.d (mu o)) (.acons (.bool f) .anil))
def ordV:List Int→AV
 | []=>.empty
 | a::o=>.own 66 0 (a::o).length 1 none
def ordR:List Int→List (Nat×Row)
 | []=>[]
 | a::o=>[(66,zRow (a::o))]
abbrev lE (at_:Int) (v:AV):Env:=[(6,.int .i64 at_),(5,v),(4,.ptr 65 []),(0,.ptr 0 [])]
abbrev lR (l:List HOp) (b e:Int) (p:Prep) (sp:List (List aI)) (q:QS) (g:List Bool) (o:List (Nat×Row)):List (Nat×Row):=(65,.box 93 (.d (.arr 1 dY g)))::(o++cw l b e p sp q 9)
structure uD (p:Prep) (l:List HOp) (e:Nat) (st:List LSt) (sp:List (List aI)) (μ:Nat→Nat):Prop where
 go:∀(i:Nat),(dX p l e st sp)[i]?=some true→la p l e st sp e i=true∨∃y,(spN sp i).find? (gF (dX p l e st sp))=some y
 dn:∀(i:Nat) ys,sp[i]?=some ys→∀y∈ys,μ y.to.toNat<μ i
 m0:μ 0≤1000000
def kz (p:Prep) (l:List HOp) (e:Nat) (st:List LSt) (sp:List (List aI)) (n:Nat):List Int×Bool :=
 if (dX p l e st sp)[0]?=some true then (eF p l e st sp (dX p l e st sp) n 0 [],true) else ([],false)
theorem gD {p:Prep} {l:List HOp} {e:Nat} {st:List LSt} {sp:List (List aI)} {g:List Bool} {μ:Nat→Nat} (dn:∀(i:Nat) ys,sp[i]?=some ys→∀y∈ys,μ y.to.toNat<μ i):∀(n:Nat) (i:Int) (o:List Int) (m:Nat),μ i.toNat<n→μ i.toNat<m→eF p l e st sp g n i o=eF p l e st sp g m i o
 | 0,_,_,_,h,_=>by omega
 | n+1,i,o,0,_,h=>by omega
 | n+1,i,o,m+1,h1,h2=>by
  unfold eF
  split
  ·rfl
  ·split
   ·rfl
   ·rename_i y hy
    have hym:=List.mem_of_find?_eq_some hy
    have hd:μ y.to.toNat<μ i.toNat:=by
     unfold spN at hym
     cases hs:sp[i.toNat]? with
     | none=>rw[hs]at hym; cases hym
     | some ys=>rw[hs]at hym; exact dn i.toNat ys hs y hym
    exact gD dn n y.to _ m (by omega) (by omega)
theorem xb (l:List HOp) (b:Int) (e:Nat) (p:Prep) (sp:List (List aI)) (q:QS) (μ:Nat→Nat) (P:POk l e p) (hS:∀y∈q.2,SOk p e y) (he:e≤1048576) (hsp:SpOk q.2 sp) (hE:x4 q.2 sp) (hN:q.2.length≤1048576) (h0:0<q.2.length) (hT:totS sp+1≤67108864) (hL:uD p l e q.2 sp μ):FnIs Try.prog 57 [.ptr 0 []] (cw l b e p sp q 9) (ordE (kz p l e q.2 sp (μ 0+1)).1 (kz p l e q.2 sp (μ 0+1)).2) (cw l b e p sp q 9):=by
 have hgood:=yK l b e p sp q P hS he hsp hN h0 hT
 have hgl:=nW p l e q.2 sp
 have hgo:=hL.go
 obtain⟨g,hgd⟩:∃g,g=dX p l e q.2 sp:=⟨_,rfl⟩
 unfold kz
 rw[←hgd]at hgood hgl hgo ⊢
 obtain⟨c,hc⟩:∃c,g[0]?=some c:=⟨_,List.getElem?_eq_getElem (by omega)⟩
 have hg0:g[((0:Int)).toNat]?=some c:=hc
 refine aH aa Try.func57 rfl rfl rfl ?_
 cases c with
 | false =>
  rw[if_neg (by rw[hc]; decide)]
  refine sR<|zD<|nR ?_;refine rC ?_;refine bJ rfl (aY [] hgood rfl rfl rfl (aV rfl rfl aj) ⟨zH,zN,zN,zH,zN,zN,zN,zN,zN,zH,zH,trivial⟩ rfl rfl (.inl rfl) rfl rfl) rfl rfl ?_;refine rN ?_;refine rW<|zW ?_;refine rQ iM ?_;refine rQ (aA aa rfl rfl rfl rfl rfl (by decide) hg0) ?_;refine rQ iL ?_;refine rC ?_;refine zO<|sR ?_;refine zD<|zT<|bX ?_
  exact⟨trivial,[],lg ⟨⟨_,rfl,AVLe.tup1 (io _ _) rfl⟩,rfl,trivial⟩ ⟨zR,zM,zM,zR,zM,zM,zM,zM,zM,zR,zR,trivial⟩⟩
 | true =>
  rw[if_pos hc]
  have hm0:=hL.m0
  have hspl:=hsp.len
  refine sR<|zD<|nR ?_;refine rC ?_;refine bJ rfl (aY [] hgood rfl rfl rfl (aV rfl rfl aj) ⟨zH,zN,zN,zH,zN,zN,zN,zN,zN,zH,zH,trivial⟩ rfl rfl (.inl rfl) rfl rfl) rfl rfl ?_;refine rN ?_;refine rW<|zW ?_;refine rQ iM ?_;refine rQ (aA aa rfl rfl rfl rfl rfl (by decide) hg0) ?_;refine rQ iL ?_;refine rC ?_;refine zJ<|kS<|sR ?_;refine rQ (sd aa rfl rfl) ?_;refine rC<|zW ?_;refine rC<|zP ?_
  refine wc_inv (fun s:Int×List Int=>⟨lE s.1 (ordV s.2),aD (lR l b e p sp q g (ordR s.2)),72,Try.f57.ntmps,64⟩) (fun s=>0≤s.1∧s.1<(q.2.length:Int)∧g[s.1.toNat]?=some true∧s.2.length+μ s.1.toNat≤μ 0∧∀k,μ s.1.toNat<k→eF p l e q.2 sp g k s.1 s.2=eF p l e q.2 sp g (μ 0+1) 0 []) (fun s=>μ s.1.toNat) (0,[]) [(65,some 96)] ⟨Int.le_refl _,by simp only; omega,hc,by simp,(fun k hk=>gD hL.dn k 0 [] _ hk (Nat.lt_succ_self _))⟩
   (lg zi ⟨zR,zR,zM,zM,zR,zM,zM,zM,zM,zM,zR,zR,trivial⟩) ?_
  rintro⟨i,o⟩ ⟨hi0,hi1,hgi,hol0,hlG⟩
  simp only at hi0 hi1 hgi hol0 hlG
  refine cj ?_
  show WC _ _ _ _ (lE i (ordV o)) (aD (lR l b e p sp q g (ordR o))) _
  obtain⟨x,hx⟩:∃x,q.2[i.toNat]?=some x:=⟨_,List.getElem?_eq_getElem (by omega)⟩
  have hends:=uj l b e p sp q P hS he hsp hE hT e i x hi0 hx (by have:=(hS x (List.mem_of_getElem? hx)).era; omega)
  have hlG1:=hlG (μ i.toNat+1) (by omega)
  rw[eF]at hlG1
  cases hen:la p l e q.2 sp e i with
  | true =>
   rw[hen]at hends
   rw[hen,if_pos rfl]at hlG1
   rw[←hlG1]
   cases o with
   | nil =>
    show WC _ _ _ _ (lE i .empty) (aD (lR l b e p sp q g [])) _
    have d9:decide ((0:Int)=0)=true:=rfl
    refine qR<|zD ?_;refine bJ rfl (aY [] hends rfl rfl rfl (aV rfl rfl (am aj)) ⟨zH,zN,zN,zH,zN,zN,zN,zN,zN,zH,zH,trivial⟩ rfl rfl (.inl rfl) rfl rfl) rfl rfl ?_;refine rC ?_;refine zJ<|zX<|qR ?_;refine rC ?_;refine rQ (vg aa rfl rfl) ?_;refine rC ?_;refine zO<|sR ?_;refine zD<|zT<|bX ?_
    exact⟨trivial,[],lg ⟨⟨_,rfl,AVLe.tup1 (io _ _) rfl⟩,rfl,trivial⟩ ⟨zR,zM,zM,zR,zM,zM,zM,zM,zM,zR,zR,trivial⟩⟩
   | cons a0 o0 =>
    show WC _ _ _ _ (lE i (.own 66 0 (a0::o0).length 1 none)) (aD (lR l b e p sp q g [(66,zRow (a0::o0))])) _
    generalize hoo:a0::o0=o at *
    have d9:decide ((o.length:Int)=0)=false:=dF (by rw[←hoo]; simp only[List.length_cons]; omega)
    refine eu (env':=lE i (.d (.arr 1 i6 o))) (h':=aD (lR l b e p sp q g [])) 66 (zRow o) rfl ⟨⟨_,rfl,Frz.refl _⟩,⟨_,rfl,Frz.own rfl⟩,⟨_,rfl,Frz.refl _⟩,⟨_,rfl,Frz.refl _⟩,trivial⟩ ⟨zF,zF,zF,zF,zF,zF,zF,zF,zF,zF,zF,zF,trivial⟩<|qR ?_;refine zD ?_;refine bJ rfl (aY [] hends rfl rfl rfl (aV rfl rfl (am aj)) ⟨zH,zN,zN,zH,zN,zN,zN,zN,zN,zH,zH,trivial⟩ rfl rfl (.inl rfl) rfl rfl) rfl rfl ?_;refine rC ?_;refine zJ<|zX<|qR ?_;refine rC ?_;refine rQ iE ?_;refine rC ?_;refine zG<|kS<|sR ?_;refine rC ?_;refine rQ (aE (xL o) rfl rfl (am aj) (.inl rfl) (fun _=>rfl)) ?_;refine zD<|zT ?_
    exact⟨trivial,[],lg zV ⟨zR,zM,zM,zR,zM,zM,zM,zM,zM,zR,zR,trivial⟩⟩
  | false =>
   rw[hen]at hends
   rw[hen,if_neg (by decide)]at hlG1
   obtain⟨ys,hys⟩:∃ys,sp[i.toNat]?=some ys:=⟨_,List.getElem?_eq_getElem (by omega)⟩
   have hspn:spN sp i=ys:=by rw[spN,hys]; rfl
   have hspn2:spN sp ((i.toNat:Nat):Int)=ys:=by rw[Int.toNat_of_nonneg hi0]; exact hspn
   obtain⟨y,hy⟩:∃y,ys.find? (gF g)=some y:=by
    rcases hgo i.toNat hgi with h | ⟨y,h⟩
    ·rw[Int.toNat_of_nonneg hi0,hen]at h; cases h
    ·rw[hspn2]at h; exact⟨y,h⟩
   have hto:=hsp.to ys (List.mem_of_getElem? hys)
   have hyl:ys.length≤67108864:=by have h1:=lB hys; have h2:=mI sp (i.toNat+1); omega
   have hix:=Ar ys 75 g (gF g) (by omega) (fun o ho=>AB g o (hto o ho).1 (by have:=(hto o ho).2; omega))
   obtain⟨k,hk,hyk⟩:=rl ys 0 hy
   rw[hk,Nat.zero_add]at hix
   have hkl:=(List.getElem?_eq_some_iff.1 hyk).1
   have hk2:ys[((k:Nat):Int).toNat]?=some y:=by rw[Int.toNat_natCast]; exact hyk
   have hym:=List.mem_of_getElem? hyk
   obtain⟨hy0,hy1⟩:=hto y hym
   have hdn:=hL.dn i.toNat ys hys y hym
   have hgy:g[y.to.toNat]?=some true:=by
    have:=List.find?_some hy
    unfold gF at this
    cases hq:g[y.to.toNat]? with
    | none=>rw[hq]at this; cases this
    | some c=>rw[hq]at this; simp only[Option.getD_some]at this; rw[this]
   have hlG2:∀m,eF p l e q.2 sp g (m+1) i o=eF p l e q.2 sp g m y.to (if decide (0≤y.op)=true then o++[y.op] else o):=fun m=>by
    rw[eF,hen,if_neg (by decide),hspn,hy]
   have hlG3:∀k,μ y.to.toNat<k→eF p l e q.2 sp g k y.to (if decide (0≤y.op)=true then o++[y.op] else o)=eF p l e q.2 sp g (μ 0+1) 0 []:=fun m hm=>by
    rw[gD hL.dn m y.to _ (μ i.toNat) hm hdn,←hlG2]
    exact hlG _ (by omega)
   cases d5:decide (0≤y.op) with
   | false =>
    rw[d5,if_neg (by decide)]at hlG3
    cases o with
    | nil =>
     show WC _ _ _ _ (lE i .empty) (aD (lR l b e p sp q g [])) _
     refine qR<|zD ?_;refine bJ rfl (aY [] hends rfl rfl rfl (aV rfl rfl (am aj)) ⟨zH,zN,zN,zH,zN,zN,zN,zN,zN,zH,zH,trivial⟩ rfl rfl (.inl rfl) rfl rfl) rfl rfl ?_;refine rC ?_;refine zO<|kS<|zS ?_;refine zU ?_;refine rQ iM ?_;refine rC ?_;refine rQ (aL aa rfl rfl rfl rfl rfl hi0 (by omega)) ?_;refine rQ (a9 (v :=.d (cD ys)) aa rfl rfl ⟨rfl,ys,hys,cD ys,rfl,rfl⟩ rfl) ?_;refine rC ?_;refine aP (aY [(0,some 65)] hix rfl rfl rfl (am (cQ rfl rfl aj)) ⟨zH,trivial⟩ rfl rfl (.inl rfl) rfl rfl) rfl ?_;refine rC<|nR ?_;refine zU ?_;refine rQ iM ?_;refine rC ?_;refine rQ (aL aa rfl rfl rfl rfl rfl hi0 (by omega)) ?_;refine rQ (a9 (v :=.d (cD ys)) aa rfl rfl ⟨rfl,ys,hys,cD ys,rfl,rfl⟩ rfl) ?_;refine rC ?_;refine rQ (aA aa rfl rfl rfl rfl rfl (by omega) hk2) ?_;refine rQ iL ?_;refine rN ?_;refine rW<|nR ?_;refine rC ?_;refine rQ iB ?_;refine rC<|nR ?_;refine rC ?_;refine rQ iB ?_;refine rC ?_;refine zG<|aS<|gJ ?_
     exact aJ (y.to,[]) [(65,some 65)] ⟨hy0,hy1,hgy,by simp only[List.length_nil]at hol0 ⊢; omega,hlG3⟩ hdn (lg zi ⟨zR,zR,zM,zM,zR,zM,zM,zM,zM,zM,zR,zR,trivial⟩)
    | cons a0 o0 =>
     show WC _ _ _ _ (lE i (.own 66 0 (a0::o0).length 1 none)) (aD (lR l b e p sp q g [(66,zRow (a0::o0))])) _
     refine qR<|zD ?_;refine bJ rfl (aY [] hends rfl rfl rfl (aV rfl rfl (am aj)) ⟨zH,zN,zN,zH,zN,zN,zN,zN,zN,zH,zH,trivial⟩ rfl rfl (.inl rfl) rfl rfl) rfl rfl ?_;refine rC ?_;refine zO<|kS<|zS ?_;refine zU ?_;refine rQ iM ?_;refine rC ?_;refine rQ (aL aa rfl rfl rfl rfl rfl hi0 (by omega)) ?_;refine rQ (a9 (v :=.d (cD ys)) aa rfl rfl ⟨rfl,ys,hys,cD ys,rfl,rfl⟩ rfl) ?_;refine rC ?_;refine aP (aY [(0,some 65)] hix rfl rfl rfl (am (cQ rfl rfl aj)) ⟨zH,trivial⟩ rfl rfl (.inl rfl) rfl rfl) rfl ?_;refine rC<|nR ?_;refine zU ?_;refine rQ iM ?_;refine rC ?_;refine rQ (aL aa rfl rfl rfl rfl rfl hi0 (by omega)) ?_;refine rQ (a9 (v :=.d (cD ys)) aa rfl rfl ⟨rfl,ys,hys,cD ys,rfl,rfl⟩ rfl) ?_;refine rC ?_;refine rQ (aA aa rfl rfl rfl rfl rfl (by omega) hk2) ?_;refine rQ iL ?_;refine rN ?_;refine rW<|nR ?_;refine rC ?_;refine rQ iB ?_;refine rC<|nR ?_;refine rC ?_;refine rQ iB ?_;refine rC ?_;refine zG<|aS<|gJ ?_
     exact aJ (y.to,a0::o0) [(65,some 65),(66,some 66)] ⟨hy0,hy1,hgy,by simp only at hol0 ⊢; omega,hlG3⟩ hdn (lg zi ⟨zR,zR,zR,zM,zM,zR,zM,zM,zM,zM,zM,zR,zR,trivial⟩)
   | true =>
    rw[d5,if_pos rfl]at hlG3
    cases o with
    | nil =>
     show WC _ _ _ _ (lE i .empty) (aD (lR l b e p sp q g [])) _
     refine qR<|zD ?_;refine bJ rfl (aY [] hends rfl rfl rfl (aV rfl rfl (am aj)) ⟨zH,zN,zN,zH,zN,zN,zN,zN,zN,zH,zH,trivial⟩ rfl rfl (.inl rfl) rfl rfl) rfl rfl ?_;refine rC ?_;refine zO<|kS<|zS ?_;refine zU ?_;refine rQ iM ?_;refine rC ?_;refine rQ (aL aa rfl rfl rfl rfl rfl hi0 (by omega)) ?_;refine rQ (a9 (v :=.d (cD ys)) aa rfl rfl ⟨rfl,ys,hys,cD ys,rfl,rfl⟩ rfl) ?_;refine rC ?_;refine aP (aY [(0,some 65)] hix rfl rfl rfl (am (cQ rfl rfl aj)) ⟨zH,trivial⟩ rfl rfl (.inl rfl) rfl rfl) rfl ?_;refine rC<|nR ?_;refine zU ?_;refine rQ iM ?_;refine rC ?_;refine rQ (aL aa rfl rfl rfl rfl rfl hi0 (by omega)) ?_;refine rQ (a9 (v :=.d (cD ys)) aa rfl rfl ⟨rfl,ys,hys,cD ys,rfl,rfl⟩ rfl) ?_;refine rC ?_;refine rQ (aA aa rfl rfl rfl rfl rfl (by omega) hk2) ?_;refine rQ iL ?_;refine rN ?_;refine rW<|nR ?_;refine rC ?_;refine rQ iB ?_;refine rC<|nR ?_;refine rC ?_;refine rQ iB ?_;refine rC ?_;refine zI<|ae ?_;refine zD ?_;refine rQ iB ?_;refine aX (ay aa rfl rfl rfl rfl rfl rfl rfl rfl) rfl ?_;refine aX (ob (enc:=i6) (s:=1) aa y.op rfl rfl rfl rfl (.inl rfl) rfl rfl rfl rfl) rfl ?_;refine rC<|aq<|gJ ?_
     exact aJ (y.to,[y.op]) [(65,some 65),(66,some 360)] ⟨hy0,hy1,hgy,by simp only[List.length_nil,List.length_singleton]at hol0 ⊢; omega,hlG3⟩ hdn (lg zi ⟨zR,zR,zR,zM,zM,zR,zM,zM,zM,zM,zM,zR,zR,trivial⟩)
    | cons a0 o0 =>
     show WC _ _ _ _ (lE i (.own 66 0 (a0::o0).length 1 none)) (aD (lR l b e p sp q g [(66,zRow (a0::o0))])) _
     obtain⟨o,ho⟩:∃o,o=a0::o0:=⟨_,rfl⟩
     rw[←ho]at hol0 hlG3 ⊢
     have hol:o.length+1≤1048576:=by omega
     refine qR<|zD ?_;refine bJ rfl (aY [] hends rfl rfl rfl (aV rfl rfl (am aj)) ⟨zH,zN,zN,zH,zN,zN,zN,zN,zN,zH,zH,trivial⟩ rfl rfl (.inl rfl) rfl rfl) rfl rfl ?_;refine rC ?_;refine zO<|kS<|zS ?_;refine zU ?_;refine rQ iM ?_;refine rC ?_;refine rQ (aL aa rfl rfl rfl rfl rfl hi0 (by omega)) ?_;refine rQ (a9 (v :=.d (cD ys)) aa rfl rfl ⟨rfl,ys,hys,cD ys,rfl,rfl⟩ rfl) ?_;refine rC ?_;refine aP (aY [(0,some 65)] hix rfl rfl rfl (am (cQ rfl rfl aj)) ⟨zH,trivial⟩ rfl rfl (.inl rfl) rfl rfl) rfl ?_;refine rC<|nR ?_;refine zU ?_;refine rQ iM ?_;refine rC ?_;refine rQ (aL aa rfl rfl rfl rfl rfl hi0 (by omega)) ?_;refine rQ (a9 (v :=.d (cD ys)) aa rfl rfl ⟨rfl,ys,hys,cD ys,rfl,rfl⟩ rfl) ?_;refine rC ?_;refine rQ (aA aa rfl rfl rfl rfl rfl (by omega) hk2) ?_;refine rQ iL ?_;refine rN ?_;refine rW<|nR ?_;refine rC ?_;refine rQ iB ?_;refine rC<|nR ?_;refine rC ?_;refine rQ iB ?_;refine rC ?_;refine zI<|ae ?_;refine zD ?_;refine rQ iB ?_;refine aX (ay aa rfl rfl rfl rfl rfl rfl rfl rfl) rfl ?_;refine aP (aR (s:=1) (enc:=i6) (xs:=o) aa y.op rfl rfl rfl rfl rfl rfl rfl rfl rfl hol rfl) rfl ?_;refine rC<|aq<|gJ ?_
     subst ho
     exact aJ (y.to,a0::o0++[y.op]) [(65,some 65),(66,some 360)] ⟨hy0,hy1,hgy,by simp only[List.length_append,List.length_singleton]at hol0 ⊢; omega,hlG3⟩ hdn (lg ⟨zE,rfl,⟨_,rfl,AVLe.of_eq (by show _=AV.ren _ (AV.own 66 0 (a0::o0++[y.op]).length 1 none); rw[List.length_append]; rfl)⟩,rfl,zE,rfl,zE,rfl,trivial⟩ ⟨zR,zR,zR,zM,zM,zR,zM,zM,zM,zM,zM,zR,zR,trivial⟩)
end Go.Proofs.Ytkehohfgbblokaa
namespace Go.Proofs.Ytkehohfgbblokaa
open Go.Eng Go.Plain
set_option maxHeartbeats 32000000
set_option maxRecDepth 20000
def ic (t:List UInt8):Nat:=t.countP fun c=>decide (c=0)
theorem mX (n:Nat):ic (cJ n)=n:=by
 unfold ic cJ
 induction n with
 | zero=>rfl
 | succ n ih=>rw[List.replicate_succ,List.countP_cons,ih]; rfl
theorem qq {t:List UInt8} {k:Nat} (h:t[k]?=some 0):ic (gS t k)+1=ic t:=by
 have hlt:=(List.getElem?_eq_some_iff.1 h).1
 have e:t=t.take k++0::t.drop (k+1):=by
  have:=List.take_append_drop k t
  rw[List.drop_eq_getElem_cons hlt,(List.getElem?_eq_some_iff.1 h).2]at this
  exact this.symm
 unfold ic gS
 rw[List.countP_append,List.countP_append]
 conv=>rhs; rw[e,List.countP_append,List.countP_cons]
 simp
 omega
theorem uI {t:List UInt8} {k:Nat} (hk:k<t.length) (h:tkB t (k:Int)=false):t[k]?=some 0:=by
 obtain⟨c,hc⟩:∃c,t[k]?=some c:=⟨_,List.getElem?_eq_getElem hk⟩
 unfold tkB at h
 rw[Int.toNat_natCast,hc,Option.getD_some]at h
 have h2:=of_decide_eq_false h
 rw[hc]
 congr 1
 apply UInt8.toNat_inj.1
 show c.toNat=0
 omega
def mS (p:Prep) (st:List LSt) (x:LSt) (y:aI):Prop :=
 0≤y.to∧∃x',st[y.to.toNat]?=some x'∧((0≤y.op∧x'.era=x.era∧ic x'.taken+1=ic x.taken)∨(y.op<0∧x'.era=x.era+1∧ic x'.taken=(zOf p x'.era).length))
def Ext (a b:List LSt):Prop:=∀(i:Nat) (x:LSt),a[i]?=some x→b[i]?=some x
theorem Ext.refl (a:List LSt):Ext a a:=fun _ _ h=>h
theorem Ext.trans {a b c:List LSt} (h1:Ext a b) (h2:Ext b c):Ext a c:=fun i x h=>h2 i x (h1 i x h)
theorem Ext.step {p:Prep} {a b:List LSt} {x:LSt} {y:aI} (h:Ext a b) (hs:mS p a x y):mS p b x y:=by
 obtain⟨h0,x',h1,h2⟩:=hs
 exact⟨h0,x',h _ _ h1,h2⟩
structure QOk (p:Prep) (e:Nat) (q:QS):Prop where
 st:∀y∈q.2,SOk p e y
 kn:∀x n,getA q.1 x=some n→0≤n∧q.2[n.toNat]?=some x
 uq:∀(i:Nat) (x:LSt),q.2[i]?=some x→getA q.1 x=some (i:Int)
theorem mQ {p:Prep} {e:Nat} {q:QS} {x:LSt} (Q:QOk p e q) (hx:SOk p e x):QOk p e (addS q x).1∧Ext q.2 (addS q x).1.2∧0≤(addS q x).2∧(addS q x).1.2[(addS q x).2.toNat]?=some x:=by
 have hok:=mP (q:=q) Q.st hx
 unfold addS at hok ⊢
 cases hg:getA q.1 x with
 | some n =>
  obtain⟨h1,h2⟩:=Q.kn x n hg
  exact⟨Q,Ext.refl _,h1,h2⟩
 | none =>
  rw[hg]at hok
  simp only at hok ⊢
  refine⟨⟨hok,fun z n hz=>?_,fun i z hz=>?_⟩,fun i z hz=>?_,by omega,?_⟩
  ·rw[g8]at hz
   split at hz
   ·rename_i e; cases hz; subst e
    exact⟨by omega,by rw[Int.toNat_natCast,List.getElem?_append_right (Nat.le_refl _),Nat.sub_self]; rfl⟩
   ·obtain⟨h1,h2⟩:=Q.kn z n hz
    exact⟨h1,by rw[List.getElem?_append_left (List.getElem?_eq_some_iff.1 h2).1]; exact h2⟩
  ·rw[g8]
   by_cases hi:i<q.2.length
   ·rw[List.getElem?_append_left hi]at hz
    have:=Q.uq i z hz
    split
    ·rename_i e; subst e; rw[hg]at this; cases this
    ·exact this
   ·rw[List.getElem?_append_right (by omega)]at hz
    have hil:i-q.2.length=0:=by have:=(List.getElem?_eq_some_iff.1 hz).1; simp at this; omega
    rw[hil]at hz
    simp only[List.getElem?_cons_zero,Option.some.injEq]at hz
    subst hz
    rw[if_pos rfl]
    congr 1; omega
  ·rw[List.getElem?_append_left (List.getElem?_eq_some_iff.1 hz).1]; exact hz
  ·rw[Int.toNat_natCast,List.getElem?_append_right (Nat.le_refl _),Nat.sub_self]; rfl
theorem xl (p:Prep) (x:LSt) (o:HOp):(hapS p x o).1.era=x.era:=by unfold hapS; split <;> (try split) <;> (try split) <;> rfl
structure NInv (p:Prep) (e:Nat) (q:QS) (x:LSt) (k:Nat) (a:QS×List aI):Prop where
 ok:QOk p e a.1
 ext:Ext q.2 a.1.2
 rel:∀y∈a.2,mS p a.1.2 x y
 len:a.2.length≤k
theorem yv {l:List HOp} {e:Nat} {p:Prep} {x:LSt} {k:Nat} {i:Int} {q:QS} {a:QS×List aI} (P:POk l e p) (S:SOk p e x) (hi:(zOf p x.era)[k]?=some i) (N:NInv p e q x k a):NInv p e q x (k+1) (opS p l x k i a):=by
 obtain⟨e0,e1⟩:=S.era
 obtain⟨n,hn⟩:∃n:Nat,x.era=n:=⟨x.era.toNat,by omega⟩
 have hm:=P.zm (k:=n) (by omega)
 have hi':=hi
 rw[hn]at hi
 obtain⟨i0,o,ho,hO⟩:=P.row _ hm i (List.mem_of_getElem? hi)
 have hop:opN l i.toNat=o:=by rw[opN,ho]; rfl
 have hkl:=(List.getElem?_eq_some_iff.1 hi).1
 have htk:k<x.taken.length:=by rw[S.tk,hn]; exact hkl
 unfold opS
 split
 ·exact⟨N.ok,N.ext,N.rel,Nat.le_succ_of_le N.len⟩
 ·rename_i hsk
  split
  ·rw[hop]
   have hS:=ua P S hO
   have hera:=xl p x o
   have hy:SOk p e { (hapS p x o).1 with taken:=gS x.taken k }:=⟨hS.era,by simp only; rw[oD htk,S.tk,hera],hS.ar,hS.du⟩
   obtain⟨h1,h2,h3,h4⟩:=mQ N.ok hy
   have hz:x.taken[k]?=some 0:=uI htk (by
    unfold jX at hsk
    simp only[Bool.or_eq_true,not_or,Bool.not_eq_true]at hsk
    exact hsk.2.1)
   refine⟨h1,N.ext.trans h2,fun y hy'=>?_,by simp only[List.length_append,List.length_singleton]; have:=N.len; omega⟩
   rcases List.mem_append.1 hy' with hy' | hy'
   ·exact h2.step (N.rel y hy')
   ·rw[List.mem_singleton.1 hy']
    exact⟨h3,_,h4,.inl ⟨i0,hera,qq hz⟩⟩
  ·exact⟨N.ok,N.ext,N.rel,Nat.le_succ_of_le N.len⟩
theorem pb {l:List HOp} {e:Nat} {p:Prep} {x:LSt} {q:QS} (P:POk l e p) (S:SOk p e x):∀(z:List Int) (k:Nat) (a:QS×List aI),(zOf p x.era).drop k=z→NInv p e q x k a→NInv p e q x (k+z.length) (dm p l x z k a)
 | [],_,a,_,h=>h
 | i::z,k,a,hz,h=>by
  have hi:(zOf p x.era)[k]?=some i:=by
   have:=congrArg (fun l=>l[0]?) hz
   simpa using this
  have:=pb P S z (k+1) _ (by have:=congrArg List.tail hz; simpa using this) (yv P S hi h)
  rw[List.length_cons,show k+(z.length+1)=k+1+z.length by omega]
  exact this
theorem ve {l:List HOp} {e:Nat} {p:Prep} {x:LSt} {q:QS} (P:POk l e p) (S:SOk p e x) (Q:QOk p e q):NInv p e q x ((zOf p x.era).length+1) (cI p l e x q):=by
 have h:=pb P S (zOf p x.era) 0 (q,[]) (by simp) ⟨Q,Ext.refl _,(fun y hy=>by cases hy),Nat.le_refl _⟩
 rw[Nat.zero_add]at h
 have hw:NInv p e q x ((zOf p x.era).length+1) (dm p l x (zOf p x.era) 0 (q,[])):=⟨h.ok,h.ext,h.rel,Nat.le_succ_of_le h.len⟩
 obtain⟨e0,e1⟩:=S.era
 unfold cI nB
 split
 ·rename_i hd
  have hd:=of_decide_eq_true hd
  split
  ·have hy:SOk p e ⟨x.era+1,cJ (zOf p (x.era+1)).length,x.durable,x.durable⟩:=⟨⟨by simp only; omega,hd⟩,by simp[cJ],S.du,S.du⟩
   obtain⟨h1,h2,h3,h4⟩:=mQ h.ok hy
   refine⟨h1,h.ext.trans h2,fun y hy'=>?_,by simp only[List.length_append,List.length_singleton]; have:=h.len; omega⟩
   rcases List.mem_append.1 hy' with hy' | hy'
   ·exact h2.step (h.rel y hy')
   ·rw[List.mem_singleton.1 hy']
    exact⟨h3,_,h4,.inr ⟨show (-1:Int)<0 by decide,rfl,mX _⟩⟩
  ·exact hw
 ·exact hw
structure SInv (p:Prep) (e:Nat) (i:Nat) (q:QS) (sp:List (List aI)):Prop where
 ok:QOk p e q
 len:sp.length=i
 le:i≤q.2.length
 fst:q.2[0]?=some (dq p)
 rel:∀(k:Nat) x ys,q.2[k]?=some x→sp[k]?=some ys→ys.length≤(zOf p x.era).length+1∧∀y∈ys,mS p q.2 x y
theorem vy {p:Prep} {e:Nat} (he:0<e):SOk p e (dq p):=⟨⟨Int.le_refl _,by show (0:Int)<e; omega⟩,by simp[dq,cJ],by simp[dq,cJ],by simp[dq,cJ]⟩
theorem zr {p:Prep} {e:Nat} (he:0<e):SInv p e 0 (addS ([],[]) (dq p)).1 []:=by
 obtain⟨h1,h2,h3,h4⟩:=mQ (q:=([],[])) ⟨(fun y hy=>by cases hy),(fun x n h=>by cases h),(fun i x h=>by simp at h)⟩ (vy (p:=p) he)
 exact⟨h1,rfl,Nat.zero_le _,h4,fun k x ys _ hs=>by simp at hs⟩
theorem uQ {l:List HOp} {p:Prep} {e:Nat} {i:Nat} {q:QS} {sp:List (List aI)} {x:LSt} (P:POk l e p) (I:SInv p e i q sp) (hx:q.2[i]?=some x):SInv p e (i+1) (cI p l e x q).1 (sp++[(cI p l e x q).2]):=by
 have N:=ve P (I.ok.st x (List.mem_of_getElem? hx)) I.ok
 have hil:=(List.getElem?_eq_some_iff.1 hx).1
 have hle:=o9 p l e x q
 refine⟨N.ok,by rw[List.length_append,List.length_singleton,I.len],by omega,N.ext _ _ I.fst,fun k z ys hz hs=>?_⟩
 by_cases hk:k<i
 ·rw[List.getElem?_append_left (by rw[I.len]; exact hk)]at hs
  obtain⟨z',hz'⟩:∃z',q.2[k]?=some z':=⟨_,List.getElem?_eq_getElem (by omega)⟩
  have e1:=N.ext k z' hz'
  rw[hz]at e1
  cases e1
  obtain⟨h1,h2⟩:=I.rel k z ys hz' hs
  exact⟨h1,fun y hy=>N.ext.step (h2 y hy)⟩
 ·rw[List.getElem?_append_right (by rw[I.len]; omega),I.len]at hs
  have hk0:k-i=0:=by have:=(List.getElem?_eq_some_iff.1 hs).1; simp at this; omega
  rw[hk0]at hs
  simp only[List.getElem?_cons_zero,Option.some.injEq]at hs
  subst hs
  have hki:k=i:=by omega
  subst hki
  have e1:=N.ext k x hx
  rw[hz]at e1
  cases e1
  exact⟨N.len,N.rel⟩
theorem oH {l:List HOp} {p:Prep} {e:Nat} {fuel:Int} (P:POk l e p):∀(n i:Nat) (q:QS) (sp:List (List aI)) (r:QS×List (List aI)),SInv p e i q sp→fM p l e fuel n i q sp=some r→SInv p e r.1.2.length r.1 r.2∧(r.1.2.length:Int)≤fuel
 | 0,i,q,sp,r,_,h=>by simp[fM]at h
 | n+1,i,q,sp,r,I,h=>by
  unfold fM at h
  cases hx:q.2[i]? with
  | none =>
   rw[hx]at h
   simp only at h
   split at h
   ·cases h
   ·cases h
    have h1:=List.getElem?_eq_none_iff.1 hx
    have h2:=I.le
    have h3:i=q.2.length:=by omega
    subst h3
    exact⟨I,by simp only; omega⟩
  | some x =>
   rw[hx]at h
   simp only at h
   split at h
   ·cases h
   ·exact oH P n (i+1) _ _ r (uQ P I hx) h
theorem jB {l:List HOp} {p:Prep} {e:Nat} {fuel:Int} {q:QS} {sp:List (List aI)} (P:POk l e p) (he:0<e) (h:oG p l e fuel=some (q,sp)):SInv p e q.2.length q sp∧(q.2.length:Int)≤fuel :=
 oH P _ _ _ _ _ (zr he) h
def mf (p:Prep):Nat→Nat→Nat
 | 0,_=>0
 | n+1,k=>(zOf p k).length+mf p n (k+1)
def rkS (p:Prep) (e:Nat) (x:LSt):Nat:=(e-x.era.toNat)+mf p (e-(x.era.toNat+1)) (x.era.toNat+1)+ic x.taken
def muS (p:Prep) (e:Nat) (st:List LSt) (i:Nat):Nat:=match st[i]? with
 | some x=>rkS p e x
 | none=>0
theorem SInv.spOk {p:Prep} {e:Nat} {q:QS} {sp:List (List aI)} (I:SInv p e q.2.length q sp):SpOk q.2 sp:=by
 refine⟨I.len,fun ys hys y hy=>?_⟩
 obtain⟨k,hk⟩:=List.mem_iff_getElem?.1 hys
 have hkl:=(List.getElem?_eq_some_iff.1 hk).1
 rw[I.len]at hkl
 obtain⟨h0,x',h1,_⟩:=(I.rel k _ ys (List.getElem?_eq_getElem hkl) hk).2 y hy
 have:=(List.getElem?_eq_some_iff.1 h1).1
 exact⟨h0,by omega⟩
theorem SInv.eraOk {p:Prep} {e:Nat} {q:QS} {sp:List (List aI)} (I:SInv p e q.2.length q sp):x4 q.2 sp:=fun i x ys hx hys y hy hop=>by
 obtain⟨h0,x',h1,h2 | h2⟩:=(I.rel i x ys hx hys).2 y hy
 ·omega
 ·exact⟨x',h1,h2.2.1⟩
theorem SInv.dn {p:Prep} {e:Nat} {q:QS} {sp:List (List aI)} (I:SInv p e q.2.length q sp) (i:Nat) (ys:List aI) (hys:sp[i]?=some ys) (y:aI) (hy:y∈ys):muS p e q.2 y.to.toNat<muS p e q.2 i:=by
 have hil:=(List.getElem?_eq_some_iff.1 hys).1
 rw[I.len]at hil
 obtain⟨x,hx⟩:∃x,q.2[i]?=some x:=⟨_,List.getElem?_eq_getElem hil⟩
 obtain⟨h0,x',h1,h2⟩:=(I.rel i x ys hx hys).2 y hy
 have hxe:=(I.ok.st x (List.mem_of_getElem? hx)).era
 have hxe':=(I.ok.st x' (List.mem_of_getElem? h1)).era
 unfold muS
 rw[h1,hx]
 simp only[rkS]
 rcases h2 with ⟨_,h3,h4⟩ | ⟨_,h3,h4⟩
 ·rw[h3]; omega
 ·have e1:x'.era.toNat=x.era.toNat+1:=by omega
  have e2:e-(x.era.toNat+1)=(e-(x'.era.toNat+1))+1:=by omega
  rw[e2,mf,h4,e1,show ((x.era.toNat+1:Nat):Int)=x'.era by omega]
  omega
theorem oK {l:List HOp} {b:Int} {e:Nat} {p:Prep} {ks:List Int} {kv:List (List UInt8)} (F:gk l b e p ks kv):∀n k,k+n=e→mf p n k+sumM l b k=sumM l b e
 | 0,k,h=>by
  have:k=e:=by omega
  subst this; simp[mf]
 | n+1,k,h=>by
  have ih:=oK F n (k+1) (by omega)
  have hz:zOf p k=zs (mayI l b k):=by rw[zOf,Int.toNat_natCast,F.opk k (by omega)]; rfl
  rw[show sumM l b (k+1)=sumM l b k+(mayI l b k).length from rfl]at ih
  rw[mf,hz,fi]
  omega
theorem mu0 {l:List HOp} {b:Int} {e:Nat} {p:Prep} {ks:List Int} {kv:List (List UInt8)} {q:QS} {sp:List (List aI)} (F:gk l b e p ks kv) (I:SInv p e q.2.length q sp) (he:0<e):muS p e q.2 0=e+sumM l b e:=by
 unfold muS
 rw[I.fst]
 simp only[rkS,dq]
 obtain⟨n,rfl⟩:∃n,e=n+1:=⟨e-1,by omega⟩
 have h1:=oK F (n+1) 0 (by omega)
 have h2:sumM l b 0=0:=rfl
 rw[mX]
 have h3:mf p (n+1) 0=(zOf p 0).length+mf p n 1:=rfl
 have e0:Int.toNat 0=0:=rfl
 rw[e0,show n+1-(0+1)=n by omega,show 0+1=1 from rfl]
 omega
theorem Ad {sp:List (List aI)} {M:Nat} (h:∀ys∈sp,ys.length≤M):totS sp≤sp.length*M:=by
 induction sp with
 | nil=>simp[totS]
 | cons a sp ih =>
  have h1:=h a (by simp)
  have h2:=ih fun ys hys=>h ys (by simp[hys])
  simp only[totS,List.length_cons,Nat.add_mul,Nat.one_mul]
  omega
theorem SInv.tot {p:Prep} {e:Nat} {q:QS} {sp:List (List aI)} (I:SInv p e q.2.length q sp) {M:Nat} (hM:∀x∈q.2,(zOf p x.era).length≤M):totS sp≤q.2.length*(M+1):=by
 have:=Ad (sp:=sp) (M:=M+1) fun ys hys=>by
  obtain⟨k,hk⟩:=List.mem_iff_getElem?.1 hys
  have hkl:=(List.getElem?_eq_some_iff.1 hk).1
  rw[I.len]at hkl
  have h1:=(I.rel k _ ys (List.getElem?_eq_getElem hkl) hk).1
  have h2:=hM _ (List.getElem_mem hkl)
  omega
 rwa [I.len]at this
end Go.Proofs.Ytkehohfgbblokaa
namespace Go.Proofs.Ytkehohfgbblokaa
open Go.Eng Go.Plain
set_option maxHeartbeats 32000000
set_option maxRecDepth 20000
section
variable {p : Prep} {l : List HOp} {e : Nat} {st : List LSt} {sp : List (List aI)} {B : List (List Int)} {n : Nat}
def bN (B:List (List Int)) (i:Nat):List Int:=(B[i]?).getD []
def su (sp:List (List aI)) (n m:Nat) (B:List (List Int)):Prop:=B.length=n∧∀(i:Nat) (k:Int),i<n→(k∈bN B i ↔ ∃j:Nat,k=j∧j<m∧∃y∈spN sp (j:Int),y.to.toNat=i)
theorem xT {i:Nat} (hi:i<n):∀(ys:List aI) (B:List (List Int)),B.length=n→(∀y∈ys,y.to.toNat<n)→(ys.foldl (bkF i) B).length=n∧∀(j:Nat) (k:Int),j<n→(k∈bN (ys.foldl (bkF i) B) j↔k∈bN B j∨(k=i∧∃y∈ys,y.to.toNat=j))
 | [],B,hl,_=>⟨hl,fun j k _=>by simp⟩
 | y::ys,B,hl,hy=>by
  have h0:=hy y (by simp)
  obtain⟨b,hb⟩:∃b,B[y.to.toNat]?=some b:=⟨_,List.getElem?_eq_getElem (by omega)⟩
  have he:bkF i B y=B.set y.to.toNat (b++[(i:Int)]):=by rw[bkF,hb]; rfl
  have hl2:(bkF i B y).length=n:=by rw[he,List.length_set]; exact hl
  obtain⟨h1,h2⟩:=xT hi ys (bkF i B y) hl2 fun z hz=>hy z (by simp[hz])
  refine⟨h1,fun j k hj=>?_⟩
  rw[List.foldl_cons,h2 j k hj]
  have h3:k∈bN (bkF i B y) j↔k∈bN B j∨(k=i∧y.to.toNat=j):=by
   rw[he]
   unfold bN
   by_cases hyj:y.to.toNat=j
   ·subst hyj
    rw[List.getElem?_set_self (by omega),hb]
    simp
   ·rw[List.getElem?_set_ne hyj]
    simp[hyj]
  rw[h3]
  simp only[List.mem_cons,exists_eq_or_imp]
  constructor
  ·rintro ((h | h) | h)
   ·exact .inl h
   ·exact .inr ⟨h.1,.inl h.2⟩
   ·exact .inr ⟨h.1,.inr h.2⟩
  ·rintro (h | ⟨h,h4 | h4⟩)
   ·exact .inl (.inl h)
   ·exact .inl (.inr ⟨h,h4⟩)
   ·exact .inr ⟨h,h4⟩
structure G1 (p:Prep) (l:List HOp) (e:Nat) (st:List LSt) (sp:List (List aI)) (m:Nat) (g:GSt):Prop where
 b:su sp st.length m g.B
 ol:g.out.length=st.length
 o:∀i,i<st.length→(g.out[i]?=some true↔i<m∧endB p l e (stN st i)=true)
 q:∀k,k∈g.opn ↔ ∃j:Nat,k=j∧j<m∧endB p l e (stN st j)=true
theorem ry (hsp:SpOk st sp):∀m,m≤st.length→G1 p l e st sp m (gdA p l e st sp m)
 | 0,_=>by
  refine⟨⟨by simp[gdA,gd0],fun i k hi=>?_⟩,by simp[gdA,gd0],fun i hi=>?_,fun k=>?_⟩
  ·simp only[gdA,gd0,bN,List.getElem?_replicate,if_pos hi]
   simp
  ·simp only[gdA,gd0,List.getElem?_replicate,if_pos hi]
   simp
  ·simp[gdA,gd0]
 | m+1,hm=>by
  have ih:=ry hsp m (by omega)
  obtain⟨hbl,hbm⟩:=ih.b
  have hto:∀y∈spN sp (m:Int),y.to.toNat<st.length:=fun y hy=>by
   unfold spN at hy
   rw[Int.toNat_natCast]at hy
   cases hs:sp[m]? with
   | none=>rw[hs]at hy; cases hy
   | some ys=>rw[hs]at hy; have:=hsp.to ys (List.mem_of_getElem? hs) y hy; omega
  obtain⟨h1,h2⟩:=xT (n:=st.length) (i:=m) (by omega) (spN sp m) (gdA p l e st sp m).B hbl hto
  have hB:su sp st.length (m+1) ((spN sp m).foldl (bkF m) (gdA p l e st sp m).B):=⟨h1,fun i k hi=>by
   rw[h2 i k hi,hbm i k hi]
   constructor
   ·rintro (⟨j,h3,h4,h5⟩ | ⟨h3,h4⟩)
    ·exact⟨j,h3,by omega,h5⟩
    ·exact⟨m,h3,by omega,h4⟩
   ·rintro⟨j,h3,h4,h5⟩
    by_cases hj:j=m
    ·subst hj; exact .inr ⟨h3,h5⟩
    ·exact .inl ⟨j,h3,by omega,h5⟩⟩
  unfold gdA gd1
  cases he:endB p l e (stN st m) with
  | true =>
   rw[if_pos rfl]
   refine⟨hB,by simp only; rw[List.length_set]; exact ih.ol,fun i hi=>?_,fun k=>?_⟩
   ·simp only
    by_cases him:i=m
    ·subst him
     rw[List.getElem?_set_self (by rw[ih.ol]; exact hi)]
     simp[he]
    ·rw[List.getElem?_set_ne (fun e=>him e.symm),ih.o i hi]
     constructor
     ·rintro⟨h3,h4⟩; exact⟨by omega,h4⟩
     ·rintro⟨h3,h4⟩; exact⟨by omega,h4⟩
   ·simp only[List.mem_append,List.mem_singleton,ih.q k]
    constructor
    ·rintro (⟨j,h3,h4,h5⟩ | h3)
     ·exact⟨j,h3,by omega,h5⟩
     ·exact⟨m,h3,by omega,he⟩
    ·rintro⟨j,h3,h4,h5⟩
     by_cases hj:j=m
     ·subst hj; exact .inr h3
     ·exact .inl ⟨j,h3,by omega,h5⟩
  | false =>
   rw[if_neg (by decide)]
   refine⟨hB,ih.ol,fun i hi=>?_,fun k=>?_⟩
   ·simp only
    rw[ih.o i hi]
    constructor
    ·rintro⟨h3,h4⟩; exact⟨by omega,h4⟩
    ·rintro⟨h3,h4⟩
     refine⟨?_,h4⟩
     by_cases him:i=m
     ·subst him; rw[he]at h4; cases h4
     ·omega
   ·simp only[ih.q k]
    constructor
    ·rintro⟨j,h3,h4,h5⟩; exact⟨j,h3,by omega,h5⟩
    ·rintro⟨j,h3,h4,h5⟩
     refine⟨j,h3,?_,h5⟩
     by_cases hj:j=m
     ·subst hj; rw[he]at h5; cases h5
     ·omega
structure PJ (p:Prep) (l:List HOp) (e:Nat) (st:List LSt) (sp:List (List aI)) (B:List (List Int)) (i:Option Nat) (out:List Bool) (opn:List Int):Prop where
 ol:out.length=st.length
 a:∀k∈opn,0≤k∧out[k.toNat]?=some true
 b:∀k:Nat,out[k]?=some true→endB p l e (stN st k)=true∨∃y∈spN sp k,out[y.to.toNat]?=some true
 c:∀k:Nat,k<st.length→endB p l e (stN st k)=true→out[k]?=some true
 d:∀j:Nat,out[j]?=some true→(j:Int)∈opn∨some j=i∨∀k∈bN B j,out[k.toNat]?=some true
theorem PJ.psh {i:Nat} {out:List Bool} {opn:List Int} {k:Int} (hB:su sp st.length st.length B) (hi:i<st.length) (hio:out[i]?=some true) (J:PJ p l e st sp B (some i) out opn) (hk:k∈bN B i):PJ p l e st sp B (some i) (pshF (out,opn) k).1 (pshF (out,opn) k).2∧(∀j:Nat,out[j]?=some true→(pshF (out,opn) k).1[j]?=some true)∧(pshF (out,opn) k).1[k.toNat]?=some true:=by
 obtain⟨j,rfl,hj,y,hy,hyi⟩:=(hB.2 i k hi).1 hk
 obtain⟨c,hc⟩:∃c,out[j]?=some c:=⟨_,List.getElem?_eq_getElem (by rw[J.ol]; exact hj)⟩
 have hc':out[((j:Int)).toNat]?=some c:=by rw[Int.toNat_natCast]; exact hc
 cases c with
 | true =>
  rw[wB hc']
  exact⟨J,fun _ h=>h,hc'⟩
 | false =>
  rw[wC hc']
  have hset:∀m:Nat,(out.set ((j:Int)).toNat true)[m]?=some true↔m=j∨out[m]?=some true:=fun m=>by
   rw[Int.toNat_natCast]
   by_cases hm:j=m
   ·subst hm
    rw[List.getElem?_set_self (by rw[J.ol]; exact hj)]; simp
   ·rw[List.getElem?_set_ne hm]
    constructor
    ·exact .inr
    ·rintro (h | h)
     ·exact absurd h.symm hm
     ·exact h
  refine⟨⟨by simp only; rw[List.length_set]; exact J.ol,fun m hm=>?_,fun m hm=>?_,fun m hm he=>?_,fun m hm=>?_⟩,fun m hm=>(hset m).2 (.inr hm),(hset _).2 (.inl (Int.toNat_natCast j))⟩
  ·rcases List.mem_append.1 hm with hm | hm
   ·exact⟨(J.a m hm).1,(hset _).2 (.inr (J.a m hm).2)⟩
   ·rw[List.mem_singleton.1 hm]
    exact⟨by omega,(hset _).2 (.inl (Int.toNat_natCast j))⟩
  ·rcases (hset m).1 hm with rfl | hm
   ·exact .inr ⟨y,hy,(hset _).2 (.inr (by rw[hyi]; exact hio))⟩
   ·rcases J.b m hm with h | ⟨z,hz,h⟩
    ·exact .inl h
    ·exact .inr ⟨z,hz,(hset _).2 (.inr h)⟩
  ·exact (hset m).2 (.inr (J.c m hm he))
  ·rcases (hset m).1 hm with rfl | hm
   ·exact .inl (List.mem_append.2 (.inr (List.mem_singleton.2 rfl)))
   ·rcases J.d m hm with h | h | h
    ·exact .inl (List.mem_append.2 (.inl h))
    ·exact .inr (.inl h)
    ·exact .inr (.inr fun k hk=>(hset _).2 (.inr (h k hk)))
theorem PJ.fold {i:Nat} (hB:su sp st.length st.length B) (hi:i<st.length):∀(bk:List Int) (out:List Bool) (opn:List Int),out[i]?=some true→PJ p l e st sp B (some i) out opn→(∀k∈bk,k∈bN B i) →
  PJ p l e st sp B (some i) (bk.foldl pshF (out,opn)).1 (bk.foldl pshF (out,opn)).2∧(∀j:Nat,out[j]?=some true→(bk.foldl pshF (out,opn)).1[j]?=some true)∧∀k∈bk,(bk.foldl pshF (out,opn)).1[k.toNat]?=some true
 | [],out,opn,_,J,_=>⟨J,fun _ h=>h,fun k hk=>by cases hk⟩
 | k::bk,out,opn,hio,J,hk=>by
  obtain⟨h1,h2,h3⟩:=J.psh hB hi hio (hk k (by simp))
  obtain⟨h4,h5,h6⟩:=PJ.fold hB hi bk (pshF (out,opn) k).1 (pshF (out,opn) k).2 (h2 i hio) h1 fun k' hk'=>hk k' (by simp[hk'])
  refine⟨h4,fun j hj=>h5 j (h2 j hj),fun k' hk'=>?_⟩
  rcases List.mem_cons.1 hk' with rfl | hk'
  ·exact h5 _ h3
  ·exact h6 k' hk'
theorem ym {out:List Bool} {opn:List Int}:∀(bk:List Int),(∀k∈bk,k.toNat<out.length)→(bk.foldl pshF (out,opn)).2.length+cntF (bk.foldl pshF (out,opn)).1=opn.length+cntF out:=by
 intro bk
 induction bk generalizing out opn with
 | nil=>intro _; rfl
 | cons k bk ih =>
  intro hk
  obtain⟨c,hc⟩:∃c,out[k.toNat]?=some c:=⟨_,List.getElem?_eq_getElem (hk k (by simp))⟩
  rw[List.foldl_cons]
  cases c with
  | true=>rw[wB hc]; exact ih fun k' hk'=>hk k' (by simp[hk'])
  | false =>
   rw[wC hc,ih fun k' hk'=>by rw[List.length_set]; exact hk k' (by simp[hk'])]
   have:=lj hc
   rw[List.length_append,List.length_singleton]; omega
theorem oX (hB:su sp st.length st.length B):∀(n:Nat) (out:List Bool) (opn:List Int),opn.length+cntF out<n→PJ p l e st sp B none out opn→PJ p l e st sp B none (popG B n out opn) []
 | 0,_,_,h,_=>by omega
 | n+1,out,opn,h,J=>by
  unfold popG
  cases hgl:opn.getLast? with
  | none =>
   have:opn=[]:=List.getLast?_eq_none_iff.1 hgl
   subst this
   exact J
  | some i =>
   simp only
   have hne:opn≠[]:=fun e=>by rw[e]at hgl; cases hgl
   have him:i∈opn:=List.mem_of_getLast? hgl
   obtain⟨hi0,hio⟩:=J.a i him
   have hil:i.toNat<st.length:=by have:=(List.getElem?_eq_some_iff.1 hio).1; rwa [J.ol]at this
   have hdl:∀k∈opn,k=i∨k∈opn.dropLast:=fun k hk=>by
    have hx:opn.dropLast++[i]=opn:=by
     have h1:=List.dropLast_concat_getLast hne
     rw[List.getLast?_eq_some_getLast hne]at hgl
     rw[Option.some.inj hgl]at h1
     exact h1
    rw[←hx]at hk
    rcases List.mem_append.1 hk with hk | hk
    ·exact .inr hk
    ·exact .inl (List.mem_singleton.1 hk)
   have J1:PJ p l e st sp B (some i.toNat) out opn.dropLast:=⟨J.ol,fun k hk=>J.a k (List.dropLast_subset _ hk),J.b,J.c,fun j hj=>by
    rcases J.d j hj with h | h | h
    ·rcases hdl _ h with h | h
     ·exact .inr (.inl (by rw[←h]; rw[Int.toNat_natCast]))
     ·exact .inl h
    ·cases h
    ·exact .inr (.inr h)⟩
   have hbe:(B[i.toNat]?).getD []=bN B i.toNat:=rfl
   rw[hbe]
   obtain⟨J2,hmono,hall⟩:=PJ.fold hB hil (bN B i.toNat) out opn.dropLast hio J1 fun _ h=>h
   have hc:=ym (out:=out) (opn:=opn.dropLast) (bN B i.toNat) fun k hk=>by
    obtain⟨j,rfl,hj,_⟩:=(hB.2 i.toNat k hil).1 hk
    rw[J.ol,Int.toNat_natCast]; exact hj
   have hlen:0<opn.length:=List.length_pos_iff.2 hne
   rw[List.length_dropLast]at hc
   refine oX hB n _ _ (by omega) ⟨J2.ol,J2.a,J2.b,J2.c,fun j hj=>?_⟩
   rcases J2.d j hj with h | h | h
   ·exact .inl h
   ·simp only[Option.some.injEq]at h
    subst h
    exact .inr (.inr hall)
   ·exact .inr (.inr h)
theorem ru (hsp:SpOk st sp) (i:Nat) (hi:i<st.length):(dX p l e st sp)[i]?=some true↔endB p l e (stN st i)=true∨∃y∈spN sp i,(dX p l e st sp)[y.to.toNat]?=some true:=by
 have g:=ry (p:=p) (l:=l) (e:=e) hsp st.length (Nat.le_refl _)
 have hcnt:(gdA p l e st sp st.length).opn.length+cntF (gdA p l e st sp st.length).out<st.length+1:=by
  have:∀m,m≤st.length→(gdA p l e st sp m).opn.length+cntF (gdA p l e st sp m).out≤st.length∧∀j,m≤j→j<st.length→(gdA p l e st sp m).out[j]?=some false:=by
   intro m
   induction m with
   | zero=>intro _; exact⟨by simp only[gdA,gd0,List.length_nil,rV]; omega,fun j _ hj=>by simp only[gdA,gd0]; rw[List.getElem?_replicate,if_pos hj]⟩
   | succ m ih =>
    intro hm
    obtain⟨h1,h2⟩:=ih (by omega)
    unfold gdA gd1
    split
    ·have h3:=lj (h2 m (Nat.le_refl _) (by omega))
     refine⟨by simp only[List.length_append,List.length_singleton]; omega,fun j hj hjl=>?_⟩
     simp only
     rw[List.getElem?_set_ne (by omega)]
     exact h2 j (by omega) hjl
    ·exact⟨h1,fun j hj hjl=>h2 j (by omega) hjl⟩
  have:=(this st.length (Nat.le_refl _)).1
  omega
 have J0:PJ p l e st sp (gdA p l e st sp st.length).B none (gdA p l e st sp st.length).out (gdA p l e st sp st.length).opn:=by
  refine⟨g.ol,fun k hk=>?_,fun k hk=>?_,fun k hk he=>(g.o k hk).2 ⟨hk,he⟩,fun j hj=>?_⟩
  ·obtain⟨j,rfl,hj,he⟩:=(g.q k).1 hk
   exact⟨by omega,by rw[Int.toNat_natCast]; exact (g.o j hj).2 ⟨hj,he⟩⟩
  ·have hk2:k<st.length:=by have:=(List.getElem?_eq_some_iff.1 hk).1; rwa [g.ol]at this
   exact .inl ((g.o k hk2).1 hk).2
  ·have hk2:j<st.length:=by have:=(List.getElem?_eq_some_iff.1 hj).1; rwa [g.ol]at this
   exact .inl ((g.q _).2 ⟨j,rfl,hk2,((g.o j hk2).1 hj).2⟩)
 have J:=oX g.b _ _ _ hcnt J0
 have hG:popG (gdA p l e st sp st.length).B (st.length+1) (gdA p l e st sp st.length).out (gdA p l e st sp st.length).opn=dX p l e st sp:=rfl
 rw[hG]at J
 constructor
 ·exact J.b i
 ·rintro (h | ⟨y,hy,h⟩)
  ·exact J.c i hi h
  ·rcases J.d _ h with h2 | h2 | h2
   ·cases h2
   ·cases h2
   ·have hyl:y.to.toNat<st.length:=by have:=(List.getElem?_eq_some_iff.1 h).1; rwa [J.ol]at this
    have:=h2 (i:Int) ((g.b.2 _ _ hyl).2 ⟨i,rfl,hi,y,hy,rfl⟩)
    rwa [Int.toNat_natCast]at this
end
theorem SInv.leastOk {l:List HOp} {b:Int} {p:Prep} {e:Nat} {ks:List Int} {kv:List (List UInt8)} {q:QS} {sp:List (List aI)} (F:gk l b e p ks kv) (I:SInv p e q.2.length q sp) (he:0<e) (hb:e+l.length≤1000000):uD p l e q.2 sp (muS p e q.2):=by
 refine⟨fun i hi=>?_,fun i ys hys y hy=>I.dn i ys hys y hy,?_⟩
 ·have hil:i<q.2.length:=by have:=(List.getElem?_eq_some_iff.1 hi).1; rwa [nW]at this
  rcases (ru I.spOk i hil).1 hi with h | ⟨y,hy,h⟩
  ·left
   obtain⟨n,rfl⟩:∃n,e=n+1:=⟨e-1,by omega⟩
   unfold endB at h
   simp only[Bool.and_eq_true]at h
   rw[la,if_pos h.1]
   exact h.2
  ·right
   cases hf:(spN sp (i:Int)).find? (gF (dX p l e q.2 sp)) with
   | some z=>exact⟨z,rfl⟩
   | none =>
    have:=List.find?_eq_none.1 hf y hy
    exact absurd (by unfold gF; rw[h]; rfl) this
 ·rw[mu0 F I he]
  have:=m6 l b e
  omega
end Go.Proofs.Ytkehohfgbblokaa
namespace Go.Eng
open Go.RowKit
theorem FnIs.wide {P:Program} {f:FuncId} {avs:List AV} {h0 rows:List (Nat×Row)} {res:AV} {W:Nat} (hW:8≤W) (h:FnIs P f avs h0 res rows):jz W P f avs h0 res rows:=by
 refine⟨h.1,fun C σ w vs h1 h2 h3 h4 h5 h6=>(h.2 C σ w vs h1 h2 h3 h4 h5 h6).mono ?_⟩
 rintro e w' ⟨v,σ',he,hst⟩
 have:=hst.grow (G':=fun r=>r<64+W) (fun r hr=>by omega)
 exact⟨v,σ',he, { this with }⟩
end Go.Eng
namespace Go.Proofs.Ytkehohfgbblokaa
open Go.Eng Go.Plain
set_option maxHeartbeats 32000000
set_option maxRecDepth 20000
attribute [local irreducible] WC RegS RegD SeqQ BlkQ ScoQ RegK CutK Sat SatN FnIs LoopQ ak OpIs
abbrev lH (h:List HEv) (b:Int):List HOp:=opL h b
abbrev pH (h:List HEv) (b:Int):Prep:=cR (lH h b) b (br h)
def kH (h:List HEv) (b fuel:Int):Option (QS×List (List aI)):=oG (pH h b) (lH h b) (br h) fuel
def eI (h:List HEv) (b fuel:Int):(List Int×Bool)×Int :=
 if opE h b=0 then
  if fuel<0∨1048576<fuel then (([],false),1)
  else match kH h b fuel with
   | none=>(([],false),4)
   | some r=>(kz (pH h b) (lH h b) (br h) r.1.2 r.2 (br h+sumM (lH h b) b (br h)+1),0)
 else (([],false),opE h b)
def ii (h:List HEv) (b fuel:Int):Int×Int :=
 if opE h b=0 then
  if fuel<0∨1048576<fuel then (0,1)
  else match kH h b fuel with
   | none=>(0,4)
   | some r=>(r.1.2.length,0)
 else (0,opE h b)
structure oj (h:List HEv) (b fuel:Int):Prop where
 len:h.length≤8192
 al:(rdH h).all.length≤8192
 run:opE h b=0→0≤fuel→fuel≤1048576→tv h b fuel (pH h b) (lH h b) (br h) (kH h b fuel)
 pok:opE h b=0→∃ks kv,gk (lH h b) b (br h) (pH h b) ks kv
 ll:opE h b=0→(lH h b).length≤8192
 tot:∀r,opE h b=0→0≤fuel→fuel≤1048576→kH h b fuel=some r→totS r.2+1≤67108864
theorem m8 (h:List HEv) (b fuel:Int) (c:Int) (hw:jz 16 Try.prog 56 [.d (encH h),.int .i64 b,.int .i64 fuel] [] (ptrE c) []) (hc:c≠0):FnIs Try.prog 21 [.d (encH h),.int .i64 b,.int .i64 fuel] [] (.tup (.acons (.int .i64 0) (.acons (.int .i64 c) .anil))) []:=by
 have d0:(!decide (c=0))=true:=by rw[dF hc]; rfl
 refine aH aa Try.func21 rfl rfl rfl ?_;refine sR<|zD<|nR ?_;refine zU ?_;refine jC (by decide) [] rfl hw rfl rfl rfl (am (am (am aj))) trivial rfl rfl (.inl rfl) rfl rfl rfl ?_;iterate 5 refine rC ?_
 refine zW<|zD ?_;refine zI<|sR ?_;refine zU<|zT<|bX ?_
 exact⟨trivial,[],lf⟩
theorem wc (h:List HEv) (b fuel:Int) (l:List HOp) (e:Int) (p:Prep) (q:QS) (sp:List (List aI)) (hw:jz 16 Try.prog 56 [.d (encH h),.int .i64 b,.int .i64 fuel] [] (.tup (.acons (.ptr 64 []) (.acons (.int .i64 0) .anil))) (kq l b e p sp q)):FnIs Try.prog 21 [.d (encH h),.int .i64 b,.int .i64 fuel] [] (.tup (.acons (.int .i64 q.2.length) (.acons (.int .i64 0) .anil))) []:=by
 refine aH aa Try.func21 rfl rfl rfl ?_;refine sR<|zD<|nR ?_;refine zU ?_;refine jC (by decide) [] rfl hw rfl rfl rfl (am (am (am aj))) trivial rfl rfl (.inl rfl) rfl rfl rfl ?_;iterate 5 refine rC ?_
 refine zW<|zD ?_;refine zJ<|kS<|sR ?_;refine zU ?_;refine rQ iM ?_;refine rQ (bR aa rfl rfl) ?_;refine zD<|zT ?_
 exact⟨trivial,[],lf⟩
theorem s8 (h:List HEv) (b fuel:Int) (c:Int) (hw:jz 16 Try.prog 56 [.d (encH h),.int .i64 b,.int .i64 fuel] [] (ptrE c) []) (hc:c≠0):FnIs Try.prog 23 [.d (encH h),.int .i64 b,.int .i64 fuel] [] (.tup (.acons (.d (mu [])) (.acons (.bool false) (.acons (.int .i64 c) .anil)))) []:=by
 have d0:(!decide (c=0))=true:=by rw[dF hc]; rfl
 refine aH aa Try.func23 rfl rfl rfl ?_;refine sR<|zU<|nR ?_;refine zU ?_;refine jC (by decide) [] rfl hw rfl rfl rfl (am (am (am aj))) trivial rfl rfl (.inl rfl) rfl rfl rfl ?_;iterate 5 refine rC ?_
 refine zW<|zD ?_;refine zI<|sR ?_;iterate 4 refine rC ?_
 refine zT<|bX ?_
 exact⟨trivial,[],lg ⟨⟨_,rfl,AVLe.tup1 (io _ _) rfl⟩,rfl,trivial⟩ trivial⟩
theorem AD (h:List HEv) (b fuel:Int) (l:List HOp) (e:Int) (p:Prep) (q:QS) (sp:List (List aI)) (o:List Int) (f:Bool) (hle:FnIs Try.prog 57 [.ptr 0 []] (cw l b e p sp q 9) (ordE o f) (cw l b e p sp q 9)) (hw:jz 16 Try.prog 56 [.d (encH h),.int .i64 b,.int .i64 fuel] [] (.tup (.acons (.ptr 64 []) (.acons (.int .i64 0) .anil))) (kq l b e p sp q)):FnIs Try.prog 23 [.d (encH h),.int .i64 b,.int .i64 fuel] [] (.tup (.acons (.d (mu o)) (.acons (.bool f) (.acons (.int .i64 0) .anil)))) []:=by
 refine aH aa Try.func23 rfl rfl rfl ?_;refine sR<|zU<|nR ?_;refine zU ?_;refine jC (by decide) [] rfl hw rfl rfl rfl (am (am (am aj))) trivial rfl rfl (.inl rfl) rfl rfl rfl ?_;iterate 5 refine rC ?_
 refine zW<|zD ?_;refine zJ<|kS<|sR ?_;refine rC ?_;refine bJ rfl (aY [(0,some 112),(1,some 113),(2,some 114),(3,some 115),(4,some 116),(5,some 117),(6,some 118),(7,some 119),(8,some 120),(9,some 121),(10,some 122)] hle rfl rfl rfl (aV rfl rfl aj) ⟨zH,zN,zN,zH,zN,zN,zN,zN,zN,zH,zH,trivial⟩ rfl rfl (.inl rfl) rfl rfl) rfl rfl ?_
 iterate 5 refine rC ?_
 refine nR ?_;iterate 5 refine rC ?_
 refine zT ?_
 exact⟨trivial,[],lf⟩
theorem fV (h:List HEv):0<br h:=by unfold br; omega
theorem xy {h:List HEv} (hh:h.length≤8192):br h≤8193:=by
 have:h.countP (fun x=>decide (x.kind=3))≤h.length:=List.countP_le_length
 unfold br; omega
theorem uP {h:List HEv} {b fuel:Int} (R:oj h b fuel):FnIs Try.prog 21 [.d (encH h),.int .i64 b,.int .i64 fuel] [] (.tup (.acons (.int .i64 (ii h b fuel).1) (.acons (.int .i64 (ii h b fuel).2) .anil))) []:=by
 have hl:=R.len
 have ha:=R.al
 unfold ii
 by_cases hE:opE h b=0
 ·rw[if_pos hE]
  by_cases hf:fuel<0∨1048576<fuel
  ·rw[if_pos hf]
   exact m8 h b fuel 1 ((qz h b fuel (by omega) (by omega) hE hf).wide (by decide)) (by decide)
  ·rw[if_neg hf]
   have hr:=R.run hE (by omega) (by omega)
   cases hs:kH h b fuel with
   | none =>
    rw[hs]at hr
    exact m8 h b fuel 4 hr (by decide)
   | some r =>
    obtain⟨q,sp⟩:=r
    rw[hs]at hr
    exact wc h b fuel _ _ _ q sp hr
 ·rw[if_neg hE]
  exact m8 h b fuel (opE h b) ((qA h b fuel (by omega) (by omega) hE).wide (by decide)) hE
theorem ug {h:List HEv} {b fuel:Int} (R:oj h b fuel):FnIs Try.prog 23 [.d (encH h),.int .i64 b,.int .i64 fuel] [] (.tup (.acons (.d (mu (eI h b fuel).1.1)) (.acons (.bool (eI h b fuel).1.2) (.acons (.int .i64 (eI h b fuel).2) .anil)))) []:=by
 have hl:=R.len
 have ha:=R.al
 unfold eI
 by_cases hE:opE h b=0
 ·rw[if_pos hE]
  by_cases hf:fuel<0∨1048576<fuel
  ·rw[if_pos hf]
   exact s8 h b fuel 1 ((qz h b fuel (by omega) (by omega) hE hf).wide (by decide)) (by decide)
  ·rw[if_neg hf]
   have hr:=R.run hE (by omega) (by omega)
   cases hs:kH h b fuel with
   | none =>
    rw[hs]at hr
    exact s8 h b fuel 4 hr (by decide)
   | some r =>
    obtain⟨q,sp⟩:=r
    rw[hs]at hr
    obtain⟨ks,kv,F⟩:=R.pok hE
    have hll:=R.ll hE
    have he:=fV h
    have he2:=xy hl
    have P:=F.ok hll
    obtain⟨I,hfu⟩:=jB P he hs
    have ht:=R.tot _ hE (by omega) (by omega) hs
    have hq0:=(List.getElem?_eq_some_iff.1 I.fst).1
    have hle:=xb (lH h b) b (br h) (pH h b) sp q (muS (pH h b) (br h) q.2) P I.ok.st (by omega) I.spOk I.eraOk (by omega) hq0 ht (I.leastOk F he (by omega))
    rw[mu0 F I he]at hle
    exact AD h b fuel _ _ _ q sp _ _ hle hr
 ·rw[if_neg hE]
  exact s8 h b fuel (opE h b) ((qA h b fuel (by omega) (by omega) hE).wide (by decide)) hE
theorem rc {h:List HEv} {b fuel:Int} (R:oj h b fuel):FnIs Try.prog 22 [.d (encH h),.int .i64 b,.int .i64 fuel] [] (.tup (.acons (.bool (eI h b fuel).1.2) (.acons (.int .i64 (eI h b fuel).2) .anil))) []:=by
 have hfi:=ug R
 refine aH aa Try.func22 rfl rfl rfl ?_;refine sR<|zD<|nR ?_;refine zU ?_;refine rQ (aE hfi rfl rfl (am (am (am aj))) (.inl rfl) (fun _=>rfl)) ?_;iterate 7 refine rC ?_
 refine nR ?_;iterate 4 refine rC ?_
 refine zT ?_
 exact⟨trivial,[],lf⟩
structure PQ where
 kind:UInt8
 index:UInt8
 data:UInt8
def encQ (x:PQ):D :=.cons (u8s x.kind.toNat) (.cons (u8s x.index.toNat) (.cons (u8s x.data.toNat) .nil))
def qOf (x:PQ):POp :=
 if x.kind.toNat % 9<4 then⟨1,((x.index.toNat % 22:Nat):Int)-1,[]⟩
 else if x.kind.toNat % 9<7 then⟨2,((x.index.toNat % 22:Nat):Int)-1,List.replicate 32 x.data⟩
 else if x.kind.toNat % 9=8 then⟨((x.data.toNat % 4:Nat):Int),(x.index.toNat:Int)-100,List.replicate (x.index.toNat % 32) x.data⟩
 else⟨3,0,[]⟩
theorem fU (k i:Int):AVLe (.d (.cons (.sc (.int .u8 k)) (.cons (.sc (.int .i64 i)) (.cons (.sc nil_) .nil)))) (.d (ct ⟨k,i,[]⟩)):=
 AVLe.d (x:=encV (true,⟨k,i,[]⟩)) (fun w X cs h=>yS (x:=(true,⟨k,i,[]⟩)) (fun _=>rfl) h) rfl
def gh (d:Int) (n i:Nat):List Int:=List.replicate i d++List.replicate (n-i) 0
theorem ta (d:Int) (n:Nat):gh d n 0=List.replicate n 0:=by simp[gh]
theorem pm {d:Int} {n i:Nat} (h:i<n):(gh d n i)[i]?=some 0:=by
 obtain⟨k,hk⟩:∃k,n-i=k+1:=⟨n-i-1,by omega⟩
 rw[gh,hk,List.getElem?_append_right (by simp),List.length_replicate,Nat.sub_self]
 rfl
theorem pk {d:Int} {n i:Nat} (h:i<n):(gh d n i).set i d=gh d n (i+1):=by
 obtain⟨k,hk⟩:∃k,n-i=k+1:=⟨n-i-1,by omega⟩
 rw[gh,gh,List.set_append_right _ _ (by simp),List.replicate_succ' (n:=i),List.append_assoc,hk,show n-(i+1)=k by omega,List.length_replicate,Nat.sub_self]
 rfl
theorem pn (d:UInt8) (n:Nat):gh d.toNat n n=byI (List.replicate n d):=by simp[gh,byI]
theorem Ah (x:PQ):FnIs Try.prog 62 [.d (encQ x)] [] (.d (ct (qOf x))) []:=by
 have hx1:=x.kind.toNat_lt
 have hx2:=x.index.toNat_lt
 have hx3:=x.data.toNat_lt
 refine aH aa Try.func62 rfl rfl rfl ?_;refine sR ?_;iterate 2 refine rN ?_
 refine nR<|rQ iS ?_;refine rN ?_;refine rW<|nR ?_;refine aX (eS (enc:=cX) (s:=1) (N:=32) aa (0:Int) rfl rfl rfl rfl rfl rfl rfl (by decide) rfl) rfl ?_;refine rC<|zW ?_;refine rC<|zP ?_
 refine wc_inv (fun i:Nat=>⟨[(5,.int .i64 i),(4,.own 67 0 32 1 none),(3,.ptr 66 []),(2,.ptr 65 []),(1,.ptr 64 [])],[(64,some (.box 130 (.d (encQ x)))),(65,some (.box 25 (.d (encV (true,wR))))),(66,some (.box 25 (.d (encV (true,⟨3,0,[]⟩))))),(67,some (.ds 5 1 true cX (gh x.data.toNat 32 i)))],72,Try.f62.ntmps,64⟩) (fun i=>i≤32) (fun i=>32-i) 0 [(64,some _),(65,some _),(66,some _),(67,some _)] (Nat.zero_le _)
  (lg zh ⟨zR,zR,zR,⟨rfl,rfl,_,rfl,aN.of_eq (by rw[ta]; rfl)⟩,trivial⟩) ?_
 intro i hi
 by_cases hlt:i<32
 ·have h3:decide ((i:Int)<32)=true:=dT (by omega)
  have hg:(gh x.data.toNat 32 i)[((i:Int)).toNat]?=some 0:=by rw[Int.toNat_natCast]; exact pm hlt
  have hset:=pk (d:=(x.data.toNat:Int)) hlt
  refine cj<|qR ?_;refine zD ?_;refine zI<|zQ<|bQ<|ae ?_;refine zU ?_;refine rQ iB ?_;refine rQ (aL aa rfl rfl rfl rfl rfl (by omega) (by omega)) ?_;refine bS (aO aa rfl rfl rfl ⟨rfl,(0:Int),(x.data.toNat:Int),hg,⟨rfl,rfl,rfl⟩,rfl⟩ rfl)<|aq<|zC<|ae ?_;refine rC ?_;refine rQ iD ?_;refine rC<|aq ?_
  exact aJ (i+1) [] hlt (by omega) (lg zh ⟨zR,zR,zR,⟨rfl,rfl,_,rfl,aN.of_eq (congrArg (Row.ds 5 1 true cX) hset)⟩,trivial⟩)
 ·have he:i=32:=by omega
  subst he
  rw[pn]
  have h3:decide (((32:Nat):Int)<32)=false:=rfl
  have hl32:32=(byI (List.replicate 32 x.data)).length:=by rw[fQ,List.length_replicate]
  refine cj ?_;refine eu (env':=[(5,_),(4,_),(3,_),(2,_),(1,_)]) (h':=[(64,some _),(65,some _),(66,some _)]) 67 _ rfl ⟨zE,⟨_,rfl,Frz.own hl32⟩,zE,zE,zE,trivial⟩ ⟨⟨rfl,_,rfl,.refl _⟩,⟨rfl,_,rfl,.refl _⟩,⟨rfl,_,rfl,.refl _⟩,trivial⟩ ?_
  have hw27:IntKind.i64.wrap ((x.index.toNat % 22:Nat):Int)=((x.index.toNat % 22:Nat):Int):=bh (by omega) (by omega)
  have hw48:IntKind.i64.wrap (x.index.toNat:Int)=(x.index.toNat:Int):=bh (by omega) (by omega)
  have h54:((x.index.toNat % 32:Nat):Int)≤(byI (List.replicate 32 x.data)).length:=by rw[fQ,List.length_replicate]; omega
  by_cases q4:x.kind.toNat % 9<4
  ·have d4:decide (((x.kind.toNat % 9:Nat):Int)<4)=true:=dT (by omega)
   rw[show qOf x=⟨1,((x.index.toNat % 22:Nat):Int)-1,[]⟩ by rw[qOf,if_pos q4]]
   refine qR<|zD ?_;refine zJ<|zX<|qR ?_;refine rC ?_;refine rQ iB ?_;refine rQ (cm (a:=x.kind.toNat) (b:=9) aa rfl rfl rfl (by decide)) ?_;refine rC<|zP<|sR ?_;refine zU ?_;refine zI<|ae ?_;refine rC ?_;refine rQ iB ?_;refine rQ (cm (a:=x.index.toNat) (b:=22) aa rfl rfl rfl (by decide)) ?_;refine rQ (cM (m:=((x.index.toNat % 22:Nat):Int)) aa rfl rfl rfl hw27) ?_;refine rQ (dh aa rfl rfl (bh (by omega) (by omega))) ?_;refine rQ iS ?_;refine rW<|aq<|zC<|sR ?_;refine rQ iM ?_;refine rW<|zT ?_
   exact⟨trivial,_,rfl,[],lg ⟨⟨_,rfl,fU _ _⟩,rfl,trivial⟩ trivial⟩
  have d4:decide (((x.kind.toNat % 9:Nat):Int)<4)=false:=dF (by omega)
  by_cases q7:x.kind.toNat % 9<7
  ·have d7:decide (((x.kind.toNat % 9:Nat):Int)<7)=true:=dT (by omega)
   rw[show qOf x=⟨2,((x.index.toNat % 22:Nat):Int)-1,List.replicate 32 x.data⟩ by rw[qOf,if_neg q4,if_pos q7]]
   refine qR<|zD ?_;refine zJ<|zX<|qR ?_;refine rC ?_;refine rQ iB ?_;refine rQ (cm (a:=x.kind.toNat) (b:=9) aa rfl rfl rfl (by decide)) ?_;refine rC<|zP<|sR ?_;refine zU ?_;refine zG<|sR ?_;refine zU ?_;refine zI<|ae ?_;refine rC ?_;refine rQ iB ?_;refine rQ (cm (a:=x.index.toNat) (b:=22) aa rfl rfl rfl (by decide)) ?_;refine rQ (cM (m:=((x.index.toNat % 22:Nat):Int)) aa rfl rfl rfl hw27) ?_;refine rQ (dh aa rfl rfl (bh (by omega) (by omega))) ?_;refine rC ?_;refine rQ iS ?_;refine rW<|aq<|zC<|sR ?_;refine rQ iM ?_;refine rW<|zT ?_
   exact⟨trivial,_,rfl,[],lf⟩
  have d7:decide (((x.kind.toNat % 9:Nat):Int)<7)=false:=dF (by omega)
  by_cases q8:x.kind.toNat % 9=8
  ·have d8:decide (((x.kind.toNat % 9:Nat):Int)=8)=true:=dT (by omega)
   rw[show qOf x=⟨((x.data.toNat % 4:Nat):Int),(x.index.toNat:Int)-100,List.replicate (x.index.toNat % 32) x.data⟩ by rw[qOf,if_neg q4,if_neg q7,if_pos q8]]
   have ht:(byI (List.replicate 32 x.data)).take (((x.index.toNat % 32:Nat):Int)).toNat=byI (List.replicate (x.index.toNat % 32) x.data):=by
    rw[Int.toNat_natCast,byI,byI,←List.map_take,List.take_replicate,Nat.min_eq_left (by omega)]
   refine qR<|zD ?_;refine zJ<|zX<|qR ?_;refine rC ?_;refine rQ iB ?_;refine rQ (cm (a:=x.kind.toNat) (b:=9) aa rfl rfl rfl (by decide)) ?_;refine rC<|zP<|sR ?_;refine zU ?_;refine zG<|sR ?_;refine zU ?_;refine zG<|sR ?_;refine zU ?_;refine zI ?_;refine aB (by kernel_rfl) ?_;refine dC [1] [] ?_;refine dQ [43] [64] iB ?_;refine dQ [44] [] (cm (a:=x.data.toNat) (b:=4) aa rfl rfl rfl (by decide)) ?_;refine dC [1] [] ?_;refine dQ [46] [64] iB ?_;refine dQ [47] [] (cM (m:=(x.index.toNat:Int)) aa rfl rfl rfl hw48) ?_;refine dQ [48] [] (dh aa rfl rfl (bh (by omega) (by omega))) ?_;refine dC [4] [] ?_;refine dC [1] [] ?_;refine dQ [51] [64] iB ?_;refine dQ [52] [] (cm (a:=x.index.toNat) (b:=32) aa rfl rfl rfl (by decide)) ?_;refine dQ [50,53] [] (qy (m:=((x.index.toNat % 32:Nat):Int)) aa rfl rfl rfl rfl (by omega) h54) ?_;refine dQ [45,49,54] [] iS ?_;refine bC [3,55] [66] (aO aa rfl rfl rfl ⟨_,⟨rfl,rfl,rfl⟩,rfl⟩ rfl) ?_;refine ao (by kernel_rfl)<|gJ<|aK<|sR ?_;refine rQ iM ?_;refine rW<|zT ?_
   rw[ht]
   exact⟨trivial,_,rfl,[],lf⟩
  ·have d8:decide (((x.kind.toNat % 9:Nat):Int)=8)=false:=dF (by omega)
   rw[show qOf x=⟨3,0,[]⟩ by rw[qOf,if_neg q4,if_neg q7,if_neg q8]]
   refine qR<|zD ?_;refine zJ<|zX<|qR ?_;refine rC ?_;refine rQ iB ?_;refine rQ (cm (a:=x.kind.toNat) (b:=9) aa rfl rfl rfl (by decide)) ?_;refine rC<|zP<|sR ?_;refine zU ?_;refine zG<|sR ?_;refine zU ?_;refine zG<|sR ?_;refine zU ?_;refine zG<|aS<|zC<|sR ?_;refine rQ iM ?_;refine rW<|zT ?_
   exact⟨trivial,_,rfl,[],lg ⟨⟨_,rfl,fU _ _⟩,rfl,trivial⟩ trivial⟩
def blkB (d:UInt8):UInt8:=(d.toNat % 4).toUInt8
theorem xS (d:UInt8):(blkB d).toNat=d.toNat % 4:=by
 rw[blkB,Nat.toUInt8_eq,UInt8.toNat_ofNat']
 omega
theorem kD (d:UInt8):FnIs Try.prog 41 [.int .u8 d.toNat] [] (.d (bj (List.replicate 32 (blkB d)))) []:=by
 have hd:=d.toNat_lt
 refine aH aa Try.func41 rfl rfl rfl ?_;refine sR<|rN<|nR ?_;refine rN<|zW ?_;refine rC<|zP ?_
 refine wc_inv (fun i:Nat=>⟨[(4,.int .i64 i),(3,.ptr 65 []),(2,.ptr 66 []),(0,.int .u8 d.toNat)],[(65,some (.box 27 (.d (.vec 32 1 cX (gh ((d.toNat % 4:Nat):Int) 32 i))))),(66,some (.box 27 (.d (.vec 32 1 cX (List.replicate 32 0)))))],72,Try.f41.ntmps,64⟩) (fun i=>i≤32) (fun i=>32-i) 0 [(65,some _),(66,some _)] (Nat.zero_le _)
  (lg zi ⟨zR,zR,trivial⟩) ?_
 intro i hi
 refine cj<|qR ?_;refine zD<|nS ?_
 refine gp rfl (fun h3=>?_) (fun h3=>?_)
 ·have hlt:i<32:=by have:=of_decide_eq_true h3; omega
  have hg:(gh ((d.toNat % 4:Nat):Int) 32 i)[((i:Int)).toNat]?=some 0:=by rw[Int.toNat_natCast]; exact pm hlt
  have hs:=pk (d:=((d.toNat % 4:Nat):Int)) hlt
  refine zQ<|bQ<|ae<|zD ?_;refine rQ (cm (a:=d.toNat) (b:=4) aa rfl rfl rfl (by decide)) ?_;refine rQ (aC aa (fun K hk=>⟨by omega,by omega,hk⟩)) ?_;refine bS (aO aa rfl rfl rfl ⟨_,⟨_,⟨rfl,_,((d.toNat % 4:Nat):Int),hg,⟨rfl,rfl,rfl⟩,rfl⟩,rfl⟩,rfl⟩ rfl)<|aq<|zC<|ae ?_;refine rC ?_;refine rQ iD ?_;refine rC<|aq ?_
  exact aJ (i+1) [(65,some 65),(66,some 66)] hlt (by omega) (lg zi ⟨⟨rfl,rfl,_,rfl,aN.of_eq (congrArg (fun l=>Row.box 27 (.d (.vec 32 1 cX l))) hs)⟩,zR,trivial⟩)
 ·have he:i=32:=by have:=of_decide_eq_false h3; omega
  subst he
  have hE:gh ((d.toNat % 4:Nat):Int) 32 32=byI (List.replicate 32 (blkB d)):=by rw[←xS]; exact pn _ _
  rw[hE]
  refine zX<|sR<|rQ iM ?_;refine rW<|zT ?_
  exact⟨trivial,_,rfl,[],lf⟩
structure XE where
 who:UInt8
 what:UInt8
 data:UInt8
def ul (x:XE):D :=.cons (u8s x.who.toNat) (.cons (u8s x.what.toNat) (.cons (u8s x.data.toNat) .nil))
def opX (x:XE):POp :=
 if x.what.toNat % 8<3 then⟨1,((x.data.toNat/4 % 3:Nat):Int),[]⟩
 else if x.what.toNat % 8<6 then⟨2,((x.data.toNat/4 % 3:Nat):Int),List.replicate 32 (blkB x.data)⟩
 else if x.what.toNat % 8=6 then⟨3,0,[]⟩
 else qOf ⟨8,x.data,x.what⟩
theorem wL (x:XE):FnIs Try.prog 40 [.d (ul x)] [] (.d (ct (opX x))) []:=by
 have hx1:=x.what.toNat_lt
 have hx2:=x.data.toNat_lt
 have hwc:IntKind.i64.wrap ((x.data.toNat/4:Nat):Int)=((x.data.toNat/4:Nat):Int):=bh (by omega) (by omega)
 refine aH aa Try.func40 rfl rfl rfl ?_;refine sR ?_;iterate 2 refine rN ?_
 refine nR<|rC ?_;refine rQ iB ?_;refine rQ (aE (kD x.data) rfl rfl (am aj) (.inl rfl) (fun _=>rfl)) ?_;refine rN ?_;refine rW<|nS ?_;refine eu (env':=[(3,_),(2,_),(1,_)]) (h':=[(64,some _),(72,some _)]) 104 _ rfl ⟨⟨_,rfl,Frz.ptr⟩,zE,zE,trivial⟩ ⟨⟨rfl,_,rfl,.refl _⟩,⟨rfl,_,rfl,.refl _⟩,trivial⟩ ?_
 have hw8:x.what.toNat % 8<8:=Nat.mod_lt _ (by decide)
 refine qR<|rC ?_;refine rQ iB ?_;refine rQ (cm (a:=x.what.toNat) (b:=8) aa rfl rfl rfl (by decide))<|zP<|qR ?_;refine zD<|nS ?_
 by_cases w0:x.what.toNat % 8=0
 ·have e0:decide (((x.what.toNat % 8:Nat):Int)=0)=true:=dT (by omega)
  rw[show opX x=⟨1,((x.data.toNat/4 % 3:Nat):Int),[]⟩ by rw[opX,if_pos (by omega)]]
  refine wT<|kS ?_;refine wT<|sR ?_;refine rC ?_;refine rQ iB ?_;refine rQ (gr (a:=x.data.toNat) (s:=2) (m:=x.data.toNat/4) rfl rfl (by decide) rfl) ?_;refine rQ (cM (m:=((x.data.toNat/4:Nat):Int)) aa rfl rfl rfl hwc) ?_;refine rQ (cm (a:=x.data.toNat/4) (b:=3) aa rfl rfl rfl (by decide)) ?_;refine rQ iS ?_;refine rW<|zT<|zB ?_
  exact⟨trivial,_,rfl,[],lg ⟨⟨_,rfl,fU _ _⟩,rfl,trivial⟩ trivial⟩
 skip
 by_cases w1:x.what.toNat % 8=1
 ·have e0:decide (((x.what.toNat % 8:Nat):Int)=0)=false:=dF (by omega)
  have e1:decide (((x.what.toNat % 8:Nat):Int)=1)=true:=dT (by omega)
  rw[show opX x=⟨1,((x.data.toNat/4 % 3:Nat):Int),[]⟩ by rw[opX,if_pos (by omega)]]
  refine wF<|sR ?_;refine zD ?_;refine zI<|kS ?_;refine wT<|sR ?_;refine rC ?_;refine rQ iB ?_;refine rQ (gr (a:=x.data.toNat) (s:=2) (m:=x.data.toNat/4) rfl rfl (by decide) rfl) ?_;refine rQ (cM (m:=((x.data.toNat/4:Nat):Int)) aa rfl rfl rfl hwc) ?_;refine rQ (cm (a:=x.data.toNat/4) (b:=3) aa rfl rfl rfl (by decide)) ?_;refine rQ iS ?_;refine rW<|zT<|zB ?_
  exact⟨trivial,_,rfl,[],lg ⟨⟨_,rfl,fU _ _⟩,rfl,trivial⟩ trivial⟩
 skip
 by_cases w2:x.what.toNat % 8=2
 ·have e0:decide (((x.what.toNat % 8:Nat):Int)=0)=false:=dF (by omega)
  have e1:decide (((x.what.toNat % 8:Nat):Int)=1)=false:=dF (by omega)
  have e2:decide (((x.what.toNat % 8:Nat):Int)=2)=true:=dT (by omega)
  rw[show opX x=⟨1,((x.data.toNat/4 % 3:Nat):Int),[]⟩ by rw[opX,if_pos (by omega)]]
  refine wF<|sR ?_;refine zD ?_;refine zG<|ae ?_;refine zD ?_;refine zI<|sR ?_;refine rC ?_;refine rQ iB ?_;refine rQ (gr (a:=x.data.toNat) (s:=2) (m:=x.data.toNat/4) rfl rfl (by decide) rfl) ?_;refine rQ (cM (m:=((x.data.toNat/4:Nat):Int)) aa rfl rfl rfl hwc) ?_;refine rQ (cm (a:=x.data.toNat/4) (b:=3) aa rfl rfl rfl (by decide)) ?_;refine rQ iS ?_;refine rW<|zT<|zB ?_
  exact⟨trivial,_,rfl,[],lg ⟨⟨_,rfl,fU _ _⟩,rfl,trivial⟩ trivial⟩
 skip
 by_cases w3:x.what.toNat % 8=3
 ·have e0:decide (((x.what.toNat % 8:Nat):Int)=0)=false:=dF (by omega)
  have e1:decide (((x.what.toNat % 8:Nat):Int)=1)=false:=dF (by omega)
  have e2:decide (((x.what.toNat % 8:Nat):Int)=2)=false:=dF (by omega)
  have e3:decide (((x.what.toNat % 8:Nat):Int)=3)=true:=dT (by omega)
  rw[show opX x=⟨2,((x.data.toNat/4 % 3:Nat):Int),List.replicate 32 (blkB x.data)⟩ by rw[opX,if_neg (by omega),if_pos (by omega)]]
  refine wF<|sR ?_;refine zD ?_;refine zG<|ae ?_;refine zD ?_;refine zG<|qR ?_;refine zD ?_;refine zI<|kS ?_;refine wT<|aZ ?_;refine aB (by kernel_rfl) ?_;refine dC [1] [] ?_;refine dQ [24] [64] iB ?_;refine dQ [25] [] (gr (a:=x.data.toNat) (s:=2) (m:=x.data.toNat/4) rfl rfl (by decide) rfl) ?_;refine dQ [26] [] (cM (m:=((x.data.toNat/4:Nat):Int)) aa rfl rfl rfl hwc) ?_;refine dQ [27] [] (cm (a:=x.data.toNat/4) (b:=3) aa rfl rfl rfl (by decide)) ?_;refine dQ [3] [] (kJ aa rfl rfl rfl rfl rfl) ?_;refine dQ [28,29] [] iS ?_;refine bC [2,30] [72] (aO aa rfl rfl rfl ⟨_,⟨rfl,rfl,rfl⟩,rfl⟩ rfl) ?_;refine ao (by kernel_rfl)<|aK<|eY<|zB ?_
  exact⟨trivial,_,rfl,[],lf⟩
 skip
 by_cases w4:x.what.toNat % 8=4
 ·have e0:decide (((x.what.toNat % 8:Nat):Int)=0)=false:=dF (by omega)
  have e1:decide (((x.what.toNat % 8:Nat):Int)=1)=false:=dF (by omega)
  have e2:decide (((x.what.toNat % 8:Nat):Int)=2)=false:=dF (by omega)
  have e3:decide (((x.what.toNat % 8:Nat):Int)=3)=false:=dF (by omega)
  have e4:decide (((x.what.toNat % 8:Nat):Int)=4)=true:=dT (by omega)
  rw[show opX x=⟨2,((x.data.toNat/4 % 3:Nat):Int),List.replicate 32 (blkB x.data)⟩ by rw[opX,if_neg (by omega),if_pos (by omega)]]
  refine wF<|sR ?_;refine zD ?_;refine zG<|ae ?_;refine zD ?_;refine zG<|qR ?_;refine zD ?_;refine zG<|sR ?_;refine zD ?_;refine zI<|kS ?_;refine wT<|aZ ?_;refine aB (by kernel_rfl) ?_;refine dC [1] [] ?_;refine dQ [24] [64] iB ?_;refine dQ [25] [] (gr (a:=x.data.toNat) (s:=2) (m:=x.data.toNat/4) rfl rfl (by decide) rfl) ?_;refine dQ [26] [] (cM (m:=((x.data.toNat/4:Nat):Int)) aa rfl rfl rfl hwc) ?_;refine dQ [27] [] (cm (a:=x.data.toNat/4) (b:=3) aa rfl rfl rfl (by decide)) ?_;refine dQ [3] [] (kJ aa rfl rfl rfl rfl rfl) ?_;refine dQ [28,29] [] iS ?_;refine bC [2,30] [72] (aO aa rfl rfl rfl ⟨_,⟨rfl,rfl,rfl⟩,rfl⟩ rfl) ?_;refine ao (by kernel_rfl)<|aK<|eY<|zB ?_
  exact⟨trivial,_,rfl,[],lf⟩
 skip
 by_cases w5:x.what.toNat % 8=5
 ·have e0:decide (((x.what.toNat % 8:Nat):Int)=0)=false:=dF (by omega)
  have e1:decide (((x.what.toNat % 8:Nat):Int)=1)=false:=dF (by omega)
  have e2:decide (((x.what.toNat % 8:Nat):Int)=2)=false:=dF (by omega)
  have e3:decide (((x.what.toNat % 8:Nat):Int)=3)=false:=dF (by omega)
  have e4:decide (((x.what.toNat % 8:Nat):Int)=4)=false:=dF (by omega)
  have e5:decide (((x.what.toNat % 8:Nat):Int)=5)=true:=dT (by omega)
  rw[show opX x=⟨2,((x.data.toNat/4 % 3:Nat):Int),List.replicate 32 (blkB x.data)⟩ by rw[opX,if_neg (by omega),if_pos (by omega)]]
  refine wF<|sR ?_;refine zD ?_;refine zG<|ae ?_;refine zD ?_;refine zG<|qR ?_;refine zD ?_;refine zG<|sR ?_;refine zD ?_;refine zG<|ae ?_;refine zD ?_;refine zI<|aZ ?_;refine aB (by kernel_rfl) ?_;refine dC [1] [] ?_;refine dQ [24] [64] iB ?_;refine dQ [25] [] (gr (a:=x.data.toNat) (s:=2) (m:=x.data.toNat/4) rfl rfl (by decide) rfl) ?_;refine dQ [26] [] (cM (m:=((x.data.toNat/4:Nat):Int)) aa rfl rfl rfl hwc) ?_;refine dQ [27] [] (cm (a:=x.data.toNat/4) (b:=3) aa rfl rfl rfl (by decide)) ?_;refine dQ [3] [] (kJ aa rfl rfl rfl rfl rfl) ?_;refine dQ [28,29] [] iS ?_;refine bC [2,30] [72] (aO aa rfl rfl rfl ⟨_,⟨rfl,rfl,rfl⟩,rfl⟩ rfl) ?_;refine ao (by kernel_rfl)<|aK<|eY<|zB ?_
  exact⟨trivial,_,rfl,[],lf⟩
 skip
 by_cases w6:x.what.toNat % 8=6
 ·have e0:decide (((x.what.toNat % 8:Nat):Int)=0)=false:=dF (by omega)
  have e1:decide (((x.what.toNat % 8:Nat):Int)=1)=false:=dF (by omega)
  have e2:decide (((x.what.toNat % 8:Nat):Int)=2)=false:=dF (by omega)
  have e3:decide (((x.what.toNat % 8:Nat):Int)=3)=false:=dF (by omega)
  have e4:decide (((x.what.toNat % 8:Nat):Int)=4)=false:=dF (by omega)
  have e5:decide (((x.what.toNat % 8:Nat):Int)=5)=false:=dF (by omega)
  have e6:decide (((x.what.toNat % 8:Nat):Int)=6)=true:=dT (by omega)
  rw[show opX x=⟨3,0,[]⟩ by rw[opX,if_neg (by omega),if_neg (by omega),if_pos w6]]
  refine wF<|sR ?_;refine zD ?_;refine zG<|ae ?_;refine zD ?_;refine zG<|qR ?_;refine zD ?_;refine zG<|sR ?_;refine zD ?_;refine zG<|ae ?_;refine zD ?_;refine zG<|sR ?_;refine zD ?_;refine zI<|sR ?_;refine rQ iS ?_;refine rW<|zT<|zB ?_
  exact⟨trivial,_,rfl,[],lg ⟨⟨_,rfl,fU _ _⟩,rfl,trivial⟩ trivial⟩
 have w7:x.what.toNat % 8=7:=by omega
 have e0:decide (((x.what.toNat % 8:Nat):Int)=0)=false:=dF (by omega)
 have e1:decide (((x.what.toNat % 8:Nat):Int)=1)=false:=dF (by omega)
 have e2:decide (((x.what.toNat % 8:Nat):Int)=2)=false:=dF (by omega)
 have e3:decide (((x.what.toNat % 8:Nat):Int)=3)=false:=dF (by omega)
 have e4:decide (((x.what.toNat % 8:Nat):Int)=4)=false:=dF (by omega)
 have e5:decide (((x.what.toNat % 8:Nat):Int)=5)=false:=dF (by omega)
 have e6:decide (((x.what.toNat % 8:Nat):Int)=6)=false:=dF (by omega)
 rw[show opX x=qOf ⟨8,x.data,x.what⟩ by rw[opX,if_neg (by omega),if_neg (by omega),if_neg w6]]
 refine wF<|sR ?_;refine zD ?_;refine zG<|ae ?_;refine zD ?_;refine zG<|qR ?_;refine zD ?_;refine zG<|sR ?_;refine zD ?_;refine zG<|ae ?_;refine zD ?_;refine zG<|sR ?_;refine zD ?_;refine zG<|aS<|zC<|sR ?_;refine rC ?_;refine rQ iB ?_;refine rC ?_;refine rQ iB ?_;refine rQ iS ?_;refine rQ (aE (Ah ⟨8,x.data,x.what⟩) rfl rfl (am aj) (.inl rfl) (fun _=>rfl)) ?_;refine rW<|zT ?_
 exact⟨trivial,_,rfl,[],lf⟩
def lb (l:List XE):D :=.cons (.arr 3 ul l) .nil
def kZ:List Int:=[0,0,0,0,0,1,8,9]
def errX (y:HEv) (x:XE):Int:=if badO y.op 3&&decide (x.what.toNat<200) then 1 else kZ[x.what.toNat % 8]?.getD 0
def b6 (out:List HEv) (x:XE):List HEv :=
 if x.who.toNat % 4=3∧x.what.toNat≤20 then out++[⟨3,0,zOp,zBk,0⟩]
 else if pend out ((x.who.toNat % 4 % 3:Nat):Int)<0 then out++[⟨1,((x.who.toNat % 4 % 3:Nat):Int),opX x,zBk,0⟩]
 else match out[(pend out ((x.who.toNat % 4 % 3:Nat):Int)).toNat]? with
  | none=>out
  | some y=>out++[⟨2,((x.who.toNat % 4 % 3:Nat):Int),zOp,if y.op.kind=1∧errX y x=0 then List.replicate 32 (blkB x.data) else zBk,errX y x⟩]
def hOf (l:List XE):List HEv:=(l.take 24).foldl b6 []
theorem sw (k c e:Int):DLe (.cons (u8s k) (.cons (i6 c) (.cons zPOp (.cons (.vec 32 1 cX (List.replicate 32 0)) (.cons (i6 e) .nil))))) (bU ⟨k,c,zOp,zBk,e⟩):=by
 rintro w X cs ⟨c1,r1,rfl,h1,c2,r2,rfl,h2,c3,r3,rfl,h3,h4⟩
 exact⟨c1,_,rfl,h1,c2,_,rfl,h2,c3,_,rfl,z8 _ _ _ h3,h4⟩
theorem uN (out:List HEv) (x:XE):(b6 out x).length≤out.length+1:=by
 unfold b6
 split
 ·simp
 ·split
  ·simp
  ·split <;> simp
theorem jO:∀(l:List XE) (out:List HEv),(l.foldl b6 out).length≤out.length+l.length
 | [],out=>by simp
 | x::l,out=>by
  have h1:=jO l (b6 out x)
  have h2:=uN out x
  simp only[List.foldl_cons,List.length_cons]
  omega
theorem s7 {l:List XE} {i:Nat} {x:XE} (hx:l[i]?=some x):(l.take (i+1)).foldl b6 []=b6 ((l.take i).foldl b6 []) x:=by
 rw[List.take_add_one,hx,Option.toList_some,List.foldl_append]; rfl
theorem yG (l:List XE):FnIs Try.prog 17 [.d (lb l)] [] (.own 64 0 (hOf l).length 38 none) [(64,.ds 63 38 false bU (hOf l))]:=by
 refine aH aa Try.func17 rfl rfl rfl ?_;refine sR<|rN ?_;refine rC<|nR ?_;refine rC<|zW ?_;refine rC<|nS<|bQ ?_
 refine wc_inv (fun q:Nat×List HEv=>⟨[(4,.int .i64 q.1),(3,.own 65 0 q.2.length 38 none),(1,.ptr 64 [])],[(64,some (.box 38 (.d (lb l)))),(65,some (.ds 63 38 false bU q.2))],72,Try.f17.ntmps,64⟩) (fun q=>q.1≤l.length∧q.1≤24∧q.2=(l.take q.1).foldl b6 []) (fun q=>24-q.1) (0,[]) [(64,some 64),(65,none)] ⟨Nat.zero_le _,Nat.zero_le _,rfl⟩
  (lg zj ⟨zR,⟨rfl,rfl,rfl⟩,trivial⟩) ?_
 rintro⟨i,out⟩ ⟨hi,h24,hout⟩
 simp only at hi h24 hout
 have hol:out.length≤24:=by
  have:=jO (l.take i) []
  rw[←hout,List.length_take]at this
  simp at this; omega
 have hal:out.length+1≤1048576:=by omega
 have hpl:out.length≤9223372036854775807:=by omega
 refine cj<|qR ?_;refine zD ?_;refine rQ iB ?_;refine rQ iE ?_;refine zD ?_
 by_cases hlt:i<l.length
 ·have c1:decide ((i:Int)<(l.length:Int))=true:=dT (by omega)
  refine rO ?_;refine rC ?_;refine rO ?_;refine rC ?_;refine rQ iT<|nS ?_
  by_cases h24:i<24
  ·have c2:decide ((i:Int)<24)=true:=dT (by omega)
   obtain⟨x,hx⟩:∃u,l[i]?=some u:=⟨_,List.getElem?_eq_getElem hlt⟩
   have hx':l[((i:Int)).toNat]?=some x:=by rw[Int.toNat_natCast]; exact hx
   have hx1:=x.who.toNat_lt
   have hx2:=x.what.toNat_lt
   have hwc:IntKind.i64.wrap ((x.who.toNat % 4:Nat):Int)=((x.who.toNat % 4:Nat):Int):=bh (by omega) (by omega)
   have hfx:=s7 hx
   rw[←hout]at hfx
   refine wT<|zQ<|zS ?_;refine rC ?_;refine rQ iB ?_;refine rC ?_;refine rQ (aA aa rfl rfl rfl rfl rfl (by omega) hx') ?_;refine rQ iL ?_;refine rN ?_;refine rW<|nR ?_;refine rC ?_;refine rQ iB ?_;refine rQ (cm (a:=x.who.toNat) (b:=4) aa rfl rfl rfl (by decide)) ?_;refine rQ (cM (m:=((x.who.toNat % 4:Nat):Int)) aa rfl rfl rfl hwc) ?_;refine rC<|zW ?_;refine zU ?_
   by_cases w3:x.who.toNat % 4=3
   ·have d3:decide (((x.who.toNat % 4:Nat):Int)=3)=true:=dT (by omega)
    refine rO ?_;refine rC ?_;refine rO ?_;refine rQ iB ?_;refine rO ?_;refine rC ?_;refine rQ iT<|nS ?_
    by_cases w20:x.what.toNat≤20
    ·have d20:decide ((x.what.toNat:Int)≤20)=true:=dT (by omega)
     have hst:b6 out x=out++[⟨3,0,zOp,zBk,0⟩]:=by rw[b6,if_pos ⟨w3,w20⟩]
     have hl1:out.length+1=(out++[(⟨3,0,zOp,zBk,0⟩:HEv)]).length:=by simp
     refine wT<|sR ?_;refine rC ?_;refine rQ (ak.val_le (bn aa rfl rfl rfl rfl) (sw 3 0 0) rfl) ?_;refine aX (ay (s:=38) aa rfl rfl rfl rfl rfl rfl rfl rfl) rfl ?_;refine aP (aR (enc:=bU) (s:=38) (xs:=out) aa ⟨3,0,zOp,zBk,0⟩ rfl rfl rfl rfl rfl rfl rfl rfl rfl hal rfl) rfl ?_;refine rC<|nS<|ci<|dU<|dZ<|aK<|ae ?_;refine rC ?_;refine rQ iD ?_;refine rC<|aq ?_
     exact aJ (i+1,out++[⟨3,0,zOp,zBk,0⟩]) [(64,some 64),(65,some _)] ⟨hlt,h24,by rw[hfx,hst]⟩ (by show 24-(i+1)<24-i; omega) (lg ⟨zE,rfl,⟨_,rfl,AVLe.of_eq (congrArg (fun n=>AV.own _ 0 n 38 none) hl1)⟩,rfl,zE,rfl,trivial⟩ ⟨zR,zR,trivial⟩)
    ·have d20:decide ((x.what.toNat:Int)≤20)=false:=dF (by omega)
     have hns:¬(x.who.toNat % 4=3∧x.what.toNat≤20):=by omega
     refine wF<|kS<|sR ?_;refine rC ?_;refine rQ (cm (a:=x.who.toNat % 4) (b:=3) aa rfl rfl rfl (by decide)) ?_;refine rC<|nR ?_;refine zD ?_;refine rQ (aE (tQ out ((x.who.toNat % 4 % 3:Nat):Int) hpl) rfl rfl (ux rfl (am aj)) (.inr (df.sc _)) (fun _=>rfl)) ?_;refine rC<|zW ?_;refine zD<|nS ?_
     by_cases hp:pend out ((x.who.toNat % 4 % 3:Nat):Int)<0
     ·have dp:decide (pend out ((x.who.toNat % 4 % 3:Nat):Int)<0)=true:=dT hp
      have hst:b6 out x=out++[⟨1,((x.who.toNat % 4 % 3:Nat):Int),opX x,zBk,0⟩]:=by rw[b6,if_neg hns,if_pos hp]
      have hl1:out.length+1=(out++[(⟨1,((x.who.toNat % 4 % 3:Nat):Int),opX x,zBk,0⟩:HEv)]).length:=by simp
      refine wT<|sR ?_;refine zD ?_;refine rQ iM ?_;refine rQ (aE (wL x) rfl rfl (am aj) (.inl rfl) (fun _=>rfl)) ?_;refine rQ iS ?_;refine aX (ay (s:=38) aa rfl rfl rfl rfl rfl rfl rfl rfl) rfl ?_;refine aP (aR (enc:=bU) (s:=38) (xs:=out) aa ⟨1,((x.who.toNat % 4 % 3:Nat):Int),opX x,zBk,0⟩ rfl rfl rfl rfl rfl rfl rfl rfl rfl hal rfl) rfl ?_;refine rC<|nS<|ci<|dU<|dZ<|aK<|ae ?_;refine rC ?_;refine rQ iD ?_;refine rC<|aq ?_
      exact aJ (i+1,out++[⟨1,((x.who.toNat % 4 % 3:Nat):Int),opX x,zBk,0⟩]) [(64,some 64),(65,some _)] ⟨hlt,h24,by rw[hfx,hst]⟩ (by show 24-(i+1)<24-i; omega) (lg ⟨zE,rfl,⟨_,rfl,AVLe.of_eq (congrArg (fun n=>AV.own _ 0 n 38 none) hl1)⟩,rfl,zE,rfl,trivial⟩ ⟨zR,zR,trivial⟩)
     ·have dp:decide (pend out ((x.who.toNat % 4 % 3:Nat):Int)<0)=false:=dF hp
      have hpi:=pZ out ((x.who.toNat % 4 % 3:Nat):Int)
      have hge:0≤pend out ((x.who.toNat % 4 % 3:Nat):Int):=by omega
      have hlp:pend out ((x.who.toNat % 4 % 3:Nat):Int)<(out.length:Int):=hpi.2
      obtain⟨y,hy⟩:∃y,out[(pend out ((x.who.toNat % 4 % 3:Nat):Int)).toNat]?=some y:=⟨_,List.getElem?_eq_getElem (by omega)⟩
      obtain⟨e0,he0⟩:∃e0,kZ[x.what.toNat % 8]?=some e0:=⟨_,List.getElem?_eq_getElem (Nat.mod_lt _ (by decide))⟩
      have hE:kZ[(((x.what.toNat % 8:Nat):Int)).toNat]?=some e0:=by rw[Int.toNat_natCast]; exact he0
      have hs0:b6 out x=out++[⟨2,((x.who.toNat % 4 % 3:Nat):Int),zOp,if y.op.kind=1∧errX y x=0 then List.replicate 32 (blkB x.data) else zBk,errX y x⟩]:=by rw[b6,if_neg hns,if_neg hp,hy]
      have hb:=tM y.op 3
      obtain⟨bad,hbad⟩:∃b,badO y.op 3=b:=⟨_,rfl⟩
      obtain⟨lo,hlo⟩:∃b,decide (x.what.toNat<200)=b:=⟨_,rfl⟩
      have hlo':decide ((x.what.toNat:Int)<200)=lo:=by rw[←hlo]; exact decide_eq_decide.2 (by omega)
      rw[hbad]at hb
      unfold r01 at hb
      refine wF<|kS<|sR ?_;refine rC ?_;refine rQ (ak.frozen (ay (s:=1) aa rfl rfl rfl rfl rfl rfl rfl rfl) (Frz.litsN (enc:=i6) [0,0,0,0,0,1,8,9] rfl (fun _ _=>rfl))) ?_;refine rC ?_;refine rQ iB ?_;refine rQ (cm (a:=x.what.toNat) (b:=8) aa rfl rfl rfl (by decide)) ?_;refine rQ (aA (xs:=kZ) aa rfl rfl rfl rfl rfl (by omega) hE) ?_;refine rQ iL ?_;refine rQ (ak.val_le (bn aa rfl rfl rfl rfl) (sw 2 ((x.who.toNat % 4 % 3:Nat):Int) e0) rfl) ?_;refine rN ?_;refine rW<|zW ?_;refine zD ?_;refine rQ (aL aa rfl rfl rfl rfl rfl hge hlp) ?_;refine rC ?_;refine rQ (a9 aa rfl rfl ⟨rfl,y,hy,_,rfl,rfl⟩ rfl) ?_;refine rQ (aE hb rfl rfl (am (am aj)) (.inl rfl) (fun _=>rfl)) ?_;refine zD ?_
      cases bad with
      | true =>
       rw[if_pos rfl]at hb
       refine rP ?_;refine rC ?_;refine rP ?_;refine rQ iB ?_;refine rP ?_;refine rC ?_;refine rQ iU<|nS ?_
       cases lo with
       | true =>
        have heX:errX y x=1:=by rw[errX,hbad,hlo]; rfl
        rw[heX]at hs0
        refine wT<|ae ?_;refine rC ?_;refine rX<|zW ?_;refine zD ?_;refine rQ (aL aa rfl rfl rfl rfl rfl hge hlp) ?_;refine zD ?_;refine rQ (a9 aa rfl rfl ⟨rfl,y,hy,_,rfl,rfl⟩ rfl) ?_;refine zD ?_
        by_cases hk:y.op.kind=1
        ·have dk:decide (y.op.kind=1)=true:=dT hk
         have hst:b6 out x=out++[⟨2,((x.who.toNat % 4 % 3:Nat):Int),zOp,zBk,1⟩]:=by rw[hs0,if_neg (by omega)]
         have hl1:out.length+1=(out++[(⟨2,((x.who.toNat % 4 % 3:Nat):Int),zOp,zBk,1⟩:HEv)]).length:=by simp
         refine rO ?_;refine rC ?_;refine rO ?_;refine rQ iB ?_;refine rO ?_;refine rC ?_;refine rQ iT ?_;refine zJ<|kS<|ae ?_;refine rC ?_;refine rQ iM ?_;refine aX (ay (s:=38) aa rfl rfl rfl rfl rfl rfl rfl rfl) rfl ?_;refine aP (aR (enc:=bU) (s:=38) (xs:=out) aa ⟨2,((x.who.toNat % 4 % 3:Nat):Int),zOp,zBk,1⟩ rfl rfl rfl rfl rfl rfl rfl rfl rfl hal rfl) rfl ?_;refine rC<|aq<|zC<|ae ?_;refine rC ?_;refine rQ iD ?_;refine rC<|aq ?_
         exact aJ (i+1,out++[⟨2,((x.who.toNat % 4 % 3:Nat):Int),zOp,zBk,1⟩]) [(64,some 64),(65,some _)] ⟨hlt,h24,by rw[hfx,hst]⟩ (by show 24-(i+1)<24-i; omega) (lg ⟨zE,rfl,⟨_,rfl,AVLe.of_eq (congrArg (fun n=>AV.own _ 0 n 38 none) hl1)⟩,rfl,zE,rfl,trivial⟩ ⟨zR,zR,trivial⟩)
        ·have dk:decide (y.op.kind=1)=false:=dF hk
         have hst:b6 out x=out++[⟨2,((x.who.toNat % 4 % 3:Nat):Int),zOp,zBk,1⟩]:=by rw[hs0,if_neg (fun h=>hk h.1)]
         have hl1:out.length+1=(out++[(⟨2,((x.who.toNat % 4 % 3:Nat):Int),zOp,zBk,1⟩:HEv)]).length:=by simp
         iterate 3 refine rS ?_
         refine rQ iF ?_;refine zJ<|kS<|ae ?_;refine rC ?_;refine rQ iM ?_;refine aX (ay (s:=38) aa rfl rfl rfl rfl rfl rfl rfl rfl) rfl ?_;refine aP (aR (enc:=bU) (s:=38) (xs:=out) aa ⟨2,((x.who.toNat % 4 % 3:Nat):Int),zOp,zBk,1⟩ rfl rfl rfl rfl rfl rfl rfl rfl rfl hal rfl) rfl ?_;refine rC<|aq<|zC<|ae ?_;refine rC ?_;refine rQ iD ?_;refine rC<|aq ?_
         exact aJ (i+1,out++[⟨2,((x.who.toNat % 4 % 3:Nat):Int),zOp,zBk,1⟩]) [(64,some 64),(65,some _)] ⟨hlt,h24,by rw[hfx,hst]⟩ (by show 24-(i+1)<24-i; omega) (lg ⟨zE,rfl,⟨_,rfl,AVLe.of_eq (congrArg (fun n=>AV.own _ 0 n 38 none) hl1)⟩,rfl,zE,rfl,trivial⟩ ⟨zR,zR,trivial⟩)
       | false =>
        have heX:errX y x=e0:=by rw[errX,hbad,hlo,he0]; rfl
        rw[heX]at hs0
        refine wF<|kS<|qR ?_;refine zD ?_;refine rQ (aL aa rfl rfl rfl rfl rfl hge hlp) ?_;refine zD ?_;refine rQ (a9 aa rfl rfl ⟨rfl,y,hy,_,rfl,rfl⟩ rfl) ?_;refine zD ?_
        by_cases hk:y.op.kind=1
        ·have dk:decide (y.op.kind=1)=true:=dT hk
         refine rO ?_;refine rC ?_;refine rO ?_;refine rQ iB ?_;refine rO ?_;refine rC ?_;refine rQ iT<|nS ?_
         by_cases hz:e0=0
         ·have dz:decide (e0=0)=true:=dT hz
          have hst:b6 out x=out++[⟨2,((x.who.toNat % 4 % 3:Nat):Int),zOp,List.replicate 32 (blkB x.data),e0⟩]:=by rw[hs0,if_pos ⟨hk,hz⟩]
          have hl1:out.length+1=(out++[(⟨2,((x.who.toNat % 4 % 3:Nat):Int),zOp,List.replicate 32 (blkB x.data),e0⟩:HEv)]).length:=by simp
          refine wT<|ae ?_;refine rC ?_;refine rQ iB ?_;refine rQ (aE (kD x.data) rfl rfl (am aj) (.inl rfl) (fun _=>rfl)) ?_;refine rC ?_;refine rX<|nS<|ae ?_;refine rC ?_;refine rQ iM ?_;refine aX (ay (s:=38) aa rfl rfl rfl rfl rfl rfl rfl rfl) rfl ?_;refine aP (aR (enc:=bU) (s:=38) (xs:=out) aa ⟨2,((x.who.toNat % 4 % 3:Nat):Int),zOp,List.replicate 32 (blkB x.data),e0⟩ rfl rfl rfl rfl rfl rfl rfl rfl rfl hal rfl) rfl ?_;refine rC<|aq<|zC<|ae ?_;refine rC ?_;refine rQ iD ?_;refine rC<|aq ?_
          exact aJ (i+1,out++[⟨2,((x.who.toNat % 4 % 3:Nat):Int),zOp,List.replicate 32 (blkB x.data),e0⟩]) [(64,some 64),(65,some _)] ⟨hlt,h24,by rw[hfx,hst]⟩ (by show 24-(i+1)<24-i; omega) (lg ⟨zE,rfl,⟨_,rfl,AVLe.of_eq (congrArg (fun n=>AV.own _ 0 n 38 none) hl1)⟩,rfl,zE,rfl,trivial⟩ ⟨zR,zR,trivial⟩)
         ·have dz:decide (e0=0)=false:=dF hz
          have hst:b6 out x=out++[⟨2,((x.who.toNat % 4 % 3:Nat):Int),zOp,zBk,e0⟩]:=by rw[hs0,if_neg (fun h=>hz h.2)]
          have hl1:out.length+1=(out++[(⟨2,((x.who.toNat % 4 % 3:Nat):Int),zOp,zBk,e0⟩:HEv)]).length:=by simp
          refine wF<|kS<|ae ?_;refine rC ?_;refine rQ iM ?_;refine aX (ay (s:=38) aa rfl rfl rfl rfl rfl rfl rfl rfl) rfl ?_;refine aP (aR (enc:=bU) (s:=38) (xs:=out) aa ⟨2,((x.who.toNat % 4 % 3:Nat):Int),zOp,zBk,e0⟩ rfl rfl rfl rfl rfl rfl rfl rfl rfl hal rfl) rfl ?_;refine rC<|aq<|zC<|ae ?_;refine rC ?_;refine rQ iD ?_;refine rC<|aq ?_
          exact aJ (i+1,out++[⟨2,((x.who.toNat % 4 % 3:Nat):Int),zOp,zBk,e0⟩]) [(64,some 64),(65,some _)] ⟨hlt,h24,by rw[hfx,hst]⟩ (by show 24-(i+1)<24-i; omega) (lg ⟨zE,rfl,⟨_,rfl,AVLe.of_eq (congrArg (fun n=>AV.own _ 0 n 38 none) hl1)⟩,rfl,zE,rfl,trivial⟩ ⟨zR,zR,trivial⟩)
        ·have dk:decide (y.op.kind=1)=false:=dF hk
         have hst:b6 out x=out++[⟨2,((x.who.toNat % 4 % 3:Nat):Int),zOp,zBk,e0⟩]:=by rw[hs0,if_neg (fun h=>hk h.1)]
         have hl1:out.length+1=(out++[(⟨2,((x.who.toNat % 4 % 3:Nat):Int),zOp,zBk,e0⟩:HEv)]).length:=by simp
         iterate 3 refine rS ?_
         refine rQ iF ?_;refine zJ<|kS<|ae ?_;refine rC ?_;refine rQ iM ?_;refine aX (ay (s:=38) aa rfl rfl rfl rfl rfl rfl rfl rfl) rfl ?_;refine aP (aR (enc:=bU) (s:=38) (xs:=out) aa ⟨2,((x.who.toNat % 4 % 3:Nat):Int),zOp,zBk,e0⟩ rfl rfl rfl rfl rfl rfl rfl rfl rfl hal rfl) rfl ?_;refine rC<|aq<|zC<|ae ?_;refine rC ?_;refine rQ iD ?_;refine rC<|aq ?_
         exact aJ (i+1,out++[⟨2,((x.who.toNat % 4 % 3:Nat):Int),zOp,zBk,e0⟩]) [(64,some 64),(65,some _)] ⟨hlt,h24,by rw[hfx,hst]⟩ (by show 24-(i+1)<24-i; omega) (lg ⟨zE,rfl,⟨_,rfl,AVLe.of_eq (congrArg (fun n=>AV.own _ 0 n 38 none) hl1)⟩,rfl,zE,rfl,trivial⟩ ⟨zR,zR,trivial⟩)
      | false =>
       rw[if_neg (by decide)]at hb
       have heX:errX y x=e0:=by rw[errX,hbad,he0]; rfl
       rw[heX]at hs0
       iterate 3 refine rT ?_
       refine rQ iG ?_;refine zJ<|kS<|qR ?_;refine zD ?_;refine rQ (aL aa rfl rfl rfl rfl rfl hge hlp) ?_;refine zD ?_;refine rQ (a9 aa rfl rfl ⟨rfl,y,hy,_,rfl,rfl⟩ rfl) ?_;refine zD ?_
       by_cases hk:y.op.kind=1
       ·have dk:decide (y.op.kind=1)=true:=dT hk
        refine rO ?_;refine rC ?_;refine rO ?_;refine rQ iB ?_;refine rO ?_;refine rC ?_;refine rQ iT<|nS ?_
        by_cases hz:e0=0
        ·have dz:decide (e0=0)=true:=dT hz
         have hst:b6 out x=out++[⟨2,((x.who.toNat % 4 % 3:Nat):Int),zOp,List.replicate 32 (blkB x.data),e0⟩]:=by rw[hs0,if_pos ⟨hk,hz⟩]
         have hl1:out.length+1=(out++[(⟨2,((x.who.toNat % 4 % 3:Nat):Int),zOp,List.replicate 32 (blkB x.data),e0⟩:HEv)]).length:=by simp
         refine wT<|ae ?_;refine rC ?_;refine rQ iB ?_;refine rQ (aE (kD x.data) rfl rfl (am aj) (.inl rfl) (fun _=>rfl)) ?_;refine rC ?_;refine rX<|nS<|ae ?_;refine rC ?_;refine rQ iM ?_;refine aX (ay (s:=38) aa rfl rfl rfl rfl rfl rfl rfl rfl) rfl ?_;refine aP (aR (enc:=bU) (s:=38) (xs:=out) aa ⟨2,((x.who.toNat % 4 % 3:Nat):Int),zOp,List.replicate 32 (blkB x.data),e0⟩ rfl rfl rfl rfl rfl rfl rfl rfl rfl hal rfl) rfl ?_;refine rC<|aq<|zC<|ae ?_;refine rC ?_;refine rQ iD ?_;refine rC<|aq ?_
         exact aJ (i+1,out++[⟨2,((x.who.toNat % 4 % 3:Nat):Int),zOp,List.replicate 32 (blkB x.data),e0⟩]) [(64,some 64),(65,some _)] ⟨hlt,h24,by rw[hfx,hst]⟩ (by show 24-(i+1)<24-i; omega) (lg ⟨zE,rfl,⟨_,rfl,AVLe.of_eq (congrArg (fun n=>AV.own _ 0 n 38 none) hl1)⟩,rfl,zE,rfl,trivial⟩ ⟨zR,zR,trivial⟩)
        ·have dz:decide (e0=0)=false:=dF hz
         have hst:b6 out x=out++[⟨2,((x.who.toNat % 4 % 3:Nat):Int),zOp,zBk,e0⟩]:=by rw[hs0,if_neg (fun h=>hz h.2)]
         have hl1:out.length+1=(out++[(⟨2,((x.who.toNat % 4 % 3:Nat):Int),zOp,zBk,e0⟩:HEv)]).length:=by simp
         refine wF<|kS<|ae ?_;refine rC ?_;refine rQ iM ?_;refine aX (ay (s:=38) aa rfl rfl rfl rfl rfl rfl rfl rfl) rfl ?_;refine aP (aR (enc:=bU) (s:=38) (xs:=out) aa ⟨2,((x.who.toNat % 4 % 3:Nat):Int),zOp,zBk,e0⟩ rfl rfl rfl rfl rfl rfl rfl rfl rfl hal rfl) rfl ?_;refine rC<|aq<|zC<|ae ?_;refine rC ?_;refine rQ iD ?_;refine rC<|aq ?_
         exact aJ (i+1,out++[⟨2,((x.who.toNat % 4 % 3:Nat):Int),zOp,zBk,e0⟩]) [(64,some 64),(65,some _)] ⟨hlt,h24,by rw[hfx,hst]⟩ (by show 24-(i+1)<24-i; omega) (lg ⟨zE,rfl,⟨_,rfl,AVLe.of_eq (congrArg (fun n=>AV.own _ 0 n 38 none) hl1)⟩,rfl,zE,rfl,trivial⟩ ⟨zR,zR,trivial⟩)
       ·have dk:decide (y.op.kind=1)=false:=dF hk
        have hst:b6 out x=out++[⟨2,((x.who.toNat % 4 % 3:Nat):Int),zOp,zBk,e0⟩]:=by rw[hs0,if_neg (fun h=>hk h.1)]
        have hl1:out.length+1=(out++[(⟨2,((x.who.toNat % 4 % 3:Nat):Int),zOp,zBk,e0⟩:HEv)]).length:=by simp
        iterate 3 refine rS ?_
        refine rQ iF ?_;refine zJ<|kS<|ae ?_;refine rC ?_;refine rQ iM ?_;refine aX (ay (s:=38) aa rfl rfl rfl rfl rfl rfl rfl rfl) rfl ?_;refine aP (aR (enc:=bU) (s:=38) (xs:=out) aa ⟨2,((x.who.toNat % 4 % 3:Nat):Int),zOp,zBk,e0⟩ rfl rfl rfl rfl rfl rfl rfl rfl rfl hal rfl) rfl ?_;refine rC<|aq<|zC<|ae ?_;refine rC ?_;refine rQ iD ?_;refine rC<|aq ?_
        exact aJ (i+1,out++[⟨2,((x.who.toNat % 4 % 3:Nat):Int),zOp,zBk,e0⟩]) [(64,some 64),(65,some _)] ⟨hlt,h24,by rw[hfx,hst]⟩ (by show 24-(i+1)<24-i; omega) (lg ⟨zE,rfl,⟨_,rfl,AVLe.of_eq (congrArg (fun n=>AV.own _ 0 n 38 none) hl1)⟩,rfl,zE,rfl,trivial⟩ ⟨zR,zR,trivial⟩)
   ·have d3:decide (((x.who.toNat % 4:Nat):Int)=3)=false:=dF (by omega)
    have hns:¬(x.who.toNat % 4=3∧x.what.toNat≤20):=by omega
    iterate 3 refine rS ?_
    refine rQ iF ?_;refine zJ<|kS<|sR ?_;refine rC ?_;refine rQ (cm (a:=x.who.toNat % 4) (b:=3) aa rfl rfl rfl (by decide)) ?_;refine rC<|nR ?_;refine zD ?_;refine rQ (aE (tQ out ((x.who.toNat % 4 % 3:Nat):Int) hpl) rfl rfl (ux rfl (am aj)) (.inr (df.sc _)) (fun _=>rfl)) ?_;refine rC<|zW ?_;refine zD<|nS ?_
    by_cases hp:pend out ((x.who.toNat % 4 % 3:Nat):Int)<0
    ·have dp:decide (pend out ((x.who.toNat % 4 % 3:Nat):Int)<0)=true:=dT hp
     have hst:b6 out x=out++[⟨1,((x.who.toNat % 4 % 3:Nat):Int),opX x,zBk,0⟩]:=by rw[b6,if_neg hns,if_pos hp]
     have hl1:out.length+1=(out++[(⟨1,((x.who.toNat % 4 % 3:Nat):Int),opX x,zBk,0⟩:HEv)]).length:=by simp
     refine wT<|sR ?_;refine zD ?_;refine rQ iM ?_;refine rQ (aE (wL x) rfl rfl (am aj) (.inl rfl) (fun _=>rfl)) ?_;refine rQ iS ?_;refine aX (ay (s:=38) aa rfl rfl rfl rfl rfl rfl rfl rfl) rfl ?_;refine aP (aR (enc:=bU) (s:=38) (xs:=out) aa ⟨1,((x.who.toNat % 4 % 3:Nat):Int),opX x,zBk,0⟩ rfl rfl rfl rfl rfl rfl rfl rfl rfl hal rfl) rfl ?_;refine rC<|nS<|ci<|dU<|dZ<|aK<|ae ?_;refine rC ?_;refine rQ iD ?_;refine rC<|aq ?_
     exact aJ (i+1,out++[⟨1,((x.who.toNat % 4 % 3:Nat):Int),opX x,zBk,0⟩]) [(64,some 64),(65,some _)] ⟨hlt,h24,by rw[hfx,hst]⟩ (by show 24-(i+1)<24-i; omega) (lg ⟨zE,rfl,⟨_,rfl,AVLe.of_eq (congrArg (fun n=>AV.own _ 0 n 38 none) hl1)⟩,rfl,zE,rfl,trivial⟩ ⟨zR,zR,trivial⟩)
    ·have dp:decide (pend out ((x.who.toNat % 4 % 3:Nat):Int)<0)=false:=dF hp
     have hpi:=pZ out ((x.who.toNat % 4 % 3:Nat):Int)
     have hge:0≤pend out ((x.who.toNat % 4 % 3:Nat):Int):=by omega
     have hlp:pend out ((x.who.toNat % 4 % 3:Nat):Int)<(out.length:Int):=hpi.2
     obtain⟨y,hy⟩:∃y,out[(pend out ((x.who.toNat % 4 % 3:Nat):Int)).toNat]?=some y:=⟨_,List.getElem?_eq_getElem (by omega)⟩
     obtain⟨e0,he0⟩:∃e0,kZ[x.what.toNat % 8]?=some e0:=⟨_,List.getElem?_eq_getElem (Nat.mod_lt _ (by decide))⟩
     have hE:kZ[(((x.what.toNat % 8:Nat):Int)).toNat]?=some e0:=by rw[Int.toNat_natCast]; exact he0
     have hs0:b6 out x=out++[⟨2,((x.who.toNat % 4 % 3:Nat):Int),zOp,if y.op.kind=1∧errX y x=0 then List.replicate 32 (blkB x.data) else zBk,errX y x⟩]:=by rw[b6,if_neg hns,if_neg hp,hy]
     have hb:=tM y.op 3
     obtain⟨bad,hbad⟩:∃b,badO y.op 3=b:=⟨_,rfl⟩
     obtain⟨lo,hlo⟩:∃b,decide (x.what.toNat<200)=b:=⟨_,rfl⟩
     have hlo':decide ((x.what.toNat:Int)<200)=lo:=by rw[←hlo]; exact decide_eq_decide.2 (by omega)
     rw[hbad]at hb
     unfold r01 at hb
     refine wF<|kS<|sR ?_;refine rC ?_;refine rQ (ak.frozen (ay (s:=1) aa rfl rfl rfl rfl rfl rfl rfl rfl) (Frz.litsN (enc:=i6) [0,0,0,0,0,1,8,9] rfl (fun _ _=>rfl))) ?_;refine rC ?_;refine rQ iB ?_;refine rQ (cm (a:=x.what.toNat) (b:=8) aa rfl rfl rfl (by decide)) ?_;refine rQ (aA (xs:=kZ) aa rfl rfl rfl rfl rfl (by omega) hE) ?_;refine rQ iL ?_;refine rQ (ak.val_le (bn aa rfl rfl rfl rfl) (sw 2 ((x.who.toNat % 4 % 3:Nat):Int) e0) rfl) ?_;refine rN ?_;refine rW<|zW ?_;refine zD ?_;refine rQ (aL aa rfl rfl rfl rfl rfl hge hlp) ?_;refine rC ?_;refine rQ (a9 aa rfl rfl ⟨rfl,y,hy,_,rfl,rfl⟩ rfl) ?_;refine rQ (aE hb rfl rfl (am (am aj)) (.inl rfl) (fun _=>rfl)) ?_;refine zD ?_
     cases bad with
     | true =>
      rw[if_pos rfl]at hb
      refine rP ?_;refine rC ?_;refine rP ?_;refine rQ iB ?_;refine rP ?_;refine rC ?_;refine rQ iU<|nS ?_
      cases lo with
      | true =>
       have heX:errX y x=1:=by rw[errX,hbad,hlo]; rfl
       rw[heX]at hs0
       refine wT<|ae ?_;refine rC ?_;refine rX<|zW ?_;refine zD ?_;refine rQ (aL aa rfl rfl rfl rfl rfl hge hlp) ?_;refine zD ?_;refine rQ (a9 aa rfl rfl ⟨rfl,y,hy,_,rfl,rfl⟩ rfl) ?_;refine zD ?_
       by_cases hk:y.op.kind=1
       ·have dk:decide (y.op.kind=1)=true:=dT hk
        have hst:b6 out x=out++[⟨2,((x.who.toNat % 4 % 3:Nat):Int),zOp,zBk,1⟩]:=by rw[hs0,if_neg (by omega)]
        have hl1:out.length+1=(out++[(⟨2,((x.who.toNat % 4 % 3:Nat):Int),zOp,zBk,1⟩:HEv)]).length:=by simp
        refine rO ?_;refine rC ?_;refine rO ?_;refine rQ iB ?_;refine rO ?_;refine rC ?_;refine rQ iT ?_;refine zJ<|kS<|ae ?_;refine rC ?_;refine rQ iM ?_;refine aX (ay (s:=38) aa rfl rfl rfl rfl rfl rfl rfl rfl) rfl ?_;refine aP (aR (enc:=bU) (s:=38) (xs:=out) aa ⟨2,((x.who.toNat % 4 % 3:Nat):Int),zOp,zBk,1⟩ rfl rfl rfl rfl rfl rfl rfl rfl rfl hal rfl) rfl ?_;refine rC<|aq<|zC<|ae ?_;refine rC ?_;refine rQ iD ?_;refine rC<|aq ?_
        exact aJ (i+1,out++[⟨2,((x.who.toNat % 4 % 3:Nat):Int),zOp,zBk,1⟩]) [(64,some 64),(65,some _)] ⟨hlt,h24,by rw[hfx,hst]⟩ (by show 24-(i+1)<24-i; omega) (lg ⟨zE,rfl,⟨_,rfl,AVLe.of_eq (congrArg (fun n=>AV.own _ 0 n 38 none) hl1)⟩,rfl,zE,rfl,trivial⟩ ⟨zR,zR,trivial⟩)
       ·have dk:decide (y.op.kind=1)=false:=dF hk
        have hst:b6 out x=out++[⟨2,((x.who.toNat % 4 % 3:Nat):Int),zOp,zBk,1⟩]:=by rw[hs0,if_neg (fun h=>hk h.1)]
        have hl1:out.length+1=(out++[(⟨2,((x.who.toNat % 4 % 3:Nat):Int),zOp,zBk,1⟩:HEv)]).length:=by simp
        iterate 3 refine rS ?_
        refine rQ iF ?_;refine zJ<|kS<|ae ?_;refine rC ?_;refine rQ iM ?_;refine aX (ay (s:=38) aa rfl rfl rfl rfl rfl rfl rfl rfl) rfl ?_;refine aP (aR (enc:=bU) (s:=38) (xs:=out) aa ⟨2,((x.who.toNat % 4 % 3:Nat):Int),zOp,zBk,1⟩ rfl rfl rfl rfl rfl rfl rfl rfl rfl hal rfl) rfl ?_;refine rC<|aq<|zC<|ae ?_;refine rC ?_;refine rQ iD ?_;refine rC<|aq ?_
        exact aJ (i+1,out++[⟨2,((x.who.toNat % 4 % 3:Nat):Int),zOp,zBk,1⟩]) [(64,some 64),(65,some _)] ⟨hlt,h24,by rw[hfx,hst]⟩ (by show 24-(i+1)<24-i; omega) (lg ⟨zE,rfl,⟨_,rfl,AVLe.of_eq (congrArg (fun n=>AV.own _ 0 n 38 none) hl1)⟩,rfl,zE,rfl,trivial⟩ ⟨zR,zR,trivial⟩)
      | false =>
       have heX:errX y x=e0:=by rw[errX,hbad,hlo,he0]; rfl
       rw[heX]at hs0
       refine wF<|kS<|qR ?_;refine zD ?_;refine rQ (aL aa rfl rfl rfl rfl rfl hge hlp) ?_;refine zD ?_;refine rQ (a9 aa rfl rfl ⟨rfl,y,hy,_,rfl,rfl⟩ rfl) ?_;refine zD ?_
       by_cases hk:y.op.kind=1
       ·have dk:decide (y.op.kind=1)=true:=dT hk
        refine rO ?_;refine rC ?_;refine rO ?_;refine rQ iB ?_;refine rO ?_;refine rC ?_;refine rQ iT<|nS ?_
        by_cases hz:e0=0
        ·have dz:decide (e0=0)=true:=dT hz
         have hst:b6 out x=out++[⟨2,((x.who.toNat % 4 % 3:Nat):Int),zOp,List.replicate 32 (blkB x.data),e0⟩]:=by rw[hs0,if_pos ⟨hk,hz⟩]
         have hl1:out.length+1=(out++[(⟨2,((x.who.toNat % 4 % 3:Nat):Int),zOp,List.replicate 32 (blkB x.data),e0⟩:HEv)]).length:=by simp
         refine wT<|ae ?_;refine rC ?_;refine rQ iB ?_;refine rQ (aE (kD x.data) rfl rfl (am aj) (.inl rfl) (fun _=>rfl)) ?_;refine rC ?_;refine rX<|nS<|ae ?_;refine rC ?_;refine rQ iM ?_;refine aX (ay (s:=38) aa rfl rfl rfl rfl rfl rfl rfl rfl) rfl ?_;refine aP (aR (enc:=bU) (s:=38) (xs:=out) aa ⟨2,((x.who.toNat % 4 % 3:Nat):Int),zOp,List.replicate 32 (blkB x.data),e0⟩ rfl rfl rfl rfl rfl rfl rfl rfl rfl hal rfl) rfl ?_;refine rC<|aq<|zC<|ae ?_;refine rC ?_;refine rQ iD ?_;refine rC<|aq ?_
         exact aJ (i+1,out++[⟨2,((x.who.toNat % 4 % 3:Nat):Int),zOp,List.replicate 32 (blkB x.data),e0⟩]) [(64,some 64),(65,some _)] ⟨hlt,h24,by rw[hfx,hst]⟩ (by show 24-(i+1)<24-i; omega) (lg ⟨zE,rfl,⟨_,rfl,AVLe.of_eq (congrArg (fun n=>AV.own _ 0 n 38 none) hl1)⟩,rfl,zE,rfl,trivial⟩ ⟨zR,zR,trivial⟩)
        ·have dz:decide (e0=0)=false:=dF hz
         have hst:b6 out x=out++[⟨2,((x.who.toNat % 4 % 3:Nat):Int),zOp,zBk,e0⟩]:=by rw[hs0,if_neg (fun h=>hz h.2)]
         have hl1:out.length+1=(out++[(⟨2,((x.who.toNat % 4 % 3:Nat):Int),zOp,zBk,e0⟩:HEv)]).length:=by simp
         refine wF<|kS<|ae ?_;refine rC ?_;refine rQ iM ?_;refine aX (ay (s:=38) aa rfl rfl rfl rfl rfl rfl rfl rfl) rfl ?_;refine aP (aR (enc:=bU) (s:=38) (xs:=out) aa ⟨2,((x.who.toNat % 4 % 3:Nat):Int),zOp,zBk,e0⟩ rfl rfl rfl rfl rfl rfl rfl rfl rfl hal rfl) rfl ?_;refine rC<|aq<|zC<|ae ?_;refine rC ?_;refine rQ iD ?_;refine rC<|aq ?_
         exact aJ (i+1,out++[⟨2,((x.who.toNat % 4 % 3:Nat):Int),zOp,zBk,e0⟩]) [(64,some 64),(65,some _)] ⟨hlt,h24,by rw[hfx,hst]⟩ (by show 24-(i+1)<24-i; omega) (lg ⟨zE,rfl,⟨_,rfl,AVLe.of_eq (congrArg (fun n=>AV.own _ 0 n 38 none) hl1)⟩,rfl,zE,rfl,trivial⟩ ⟨zR,zR,trivial⟩)
       ·have dk:decide (y.op.kind=1)=false:=dF hk
        have hst:b6 out x=out++[⟨2,((x.who.toNat % 4 % 3:Nat):Int),zOp,zBk,e0⟩]:=by rw[hs0,if_neg (fun h=>hk h.1)]
        have hl1:out.length+1=(out++[(⟨2,((x.who.toNat % 4 % 3:Nat):Int),zOp,zBk,e0⟩:HEv)]).length:=by simp
        iterate 3 refine rS ?_
        refine rQ iF ?_;refine zJ<|kS<|ae ?_;refine rC ?_;refine rQ iM ?_;refine aX (ay (s:=38) aa rfl rfl rfl rfl rfl rfl rfl rfl) rfl ?_;refine aP (aR (enc:=bU) (s:=38) (xs:=out) aa ⟨2,((x.who.toNat % 4 % 3:Nat):Int),zOp,zBk,e0⟩ rfl rfl rfl rfl rfl rfl rfl rfl rfl hal rfl) rfl ?_;refine rC<|aq<|zC<|ae ?_;refine rC ?_;refine rQ iD ?_;refine rC<|aq ?_
        exact aJ (i+1,out++[⟨2,((x.who.toNat % 4 % 3:Nat):Int),zOp,zBk,e0⟩]) [(64,some 64),(65,some _)] ⟨hlt,h24,by rw[hfx,hst]⟩ (by show 24-(i+1)<24-i; omega) (lg ⟨zE,rfl,⟨_,rfl,AVLe.of_eq (congrArg (fun n=>AV.own _ 0 n 38 none) hl1)⟩,rfl,zE,rfl,trivial⟩ ⟨zR,zR,trivial⟩)
     | false =>
      rw[if_neg (by decide)]at hb
      have heX:errX y x=e0:=by rw[errX,hbad,he0]; rfl
      rw[heX]at hs0
      iterate 3 refine rT ?_
      refine rQ iG ?_;refine zJ<|kS<|qR ?_;refine zD ?_;refine rQ (aL aa rfl rfl rfl rfl rfl hge hlp) ?_;refine zD ?_;refine rQ (a9 aa rfl rfl ⟨rfl,y,hy,_,rfl,rfl⟩ rfl) ?_;refine zD ?_
      by_cases hk:y.op.kind=1
      ·have dk:decide (y.op.kind=1)=true:=dT hk
       refine rO ?_;refine rC ?_;refine rO ?_;refine rQ iB ?_;refine rO ?_;refine rC ?_;refine rQ iT<|nS ?_
       by_cases hz:e0=0
       ·have dz:decide (e0=0)=true:=dT hz
        have hst:b6 out x=out++[⟨2,((x.who.toNat % 4 % 3:Nat):Int),zOp,List.replicate 32 (blkB x.data),e0⟩]:=by rw[hs0,if_pos ⟨hk,hz⟩]
        have hl1:out.length+1=(out++[(⟨2,((x.who.toNat % 4 % 3:Nat):Int),zOp,List.replicate 32 (blkB x.data),e0⟩:HEv)]).length:=by simp
        refine wT<|ae ?_;refine rC ?_;refine rQ iB ?_;refine rQ (aE (kD x.data) rfl rfl (am aj) (.inl rfl) (fun _=>rfl)) ?_;refine rC ?_;refine rX<|nS<|ae ?_;refine rC ?_;refine rQ iM ?_;refine aX (ay (s:=38) aa rfl rfl rfl rfl rfl rfl rfl rfl) rfl ?_;refine aP (aR (enc:=bU) (s:=38) (xs:=out) aa ⟨2,((x.who.toNat % 4 % 3:Nat):Int),zOp,List.replicate 32 (blkB x.data),e0⟩ rfl rfl rfl rfl rfl rfl rfl rfl rfl hal rfl) rfl ?_;refine rC<|aq<|zC<|ae ?_;refine rC ?_;refine rQ iD ?_;refine rC<|aq ?_
        exact aJ (i+1,out++[⟨2,((x.who.toNat % 4 % 3:Nat):Int),zOp,List.replicate 32 (blkB x.data),e0⟩]) [(64,some 64),(65,some _)] ⟨hlt,h24,by rw[hfx,hst]⟩ (by show 24-(i+1)<24-i; omega) (lg ⟨zE,rfl,⟨_,rfl,AVLe.of_eq (congrArg (fun n=>AV.own _ 0 n 38 none) hl1)⟩,rfl,zE,rfl,trivial⟩ ⟨zR,zR,trivial⟩)
       ·have dz:decide (e0=0)=false:=dF hz
        have hst:b6 out x=out++[⟨2,((x.who.toNat % 4 % 3:Nat):Int),zOp,zBk,e0⟩]:=by rw[hs0,if_neg (fun h=>hz h.2)]
        have hl1:out.length+1=(out++[(⟨2,((x.who.toNat % 4 % 3:Nat):Int),zOp,zBk,e0⟩:HEv)]).length:=by simp
        refine wF<|kS<|ae ?_;refine rC ?_;refine rQ iM ?_;refine aX (ay (s:=38) aa rfl rfl rfl rfl rfl rfl rfl rfl) rfl ?_;refine aP (aR (enc:=bU) (s:=38) (xs:=out) aa ⟨2,((x.who.toNat % 4 % 3:Nat):Int),zOp,zBk,e0⟩ rfl rfl rfl rfl rfl rfl rfl rfl rfl hal rfl) rfl ?_;refine rC<|aq<|zC<|ae ?_;refine rC ?_;refine rQ iD ?_;refine rC<|aq ?_
        exact aJ (i+1,out++[⟨2,((x.who.toNat % 4 % 3:Nat):Int),zOp,zBk,e0⟩]) [(64,some 64),(65,some _)] ⟨hlt,h24,by rw[hfx,hst]⟩ (by show 24-(i+1)<24-i; omega) (lg ⟨zE,rfl,⟨_,rfl,AVLe.of_eq (congrArg (fun n=>AV.own _ 0 n 38 none) hl1)⟩,rfl,zE,rfl,trivial⟩ ⟨zR,zR,trivial⟩)
      ·have dk:decide (y.op.kind=1)=false:=dF hk
       have hst:b6 out x=out++[⟨2,((x.who.toNat % 4 % 3:Nat):Int),zOp,zBk,e0⟩]:=by rw[hs0,if_neg (fun h=>hk h.1)]
       have hl1:out.length+1=(out++[(⟨2,((x.who.toNat % 4 % 3:Nat):Int),zOp,zBk,e0⟩:HEv)]).length:=by simp
       iterate 3 refine rS ?_
       refine rQ iF ?_;refine zJ<|kS<|ae ?_;refine rC ?_;refine rQ iM ?_;refine aX (ay (s:=38) aa rfl rfl rfl rfl rfl rfl rfl rfl) rfl ?_;refine aP (aR (enc:=bU) (s:=38) (xs:=out) aa ⟨2,((x.who.toNat % 4 % 3:Nat):Int),zOp,zBk,e0⟩ rfl rfl rfl rfl rfl rfl rfl rfl rfl hal rfl) rfl ?_;refine rC<|aq<|zC<|ae ?_;refine rC ?_;refine rQ iD ?_;refine rC<|aq ?_
       exact aJ (i+1,out++[⟨2,((x.who.toNat % 4 % 3:Nat):Int),zOp,zBk,e0⟩]) [(64,some 64),(65,some _)] ⟨hlt,h24,by rw[hfx,hst]⟩ (by show 24-(i+1)<24-i; omega) (lg ⟨zE,rfl,⟨_,rfl,AVLe.of_eq (congrArg (fun n=>AV.own _ 0 n 38 none) hl1)⟩,rfl,zE,rfl,trivial⟩ ⟨zR,zR,trivial⟩)
  ·have c2:decide ((i:Int)<24)=false:=dF (by omega)
   have hE:out=hOf l:=by rw[hout,hOf,show i=24 by omega]
   rw[←hE]
   refine wF<|zX<|sR ?_;refine zD<|zT ?_
   exact⟨trivial,[(64,some _)],lg zV ⟨zR,trivial⟩⟩
 ·have c1:decide ((i:Int)<(l.length:Int))=false:=dF (by omega)
  have hE:out=hOf l:=by rw[hout,hOf,List.take_of_length_le (by omega),List.take_of_length_le (by omega)]
  rw[←hE]
  iterate 2 refine rS ?_
  refine rQ iF ?_;refine zJ<|zX<|sR ?_;refine zD<|zT ?_
  exact⟨trivial,[(64,some _)],lg zV ⟨zR,trivial⟩⟩
end Go.Proofs.Ytkehohfgbblokaa
namespace Go.Proofs.Ytkehohfgbblokaa
open Go.Eng Go.Plain
set_option maxHeartbeats 32000000
set_option maxRecDepth 20000
set_option linter.unusedVariables false
theorem yD {e:Int} (h:kn4 e=true):e=0∨e=1∨e=8∨e=9:=by
 simp only[kn4,Bool.or_eq_true,decide_eq_true_eq]at h
 omega
theorem xo {rd:RdS} {x:HEv} {l:List HEv} {i:Nat}:goS rd (x::l) i=if (bV rd x).2 then goS (bV rd x).1 l (i+1) else ((bV rd x).1,(i:Int)):=by
 have:=kW (s:=rd) (h:=List.replicate i x++x::l) (i:=i) (x:=x) (by simp)
 rw[List.drop_left' (by simp)]at this
 rw[this,show List.replicate i x++x::l=(List.replicate i x++[x])++l by simp,List.drop_left' (by simp)]
theorem Ag (x:PQ):(qOf x).Ok:=by
 have h1:=x.kind.toNat_lt
 have h2:=x.index.toNat_lt
 have h3:=x.data.toNat_lt
 unfold qOf
 split
 ·exact⟨⟨by show (0:Int)≤1; decide,by show (1:Int)≤(255:Int); decide⟩,⟨by show-9223372036854775808≤((x.index.toNat % 22:Nat):Int)-1; omega,by show ((x.index.toNat % 22:Nat):Int)-1≤9223372036854775807; omega⟩⟩
 split
 ·exact⟨⟨by show (0:Int)≤2; decide,by show (2:Int)≤(255:Int); decide⟩,⟨by show-9223372036854775808≤((x.index.toNat % 22:Nat):Int)-1; omega,by show ((x.index.toNat % 22:Nat):Int)-1≤9223372036854775807; omega⟩⟩
 split
 ·exact⟨⟨by show (0:Int)≤((x.data.toNat % 4:Nat):Int); omega,by show ((x.data.toNat % 4:Nat):Int)≤255; omega⟩,⟨by show-9223372036854775808≤(x.index.toNat:Int)-100; omega,by show (x.index.toNat:Int)-100≤9223372036854775807; omega⟩⟩
 ·exact⟨⟨by decide,by decide⟩,⟨by decide,by decide⟩⟩
theorem wz (x:PQ):(qOf x).data.length≤32:=by
 unfold qOf
 split
 ·simp
 split
 ·simp
 split
 ·simp; omega
 ·simp
theorem pM (s:RdS) (x:HEv):(bV s x).1.all.length≤s.all.length+1:=by
 unfold bV
 simp only
 split
 ·split
  ·simp
  ·simp
 ·split
  ·split
   ·simp only
    cases opOf s x <;> simp
   ·simp
  ·split <;> simp
theorem mn:∀(h:List HEv) (s:RdS) (i:Nat),(goS s h i).1.all.length≤s.all.length+h.length
 | [],s,i=>by simp[goS]
 | x::h,s,i=>by
  rw[xo]
  have h1:=pM s x
  split
  ·have:=mn h (bV s x).1 (i+1)
   simp only[List.length_cons]
   omega
  ·simp only[List.length_cons]
   omega
theorem fC (h:List HEv):(rdH h).all.length≤h.length:=by
 unfold rdH
 split
 ·simp[rd0]
 ·have:=mn h rd0 0
  simpa[rd0]using this
def cv (h:List HEv):Prop:=∀i x,h[i]?=some x→fitB (h.take i) x=true
theorem oc:cv []:=fun i x h=>by simp at h
theorem cv.snoc {h:List HEv} {x:HEv} (H:cv h) (hx:fitB h x=true):cv (h++[x]):=by
 intro i y hy
 by_cases hi:i<h.length
 ·rw[List.getElem?_append_left hi]at hy
  rw[List.take_append_of_le_length (by omega)]
  exact H i y hy
 ·have hlt:=(List.getElem?_eq_some_iff.1 hy).1
  have he:i=h.length:=by simp at hlt; omega
  subst he
  rw[List.getElem?_append_right (by omega),Nat.sub_self]at hy
  simp at hy
  subst hy
  rw[List.take_left']
  ·exact hx
  ·rfl
theorem cv.take {h:List HEv} (H:cv h) (n:Nat):cv (h.take n):=by
 intro i x hx
 have hlt:=(List.getElem?_eq_some_iff.1 hx).1
 rw[List.length_take]at hlt
 rw[List.getElem?_take_of_lt (by omega)]at hx
 rw[List.take_take,Nat.min_eq_left (by omega)]
 exact H i x hx
theorem qJ {h:List HEv} (H:cv h):∀(n i:Nat),oO h n i=(0,0)
 | 0,i=>rfl
 | n+1,i=>by
  rw[oO]
  cases hx:h[i]? with
  | none=>rfl
  | some x =>
   simp only
   rw[H i x hx,if_pos rfl]
   exact qJ H n (i+1)
theorem yW {h:List HEv} (H:cv h) (hl:h.length≤8192):chkH h=(0,0):=by
 rw[xM,rchk,if_neg (by omega)]
 exact qJ H _ _
theorem xx:∀e∈kZ,kn4 e=true:=by decide
theorem yP (y:HEv) (x:XE):kn4 (errX y x)=true:=by
 unfold errX
 split
 ·rfl
 ·obtain⟨e,he⟩:∃e,kZ[x.what.toNat % 8]?=some e:=⟨_,List.getElem?_eq_getElem (Nat.mod_lt _ (by decide))⟩
  rw[he]
  exact xx e (List.mem_of_getElem? he)
theorem wQ (x:XE):(opX x).data.length≤64:=by
 unfold opX
 split
 ·simp
 split
 ·simp
 split
 ·simp
 ·have:=wz ⟨8,x.data,x.what⟩; omega
theorem Ak (x:XE):(opX x).Ok:=by
 have h2:=x.data.toNat_lt
 unfold opX
 split
 ·exact⟨⟨by show (0:Int)≤1; decide,by show (1:Int)≤(255:Int); decide⟩,⟨by show-9223372036854775808≤((x.data.toNat/4 % 3:Nat):Int); omega,by show ((x.data.toNat/4 % 3:Nat):Int)≤9223372036854775807; omega⟩⟩
 split
 ·exact⟨⟨by show (0:Int)≤2; decide,by show (2:Int)≤(255:Int); decide⟩,⟨by show-9223372036854775808≤((x.data.toNat/4 % 3:Nat):Int); omega,by show ((x.data.toNat/4 % 3:Nat):Int)≤9223372036854775807; omega⟩⟩
 split
 ·exact⟨⟨by decide,by decide⟩,⟨by decide,by decide⟩⟩
 ·exact Ag _
theorem zop_ok':zOp.Ok:=⟨by decide,by decide⟩
theorem uO {out:List HEv} (x:XE) (H:cv out) (hok:∀y∈out,y.Ok):cv (b6 out x)∧∀y∈b6 out x,y.Ok:=by
 have app:∀(e:HEv),fitB out e=true→e.Ok→cv (out++[e])∧∀y∈out++[e],y.Ok:=fun e h1 h2=>⟨H.snoc h1,fun y hy=>by
  rcases List.mem_append.1 hy with hy | hy
  ·exact hok y hy
  ·rw[List.mem_singleton.1 hy]; exact h2⟩
 unfold b6
 split
 ·exact app _ rfl ⟨show (0:Int)≤3∧(3:Int)≤255 by decide,show (-9223372036854775808:Int)≤0∧(0:Int)≤9223372036854775807 by decide,zop_ok',rfl,show (-9223372036854775808:Int)≤0∧(0:Int)≤9223372036854775807 by decide⟩
 ·split
  ·rename_i hp
   refine app _ ?_ ⟨show (0:Int)≤1∧(1:Int)≤255 by decide,show (-9223372036854775808:Int)≤((x.who.toNat % 4 % 3:Nat):Int)∧((x.who.toNat % 4 % 3:Nat):Int)≤9223372036854775807 by omega,Ak x,rfl,show (-9223372036854775808:Int)≤0∧(0:Int)≤9223372036854775807 by decide⟩
   rw[fitB,if_pos rfl,fit1]
   simp only[Bool.and_eq_true,decide_eq_true_eq]
   exact⟨⟨⟨⟨⟨by omega,by omega⟩,hp⟩,wQ x⟩,trivial⟩,trivial⟩
  ·rename_i hp
   split
   ·exact⟨H,hok⟩
   ·rename_i y hy
    have hk:=yP y x
    have hkr:=yD hk
    refine app _ ?_ ⟨show (0:Int)≤2∧(2:Int)≤255 by decide,show (-9223372036854775808:Int)≤((x.who.toNat % 4 % 3:Nat):Int)∧((x.who.toNat % 4 % 3:Nat):Int)≤9223372036854775807 by omega,zop_ok',?_,?_⟩
    ·rw[fitB,if_neg (show ¬(2:Int)=1 by decide),if_pos rfl,fit2]
     simp only[Bool.and_eq_true,Bool.or_eq_true,decide_eq_true_eq,Bool.not_eq_true',decide_eq_false_iff_not]
     refine⟨⟨⟨⟨⟨by omega,by omega⟩,hp⟩,trivial⟩,hk⟩,?_⟩
     rw[hy]
     simp only[Bool.and_eq_true,decide_eq_true_eq]
     by_cases hc:y.op.kind=1∧errX y x=0
     ·exact .inl hc
     ·exact .inr (by rw[if_neg hc])
    ·show (if y.op.kind=1∧errX y x=0 then List.replicate 32 (blkB x.data) else zBk).length=32
     split
     ·simp
     ·rfl
    ·show-9223372036854775808≤errX y x∧errX y x≤9223372036854775807
     omega
theorem pi:∀(l:List XE) (out:List HEv),cv out→(∀y∈out,y.Ok)→cv (l.foldl b6 out)∧∀y∈l.foldl b6 out,y.Ok
 | [],out,H,hok=>⟨H,hok⟩
 | x::l,out,H,hok=>by
  obtain⟨h1,h2⟩:=uO x H hok
  exact pi l _ h1 h2
theorem yJ (l:List XE):cv (hOf l):=(pi _ [] oc (fun y hy=>by cases hy)).1
theorem yI (l:List XE):(hOf l).length≤24:=by
 have:=jO (l.take 24) []
 rw[List.length_take]at this
 unfold hOf
 simp at this
 omega
end Go.Proofs.Ytkehohfgbblokaa
namespace Go.Proofs.Ytkehohfgbblokaa
open Go.Eng Go.Plain
set_option maxHeartbeats 32000000
set_option maxRecDepth 20000
theorem wO (h:List HEv):(opsH h).length≤h.length:=by
 unfold opsH
 split
 ·exact fC h
 ·exact Nat.zero_le _
theorem qb (h:List HEv) (b:Int):(lH h b).length≤h.length:=by
 unfold lH opL
 split
 ·exact wO h
 ·exact Nat.zero_le _
theorem POk.zle {l:List HOp} {e:Nat} {p:Prep} (P:POk l e p) {x:LSt} (S:SOk p e x):(zOf p x.era).length≤8192:=by
 obtain⟨e0,e1⟩:=S.era
 obtain⟨n,hn⟩:∃n:Nat,x.era=n:=⟨x.era.toNat,by omega⟩
 rw[hn]
 exact P.zl _ (P.zm (by omega))
theorem gk.zle {l:List HOp} {b:Int} {e:Nat} {p:Prep} {ks:List Int} {kv:List (List UInt8)} (F:gk l b e p ks kv) {x:LSt} (S:SOk p e x):(zOf p x.era).length≤l.length:=by
 obtain⟨e0,e1⟩:=S.era
 obtain⟨n,hn⟩:∃n:Nat,x.era=n:=⟨x.era.toNat,by omega⟩
 rw[hn,zOf,Int.toNat_natCast,F.opk n (by omega),Option.getD_some,fi,mayI]
 exact fA _ l 0
theorem wl (h:List HEv) (b fuel:Int) (hh:h.length≤8192) (Inv:Nat→QS→List (List aI)→Prop)
  (hI0:opE h b=0→Inv 0 (addS ([],[]) (dq (pH h b))).1 []) (hIs:∀i q sp x,opE h b=0→POk (lH h b) (br h) (pH h b)→0≤fuel→Inv i q sp→q.2[i]?=some x→(q.2.length:Int)≤fuel→Inv (i+1) (cI (pH h b) (lH h b) (br h) x q).1 (sp++[(cI (pH h b) (lH h b) (br h) x q).2])) (hIb:∀i q sp,0≤fuel→Inv i q sp→q.2.length+8200≤1048576)
  (htot:∀r,opE h b=0→0≤fuel→fuel≤1048576→kH h b fuel=some r→r.1.2.length*(h.length+1)+1≤67108864):oj h b fuel:=by
 have hal:(rdH h).all.length≤8192:=Nat.le_trans (fC h) hh
 have hll:(lH h b).length≤8192:=Nat.le_trans (qb h b) hh
 obtain⟨ks,kv,F⟩:=ga (lH h b) b (br h)
 have P:=F.ok hll
 refine⟨hh,hal,fun hE h0 h1=>?_,fun _=>⟨ks,kv,F⟩,fun _=>hll,fun r hE h0 h1 hr=>?_⟩
 ·exact uS h b fuel hh hal hE h0 h1 _ rfl _ rfl _ rfl P (fun o _ hm hk=>(gX hm).2.1 hk) Inv (hI0 hE) (fun i q sp x=>hIs i q sp x hE P h0) (fun i q sp=>hIb i q sp h0)
 ·obtain⟨q,sp⟩:=r
  obtain⟨I,hfu⟩:=jB P (fV h) hr
  have h2:=I.tot (M:=h.length) fun x hx=>Nat.le_trans (F.zle (I.ok.st x hx)) (qb h b)
  have h3:=htot _ hE h0 h1 hr
  simp only at h3 ⊢
  omega
theorem lG (h:List HEv) (b fuel:Int) (hh:h.length≤8192) (hf:fuel≤1000000∨1048576<fuel∨opE h b≠0) (ht:fuel≤1000000→fuel.toNat*(h.length+1)+1≤67108864):oj h b fuel:=by
 rcases hf with hf | hf
 ·refine wl h b fuel hh (fun i q sp=>(∀y∈q.2,SOk (pH h b) (br h) y)∧q.2.length≤fuel.toNat+8194) (fun hE=>⟨(zr (fV h)).ok.st,?_⟩) (fun i q sp x hE P h0 hI hx hle=>?_) (fun i q sp h0 hI=>?_) (fun r hE h0 _ hr=>?_)
  ·have:=(lx ([],[]) (dq (pH h b))).2
   simp only[List.length_nil]at this
   omega
  ·obtain⟨h1,h2⟩:=hI
   have hxm:=List.mem_of_getElem? hx
   have h3:=(o9 (pH h b) (lH h b) (br h) x q).2
   have h4:=P.zle (h1 x hxm)
   exact⟨qW P (h1 x hxm) h1,by omega⟩
  ·have:=hI.2; omega
  ·obtain⟨ks,kv,F⟩:=ga (lH h b) b (br h)
   have P:=F.ok (Nat.le_trans (qb h b) hh)
   obtain⟨q,sp⟩:=r
   obtain⟨I,hfu⟩:=jB P (fV h) hr
   have h1:=ht hf
   have h2:q.2.length≤fuel.toNat:=by omega
   have h3:=Nat.mul_le_mul_right (h.length+1) h2
   simp only
   omega
 ·have hal:(rdH h).all.length≤8192:=Nat.le_trans (fC h) hh
  have hll:(lH h b).length≤8192:=Nat.le_trans (qb h b) hh
  obtain⟨ks,kv,F⟩:=ga (lH h b) b (br h)
  have P:=F.ok hll
  refine⟨hh,hal,fun hE h0 h1=>?_,fun _=>⟨ks,kv,F⟩,fun _=>hll,fun r hE h0 h1 hr=>?_⟩
  ·rcases hf with hf | hf
   ·omega
   ·exact absurd hE hf
  ·rcases hf with hf | hf
   ·omega
   ·exact absurd hE hf
end Go.Proofs.Ytkehohfgbblokaa
namespace Go.Eng
open Go.RowKit
section
variable {P : Program} {T : Tab} {env : Env} {h : Upds} {n : Nat}
theorem ek (hT:an P T) {t e:Nat} {re:TyR} {s:Nat} {α:Type} {enc:α→D} {xs ys:List α} {x y:Operand} (ht:bt T t=some (.slice e)) (he:lk T e=some re) (hs:Nat.beq re.size s=true) (hs0:Nat.blt 0 s=true)
  (hx:au env x=some (.d (.arx s enc xs))) (hy:au env y=some (.d (.arr s enc ys))) (hys:0<ys.length)
  (hlen:xs.length+ys.length≤1048576) (hbytes:Nat.ble re.bytes 134217728=true) :
  ak P (.call { callee :=.builtin .append,args := #[x,y],argTypes := #[t,t] }) env h n (some (.own n 0 (xs.length+ys.length) s none)) [(n,some (.ds e s false enc (xs++ys)))]:=by
 have hb:=Nat.le_of_ble_eq_true hbytes
 have hs1:=Nat.eq_of_beq_eq_true hs
 have hs0:=Nat.le_of_ble_eq_true hs0
 refine lv hT (ys:=ys) ht he hs1 hys (by simp only[maxLen]; omega) ?_ ?_ ?_
 ·have:(xs.length+ys.length)*re.bytes≤1048576*134217728:=Nat.mul_le_mul hlen hb
  omega
 ·intro C G st σ w a hA hst
  obtain⟨hx1,_⟩:=aw hst (hA.ev hx)
  rcases RelV.arx.1 hx1 with ⟨rfl,ad,hv⟩ | ⟨ad,hv,hc1,f,hf⟩
  ·exact⟨ad,0,fun _=>[],hv,by simpa using hys,fun _=>⟨rfl,rfl⟩,fun i hi=>by simp at hi,fun _ _ j v hj=>by simp[cat]at hj⟩
  ·refine⟨some ad,xs.length,f,hv,by omega,(fun h=>by cases h),fun i hi=>⟨(hf i hi).1,(hf i hi).2.1⟩,fun ad' had j v hj=>?_⟩
   cases had
   have hfl:∀i,i<xs.length→(f i).length=s:=fun i hi=>(hf i hi).2.1
   have hjl:=(List.getElem?_eq_some_iff.1 hj).1
   rw[cF _ hfl]at hjl
   have hi:j/s<xs.length:=Nat.div_lt_of_lt_mul (by rw[Nat.mul_comm]; exact hjl)
   have hm:j % s<s:=Nat.mod_lt _ hs0
   have hdm:j/s*s+j % s=j:=by rw[Nat.mul_comm]; exact Nat.div_add_mod j s
   have hg:=eM (f:=f) xs.length hfl (j/s) (j % s) hi hm
   rw[hdm,hj]at hg
   have:=((hf (j/s) hi).2.2 (j % s) v hg.symm).1
   rwa [hdm]at this
 ·exact ye hs0 hy hys
theorem Frz.litsX {r:Nat} {t s m:Nat} {α:Type} {enc:α→D} (xs:List α) (hm:m=xs.length) (hs:∀x,(enc x).size=s):Frz r (.lits t s m true (qj enc xs)) (.own r 0 m s none) (.d (.arx s enc xs)):=
 Frz.row_le (aN.lits_ds hs hm) (Frz.ownxe hm)
end
end Go.Eng
namespace Go.Proofs.Ytkehohfgbblokaa
open Go.Eng Go.Plain
set_option maxHeartbeats 32000000
set_option maxRecDepth 20000
attribute [local irreducible] WC RegS RegD SeqQ BlkQ ScoQ RegK CutK Sat SatN FnIs LoopQ ak OpIs
theorem lM (k i:Int):DLe (.cons (u8s k) (.cons (i6 i) (.cons (.sc nil_) .nil))) (ct ⟨k,i,[]⟩):=by
 rintro w X cs ⟨d1,q1,rfl,g1,d2,q2,rfl,g2,d3,q3,rfl,⟨rfl,_⟩,rfl⟩
 exact⟨d1,_,rfl,g1,d2,_,rfl,g2,[.slice none 0 0],[],rfl,.inl ⟨rfl,rfl⟩,rfl⟩
theorem fK (k c ok oi e:Int) (v:List UInt8):DLe (.cons (u8s k) (.cons (i6 c) (.cons (.cons (u8s ok) (.cons (i6 oi) (.cons (.sc nil_) .nil))) (.cons (bj v) (.cons (i6 e) .nil))))) (bU ⟨k,c,⟨ok,oi,[]⟩,v,e⟩):=by
 rintro w X cs ⟨c1,r1,rfl,h1,c2,r2,rfl,h2,c3,r3,rfl,h3,h4⟩
 exact⟨c1,_,rfl,h1,c2,_,rfl,h2,c3,_,rfl,lM _ _ _ _ _ h3,h4⟩
theorem AS {α:Type} (s:Nat) (enc:α→D) (xs:List α):AVLe (.d (.arx s enc xs)) (.d (.arr s enc xs)):=AVLe.of_enc rfl rfl fun w X cs h=>Enc.arx_arr (fun _ _ h=>h) cs h
abbrev CB (l:List HEv):D :=.arx 38 bU l
def didL (op:POp) (v:List UInt8):List HEv:=[⟨1,0,op,zBk,0⟩,⟨2,0,zOp,v,0⟩]
def wrO (d:UInt8):POp:=⟨2,0,List.replicate 32 (blkB d)⟩
def rdO:POp:=⟨1,0,[]⟩
def flO:POp:=⟨3,0,[]⟩
def cS:List UInt8:=List.replicate 32 (blkB 1)
theorem fy (d:UInt8):FnIs Try.prog 33 [.int .u8 d.toNat] [] (.d (ct (wrO d))) []:=by
 refine aH aa Try.func33 rfl rfl rfl ?_;refine sR<|rN<|nR ?_;refine rC ?_;refine rQ (aE (kD d) rfl rfl (am aj) (.inl rfl) (fun _=>rfl)) ?_;refine rN ?_;refine rW<|nS ?_;refine eu (env':=[(3,_),(2,_)]) (h':=[(64,some _)]) 88 _ rfl ⟨⟨_,rfl,Frz.ptr⟩,zE,trivial⟩ ⟨⟨rfl,_,rfl,.refl _⟩,trivial⟩<|sR ?_;refine rQ (kJ aa rfl rfl rfl rfl rfl) ?_;refine rQ iS ?_;refine rW<|zT ?_
 exact⟨trivial,_,rfl,[],lf⟩
theorem kR:FnIs Try.prog 36 [] [] (.d (bj cS)) []:=by
 refine aH aa Try.func36 rfl rfl rfl ?_;refine sR<|rN<|nR ?_;refine rQ (aE (kD 1) rfl rfl (am aj) (.inl rfl) (fun _=>rfl)) ?_;refine rW<|zT ?_
 exact⟨trivial,_,rfl,[],lf⟩
theorem ur (op:POp) (v:List UInt8):FnIs Try.prog 32 [.d (ct op),.d (bj v)] [] (.d (CB (didL op v))) []:=by
 refine aH aa Try.func32 rfl rfl rfl ?_;refine sR ?_;iterate 2 refine rN ?_
 refine rC<|nR ?_;refine rQ iM ?_;refine rQ iS ?_;refine rQ iM ?_;refine rQ (ak.val_le (bn aa rfl rfl rfl rfl) (fK 2 0 0 0 0 v) rfl) ?_;refine rQ (ak.frozen (ay (s:=38) aa rfl rfl rfl rfl rfl rfl rfl rfl) (Frz.litsX (enc:=bU) (didL op v) rfl (fun _=>rfl))) ?_;refine rC<|zT ?_
 exact⟨trivial,[],lf⟩
theorem jq (op:POp) (v:List UInt8):FnIs Try.prog 32 [.d (ct op),.d (bj v)] [] (.d (encH (didL op v))) []:=by
 refine aH aa Try.func32 rfl rfl rfl ?_;refine sR ?_;iterate 2 refine rN ?_
 refine rC<|nR ?_;refine rQ iM ?_;refine rQ iS ?_;refine rQ iM ?_;refine rQ (ak.val_le (bn aa rfl rfl rfl rfl) (fK 2 0 0 0 0 v) rfl) ?_;refine rQ (ak.frozen (ay (s:=38) aa rfl rfl rfl rfl rfl rfl rfl rfl) (Frz.litsX (enc:=bU) (didL op v) rfl (fun _=>rfl))) ?_;refine rC<|zT ?_
 exact⟨trivial,[],lg ⟨⟨_,rfl,AS _ _ _⟩,rfl,trivial⟩ trivial⟩
def eJ (v:List UInt8):List HEv:=[⟨1,0,wrO 1,zBk,0⟩,⟨1,1,rdO,zBk,0⟩,⟨2,1,zOp,v,0⟩,⟨2,0,zOp,zBk,0⟩]
theorem uw (v:List UInt8):FnIs Try.prog 35 [.d (bj v)] [] (.d (encH (eJ v))) []:=by
 refine aH aa Try.func35 rfl rfl rfl ?_;refine sR<|rN ?_;refine rC<|nQ ?_;refine aB (by kernel_rfl) ?_;refine dQ [] [] (aE (fy 1) rfl rfl (am aj) (.inl rfl) (fun _=>rfl)) ?_;refine dQ [3] [] iS ?_;refine dQ [] [] iS ?_;refine dQ [5] [] (ak.val_le (bn aa rfl rfl rfl rfl) (fK 1 1 1 0 0 zBk) rfl) ?_;refine dQ [1] [64] iM ?_;refine dQ [7] [] (ak.val_le (bn aa rfl rfl rfl rfl) (fK 2 1 0 0 0 v) rfl) ?_;refine dQ [] [] (ak.val_le (bn aa rfl rfl rfl rfl) (fK 2 0 0 0 0 zBk) rfl) ?_;refine dQ [4,6,8,9] [] (ak.frozen (ay (s:=38) aa rfl rfl rfl rfl rfl rfl rfl rfl) (Frz.litsN (enc:=bU) (eJ v) rfl (fun _ _=>rfl))) ?_;refine dC [10] [] ?_;refine ao (by kernel_rfl)<|aK<|eY ?_
 exact⟨trivial,[],lf⟩
def iQ (f:Bool):List HEv:=didL (wrO 1) zBk++(if f then didL flO zBk else[])++didL (wrO 0) zBk++[⟨3,0,zOp,zBk,0⟩]++didL rdO cS
theorem tg:FnIs Try.prog 37 [.bool true] [] (.own 64 0 9 38 none) [(64,.ds 63 38 false bU (iQ true))]:=by
 refine aH aa Try.func37 rfl rfl rfl ?_;refine sR<|rC<|nR ?_;refine rQ (aE (fy 1) rfl rfl (am aj) (.inl rfl) (fun _=>rfl)) ?_;refine rQ (bH aa rfl rfl rfl) ?_;refine rQ (aE (ur (wrO 1) zBk) rfl rfl (am (am aj)) (.inl rfl) (fun _=>rfl)) ?_;refine rC<|zW ?_;refine rC ?_;refine zO<|ae ?_;refine rC ?_;refine rQ (ak.val_le (bn aa rfl rfl rfl rfl) (lM 3 0) rfl) ?_;refine rQ (bH aa rfl rfl rfl) ?_;refine rQ (aE (jq flO zBk) rfl rfl (am (am aj)) (.inl rfl) (fun _=>rfl)) ?_;refine aX (ek (s:=38) (enc:=bU) (xs:=didL (wrO 1) zBk) (ys:=didL flO zBk) aa rfl rfl rfl rfl rfl rfl (by decide) (by decide) rfl) rfl ?_;refine rC<|nR ?_;refine rC ?_;refine rQ (aE (fy 0) rfl rfl (am aj) (.inl rfl) (fun _=>rfl)) ?_;refine rQ (bH aa rfl rfl rfl) ?_;refine rQ (aE (jq (wrO 0) zBk) rfl rfl (am (am aj)) (.inl rfl) (fun _=>rfl)) ?_;refine aP (kE (s:=38) (enc:=bU) (xs:=didL (wrO 1) zBk++didL flO zBk) (ys:=didL (wrO 0) zBk) aa rfl rfl rfl rfl rfl rfl rfl (by decide) (by decide) rfl) rfl ?_;refine rC<|nR ?_;refine rC ?_;refine rQ (ak.val_le (bn aa rfl rfl rfl rfl) (fK 3 0 0 0 0 zBk) rfl) ?_;refine aX (ay (s:=38) aa rfl rfl rfl rfl rfl rfl rfl rfl) rfl ?_;refine aP (aR (s:=38) (enc:=bU) (xs:=didL (wrO 1) zBk++didL flO zBk++didL (wrO 0) zBk) aa (⟨3,0,zOp,zBk,0⟩:HEv) rfl rfl rfl rfl rfl rfl rfl rfl rfl (by decide) rfl) rfl ?_;refine rQ (ak.val_le (bn aa rfl rfl rfl rfl) (lM 1 0) rfl) ?_;refine rQ (aE kR rfl rfl aj (.inl rfl) (fun _=>rfl)) ?_;refine rQ (aE (jq rdO cS) rfl rfl (am (am aj)) (.inl rfl) (fun _=>rfl)) ?_;refine aP (kE (s:=38) (enc:=bU) (xs:=didL (wrO 1) zBk++didL flO zBk++didL (wrO 0) zBk++[⟨3,0,zOp,zBk,0⟩]) (ys:=didL rdO cS) aa rfl rfl rfl rfl rfl rfl rfl (by decide) (by decide) rfl) rfl ?_;refine rC<|zT ?_
 exact⟨trivial,[(64,some 264)],lg zV ⟨⟨rfl,rfl,_,rfl,aN.of_eq rfl⟩,trivial⟩⟩
theorem lW:FnIs Try.prog 37 [.bool true] [] (.d (encH (iQ true))) []:=tg.freeze_out 64 _ rfl (Frz.own rfl) trivial
theorem th:FnIs Try.prog 37 [.bool false] [] (.own 64 0 7 38 none) [(64,.ds 63 38 false bU (iQ false))]:=by
 refine aH aa Try.func37 rfl rfl rfl ?_;refine sR<|rC<|nR ?_;refine rQ (aE (fy 1) rfl rfl (am aj) (.inl rfl) (fun _=>rfl)) ?_;refine rQ (bH aa rfl rfl rfl) ?_;refine rQ (aE (ur (wrO 1) zBk) rfl rfl (am (am aj)) (.inl rfl) (fun _=>rfl)) ?_;refine rC<|zW ?_;refine rC ?_;refine zJ<|kS<|sR ?_;refine rC ?_;refine rQ (aE (fy 0) rfl rfl (am aj) (.inl rfl) (fun _=>rfl)) ?_;refine rQ (bH aa rfl rfl rfl) ?_;refine rQ (aE (jq (wrO 0) zBk) rfl rfl (am (am aj)) (.inl rfl) (fun _=>rfl)) ?_;refine aX (ek (s:=38) (enc:=bU) (xs:=didL (wrO 1) zBk) (ys:=didL (wrO 0) zBk) aa rfl rfl rfl rfl rfl rfl (by decide) (by decide) rfl) rfl ?_;refine rC<|nR ?_;refine rC ?_;refine rQ (ak.val_le (bn aa rfl rfl rfl rfl) (fK 3 0 0 0 0 zBk) rfl) ?_;refine aX (ay (s:=38) aa rfl rfl rfl rfl rfl rfl rfl rfl) rfl ?_;refine aP (aR (s:=38) (enc:=bU) (xs:=didL (wrO 1) zBk++didL (wrO 0) zBk) aa (⟨3,0,zOp,zBk,0⟩:HEv) rfl rfl rfl rfl rfl rfl rfl rfl rfl (by decide) rfl) rfl ?_;refine rQ (ak.val_le (bn aa rfl rfl rfl rfl) (lM 1 0) rfl) ?_;refine rQ (aE kR rfl rfl aj (.inl rfl) (fun _=>rfl)) ?_;refine rQ (aE (jq rdO cS) rfl rfl (am (am aj)) (.inl rfl) (fun _=>rfl)) ?_;refine aP (kE (s:=38) (enc:=bU) (xs:=didL (wrO 1) zBk++didL (wrO 0) zBk++[⟨3,0,zOp,zBk,0⟩]) (ys:=didL rdO cS) aa rfl rfl rfl rfl rfl rfl rfl (by decide) (by decide) rfl) rfl ?_;refine rC<|zT ?_
 exact⟨trivial,[(64,some 216)],lg zV ⟨⟨rfl,rfl,_,rfl,aN.of_eq rfl⟩,trivial⟩⟩
theorem lX:FnIs Try.prog 37 [.bool false] [] (.d (encH (iQ false))) []:=th.freeze_out 64 _ rfl (Frz.own rfl) trivial
end Go.Proofs.Ytkehohfgbblokaa
namespace Go.Proofs.Ytkehohfgbblokaa
open Go.Eng Go.Plain
set_option maxHeartbeats 32000000
set_option maxRecDepth 20000
def q9:List HEv:=[⟨1,0,wrO 1,zBk,0⟩,⟨3,0,zOp,zBk,0⟩]
def tX:List HEv:=[⟨1,0,wrO 1,zBk,0⟩,⟨1,1,flO,zBk,0⟩,⟨3,0,zOp,zBk,0⟩]
def se:List HEv:=[⟨1,0,rdO,zBk,0⟩,⟨2,0,zOp,zBk,9⟩]
def badL:List HEv:=se++didL (wrO 1) zBk
theorem ex1:eI (eJ cS) 1 9=(([0,1],true),0):=by decide+kernel
theorem ex2:eI (eJ zBk) 1 9=(([1,0],true),0):=by decide+kernel
theorem ex3:ii (eJ cS) 1 3=(3,0):=by decide+kernel
theorem ex4:ii (eJ cS) 1 2=(0,4):=by decide+kernel
theorem ex5:ii (eJ zBk) 1 4=(4,0):=by decide+kernel
theorem ex6:eI (iQ true) 1 99=(([0,1,2,3],true),0):=by decide+kernel
theorem ex7:(eI (iQ false) 1 99).1.2=false∧(eI (iQ false) 1 99).2=0:=by decide+kernel
theorem ex8:(eI (q9++didL rdO cS) 1 99).1.2=false∧(eI (q9++didL rdO cS) 1 99).2=0:=by decide+kernel
theorem ex9:eI (tX++didL rdO cS) 1 99=(([0,1,2],true),0):=by decide+kernel
theorem ex10:(if (chkH badL).2=0 then stV (opsH badL) else false)=false∧(chkH badL).2=0:=by decide+kernel
theorem ex11:(eI badL 1 9).1.2=true∧(eI badL 1 9).2=0:=by decide+kernel
theorem acA (o:List Int) (e:Int) (h:_root_.Go.Proofs.Ytkehohfgbblokaa.accS 1 (opsH (eJ cS)) o=e):(if opE (eJ cS) 1=0 then _root_.Go.Proofs.Ytkehohfgbblokaa.accS 1 (opsH (eJ cS)) o else opE (eJ cS) 1)=e:=by
 rw[if_pos (by decide+kernel),h]
theorem ex12:_root_.Go.Proofs.Ytkehohfgbblokaa.accS 1 (opsH (eJ cS)) [1,0]=15∧_root_.Go.Proofs.Ytkehohfgbblokaa.accS 1 (opsH (eJ cS)) [0]=15∧_root_.Go.Proofs.Ytkehohfgbblokaa.accS 1 (opsH (eJ cS)) [0,0]=1∧_root_.Go.Proofs.Ytkehohfgbblokaa.accS 1 (opsH (eJ cS)) [0,1]=0:=by decide+kernel
end Go.Proofs.Ytkehohfgbblokaa
