/- Texts of the proof: YG2, Eng104, Eng105, Y22, Y23, Eng108, Y24, YS, YS2, Eng109, Y25, P45, H18, H19, H20, YW, YR, Eng110, Y26, YT9, Y27, Y28, Y30, Y31, Y32, Y33, Y35, Y36, Y37, YB, YQ, YA. -/
import Derived.Test.YtkehohfgbblokaaG05
import Derived.Test.YtkehohfgbblokaaG02
import Derived.Test.YtkehohfgbblokaaG04
import Derived.Test.YtkehohfgbblokaaG03

set_option linter.unusedVariables false
set_option linter.unusedSimpArgs false
set_option linter.unusedSectionVars false

namespace Go.Proofs.Ytkehohfgbblokaa
open Go.Eng Go.Plain
set_option maxHeartbeats 32000000
set_option maxRecDepth 20000
def cntF (o:List Bool):Nat:=o.countP (!·)
theorem kL {o:List Bool} {i:Nat} (h:o[i]?=some false):cntF (o.set i true)+1=cntF o:=by
 induction o generalizing i with
 | nil=>simp at h
 | cons a o ih =>
  cases i with
  | zero =>
   simp only[List.getElem?_cons_zero,Option.some.injEq]at h
   subst h
   simp[cntF]
  | succ i =>
   have:=ih (i:=i) (by simpa using h)
   simp only[cntF,List.set_cons_succ,List.countP_cons]at this ⊢
   omega
theorem qQ (n:Nat):cntF (List.replicate n false)=n:=by
 unfold cntF
 induction n with
 | zero=>rfl
 | succ n ih=>rw[List.replicate_succ,List.countP_cons,ih]; rfl
structure BOk (n c:Nat) (B:List (List Int)):Prop where
 bl:B.length=n
 be:∀b∈B,b.length≤c∧∀k∈b,0≤k∧k<(n:Int)
theorem BOk.get {n c:Nat} {B:List (List Int)} (h:BOk n c B) {j:Nat} (hj:j<n):∃b,B[j]?=some b∧b.length≤c∧∀k∈b,0≤k∧k<(n:Int):=by
 have hl:j<B.length:=by rw[h.bl]; exact hj
 exact⟨_,List.getElem?_eq_getElem hl,h.be _ (List.getElem_mem hl)⟩
theorem wC {n c i:Nat} {B:List (List Int)} {y:aI} {xs:List Int} (hx:B[y.to.toNat]?=some xs):bkF i B y=B.set y.to.toNat (xs++[(i:Int)]):=by
 rw[bkF,hx]; rfl
theorem y4 {n c i:Nat} {B:List (List Int)} {y:aI} (h:BOk n c B) (hi:i<n) (h0:0≤y.to) (h1:y.to<(n:Int)):BOk n (c+1) (bkF i B y):=by
 obtain⟨b,hb,hbl,hbe⟩:=h.get (j:=y.to.toNat) (by omega)
 rw[wC (n:=n) (c:=c) hb]
 refine⟨by rw[List.length_set]; exact h.bl,fun z hz=>?_⟩
 rcases List.mem_or_eq_of_mem_set hz with hz | rfl
 ·exact⟨Nat.le_succ_of_le (h.be z hz).1,(h.be z hz).2⟩
 ·refine⟨by rw[List.length_append,List.length_singleton]; omega,fun k hk=>?_⟩
  rcases List.mem_append.1 hk with hk | hk
  ·exact hbe k hk
  ·rw[List.mem_singleton.1 hk]; omega
structure SpOk (st:List LSt) (sp:List (List aI)):Prop where
 len:sp.length=st.length
 to:∀ys∈sp,∀y∈ys,0≤y.to∧y.to<(st.length:Int)
def totS:List (List aI)→Nat
 | []=>0
 | ys::l=>ys.length+totS l
theorem kX {sp:List (List aI)} {i:Nat} {ys:List aI} (h:sp[i]?=some ys):totS (sp.take (i+1))=totS (sp.take i)+ys.length:=by
 induction sp generalizing i with
 | nil=>simp at h
 | cons a sp ih =>
  cases i with
  | zero =>
   simp only[List.getElem?_cons_zero,Option.some.injEq]at h
   subst h
   simp[totS]
  | succ i =>
   have:=ih (i:=i) (by simpa using h)
   simp only[List.take_succ_cons,totS]
   omega
theorem lX (sp:List (List aI)) (i:Nat):totS (sp.take i)≤totS sp:=by
 induction sp generalizing i with
 | nil=>simp[totS]
 | cons a sp ih =>
  cases i with
  | zero=>simp[totS]
  | succ i=>have:=ih i; simp only[List.take_succ_cons,totS]; omega
structure OOk (n:Nat) (out:List Bool) (opn:List Int):Prop where
 ol:out.length=n
 oe:∀k∈opn,0≤k∧k<(n:Int)
 cnt:opn.length+cntF out≤n
theorem OOk.get {n:Nat} {out:List Bool} {opn:List Int} (h:OOk n out opn) {k:Int} (h0:0≤k) (h1:k<(n:Int)):∃c,out[k.toNat]?=some c :=
 ⟨_,List.getElem?_eq_getElem (by rw[h.ol]; omega)⟩
theorem vt {out:List Bool} {opn:List Int} {k:Int} (h:out[k.toNat]?=some true):pshF (out,opn) k=(out,opn):=by
 simp[pshF,h]
theorem vu {out:List Bool} {opn:List Int} {k:Int} (h:out[k.toNat]?=some false):pshF (out,opn) k=(out.set k.toNat true,opn++[k]):=by
 simp[pshF,h]
theorem OOk.psh {n:Nat} {out:List Bool} {opn:List Int} (h:OOk n out opn) {k:Int} (h0:0≤k) (h1:k<(n:Int)) (hk:out[k.toNat]?=some false):OOk n (out.set k.toNat true) (opn++[k])∧(opn++[k]).length+cntF (out.set k.toNat true)=opn.length+cntF out:=by
 have hc:=kL hk
 have hcnt:=h.cnt
 refine⟨⟨by rw[List.length_set]; exact h.ol,fun j hj=>?_,?_⟩,?_⟩
 ·rcases List.mem_append.1 hj with hj | hj
  ·exact h.oe j hj
  ·rw[List.mem_singleton.1 hj]; exact⟨h0,h1⟩
 ·rw[List.length_append,List.length_singleton]; omega
 ·rw[List.length_append,List.length_singleton]; omega
theorem OOk.pop {n:Nat} {out:List Bool} {opn:List Int} (h:OOk n out opn):OOk n out opn.dropLast :=
 ⟨h.ol,fun k hk=>h.oe k (List.dropLast_subset _ hk),by have:=h.cnt; rw[List.length_dropLast]; omega⟩
theorem nD {α β:Type} {f:β→α→β} {l:List α} {j:Nat} {a:α} (h:l[j]?=some a) (b:β):(l.take (j+1)).foldl f b=f ((l.take j).foldl f b) a:=by
 have hlt:=(List.getElem?_eq_some_iff.1 h).1
 rw[List.take_succ_eq_append_getElem hlt,(List.getElem?_eq_some_iff.1 h).2,List.foldl_append]
 rfl
end Go.Proofs.Ytkehohfgbblokaa
namespace Go.Eng
open Go.RowKit
def farQ (a:Nat):Bool:=bif Nat.blt a 1000 then true else Nat.ble 10000000 a
theorem gK {a:Nat} (h:farQ a=true):a<1000∨10000000≤a:=by
 simp only[farQ]at h
 cases h1:Nat.blt a 1000 with
 | true=>exact .inl (Nat.le_of_ble_eq_true h1)
 | false=>rw[h1]at h; exact .inr (Nat.le_of_ble_eq_true h)
def ii:Upds→Bool
 | []=>true
 | (r,_)::l=>bif farQ r then ii l else false
theorem qu:∀(l:Upds),ii l=true→∀r∈aX l,farQ r=true
 | [],_,r,h=>by simp[aX]at h
 | (a,x)::l,h,r,hr=>by
  simp only[ii]at h
  cases hf:farQ a <;> simp only[hf,cond_true,cond_false]at h
  ·cases h
  simp only[aX,List.mem_cons]at hr
  rcases hr with rfl | hr
  ·exact hf
  ·exact qu l h r hr
theorem Le.list {l:bE} {st:St} {env':Env} {h':Upds} {R':List Row} {n' sz' bs':Nat} (τ:Nat→Option Nat) (hsz:sz'=st.sz) (hbs:bs'=st.bs) (hnx:Nat.ble bs' n'=true) (hn':Nat.ble 10000000 n'=true)
  (hnm:cL bs' l=true) (hkf:ii h'=true) (hinj:ep (rho l) (aX h')=true) (hR:R'.length≤9000000)
  (hτ:∀i,i<R'.length→rho l (1000+i)=τ i) (hτi:∀i i' k,i<R'.length→i'<R'.length→τ i=some k→τ i'=some k→i=i') (hτc:∀i k,i<R'.length→τ i=some k→∀r∈aX h',rho l r≠some k)
  (henv:iO (rho l) st.env n' env') (hrows:fu (rho l) st n' h')
  (htail:∀i row,R'[i]?=some row→row.lt n'=true∧match τ i with
   | some k=>∃x,st.row k=some x∧aO x (row.ren (rho l))
   | none=>row.isNil) :
  Le l st ⟨env',h'++bU 1000 R',n',sz',bs'⟩:=by
 have hn2:=Nat.le_of_ble_eq_true hn'
 refine⟨?_,hsz,hbs,hnx,hnm,fun i v hi=>iO.out _ henv i v hi,?_⟩
 ·have tl:∀a,a∈aX (bU 1000 R')→∃i,a=1000+i∧i<R'.length:=fun a ha=>by
   have:=qt _ _ _ ha
   exact⟨a-1000,by omega,by omega⟩
  refine jg _ fun a b k ha hb h1 h2=>?_
  rcases mP _ _ _ ha with ha | ha <;> rcases mP _ _ _ hb with hb | hb
  ·exact jE _ hinj a b k ha hb h1 h2
  ·obtain⟨i,rfl,hi⟩:=tl b hb
   rw[hτ i hi]at h2
   exact absurd h1 (hτc i k hi h2 a ha)
  ·obtain⟨i,rfl,hi⟩:=tl a ha
   rw[hτ i hi]at h1
   exact absurd h2 (hτc i k hi h1 b hb)
  ·obtain⟨i,rfl,hi⟩:=tl a ha
   obtain⟨i',rfl,hi'⟩:=tl b hb
   rw[hτ i hi]at h1
   rw[hτ i' hi']at h2
   rw[hτi i i' k hi hi' h1 h2]
 ·intro r row hr
  rw[vM]at hr
  cases hc:lk h' r with
  | some x =>
   rw[hc]at hr
   exact fu.out _ hrows r row (by rw[hc]; exact hr)
  | none =>
   rw[hc]at hr
   simp only[rZ]at hr
   split at hr
   ·rename_i hle
    cases hg:R'[r-1000]? with
    | none=>rw[hg]at hr; cases hr
    | some row' =>
     rw[hg]at hr
     simp only[Option.map_some,Option.bind_some,id]at hr
     cases hr
     obtain⟨h1,h2⟩:=htail _ _ hg
     have hlt:=(List.getElem?_eq_some_iff.1 hg).1
     refine⟨show r<n' by omega,h1,?_⟩
     have h3:=hτ (r-1000) hlt
     rw[show 1000+(r-1000)=r by omega]at h3
     rw[h3]
     cases hq:τ (r-1000) with
     | some k=>rw[hq]at h2; exact h2
     | none=>rw[hq]at h2; exact h2
   ·cases hr
section
variable {α : Type}
def chB (s:Nat) (τ:Nat→Nat):Nat→List (List α)→AV
 | _,[]=>.anil
 | i,xs::l=>.acons (.own (τ i) 0 xs.length s none) (chB s τ (i+1) l)
def eM (t s:Nat) (enc:α→D) (S:List (List α)):List Row:=S.map fun xs=>.ds t s false enc xs
theorem fb {t s:Nat} {enc:α→D} (S:List (List α)) (i:Nat):(eM t s enc S)[i]?=(S[i]?).map fun xs=>.ds t s false enc xs:=by simp[eM]
theorem b6 {t s:Nat} {enc:α→D} (S:List (List α)):(eM t s enc S).length=S.length:=by simp[eM]
theorem lu {s:Nat} {τ:Nat→Nat} {n:Nat}:∀(S:List (List α)) (i:Nat),(∀j,j<S.length→τ (i+j)<n)→(chB s τ i S).lt n=true
 | [],_,_=>rfl
 | _::S,i,h=>by
  have h0:Nat.blt (τ i) n=true:=Nat.ble_eq_true_of_le (h 0 (by simp))
  simp only[chB,AV.lt,h0,cond_true]
  exact lu S (i+1) fun j hj=>by have:=h (j+1) (by simp; omega); rwa [show i+(j+1)=i+1+j by omega]at this
theorem l8 {s:Nat} {τ τ':Nat→Nat} {ρ:Nat→Option Nat}:∀(S:List (List α)) (i:Nat),(∀j,j<S.length→ρ (τ (i+j))=some (τ' (i+j)))→(chB s τ i S).ren ρ=chB s τ' i S
 | [],_,_=>rfl
 | _::S,i,h=>by
  have h0:=h 0 (by simp)
  simp only[Nat.add_zero]at h0
  simp only[chB,AV.ren,h0]
  rw[l8 S (i+1) fun j hj=>by have:=h (j+1) (by simp; omega); rwa [show i+(j+1)=i+1+j by omega]at this]
theorem sw {s:Nat} {τ:Nat→Nat}:∀(S:List (List α)) (i j:Nat) (xs:List α),S[j]?=some xs→(chB s τ i S).chainAt j (j*1)=some (.own (τ (i+j)) 0 xs.length s none)
 | [],_,j,xs,h=>by simp at h
 | ys::S,i,0,xs,h=>by
  simp only[List.getElem?_cons_zero,Option.some.injEq]at h
  subst h
  rfl
 | ys::S,i,j+1,xs,h=>by
  have ih:=sw (s:=s) (τ:=τ) S (i+1) j xs (by simpa using h)
  have e:Nat.ble 1 ((j+1)*1)=true:=Nat.ble_eq_true_of_le (by omega)
  simp only[chB,AV.chainAt,AV.size,e]
  rw[show (j+1)*1-1=j*1 by omega,show i+(j+1)=i+1+j by omega]
  exact ih
theorem tb {s:Nat} {τ τ':Nat→Nat}:∀(S:List (List α)) (i j m:Nat) (xs:List α),j<S.length→xs.length=m→(∀k,k<S.length→k≠j→τ' (i+k)=τ (i+k))→AV.chainSet (.own (τ' (i+j)) 0 m s none) j (chB s τ i S)=chB s τ' i (S.set j xs)
 | [],_,j,m,xs,h,_,_=>by simp at h
 | ys::S,i,0,m,xs,_,hm,h=>by
  have:∀(S:List (List α)) (i:Nat),(∀k,k<S.length→τ' (i+k)=τ (i+k))→chB s τ i S=chB s τ' i S:=by
   intro S
   induction S with
   | nil=>intro _ _; rfl
   | cons ys S ih =>
    intro i h
    have h0:=h 0 (by simp)
    simp only[Nat.add_zero]at h0
    simp only[chB,h0]
    rw[ih (i+1) fun k hk=>by have:=h (k+1) (by simp; omega); rwa [show i+(k+1)=i+1+k by omega]at this]
  subst hm
  simp only[chB,AV.chainSet,List.set_cons_zero,Nat.add_zero]
  rw[this S (i+1) fun k hk=>by have:=h (k+1) (by simp; omega) (by omega); rwa [show i+(k+1)=i+1+k by omega]at this]
 | ys::S,i,j+1,m,xs,hj,hm,h=>by
  have h0:=h 0 (by simp) (by omega)
  simp only[Nat.add_zero]at h0
  have ih:=tb (s:=s) (τ:=τ) (τ':=τ') S (i+1) j m xs (by simpa using hj) hm fun k hk hne=>by have:=h (k+1) (by simp; omega) (by omega); rwa [show i+(k+1)=i+1+k by omega]at this
  simp only[chB,AV.chainSet,List.set_cons_succ,h0]
  rw[show i+(j+1)=i+1+j by omega,ih]
theorem vb {t:TypeId} {s m i:Nat} {ex:Bool} {τ:Nat→Nat} {S:List (List α)} {xs:List α} (hm:m=S.length) (h:S[i]?=some xs):RSub (.lits t 1 m ex (chB s τ 0 S)) [.idx i 1] (.own (τ i) 0 xs.length s none):=by
 subst hm
 refine⟨rfl,(List.getElem?_eq_some_iff.1 h).1,?_⟩
 rw[sw S 0 i xs h,Nat.zero_add]
 rfl
theorem va {t:TypeId} {s m i:Nat} {ex:Bool} {τ τ':Nat→Nat} {S:List (List α)} {xs ys:List α} {k len:Nat} (hm:m=S.length) (h:S[i]?=some xs) (hk:τ' i=k) (hl:ys.length=len) (hτ:∀j,j<S.length→j≠i→τ' j=τ j):RUpd (.lits t 1 m ex (chB s τ 0 S)) [.idx i 1] (.own k 0 len s none) (.lits t 1 m ex (chB s τ' 0 (S.set i ys))):=by
 subst hm
 have hi:=(List.getElem?_eq_some_iff.1 h).1
 refine⟨rfl,hi,?_⟩
 rw[sw S 0 i xs h]
 refine⟨_,⟨rfl,rfl,rfl⟩,?_⟩
 have:=tb (s:=s) (τ:=τ) (τ':=τ') S 0 i len ys hi hl (fun k hk hne=>by rw[Nat.zero_add]; exact hτ k hk hne)
 rw[Nat.zero_add,hk]at this
 rw[this]
theorem qS {s:Nat} {τ:Nat→Nat} {ρ:Nat→Option Nat}:∀(n i:Nat),(∀j,j<n→ρ (τ (i+j))=none)→(chB s τ i (List.replicate n ([]:List α))).ren ρ=dsAV (List.replicate n (.sc nil_))
 | 0,_,_=>rfl
 | n+1,i,h=>by
  have h0:=h 0 (by omega)
  simp only[Nat.add_zero]at h0
  have ih:=qS (s:=s) (τ:=τ) (ρ:=ρ) n (i+1) fun j hj=>by have:=h (j+1) (by omega); rwa [show i+(j+1)=i+1+j by omega]at this
  simp only[List.replicate_succ,chB,AV.ren,h0,dsAV,ih]
  rfl
theorem aO.nils {t:TypeId} {s n:Nat} {ex:Bool} {β:Type} {enc:β→D} {z:β} (hz:enc z=.sc nil_):aO (.ds t s ex enc (List.replicate n z)) (.lits t s n ex (dsAV (List.replicate n (.sc nil_)))):=by
 rintro σ w X r (⟨h1,h2⟩ | ⟨b,c,cur,h1,h2,h3,h4,h5,h6,f,h7,h8⟩)
 ·have:n=0:=by simpa using h2
  exact⟨lm _,.inl ⟨h1,this⟩⟩
 ·simp only[List.length_replicate]at h2 h5 h7 h8
  refine⟨lm _,.inr ⟨b,c,cur,cat f n,h1,h2,h3,h4,h5,h6,ct n fun i hi=>(h7 i hi).2,?_,h8⟩⟩
  have:=s6 (σ:=σ) (w:=w) (X:=X) (enc:=enc) (List.replicate n z) f fun i hi=>by
   have:=(h7 i (by simpa using hi)).1
   simpa using this
  rw[List.length_replicate,List.map_replicate,hz]at this
  exact this
end
def ff:Nat→Nat→bE
 | _,0=>[]
 | b,n+1=>(b,none)::ff (b+1) n
theorem rD:∀(n b i:Nat),i<n→rho (ff b n) (b+i)=none
 | 0,_,_,h=>by omega
 | n+1,b,0,_=>by simp[ff,rho]
 | n+1,b,i+1,h=>by
  have:Nat.beq b (b+(i+1))=false:=by
   cases hc:Nat.beq b (b+(i+1)) with
   | true=>have:=Nat.eq_of_beq_eq_true hc; omega
   | false=>rfl
  simp only[ff,rho,this,cond_false]
  rw[show b+(i+1)=b+1+i by omega]
  exact rD n (b+1) i (by omega)
theorem mw:∀(n b r:Nat),(r<b∨b+n≤r)→rho (ff b n) r=some r
 | 0,_,_,_=>rfl
 | n+1,b,r,h=>by
  have:Nat.beq b r=false:=by
   cases hc:Nat.beq b r with
   | true=>have:=Nat.eq_of_beq_eq_true hc; omega
   | false=>rfl
  simp only[ff,rho,this,cond_false]
  exact mw n (b+1) r (by omega)
theorem ky {bs:Nat}:∀(n b:Nat),bs≤b→cL bs (ff b n)=true
 | 0,_,_=>rfl
 | n+1,b,h=>by
  simp only[ff,cL,Nat.ble_eq_true_of_le h,cond_true]
  exact ky n (b+1) (by omega)
def ir:bE→Bool
 | []=>true
 | (r,_)::l=>bif farQ r then ir l else false
theorem lM:∀(l:bE),ir l=true→∀p∈l,p.1<1000∨10000000≤p.1
 | [],_,p,h=>by simp at h
 | (r,k)::l,h,p,hp=>by
  simp only[ir]at h
  cases hf:farQ r <;> simp only[hf,cond_true,cond_false]at h
  ·cases h
  simp only[List.mem_cons]at hp
  rcases hp with rfl | hp
  ·exact gK hf
  ·exact lM l h p hp
theorem pX:∀(l0:bE) (l:bE) (r:Nat),(∀p∈l0,p.1≠r)→rho (l0++l) r=rho l r
 | [],_,_,_=>rfl
 | (j,k)::l0,l,r,h=>by
  have:Nat.beq j r=false:=by
   cases hc:Nat.beq j r with
   | true=>exact absurd (Nat.eq_of_beq_eq_true hc) (h (j,k) List.mem_cons_self)
   | false=>rfl
  simp only[List.cons_append,rho,this,cond_false]
  exact pX l0 l r fun p hp=>h p (List.mem_cons_of_mem _ hp)
theorem oY {l0:bE} (hd:ir l0=true) (l:bE) {i:Nat} (hi:i<9000000):rho (l0++l) (1000+i)=rho l (1000+i):=
 pX l0 l _ fun p hp=>by have:=lM l0 hd p hp; omega
end Go.Eng
namespace Go.Eng
open Go.RowKit
def okn (m r:Nat):Bool:=bif farQ r then !Nat.beq r m else false
theorem dm {m r:Nat} (h:okn m r=true):(r<1000∨10000000≤r)∧r≠m:=by
 simp only[okn]at h
 cases hf:farQ r <;> simp only[hf,cond_true,cond_false]at h
 ·cases h
 exact⟨gK hf,fun e=>by subst e; rw[Nat.beq_refl]at h; cases h⟩
def AV.okm (m:Nat):AV→Bool
 | .acons a r=>bif a.okm m then r.okm m else false
 | .own r _ _ _ _=>okn m r
 | .ptr r _=>okn m r
 | .asl r _ _ _=>okn m r
 | .mapr r=>okn m r
 | .fn _ p q=>bif p.okm m then q.okm m else false
 | .tup q=>q.okm m
 | _=>true
def Row.okm (m:Nat):Row→Bool
 | .box _ a=>a.okm m
 | .lits _ _ _ _ a=>a.okm m
 | .mo a=>a.okm m
 | .mi a _ _ _=>a.okm m
 | _=>true
theorem AV.okm_ren {m:Nat} {ρ:Nat→Option Nat} (hρ:∀r,okn m r=true→ρ r=some r):∀(v:AV),v.okm m=true→v.ren ρ=v:=by
 intro v
 induction v with
 | acons a r iha ihr =>
  intro h
  simp only[AV.okm]at h
  cases ha:a.okm m <;> simp only[ha,cond_true,cond_false]at h
  ·cases h
  simp only[AV.ren,iha ha,ihr h]
 | own r=>intro h; simp only[AV.ren,hρ r h]
 | ptr r=>intro h; simp only[AV.ren,hρ r h]
 | asl r=>intro h; simp only[AV.ren,hρ r h]
 | mapr r=>intro h; simp only[AV.ren,hρ r h]
 | fn f p q ihp ihq =>
  intro h
  simp only[AV.okm]at h
  cases ha:p.okm m <;> simp only[ha,cond_true,cond_false]at h
  ·cases h
  simp only[AV.ren,ihp ha,ihq h]
 | tup q ih=>intro h; simp only[AV.ren,ih h]
 | _=>intro _; rfl
theorem Row.okm_ren {m:Nat} {ρ:Nat→Option Nat} (hρ:∀r,okn m r=true→ρ r=some r) (row:Row) (h:row.okm m=true):row.ren ρ=row:=by
 cases row with
 | box t a=>simp only[Row.ren,AV.okm_ren hρ a h]
 | lits t s k ex a=>simp only[Row.ren,AV.okm_ren hρ a h]
 | mo a=>simp only[Row.ren,AV.okm_ren hρ a h]
 | mi a=>simp only[Row.ren,AV.okm_ren hρ a h]
 | _=>rfl
theorem qm {κ ν:Type} {enc:κ→D} {encV:ν→D} {m:Nat}:∀(l:List (κ×ν)),(mapC enc (asC encV l)).okm m=true
 | []=>rfl
 | (k,v)::l=>by
  have:=qm (enc:=enc) (encV:=encV) (m:=m) l
  simp only[asC,List.map_cons,mapC,AV.okm,cond_true]at this ⊢
  exact this
def jU (m:Nat) (env0:Env) (n:Nat):Env→Prop
 | []=>True
 | (i,v)::l=>lk env0 i=some v∧v.lt n=true∧v.okm m=true∧jU m env0 n l
def dZ (m:Nat) (h0:Upds) (n:Nat):Upds→Prop
 | []=>True
 | (r,row)::l=>okn m r=true∧(match row with
   | none=>True
   | some row=>Nat.blt r n=true∧row.lt n=true∧row.okm m=true∧aT h0 r=some row)∧dZ m h0 n l
theorem jU.le {m n:Nat} {env0:Env} {ρ:Nat→Option Nat} (hρ:∀r,okn m r=true→ρ r=some r):∀(env:Env),jU m env0 n env→iO ρ env0 n env
 | [],_=>trivial
 | (i,v)::l,⟨h1,h2,h3,h4⟩=>⟨⟨v,h1,AVLe.of_eq (AV.okm_ren hρ v h3).symm⟩,h2,jU.le hρ l h4⟩
theorem dZ.le {m n:Nat} {st:St} {ρ:Nat→Option Nat} (hρ:∀r,okn m r=true→ρ r=some r):∀(h:Upds),dZ m st.heap n h→fu ρ st n h
 | [],_=>trivial
 | (r,none)::l,⟨_,_,h3⟩=>⟨trivial,dZ.le hρ l h3⟩
 | (r,some row)::l,⟨h1,⟨h2,h3,h4,h5⟩,h6⟩=>⟨⟨h2,h3,by rw[hρ r h1]; exact⟨row,by rw[←bc]; exact h5,aO.of_eq (Row.okm_ren hρ row h4).symm⟩⟩,dZ.le hρ l h6⟩
theorem dZ.keys {m n:Nat} {h0:Upds}:∀(h:Upds),dZ m h0 n h→∀r∈aX h,okn m r=true
 | [],_,r,hr=>by simp[aX]at hr
 | (a,x)::l,⟨h1,_,h3⟩,r,hr=>by
  simp only[aX,List.mem_cons]at hr
  rcases hr with rfl | hr
  ·exact h1
  ·exact dZ.keys l h3 r hr
theorem ig:∀(l:Upds),(∀r∈aX l,farQ r=true)→ii l=true
 | [],_=>rfl
 | (a,x)::l,h=>by
  simp only[ii]
  rw[h a (by simp[aX]),cond_true]
  exact ig l fun r hr=>h r (by simp[aX,hr])
theorem pw {a:Nat} (h:a<1000∨10000000≤a):farQ a=true:=by
 unfold farQ
 rcases h with h | h
 ·rw[show Nat.blt a 1000=true from Nat.ble_eq_true_of_le h]; rfl
 ·rw[Nat.ble_eq_true_of_le h]; cases Nat.blt a 1000 <;> rfl
theorem j9:∀(B:Upds) (R:List Row) (i:Nat) (row:Row),i<9000000→(∀r∈aX B,r<1000∨10000000≤r)→R[i]?=some row→aT (B++bU 1000 R) (1000+i)=some row
 | [],R,i,row,_,_,h=>cT h
 | (a,x)::B,R,i,row,hi,hf,h=>by
  have:=hf a (by simp[aX])
  exact ob (by omega) (j9 B R i row hi (fun r hr=>hf r (by simp[aX,hr])) h)
theorem farl {a i:Nat} {y:Option Row} {l:Upds} {x:Option Row} (ha:farQ a=true) (hi:i<9000000) (h:aT l (1000+i)=x):aT ((a,y)::l) (1000+i)=x:=by
 have:=gK ha
 exact ob (by omega) h
section
variable {P : Program} {sz n : Nat} {env : Env} {Q : Exit → St → Prop} {c : Code} {α : Type} {t tt s : Nat} {ex : Bool} {enc : α → D} {S : List (List α)}
theorem Le.stayL {l0:bE} {st:St} {env':Env} {h':Upds} {n' sz' bs':Nat} (hsz:sz'=st.sz) (hbs:bs'=st.bs) (hnx:Nat.ble bs' n'=true) (hn':Nat.ble 10000000 n'=true)
  (hnm:cL bs' l0=true) (hkf:ii h'=true) (hinj:ep (rho l0) (aX h')=true) (hdom:ir l0=true) (him:∀r∈aX h',∀k,rho l0 r=some k→k<1000∨10000000≤k) (hR:S.length≤9000000)
  (henv:iO (rho l0) st.env n' env') (hrows:fu (rho l0) st n' h')
  (hlk:∀i row,(eM t s enc S)[i]?=some row→aT st.heap (1000+i)=some row) :
  Le l0 st ⟨env',h'++bU 1000 (eM t s enc S),n',sz',bs'⟩:=by
 refine Le.list (fun i=>some (1000+i)) hsz hbs hnx hn' hnm hkf hinj (by rw[b6]; exact hR) (fun i hi=>?_) (fun i i' k _ _ h1 h2=>by simp only[Option.some.injEq]at h1 h2; omega) (fun i k hi h1 r hr h2=>by cases h1; rw[b6]at hi; have:=him r hr _ h2; omega) henv hrows (fun i row hr=>?_)
 ·rw[b6]at hi
  have:=oY hdom [] (i:=i) (by omega)
  rw[List.append_nil]at this
  exact this
 ·have hlt:=(List.getElem?_eq_some_iff.1 hr).1
  have h2:=hlk i row hr
  rw[fb]at hr
  cases hc:S[i]? with
  | none=>rw[hc]at hr; cases hr
  | some xs =>
   rw[hc]at hr
   cases hr
   exact⟨rfl,_,by rw[←bc]; exact h2,aO.refl _⟩
theorem cM {l0:bE} {h':Upds} (h:(aX h').all (fun r=>match rho l0 r with | some k=>farQ k | none=>true)=true):∀r∈aX h',∀k,rho l0 r=some k→k<1000∨10000000≤k:=fun r hr k hk=>by
 have:=List.all_eq_true.1 h r hr
 simp only[hk]at this
 exact gK this
theorem db {l0:bE} {τ τ':Nat→Nat} {m:Nat} (h:∀i,i<S.length→rho l0 (τ' i)=some (τ i)):aO (.lits tt 1 m ex (chB s τ 0 S)) ((Row.lits tt 1 m ex (chB s τ' 0 S)).ren (rho l0)):=by
 refine aO.of_eq ?_
 simp only[Row.ren]
 rw[l8 (τ':=τ) S 0 fun j hj=>by rw[Nat.zero_add]; exact h j hj]
theorem gW {l0:bE} (hdom:ir l0=true) (hS:S.length≤9000000):∀i,i<S.length→rho l0 ((fun i=>1000+i) i)=some ((fun i=>1000+i) i):=fun i hi=>by
 have:=oY hdom [] (i:=i) (by omega)
 rw[List.append_nil]at this
 exact this
theorem ju {l0:bE} {j m N:Nat} (hdom:ir l0=true) (hS:S.length≤9000000) (hm:rho l0 m=some N):∀i,i<S.length→rho l0 (cE j m i)=some (cE j N i):=fun i hi=>by
 unfold cE
 split
 ·exact hm
 ·have:=oY hdom [] (i:=i) (by omega)
  rw[List.append_nil]at this
  exact this
theorem Le.openL (A:Upds) (j m r0 n0:Nat) (xs:List α) (hS:S[j]?=some xs) (hl:S.length≤9000000) (hm:Nat.ble 64 m=true) (hmf:farQ m=true) (hmn:Nat.blt m n=true) (hr:okn m r0=true) (hrn:Nat.blt r0 n=true) (hn:Nat.ble 10000000 n=true)
  (he:jU m env n env) (hA:dZ m ((r0,some (.lits tt 1 n0 ex (chB s (fun i=>1000+i) 0 S)))::A++bU 1000 (eM t s enc S)) n A)
  :
  Le [(m,some (1000+j)),(1000+j,none)] ⟨env,((r0,some (.lits tt 1 n0 ex (chB s (fun i=>1000+i) 0 S)))::A++bU 1000 (eM t s enc S)),n,sz,64⟩ ⟨env,((m,some (.ds t s false enc xs))::(r0,some (.lits tt 1 n0 ex (chB s (cE j m) 0 S)))::A++bU 1000 (eM t s enc (S.set j []))),n,sz,64⟩:=by
 have hjl:=(List.getElem?_eq_some_iff.1 hS).1
 have hm2:=Nat.le_of_ble_eq_true hm
 have hn2:=Nat.le_of_ble_eq_true hn
 have hmf2:=gK hmf
 obtain⟨hr1,hr2⟩:=dm hr
 have hρ:∀r,okn m r=true→rho [(m,some (1000+j)),(1000+j,none)] r=some r:=fun r h=>by
  obtain⟨h1,h2⟩:=dm h
  have e1:Nat.beq m r=false:=by
   cases hc:Nat.beq m r with
   | true=>exact absurd (Nat.eq_of_beq_eq_true hc).symm h2
   | false=>rfl
  have e2:Nat.beq (1000+j) r=false:=by
   cases hc:Nat.beq (1000+j) r with
   | true=>have:=Nat.eq_of_beq_eq_true hc; omega
   | false=>rfl
  simp[rho,e1,e2]
 have hρm:rho [(m,some (1000+j)),(1000+j,none)] m=some (1000+j):=by simp[rho,Nat.beq_refl]
 have hρl:∀i,i<S.length→rho [(m,some (1000+j)),(1000+j,none)] (1000+i)=if i=j then none else some (1000+i):=fun i hi=>by
  have e1:Nat.beq m (1000+i)=false:=by
   cases hc:Nat.beq m (1000+i) with
   | true=>have:=Nat.eq_of_beq_eq_true hc; omega
   | false=>rfl
  by_cases h:i=j
  ·subst h; simp[rho,e1,Nat.beq_refl]
  ·have e2:Nat.beq (1000+j) (1000+i)=false:=by
    cases hc:Nat.beq (1000+j) (1000+i) with
    | true=>have:=Nat.eq_of_beq_eq_true hc; omega
    | false=>rfl
   simp[rho,e1,e2,h]
 have hkA:=dZ.keys A hA
 have hkall:∀r∈aX ((m,some (.ds t s false enc xs))::(r0,some (.lits tt 1 n0 ex (chB s (cE j m) 0 S)))::A),r=m∨okn m r=true:=fun r hr'=>by
  simp only[aX,List.mem_cons]at hr'
  rcases hr' with rfl | rfl | hr'
  ·exact .inl rfl
  ·exact .inr hr
  ·exact .inr (hkA r hr')
 have hlk:∀i row,(eM t s enc S)[i]?=some row→aT ((r0,some (.lits tt 1 n0 ex (chB s (fun i=>1000+i) 0 S)))::A++bU 1000 (eM t s enc S)) (1000+i)=some row:=fun i row h=>by
  have hi:=(List.getElem?_eq_some_iff.1 h).1
  rw[b6]at hi
  refine j9 _ _ i row (by omega) (fun r hr'=>?_) h
  simp only[aX,List.mem_cons]at hr'
  rcases hr' with rfl | hr'
  ·exact hr1
  ·exact (dm (hkA r hr')).1
 refine (Le.list (h':=(m,some (.ds t s false enc xs))::(r0,some (.lits tt 1 n0 ex (chB s (cE j m) 0 S)))::A) (fun i=>if i=j then none else some (1000+i)) rfl rfl (Nat.ble_eq_true_of_le (by omega)) hn ?_ (ig _ fun r hr'=>?_) (jg _ fun a b k ha hb h1 h2=>?_) (by rw[b6,List.length_set]; exact hl) (fun i hi=>hρl i (by rw[b6,List.length_set]at hi; exact hi)) (fun i i' k _ _ h1 h2=>?_) (fun i k hi h1 r hr' h2=>?_) (jU.le hρ _ he) ⟨⟨hmn,rfl,?_⟩,⟨hrn,?_,?_⟩,dZ.le hρ A hA⟩ (fun i row hrow=>?_))
 ·simp only[cL,hm,cond_true]
  rw[Nat.ble_eq_true_of_le (by omega:64≤1000+j)]; rfl
 ·rcases hkall r hr' with rfl | h
  ·exact hmf
  ·exact pw (dm h).1
 ·rcases hkall a ha with rfl | h3 <;> rcases hkall b hb with rfl | h4
  ·rfl
  ·rw[hρm]at h1
   rw[hρ b h4]at h2
   cases h1
   cases h2
   have:=(dm h4).1; omega
  ·rw[hρm]at h2
   rw[hρ a h3]at h1
   cases h1
   cases h2
   have:=(dm h3).1; omega
  ·rw[hρ a h3]at h1
   rw[hρ b h4]at h2
   cases h1
   cases h2
   rfl
 ·split at h1
  ·cases h1
  ·split at h2
   ·cases h2
   ·simp only[Option.some.injEq]at h1 h2; omega
 ·rw[b6,List.length_set]at hi
  split at h1
  ·cases h1
  ·rename_i hne
   cases h1
   rcases hkall r hr' with rfl | h
   ·rw[hρm]at h2; simp only[Option.some.injEq]at h2; omega
   ·rw[hρ r h]at h2
    cases h2
    have:=(dm h).1; omega
 ·rw[hρm]
  exact⟨_,by rw[←bc]; exact hlk j _ (by rw[fb,hS]; rfl),aO.refl _⟩
 ·have:=Nat.le_of_ble_eq_true hmn
  refine lu S 0 fun i hi=>?_
  rw[Nat.zero_add]
  unfold cE
  split <;> omega
 ·rw[hρ r0 hr]
  refine⟨.lits tt 1 n0 ex (chB s (fun i=>1000+i) 0 S),by rw[←bc]; simp only[aT,List.cons_append,aM,if_pos],aO.of_eq ?_⟩
  simp only[Row.ren]
  rw[l8 (τ':=fun i=>1000+i) S 0 fun i hi=>?_]
  rw[Nat.zero_add]
  unfold cE
  split
  ·rename_i e; subst e; exact hρm
  ·rename_i e; rw[hρl i hi,if_neg e]
 ·have hi:=(List.getElem?_eq_some_iff.1 hrow).1
  rw[fb]at hrow
  rw[b6,List.length_set]at hi
  by_cases h:i=j
  ·subst h
   rw[List.getElem?_set_self hjl]at hrow
   cases hrow
   refine⟨rfl,?_⟩
   rw[if_pos rfl]
   exact rfl
  ·rw[List.getElem?_set_ne (Ne.symm h)]at hrow
   cases hc:S[i]? with
   | none=>rw[hc]at hrow; cases hrow
   | some ys =>
    rw[hc]at hrow
    cases hrow
    refine⟨rfl,?_⟩
    rw[if_neg h]
    exact⟨_,by rw[←bc]; exact hlk i _ (by rw[fb,hc]; rfl),aO.refl _⟩
theorem Le.closeL (A:Upds) (j N r0 n0:Nat) (ys:List α) (hS:S[j]?=some ys) (hl:S.length≤9000000) (hNf:farQ N=true) (hr:okn N r0=true) (hrn:Nat.blt r0 n=true) (hn:Nat.ble 10000000 n=true)
  (he:jU N env n env) (hA:dZ N ((N,some (.ds t s false enc ys))::(r0,some (.lits tt 1 n0 ex (chB s (cE j N) 0 S)))::A++bU 1000 (eM t s enc (S.set j []))) n A)
  :
  Le [(1000+j,some N)] ⟨env,((N,some (.ds t s false enc ys))::(r0,some (.lits tt 1 n0 ex (chB s (cE j N) 0 S)))::A++bU 1000 (eM t s enc (S.set j []))),n,sz,64⟩ ⟨env,((r0,some (.lits tt 1 n0 ex (chB s (fun i=>1000+i) 0 S)))::A++bU 1000 (eM t s enc S)),n,sz,64⟩:=by
 have hjl:=(List.getElem?_eq_some_iff.1 hS).1
 have hn2:=Nat.le_of_ble_eq_true hn
 have hNf2:=gK hNf
 obtain⟨hr1,hr2⟩:=dm hr
 have hρ:∀r,okn N r=true→rho [(1000+j,some N)] r=some r:=fun r h=>by
  obtain⟨h1,h2⟩:=dm h
  have e2:Nat.beq (1000+j) r=false:=by
   cases hc:Nat.beq (1000+j) r with
   | true=>have:=Nat.eq_of_beq_eq_true hc; omega
   | false=>rfl
  simp[rho,e2]
 have hρl:∀i,i<S.length→rho [(1000+j,some N)] (1000+i)=some (cE j N i):=fun i hi=>by
  unfold cE
  by_cases h:i=j
  ·subst h; simp[rho,Nat.beq_refl]
  ·have e2:Nat.beq (1000+j) (1000+i)=false:=by
    cases hc:Nat.beq (1000+j) (1000+i) with
    | true=>have:=Nat.eq_of_beq_eq_true hc; omega
    | false=>rfl
   simp[rho,e2,h]
 have hkA:=dZ.keys A hA
 have hlk:∀i row,(eM t s enc (S.set j []))[i]?=some row→aT ((N,some (.ds t s false enc ys))::(r0,some (.lits tt 1 n0 ex (chB s (cE j N) 0 S)))::A++bU 1000 (eM t s enc (S.set j []))) (1000+i)=some row:=fun i row h=>by
  have hi:=(List.getElem?_eq_some_iff.1 h).1
  rw[b6,List.length_set]at hi
  refine j9 _ _ i row (by omega) (fun r hr'=>?_) h
  simp only[aX,List.mem_cons]at hr'
  rcases hr' with rfl | rfl | hr'
  ·exact hNf2
  ·exact hr1
  ·exact (dm (hkA r hr')).1
 have hkall:∀r∈aX ((r0,some (.lits tt 1 n0 ex (chB s (fun i=>1000+i) 0 S)))::A),okn N r=true:=fun r hr'=>by
  simp only[aX,List.mem_cons]at hr'
  rcases hr' with rfl | hr'
  ·exact hr
  ·exact hkA r hr'
 refine (Le.list (h':=(r0,some (.lits tt 1 n0 ex (chB s (fun i=>1000+i) 0 S)))::A) (fun i=>some (cE j N i)) rfl rfl (Nat.ble_eq_true_of_le (by omega)) hn ?_ (ig _ fun r hr'=>?_) (jg _ fun a b k ha hb h1 h2=>?_) (by rw[b6]; exact hl) (fun i hi=>hρl i (by rw[b6]at hi; exact hi)) (fun i i' k hi hi' h1 h2=>?_) (fun i k hi h1 r hr' h2=>?_) (jU.le hρ _ he) ⟨⟨hrn,?_,?_⟩,dZ.le hρ A hA⟩ (fun i row hrow=>?_))
 ·simp only[cL]
  rw[Nat.ble_eq_true_of_le (by omega:64≤1000+j)]; rfl
 ·exact pw (dm (hkall r hr')).1
 ·rw[hρ a (hkall a ha)]at h1
  rw[hρ b (hkall b hb)]at h2
  cases h1
  cases h2
  rfl
 ·rw[b6]at hi hi'
  cases h1
  simp only[Option.some.injEq]at h2
  unfold cE at h2
  split at h2 <;> split at h2 <;> omega
 ·rw[b6]at hi
  cases h1
  have h3:=hkall r hr'
  rw[hρ r h3]at h2
  simp only[Option.some.injEq]at h2
  obtain⟨h4,h5⟩:=dm h3
  unfold cE at h2
  split at h2
  ·exact h5 h2
  ·omega
 ·refine lu S 0 fun i hi=>?_
  omega
 ·rw[hρ r0 hr]
  refine⟨.lits tt 1 n0 ex (chB s (cE j N) 0 S),?_,aO.of_eq ?_⟩
  ·rw[←bc]
   simp only[aT,List.cons_append,aM]
   rw[if_neg (Ne.symm hr2)]
   simp
  ·simp only[Row.ren]
   rw[l8 (τ':=cE j N) S 0 fun i hi=>by rw[Nat.zero_add]; exact hρl i hi]
 ·have hi:=(List.getElem?_eq_some_iff.1 hrow).1
  rw[fb]at hrow
  rw[b6]at hi
  cases hc:S[i]? with
  | none=>rw[hc]at hrow; cases hrow
  | some zs =>
   rw[hc]at hrow
   cases hrow
   refine⟨rfl,?_⟩
   by_cases h:i=j
   ·subst h
    rw[hS]at hc
    cases hc
    refine⟨.ds t s false enc ys,?_,aO.refl _⟩
    rw[jA,←bc]
    simp only[aT,List.cons_append,aM,if_pos]
   ·refine⟨.ds t s false enc zs,?_,aO.refl _⟩
    rw[lb h,←bc]
    exact hlk i _ (by rw[fb,List.getElem?_set_ne (Ne.symm h),hc]; rfl)
theorem Le.nilsL (A:Upds) (r0 k:Nat) (hk:k≤9000000) (hr:okn 999 r0=true) (hrn:Nat.blt r0 n=true) (hn:Nat.ble 10000000 n=true)
  (he:jU 999 env n env) (hA:dZ 999 ((r0,some (.lits tt 1 k ex (dsAV (List.replicate k (.sc nil_)))))::A) n A)
  :
  Le (ff 1000 k) ⟨env,((r0,some (.lits tt 1 k ex (dsAV (List.replicate k (.sc nil_)))))::A),n,sz,64⟩ ⟨env,((r0,some (.lits tt 1 k ex (chB s (fun i=>1000+i) 0 (List.replicate k ([]:List α)))))::A++bU 1000 (eM t s enc (List.replicate k []))),n,sz,64⟩:=by
 have hn2:=Nat.le_of_ble_eq_true hn
 obtain⟨hr1,hr2⟩:=dm hr
 have hρ:∀r,okn 999 r=true→rho (ff 1000 k) r=some r:=fun r h=>by
  obtain⟨h1,h2⟩:=dm h
  exact mw k 1000 r (by omega)
 have hkA:=dZ.keys A hA
 have hkall:∀r∈aX ((r0,some (.lits tt 1 k ex (chB s (fun i=>1000+i) 0 (List.replicate k ([]:List α)))))::A),okn 999 r=true:=fun r hr'=>by
  simp only[aX,List.mem_cons]at hr'
  rcases hr' with rfl | hr'
  ·exact hr
  ·exact hkA r hr'
 refine (Le.list (h':=(r0,some (.lits tt 1 k ex (chB s (fun i=>1000+i) 0 (List.replicate k ([]:List α)))))::A) (fun _=>none) rfl rfl (Nat.ble_eq_true_of_le (by omega)) hn (ky _ _ (by decide)) (ig _ fun r hr'=>pw (dm (hkall r hr')).1) (jg _ fun a b k ha hb h1 h2=>?_) (by rw[b6,List.length_replicate]; exact hk) (fun i hi=>by rw[b6,List.length_replicate]at hi; exact rD k 1000 i hi) (fun i i' k _ _ h1=>by cases h1) (fun i k hi h1=>by cases h1) (jU.le hρ _ he) ⟨⟨hrn,?_,?_⟩,dZ.le hρ A hA⟩ (fun i row hrow=>?_))
 ·rw[hρ a (hkall a ha)]at h1
  rw[hρ b (hkall b hb)]at h2
  cases h1
  cases h2
  rfl
 ·refine lu _ 0 fun i hi=>?_
  rw[List.length_replicate]at hi
  omega
 ·rw[hρ r0 hr]
  refine⟨.lits tt 1 k ex (dsAV (List.replicate k (.sc nil_))),?_,aO.of_eq ?_⟩
  ·rw[←bc]
   simp only[aT,aM,if_pos]
  ·simp only[Row.ren]
   rw[qS k 0 fun i hi=>by rw[Nat.zero_add]; exact rD k 1000 i hi]
 ·rw[fb]at hrow
  cases hc:(List.replicate k ([]:List α))[i]? with
  | none=>rw[hc]at hrow; cases hrow
  | some zs =>
   rw[hc]at hrow
   cases hrow
   have:zs=[]:=(List.mem_replicate.1 (List.mem_of_getElem? hc)).2
   subst this
   exact⟨rfl,rfl⟩
end
end Go.Eng
namespace Go.Proofs.Ytkehohfgbblokaa
open Go.Eng Go.Plain
set_option maxHeartbeats 32000000
set_option maxRecDepth 20000
attribute [local irreducible] WC RegS RegD SeqQ BlkQ ScoQ RegK CutK Sat SatN FnIs LoopQ aj OpIs
theorem df {α:Type} {t s:Nat} {enc:α→D} {S:List (List α)} {i:Nat} {row:Row} (h:(eM t s enc S)[i]?=some row):i<S.length:=by
 have:=(List.getElem?_eq_some_iff.1 h).1
 rwa [b6]at this
theorem iv {α:Type} {B:List (List α)} {t m n:Nat} {ex:Bool} (h:B.length≤9000000) (hn:10000000≤n):(Row.lits t 1 m ex (chB 1 (fun i=>1000+i) 0 B)).lt n=true :=
 lu B 0 fun i hi=>by omega
theorem gS {α:Type} {B:List (List α)} {t m n j N:Nat} {ex:Bool} (h:B.length≤9000000) (hn:10000000≤n) (hN:N<n):(Row.lits t 1 m ex (chB 1 (cE j N) 0 B)).lt n=true :=
 lu B 0 fun i hi=>by rw[Nat.zero_add]; unfold cE; split <;> omega
theorem nK {α:Type} {t s m i k:Nat} {ex:Bool} {τ:Nat→Nat} {S:List (List α)} {xs:List α} (hm:m=S.length) (h:S[i]?=some xs) (hk:τ i=k):RSub (.lits t 1 m ex (chB s τ 0 S)) [.idx i 1] (.own k 0 xs.length s none):=hk ▸ vb hm h
abbrev gA (l:List HOp) (b e:Int) (p:Prep) (sp:List (List aI)) (q:QS) (out:List Bool) (opn:List Int) (ext:List (Nat×Row)):List (Nat×Row):=[(65,.ds 4 1 true dK out),(67,zRow opn)]++ext++bZ l b e p sp q 9
abbrev gC (n:Nat) (B:List (List Int)) (A:List (Nat×Row)):Upds:=(66,some (.lits 39 1 n true (chB 1 (fun i=>1000+i) 0 B)))::aB A++Go.Eng.bU 1000 (eM 3 1 i6 B)
abbrev gO (n:Nat) (B:List (List Int)) (j m:Nat) (xs:List Int) (A:List (Nat×Row)):Upds:=(m,some (.ds 3 1 false i6 xs))::(66,some (.lits 39 1 n true (chB 1 (cE j m) 0 B)))::aB A++Go.Eng.bU 1000 (eM 3 1 i6 (B.set j []))
abbrev gE1 (n i:Nat) (opn:List Int):Env:=[(30,.int .i64 i),(29,.int .i64 n),(28,.own 9 0 n 4 none),(0,.ptr 0 []),(3,.own 65 0 n 1 none),(4,.own 66 0 n 1 none),(5,.own 67 0 opn.length 1 none)]
abbrev gE2 (n i j:Nat) (ys:List aI) (opn:List Int):Env:=[(43,.int .i64 j),(42,.int .i64 ys.length),(41,.d (cr ys)),(6,.int .i64 i),(7,.ptr 68 [])]++gE1 n i opn
abbrev gE3 (n:Nat) (opn:List Int):Env:=[(0,.ptr 0 []),(3,.own 65 0 n 1 none),(4,.own 66 0 n 1 none),(5,.own 67 0 opn.length 1 none)]
abbrev gE4 (n j:Nat) (bk:List Int) (opn:List Int):Env:=[(100,.int .i64 j),(99,.int .i64 bk.length),(98,.own 69 0 bk.length 1 none)]++gE3 n opn
theorem vZ (l:List HOp) (b:Int) (e:Nat) (p:Prep) (sp:List (List aI)) (q:QS) (P:POk l e p) (hS:∀y∈q.2,SOk p e y) (he:e≤1048576) (hsp:SpOk q.2 sp) (hN:q.2.length≤1048576) (h0:0<q.2.length) (hT:totS sp+1≤67108864):FnIs Try.prog 72 [.ptr 0 []] (bZ l b e p sp q 9) (.own 64 0 q.2.length 1 none) ((64,.ds 4 1 true dK (dJ p l e q.2 sp))::bZ l b e p sp q 9):=by
 obtain⟨n,hn⟩:∃n,n=q.2.length:=⟨_,rfl⟩
 have hwe:IntKind.i64.wrap ((e:Int)-1)=(e:Int)-1:=bp (by omega) (by omega)
 refine aG aa Try.func72 rfl rfl rfl ?_;refine sR<|rC<|nR ?_;refine zU ?_;refine rQ iM ?_;refine rQ (bz aa rfl rfl) ?_;refine bt (dz (s:=1) (enc:=dK) (N:=q.2.length) aa false rfl rfl rfl rfl rfl rfl rfl hN rfl) rfl ?_;refine rC<|nR ?_;refine zU ?_;refine rQ iM ?_;refine rQ (bz aa rfl rfl) ?_;refine bt (dz (s:=1) (enc:=fun _:Unit=>.sc nil_) (N:=q.2.length) aa () rfl rfl rfl rfl rfl rfl rfl hN rfl) rfl ?_;refine rC<|nR ?_;refine rC<|zW ?_;refine zU ?_;refine rQ iM ?_;refine rQ (bz aa rfl rfl) ?_;refine rC<|zP ?_
 refine fO 10000000 [(65,some 112),(66,some 168),(67,none)] (env':=gE1 q.2.length 0 []) (h':=(66,some (.lits 39 1 q.2.length true (dsAV (List.replicate q.2.length (.sc nil_)))))::aB (gA l b e p sp q (List.replicate q.2.length false) [] []))
  (lg zf ⟨⟨rfl,s7 _,_,rfl,(by simp only[Row.ren,qN]; exact aO.nils rfl)⟩,zR,⟨rfl,rfl,rfl⟩,zR,zM,zM,zR,zM,zM,zM,zM,zM,zR,zR,trivial⟩) ?_
 refine fO 10000000 _ (Le.nilsL (s:=1) (t:=3) (enc:=i6) (aB (gA l b e p sp q (List.replicate q.2.length false) [] [])) 66 q.2.length (by omega) rfl rfl rfl ⟨rfl,rfl,rfl,rfl,rfl,rfl,rfl,rfl,rfl,rfl,rfl,rfl,rfl,rfl,rfl,rfl,rfl,rfl,rfl,rfl,rfl,trivial⟩ ⟨rfl,⟨rfl,rfl,rfl,rfl⟩,rfl,⟨rfl,rfl,rfl,rfl⟩,rfl,⟨rfl,rfl,rfl,rfl⟩,rfl,zK,rfl,zK,rfl,⟨rfl,rfl,rfl,rfl⟩,rfl,zK,rfl,zK,rfl,zK,rfl,zK,rfl,zK,rfl,⟨rfl,rfl,rfl,rfl⟩,rfl,⟨rfl,rfl,rfl,rfl⟩,trivial⟩) ?_
 refine wc_inv (fun s:Nat×GSt=>⟨gE1 q.2.length s.1 s.2.opn,gC q.2.length s.2.B (gA l b e p sp q s.2.out s.2.opn []),10000000,Try.f72.ntmps,64⟩) (fun s=>s.1≤n∧s.2=gdA p l e q.2 sp s.1∧BOk n (totS (sp.take s.1)) s.2.B∧OOk n s.2.out s.2.opn∧∀j,s.1≤j→j<n→s.2.out[j]?=some false) (fun s=>n-s.1) (0,gd0 q.2.length) [] ⟨Nat.zero_le _,rfl,⟨by simp[gd0,hn],fun b hb=>by rw[(List.mem_replicate.1 hb).2]; exact⟨Nat.zero_le _,fun k hk=>by cases hk⟩⟩,⟨by simp[gd0,hn],(fun k hk=>by cases hk),by show 0+cntF (List.replicate _ _)≤n; rw[qQ]; omega⟩,fun j _ hj=>by show (List.replicate _ _)[j]?=_; rw[List.getElem?_replicate,if_pos (by omega)]⟩
  (Le.stayL rfl rfl rfl rfl rfl rfl rfl rfl (cM rfl) (show (List.replicate q.2.length ([]:List Int)).length≤9000000 by rw[List.length_replicate]; omega) zf ⟨⟨rfl,iv (show (List.replicate q.2.length ([]:List Int)).length≤9000000 by rw[List.length_replicate]; omega) (by decide),_,rfl,db (gW rfl (show (List.replicate q.2.length ([]:List Int)).length≤9000000 by rw[List.length_replicate]; omega))⟩,zR,zR,zR,zM,zM,zR,zM,zM,zM,zM,zM,zR,zR,trivial⟩ (fun i9 row hr=>by have hi9:=df hr; have hi8:=(show (List.replicate q.2.length ([]:List Int)).length≤9000000 by rw[List.length_replicate]; omega); repeat (first | exact cT hr | refine farl rfl (Nat.lt_of_lt_of_le hi9 hi8) ?_))) ?_
 rintro⟨i,g⟩ ⟨hi,hg,hB,hO,hfr⟩
 simp only at hi hg hB hO hfr
 refine cf ?_
 show WC _ _ _ _ (gE1 q.2.length i g.opn) (gC q.2.length g.B (gA l b e p sp q g.out g.opn [])) _
 have hBl:g.B.length≤9000000:=by rw[hB.bl]; omega
 by_cases hlt:i<n
 ·have d1:decide ((i:Int)<(q.2.length:Int))=true:=dT (by omega)
  obtain⟨x,hx0⟩:∃x,q.2[i]?=some x:=⟨_,List.getElem?_eq_getElem (by omega)⟩
  have hx:q.2[((i:Int)).toNat]?=some x:=by rw[Int.toNat_natCast]; exact hx0
  obtain⟨ys,hys0⟩:∃ys,sp[i]?=some ys:=⟨_,List.getElem?_eq_getElem (by rw[hsp.len]; omega)⟩
  have hys:sp[((i:Int)).toNat]?=some ys:=by rw[Int.toNat_natCast]; exact hys0
  have hspl:i<sp.length:=by rw[hsp.len]; omega
  have hto:=hsp.to ys (List.mem_of_getElem? hys0)
  have htt:=kX hys0
  have htl:=lX sp (i+1)
  have hxS:=hS x (List.mem_of_getElem? hx0)
  have hfu:=nb l b e p sp q x P hxS
  have hstn:stN q.2 (i:Int)=x:=by rw[stN,hx]; rfl
  have hspn:spN sp (i:Int)=ys:=by rw[spN,hys]; rfl
  refine sR<|rC<|nQ ?_;refine wT<|zQ<|zS ?_;refine rC ?_;refine rQ (aP aa rfl rfl rfl rfl rfl (by omega) (by omega)) ?_;refine rQ (bf (v :=.d (bR x)) aa rfl rfl ⟨rfl,x,hx,bR x,rfl,rfl⟩ rfl) ?_;refine rN ?_;refine rC ?_;refine rW<|zW ?_;refine zU ?_;refine rQ iM ?_;refine rC ?_;refine rQ (aP aa rfl rfl rfl rfl rfl (by omega) (by omega)) ?_;refine rQ (bf (v :=.d (cr ys)) aa rfl rfl ⟨rfl,ys,hys,cr ys,rfl,rfl⟩ rfl) ?_;refine rQ iE ?_;refine rC<|zP ?_
  refine wc_inv (fun s:Nat×List (List Int)=>⟨gE2 q.2.length i s.1 ys g.opn,gC q.2.length s.2 (gA l b e p sp q g.out g.opn [(68,.box 141 (.d (bR x)))]),10000000,Try.f72.ntmps,64⟩) (fun s=>s.1≤ys.length∧s.2=(ys.take s.1).foldl (bkF i) g.B∧BOk n (totS (sp.take i)+s.1) s.2) (fun s=>ys.length-s.1) (0,g.B) [(65,some 65),(66,some 66),(67,some 67),(68,some 10000032)] ⟨Nat.zero_le _,rfl,hB⟩
   (Le.stayL rfl rfl rfl rfl rfl rfl rfl rfl (cM rfl) hBl za ⟨⟨rfl,iv hBl (by decide),_,rfl,db (gW rfl hBl)⟩,zR,zR,zR,zR,zM,zM,zR,zM,zM,zM,zM,zM,zR,zR,trivial⟩ (fun i9 row hr=>by have hi9:=df hr; have hi8:=hBl; repeat (first | exact cT hr | refine farl rfl (Nat.lt_of_lt_of_le hi9 hi8) ?_))) ?_
  rintro⟨j,B⟩ ⟨hj,hBe,hB2⟩
  simp only at hj hBe hB2
  refine cf ?_
  show WC _ _ _ _ (gE2 q.2.length i j ys g.opn) (gC q.2.length B (gA l b e p sp q g.out g.opn [(68,.box 141 (.d (bR x)))])) _
  have hBl2:B.length≤9000000:=by rw[hB2.bl]; omega
  by_cases hjl:j<ys.length
  ·have d2:decide ((j:Int)<(ys.length:Int))=true:=dT (by omega)
   obtain⟨y,hy⟩:∃y,ys[j]?=some y:=⟨_,List.getElem?_eq_getElem hjl⟩
   have hy2:ys[((j:Int)).toNat]?=some y:=by rw[Int.toNat_natCast]; exact hy
   obtain⟨hy0,hy1⟩:=hto y (List.mem_of_getElem? hy)
   obtain⟨xs,hxs,hxl0,hxe⟩:=hB2.get (j:=y.to.toNat) (by omega)
   have hxl:xs.length+1≤134217728:=by omega
   have hBn:q.2.length=B.length:=by rw[hB2.bl]; exact hn.symm
   have hB3:=y4 hB2 hlt hy0 (by omega)
   have hbe:=nD (f:=bkF i) hy g.B
   rw[←hBe]at hbe
   rw[wC (n:=n) (c:=totS (sp.take i)+j) hxs]at hbe hB3
   have hS3:(B.set y.to.toNat (xs++[(i:Int)]))[y.to.toNat]?=some (xs++[(i:Int)]):=by rw[List.getElem?_set_self (List.getElem?_eq_some_iff.1 hxs).1]
   have hss:(B.set y.to.toNat (xs++[(i:Int)])).set y.to.toNat []=B.set y.to.toNat []:=List.set_set ..
   have hBl3:(B.set y.to.toNat (xs++[(i:Int)])).length≤9000000:=by rw[List.length_set]; exact hBl2
   have hBl4:((B.set y.to.toNat (xs++[(i:Int)])).set y.to.toNat []).length≤9000000:=by rw[List.length_set]; exact hBl3
   refine fO 10000000 _ (Le.openL (aB (gA l b e p sp q g.out g.opn [(68,.box 141 (.d (bR x)))])) y.to.toNat 69 66 q.2.length xs hxs hBl2 rfl rfl rfl rfl rfl rfl ⟨rfl,rfl,rfl,rfl,rfl,rfl,rfl,rfl,rfl,rfl,rfl,rfl,rfl,rfl,rfl,rfl,rfl,rfl,rfl,rfl,rfl,rfl,rfl,rfl,rfl,rfl,rfl,rfl,rfl,rfl,rfl,rfl,rfl,rfl,rfl,rfl,trivial⟩ ⟨rfl,⟨rfl,rfl,rfl,rfl⟩,rfl,⟨rfl,rfl,rfl,rfl⟩,rfl,⟨rfl,rfl,rfl,rfl⟩,rfl,⟨rfl,rfl,rfl,rfl⟩,rfl,zK,rfl,zK,rfl,⟨rfl,rfl,rfl,rfl⟩,rfl,zK,rfl,zK,rfl,zK,rfl,zK,rfl,zK,rfl,⟨rfl,rfl,rfl,rfl⟩,rfl,⟨rfl,rfl,rfl,rfl⟩,trivial⟩)<|sR ?_;refine rC<|nQ ?_;refine wT<|zQ<|zS ?_;refine rQ (aC aa rfl rfl rfl rfl rfl (by omega) hy2) ?_;refine rQ iL ?_;refine rN ?_;refine rW<|nS ?_;refine aw (by kernel_rfl) ?_;refine dC [4] [] ?_;refine dC [9] [] ?_;refine dQ [48] [10000024] iB ?_;refine dC [4] [] ?_;refine dC [9] [] ?_;refine dQ [51] [10000024] iB ?_;refine dQ [50,52] [] (aP aa rfl rfl rfl rfl rfl hy0 (by omega)) ?_;refine dQ [53] [66] (bf (v :=.own 69 0 xs.length 1 none) aa rfl rfl (nK hBn hxs jA) rfl) ?_;refine dC [6] [] ?_;refine da [55] [] rfl (aH aa rfl rfl rfl rfl rfl rfl rfl rfl) ?_;refine iq [54,56] [69,10000112] rfl (qX (s:=1) (enc:=i6) (xs:=xs) aa ((i:Nat):Int) rfl rfl rfl rfl rfl rfl rfl rfl rfl hxl rfl) ?_;refine dQ [47,49] [] (aP aa rfl rfl rfl rfl rfl hy0 (by omega)) ?_;refine br [58,57] [66] (aK aa rfl rfl rfl (va (τ':=cE y.to.toNat 10000120) (ys:=xs++[((i:Nat):Int)]) hBn hxs jA (by simp) (fun k _ hk=>by rw[lb hk,lb hk])) rfl) ?_;refine am (by kernel_rfl)<|zC<|ao ?_
   refine vo (env':=gE2 q.2.length i j ys g.opn) (h':=gO q.2.length (B.set y.to.toNat (xs++[(i:Int)])) y.to.toNat 69 (xs++[(i:Int)]) (gA l b e p sp q g.out g.opn [(68,.box 141 (.d (bR x)))])) [(65,some 65),(66,some 66),(67,some 67),(68,some 68),(69,some 10000120)] (Le.stayL rfl rfl rfl rfl rfl rfl rfl rfl (cM rfl) hBl4 za ⟨zR,⟨rfl,gS hBl3 (by decide) (by decide),_,rfl,db (ju rfl hBl3 (by rfl))⟩,zR,zR,zR,zR,zM,zM,zR,zM,zM,zM,zM,zM,zR,zR,trivial⟩ (fun i9 row hr=>by have hi9:=df hr; rw[hss]at hr; have hi8:=hBl4; repeat (first | exact cT hr | refine farl rfl (Nat.lt_of_lt_of_le hi9 hi8) ?_))) ?_
   refine vo _ (Le.closeL (aB (gA l b e p sp q g.out g.opn [(68,.box 141 (.d (bR x)))])) y.to.toNat 69 66 q.2.length (xs++[(i:Int)]) hS3 hBl3 rfl rfl rfl rfl ⟨rfl,rfl,rfl,rfl,rfl,rfl,rfl,rfl,rfl,rfl,rfl,rfl,rfl,rfl,rfl,rfl,rfl,rfl,rfl,rfl,rfl,rfl,rfl,rfl,rfl,rfl,rfl,rfl,rfl,rfl,rfl,rfl,rfl,rfl,rfl,rfl,trivial⟩ ⟨rfl,⟨rfl,rfl,rfl,rfl⟩,rfl,⟨rfl,rfl,rfl,rfl⟩,rfl,⟨rfl,rfl,rfl,rfl⟩,rfl,⟨rfl,rfl,rfl,rfl⟩,rfl,zK,rfl,zK,rfl,⟨rfl,rfl,rfl,rfl⟩,rfl,zK,rfl,zK,rfl,zK,rfl,zK,rfl,zK,rfl,⟨rfl,rfl,rfl,rfl⟩,rfl,⟨rfl,rfl,rfl,rfl⟩,trivial⟩) ?_;refine rQ iD ?_;refine rC<|aE ?_
   exact aU (j+1,B.set y.to.toNat (xs++[(i:Int)])) [(65,some 65),(66,some 66),(67,some 67),(68,some 68)] ⟨hjl,hbe.symm,hB3⟩ (by simp only; omega) (Le.stayL rfl rfl rfl rfl rfl rfl rfl rfl (cM rfl) hBl3 za ⟨⟨rfl,iv hBl3 (by decide),_,rfl,db (gW rfl hBl3)⟩,zR,zR,zR,zR,zM,zM,zR,zM,zM,zM,zM,zM,zR,zR,trivial⟩ (fun i9 row hr=>by have hi9:=df hr; have hi8:=hBl3; repeat (first | exact cT hr | refine farl rfl (Nat.lt_of_lt_of_le hi9 hi8) ?_)))
  ·have d2:decide ((j:Int)<(ys.length:Int))=false:=dF (by omega)
   obtain rfl:j=ys.length:=by omega
   rw[List.take_length]at hBe
   have hB4:BOk n (totS (sp.take (i+1))) B:=by rw[htt]; exact hB2
   cases dE:decide (x.era=(e:Int)-1) with
   | false =>
    have hg1:gdA p l e q.2 sp (i+1)=⟨B,g.out,g.opn⟩:=by
     rw[gdA,←hg,gd1,hstn,hspn,endB,dE,Bool.false_and,if_neg (by decide),hBe]
    refine sR<|rC<|nQ ?_;refine wF<|zX<|aZ ?_;refine aw (by kernel_rfl) ?_;refine dC [7] [] ?_;refine dQ [60] [68] iB ?_;refine dC [0] [] ?_;refine dC [62] [] ?_;refine dC [63] [] ?_;refine dQ [64] [0] iM ?_;refine dQ [65] [] (ey (m:=(e:Int)-1) aa rfl rfl hwe) ?_;refine dC [61,66] [] ?_;refine dC [67] [] ?_;refine ae [68,0] rfl rfl (by assumption) rfl ?_;refine ae [68,7] rfl rfl (by assumption) rfl ?_;refine ae [68,69,70] rfl rfl (by assumption) rfl ?_;refine dQ [68,71] [] iF ?_;refine am (by kernel_rfl)<|aL ?_;refine wG<|bg<|zC<|ao ?_;refine rQ iD ?_;refine rC<|aE ?_
    exact aU (i+1,⟨B,g.out,g.opn⟩) [(65,some 65),(66,some 66),(67,some 67)] ⟨hlt,hg1.symm,hB4,hO,fun j h1 h2=>hfr j (by simp only at h1; omega) h2⟩ (by simp only; omega) (Le.stayL rfl rfl rfl rfl rfl rfl rfl rfl (cM rfl) hBl2 zf ⟨⟨rfl,iv hBl2 (by decide),_,rfl,db (gW rfl hBl2)⟩,zR,zR,zR,zM,zM,zR,zM,zM,zM,zM,zM,zR,zR,trivial⟩ (fun i9 row hr=>by have hi9:=df hr; have hi8:=hBl2; repeat (first | exact cT hr | refine farl rfl (Nat.lt_of_lt_of_le hi9 hi8) ?_)))
   | true =>
    cases hf:iJ l p.lo (zOf p x.era) x with
    | false =>
     rw[hf]at hfu
     have hg1:gdA p l e q.2 sp (i+1)=⟨B,g.out,g.opn⟩:=by
      rw[gdA,←hg,gd1,hstn,hspn,endB,dE,hf,Bool.true_and,if_neg (by decide),hBe]
     refine sR<|rC<|nQ ?_;refine wF<|zX<|aZ ?_;refine aw (by kernel_rfl) ?_;refine dC [7] [] ?_;refine dQ [60] [68] iB ?_;refine dC [0] [] ?_;refine dC [62] [] ?_;refine dC [63] [] ?_;refine dQ [64] [0] iM ?_;refine dQ [65] [] (ey (m:=(e:Int)-1) aa rfl rfl hwe) ?_;refine dC [61,66] [] ?_;refine dC [67] [] ?_;refine ab [68,0] [] rfl rfl (by assumption) rfl (ay aa (fun K hk=>hk)) ?_;refine ab [68,7] [68] rfl rfl (by assumption) rfl (aJ aa rfl rfl rfl rfl) ?_;refine cF [68,69,70] [0,1,2,3,4,5,6,7,8,9,10] rfl (.on rfl rfl dE (aQ [] hfu rfl rfl rfl (aV rfl rfl (ak ai)) ⟨zH,zN,zN,zH,zN,zN,zN,zN,zN,zH,zH,trivial⟩ rfl rfl (.inl rfl) rfl rfl)) rfl rfl ?_;refine dQ [68,71] [] iT ?_;refine am (by kernel_rfl)<|aL ?_;refine wG<|bg<|zC<|ao ?_;refine rQ iD ?_;refine rC<|aE ?_
     exact aU (i+1,⟨B,g.out,g.opn⟩) [(65,some 65),(66,some 66),(67,some 67)] ⟨hlt,hg1.symm,hB4,hO,fun j h1 h2=>hfr j (by simp only at h1; omega) h2⟩ (by simp only; omega) (Le.stayL rfl rfl rfl rfl rfl rfl rfl rfl (cM rfl) hBl2 zf ⟨⟨rfl,iv hBl2 (by decide),_,rfl,db (gW rfl hBl2)⟩,zR,zR,zR,zM,zM,zR,zM,zM,zM,zM,zM,zR,zR,trivial⟩ (fun i9 row hr=>by have hi9:=df hr; have hi8:=hBl2; repeat (first | exact cT hr | refine farl rfl (Nat.lt_of_lt_of_le hi9 hi8) ?_)))
    | true =>
     rw[hf]at hfu
     have hg1:gdA p l e q.2 sp (i+1)=⟨B,g.out.set i true,g.opn++[(i:Int)]⟩:=by
      rw[gdA,←hg,gd1,hstn,hspn,endB,dE,hf,Bool.true_and,if_pos rfl,hBe]
     have hti:=hfr i (Nat.le_refl _) hlt
     have ht:g.out[((i:Int)).toNat]?=some false:=by rw[Int.toNat_natCast]; exact hti
     have hO2:=(hO.psh (k:=(i:Int)) (by omega) (by omega) ht).1
     rw[Int.toNat_natCast]at hO2
     have hol:g.opn.length+1≤1048576:=by have:=hO.cnt; have:=kL hti; omega
     refine sR<|rC<|nQ ?_;refine wF<|zX<|aZ ?_;refine aw (by kernel_rfl) ?_;refine dC [7] [] ?_;refine dQ [60] [68] iB ?_;refine dC [0] [] ?_;refine dC [62] [] ?_;refine dC [63] [] ?_;refine dQ [64] [0] iM ?_;refine dQ [65] [] (ey (m:=(e:Int)-1) aa rfl rfl hwe) ?_;refine dC [61,66] [] ?_;refine dC [67] [] ?_;refine ab [68,0] [] rfl rfl (by assumption) rfl (ay aa (fun K hk=>hk)) ?_;refine ab [68,7] [68] rfl rfl (by assumption) rfl (aJ aa rfl rfl rfl rfl) ?_;refine cF [68,69,70] [0,1,2,3,4,5,6,7,8,9,10] rfl (.on rfl rfl dE (aQ [] hfu rfl rfl rfl (aV rfl rfl (ak ai)) ⟨zH,zN,zN,zH,zN,zN,zN,zN,zN,zH,zH,trivial⟩ rfl rfl (.inl rfl) rfl rfl)) rfl rfl ?_;refine dQ [68,71] [] iT ?_;refine am (by kernel_rfl)<|aL ?_;refine wV<|sR ?_;refine zD ?_;refine rQ (aP aa rfl rfl rfl rfl rfl (by omega) (by omega)) ?_;refine bO (aK aa rfl rfl rfl ⟨rfl,false,true,ht,⟨rfl,rfl,rfl⟩,rfl⟩ rfl)<|nS<|ao ?_;refine zD ?_;refine bt (aH aa rfl rfl rfl rfl rfl rfl rfl rfl) rfl ?_;refine aS (bG (s:=1) (enc:=i6) (xs:=g.opn) aa ((i:Nat):Int) rfl rfl rfl rfl rfl rfl rfl rfl rfl hol rfl) rfl ?_;refine rC<|aE<|zC<|ao ?_;refine rQ iD ?_;refine rC<|aE ?_
     exact aU (i+1,⟨B,g.out.set i true,g.opn++[(i:Int)]⟩) [(65,some 65),(66,some 66),(67,some 10000168)] ⟨hlt,hg1.symm,hB4,hO2,fun j h1 h2=>by simp only at h1 ⊢; rw[List.getElem?_set_ne (by omega)]; exact hfr j (by omega) h2⟩ (by simp only; omega) (Le.stayL rfl rfl rfl rfl rfl rfl rfl rfl (cM rfl) hBl2 ⟨zE,rfl,zE,rfl,zE,rfl,zE,rfl,zE,rfl,zE,rfl,⟨_,rfl,AVLe.of_eq (by simp only[List.length_append,List.length_singleton]; rfl)⟩,rfl,trivial⟩ ⟨⟨rfl,iv hBl2 (by decide),_,rfl,db (gW rfl hBl2)⟩,zR,zR,zR,zM,zM,zR,zM,zM,zM,zM,zM,zR,zR,trivial⟩ (fun i9 row hr=>by have hi9:=df hr; have hi8:=hBl2; repeat (first | exact cT hr | refine farl rfl (Nat.lt_of_lt_of_le hi9 hi8) ?_)))
 ·have d1:decide ((i:Int)<(q.2.length:Int))=false:=dF (by omega)
  obtain rfl:i=n:=by omega
  have hgd:dJ p l e q.2 sp=popG g.B (i+1) g.out g.opn:=by rw[dJ,←hn,←hg]
  obtain⟨B,hBd⟩:∃B,B=g.B:=⟨_,rfl⟩
  obtain⟨b0,hb0,_,_⟩:=hB.get (j:=0) (by omega)
  rw[←hBd]at hB hBl hb0 hgd
  have hBn:q.2.length=B.length:=by rw[hB.bl]; exact hn.symm
  refine sR<|rC<|nQ ?_;refine wF<|zX<|aZ<|cm ?_
  refine fO 10000000 [(65,some 65),(66,some 66),(67,some 67)] (env':=gE3 q.2.length g.opn) (h':=gC q.2.length B (gA l b e p sp q g.out g.opn [])) (Le.stayL rfl rfl rfl rfl rfl rfl rfl rfl (cM rfl) hBl zi ⟨⟨rfl,iv hBl (by decide),_,rfl,(by rw[hBd]; exact db (gW rfl (hBd ▸ hBl)))⟩,zR,zR,zR,zM,zM,zR,zM,zM,zM,zM,zM,zR,zR,trivial⟩ (fun i9 row hr=>by have hi9:=df hr; rw[hBd]at hr; have hi8:=hBl; repeat (first | exact cT hr | refine farl rfl (Nat.lt_of_lt_of_le hi9 hi8) ?_))) ?_
  refine fO 10000000 _ (Le.openL (aB (gA l b e p sp q g.out g.opn [])) 0 69 66 q.2.length b0 hb0 hBl rfl rfl rfl rfl rfl rfl ⟨rfl,rfl,rfl,rfl,rfl,rfl,rfl,rfl,rfl,rfl,rfl,rfl,trivial⟩ ⟨rfl,⟨rfl,rfl,rfl,rfl⟩,rfl,⟨rfl,rfl,rfl,rfl⟩,rfl,⟨rfl,rfl,rfl,rfl⟩,rfl,zK,rfl,zK,rfl,⟨rfl,rfl,rfl,rfl⟩,rfl,zK,rfl,zK,rfl,zK,rfl,zK,rfl,zK,rfl,⟨rfl,rfl,rfl,rfl⟩,rfl,⟨rfl,rfl,rfl,rfl⟩,trivial⟩) ?_
  refine wc_inv (fun s:Nat×List Bool×List Int×Nat×List Int=>⟨gE3 q.2.length s.2.2.1,gO q.2.length B s.2.2.2.1 69 s.2.2.2.2 (gA l b e p sp q s.2.1 s.2.2.1 []),10000000,Try.f72.ntmps,64⟩) (fun s=>popG B s.1 s.2.1 s.2.2.1=dJ p l e q.2 sp∧OOk i s.2.1 s.2.2.1∧s.2.2.1.length+cntF s.2.1<s.1∧B[s.2.2.2.1]?=some s.2.2.2.2) (fun s=>s.2.2.1.length+cntF s.2.1) (i+1,g.out,g.opn,0,b0) [(65,some 65),(66,some 66),(67,some 67),(69,some 69)] ⟨hgd.symm,hO,by have:=hO.cnt; simp only; omega,hb0⟩
   (Le.stayL rfl rfl rfl rfl rfl rfl rfl rfl (cM rfl) (show (B.set 0 []).length≤9000000 by rw[List.length_set]; exact hBl) zi ⟨zR,⟨rfl,gS hBl (by decide) (by decide),_,rfl,db (ju rfl hBl (by rfl))⟩,zR,zR,zR,zM,zM,zR,zM,zM,zM,zM,zM,zR,zR,trivial⟩ (fun i9 row hr=>by have hi9:=df hr; have hi8:=(show (B.set 0 []).length≤9000000 by rw[List.length_set]; exact hBl); repeat (first | exact cT hr | refine farl rfl (Nat.lt_of_lt_of_le hi9 hi8) ?_))) ?_
  rintro⟨k,out,opn,j,xs⟩ ⟨hpop,hO,hk,hxs⟩
  simp only at hpop hO hk hxs
  refine cf ?_
  show WC _ _ _ _ (gE3 q.2.length opn) (gO q.2.length B j 69 xs (gA l b e p sp q out opn [])) _
  have hcnt:=hO.cnt
  have htl:=lX sp i
  cases hgl:opn.getLast? with
  | none =>
   have hol0:opn=[]:=List.getLast?_eq_none_iff.1 hgl
   subst hol0
   have hgo:dJ p l e q.2 sp=out:=by
    rw[←hpop]
    cases k with
    | zero=>rfl
    | succ k=>rfl
   rw[hgo]
   refine qR<|rC ?_;refine rQ (bz aa rfl rfl) ?_;refine rC ?_;refine zJ<|b8<|dO<|eT<|dW<|aL<|sR ?_;refine zD<|zT ?_
   exact⟨trivial,[(64,some 65)],lg zV ⟨zR,zR,zM,zM,zR,zM,zM,zM,zM,zM,zR,zR,trivial⟩⟩
  | some iI =>
   obtain⟨k2,rfl⟩:∃k2,k=k2+1:=⟨k-1,by omega⟩
   rw[popG,hgl]at hpop
   simp only at hpop
   have hne:opn≠[]:=fun e=>by rw[e]at hgl; cases hgl
   have hlen:0<opn.length:=List.length_pos_iff.2 hne
   have hlast0:opn[opn.length-1]?=some iI:=by rw[←List.getLast?_eq_getElem?]; exact hgl
   have hlast:opn[(((opn.length-1:Nat):Int)).toNat]?=some iI:=by rw[Int.toNat_natCast]; exact hlast0
   obtain⟨hi0,hi1⟩:=hO.oe iI (List.mem_of_getElem? hlast0)
   obtain⟨bk,hbk,hbkl,hbke⟩:=hB.get (j:=iI.toNat) (by omega)
   rw[hbk]at hpop
   simp only[Option.getD_some]at hpop
   have d3:decide ((0:Int)<(opn.length:Int))=true:=dT (by omega)
   have hw87:IntKind.i64.wrap ((opn.length:Int)-1)=((opn.length-1:Nat):Int):=by rw[bp (by omega) (by omega)]; omega
   refine fO 10000000 _ (Le.closeL (aB (gA l b e p sp q out opn [])) j 69 66 q.2.length xs hxs hBl rfl rfl rfl rfl ⟨rfl,rfl,rfl,rfl,rfl,rfl,rfl,rfl,rfl,rfl,rfl,rfl,trivial⟩ ⟨rfl,⟨rfl,rfl,rfl,rfl⟩,rfl,⟨rfl,rfl,rfl,rfl⟩,rfl,⟨rfl,rfl,rfl,rfl⟩,rfl,zK,rfl,zK,rfl,⟨rfl,rfl,rfl,rfl⟩,rfl,zK,rfl,zK,rfl,zK,rfl,zK,rfl,zK,rfl,⟨rfl,rfl,rfl,rfl⟩,rfl,⟨rfl,rfl,rfl,rfl⟩,trivial⟩) ?_;refine fO 10000000 _ (Le.openL (aB (gA l b e p sp q out opn [])) iI.toNat 69 66 q.2.length bk hbk hBl rfl rfl rfl rfl rfl rfl ⟨rfl,rfl,rfl,rfl,rfl,rfl,rfl,rfl,rfl,rfl,rfl,rfl,trivial⟩ ⟨rfl,⟨rfl,rfl,rfl,rfl⟩,rfl,⟨rfl,rfl,rfl,rfl⟩,rfl,⟨rfl,rfl,rfl,rfl⟩,rfl,zK,rfl,zK,rfl,⟨rfl,rfl,rfl,rfl⟩,rfl,zK,rfl,zK,rfl,zK,rfl,zK,rfl,zK,rfl,⟨rfl,rfl,rfl,rfl⟩,rfl,⟨rfl,rfl,rfl,rfl⟩,trivial⟩)<|qR ?_;refine rC ?_;refine rQ (bz aa rfl rfl) ?_;refine rC ?_;refine zI<|kS<|zS ?_;refine zD ?_;refine rQ (bz aa rfl rfl) ?_;refine rQ (ey (m:=((opn.length-1:Nat):Int)) aa rfl rfl hw87) ?_;refine rQ (aP aa rfl rfl rfl rfl rfl (by omega) (by omega)) ?_;refine rQ (bf (v :=.int .i64 iI) aa rfl rfl ⟨rfl,iI,hlast,_,rfl,rfl⟩ rfl) ?_;refine rC<|nR ?_;refine zD ?_;refine rQ (bz aa rfl rfl) ?_;refine rQ (ey (m:=((opn.length-1:Nat):Int)) aa rfl rfl hw87) ?_;refine rQ (oW (m:=opn.length-1) aa rfl rfl rfl rfl (by omega)) ?_;refine rC<|nR ?_;refine zD ?_;refine rQ (aP aa rfl rfl rfl rfl rfl hi0 (by omega)) ?_;refine rQ (bf (v :=.own 69 0 bk.length 1 none) aa rfl rfl (nK hBn hbk jA) rfl) ?_;refine rQ (bz aa rfl rfl) ?_;refine rC<|zP ?_
   refine wc_inv (fun s:Nat×List Bool×List Int=>⟨gE4 q.2.length s.1 bk s.2.2,gO q.2.length B iI.toNat 69 bk (gA l b e p sp q s.2.1 s.2.2 []),10000000,Try.f72.ntmps,64⟩) (fun s=>s.1≤bk.length∧(s.2.1,s.2.2)=(bk.take s.1).foldl pshF (out,opn.dropLast)∧OOk i s.2.1 s.2.2∧s.2.2.length+cntF s.2.1+1=opn.length+cntF out) (fun s=>bk.length-s.1) (0,out,opn.dropLast) [(65,some 65),(66,some 66),(67,some 67),(69,some 69)] ⟨Nat.zero_le _,rfl,hO.pop,by simp only; rw[List.length_dropLast]; omega⟩
    (Le.stayL rfl rfl rfl rfl rfl rfl rfl rfl (cM rfl) (show (B.set iI.toNat []).length≤9000000 by rw[List.length_set]; exact hBl) ⟨zE,rfl,zE,rfl,zE,rfl,zE,rfl,zE,rfl,zE,rfl,⟨_,rfl,AVLe.of_eq (by rw[List.length_dropLast]; rfl)⟩,rfl,trivial⟩ ⟨zR,⟨rfl,gS hBl (by decide) (by decide),_,rfl,db (ju rfl hBl (by rfl))⟩,zR,⟨rfl,rfl,_,rfl,(by rw[List.dropLast_eq_take]; exact aO.ds_take)⟩,zR,zM,zM,zR,zM,zM,zM,zM,zM,zR,zR,trivial⟩ (fun i9 row hr=>by have hi9:=df hr; have hi8:=(show (B.set iI.toNat []).length≤9000000 by rw[List.length_set]; exact hBl); repeat (first | exact cT hr | refine farl rfl (Nat.lt_of_lt_of_le hi9 hi8) ?_))) ?_
   rintro⟨j4,out4,opn4⟩ ⟨hj4,hf4,hO4,hc4⟩
   simp only at hj4 hf4 hO4 hc4
   refine cf ?_
   show WC _ _ _ _ (gE4 q.2.length j4 bk opn4) (gO q.2.length B iI.toNat 69 bk (gA l b e p sp q out4 opn4 [])) _
   by_cases hjl:j4<bk.length
   ·have d4:decide ((j4:Int)<(bk.length:Int))=true:=dT (by omega)
    obtain⟨kI,hkI⟩:∃kI,bk[j4]?=some kI:=⟨_,List.getElem?_eq_getElem hjl⟩
    have hk2:bk[((j4:Int)).toNat]?=some kI:=by rw[Int.toNat_natCast]; exact hkI
    obtain⟨hk0,hk1⟩:=hbke kI (List.mem_of_getElem? hkI)
    have hts:=nD (f:=pshF) hkI (out,opn.dropLast)
    rw[←hf4]at hts
    obtain⟨c,ht⟩:=hO4.get hk0 hk1
    clear hw87 hlast d3 hpop hlast0
    cases c with
    | true =>
     rw[vt ht]at hts
     refine sR<|rC<|nQ ?_;refine wT<|zQ<|zS ?_;refine rQ (aP aa rfl rfl rfl rfl rfl (by omega) (by omega)) ?_;refine rQ (bf (v :=.int .i64 kI) aa rfl rfl ⟨rfl,kI,hk2,_,rfl,rfl⟩ rfl) ?_;refine rC<|nR ?_;refine zD ?_;refine rQ (aP aa rfl rfl rfl rfl rfl hk0 (by omega)) ?_;refine rQ (bf aa rfl rfl ⟨rfl,_,ht,_,rfl,rfl⟩ rfl) ?_;refine rC<|nS ?_;refine wG<|bg<|zC<|ao ?_;refine rQ iD ?_;refine rC<|aE ?_
     exact aU (j4+1,out4,opn4) [(65,some 65),(66,some 66),(67,some 67),(69,some 69)] ⟨hjl,hts.symm,hO4,hc4⟩ (by simp only; omega) (Le.stayL rfl rfl rfl rfl rfl rfl rfl rfl (cM rfl) (show (B.set iI.toNat []).length≤9000000 by rw[List.length_set]; exact hBl) zf ⟨zR,⟨rfl,gS hBl (by decide) (by decide),_,rfl,db (ju rfl hBl (by rfl))⟩,zR,zR,zR,zM,zM,zR,zM,zM,zM,zM,zM,zR,zR,trivial⟩ (fun i9 row hr=>by have hi9:=df hr; have hi8:=(show (B.set iI.toNat []).length≤9000000 by rw[List.length_set]; exact hBl); repeat (first | exact cT hr | refine farl rfl (Nat.lt_of_lt_of_le hi9 hi8) ?_)))
    | false =>
     rw[vu ht]at hts
     obtain⟨hO5,hc5⟩:=hO4.psh hk0 hk1 ht
     have hol:opn4.length+1≤1048576:=by have:=hO4.cnt; omega
     refine sR<|rC<|nQ ?_;refine wT<|zQ<|zS ?_;refine rQ (aP aa rfl rfl rfl rfl rfl (by omega) (by omega)) ?_;refine rQ (bf (v :=.int .i64 kI) aa rfl rfl ⟨rfl,kI,hk2,_,rfl,rfl⟩ rfl) ?_;refine rC<|nR ?_;refine zD ?_;refine rQ (aP aa rfl rfl rfl rfl rfl hk0 (by omega)) ?_;refine rQ (bf aa rfl rfl ⟨rfl,_,ht,_,rfl,rfl⟩ rfl) ?_;refine rC<|nS ?_;refine wV<|sR ?_;refine zD ?_;refine rQ (aP aa rfl rfl rfl rfl rfl hk0 (by omega)) ?_;refine bO (aK aa rfl rfl rfl ⟨rfl,false,true,ht,⟨rfl,rfl,rfl⟩,rfl⟩ rfl)<|nS<|ao ?_;refine zD ?_;refine bt (aH aa rfl rfl rfl rfl rfl rfl rfl rfl) rfl ?_;refine aS (bG (s:=1) (enc:=i6) (xs:=opn4) aa kI rfl rfl rfl rfl rfl rfl rfl rfl rfl hol rfl) rfl ?_;refine rC<|aE<|zC<|ao ?_;refine rQ iD ?_;refine rC<|aE ?_
     exact aU (j4+1,out4.set kI.toNat true,opn4++[kI]) [(65,some 65),(66,some 66),(67,some 10000128),(69,some 69)] ⟨hjl,hts.symm,hO5,by simp only at hc5 ⊢; omega⟩ (by simp only; omega) (Le.stayL rfl rfl rfl rfl rfl rfl rfl rfl (cM rfl) (show (B.set iI.toNat []).length≤9000000 by rw[List.length_set]; exact hBl) ⟨zE,rfl,zE,rfl,zE,rfl,zE,rfl,zE,rfl,zE,rfl,⟨_,rfl,AVLe.of_eq (by simp only[List.length_append,List.length_singleton]; rfl)⟩,rfl,trivial⟩ ⟨zR,⟨rfl,gS hBl (by decide) (by decide),_,rfl,db (ju rfl hBl (by rfl))⟩,zR,zR,zR,zM,zM,zR,zM,zM,zM,zM,zM,zR,zR,trivial⟩ (fun i9 row hr=>by have hi9:=df hr; have hi8:=(show (B.set iI.toNat []).length≤9000000 by rw[List.length_set]; exact hBl); repeat (first | exact cT hr | refine farl rfl (Nat.lt_of_lt_of_le hi9 hi8) ?_)))
   ·have d4:decide ((j4:Int)<(bk.length:Int))=false:=dF (by omega)
    obtain rfl:j4=bk.length:=by omega
    rw[List.take_length]at hf4
    rw[←hf4]at hpop
    refine sR<|rC<|nQ ?_;refine wF<|b8<|dO<|eT<|dW<|gR ?_
    exact aU (k2,out4,opn4,iI.toNat,bk) [(65,some 65),(66,some 66),(67,some 67),(69,some 69)] ⟨hpop,hO4,by simp only; omega,hbk⟩ (by simp only; omega) (Le.stayL rfl rfl rfl rfl rfl rfl rfl rfl (cM rfl) (show (B.set iI.toNat []).length≤9000000 by rw[List.length_set]; exact hBl) zi ⟨zR,⟨rfl,gS hBl (by decide) (by decide),_,rfl,db (ju rfl hBl (by rfl))⟩,zR,zR,zR,zM,zM,zR,zM,zM,zM,zM,zM,zR,zR,trivial⟩ (fun i9 row hr=>by have hi9:=df hr; have hi8:=(show (B.set iI.toNat []).length≤9000000 by rw[List.length_set]; exact hBl); repeat (first | exact cT hr | refine farl rfl (Nat.lt_of_lt_of_le hi9 hi8) ?_)))
theorem xf (l:List Int):∀(a:List Bool×List Int),(l.foldl pshF a).1.length=a.1.length:=by
 induction l with
 | nil=>intro a; rfl
 | cons k l ih =>
  intro a
  rw[List.foldl_cons,ih]
  unfold pshF
  split
  ·rfl
  ·rw[List.length_set]
theorem qc (B:List (List Int)):∀(k:Nat) (out:List Bool) (opn:List Int),(popG B k out opn).length=out.length
 | 0,_,_=>rfl
 | k+1,out,opn=>by
  unfold popG
  split
  ·rfl
  ·rw[qc B k,xf]
theorem s1 (p:Prep) (l:List HOp) (e:Nat) (st:List LSt) (sp:List (List aI)):∀i,(gdA p l e st sp i).out.length=st.length
 | 0=>by simp[gdA,gd0]
 | i+1=>by
  have:=s1 p l e st sp i
  unfold gdA gd1
  split
  ·rw[List.length_set]; exact this
  ·exact this
theorem m7 (p:Prep) (l:List HOp) (e:Nat) (st:List LSt) (sp:List (List aI)):(dJ p l e st sp).length=st.length:=by
 rw[dJ,qc,s1]
theorem xy (l:List HOp) (b:Int) (e:Nat) (p:Prep) (sp:List (List aI)) (q:QS) (P:POk l e p) (hS:∀y∈q.2,SOk p e y) (he:e≤1048576) (hsp:SpOk q.2 sp) (hN:q.2.length≤1048576) (h0:0<q.2.length) (hT:totS sp+1≤67108864):FnIs Try.prog 72 [.ptr 0 []] (bZ l b e p sp q 9) (.d (.arr 1 dK (dJ p l e q.2 sp))) (bZ l b e p sp q 9):=
 (vZ l b e p sp q P hS he hsp hN h0 hT).freeze_out 64 _ rfl (Frz.own (m7 p l e q.2 sp).symm) ⟨zF,zF,zF,zF,zF,zF,zF,zF,zF,zF,zF,trivial⟩
def wK (st:List LSt) (sp:List (List aI)):Prop:=∀(i:Nat) (x:LSt) (ys:List aI),st[i]?=some x→sp[i]?=some ys→∀y∈ys,y.op<0→∃x',st[y.to.toNat]?=some x'∧x'.era=x.era+1
theorem ui {p:aI→Bool} {l:List aI} {j:Nat} {y:aI} (h:l[j]?=some y):(l.drop j).find? p=if p y=true then some y else (l.drop (j+1)).find? p:=by
 rw[List.drop_eq_getElem_cons (List.getElem?_eq_some_iff.1 h).1,(List.getElem?_eq_some_iff.1 h).2,List.find?_cons]
 cases p y <;> rfl
abbrev eE (ys:List aI) (j:Nat):Env:=[(34,.int .i64 j),(33,.int .i64 ys.length),(32,.d (cr ys)),(0,.ptr 0 [])]
theorem s5 (l:List HOp) (b:Int) (e:Nat) (p:Prep) (sp:List (List aI)) (q:QS) (P:POk l e p) (hS:∀y∈q.2,SOk p e y) (he:e≤1048576) (hsp:SpOk q.2 sp) (hE:wK q.2 sp) (hT:totS sp+1≤67108864):∀(n:Nat) (i:Int) (x:LSt),0≤i→q.2[i.toNat]?=some x→(e:Int)≤x.era+n→FnIs Try.prog 73 [.ptr 0 [],.int .i64 i] (bZ l b e p sp q 9) (.bool (kH p l e q.2 sp n i)) (bZ l b e p sp q 9)
 | 0,i,x,_,hx,hn=>by have:=(hS x (List.mem_of_getElem? hx)).era; omega
 | n+1,i,x,hi0,hx,hn=>by
  have hxS:=hS x (List.mem_of_getElem? hx)
  have hxl:=(List.getElem?_eq_some_iff.1 hx).1
  have hera:=hxS.era
  have hwe:IntKind.i64.wrap ((e:Int)-1)=(e:Int)-1:=bp (by omega) (by omega)
  have hspl:=hsp.len
  have hfu:=nb l b e p sp q x P hxS
  have hstn:stN q.2 i=x:=by rw[stN,hx]; rfl
  rw[kH,hstn]
  refine aG aa Try.func73 rfl rfl rfl ?_
  cases d1:decide (x.era=(e:Int)-1) with
  | true =>
   rw[if_pos rfl]
   refine sR<|rC<|nR ?_;refine zU ?_;refine rQ iM ?_;refine rC ?_;refine rQ (aP aa rfl rfl rfl rfl rfl hi0 (by omega)) ?_;refine rQ (bf (v :=.d (bR x)) aa rfl rfl ⟨rfl,x,hx,bR x,rfl,rfl⟩ rfl) ?_;refine rN ?_;refine rW<|nQ<|aZ ?_;refine aw (by kernel_rfl) ?_;refine dC [5] [] ?_;refine dQ [15] [128] iB ?_;refine dC [0] [] ?_;refine dC [17] [] ?_;refine dC [18] [] ?_;refine dQ [19] [0] iM ?_;refine dQ [20] [] (ey (m:=(e:Int)-1) aa rfl rfl hwe) ?_;refine dC [16,21] [] ?_;refine am (by kernel_rfl)<|aL ?_;refine wT<|sR ?_;refine rC ?_;refine rQ iM ?_;refine bF rfl (aQ [] hfu rfl rfl rfl (aV rfl rfl (ak ai)) ⟨zH,zN,zN,zH,zN,zN,zN,zN,zN,zH,zH,trivial⟩ rfl rfl (.inl rfl) rfl rfl) rfl rfl ?_;refine rC<|zT<|bQ ?_
   exact⟨trivial,[],lg zV ⟨zR,zM,zM,zR,zM,zM,zM,zM,zM,zR,zR,trivial⟩⟩
  | false =>
   rw[if_neg (by decide)]
   obtain⟨ys,hys⟩:∃ys,sp[i.toNat]?=some ys:=⟨_,List.getElem?_eq_getElem (by omega)⟩
   have hspn:spN sp i=ys:=by rw[spN,hys]; rfl
   have hyl:ys.length≤67108864:=by have h1:=kX hys; have h2:=lX sp (i.toNat+1); omega
   rw[hspn]
   refine sR<|rC<|nR ?_;refine zU ?_;refine rQ iM ?_;refine rC ?_;refine rQ (aP aa rfl rfl rfl rfl rfl hi0 (by omega)) ?_;refine rQ (bf (v :=.d (bR x)) aa rfl rfl ⟨rfl,x,hx,bR x,rfl,rfl⟩ rfl) ?_;refine rN ?_;refine rW<|nQ<|aZ ?_;refine aw (by kernel_rfl) ?_;refine dC [5] [] ?_;refine dQ [15] [128] iB ?_;refine dC [0] [] ?_;refine dC [17] [] ?_;refine dC [18] [] ?_;refine dQ [19] [0] iM ?_;refine dQ [20] [] (ey (m:=(e:Int)-1) aa rfl rfl hwe) ?_;refine dC [16,21] [] ?_;refine am (by kernel_rfl)<|aL ?_;refine wF<|kS<|qR ?_;refine zU ?_;refine rQ iM ?_;refine rC ?_;refine rQ (aP aa rfl rfl rfl rfl rfl hi0 (by omega)) ?_;refine rQ (bf (v :=.d (cr ys)) aa rfl rfl ⟨rfl,ys,hys,cr ys,rfl,rfl⟩ rfl) ?_;refine rQ iE ?_;refine rC<|zP ?_
   refine wc_inv (fun j:Nat=>⟨eE ys j,aB (bZ l b e p sp q 9),72,Try.f73.ntmps,64⟩) (fun j=>j≤ys.length∧(ys.drop j).find? (fun y=>decide (y.op<0))=ys.find? (fun y=>decide (y.op<0))) (fun j=>ys.length-j) 0 [] ⟨Nat.zero_le _,rfl⟩
    (lg zi ⟨zR,zM,zM,zR,zM,zM,zM,zM,zM,zR,zR,trivial⟩) ?_
   rintro j ⟨hj,hfd⟩
   refine cf ?_
   show WC _ _ _ _ (eE ys j) (aB (bZ l b e p sp q 9)) _
   by_cases hjl:j<ys.length
   ·have d2:decide ((j:Int)<(ys.length:Int))=true:=dT (by omega)
    obtain⟨y,hy⟩:∃y,ys[j]?=some y:=⟨_,List.getElem?_eq_getElem hjl⟩
    have hy2:ys[((j:Int)).toNat]?=some y:=by rw[Int.toNat_natCast]; exact hy
    have hym:=List.mem_of_getElem? hy
    rw[ui hy]at hfd
    cases d3:decide (y.op<0) with
    | true =>
     rw[d3,if_pos rfl]at hfd
     rw[←hfd]
     obtain⟨x2,hx2,hx2e⟩:=hE i.toNat x ys hx hys y hym (of_decide_eq_true d3)
     have hre:=s5 l b e p sp q P hS he hsp hE hT n y.to x2 (hsp.to ys (List.mem_of_getElem? hys) y hym).1 hx2 (by omega)
     refine sR<|rC<|nQ ?_;refine wT<|zQ<|zS ?_;refine rQ (aC aa rfl rfl rfl rfl rfl (by omega) hy2) ?_;refine rQ iL ?_;refine rN ?_;refine rW<|nR ?_;refine rC ?_;refine rQ iB ?_;refine rC ?_;refine zI<|sR ?_;refine zD ?_;refine rQ iB ?_;refine bF rfl (aQ [] hre rfl rfl rfl (aV rfl rfl (ak ai)) ⟨zH,zN,zN,zH,zN,zN,zN,zN,zN,zH,zH,trivial⟩ rfl rfl (.inl rfl) rfl rfl) rfl rfl ?_;refine rC<|zT<|zB<|dR<|zB ?_
     exact⟨trivial,[],lg zV ⟨zR,zM,zM,zR,zM,zM,zM,zM,zM,zR,zR,trivial⟩⟩
    | false =>
     rw[d3,if_neg (by decide)]at hfd
     refine sR<|rC<|nQ ?_;refine wT<|zQ<|zS ?_;refine rQ (aC aa rfl rfl rfl rfl rfl (by omega) hy2) ?_;refine rQ iL ?_;refine rN ?_;refine rW<|nR ?_;refine rC ?_;refine rQ iB ?_;refine rC ?_;refine zG<|bg<|zC<|ao ?_;refine rQ iD ?_;refine rC<|aE ?_
     exact aU (j+1) [] ⟨hjl,hfd⟩ (by omega) (lg zi ⟨zR,zM,zM,zR,zM,zM,zM,zM,zM,zR,zR,trivial⟩)
   ·have d2:decide ((j:Int)<(ys.length:Int))=false:=dF (by omega)
    rw[List.drop_eq_nil_of_le (by omega)]at hfd
    rw[←hfd]
    refine sR<|rC<|nQ ?_;refine wF<|zX<|sR ?_;refine rC<|zT ?_
    exact⟨trivial,[],lg zV ⟨zR,zM,zM,zR,zM,zM,zM,zM,zM,zR,zR,trivial⟩⟩
end Go.Proofs.Ytkehohfgbblokaa
namespace Go.Eng
open Go.RowKit
section
variable {P : Program} {T : Tab} {sz : Nat} {env : Env} {h : Upds} {n : Nat}
theorem nr (hT:an P T) {t e r2:Nat} {re:TyR} {s:Nat} {ex2:Bool} {cap2:Option Nat} {α:Type} {enc:α→D} {x y:Operand} {d:D} (el:α) (ht:bq T t=some (.slice e)) (he:lk T e=some re) (hs:Nat.beq re.size s=true)
  {v:AV} (hx:aq env x=some v) (hv:v=.empty∨v=.d (.sc (.slice none 0 0))) (hy:aq env y=some (.own r2 0 1 s cap2)) (hrow2:aT h r2=some (.lits e s 1 ex2 (.acons (.d d) .anil))) (hd:d=enc el) (hbytes:Nat.ble re.bytes 134217728=true) :
  aj P (.call { callee :=.builtin .append,args := #[x,y],argTypes := #[t,t] }) env h n (some (.own n 0 1 s none)) [(n,some (.ds e s false enc [el]))]:=by
 have hb:=Nat.le_of_ble_eq_true hbytes
 refine kR (ys:=[el]) hT ht he (Nat.eq_of_beq_eq_true hs) hx hv (by simp) (by simp[maxLen]) (by simp; omega) ?_
 intro C G st σ w a hA hst
 obtain⟨hy1,_⟩:=au hst (hA.ev hy)
 have hr2:=hst.rows r2 _ (hA.row _ _ hrow2)
 rcases RelV.own.1 hy1 with ⟨_,_,h0,_⟩ | ⟨b,c,ad,hb,hv,hle,_,_,had⟩
 ·omega
 ·have:ad=⟨b,0,none⟩:=by have:=had (by omega); simpa using this
  subst this
  rcases hr2 with ⟨_,⟨hn,_⟩ | ⟨b',c',cur,cs,hb',_,hh,hcs,_,_,hcl,hrel,htk⟩⟩
  ·rw[hb]at hn; cases hn
  ·rw[hb]at hb'
   cases hb'
   obtain⟨c1,c2,rfl,h1,h2⟩:=hrel
   obtain rfl:c2=[]:=h2
   rw[List.append_nil]at hcl htk
   have h1:Enc w (st.X C.X0 σ) d c1:=h1
   refine⟨⟨b,0,none⟩,_,fun _=>c1,hv,fun i hi=>?_,fun j u hj=>?_⟩
   ·have:i=0:=by simp at hi; exact hi
    subst this
    exact⟨by simpa[←hd]using h1,by simpa using hcl⟩
   ·simp only[List.length_cons,List.length_nil,cat,List.nil_append]at hj
    have hjl:=(List.getElem?_eq_some_iff.1 hj).1
    rw[dY,cell_of_row w b _ cur e (0,0) hh,Nat.zero_add,←Array.getElem?_toList]
    rw[←htk,List.getElem?_take,if_pos (by omega)]at hj
    exact hj
end
end Go.Eng
namespace Go.Proofs.Ytkehohfgbblokaa
open Go.Eng Go.Plain
set_option maxHeartbeats 32000000
set_option maxRecDepth 20000
attribute [local irreducible] WC RegS RegD SeqQ BlkQ ScoQ RegK CutK Sat SatN FnIs LoopQ aj OpIs
def ixG (p:aI→Bool) (l:List aI) (i:Nat):Int:=match l with
 | [] => -1
 | o::l=>if p o=true then (i:Int) else ixG p l (i+1)
theorem vU {p:aI→Bool} {l:List aI} {i:Nat} {o:aI} (h:l[i]?=some o):ixG p (l.drop i) i=if p o=true then (i:Int) else ixG p (l.drop (i+1)) (i+1):=by
 have hlt:=(List.getElem?_eq_some_iff.1 h).1
 rw[List.drop_eq_getElem_cons hlt,(List.getElem?_eq_some_iff.1 h).2]
 rfl
theorem qy {p:aI→Bool} {y:aI}:∀(l:List aI) (i:Nat),l.find? p=some y→∃k:Nat,ixG p l i=((i+k:Nat):Int)∧l[k]?=some y
 | [],i,h=>by simp at h
 | o::l,i,h=>by
  rw[List.find?_cons]at h
  unfold ixG
  cases hp:p o with
  | true =>
   rw[hp]at h
   cases h
   exact⟨0,rfl,rfl⟩
  | false =>
   rw[hp]at h
   obtain⟨k,h1,h2⟩:=qy l (i+1) h
   refine⟨k+1,?_,by simpa using h2⟩
   rw[if_neg (by decide),h1]
   congr 1; omega
abbrev mO (g:List Bool):List (Nat×Row):=[(0,.box 93 (.d (.arr 1 dK g)))]
theorem yK (g:List Bool) (y:aI) (h0:0≤y.to) (h1:y.to<g.length):FnIs Try.prog 75 [.d (ot y),.ptr 0 []] (mO g) (.bool (ga g y)) (mO g):=by
 obtain⟨c,hc⟩:∃c,g[y.to.toNat]?=some c:=⟨_,List.getElem?_eq_getElem (by omega)⟩
 rw[ga,hc]
 refine aG aa Try.func75 rfl rfl rfl ?_;refine sR<|rN ?_;refine rC<|nR ?_;refine rQ iM ?_;refine rC ?_;refine rQ iB ?_;refine rQ (aC aa rfl rfl rfl rfl rfl h0 hc) ?_;refine rQ iL ?_;refine rC<|zT ?_
 exact⟨trivial,[],lg zV ⟨zR,trivial⟩⟩
theorem yB (l:List aI) (f:Nat) (g:List Bool) (p:aI→Bool) (hL:l.length≤9223372036854775807) (hp:∀o∈l,FnIs Try.prog f [.d (ot o),.ptr 0 []] (mO g) (.bool (p o)) (mO g)):FnIs Try.prog 74 [.d (cr l),.fn (.func f) .anil (.acons (.ptr 0 []) .anil)] (mO g) (.int .i64 (ixG p l 0)) (mO g):=by
 refine aG aa Try.func74 rfl rfl rfl ?_;refine sR<|rC<|zW ?_;refine rC ?_;refine rQ iE ?_;refine rC<|zP ?_
 refine wc_inv (fun k:Nat=>⟨[(8,.int .i64 k),(7,.int .i64 l.length),(0,.d (cr l)),(1,.fn (.func f) .anil (.acons (.ptr 0 []) .anil))],aB (mO g),72,Try.f74.ntmps,64⟩) (fun k=>k≤l.length∧ixG p (l.drop k) k=ixG p l 0) (fun k=>l.length-k) 0 [] ⟨Nat.zero_le _,by rw[List.drop_zero]⟩
  (lg zi ⟨zR,trivial⟩) ?_
 rintro k ⟨hk,hix⟩
 refine cf ?_
 by_cases hlt:k<l.length
 ·have d1:decide ((k:Int)<(l.length:Int))=true:=dT (by omega)
  obtain⟨o,ho⟩:∃o,l[k]?=some o:=⟨_,List.getElem?_eq_getElem hlt⟩
  have ho2:l[((k:Int)).toNat]?=some o:=by rw[Int.toNat_natCast]; exact ho
  rw[vU ho]at hix
  refine sR<|rC<|nQ ?_;refine wT<|zQ<|zS ?_;refine zD<|nR ?_;refine zU ?_;refine rQ iA ?_;refine rQ iL ?_;refine aS (aQ [(0,some 0)] (hp o (List.mem_of_getElem? ho)) rfl rfl rfl (ak (aV rfl rfl ai)) ⟨zH,trivial⟩ rfl rfl (.inl rfl) rfl rfl) rfl<|nS ?_
  cases hpo:p o with
  | true =>
   rw[hpo,if_pos rfl]at hix
   rw[←hix]
   refine wV<|sR ?_;refine zD<|zT<|zB<|dR<|zB ?_
   exact⟨trivial,[],lg zV ⟨zR,trivial⟩⟩
  | false =>
   rw[hpo,if_neg (by decide)]at hix
   refine wG<|bg<|zC<|ao ?_;refine rQ iD ?_;refine rC<|aE ?_
   exact aU (k+1) [] ⟨hlt,hix⟩ (by omega) (lg zi ⟨zR,trivial⟩)
 ·have d1:decide ((k:Int)<(l.length:Int))=false:=dF (by omega)
  have he:k=l.length:=by omega
  subst he
  rw[List.drop_length]at hix
  rw[←hix]
  refine sR<|rC<|nQ ?_;refine wF<|zX<|sR ?_;refine rC<|zT ?_
  exact⟨trivial,[],lg zV ⟨zR,trivial⟩⟩
abbrev kJ (l:List Int):D :=.arx 1 i6 l
def ordQ:List Int→AV
 | []=>.d (kJ [])
 | a::o=>.own 64 0 (a::o).length 1 (some (a::o).length)
def ordW:List Int→List (Nat×Row)
 | []=>[]
 | a::o=>[(64,zRow (a::o))]
abbrev ordE (o:List Int) (f:Bool):AV :=.tup (.acons (ordQ o) (.acons (.bool f) .anil))
theorem wu (l:List Int):FnIs Try.prog 76 [.own 0 0 l.length 1 none] [(0,zRow l)] (.own 0 0 l.length 1 (some l.length)) [(0,zRow l)]:=by
 refine aG aa Try.func76 rfl rfl rfl ?_;refine sR<|rC<|nR ?_;refine zD ?_;refine rQ (bz aa rfl rfl) ?_;refine rC ?_;refine rQ (bz aa rfl rfl) ?_;refine rQ (ry aa rfl rfl rfl rfl rfl) ?_;refine rC<|nS<|eD ?_
 exact⟨trivial,[],lg zV ⟨zR,trivial⟩⟩
def ordV:List Int→AV
 | []=>.empty
 | a::o=>.own 66 0 (a::o).length 1 none
def ordR:List Int→List (Nat×Row)
 | []=>[]
 | a::o=>[(66,zRow (a::o))]
abbrev lE (at_:Int) (v:AV):Env:=[(6,.int .i64 at_),(5,v),(4,.ptr 65 []),(0,.ptr 0 [])]
abbrev lR (l:List HOp) (b e:Int) (p:Prep) (sp:List (List aI)) (q:QS) (g:List Bool) (o:List (Nat×Row)):List (Nat×Row):=(65,.box 93 (.d (.arr 1 dK g)))::(o++bZ l b e p sp q 9)
structure tj (p:Prep) (l:List HOp) (e:Nat) (st:List LSt) (sp:List (List aI)) (μ:Nat→Nat):Prop where
 go:∀(i:Nat),(dJ p l e st sp)[i]?=some true→kH p l e st sp e i=true∨∃y,(spN sp i).find? (ga (dJ p l e st sp))=some y
 dn:∀(i:Nat) ys,sp[i]?=some ys→∀y∈ys,μ y.to.toNat<μ i
 m0:μ 0≤1000000
def je (p:Prep) (l:List HOp) (e:Nat) (st:List LSt) (sp:List (List aI)) (n:Nat):List Int×Bool :=
 if (dJ p l e st sp)[0]?=some true then (eo p l e st sp (dJ p l e st sp) n 0 [],true) else ([],false)
theorem fY {p:Prep} {l:List HOp} {e:Nat} {st:List LSt} {sp:List (List aI)} {g:List Bool} {μ:Nat→Nat} (dn:∀(i:Nat) ys,sp[i]?=some ys→∀y∈ys,μ y.to.toNat<μ i):∀(n:Nat) (i:Int) (o:List Int) (m:Nat),μ i.toNat<n→μ i.toNat<m→eo p l e st sp g n i o=eo p l e st sp g m i o
 | 0,_,_,_,h,_=>by omega
 | n+1,i,o,0,_,h=>by omega
 | n+1,i,o,m+1,h1,h2=>by
  unfold eo
  split
  ·rfl
  ·split
   ·rfl
   ·rename_i y hy
    have hym:=List.mem_of_find?_eq_some hy
    have hd:μ y.to.toNat<μ i.toNat:=by
     unfold spN at hym
     cases hs:sp[i.toNat]? with
     | none=>rw[hs]at hym; cases hym
     | some ys=>rw[hs]at hym; exact dn i.toNat ys hs y hym
    exact fY dn n y.to _ m (by omega) (by omega)
theorem vO (l:List HOp) (b:Int) (e:Nat) (p:Prep) (sp:List (List aI)) (q:QS) (μ:Nat→Nat) (P:POk l e p) (hS:∀y∈q.2,SOk p e y) (he:e≤1048576) (hsp:SpOk q.2 sp) (hE:wK q.2 sp) (hN:q.2.length≤1048576) (h0:0<q.2.length) (hT:totS sp+1≤67108864) (hL:tj p l e q.2 sp μ):FnIs Try.prog 57 [.ptr 0 []] (bZ l b e p sp q 9) (ordE (je p l e q.2 sp (μ 0+1)).1 (je p l e q.2 sp (μ 0+1)).2) (ordW (je p l e q.2 sp (μ 0+1)).1++bZ l b e p sp q 9):=by
 have hgood:=xy l b e p sp q P hS he hsp hN h0 hT
 have hgl:=m7 p l e q.2 sp
 have hgo:=hL.go
 obtain⟨g,hgd⟩:∃g,g=dJ p l e q.2 sp:=⟨_,rfl⟩
 unfold je
 rw[←hgd]at hgood hgl hgo ⊢
 obtain⟨c,hc⟩:∃c,g[0]?=some c:=⟨_,List.getElem?_eq_getElem (by omega)⟩
 have hg0:g[((0:Int)).toNat]?=some c:=hc
 refine aG aa Try.func57 rfl rfl rfl ?_
 cases c with
 | false =>
  rw[if_neg (by rw[hc]; decide)]
  refine sR<|zD<|nR ?_;refine rC ?_;refine bF rfl (aQ [] hgood rfl rfl rfl (aV rfl rfl ai) ⟨zH,zN,zN,zH,zN,zN,zN,zN,zN,zH,zH,trivial⟩ rfl rfl (.inl rfl) rfl rfl) rfl rfl ?_;refine rN ?_;refine rW<|zW ?_;refine rQ iM ?_;refine rQ (aC aa rfl rfl rfl rfl rfl (by decide) hg0) ?_;refine rQ iL ?_;refine rC ?_;refine zO<|sR ?_;refine zD<|zT<|bQ ?_
  exact⟨trivial,[],lg ⟨⟨_,rfl,AVLe.tup1 (ia _ _) rfl⟩,rfl,trivial⟩ ⟨zR,zM,zM,zR,zM,zM,zM,zM,zM,zR,zR,trivial⟩⟩
 | true =>
  rw[if_pos hc]
  have hm0:=hL.m0
  have hspl:=hsp.len
  refine sR<|zD<|nR ?_;refine rC ?_;refine bF rfl (aQ [] hgood rfl rfl rfl (aV rfl rfl ai) ⟨zH,zN,zN,zH,zN,zN,zN,zN,zN,zH,zH,trivial⟩ rfl rfl (.inl rfl) rfl rfl) rfl rfl ?_;refine rN ?_;refine rW<|zW ?_;refine rQ iM ?_;refine rQ (aC aa rfl rfl rfl rfl rfl (by decide) hg0) ?_;refine rQ iL ?_;refine rC ?_;refine zJ<|kS<|sR ?_;refine rQ (qV aa rfl rfl) ?_;refine rC<|zW ?_;refine rC<|zP ?_
  refine wc_inv (fun s:Int×List Int=>⟨lE s.1 (ordV s.2),aB (lR l b e p sp q g (ordR s.2)),72,Try.f57.ntmps,64⟩) (fun s=>0≤s.1∧s.1<(q.2.length:Int)∧g[s.1.toNat]?=some true∧s.2.length+μ s.1.toNat≤μ 0∧∀k,μ s.1.toNat<k→eo p l e q.2 sp g k s.1 s.2=eo p l e q.2 sp g (μ 0+1) 0 []) (fun s=>μ s.1.toNat) (0,[]) [(65,some 96)] ⟨Int.le_refl _,by simp only; omega,hc,by simp,(fun k hk=>fY hL.dn k 0 [] _ hk (Nat.lt_succ_self _))⟩
   (lg zi ⟨zR,zR,zM,zM,zR,zM,zM,zM,zM,zM,zR,zR,trivial⟩) ?_
  rintro⟨i,o⟩ ⟨hi0,hi1,hgi,hol0,hlG⟩
  simp only at hi0 hi1 hgi hol0 hlG
  refine cf ?_
  show WC _ _ _ _ (lE i (ordV o)) (aB (lR l b e p sp q g (ordR o))) _
  obtain⟨x,hx⟩:∃x,q.2[i.toNat]?=some x:=⟨_,List.getElem?_eq_getElem (by omega)⟩
  have hends:=s5 l b e p sp q P hS he hsp hE hT e i x hi0 hx (by have:=(hS x (List.mem_of_getElem? hx)).era; omega)
  have hlG1:=hlG (μ i.toNat+1) (by omega)
  rw[eo]at hlG1
  cases hen:kH p l e q.2 sp e i with
  | true =>
   rw[hen]at hends
   rw[hen,if_pos rfl]at hlG1
   rw[←hlG1]
   cases o with
   | nil =>
    show WC _ _ _ _ (lE i .empty) (aB (lR l b e p sp q g [])) _
    have d9:decide ((0:Int)=0)=true:=rfl
    refine qR<|zD ?_;refine bF rfl (aQ [] hends rfl rfl rfl (aV rfl rfl (ak ai)) ⟨zH,zN,zN,zH,zN,zN,zN,zN,zN,zH,zH,trivial⟩ rfl rfl (.inl rfl) rfl rfl) rfl rfl ?_;refine rC ?_;refine zJ<|zX<|qR ?_;refine rC ?_;refine rQ (tS aa rfl rfl) ?_;refine rC ?_;refine zO<|sR ?_;refine zD<|zT<|bQ ?_
    exact⟨trivial,[],lg ⟨⟨_,rfl,AVLe.tup1 (ia _ _) rfl⟩,rfl,trivial⟩ ⟨zR,zM,zM,zR,zM,zM,zM,zM,zM,zR,zR,trivial⟩⟩
   | cons a0 o0 =>
    show WC _ _ _ _ (lE i (.own 66 0 (a0::o0).length 1 none)) (aB (lR l b e p sp q g [(66,zRow (a0::o0))])) _
    have d9:decide (((a0::o0).length:Int)=0)=false:=dF (by simp only[List.length_cons]; omega)
    refine qR<|zD ?_;refine bF rfl (aQ [] hends rfl rfl rfl (aV rfl rfl (ak ai)) ⟨zH,zN,zN,zH,zN,zN,zN,zN,zN,zH,zH,trivial⟩ rfl rfl (.inl rfl) rfl rfl) rfl rfl ?_;refine rC ?_;refine zJ<|zX<|qR ?_;refine rC ?_;refine rQ (bz aa rfl rfl) ?_;refine rC ?_;refine zJ<|kS<|sR ?_;refine rC ?_;refine aS (aQ [(0,some 66)] (wu (a0::o0)) rfl rfl rfl (dh rfl rfl ai) ⟨zH,trivial⟩ rfl rfl (.inl rfl) rfl rfl) rfl ?_;refine zD<|zT ?_
    exact⟨trivial,[(64,some 66)],lg zl ⟨zR,zR,zM,zM,zR,zM,zM,zM,zM,zM,zR,zR,trivial⟩⟩
  | false =>
   rw[hen]at hends
   rw[hen,if_neg (by decide)]at hlG1
   obtain⟨ys,hys⟩:∃ys,sp[i.toNat]?=some ys:=⟨_,List.getElem?_eq_getElem (by omega)⟩
   have hspn:spN sp i=ys:=by rw[spN,hys]; rfl
   have hspn2:spN sp ((i.toNat:Nat):Int)=ys:=by rw[Int.toNat_of_nonneg hi0]; exact hspn
   obtain⟨y,hy⟩:∃y,ys.find? (ga g)=some y:=by
    rcases hgo i.toNat hgi with h | ⟨y,h⟩
    ·rw[Int.toNat_of_nonneg hi0,hen]at h; cases h
    ·rw[hspn2]at h; exact⟨y,h⟩
   have hto:=hsp.to ys (List.mem_of_getElem? hys)
   have hyl:ys.length≤67108864:=by have h1:=kX hys; have h2:=lX sp (i.toNat+1); omega
   have hix:=yB ys 75 g (ga g) (by omega) (fun o ho=>yK g o (hto o ho).1 (by have:=(hto o ho).2; omega))
   obtain⟨k,hk,hyk⟩:=qy ys 0 hy
   rw[hk,Nat.zero_add]at hix
   have hkl:=(List.getElem?_eq_some_iff.1 hyk).1
   have hk2:ys[((k:Nat):Int).toNat]?=some y:=by rw[Int.toNat_natCast]; exact hyk
   have hym:=List.mem_of_getElem? hyk
   obtain⟨hy0,hy1⟩:=hto y hym
   have hdn:=hL.dn i.toNat ys hys y hym
   have hgy:g[y.to.toNat]?=some true:=by
    have:=List.find?_some hy
    unfold ga at this
    cases hq:g[y.to.toNat]? with
    | none=>rw[hq]at this; cases this
    | some c=>rw[hq]at this; simp only[Option.getD_some]at this; rw[this]
   have hlG2:∀m,eo p l e q.2 sp g (m+1) i o=eo p l e q.2 sp g m y.to (if decide (0≤y.op)=true then o++[y.op] else o):=fun m=>by
    rw[eo,hen,if_neg (by decide),hspn,hy]
   have hlG3:∀k,μ y.to.toNat<k→eo p l e q.2 sp g k y.to (if decide (0≤y.op)=true then o++[y.op] else o)=eo p l e q.2 sp g (μ 0+1) 0 []:=fun m hm=>by
    rw[fY hL.dn m y.to _ (μ i.toNat) hm hdn,←hlG2]
    exact hlG _ (by omega)
   cases d5:decide (0≤y.op) with
   | false =>
    rw[d5,if_neg (by decide)]at hlG3
    cases o with
    | nil =>
     show WC _ _ _ _ (lE i .empty) (aB (lR l b e p sp q g [])) _
     refine qR<|zD ?_;refine bF rfl (aQ [] hends rfl rfl rfl (aV rfl rfl (ak ai)) ⟨zH,zN,zN,zH,zN,zN,zN,zN,zN,zH,zH,trivial⟩ rfl rfl (.inl rfl) rfl rfl) rfl rfl ?_;refine rC ?_;refine zO<|kS<|zS ?_;refine zU ?_;refine rQ iM ?_;refine rC ?_;refine rQ (aP aa rfl rfl rfl rfl rfl hi0 (by omega)) ?_;refine rQ (bf (v :=.d (cr ys)) aa rfl rfl ⟨rfl,ys,hys,cr ys,rfl,rfl⟩ rfl) ?_;refine rC ?_;refine aS (aQ [(0,some 65)] hix rfl rfl rfl (ak (cG rfl rfl ai)) ⟨zH,trivial⟩ rfl rfl (.inl rfl) rfl rfl) rfl ?_;refine rC<|nR ?_;refine zU ?_;refine rQ iM ?_;refine rC ?_;refine rQ (aP aa rfl rfl rfl rfl rfl hi0 (by omega)) ?_;refine rQ (bf (v :=.d (cr ys)) aa rfl rfl ⟨rfl,ys,hys,cr ys,rfl,rfl⟩ rfl) ?_;refine rC ?_;refine rQ (aC aa rfl rfl rfl rfl rfl (by omega) hk2) ?_;refine rQ iL ?_;refine rN ?_;refine rW<|nR ?_;refine rC ?_;refine rQ iB ?_;refine rC<|nR ?_;refine rC ?_;refine rQ iB ?_;refine rC ?_;refine zG<|bg<|gR ?_
     exact aU (y.to,[]) [(65,some 65)] ⟨hy0,hy1,hgy,by simp only[List.length_nil]at hol0 ⊢; omega,hlG3⟩ hdn (lg zi ⟨zR,zR,zM,zM,zR,zM,zM,zM,zM,zM,zR,zR,trivial⟩)
    | cons a0 o0 =>
     show WC _ _ _ _ (lE i (.own 66 0 (a0::o0).length 1 none)) (aB (lR l b e p sp q g [(66,zRow (a0::o0))])) _
     refine qR<|zD ?_;refine bF rfl (aQ [] hends rfl rfl rfl (aV rfl rfl (ak ai)) ⟨zH,zN,zN,zH,zN,zN,zN,zN,zN,zH,zH,trivial⟩ rfl rfl (.inl rfl) rfl rfl) rfl rfl ?_;refine rC ?_;refine zO<|kS<|zS ?_;refine zU ?_;refine rQ iM ?_;refine rC ?_;refine rQ (aP aa rfl rfl rfl rfl rfl hi0 (by omega)) ?_;refine rQ (bf (v :=.d (cr ys)) aa rfl rfl ⟨rfl,ys,hys,cr ys,rfl,rfl⟩ rfl) ?_;refine rC ?_;refine aS (aQ [(0,some 65)] hix rfl rfl rfl (ak (cG rfl rfl ai)) ⟨zH,trivial⟩ rfl rfl (.inl rfl) rfl rfl) rfl ?_;refine rC<|nR ?_;refine zU ?_;refine rQ iM ?_;refine rC ?_;refine rQ (aP aa rfl rfl rfl rfl rfl hi0 (by omega)) ?_;refine rQ (bf (v :=.d (cr ys)) aa rfl rfl ⟨rfl,ys,hys,cr ys,rfl,rfl⟩ rfl) ?_;refine rC ?_;refine rQ (aC aa rfl rfl rfl rfl rfl (by omega) hk2) ?_;refine rQ iL ?_;refine rN ?_;refine rW<|nR ?_;refine rC ?_;refine rQ iB ?_;refine rC<|nR ?_;refine rC ?_;refine rQ iB ?_;refine rC ?_;refine zG<|bg<|gR ?_
     exact aU (y.to,a0::o0) [(65,some 65),(66,some 66)] ⟨hy0,hy1,hgy,by simp only at hol0 ⊢; omega,hlG3⟩ hdn (lg zi ⟨zR,zR,zR,zM,zM,zR,zM,zM,zM,zM,zM,zR,zR,trivial⟩)
   | true =>
    rw[d5,if_pos rfl]at hlG3
    cases o with
    | nil =>
     show WC _ _ _ _ (lE i .empty) (aB (lR l b e p sp q g [])) _
     refine qR<|zD ?_;refine bF rfl (aQ [] hends rfl rfl rfl (aV rfl rfl (ak ai)) ⟨zH,zN,zN,zH,zN,zN,zN,zN,zN,zH,zH,trivial⟩ rfl rfl (.inl rfl) rfl rfl) rfl rfl ?_;refine rC ?_;refine zO<|kS<|zS ?_;refine zU ?_;refine rQ iM ?_;refine rC ?_;refine rQ (aP aa rfl rfl rfl rfl rfl hi0 (by omega)) ?_;refine rQ (bf (v :=.d (cr ys)) aa rfl rfl ⟨rfl,ys,hys,cr ys,rfl,rfl⟩ rfl) ?_;refine rC ?_;refine aS (aQ [(0,some 65)] hix rfl rfl rfl (ak (cG rfl rfl ai)) ⟨zH,trivial⟩ rfl rfl (.inl rfl) rfl rfl) rfl ?_;refine rC<|nR ?_;refine zU ?_;refine rQ iM ?_;refine rC ?_;refine rQ (aP aa rfl rfl rfl rfl rfl hi0 (by omega)) ?_;refine rQ (bf (v :=.d (cr ys)) aa rfl rfl ⟨rfl,ys,hys,cr ys,rfl,rfl⟩ rfl) ?_;refine rC ?_;refine rQ (aC aa rfl rfl rfl rfl rfl (by omega) hk2) ?_;refine rQ iL ?_;refine rN ?_;refine rW<|nR ?_;refine rC ?_;refine rQ iB ?_;refine rC<|nR ?_;refine rC ?_;refine rQ iB ?_;refine rC ?_;refine zI<|ao ?_;refine zD ?_;refine rQ iB ?_;refine bt (aH aa rfl rfl rfl rfl rfl rfl rfl rfl) rfl ?_;refine bt (nr (enc:=i6) (s:=1) aa y.op rfl rfl rfl rfl (.inl rfl) rfl rfl rfl rfl) rfl ?_;refine rC<|aE<|gR ?_
     exact aU (y.to,[y.op]) [(65,some 65),(66,some 360)] ⟨hy0,hy1,hgy,by simp only[List.length_nil,List.length_singleton]at hol0 ⊢; omega,hlG3⟩ hdn (lg zi ⟨zR,zR,zR,zM,zM,zR,zM,zM,zM,zM,zM,zR,zR,trivial⟩)
    | cons a0 o0 =>
     show WC _ _ _ _ (lE i (.own 66 0 (a0::o0).length 1 none)) (aB (lR l b e p sp q g [(66,zRow (a0::o0))])) _
     obtain⟨o,ho⟩:∃o,o=a0::o0:=⟨_,rfl⟩
     rw[←ho]at hol0 hlG3 ⊢
     have hol:o.length+1≤1048576:=by omega
     refine qR<|zD ?_;refine bF rfl (aQ [] hends rfl rfl rfl (aV rfl rfl (ak ai)) ⟨zH,zN,zN,zH,zN,zN,zN,zN,zN,zH,zH,trivial⟩ rfl rfl (.inl rfl) rfl rfl) rfl rfl ?_;refine rC ?_;refine zO<|kS<|zS ?_;refine zU ?_;refine rQ iM ?_;refine rC ?_;refine rQ (aP aa rfl rfl rfl rfl rfl hi0 (by omega)) ?_;refine rQ (bf (v :=.d (cr ys)) aa rfl rfl ⟨rfl,ys,hys,cr ys,rfl,rfl⟩ rfl) ?_;refine rC ?_;refine aS (aQ [(0,some 65)] hix rfl rfl rfl (ak (cG rfl rfl ai)) ⟨zH,trivial⟩ rfl rfl (.inl rfl) rfl rfl) rfl ?_;refine rC<|nR ?_;refine zU ?_;refine rQ iM ?_;refine rC ?_;refine rQ (aP aa rfl rfl rfl rfl rfl hi0 (by omega)) ?_;refine rQ (bf (v :=.d (cr ys)) aa rfl rfl ⟨rfl,ys,hys,cr ys,rfl,rfl⟩ rfl) ?_;refine rC ?_;refine rQ (aC aa rfl rfl rfl rfl rfl (by omega) hk2) ?_;refine rQ iL ?_;refine rN ?_;refine rW<|nR ?_;refine rC ?_;refine rQ iB ?_;refine rC<|nR ?_;refine rC ?_;refine rQ iB ?_;refine rC ?_;refine zI<|ao ?_;refine zD ?_;refine rQ iB ?_;refine bt (aH aa rfl rfl rfl rfl rfl rfl rfl rfl) rfl ?_;refine aS (bG (s:=1) (enc:=i6) (xs:=o) aa y.op rfl rfl rfl rfl rfl rfl rfl rfl rfl hol rfl) rfl ?_;refine rC<|aE<|gR ?_
     subst ho
     exact aU (y.to,a0::o0++[y.op]) [(65,some 65),(66,some 360)] ⟨hy0,hy1,hgy,by simp only[List.length_append,List.length_singleton]at hol0 ⊢; omega,hlG3⟩ hdn (lg ⟨zE,rfl,⟨_,rfl,AVLe.of_eq (by show _=AV.ren _ (AV.own 66 0 (a0::o0++[y.op]).length 1 none); rw[List.length_append]; rfl)⟩,rfl,zE,rfl,zE,rfl,trivial⟩ ⟨zR,zR,zR,zM,zM,zR,zM,zM,zM,zM,zM,zR,zR,trivial⟩)
end Go.Proofs.Ytkehohfgbblokaa
namespace Go.Proofs.Ytkehohfgbblokaa
open Go.Eng Go.Plain
set_option maxHeartbeats 32000000
set_option maxRecDepth 20000
def gT (t:List UInt8):Nat:=t.countP fun c=>decide (c=0)
theorem mj (n:Nat):gT (cz n)=n:=by
 unfold gT cz
 induction n with
 | zero=>rfl
 | succ n ih=>rw[List.replicate_succ,List.countP_cons,ih]; rfl
theorem pI {t:List UInt8} {k:Nat} (h:t[k]?=some 0):gT (gz t k)+1=gT t:=by
 have hlt:=(List.getElem?_eq_some_iff.1 h).1
 have e:t=t.take k++0::t.drop (k+1):=by
  have:=List.take_append_drop k t
  rw[List.drop_eq_getElem_cons hlt,(List.getElem?_eq_some_iff.1 h).2]at this
  exact this.symm
 unfold gT gz
 rw[List.countP_append,List.countP_append]
 conv=>rhs; rw[e,List.countP_append,List.countP_cons]
 simp
 omega
theorem tq {t:List UInt8} {k:Nat} (hk:k<t.length) (h:tkB t (k:Int)=false):t[k]?=some 0:=by
 obtain⟨c,hc⟩:∃c,t[k]?=some c:=⟨_,List.getElem?_eq_getElem hk⟩
 unfold tkB at h
 rw[Int.toNat_natCast,hc,Option.getD_some]at h
 have h2:=of_decide_eq_false h
 rw[hc]
 congr 1
 apply UInt8.toNat_inj.1
 show c.toNat=0
 omega
def mf (p:Prep) (st:List LSt) (x:LSt) (y:aI):Prop :=
 0≤y.to∧∃x',st[y.to.toNat]?=some x'∧((0≤y.op∧x'.era=x.era∧gT x'.taken+1=gT x.taken)∨(y.op<0∧x'.era=x.era+1∧gT x'.taken=(zOf p x'.era).length))
def Ext (a b:List LSt):Prop:=∀(i:Nat) (x:LSt),a[i]?=some x→b[i]?=some x
theorem Ext.refl (a:List LSt):Ext a a:=fun _ _ h=>h
theorem Ext.trans {a b c:List LSt} (h1:Ext a b) (h2:Ext b c):Ext a c:=fun i x h=>h2 i x (h1 i x h)
theorem Ext.step {p:Prep} {a b:List LSt} {x:LSt} {y:aI} (h:Ext a b) (hs:mf p a x y):mf p b x y:=by
 obtain⟨h0,x',h1,h2⟩:=hs
 exact⟨h0,x',h _ _ h1,h2⟩
structure QOk (p:Prep) (e:Nat) (q:QS):Prop where
 st:∀y∈q.2,SOk p e y
 kn:∀x n,getA q.1 x=some n→0≤n∧q.2[n.toNat]?=some x
 uq:∀(i:Nat) (x:LSt),q.2[i]?=some x→getA q.1 x=some (i:Int)
theorem mc {p:Prep} {e:Nat} {q:QS} {x:LSt} (Q:QOk p e q) (hx:SOk p e x):QOk p e (addS q x).1∧Ext q.2 (addS q x).1.2∧0≤(addS q x).2∧(addS q x).1.2[(addS q x).2.toNat]?=some x:=by
 have hok:=mb (q:=q) Q.st hx
 unfold addS at hok ⊢
 cases hg:getA q.1 x with
 | some n =>
  obtain⟨h1,h2⟩:=Q.kn x n hg
  exact⟨Q,Ext.refl _,h1,h2⟩
 | none =>
  rw[hg]at hok
  simp only at hok ⊢
  refine⟨⟨hok,fun z n hz=>?_,fun i z hz=>?_⟩,fun i z hz=>?_,by omega,?_⟩
  ·rw[gI]at hz
   split at hz
   ·rename_i e; cases hz; subst e
    exact⟨by omega,by rw[Int.toNat_natCast,List.getElem?_append_right (Nat.le_refl _),Nat.sub_self]; rfl⟩
   ·obtain⟨h1,h2⟩:=Q.kn z n hz
    exact⟨h1,by rw[List.getElem?_append_left (List.getElem?_eq_some_iff.1 h2).1]; exact h2⟩
  ·rw[gI]
   by_cases hi:i<q.2.length
   ·rw[List.getElem?_append_left hi]at hz
    have:=Q.uq i z hz
    split
    ·rename_i e; subst e; rw[hg]at this; cases this
    ·exact this
   ·rw[List.getElem?_append_right (by omega)]at hz
    have hil:i-q.2.length=0:=by have:=(List.getElem?_eq_some_iff.1 hz).1; simp at this; omega
    rw[hil]at hz
    simp only[List.getElem?_cons_zero,Option.some.injEq]at hz
    subst hz
    rw[if_pos rfl]
    congr 1; omega
  ·rw[List.getElem?_append_left (List.getElem?_eq_some_iff.1 hz).1]; exact hz
  ·rw[Int.toNat_natCast,List.getElem?_append_right (Nat.le_refl _),Nat.sub_self]; rfl
theorem vY (p:Prep) (x:LSt) (o:HOp):(hapS p x o).1.era=x.era:=by unfold hapS; split <;> (try split) <;> (try split) <;> rfl
structure NInv (p:Prep) (e:Nat) (q:QS) (x:LSt) (k:Nat) (a:QS×List aI):Prop where
 ok:QOk p e a.1
 ext:Ext q.2 a.1.2
 rel:∀y∈a.2,mf p a.1.2 x y
 len:a.2.length≤k
theorem xl {l:List HOp} {e:Nat} {p:Prep} {x:LSt} {k:Nat} {i:Int} {q:QS} {a:QS×List aI} (P:POk l e p) (S:SOk p e x) (hi:(zOf p x.era)[k]?=some i) (N:NInv p e q x k a):NInv p e q x (k+1) (opS p l x k i a):=by
 obtain⟨e0,e1⟩:=S.era
 obtain⟨n,hn⟩:∃n:Nat,x.era=n:=⟨x.era.toNat,by omega⟩
 have hm:=P.zm (k:=n) (by omega)
 have hi':=hi
 rw[hn]at hi
 obtain⟨i0,o,ho,hO⟩:=P.row _ hm i (List.mem_of_getElem? hi)
 have hop:opN l i.toNat=o:=by rw[opN,ho]; rfl
 have hkl:=(List.getElem?_eq_some_iff.1 hi).1
 have htk:k<x.taken.length:=by rw[S.tk,hn]; exact hkl
 unfold opS
 split
 ·exact⟨N.ok,N.ext,N.rel,Nat.le_succ_of_le N.len⟩
 ·rename_i hsk
  split
  ·rw[hop]
   have hS:=sY P S hO
   have hera:=vY p x o
   have hy:SOk p e { (hapS p x o).1 with taken:=gz x.taken k }:=⟨hS.era,by simp only; rw[nF htk,S.tk,hera],hS.ar,hS.du⟩
   obtain⟨h1,h2,h3,h4⟩:=mc N.ok hy
   have hz:x.taken[k]?=some 0:=tq htk (by
    unfold jO at hsk
    simp only[Bool.or_eq_true,not_or,Bool.not_eq_true]at hsk
    exact hsk.2.1)
   refine⟨h1,N.ext.trans h2,fun y hy'=>?_,by simp only[List.length_append,List.length_singleton]; have:=N.len; omega⟩
   rcases List.mem_append.1 hy' with hy' | hy'
   ·exact h2.step (N.rel y hy')
   ·rw[List.mem_singleton.1 hy']
    exact⟨h3,_,h4,.inl ⟨i0,hera,pI hz⟩⟩
  ·exact⟨N.ok,N.ext,N.rel,Nat.le_succ_of_le N.len⟩
theorem n9 {l:List HOp} {e:Nat} {p:Prep} {x:LSt} {q:QS} (P:POk l e p) (S:SOk p e x):∀(z:List Int) (k:Nat) (a:QS×List aI),(zOf p x.era).drop k=z→NInv p e q x k a→NInv p e q x (k+z.length) (c5 p l x z k a)
 | [],_,a,_,h=>h
 | i::z,k,a,hz,h=>by
  have hi:(zOf p x.era)[k]?=some i:=by
   have:=congrArg (fun l=>l[0]?) hz
   simpa using this
  have:=n9 P S z (k+1) _ (by have:=congrArg List.tail hz; simpa using this) (xl P S hi h)
  rw[List.length_cons,show k+(z.length+1)=k+1+z.length by omega]
  exact this
theorem tQ {l:List HOp} {e:Nat} {p:Prep} {x:LSt} {q:QS} (P:POk l e p) (S:SOk p e x) (Q:QOk p e q):NInv p e q x ((zOf p x.era).length+1) (cu p l e x q):=by
 have h:=n9 P S (zOf p x.era) 0 (q,[]) (by simp) ⟨Q,Ext.refl _,(fun y hy=>by cases hy),Nat.le_refl _⟩
 rw[Nat.zero_add]at h
 have hw:NInv p e q x ((zOf p x.era).length+1) (c5 p l x (zOf p x.era) 0 (q,[])):=⟨h.ok,h.ext,h.rel,Nat.le_succ_of_le h.len⟩
 obtain⟨e0,e1⟩:=S.era
 unfold cu mK
 split
 ·rename_i hd
  have hd:=of_decide_eq_true hd
  split
  ·have hy:SOk p e ⟨x.era+1,cz (zOf p (x.era+1)).length,x.durable,x.durable⟩:=⟨⟨by simp only; omega,hd⟩,by simp[cz],S.du,S.du⟩
   obtain⟨h1,h2,h3,h4⟩:=mc h.ok hy
   refine⟨h1,h.ext.trans h2,fun y hy'=>?_,by simp only[List.length_append,List.length_singleton]; have:=h.len; omega⟩
   rcases List.mem_append.1 hy' with hy' | hy'
   ·exact h2.step (h.rel y hy')
   ·rw[List.mem_singleton.1 hy']
    exact⟨h3,_,h4,.inr ⟨show (-1:Int)<0 by decide,rfl,mj _⟩⟩
  ·exact hw
 ·exact hw
structure SInv (p:Prep) (e:Nat) (i:Nat) (q:QS) (sp:List (List aI)):Prop where
 ok:QOk p e q
 len:sp.length=i
 le:i≤q.2.length
 fst:q.2[0]?=some (c6 p)
 rel:∀(k:Nat) x ys,q.2[k]?=some x→sp[k]?=some ys→ys.length≤(zOf p x.era).length+1∧∀y∈ys,mf p q.2 x y
theorem uh {p:Prep} {e:Nat} (he:0<e):SOk p e (c6 p):=⟨⟨Int.le_refl _,by show (0:Int)<e; omega⟩,by simp[c6,cz],by simp[c6,cz],by simp[c6,cz]⟩
theorem xW {p:Prep} {e:Nat} (he:0<e):SInv p e 0 (addS ([],[]) (c6 p)).1 []:=by
 obtain⟨h1,h2,h3,h4⟩:=mc (q:=([],[])) ⟨(fun y hy=>by cases hy),(fun x n h=>by cases h),(fun i x h=>by simp at h)⟩ (uh (p:=p) he)
 exact⟨h1,rfl,Nat.zero_le _,h4,fun k x ys _ hs=>by simp at hs⟩
theorem tx {l:List HOp} {p:Prep} {e:Nat} {i:Nat} {q:QS} {sp:List (List aI)} {x:LSt} (P:POk l e p) (I:SInv p e i q sp) (hx:q.2[i]?=some x):SInv p e (i+1) (cu p l e x q).1 (sp++[(cu p l e x q).2]):=by
 have N:=tQ P (I.ok.st x (List.mem_of_getElem? hx)) I.ok
 have hil:=(List.getElem?_eq_some_iff.1 hx).1
 have hle:=n6 p l e x q
 refine⟨N.ok,by rw[List.length_append,List.length_singleton,I.len],by omega,N.ext _ _ I.fst,fun k z ys hz hs=>?_⟩
 by_cases hk:k<i
 ·rw[List.getElem?_append_left (by rw[I.len]; exact hk)]at hs
  obtain⟨z',hz'⟩:∃z',q.2[k]?=some z':=⟨_,List.getElem?_eq_getElem (by omega)⟩
  have e1:=N.ext k z' hz'
  rw[hz]at e1
  cases e1
  obtain⟨h1,h2⟩:=I.rel k z ys hz' hs
  exact⟨h1,fun y hy=>N.ext.step (h2 y hy)⟩
 ·rw[List.getElem?_append_right (by rw[I.len]; omega),I.len]at hs
  have hk0:k-i=0:=by have:=(List.getElem?_eq_some_iff.1 hs).1; simp at this; omega
  rw[hk0]at hs
  simp only[List.getElem?_cons_zero,Option.some.injEq]at hs
  subst hs
  have hki:k=i:=by omega
  subst hki
  have e1:=N.ext k x hx
  rw[hz]at e1
  cases e1
  exact⟨N.len,N.rel⟩
theorem nJ {l:List HOp} {p:Prep} {e:Nat} {fuel:Int} (P:POk l e p):∀(n i:Nat) (q:QS) (sp:List (List aI)) (r:QS×List (List aI)),SInv p e i q sp→fw p l e fuel n i q sp=some r→SInv p e r.1.2.length r.1 r.2∧(r.1.2.length:Int)≤fuel
 | 0,i,q,sp,r,_,h=>by simp[fw]at h
 | n+1,i,q,sp,r,I,h=>by
  unfold fw at h
  cases hx:q.2[i]? with
  | none =>
   rw[hx]at h
   simp only at h
   split at h
   ·cases h
   ·cases h
    have h1:=List.getElem?_eq_none_iff.1 hx
    have h2:=I.le
    have h3:i=q.2.length:=by omega
    subst h3
    exact⟨I,by simp only; omega⟩
  | some x =>
   rw[hx]at h
   simp only at h
   split at h
   ·cases h
   ·exact nJ P n (i+1) _ _ r (tx P I hx) h
theorem jv {l:List HOp} {p:Prep} {e:Nat} {fuel:Int} {q:QS} {sp:List (List aI)} (P:POk l e p) (he:0<e) (h:nI p l e fuel=some (q,sp)):SInv p e q.2.length q sp∧(q.2.length:Int)≤fuel :=
 nJ P _ _ _ _ _ (xW he) h
def lF (p:Prep):Nat→Nat→Nat
 | 0,_=>0
 | n+1,k=>(zOf p k).length+lF p n (k+1)
def rkS (p:Prep) (e:Nat) (x:LSt):Nat:=(e-x.era.toNat)+lF p (e-(x.era.toNat+1)) (x.era.toNat+1)+gT x.taken
def muS (p:Prep) (e:Nat) (st:List LSt) (i:Nat):Nat:=match st[i]? with
 | some x=>rkS p e x
 | none=>0
theorem SInv.spOk {p:Prep} {e:Nat} {q:QS} {sp:List (List aI)} (I:SInv p e q.2.length q sp):SpOk q.2 sp:=by
 refine⟨I.len,fun ys hys y hy=>?_⟩
 obtain⟨k,hk⟩:=List.mem_iff_getElem?.1 hys
 have hkl:=(List.getElem?_eq_some_iff.1 hk).1
 rw[I.len]at hkl
 obtain⟨h0,x',h1,_⟩:=(I.rel k _ ys (List.getElem?_eq_getElem hkl) hk).2 y hy
 have:=(List.getElem?_eq_some_iff.1 h1).1
 exact⟨h0,by omega⟩
theorem SInv.eraOk {p:Prep} {e:Nat} {q:QS} {sp:List (List aI)} (I:SInv p e q.2.length q sp):wK q.2 sp:=fun i x ys hx hys y hy hop=>by
 obtain⟨h0,x',h1,h2 | h2⟩:=(I.rel i x ys hx hys).2 y hy
 ·omega
 ·exact⟨x',h1,h2.2.1⟩
theorem SInv.dn {p:Prep} {e:Nat} {q:QS} {sp:List (List aI)} (I:SInv p e q.2.length q sp) (i:Nat) (ys:List aI) (hys:sp[i]?=some ys) (y:aI) (hy:y∈ys):muS p e q.2 y.to.toNat<muS p e q.2 i:=by
 have hil:=(List.getElem?_eq_some_iff.1 hys).1
 rw[I.len]at hil
 obtain⟨x,hx⟩:∃x,q.2[i]?=some x:=⟨_,List.getElem?_eq_getElem hil⟩
 obtain⟨h0,x',h1,h2⟩:=(I.rel i x ys hx hys).2 y hy
 have hxe:=(I.ok.st x (List.mem_of_getElem? hx)).era
 have hxe':=(I.ok.st x' (List.mem_of_getElem? h1)).era
 unfold muS
 rw[h1,hx]
 simp only[rkS]
 rcases h2 with ⟨_,h3,h4⟩ | ⟨_,h3,h4⟩
 ·rw[h3]; omega
 ·have e1:x'.era.toNat=x.era.toNat+1:=by omega
  have e2:e-(x.era.toNat+1)=(e-(x'.era.toNat+1))+1:=by omega
  rw[e2,lF,h4,e1,show ((x.era.toNat+1:Nat):Int)=x'.era by omega]
  omega
theorem nL {l:List HOp} {b:Int} {e:Nat} {p:Prep} {ks:List Int} {kv:List (List UInt8)} (F:fL l b e p ks kv):∀n k,k+n=e→lF p n k+sumM l b k=sumM l b e
 | 0,k,h=>by
  have:k=e:=by omega
  subst this; simp[lF]
 | n+1,k,h=>by
  have ih:=nL F n (k+1) (by omega)
  have hz:zOf p k=zs (mayI l b k):=by rw[zOf,Int.toNat_natCast,F.opk k (by omega)]; rfl
  rw[show sumM l b (k+1)=sumM l b k+(mayI l b k).length from rfl]at ih
  rw[lF,hz,eN]
  omega
theorem mu0 {l:List HOp} {b:Int} {e:Nat} {p:Prep} {ks:List Int} {kv:List (List UInt8)} {q:QS} {sp:List (List aI)} (F:fL l b e p ks kv) (I:SInv p e q.2.length q sp) (he:0<e):muS p e q.2 0=e+sumM l b e:=by
 unfold muS
 rw[I.fst]
 simp only[rkS,c6]
 obtain⟨n,rfl⟩:∃n,e=n+1:=⟨e-1,by omega⟩
 have h1:=nL F (n+1) 0 (by omega)
 have h2:sumM l b 0=0:=rfl
 rw[mj]
 have h3:lF p (n+1) 0=(zOf p 0).length+lF p n 1:=rfl
 have e0:Int.toNat 0=0:=rfl
 rw[e0,show n+1-(0+1)=n by omega,show 0+1=1 from rfl]
 omega
theorem yj {sp:List (List aI)} {M:Nat} (h:∀ys∈sp,ys.length≤M):totS sp≤sp.length*M:=by
 induction sp with
 | nil=>simp[totS]
 | cons a sp ih =>
  have h1:=h a (by simp)
  have h2:=ih fun ys hys=>h ys (by simp[hys])
  simp only[totS,List.length_cons,Nat.add_mul,Nat.one_mul]
  omega
theorem SInv.tot {p:Prep} {e:Nat} {q:QS} {sp:List (List aI)} (I:SInv p e q.2.length q sp) {M:Nat} (hM:∀x∈q.2,(zOf p x.era).length≤M):totS sp≤q.2.length*(M+1):=by
 have:=yj (sp:=sp) (M:=M+1) fun ys hys=>by
  obtain⟨k,hk⟩:=List.mem_iff_getElem?.1 hys
  have hkl:=(List.getElem?_eq_some_iff.1 hk).1
  rw[I.len]at hkl
  have h1:=(I.rel k _ ys (List.getElem?_eq_getElem hkl) hk).1
  have h2:=hM _ (List.getElem_mem hkl)
  omega
 rwa [I.len]at this
end Go.Proofs.Ytkehohfgbblokaa
namespace Go.Proofs.Ytkehohfgbblokaa
open Go.Eng Go.Plain
set_option maxHeartbeats 32000000
set_option maxRecDepth 20000
section
variable {p : Prep} {l : List HOp} {e : Nat} {st : List LSt} {sp : List (List aI)} {B : List (List Int)} {n : Nat}
def bN (B:List (List Int)) (i:Nat):List Int:=(B[i]?).getD []
def rh (sp:List (List aI)) (n m:Nat) (B:List (List Int)):Prop:=B.length=n∧∀(i:Nat) (k:Int),i<n→(k∈bN B i ↔ ∃j:Nat,k=j∧j<m∧∃y∈spN sp (j:Int),y.to.toNat=i)
theorem wB {i:Nat} (hi:i<n):∀(ys:List aI) (B:List (List Int)),B.length=n→(∀y∈ys,y.to.toNat<n)→(ys.foldl (bkF i) B).length=n∧∀(j:Nat) (k:Int),j<n→(k∈bN (ys.foldl (bkF i) B) j↔k∈bN B j∨(k=i∧∃y∈ys,y.to.toNat=j))
 | [],B,hl,_=>⟨hl,fun j k _=>by simp⟩
 | y::ys,B,hl,hy=>by
  have h0:=hy y (by simp)
  obtain⟨b,hb⟩:∃b,B[y.to.toNat]?=some b:=⟨_,List.getElem?_eq_getElem (by omega)⟩
  have he:bkF i B y=B.set y.to.toNat (b++[(i:Int)]):=by rw[bkF,hb]; rfl
  have hl2:(bkF i B y).length=n:=by rw[he,List.length_set]; exact hl
  obtain⟨h1,h2⟩:=wB hi ys (bkF i B y) hl2 fun z hz=>hy z (by simp[hz])
  refine⟨h1,fun j k hj=>?_⟩
  rw[List.foldl_cons,h2 j k hj]
  have h3:k∈bN (bkF i B y) j↔k∈bN B j∨(k=i∧y.to.toNat=j):=by
   rw[he]
   unfold bN
   by_cases hyj:y.to.toNat=j
   ·subst hyj
    rw[List.getElem?_set_self (by omega),hb]
    simp
   ·rw[List.getElem?_set_ne hyj]
    simp[hyj]
  rw[h3]
  simp only[List.mem_cons,exists_eq_or_imp]
  constructor
  ·rintro ((h | h) | h)
   ·exact .inl h
   ·exact .inr ⟨h.1,.inl h.2⟩
   ·exact .inr ⟨h.1,.inr h.2⟩
  ·rintro (h | ⟨h,h4 | h4⟩)
   ·exact .inl (.inl h)
   ·exact .inl (.inr ⟨h,h4⟩)
   ·exact .inr ⟨h,h4⟩
structure G1 (p:Prep) (l:List HOp) (e:Nat) (st:List LSt) (sp:List (List aI)) (m:Nat) (g:GSt):Prop where
 b:rh sp st.length m g.B
 ol:g.out.length=st.length
 o:∀i,i<st.length→(g.out[i]?=some true↔i<m∧endB p l e (stN st i)=true)
 q:∀k,k∈g.opn ↔ ∃j:Nat,k=j∧j<m∧endB p l e (stN st j)=true
theorem qE (hsp:SpOk st sp):∀m,m≤st.length→G1 p l e st sp m (gdA p l e st sp m)
 | 0,_=>by
  refine⟨⟨by simp[gdA,gd0],fun i k hi=>?_⟩,by simp[gdA,gd0],fun i hi=>?_,fun k=>?_⟩
  ·simp only[gdA,gd0,bN,List.getElem?_replicate,if_pos hi]
   simp
  ·simp only[gdA,gd0,List.getElem?_replicate,if_pos hi]
   simp
  ·simp[gdA,gd0]
 | m+1,hm=>by
  have ih:=qE hsp m (by omega)
  obtain⟨hbl,hbm⟩:=ih.b
  have hto:∀y∈spN sp (m:Int),y.to.toNat<st.length:=fun y hy=>by
   unfold spN at hy
   rw[Int.toNat_natCast]at hy
   cases hs:sp[m]? with
   | none=>rw[hs]at hy; cases hy
   | some ys=>rw[hs]at hy; have:=hsp.to ys (List.mem_of_getElem? hs) y hy; omega
  obtain⟨h1,h2⟩:=wB (n:=st.length) (i:=m) (by omega) (spN sp m) (gdA p l e st sp m).B hbl hto
  have hB:rh sp st.length (m+1) ((spN sp m).foldl (bkF m) (gdA p l e st sp m).B):=⟨h1,fun i k hi=>by
   rw[h2 i k hi,hbm i k hi]
   constructor
   ·rintro (⟨j,h3,h4,h5⟩ | ⟨h3,h4⟩)
    ·exact⟨j,h3,by omega,h5⟩
    ·exact⟨m,h3,by omega,h4⟩
   ·rintro⟨j,h3,h4,h5⟩
    by_cases hj:j=m
    ·subst hj; exact .inr ⟨h3,h5⟩
    ·exact .inl ⟨j,h3,by omega,h5⟩⟩
  unfold gdA gd1
  cases he:endB p l e (stN st m) with
  | true =>
   rw[if_pos rfl]
   refine⟨hB,by simp only; rw[List.length_set]; exact ih.ol,fun i hi=>?_,fun k=>?_⟩
   ·simp only
    by_cases him:i=m
    ·subst him
     rw[List.getElem?_set_self (by rw[ih.ol]; exact hi)]
     simp[he]
    ·rw[List.getElem?_set_ne (fun e=>him e.symm),ih.o i hi]
     constructor
     ·rintro⟨h3,h4⟩; exact⟨by omega,h4⟩
     ·rintro⟨h3,h4⟩; exact⟨by omega,h4⟩
   ·simp only[List.mem_append,List.mem_singleton,ih.q k]
    constructor
    ·rintro (⟨j,h3,h4,h5⟩ | h3)
     ·exact⟨j,h3,by omega,h5⟩
     ·exact⟨m,h3,by omega,he⟩
    ·rintro⟨j,h3,h4,h5⟩
     by_cases hj:j=m
     ·subst hj; exact .inr h3
     ·exact .inl ⟨j,h3,by omega,h5⟩
  | false =>
   rw[if_neg (by decide)]
   refine⟨hB,ih.ol,fun i hi=>?_,fun k=>?_⟩
   ·simp only
    rw[ih.o i hi]
    constructor
    ·rintro⟨h3,h4⟩; exact⟨by omega,h4⟩
    ·rintro⟨h3,h4⟩
     refine⟨?_,h4⟩
     by_cases him:i=m
     ·subst him; rw[he]at h4; cases h4
     ·omega
   ·simp only[ih.q k]
    constructor
    ·rintro⟨j,h3,h4,h5⟩; exact⟨j,h3,by omega,h5⟩
    ·rintro⟨j,h3,h4,h5⟩
     refine⟨j,h3,?_,h5⟩
     by_cases hj:j=m
     ·subst hj; rw[he]at h5; cases h5
     ·omega
structure PJ (p:Prep) (l:List HOp) (e:Nat) (st:List LSt) (sp:List (List aI)) (B:List (List Int)) (i:Option Nat) (out:List Bool) (opn:List Int):Prop where
 ol:out.length=st.length
 a:∀k∈opn,0≤k∧out[k.toNat]?=some true
 b:∀k:Nat,out[k]?=some true→endB p l e (stN st k)=true∨∃y∈spN sp k,out[y.to.toNat]?=some true
 c:∀k:Nat,k<st.length→endB p l e (stN st k)=true→out[k]?=some true
 d:∀j:Nat,out[j]?=some true→(j:Int)∈opn∨some j=i∨∀k∈bN B j,out[k.toNat]?=some true
theorem PJ.psh {i:Nat} {out:List Bool} {opn:List Int} {k:Int} (hB:rh sp st.length st.length B) (hi:i<st.length) (hio:out[i]?=some true) (J:PJ p l e st sp B (some i) out opn) (hk:k∈bN B i):PJ p l e st sp B (some i) (pshF (out,opn) k).1 (pshF (out,opn) k).2∧(∀j:Nat,out[j]?=some true→(pshF (out,opn) k).1[j]?=some true)∧(pshF (out,opn) k).1[k.toNat]?=some true:=by
 obtain⟨j,rfl,hj,y,hy,hyi⟩:=(hB.2 i k hi).1 hk
 obtain⟨c,hc⟩:∃c,out[j]?=some c:=⟨_,List.getElem?_eq_getElem (by rw[J.ol]; exact hj)⟩
 have hc':out[((j:Int)).toNat]?=some c:=by rw[Int.toNat_natCast]; exact hc
 cases c with
 | true =>
  rw[vt hc']
  exact⟨J,fun _ h=>h,hc'⟩
 | false =>
  rw[vu hc']
  have hset:∀m:Nat,(out.set ((j:Int)).toNat true)[m]?=some true↔m=j∨out[m]?=some true:=fun m=>by
   rw[Int.toNat_natCast]
   by_cases hm:j=m
   ·subst hm
    rw[List.getElem?_set_self (by rw[J.ol]; exact hj)]; simp
   ·rw[List.getElem?_set_ne hm]
    constructor
    ·exact .inr
    ·rintro (h | h)
     ·exact absurd h.symm hm
     ·exact h
  refine⟨⟨by simp only; rw[List.length_set]; exact J.ol,fun m hm=>?_,fun m hm=>?_,fun m hm he=>?_,fun m hm=>?_⟩,fun m hm=>(hset m).2 (.inr hm),(hset _).2 (.inl (Int.toNat_natCast j))⟩
  ·rcases List.mem_append.1 hm with hm | hm
   ·exact⟨(J.a m hm).1,(hset _).2 (.inr (J.a m hm).2)⟩
   ·rw[List.mem_singleton.1 hm]
    exact⟨by omega,(hset _).2 (.inl (Int.toNat_natCast j))⟩
  ·rcases (hset m).1 hm with rfl | hm
   ·exact .inr ⟨y,hy,(hset _).2 (.inr (by rw[hyi]; exact hio))⟩
   ·rcases J.b m hm with h | ⟨z,hz,h⟩
    ·exact .inl h
    ·exact .inr ⟨z,hz,(hset _).2 (.inr h)⟩
  ·exact (hset m).2 (.inr (J.c m hm he))
  ·rcases (hset m).1 hm with rfl | hm
   ·exact .inl (List.mem_append.2 (.inr (List.mem_singleton.2 rfl)))
   ·rcases J.d m hm with h | h | h
    ·exact .inl (List.mem_append.2 (.inl h))
    ·exact .inr (.inl h)
    ·exact .inr (.inr fun k hk=>(hset _).2 (.inr (h k hk)))
theorem PJ.fold {i:Nat} (hB:rh sp st.length st.length B) (hi:i<st.length):∀(bk:List Int) (out:List Bool) (opn:List Int),out[i]?=some true→PJ p l e st sp B (some i) out opn→(∀k∈bk,k∈bN B i) →
  PJ p l e st sp B (some i) (bk.foldl pshF (out,opn)).1 (bk.foldl pshF (out,opn)).2∧(∀j:Nat,out[j]?=some true→(bk.foldl pshF (out,opn)).1[j]?=some true)∧∀k∈bk,(bk.foldl pshF (out,opn)).1[k.toNat]?=some true
 | [],out,opn,_,J,_=>⟨J,fun _ h=>h,fun k hk=>by cases hk⟩
 | k::bk,out,opn,hio,J,hk=>by
  obtain⟨h1,h2,h3⟩:=J.psh hB hi hio (hk k (by simp))
  obtain⟨h4,h5,h6⟩:=PJ.fold hB hi bk (pshF (out,opn) k).1 (pshF (out,opn) k).2 (h2 i hio) h1 fun k' hk'=>hk k' (by simp[hk'])
  refine⟨h4,fun j hj=>h5 j (h2 j hj),fun k' hk'=>?_⟩
  rcases List.mem_cons.1 hk' with rfl | hk'
  ·exact h5 _ h3
  ·exact h6 k' hk'
theorem xg {out:List Bool} {opn:List Int}:∀(bk:List Int),(∀k∈bk,k.toNat<out.length)→(bk.foldl pshF (out,opn)).2.length+cntF (bk.foldl pshF (out,opn)).1=opn.length+cntF out:=by
 intro bk
 induction bk generalizing out opn with
 | nil=>intro _; rfl
 | cons k bk ih =>
  intro hk
  obtain⟨c,hc⟩:∃c,out[k.toNat]?=some c:=⟨_,List.getElem?_eq_getElem (hk k (by simp))⟩
  rw[List.foldl_cons]
  cases c with
  | true=>rw[vt hc]; exact ih fun k' hk'=>hk k' (by simp[hk'])
  | false =>
   rw[vu hc,ih fun k' hk'=>by rw[List.length_set]; exact hk k' (by simp[hk'])]
   have:=kL hc
   rw[List.length_append,List.length_singleton]; omega
theorem nZ (hB:rh sp st.length st.length B):∀(n:Nat) (out:List Bool) (opn:List Int),opn.length+cntF out<n→PJ p l e st sp B none out opn→PJ p l e st sp B none (popG B n out opn) []
 | 0,_,_,h,_=>by omega
 | n+1,out,opn,h,J=>by
  unfold popG
  cases hgl:opn.getLast? with
  | none =>
   have:opn=[]:=List.getLast?_eq_none_iff.1 hgl
   subst this
   exact J
  | some i =>
   simp only
   have hne:opn≠[]:=fun e=>by rw[e]at hgl; cases hgl
   have him:i∈opn:=List.mem_of_getLast? hgl
   obtain⟨hi0,hio⟩:=J.a i him
   have hil:i.toNat<st.length:=by have:=(List.getElem?_eq_some_iff.1 hio).1; rwa [J.ol]at this
   have hdl:∀k∈opn,k=i∨k∈opn.dropLast:=fun k hk=>by
    have hx:opn.dropLast++[i]=opn:=by
     have h1:=List.dropLast_concat_getLast hne
     rw[List.getLast?_eq_some_getLast hne]at hgl
     rw[Option.some.inj hgl]at h1
     exact h1
    rw[←hx]at hk
    rcases List.mem_append.1 hk with hk | hk
    ·exact .inr hk
    ·exact .inl (List.mem_singleton.1 hk)
   have J1:PJ p l e st sp B (some i.toNat) out opn.dropLast:=⟨J.ol,fun k hk=>J.a k (List.dropLast_subset _ hk),J.b,J.c,fun j hj=>by
    rcases J.d j hj with h | h | h
    ·rcases hdl _ h with h | h
     ·exact .inr (.inl (by rw[←h]; rw[Int.toNat_natCast]))
     ·exact .inl h
    ·cases h
    ·exact .inr (.inr h)⟩
   have hbe:(B[i.toNat]?).getD []=bN B i.toNat:=rfl
   rw[hbe]
   obtain⟨J2,hmono,hall⟩:=PJ.fold hB hil (bN B i.toNat) out opn.dropLast hio J1 fun _ h=>h
   have hc:=xg (out:=out) (opn:=opn.dropLast) (bN B i.toNat) fun k hk=>by
    obtain⟨j,rfl,hj,_⟩:=(hB.2 i.toNat k hil).1 hk
    rw[J.ol,Int.toNat_natCast]; exact hj
   have hlen:0<opn.length:=List.length_pos_iff.2 hne
   rw[List.length_dropLast]at hc
   refine nZ hB n _ _ (by omega) ⟨J2.ol,J2.a,J2.b,J2.c,fun j hj=>?_⟩
   rcases J2.d j hj with h | h | h
   ·exact .inl h
   ·simp only[Option.some.injEq]at h
    subst h
    exact .inr (.inr hall)
   ·exact .inr (.inr h)
theorem qC (hsp:SpOk st sp) (i:Nat) (hi:i<st.length):(dJ p l e st sp)[i]?=some true↔endB p l e (stN st i)=true∨∃y∈spN sp i,(dJ p l e st sp)[y.to.toNat]?=some true:=by
 have g:=qE (p:=p) (l:=l) (e:=e) hsp st.length (Nat.le_refl _)
 have hcnt:(gdA p l e st sp st.length).opn.length+cntF (gdA p l e st sp st.length).out<st.length+1:=by
  have:∀m,m≤st.length→(gdA p l e st sp m).opn.length+cntF (gdA p l e st sp m).out≤st.length∧∀j,m≤j→j<st.length→(gdA p l e st sp m).out[j]?=some false:=by
   intro m
   induction m with
   | zero=>intro _; exact⟨by simp only[gdA,gd0,List.length_nil,qQ]; omega,fun j _ hj=>by simp only[gdA,gd0]; rw[List.getElem?_replicate,if_pos hj]⟩
   | succ m ih =>
    intro hm
    obtain⟨h1,h2⟩:=ih (by omega)
    unfold gdA gd1
    split
    ·have h3:=kL (h2 m (Nat.le_refl _) (by omega))
     refine⟨by simp only[List.length_append,List.length_singleton]; omega,fun j hj hjl=>?_⟩
     simp only
     rw[List.getElem?_set_ne (by omega)]
     exact h2 j (by omega) hjl
    ·exact⟨h1,fun j hj hjl=>h2 j (by omega) hjl⟩
  have:=(this st.length (Nat.le_refl _)).1
  omega
 have J0:PJ p l e st sp (gdA p l e st sp st.length).B none (gdA p l e st sp st.length).out (gdA p l e st sp st.length).opn:=by
  refine⟨g.ol,fun k hk=>?_,fun k hk=>?_,fun k hk he=>(g.o k hk).2 ⟨hk,he⟩,fun j hj=>?_⟩
  ·obtain⟨j,rfl,hj,he⟩:=(g.q k).1 hk
   exact⟨by omega,by rw[Int.toNat_natCast]; exact (g.o j hj).2 ⟨hj,he⟩⟩
  ·have hk2:k<st.length:=by have:=(List.getElem?_eq_some_iff.1 hk).1; rwa [g.ol]at this
   exact .inl ((g.o k hk2).1 hk).2
  ·have hk2:j<st.length:=by have:=(List.getElem?_eq_some_iff.1 hj).1; rwa [g.ol]at this
   exact .inl ((g.q _).2 ⟨j,rfl,hk2,((g.o j hk2).1 hj).2⟩)
 have J:=nZ g.b _ _ _ hcnt J0
 have hG:popG (gdA p l e st sp st.length).B (st.length+1) (gdA p l e st sp st.length).out (gdA p l e st sp st.length).opn=dJ p l e st sp:=rfl
 rw[hG]at J
 constructor
 ·exact J.b i
 ·rintro (h | ⟨y,hy,h⟩)
  ·exact J.c i hi h
  ·rcases J.d _ h with h2 | h2 | h2
   ·cases h2
   ·cases h2
   ·have hyl:y.to.toNat<st.length:=by have:=(List.getElem?_eq_some_iff.1 h).1; rwa [J.ol]at this
    have:=h2 (i:Int) ((g.b.2 _ _ hyl).2 ⟨i,rfl,hi,y,hy,rfl⟩)
    rwa [Int.toNat_natCast]at this
end
theorem SInv.leastOk {l:List HOp} {b:Int} {p:Prep} {e:Nat} {ks:List Int} {kv:List (List UInt8)} {q:QS} {sp:List (List aI)} (F:fL l b e p ks kv) (I:SInv p e q.2.length q sp) (he:0<e) (hb:e+l.length≤1000000):tj p l e q.2 sp (muS p e q.2):=by
 refine⟨fun i hi=>?_,fun i ys hys y hy=>I.dn i ys hys y hy,?_⟩
 ·have hil:i<q.2.length:=by have:=(List.getElem?_eq_some_iff.1 hi).1; rwa [m7]at this
  rcases (qC I.spOk i hil).1 hi with h | ⟨y,hy,h⟩
  ·left
   obtain⟨n,rfl⟩:∃n,e=n+1:=⟨e-1,by omega⟩
   unfold endB at h
   simp only[Bool.and_eq_true]at h
   rw[kH,if_pos h.1]
   exact h.2
  ·right
   cases hf:(spN sp (i:Int)).find? (ga (dJ p l e q.2 sp)) with
   | some z=>exact⟨z,rfl⟩
   | none =>
    have:=List.find?_eq_none.1 hf y hy
    exact absurd (by unfold ga; rw[h]; rfl) this
 ·rw[mu0 F I he]
  have:=mn l b e
  omega
end Go.Proofs.Ytkehohfgbblokaa
namespace Go.Eng
open Go.RowKit
theorem FnIs.wide {P:Program} {f:FuncId} {avs:List AV} {h0 rows:List (Nat×Row)} {res:AV} {W:Nat} (hW:8≤W) (h:FnIs P f avs h0 res rows):js W P f avs h0 res rows:=by
 refine⟨h.1,fun C σ w vs h1 h2 h3 h4 h5 h6=>(h.2 C σ w vs h1 h2 h3 h4 h5 h6).mono ?_⟩
 rintro e w' ⟨v,σ',he,hst⟩
 have:=hst.grow (G':=fun r=>r<64+W) (fun r hr=>by omega)
 exact⟨v,σ',he, { this with }⟩
end Go.Eng
namespace Go.Proofs.Ytkehohfgbblokaa
open Go.Eng Go.Plain
set_option maxHeartbeats 32000000
set_option maxRecDepth 20000
attribute [local irreducible] WC RegS RegD SeqQ BlkQ ScoQ RegK CutK Sat SatN FnIs LoopQ aj OpIs
abbrev lH (h:List HEv) (b:Int):List HOp:=opL h b
abbrev pH (h:List HEv) (b:Int):Prep:=cP (lH h b) b (bA h)
def kk (h:List HEv) (b fuel:Int):Option (QS×List (List aI)):=nI (pH h b) (lH h b) (bA h) fuel
def ci (h:List HEv) (b fuel:Int):(List Int×Bool)×Int :=
 if opE h b=0 then
  if fuel<0∨1048576<fuel then (([],false),1)
  else match kk h b fuel with
   | none=>(([],false),4)
   | some r=>(je (pH h b) (lH h b) (bA h) r.1.2 r.2 (bA h+sumM (lH h b) b (bA h)+1),0)
 else (([],false),opE h b)
def ez (h:List HEv) (b fuel:Int):Int×Int :=
 if opE h b=0 then
  if fuel<0∨1048576<fuel then (0,1)
  else match kk h b fuel with
   | none=>(0,4)
   | some r=>(r.1.2.length,0)
 else (0,opE h b)
structure jq (h:List HEv) (b fuel:Int):Prop where
 len:h.length≤8192
 al:(rdH h).all.length≤8192
 run:opE h b=0→0≤fuel→fuel≤1048576→sD h b fuel (pH h b) (lH h b) (bA h) (kk h b fuel)
 pok:opE h b=0→∃ks kv,fL (lH h b) b (bA h) (pH h b) ks kv
 ll:opE h b=0→(lH h b).length≤8192
 tot:∀r,opE h b=0→0≤fuel→fuel≤1048576→kk h b fuel=some r→totS r.2+1≤67108864
theorem ms (h:List HEv) (b fuel:Int) (c:Int) (hw:js 16 Try.prog 56 [.d (encH h),.int .i64 b,.int .i64 fuel] [] (ptrE c) []) (hc:c≠0):FnIs Try.prog 21 [.d (encH h),.int .i64 b,.int .i64 fuel] [] (.tup (.acons (.int .i64 0) (.acons (.int .i64 c) .anil))) []:=by
 have d0:(!decide (c=0))=true:=by rw[dF hc]; rfl
 refine aG aa Try.func21 rfl rfl rfl ?_;refine sR<|zD<|nR ?_;refine zU ?_;refine gD (by decide) [] rfl hw rfl rfl rfl (ak (ak (ak ai))) trivial rfl rfl (.inl rfl) rfl rfl rfl ?_;iterate 5 refine rC ?_
 refine zW<|zD ?_;refine zI<|sR ?_;refine zU<|zT<|bQ ?_
 exact⟨trivial,[],lf⟩
theorem uP (h:List HEv) (b fuel:Int) (l:List HOp) (e:Int) (p:Prep) (q:QS) (sp:List (List aI)) (hw:js 16 Try.prog 56 [.d (encH h),.int .i64 b,.int .i64 fuel] [] (.tup (.acons (.ptr 64 []) (.acons (.int .i64 0) .anil))) (j7 l b e p sp q)):FnIs Try.prog 21 [.d (encH h),.int .i64 b,.int .i64 fuel] [] (.tup (.acons (.int .i64 q.2.length) (.acons (.int .i64 0) .anil))) []:=by
 refine aG aa Try.func21 rfl rfl rfl ?_;refine sR<|zD<|nR ?_;refine zU ?_;refine gD (by decide) [] rfl hw rfl rfl rfl (ak (ak (ak ai))) trivial rfl rfl (.inl rfl) rfl rfl rfl ?_;iterate 5 refine rC ?_
 refine zW<|zD ?_;refine zJ<|kS<|sR ?_;refine zU ?_;refine rQ iM ?_;refine rQ (bz aa rfl rfl) ?_;refine zD<|zT ?_
 exact⟨trivial,[],lf⟩
theorem sf (h:List HEv) (b fuel:Int) (c:Int) (hw:js 16 Try.prog 56 [.d (encH h),.int .i64 b,.int .i64 fuel] [] (ptrE c) []) (hc:c≠0):FnIs Try.prog 23 [.d (encH h),.int .i64 b,.int .i64 fuel] [] (.tup (.acons (.d (kJ [])) (.acons (.bool false) (.acons (.int .i64 c) .anil)))) []:=by
 have d0:(!decide (c=0))=true:=by rw[dF hc]; rfl
 refine aG aa Try.func23 rfl rfl rfl ?_;refine sR<|zU<|nR ?_;refine zU ?_;refine gD (by decide) [] rfl hw rfl rfl rfl (ak (ak (ak ai))) trivial rfl rfl (.inl rfl) rfl rfl rfl ?_;iterate 5 refine rC ?_
 refine zW<|zD ?_;refine zI<|sR ?_;iterate 4 refine rC ?_
 refine zT<|bQ ?_
 exact⟨trivial,[],lg ⟨⟨_,rfl,AVLe.tup1 (ia _ _) rfl⟩,rfl,trivial⟩ trivial⟩
theorem yN (h:List HEv) (b fuel:Int) (l:List HOp) (e:Int) (p:Prep) (q:QS) (sp:List (List aI)) (o:List Int) (f:Bool) (hle:FnIs Try.prog 57 [.ptr 0 []] (bZ l b e p sp q 9) (ordE o f) (ordW o++bZ l b e p sp q 9)) (hw:js 16 Try.prog 56 [.d (encH h),.int .i64 b,.int .i64 fuel] [] (.tup (.acons (.ptr 64 []) (.acons (.int .i64 0) .anil))) (j7 l b e p sp q)):FnIs Try.prog 23 [.d (encH h),.int .i64 b,.int .i64 fuel] [] (.tup (.acons (ordQ o) (.acons (.bool f) (.acons (.int .i64 0) .anil)))) (ordW o):=by
 cases o with
 | nil =>
  replace hle:FnIs Try.prog 57 [.ptr 0 []] (bZ l b e p sp q 9) (.tup (.acons (.d (kJ [])) (.acons (.bool f) .anil))) (bZ l b e p sp q 9):=hle
  show FnIs Try.prog 23 [.d (encH h),.int .i64 b,.int .i64 fuel] [] (.tup (.acons (.d (kJ [])) (.acons (.bool f) (.acons (.int .i64 0) .anil)))) []
  refine aG aa Try.func23 rfl rfl rfl ?_;refine sR<|zU<|nR ?_;refine zU ?_;refine gD (by decide) [] rfl hw rfl rfl rfl (ak (ak (ak ai))) trivial rfl rfl (.inl rfl) rfl rfl rfl ?_;iterate 5 refine rC ?_
  refine zW<|zD ?_;refine zJ<|kS<|sR ?_;refine rC ?_;refine bF rfl (aQ [(0,some 112),(1,some 113),(2,some 114),(3,some 115),(4,some 116),(5,some 117),(6,some 118),(7,some 119),(8,some 120),(9,some 121),(10,some 122)] hle rfl rfl rfl (aV rfl rfl ai) ⟨zH,zN,zN,zH,zN,zN,zN,zN,zN,zH,zH,trivial⟩ rfl rfl (.inl rfl) rfl rfl) rfl rfl ?_
  iterate 5 refine rC ?_
  refine nR ?_;iterate 5 refine rC ?_
  refine zT ?_
  exact⟨trivial,[],lf⟩
 | cons a o =>
  generalize hoo:a::o=c at *
  replace hle:FnIs Try.prog 57 [.ptr 0 []] (bZ l b e p sp q 9) (.tup (.acons (.own 64 0 c.length 1 (some c.length)) (.acons (.bool f) .anil))) ((64,zRow c)::bZ l b e p sp q 9):=by subst hoo; exact hle
  have key:FnIs Try.prog 23 [.d (encH h),.int .i64 b,.int .i64 fuel] [] (.tup (.acons (.own 64 0 c.length 1 (some c.length)) (.acons (.bool f) (.acons (.int .i64 0) .anil)))) [(64,zRow c)]:=by
   refine aG aa Try.func23 rfl rfl rfl ?_;refine sR<|zU<|nR ?_;refine zU ?_;refine gD (by decide) [] rfl hw rfl rfl rfl (ak (ak (ak ai))) trivial rfl rfl (.inl rfl) rfl rfl rfl ?_;iterate 5 refine rC ?_
   refine zW<|zD ?_;refine zJ<|kS<|sR ?_;refine rC ?_;refine bF rfl (aQ [(0,some 112),(1,some 113),(2,some 114),(3,some 115),(4,some 116),(5,some 117),(6,some 118),(7,some 119),(8,some 120),(9,some 121),(10,some 122)] hle rfl rfl rfl (aV rfl rfl ai) ⟨zH,zN,zN,zH,zN,zN,zN,zN,zN,zH,zH,trivial⟩ rfl rfl (.inl rfl) rfl rfl) rfl rfl ?_
   iterate 5 refine rC ?_
   refine nR ?_;iterate 5 refine rC ?_
   refine zT ?_
   exact⟨trivial,[(64,some 192)],lg zl ⟨zR,trivial⟩⟩
  subst hoo
  exact key
theorem gM (h:List HEv):0<bA h:=by unfold bA; omega
theorem wi {h:List HEv} (hh:h.length≤8192):bA h≤8193:=by
 have:h.countP (fun x=>decide (x.kind=3))≤h.length:=List.countP_le_length
 unfold bA; omega
theorem nH {h:List HEv} {b fuel:Int} (R:jq h b fuel):FnIs Try.prog 21 [.d (encH h),.int .i64 b,.int .i64 fuel] [] (.tup (.acons (.int .i64 (ez h b fuel).1) (.acons (.int .i64 (ez h b fuel).2) .anil))) []:=by
 have hl:=R.len
 have ha:=R.al
 unfold ez
 by_cases hE:opE h b=0
 ·rw[if_pos hE]
  by_cases hf:fuel<0∨1048576<fuel
  ·rw[if_pos hf]
   exact ms h b fuel 1 ((pR h b fuel (by omega) (by omega) hE hf).wide (by decide)) (by decide)
  ·rw[if_neg hf]
   have hr:=R.run hE (by omega) (by omega)
   cases hs:kk h b fuel with
   | none =>
    rw[hs]at hr
    exact ms h b fuel 4 hr (by decide)
   | some r =>
    obtain⟨q,sp⟩:=r
    rw[hs]at hr
    exact uP h b fuel _ _ _ q sp hr
 ·rw[if_neg hE]
  exact ms h b fuel (opE h b) ((pS h b fuel (by omega) (by omega) hE).wide (by decide)) hE
theorem qI {h:List HEv} {b fuel:Int} (R:jq h b fuel):FnIs Try.prog 23 [.d (encH h),.int .i64 b,.int .i64 fuel] [] (.tup (.acons (ordQ (ci h b fuel).1.1) (.acons (.bool (ci h b fuel).1.2) (.acons (.int .i64 (ci h b fuel).2) .anil)))) (ordW (ci h b fuel).1.1):=by
 have hl:=R.len
 have ha:=R.al
 unfold ci
 by_cases hE:opE h b=0
 ·rw[if_pos hE]
  by_cases hf:fuel<0∨1048576<fuel
  ·rw[if_pos hf]
   exact sf h b fuel 1 ((pR h b fuel (by omega) (by omega) hE hf).wide (by decide)) (by decide)
  ·rw[if_neg hf]
   have hr:=R.run hE (by omega) (by omega)
   cases hs:kk h b fuel with
   | none =>
    rw[hs]at hr
    exact sf h b fuel 4 hr (by decide)
   | some r =>
    obtain⟨q,sp⟩:=r
    rw[hs]at hr
    obtain⟨ks,kv,F⟩:=R.pok hE
    have hll:=R.ll hE
    have he:=gM h
    have he2:=wi hl
    have P:=F.ok hll
    obtain⟨I,hfu⟩:=jv P he hs
    have ht:=R.tot _ hE (by omega) (by omega) hs
    have hq0:=(List.getElem?_eq_some_iff.1 I.fst).1
    have hle:=vO (lH h b) b (bA h) (pH h b) sp q (muS (pH h b) (bA h) q.2) P I.ok.st (by omega) I.spOk I.eraOk (by omega) hq0 ht (I.leastOk F he (by omega))
    rw[mu0 F I he]at hle
    exact yN h b fuel _ _ _ q sp _ _ hle hr
 ·rw[if_neg hE]
  exact sf h b fuel (opE h b) ((pS h b fuel (by omega) (by omega) hE).wide (by decide)) hE
theorem s4 {h:List HEv} {b fuel:Int} (R:jq h b fuel):FnIs Try.prog 23 [.d (encH h),.int .i64 b,.int .i64 fuel] [] (.tup (.acons (.d (kJ (ci h b fuel).1.1)) (.acons (.bool (ci h b fuel).1.2) (.acons (.int .i64 (ci h b fuel).2) .anil)))) []:=by
 have hf:=qI R
 cases ho:(ci h b fuel).1.1 with
 | nil=>rw[ho]at hf; exact hf
 | cons a o =>
  rw[ho]at hf
  exact FnIs.freeze_out 64 (zRow (a::o)) rfl (.tup (.cons (.ownx rfl rfl) (.cons (.refl _) (.cons (.refl _) .nil)))) trivial hf
theorem qs {h:List HEv} {b fuel:Int} (R:jq h b fuel):FnIs Try.prog 22 [.d (encH h),.int .i64 b,.int .i64 fuel] [] (.tup (.acons (.bool (ci h b fuel).1.2) (.acons (.int .i64 (ci h b fuel).2) .anil))) []:=by
 have hfi:=s4 R
 refine aG aa Try.func22 rfl rfl rfl ?_;refine sR<|zD<|nR ?_;refine zU ?_;refine rQ (aA hfi rfl rfl (ak (ak (ak ai))) (.inl rfl) (fun _=>rfl)) ?_;iterate 7 refine rC ?_
 refine nR ?_;iterate 4 refine rC ?_
 refine zT ?_
 exact⟨trivial,[],lf⟩
structure PQ where
 kind:UInt8
 index:UInt8
 data:UInt8
def encQ (x:PQ):D :=.cons (u8s x.kind.toNat) (.cons (u8s x.index.toNat) (.cons (u8s x.data.toNat) .nil))
def qOf (x:PQ):POp :=
 if x.kind.toNat % 9<4 then⟨1,((x.index.toNat % 22:Nat):Int)-1,[]⟩
 else if x.kind.toNat % 9<7 then⟨2,((x.index.toNat % 22:Nat):Int)-1,List.replicate 32 x.data⟩
 else if x.kind.toNat % 9=8 then⟨((x.data.toNat % 4:Nat):Int),(x.index.toNat:Int)-100,List.replicate (x.index.toNat % 32) x.data⟩
 else⟨3,0,[]⟩
def ji (d:Int) (n i:Nat):List Int:=List.replicate i d++List.replicate (n-i) 0
theorem um {d:Int} {n i:Nat} (h:i<n):(ji d n i)[i]?=some 0:=by
 obtain⟨k,hk⟩:∃k,n-i=k+1:=⟨n-i-1,by omega⟩
 rw[ji,hk,List.getElem?_append_right (by simp),List.length_replicate,Nat.sub_self]
 rfl
theorem ul {d:Int} {n i:Nat} (h:i<n):(ji d n i).set i d=ji d n (i+1):=by
 obtain⟨k,hk⟩:∃k,n-i=k+1:=⟨n-i-1,by omega⟩
 rw[ji,ji,List.set_append_right _ _ (by simp),List.replicate_succ' (n:=i),List.append_assoc,hk,show n-(i+1)=k by omega,List.length_replicate,Nat.sub_self]
 rfl
theorem un (d:UInt8) (n:Nat):ji d.toNat n n=byI (List.replicate n d):=by simp[ji,byI]
def blkB (d:UInt8):UInt8:=(d.toNat % 4).toUInt8
theorem wA (d:UInt8):(blkB d).toNat=d.toNat % 4:=by
 rw[blkB,Nat.toUInt8_eq,UInt8.toNat_ofNat']
 omega
theorem lx (d:UInt8):FnIs Try.prog 41 [.int .u8 d.toNat] [] (.d (bd (List.replicate 32 (blkB d)))) []:=by
 have hd:=d.toNat_lt
 refine aG aa Try.func41 rfl rfl rfl ?_;refine sR<|rN<|nR ?_;refine rN<|zW ?_;refine rC<|zP ?_
 refine wc_inv (fun i:Nat=>⟨[(4,.int .i64 i),(3,.ptr 65 []),(2,.ptr 66 []),(0,.int .u8 d.toNat)],[(65,some (.box 27 (.d (.vec 32 1 cD (ji ((d.toNat % 4:Nat):Int) 32 i))))),(66,some (.box 27 (.d (.vec 32 1 cD (List.replicate 32 0)))))],72,Try.f41.ntmps,64⟩) (fun i=>i≤32) (fun i=>32-i) 0 [(65,some _),(66,some _)] (Nat.zero_le _)
  (lg zi ⟨zR,zR,trivial⟩) ?_
 intro i hi
 refine cf<|qR ?_;refine zD<|nS ?_
 refine gV rfl (fun h3=>?_) (fun h3=>?_)
 ·have hlt:i<32:=by have:=of_decide_eq_true h3; omega
  have hg:(ji ((d.toNat % 4:Nat):Int) 32 i)[((i:Int)).toNat]?=some 0:=by rw[Int.toNat_natCast]; exact um hlt
  have hs:=ul (d:=((d.toNat % 4:Nat):Int)) hlt
  refine zQ<|cm<|ao<|zD ?_;refine rQ (eA (a:=d.toNat) (b:=4) aa rfl rfl rfl (by decide)) ?_;refine rQ (ay aa (fun K hk=>⟨by omega,by omega,hk⟩)) ?_;refine bO (aK aa rfl rfl rfl ⟨_,⟨_,⟨rfl,_,((d.toNat % 4:Nat):Int),hg,⟨rfl,rfl,rfl⟩,rfl⟩,rfl⟩,rfl⟩ rfl)<|aE<|zC<|ao ?_;refine rC ?_;refine rQ iD ?_;refine rC<|aE ?_
  exact aU (i+1) [(65,some 65),(66,some 66)] hlt (by omega) (lg zi ⟨⟨rfl,rfl,_,rfl,aO.of_eq (congrArg (fun l=>Row.box 27 (.d (.vec 32 1 cD l))) hs)⟩,zR,trivial⟩)
 ·have he:i=32:=by have:=of_decide_eq_false h3; omega
  subst he
  have hE:ji ((d.toNat % 4:Nat):Int) 32 32=byI (List.replicate 32 (blkB d)):=by rw[←wA]; exact un _ _
  rw[hE]
  refine zX<|sR<|rQ iM ?_;refine rW<|zT ?_
  exact⟨trivial,_,rfl,[],lf⟩
structure XE where
 who:UInt8
 what:UInt8
 data:UInt8
def qL (x:XE):D :=.cons (u8s x.who.toNat) (.cons (u8s x.what.toNat) (.cons (u8s x.data.toNat) .nil))
def opX (x:XE):POp :=
 if x.what.toNat % 8<3 then⟨1,((x.data.toNat/4 % 3:Nat):Int),[]⟩
 else if x.what.toNat % 8<6 then⟨2,((x.data.toNat/4 % 3:Nat):Int),List.replicate 32 (blkB x.data)⟩
 else if x.what.toNat % 8=6 then⟨3,0,[]⟩
 else qOf ⟨8,x.data,x.what⟩
def encXH (l:List XE):D :=.cons (.arr 3 qL l) .nil
def Bu:List Int:=[0,0,0,0,0,1,8,9]
def errX (y:HEv) (x:XE):Int:=if badO y.op 3&&decide (x.what.toNat<200) then 1 else Bu[x.what.toNat % 8]?.getD 0
def Bb (out:List HEv) (x:XE):List HEv :=
 if x.who.toNat % 4=3∧x.what.toNat≤20 then out++[⟨3,0,zOp,zBk,0⟩]
 else if pend out ((x.who.toNat % 4 % 3:Nat):Int)<0 then out++[⟨1,((x.who.toNat % 4 % 3:Nat):Int),opX x,zBk,0⟩]
 else match out[(pend out ((x.who.toNat % 4 % 3:Nat):Int)).toNat]? with
  | none=>out
  | some y=>out++[⟨2,((x.who.toNat % 4 % 3:Nat):Int),zOp,if y.op.kind=1∧errX y x=0 then List.replicate 32 (blkB x.data) else zBk,errX y x⟩]
def hOf (l:List XE):List HEv:=(l.take 24).foldl Bb []
theorem oF (k c e:Int):DLe (.cons (u8s k) (.cons (i6 c) (.cons zPOp (.cons (.vec 32 1 cD (List.replicate 32 0)) (.cons (i6 e) .nil))))) (cv ⟨k,c,zOp,zBk,e⟩):=by
 rintro w X cs ⟨c1,r1,rfl,h1,c2,r2,rfl,h2,c3,r3,rfl,h3,h4⟩
 exact⟨c1,_,rfl,h1,c2,_,rfl,h2,c3,_,rfl,ye _ _ _ h3,h4⟩
end Go.Proofs.Ytkehohfgbblokaa
namespace Go.Proofs.Ytkehohfgbblokaa
open Go.Eng Go.Plain
set_option maxHeartbeats 32000000
set_option maxRecDepth 20000
set_option linter.unusedVariables false
theorem wa {rd:RdS} {x:HEv} {l:List HEv} {i:Nat}:goS rd (x::l) i=if (bS rd x).2 then goS (bS rd x).1 l (i+1) else ((bS rd x).1,(i:Int)):=by
 have:=kB (s:=rd) (h:=List.replicate i x++x::l) (i:=i) (x:=x) (by simp)
 rw[List.drop_left' (by simp)]at this
 rw[this,show List.replicate i x++x::l=(List.replicate i x++[x])++l by simp,List.drop_left' (by simp)]
theorem oP (s:RdS) (x:HEv):(bS s x).1.all.length≤s.all.length+1:=by
 unfold bS
 simp only
 split
 ·split
  ·simp
  ·simp
 ·split
  ·split
   ·simp only
    cases opOf s x <;> simp
   ·simp
  ·split <;> simp
theorem lK:∀(h:List HEv) (s:RdS) (i:Nat),(goS s h i).1.all.length≤s.all.length+h.length
 | [],s,i=>by simp[goS]
 | x::h,s,i=>by
  rw[wa]
  have h1:=oP s x
  split
  ·have:=lK h (bS s x).1 (i+1)
   simp only[List.length_cons]
   omega
  ·simp only[List.length_cons]
   omega
theorem fk (h:List HEv):(rdH h).all.length≤h.length:=by
 unfold rdH
 split
 ·simp[rd0]
 ·have:=lK h rd0 0
  simpa[rd0]using this
def fv (h:List HEv):Prop:=∀i x,h[i]?=some x→fitB (h.take i) x=true
theorem sC:fv []:=fun i x h=>by simp at h
theorem fv.snoc {h:List HEv} {x:HEv} (H:fv h) (hx:fitB h x=true):fv (h++[x]):=by
 intro i y hy
 by_cases hi:i<h.length
 ·rw[List.getElem?_append_left hi]at hy
  rw[List.take_append_of_le_length (by omega)]
  exact H i y hy
 ·have hlt:=(List.getElem?_eq_some_iff.1 hy).1
  have he:i=h.length:=by simp at hlt; omega
  subst he
  rw[List.getElem?_append_right (by omega),Nat.sub_self]at hy
  simp at hy
  subst hy
  rw[List.take_left']
  ·exact hx
  ·rfl
theorem p6 {h:List HEv} (H:fv h):∀(n i:Nat),nN h n i=(0,0)
 | 0,i=>rfl
 | n+1,i=>by
  rw[nN]
  cases hx:h[i]? with
  | none=>rfl
  | some x =>
   simp only
   rw[H i x hx,if_pos rfl]
   exact p6 H n (i+1)
theorem xH {h:List HEv} (H:fv h) (hl:h.length≤8192):chkH h=(0,0):=by
 rw[wv,rchk,if_neg (by omega)]
 exact p6 H _ _
end Go.Proofs.Ytkehohfgbblokaa
namespace Go.Proofs.Ytkehohfgbblokaa
open Go.Eng Go.Plain
set_option maxHeartbeats 32000000
set_option maxRecDepth 20000
theorem vG (h:List HEv):(opsH h).length≤h.length:=by
 unfold opsH
 split
 ·exact fk h
 ·exact Nat.zero_le _
theorem pn (h:List HEv) (b:Int):(lH h b).length≤h.length:=by
 unfold lH opL
 split
 ·exact vG h
 ·exact Nat.zero_le _
theorem POk.zle {l:List HOp} {e:Nat} {p:Prep} (P:POk l e p) {x:LSt} (S:SOk p e x):(zOf p x.era).length≤8192:=by
 obtain⟨e0,e1⟩:=S.era
 obtain⟨n,hn⟩:∃n:Nat,x.era=n:=⟨x.era.toNat,by omega⟩
 rw[hn]
 exact P.zl _ (P.zm (by omega))
theorem fL.zle {l:List HOp} {b:Int} {e:Nat} {p:Prep} {ks:List Int} {kv:List (List UInt8)} (F:fL l b e p ks kv) {x:LSt} (S:SOk p e x):(zOf p x.era).length≤l.length:=by
 obtain⟨e0,e1⟩:=S.era
 obtain⟨n,hn⟩:∃n:Nat,x.era=n:=⟨x.era.toNat,by omega⟩
 rw[hn,zOf,Int.toNat_natCast,F.opk n (by omega),Option.getD_some,eN,mayI]
 exact fi _ l 0
theorem yn (h:List HEv) (b fuel:Int) (hh:h.length≤8192) (Inv:Nat→QS→List (List aI)→Prop)
  (hI0:opE h b=0→Inv 0 (addS ([],[]) (c6 (pH h b))).1 []) (hIs:∀i q sp x,opE h b=0→POk (lH h b) (bA h) (pH h b)→0≤fuel→Inv i q sp→q.2[i]?=some x→(q.2.length:Int)≤fuel→Inv (i+1) (cu (pH h b) (lH h b) (bA h) x q).1 (sp++[(cu (pH h b) (lH h b) (bA h) x q).2])) (hIb:∀i q sp,0≤fuel→Inv i q sp→q.2.length+8200≤1048576)
  (htot:∀r,opE h b=0→0≤fuel→fuel≤1048576→kk h b fuel=some r→r.1.2.length*(h.length+1)+1≤67108864):jq h b fuel:=by
 have hal:(rdH h).all.length≤8192:=Nat.le_trans (fk h) hh
 have hll:(lH h b).length≤8192:=Nat.le_trans (pn h b) hh
 obtain⟨ks,kv,F⟩:=fH (lH h b) b (bA h)
 have P:=F.ok hll
 refine⟨hh,hal,fun hE h0 h1=>?_,fun _=>⟨ks,kv,F⟩,fun _=>hll,fun r hE h0 h1 hr=>?_⟩
 ·exact tC h b fuel hh hal hE h0 h1 _ rfl _ rfl _ rfl P (fun o _ hm hk=>(jB hm).2.1 hk) Inv (hI0 hE) (fun i q sp x=>hIs i q sp x hE P h0) (fun i q sp=>hIb i q sp h0)
 ·obtain⟨q,sp⟩:=r
  obtain⟨I,hfu⟩:=jv P (gM h) hr
  have h2:=I.tot (M:=h.length) fun x hx=>Nat.le_trans (F.zle (I.ok.st x hx)) (pn h b)
  have h3:=htot _ hE h0 h1 hr
  simp only at h3 ⊢
  omega
theorem jx (h:List HEv) (b fuel:Int) (hh:h.length≤8192) (hf:fuel≤1000000∨1048576<fuel∨opE h b≠0) (ht:fuel≤1000000→fuel.toNat*(h.length+1)+1≤67108864):jq h b fuel:=by
 rcases hf with hf | hf
 ·refine yn h b fuel hh (fun i q sp=>(∀y∈q.2,SOk (pH h b) (bA h) y)∧q.2.length≤fuel.toNat+8194) (fun hE=>⟨(xW (gM h)).ok.st,?_⟩) (fun i q sp x hE P h0 hI hx hle=>?_) (fun i q sp h0 hI=>?_) (fun r hE h0 _ hr=>?_)
  ·have:=(kT ([],[]) (c6 (pH h b))).2
   simp only[List.length_nil]at this
   omega
  ·obtain⟨h1,h2⟩:=hI
   have hxm:=List.mem_of_getElem? hx
   have h3:=(n6 (pH h b) (lH h b) (bA h) x q).2
   have h4:=P.zle (h1 x hxm)
   exact⟨qi P (h1 x hxm) h1,by omega⟩
  ·have:=hI.2; omega
  ·obtain⟨ks,kv,F⟩:=fH (lH h b) b (bA h)
   have P:=F.ok (Nat.le_trans (pn h b) hh)
   obtain⟨q,sp⟩:=r
   obtain⟨I,hfu⟩:=jv P (gM h) hr
   have h1:=ht hf
   have h2:q.2.length≤fuel.toNat:=by omega
   have h3:=Nat.mul_le_mul_right (h.length+1) h2
   simp only
   omega
 ·have hal:(rdH h).all.length≤8192:=Nat.le_trans (fk h) hh
  have hll:(lH h b).length≤8192:=Nat.le_trans (pn h b) hh
  obtain⟨ks,kv,F⟩:=fH (lH h b) b (bA h)
  have P:=F.ok hll
  refine⟨hh,hal,fun hE h0 h1=>?_,fun _=>⟨ks,kv,F⟩,fun _=>hll,fun r hE h0 h1 hr=>?_⟩
  ·rcases hf with hf | hf
   ·omega
   ·exact absurd hE hf
  ·rcases hf with hf | hf
   ·omega
   ·exact absurd hE hf
end Go.Proofs.Ytkehohfgbblokaa
namespace Go.Eng
open Go.RowKit
section
variable {P : Program} {T : Tab} {env : Env} {h : Upds} {n : Nat}
theorem dX (hT:an P T) {t e:Nat} {re:TyR} {s:Nat} {α:Type} {enc:α→D} {xs ys:List α} {x y:Operand} (ht:bq T t=some (.slice e)) (he:lk T e=some re) (hs:Nat.beq re.size s=true) (hs0:Nat.blt 0 s=true)
  (hx:aq env x=some (.d (.arx s enc xs))) (hy:aq env y=some (.d (.arr s enc ys))) (hys:0<ys.length)
  (hlen:xs.length+ys.length≤1048576) (hbytes:Nat.ble re.bytes 134217728=true) :
  aj P (.call { callee :=.builtin .append,args := #[x,y],argTypes := #[t,t] }) env h n (some (.own n 0 (xs.length+ys.length) s none)) [(n,some (.ds e s false enc (xs++ys)))]:=by
 have hb:=Nat.le_of_ble_eq_true hbytes
 have hs1:=Nat.eq_of_beq_eq_true hs
 have hs0:=Nat.le_of_ble_eq_true hs0
 refine kQ hT (ys:=ys) ht he hs1 hys (by simp only[maxLen]; omega) ?_ ?_ ?_
 ·have:(xs.length+ys.length)*re.bytes≤1048576*134217728:=Nat.mul_le_mul hlen hb
  omega
 ·intro C G st σ w a hA hst
  obtain⟨hx1,_⟩:=au hst (hA.ev hx)
  rcases RelV.arx.1 hx1 with ⟨rfl,ad,hv⟩ | ⟨ad,hv,hc1,f,hf⟩
  ·exact⟨ad,0,fun _=>[],hv,by simpa using hys,fun _=>⟨rfl,rfl⟩,fun i hi=>by simp at hi,fun _ _ j v hj=>by simp[cat]at hj⟩
  ·refine⟨some ad,xs.length,f,hv,by omega,(fun h=>by cases h),fun i hi=>⟨(hf i hi).1,(hf i hi).2.1⟩,fun ad' had j v hj=>?_⟩
   cases had
   have hfl:∀i,i<xs.length→(f i).length=s:=fun i hi=>(hf i hi).2.1
   have hjl:=(List.getElem?_eq_some_iff.1 hj).1
   rw[ct _ hfl]at hjl
   have hi:j/s<xs.length:=Nat.div_lt_of_lt_mul (by rw[Nat.mul_comm]; exact hjl)
   have hm:j % s<s:=Nat.mod_lt _ hs0
   have hdm:j/s*s+j % s=j:=by rw[Nat.mul_comm]; exact Nat.div_add_mod j s
   have hg:=ef (f:=f) xs.length hfl (j/s) (j % s) hi hm
   rw[hdm,hj]at hg
   have:=((hf (j/s) hi).2.2 (j % s) v hg.symm).1
   rwa [hdm]at this
 ·exact wW hs0 hy hys
theorem Frz.litsX {r:Nat} {t s m:Nat} {α:Type} {enc:α→D} (xs:List α) (hm:m=xs.length) (hs:∀x,(enc x).size=s):Frz r (.lits t s m true (pz enc xs)) (.own r 0 m s none) (.d (.arx s enc xs)):=
 Frz.row_le (aO.lits_ds hs hm) (Frz.ownxe hm)
end
end Go.Eng
namespace Go.Proofs.Ytkehohfgbblokaa
open Go.Eng Go.Plain
set_option maxHeartbeats 32000000
set_option maxRecDepth 20000
attribute [local irreducible] WC RegS RegD SeqQ BlkQ ScoQ RegK CutK Sat SatN FnIs LoopQ aj OpIs
theorem gn (k i:Int):DLe (.cons (u8s k) (.cons (i6 i) (.cons (.sc nil_) .nil))) (cW ⟨k,i,[]⟩):=by
 rintro w X cs ⟨d1,q1,rfl,g1,d2,q2,rfl,g2,d3,q3,rfl,⟨rfl,_⟩,rfl⟩
 exact⟨d1,_,rfl,g1,d2,_,rfl,g2,[.slice none 0 0],[],rfl,.inl ⟨rfl,rfl⟩,rfl⟩
theorem ft (k c ok oi e:Int) (v:List UInt8):DLe (.cons (u8s k) (.cons (i6 c) (.cons (.cons (u8s ok) (.cons (i6 oi) (.cons (.sc nil_) .nil))) (.cons (bd v) (.cons (i6 e) .nil))))) (cv ⟨k,c,⟨ok,oi,[]⟩,v,e⟩):=by
 rintro w X cs ⟨c1,r1,rfl,h1,c2,r2,rfl,h2,c3,r3,rfl,h3,h4⟩
 exact⟨c1,_,rfl,h1,c2,_,rfl,h2,c3,_,rfl,gn _ _ _ _ _ h3,h4⟩
theorem y8 {α:Type} (s:Nat) (enc:α→D) (xs:List α):AVLe (.d (.arx s enc xs)) (.d (.arr s enc xs)):=AVLe.of_enc rfl rfl fun w X cs h=>Enc.arx_arr (fun _ _ h=>h) cs h
abbrev By (l:List HEv):D :=.arx 38 cv l
def didL (op:POp) (v:List UInt8):List HEv:=[⟨1,0,op,zBk,0⟩,⟨2,0,zOp,v,0⟩]
def wrO (d:UInt8):POp:=⟨2,0,List.replicate 32 (blkB d)⟩
def rdO:POp:=⟨1,0,[]⟩
def flO:POp:=⟨3,0,[]⟩
def cI:List UInt8:=List.replicate 32 (blkB 1)
theorem fh (d:UInt8):FnIs Try.prog 33 [.int .u8 d.toNat] [] (.d (cW (wrO d))) []:=by
 refine aG aa Try.func33 rfl rfl rfl ?_;refine sR<|rN<|nR ?_;refine rC ?_;refine rQ (aA (lx d) rfl rfl (ak ai) (.inl rfl) (fun _=>rfl)) ?_;refine rN ?_;refine rW<|nS ?_;refine gy (env':=[(3,_),(2,_)]) (h':=[(64,some _)]) 88 _ rfl ⟨⟨_,rfl,Frz.ptr⟩,zE,trivial⟩ ⟨⟨rfl,_,rfl,.refl _⟩,trivial⟩<|sR ?_;refine rQ (pQ aa rfl rfl rfl rfl rfl) ?_;refine rQ iS ?_;refine rW<|zT ?_
 exact⟨trivial,_,rfl,[],lf⟩
theorem kx:FnIs Try.prog 36 [] [] (.d (bd cI)) []:=by
 refine aG aa Try.func36 rfl rfl rfl ?_;refine sR<|rN<|nR ?_;refine rQ (aA (lx 1) rfl rfl (ak ai) (.inl rfl) (fun _=>rfl)) ?_;refine rW<|zT ?_
 exact⟨trivial,_,rfl,[],lf⟩
theorem s9 (op:POp) (v:List UInt8):FnIs Try.prog 32 [.d (cW op),.d (bd v)] [] (.d (By (didL op v))) []:=by
 refine aG aa Try.func32 rfl rfl rfl ?_;refine sR ?_;iterate 2 refine rN ?_
 refine rC<|nR ?_;refine rQ iM ?_;refine rQ iS ?_;refine rQ iM ?_;refine rQ (aj.val_le (aR aa rfl rfl rfl rfl) (ft 2 0 0 0 0 v) rfl) ?_;refine rQ (aj.frozen (aH (s:=38) aa rfl rfl rfl rfl rfl rfl rfl rfl) (Frz.litsX (enc:=cv) (didL op v) rfl (fun _=>rfl))) ?_;refine rC<|zT ?_
 exact⟨trivial,[],lf⟩
theorem jj (op:POp) (v:List UInt8):FnIs Try.prog 32 [.d (cW op),.d (bd v)] [] (.d (encH (didL op v))) []:=by
 refine aG aa Try.func32 rfl rfl rfl ?_;refine sR ?_;iterate 2 refine rN ?_
 refine rC<|nR ?_;refine rQ iM ?_;refine rQ iS ?_;refine rQ iM ?_;refine rQ (aj.val_le (aR aa rfl rfl rfl rfl) (ft 2 0 0 0 0 v) rfl) ?_;refine rQ (aj.frozen (aH (s:=38) aa rfl rfl rfl rfl rfl rfl rfl rfl) (Frz.litsX (enc:=cv) (didL op v) rfl (fun _=>rfl))) ?_;refine rC<|zT ?_
 exact⟨trivial,[],lg ⟨⟨_,rfl,y8 _ _ _⟩,rfl,trivial⟩ trivial⟩
def eu (v:List UInt8):List HEv:=[⟨1,0,wrO 1,zBk,0⟩,⟨1,1,rdO,zBk,0⟩,⟨2,1,zOp,v,0⟩,⟨2,0,zOp,zBk,0⟩]
theorem td (v:List UInt8):FnIs Try.prog 35 [.d (bd v)] [] (.d (encH (eu v))) []:=by
 refine aG aa Try.func35 rfl rfl rfl ?_;refine sR<|rN ?_;refine rC<|nQ ?_;refine aw (by kernel_rfl) ?_;refine dQ [] [] (aA (fh 1) rfl rfl (ak ai) (.inl rfl) (fun _=>rfl)) ?_;refine dQ [3] [] iS ?_;refine dQ [] [] iS ?_;refine dQ [5] [] (aj.val_le (aR aa rfl rfl rfl rfl) (ft 1 1 1 0 0 zBk) rfl) ?_;refine dQ [1] [64] iM ?_;refine dQ [7] [] (aj.val_le (aR aa rfl rfl rfl rfl) (ft 2 1 0 0 0 v) rfl) ?_;refine dQ [] [] (aj.val_le (aR aa rfl rfl rfl rfl) (ft 2 0 0 0 0 zBk) rfl) ?_;refine dQ [4,6,8,9] [] (aj.frozen (aH (s:=38) aa rfl rfl rfl rfl rfl rfl rfl rfl) (Frz.litsN (enc:=cv) (eu v) rfl (fun _ _=>rfl))) ?_;refine dC [10] [] ?_;refine am (by kernel_rfl)<|aL<|eD ?_
 exact⟨trivial,[],lf⟩
def it (f:Bool):List HEv:=didL (wrO 1) zBk++(if f then didL flO zBk else[])++didL (wrO 0) zBk++[⟨3,0,zOp,zBk,0⟩]++didL rdO cI
theorem sn:FnIs Try.prog 37 [.bool true] [] (.own 64 0 9 38 none) [(64,.ds 63 38 false cv (it true))]:=by
 refine aG aa Try.func37 rfl rfl rfl ?_;refine sR<|rC<|nR ?_;refine rQ (aA (fh 1) rfl rfl (ak ai) (.inl rfl) (fun _=>rfl)) ?_;refine rQ (bH aa rfl rfl rfl) ?_;refine rQ (aA (s9 (wrO 1) zBk) rfl rfl (ak (ak ai)) (.inl rfl) (fun _=>rfl)) ?_;refine rC<|zW ?_;refine rC ?_;refine zO<|ao ?_;refine rC ?_;refine rQ (aj.val_le (aR aa rfl rfl rfl rfl) (gn 3 0) rfl) ?_;refine rQ (bH aa rfl rfl rfl) ?_;refine rQ (aA (jj flO zBk) rfl rfl (ak (ak ai)) (.inl rfl) (fun _=>rfl)) ?_;refine bt (dX (s:=38) (enc:=cv) (xs:=didL (wrO 1) zBk) (ys:=didL flO zBk) aa rfl rfl rfl rfl rfl rfl (by decide) (by decide) rfl) rfl ?_;refine rC<|nR ?_;refine rC ?_;refine rQ (aA (fh 0) rfl rfl (ak ai) (.inl rfl) (fun _=>rfl)) ?_;refine rQ (bH aa rfl rfl rfl) ?_;refine rQ (aA (jj (wrO 0) zBk) rfl rfl (ak (ak ai)) (.inl rfl) (fun _=>rfl)) ?_;refine aS (kg (s:=38) (enc:=cv) (xs:=didL (wrO 1) zBk++didL flO zBk) (ys:=didL (wrO 0) zBk) aa rfl rfl rfl rfl rfl rfl rfl (by decide) (by decide) rfl) rfl ?_;refine rC<|nR ?_;refine rC ?_;refine rQ (aj.val_le (aR aa rfl rfl rfl rfl) (ft 3 0 0 0 0 zBk) rfl) ?_;refine bt (aH (s:=38) aa rfl rfl rfl rfl rfl rfl rfl rfl) rfl ?_;refine aS (bG (s:=38) (enc:=cv) (xs:=didL (wrO 1) zBk++didL flO zBk++didL (wrO 0) zBk) aa (⟨3,0,zOp,zBk,0⟩:HEv) rfl rfl rfl rfl rfl rfl rfl rfl rfl (by decide) rfl) rfl ?_;refine rQ (aj.val_le (aR aa rfl rfl rfl rfl) (gn 1 0) rfl) ?_;refine rQ (aA kx rfl rfl ai (.inl rfl) (fun _=>rfl)) ?_;refine rQ (aA (jj rdO cI) rfl rfl (ak (ak ai)) (.inl rfl) (fun _=>rfl)) ?_;refine aS (kg (s:=38) (enc:=cv) (xs:=didL (wrO 1) zBk++didL flO zBk++didL (wrO 0) zBk++[⟨3,0,zOp,zBk,0⟩]) (ys:=didL rdO cI) aa rfl rfl rfl rfl rfl rfl rfl (by decide) (by decide) rfl) rfl ?_;refine rC<|zT ?_
 exact⟨trivial,[(64,some 264)],lg zV ⟨⟨rfl,rfl,_,rfl,aO.of_eq rfl⟩,trivial⟩⟩
theorem ln:FnIs Try.prog 37 [.bool true] [] (.d (encH (it true))) []:=sn.freeze_out 64 _ rfl (Frz.own rfl) trivial
theorem so:FnIs Try.prog 37 [.bool false] [] (.own 64 0 7 38 none) [(64,.ds 63 38 false cv (it false))]:=by
 refine aG aa Try.func37 rfl rfl rfl ?_;refine sR<|rC<|nR ?_;refine rQ (aA (fh 1) rfl rfl (ak ai) (.inl rfl) (fun _=>rfl)) ?_;refine rQ (bH aa rfl rfl rfl) ?_;refine rQ (aA (s9 (wrO 1) zBk) rfl rfl (ak (ak ai)) (.inl rfl) (fun _=>rfl)) ?_;refine rC<|zW ?_;refine rC ?_;refine zJ<|kS<|sR ?_;refine rC ?_;refine rQ (aA (fh 0) rfl rfl (ak ai) (.inl rfl) (fun _=>rfl)) ?_;refine rQ (bH aa rfl rfl rfl) ?_;refine rQ (aA (jj (wrO 0) zBk) rfl rfl (ak (ak ai)) (.inl rfl) (fun _=>rfl)) ?_;refine bt (dX (s:=38) (enc:=cv) (xs:=didL (wrO 1) zBk) (ys:=didL (wrO 0) zBk) aa rfl rfl rfl rfl rfl rfl (by decide) (by decide) rfl) rfl ?_;refine rC<|nR ?_;refine rC ?_;refine rQ (aj.val_le (aR aa rfl rfl rfl rfl) (ft 3 0 0 0 0 zBk) rfl) ?_;refine bt (aH (s:=38) aa rfl rfl rfl rfl rfl rfl rfl rfl) rfl ?_;refine aS (bG (s:=38) (enc:=cv) (xs:=didL (wrO 1) zBk++didL (wrO 0) zBk) aa (⟨3,0,zOp,zBk,0⟩:HEv) rfl rfl rfl rfl rfl rfl rfl rfl rfl (by decide) rfl) rfl ?_;refine rQ (aj.val_le (aR aa rfl rfl rfl rfl) (gn 1 0) rfl) ?_;refine rQ (aA kx rfl rfl ai (.inl rfl) (fun _=>rfl)) ?_;refine rQ (aA (jj rdO cI) rfl rfl (ak (ak ai)) (.inl rfl) (fun _=>rfl)) ?_;refine aS (kg (s:=38) (enc:=cv) (xs:=didL (wrO 1) zBk++didL (wrO 0) zBk++[⟨3,0,zOp,zBk,0⟩]) (ys:=didL rdO cI) aa rfl rfl rfl rfl rfl rfl rfl (by decide) (by decide) rfl) rfl ?_;refine rC<|zT ?_
 exact⟨trivial,[(64,some 216)],lg zV ⟨⟨rfl,rfl,_,rfl,aO.of_eq rfl⟩,trivial⟩⟩
theorem lq:FnIs Try.prog 37 [.bool false] [] (.d (encH (it false))) []:=so.freeze_out 64 _ rfl (Frz.own rfl) trivial
end Go.Proofs.Ytkehohfgbblokaa
namespace Go.Proofs.Ytkehohfgbblokaa
open Go.Eng Go.Plain
set_option maxHeartbeats 32000000
set_option maxRecDepth 20000
def qo:List HEv:=[⟨1,0,wrO 1,zBk,0⟩,⟨3,0,zOp,zBk,0⟩]
def sV:List HEv:=[⟨1,0,wrO 1,zBk,0⟩,⟨1,1,flO,zBk,0⟩,⟨3,0,zOp,zBk,0⟩]
def qW:List HEv:=[⟨1,0,rdO,zBk,0⟩,⟨2,0,zOp,zBk,9⟩]
def badL:List HEv:=qW++didL (wrO 1) zBk
theorem ex1:ci (eu cI) 1 9=(([0,1],true),0):=by decide+kernel
theorem ex2:ci (eu zBk) 1 9=(([1,0],true),0):=by decide+kernel
theorem ex3:ez (eu cI) 1 3=(3,0):=by decide+kernel
theorem ex4:ez (eu cI) 1 2=(0,4):=by decide+kernel
theorem ex5:ez (eu zBk) 1 4=(4,0):=by decide+kernel
theorem ex6:ci (it true) 1 99=(([0,1,2,3],true),0):=by decide+kernel
theorem ex7:(ci (it false) 1 99).1.2=false∧(ci (it false) 1 99).2=0:=by decide+kernel
theorem ex8:(ci (qo++didL rdO cI) 1 99).1.2=false∧(ci (qo++didL rdO cI) 1 99).2=0:=by decide+kernel
theorem ex9:ci (sV++didL rdO cI) 1 99=(([0,1,2],true),0):=by decide+kernel
theorem ex10:(if (chkH badL).2=0 then stV (opsH badL) else false)=false∧(chkH badL).2=0:=by decide+kernel
theorem ex11:(ci badL 1 9).1.2=true∧(ci badL 1 9).2=0:=by decide+kernel
theorem acA (o:List Int) (e:Int) (h:_root_.Go.Proofs.Ytkehohfgbblokaa.accS 1 (opsH (eu cI)) o=e):(if opE (eu cI) 1=0 then _root_.Go.Proofs.Ytkehohfgbblokaa.accS 1 (opsH (eu cI)) o else opE (eu cI) 1)=e:=by
 rw[if_pos (by decide+kernel),h]
theorem ex12:_root_.Go.Proofs.Ytkehohfgbblokaa.accS 1 (opsH (eu cI)) [1,0]=15∧_root_.Go.Proofs.Ytkehohfgbblokaa.accS 1 (opsH (eu cI)) [0]=15∧_root_.Go.Proofs.Ytkehohfgbblokaa.accS 1 (opsH (eu cI)) [0,0]=1∧_root_.Go.Proofs.Ytkehohfgbblokaa.accS 1 (opsH (eu cI)) [0,1]=0:=by decide+kernel
end Go.Proofs.Ytkehohfgbblokaa
namespace Go.Proofs.Ytkehohfgbblokaa
open Go.Eng Go.Plain
set_option maxHeartbeats 32000000
set_option maxRecDepth 20000
attribute [local irreducible] WC RegS RegD SeqQ BlkQ ScoQ RegK CutK Sat SatN FnIs LoopQ aj OpIs
def eqN (a b:List Int):Int:=if a=b then 1 else 0
def eqG:List Int→List Int→Int
 | [],[]=>1
 | x::a,y::b=>if x=y then eqG a b else 0
 | _,_=>0
theorem sj:∀(a b:List Int),eqG a b=eqN a b
 | [],[]=>rfl
 | x::a,y::b=>by
  have ih:=sj a b
  unfold eqN at ih ⊢
  unfold eqG
  by_cases h:x=y
  ·subst h; simp[ih]
  ·simp[h]
 | [],_::_=>by simp[eqG,eqN]
 | _::_,[]=>by simp[eqG,eqN]
theorem wj (a b:List Int) (ha:a.length≤1048576):FnIs Try.prog 25 [.d (kJ a),.d (encL b)] [] (.d (i6 (eqN a b))) []:=by
 refine aG aa Try.func25 rfl rfl rfl ?_
 by_cases hl:a.length=b.length
 ·have d1:decide ((a.length:Int)=(b.length:Int))=true:=dT (by omega)
  have d1n:(!decide ((a.length:Int)=(b.length:Int)))=false:=by rw[d1]; rfl
  have d2n:(!decide ((a.length:Int)=(a.length:Int)))=false:=by rw[dT rfl]; rfl
  refine sR<|rC<|zW ?_;refine rC ?_;refine rQ (dI aa rfl rfl) ?_;refine rC ?_;refine rQ iE ?_;refine zD ?_;refine rO ?_;refine rC ?_;refine rO ?_;refine rQ (xI aa rfl rfl) ?_;refine rO ?_;refine rC ?_;refine rO ?_;refine rQ (dI aa rfl rfl) ?_;refine rO ?_;refine rC ?_;refine rQ iF ?_;refine zG<|kS<|qR ?_;refine rC<|zP ?_
  refine wc_inv (fun i:Nat=>⟨[(5,.int .i64 i),(0,.d (kJ a)),(1,.d (encL b))],[],72,Try.f25.ntmps,64⟩) (fun i=>i≤a.length∧eqG (a.drop i) (b.drop i)=eqG a b) (fun i=>a.length-i) 0 [] ⟨Nat.zero_le _,rfl⟩
   (lg zj trivial) ?_
  rintro i ⟨hi,hinv⟩
  refine cf ?_
  by_cases hlt:i<a.length
  ·have d3:decide ((i:Int)<(a.length:Int))=true:=dT (by omega)
   obtain⟨x,hx⟩:∃x,a[i]?=some x:=⟨_,List.getElem?_eq_getElem hlt⟩
   obtain⟨y,hy⟩:∃y,b[i]?=some y:=⟨_,List.getElem?_eq_getElem (by omega)⟩
   have hx2:a[((i:Int)).toNat]?=some x:=by rw[Int.toNat_natCast]; exact hx
   have hy2:b[((i:Int)).toNat]?=some y:=by rw[Int.toNat_natCast]; exact hy
   have hs:eqG (a.drop i) (b.drop i)=if x=y then eqG (a.drop (i+1)) (b.drop (i+1)) else 0:=by
    rw[List.drop_eq_getElem_cons (List.getElem?_eq_some_iff.1 hx).1,(List.getElem?_eq_some_iff.1 hx).2,List.drop_eq_getElem_cons (List.getElem?_eq_some_iff.1 hy).1,(List.getElem?_eq_some_iff.1 hy).2]
    rfl
   rw[hs]at hinv
   by_cases he:x=y
   ·have d4:(!decide (x=y))=false:=by rw[dT he]; rfl
    rw[if_pos he]at hinv
    refine qR<|zD ?_;refine rQ (dI aa rfl rfl) ?_;refine rC ?_;refine zI<|zQ<|cm<|aZ ?_;refine aw (by kernel_rfl) ?_;refine dC [0] [] ?_;refine dC [5] [] ?_;refine dQ [24,25] [] (a9 aa rfl rfl rfl rfl rfl (by omega) hx2) ?_;refine dQ [26] [] iL ?_;refine dC [1] [] ?_;refine dC [5] [] ?_;refine dQ [28,29] [] (aC aa rfl rfl rfl rfl rfl (by omega) hy2) ?_;refine dQ [30] [] iL ?_;refine dC [27,31] [] ?_;refine am (by kernel_rfl)<|aL ?_;refine wF<|bg<|zC<|ao ?_;refine rC ?_;refine rQ iD ?_;refine rC<|aE ?_
    exact aU (i+1) [] ⟨hlt,hinv⟩ (by omega) (lg zj trivial)
   ·have d4:(!decide (x=y))=true:=by rw[dF he]; rfl
    rw[if_neg he]at hinv
    rw[←sj,←hinv]
    refine qR<|zD ?_;refine rQ (dI aa rfl rfl) ?_;refine rC ?_;refine zI<|zQ<|cm<|aZ ?_;refine aw (by kernel_rfl) ?_;refine dC [0] [] ?_;refine dC [5] [] ?_;refine dQ [24,25] [] (a9 aa rfl rfl rfl rfl rfl (by omega) hx2) ?_;refine dQ [26] [] iL ?_;refine dC [1] [] ?_;refine dC [5] [] ?_;refine dQ [28,29] [] (aC aa rfl rfl rfl rfl rfl (by omega) hy2) ?_;refine dQ [30] [] iL ?_;refine dC [27,31] [] ?_;refine am (by kernel_rfl)<|aL ?_;refine wT<|sR ?_;refine rC<|zT<|zB<|dR<|zB ?_
    exact⟨trivial,[],lf⟩
  ·have d3:decide ((i:Int)<(a.length:Int))=false:=dF (by omega)
   rw[List.drop_eq_nil_of_le (by omega),List.drop_eq_nil_of_le (by omega)]at hinv
   rw[←sj,←hinv]
   refine qR<|zD ?_;refine rQ (dI aa rfl rfl) ?_;refine rC ?_;refine zG<|zX<|sR ?_;refine rC<|zT ?_
   exact⟨trivial,[],lf⟩
 ·have d1:decide ((a.length:Int)=(b.length:Int))=false:=dF (by omega)
  have d1n:(!decide ((a.length:Int)=(b.length:Int)))=true:=by rw[d1]; rfl
  have he:eqN a b=0:=by rw[eqN,if_neg fun e=>hl (by rw[e])]
  rw[he]
  refine sR<|rC<|zW ?_;refine rC ?_;refine rQ (dI aa rfl rfl) ?_;refine rC ?_;refine rQ iE ?_;refine zD ?_
  iterate 5 refine rS ?_
  refine rQ iT ?_;refine zO<|sR ?_;refine rC<|zT<|bQ ?_
  exact⟨trivial,[],lf⟩
theorem l7 (a:List Int) (ha:a.length≤1048576):FnIs Try.prog 25 [.d (kJ a),.d (encL a)] [] (.d (i6 1)) []:=by
 have:=wj a a ha
 rwa [eqN,if_pos rfl]at this
abbrev fndE (o:List Int) (f:Bool) (e:Int):AV :=.tup (.acons (.d (kJ o)) (.acons (.bool f) (.acons (.int .i64 e) .anil)))
abbrev legE (f:Bool) (e:Int):AV :=.tup (.acons (.bool f) (.acons (.int .i64 e) .anil))
abbrev stsE (m e:Int):AV :=.tup (.acons (.int .i64 m) (.acons (.int .i64 e) .anil))
theorem vN (H G C1 C2:List HEv) (hb1:FnIs Try.prog 35 [.d (bd cI)] [] (.d (encH H)) []) (hb2:FnIs Try.prog 35 [.d (bd zBk)] [] (.d (encH G)) [])
  (ln:FnIs Try.prog 37 [.bool true] [] (.d (encH C1)) []) (lq:FnIs Try.prog 37 [.bool false] [] (.d (encH C2)) [])
  (hf1:FnIs Try.prog 23 [.d (encH H),.int .i64 1,.int .i64 9] [] (fndE [0,1] true 0) []) (hf2:FnIs Try.prog 23 [.d (encH G),.int .i64 1,.int .i64 9] [] (fndE [1,0] true 0) [])
  (hs1:FnIs Try.prog 21 [.d (encH H),.int .i64 1,.int .i64 3] [] (stsE 3 0) []) (hs2:FnIs Try.prog 21 [.d (encH H),.int .i64 1,.int .i64 2] [] (stsE 0 4) []) (hs3:FnIs Try.prog 21 [.d (encH G),.int .i64 1,.int .i64 4] [] (stsE 4 0) [])
  (hacs:∀(k:Nat) o e,[[1,0],[0],[0,0],[0,1]][k]?=some o→([15,15,1,0]:List Int)[k]?=some e→FnIs Try.prog 18 [.d (encH H),.int .i64 1,.d (encL o)] [] (.d (i6 e)) [])
  (hf3:FnIs Try.prog 23 [.d (encH C1),.int .i64 1,.int .i64 99] [] (fndE [0,1,2,3] true 0) []) (hl1:FnIs Try.prog 22 [.d (encH C2),.int .i64 1,.int .i64 99] [] (legE false 0) [])
  (hl2:FnIs Try.prog 22 [.d (encH (qo++didL rdO cI)),.int .i64 1,.int .i64 99] [] (legE false 0) []) (hf4:FnIs Try.prog 23 [.d (encH (sV++didL rdO cI)),.int .i64 1,.int .i64 99] [] (fndE [0,1,2] true 0) [])
  (hsk:FnIs Try.prog 27 [.d (encH (qW++didL (wrO 1) zBk))] [] (legE false 0) []) (hl3:FnIs Try.prog 22 [.d (encH (qW++didL (wrO 1) zBk)),.int .i64 1,.int .i64 9] [] (legE true 0) []) :
  FnIs Try.prog 12 [] [] (.bool true) []:=by
 refine aG aa Try.func12 rfl rfl rfl ?_;refine sR<|rC<|nR ?_;refine rQ (aA kx rfl rfl ai (.inl rfl) (fun _=>rfl)) ?_;refine rQ (aA hb1 rfl rfl (ak ai) (.inl rfl) (fun _=>rfl)) ?_;refine rQ (bH aa rfl rfl rfl) ?_;refine rQ (aA hb2 rfl rfl (ak ai) (.inl rfl) (fun _=>rfl)) ?_;refine zD<|nR ?_;refine rC ?_;refine rQ (aA hf1 rfl rfl (ak (ak (ak ai))) (.inl rfl) (fun _=>rfl)) ?_;iterate 7 refine rC ?_
 refine nR<|rC ?_;refine rQ (aA hf2 rfl rfl (ak (ak (ak ai))) (.inl rfl) (fun _=>rfl)) ?_;iterate 7 refine rC ?_
 refine nR<|rC ?_;refine rQ (aA hs1 rfl rfl (ak (ak (ak ai))) (.inl rfl) (fun _=>rfl)) ?_;iterate 5 refine rC ?_
 refine nR<|rC ?_;refine rQ (aA hs2 rfl rfl (ak (ak (ak ai))) (.inl rfl) (fun _=>rfl)) ?_;iterate 5 refine rC ?_
 refine nR<|rC ?_;refine rQ (aA hs3 rfl rfl (ak (ak (ak ai))) (.inl rfl) (fun _=>rfl)) ?_;iterate 5 refine rC ?_
 refine zW<|zU ?_;refine rP ?_;refine rC ?_;refine rP ?_;refine rC ?_;refine rQ iG ?_;refine rC ?_;refine rP ?_;refine rC ?_;refine rP ?_;refine rC ?_;refine rQ iG ?_;refine rC ?_;refine rP ?_;refine rC ?_;refine rP ?_;refine rC ?_;refine rQ iG ?_;refine rC ?_;refine rP ?_;refine rC ?_;refine rP ?_;refine rC ?_;refine rQ iG ?_;refine rC ?_;refine rP ?_;refine rC ?_;refine rP ?_;refine rC ?_;refine rQ iG ?_;refine rC ?_;refine rP ?_;refine rC ?_;refine rP ?_;refine rC ?_;refine rQ iG ?_;refine rC ?_;refine rP ?_;refine rC ?_;refine rP ?_;refine rC ?_;refine rQ iG ?_;refine rC ?_;refine rP ?_;refine rC ?_;refine rP ?_;refine rC ?_;refine rQ iG ?_;refine rC ?_;refine rP ?_;refine rC ?_;refine rP ?_;refine rQ (aj.frozen (aH (s:=1) aa rfl rfl rfl rfl rfl rfl rfl rfl) (Frz.litsN (enc:=i6) [0,1] rfl (fun _ _=>rfl))) ?_;refine rP ?_;refine rQ (aA (l7 [0,1] (by decide)) rfl rfl (ak (ak ai)) (.inl rfl) (fun _=>rfl)) ?_;refine rP ?_;refine rC ?_;refine rP ?_;refine rQ (aj.frozen (aH (s:=1) aa rfl rfl rfl rfl rfl rfl rfl rfl) (Frz.litsN (enc:=i6) [1,0] rfl (fun _ _=>rfl))) ?_;refine rP ?_;refine rQ (aA (l7 [1,0] (by decide)) rfl rfl (ak (ak ai)) (.inl rfl) (fun _=>rfl)) ?_;refine rP ?_;refine rQ (ib (m:=1) aa rfl rfl rfl) ?_;refine rP ?_;refine rC ?_;refine rQ iG ?_;refine zJ<|kS<|qR ?_;refine rQ (aj.frozen (aH (s:=1) aa rfl rfl rfl rfl rfl rfl rfl rfl) (Frz.litsN (enc:=i6) [1,0] rfl (fun _ _=>rfl))) ?_;refine rQ (aj.frozen (aH (s:=1) aa rfl rfl rfl rfl rfl rfl rfl rfl) (Frz.litsN (enc:=i6) [0] rfl (fun _ _=>rfl))) ?_;refine rQ (aj.frozen (aH (s:=1) aa rfl rfl rfl rfl rfl rfl rfl rfl) (Frz.litsN (enc:=i6) [0,0] rfl (fun _ _=>rfl))) ?_;refine rQ (aj.frozen (aH (s:=1) aa rfl rfl rfl rfl rfl rfl rfl rfl) (Frz.litsN (enc:=i6) [0,1] rfl (fun _ _=>rfl))) ?_;refine rQ (aj.frozen (aH (s:=1) aa rfl rfl rfl rfl rfl rfl rfl rfl) (Frz.litsN (enc:=encL) [[1,0],[0],[0,0],[0,1]] rfl (fun _ _=>rfl))) ?_;refine rQ iE ?_;refine rC<|zP ?_
 refine wc_inv (fun k:Nat=>⟨[(107,.int .i64 k),(106,.int .i64 4),(105,.d (.arr 1 encL [[1,0],[0],[0,0],[0,1]])),(1,.d (encH H))],[],72,Try.f12.ntmps,64⟩) (fun k=>k≤4) (fun k=>4-k) 0 [] (Nat.zero_le _)
  (lg zi trivial) ?_
 intro k hk
 refine cf ?_
 by_cases h4:k=4
 ·subst h4
  refine sR<|rC<|nQ ?_;refine wG<|zX<|sR ?_;refine rQ (aA ln rfl rfl (ak ai) (.inl rfl) (fun _=>rfl)) ?_;refine rQ (aA hf3 rfl rfl (ak (ak (ak ai))) (.inl rfl) (fun _=>rfl)) ?_;iterate 7 refine rC ?_
  refine nR<|rQ (aA lq rfl rfl (ak ai) (.inl rfl) (fun _=>rfl)) ?_;refine rQ (aA hl1 rfl rfl (ak (ak (ak ai))) (.inl rfl) (fun _=>rfl)) ?_
  iterate 5 refine rC ?_
  refine nR<|rQ (aA (fh 1) rfl rfl (ak ai) (.inl rfl) (fun _=>rfl)) ?_;refine rQ iS ?_;refine rQ (aj.val_le (aR aa rfl rfl rfl rfl) (ft 3 0 0 0 0 zBk) rfl) ?_;refine rQ (aj.frozen (aH (s:=38) aa rfl rfl rfl rfl rfl rfl rfl rfl) (Frz.litsX (enc:=cv) qo rfl (fun _=>rfl))) ?_;refine rC<|nR ?_;refine rQ (aA (fh 1) rfl rfl (ak ai) (.inl rfl) (fun _=>rfl)) ?_;iterate 2 refine rQ iS ?_
  refine rQ (aj.val_le (aR aa rfl rfl rfl rfl) (ft 1 1 3 0 0 zBk) rfl) ?_;refine rQ (aj.val_le (aR aa rfl rfl rfl rfl) (ft 3 0 0 0 0 zBk) rfl) ?_;refine rQ (aj.frozen (aH (s:=38) aa rfl rfl rfl rfl rfl rfl rfl rfl) (Frz.litsX (enc:=cv) sV rfl (fun _=>rfl))) ?_;refine rC<|nR ?_;refine rC ?_;refine rQ (aj.val_le (aR aa rfl rfl rfl rfl) (gn 1 0) rfl) ?_;refine rQ (aA kx rfl rfl ai (.inl rfl) (fun _=>rfl)) ?_;refine rQ (aA (jj rdO cI) rfl rfl (ak (ak ai)) (.inl rfl) (fun _=>rfl)) ?_;refine rQ (aj.frozen (dX (s:=38) (enc:=cv) (xs:=qo) (ys:=didL rdO cI) aa rfl rfl rfl rfl rfl rfl (by decide) (by decide) rfl) (Frz.own (by decide))) ?_;refine rQ (aA hl2 rfl rfl (ak (ak (ak ai))) (.inl rfl) (fun _=>rfl)) ?_;iterate 5 refine rC ?_
  refine nR<|rC ?_;refine rQ (aj.val_le (aR aa rfl rfl rfl rfl) (gn 1 0) rfl) ?_;refine rQ (aA kx rfl rfl ai (.inl rfl) (fun _=>rfl)) ?_;refine rQ (aA (jj rdO cI) rfl rfl (ak (ak ai)) (.inl rfl) (fun _=>rfl)) ?_;refine rQ (aj.frozen (dX (s:=38) (enc:=cv) (xs:=sV) (ys:=didL rdO cI) aa rfl rfl rfl rfl rfl rfl (by decide) (by decide) rfl) (Frz.own (by decide))) ?_;refine rQ (aA hf4 rfl rfl (ak (ak (ak ai))) (.inl rfl) (fun _=>rfl)) ?_;iterate 7 refine rC ?_
  refine zW<|zU ?_;refine rP ?_;refine rC ?_;refine rP ?_;refine rC ?_;refine rQ iG ?_;refine rC ?_;refine rP ?_;refine rC ?_;refine rP ?_;refine rC ?_;refine rQ iG ?_;refine rC ?_;refine rP ?_;refine rC ?_;refine rP ?_;refine rC ?_;refine rQ iG ?_;refine rC ?_;refine rP ?_;refine rC ?_;refine rP ?_;refine rC ?_;refine rQ iG ?_;refine rC ?_;refine rP ?_;refine rC ?_;refine rQ iG ?_;refine rC ?_;refine rP ?_;refine rC ?_;refine rQ iG ?_;refine rC ?_;refine rP ?_;refine rC ?_;refine rP ?_;refine rC ?_;refine rQ iG ?_;refine rC ?_;refine rP ?_;refine rC ?_;refine rP ?_;refine rQ (aj.frozen (aH (s:=1) aa rfl rfl rfl rfl rfl rfl rfl rfl) (Frz.litsN (enc:=i6) [0,1,2,3] rfl (fun _ _=>rfl))) ?_;refine rP ?_;refine rQ (aA (l7 [0,1,2,3] (by decide)) rfl rfl (ak (ak ai)) (.inl rfl) (fun _=>rfl)) ?_;refine rP ?_;refine rC ?_;refine rP ?_;refine rQ (aj.frozen (aH (s:=1) aa rfl rfl rfl rfl rfl rfl rfl rfl) (Frz.litsN (enc:=i6) [0,1,2] rfl (fun _ _=>rfl))) ?_;refine rP ?_;refine rQ (aA (l7 [0,1,2] (by decide)) rfl rfl (ak (ak ai)) (.inl rfl) (fun _=>rfl)) ?_;refine rP ?_;refine rQ (ib (m:=1) aa rfl rfl rfl) ?_;refine rP ?_;refine rC ?_;refine rQ iG ?_;refine zJ<|kS<|sR ?_;refine rQ iS ?_;refine rQ (aj.val_le (aR aa rfl rfl rfl rfl) (ft 1 0 1 0 0 zBk) rfl) ?_;refine rQ (aj.val_le (aR aa rfl rfl rfl rfl) (ft 2 0 0 0 9 zBk) rfl) ?_;refine rQ (aj.frozen (aH (s:=38) aa rfl rfl rfl rfl rfl rfl rfl rfl) (Frz.litsX (enc:=cv) qW rfl (fun _=>rfl))) ?_;refine rQ (aA (fh 1) rfl rfl (ak ai) (.inl rfl) (fun _=>rfl)) ?_;refine rQ (bH aa rfl rfl rfl) ?_;refine rQ (aA (jj (wrO 1) zBk) rfl rfl (ak (ak ai)) (.inl rfl) (fun _=>rfl)) ?_;refine rQ (aj.frozen (dX (s:=38) (enc:=cv) (xs:=qW) (ys:=didL (wrO 1) zBk) aa rfl rfl rfl rfl rfl rfl (by decide) (by decide) rfl) (Frz.own (by decide))) ?_;refine rC<|nR ?_;refine rC ?_;refine rQ (aA hsk rfl rfl (ak ai) (.inl rfl) (fun _=>rfl)) ?_;iterate 5 refine rC ?_
  refine nR<|rC ?_;refine rQ (aA hl3 rfl rfl (ak (ak (ak ai))) (.inl rfl) (fun _=>rfl)) ?_;iterate 5 refine rC ?_
  refine nR<|zU ?_;refine rP ?_;refine rC ?_;refine rP ?_;refine rC ?_;refine rQ iU ?_;refine rC ?_;refine rP ?_;refine rC ?_;refine rP ?_;refine rC ?_;refine rQ iU ?_;refine rC ?_;refine rP ?_;refine rC ?_;refine rQ iU ?_;refine rC<|zT ?_
  exact⟨trivial,[],lf⟩
 by_cases h0:k=0
 ·subst h0
  have hac:=hacs 0 [1,0] 15 rfl rfl
  have hod:([[1,0],[0],[0,0],[0,1]]:List (List Int))[(((0:Nat):Int)).toNat]?=some [1,0]:=rfl
  refine sR<|rC<|nQ ?_;refine wV<|zQ<|zS ?_;refine rC ?_;refine rQ (aC aa rfl rfl rfl rfl rfl (by omega) hod) ?_;refine rQ iL ?_;refine zD<|nQ ?_;refine aw (by kernel_rfl) ?_;refine dC [1] [] ?_;refine dC [16] [] ?_;refine dQ [112,113] [] (aA hac rfl rfl (ak (ak (ak ai))) (.inl rfl) (fun _=>rfl)) ?_;refine dQ [] [] (jL aa rfl rfl rfl rfl rfl) ?_;refine dC [15] [] ?_;refine dQ [115,116] [] (ay aa (fun K hk=>⟨by decide,by decide,_,rfl,hk⟩)) ?_;refine dC [114,117] [] ?_;refine am (by kernel_rfl)<|aL ?_;refine wG<|bg<|zC<|ao ?_;refine rQ iD ?_;refine rC<|aE ?_
  exact aU 1 [] (by decide) (by decide) (lg zi trivial)
 by_cases h1:k=1
 ·subst h1
  have hac:=hacs 1 [0] 15 rfl rfl
  have hod:([[1,0],[0],[0,0],[0,1]]:List (List Int))[(((1:Nat):Int)).toNat]?=some [0]:=rfl
  refine sR<|rC<|nQ ?_;refine wV<|zQ<|zS ?_;refine rC ?_;refine rQ (aC aa rfl rfl rfl rfl rfl (by omega) hod) ?_;refine rQ iL ?_;refine zD<|nQ ?_;refine aw (by kernel_rfl) ?_;refine dC [1] [] ?_;refine dC [16] [] ?_;refine dQ [112,113] [] (aA hac rfl rfl (ak (ak (ak ai))) (.inl rfl) (fun _=>rfl)) ?_;refine dQ [] [] (jL aa rfl rfl rfl rfl rfl) ?_;refine dC [15] [] ?_;refine dQ [115,116] [] (ay aa (fun K hk=>⟨by decide,by decide,_,rfl,hk⟩)) ?_;refine dC [114,117] [] ?_;refine am (by kernel_rfl)<|aL ?_;refine wG<|bg<|zC<|ao ?_;refine rQ iD ?_;refine rC<|aE ?_
  exact aU 2 [] (by decide) (by decide) (lg zi trivial)
 by_cases h2:k=2
 ·subst h2
  have hac:=hacs 2 [0,0] 1 rfl rfl
  have hod:([[1,0],[0],[0,0],[0,1]]:List (List Int))[(((2:Nat):Int)).toNat]?=some [0,0]:=rfl
  refine sR<|rC<|nQ ?_;refine wV<|zQ<|zS ?_;refine rC ?_;refine rQ (aC aa rfl rfl rfl rfl rfl (by omega) hod) ?_;refine rQ iL ?_;refine zD<|nQ ?_;refine aw (by kernel_rfl) ?_;refine dC [1] [] ?_;refine dC [16] [] ?_;refine dQ [112,113] [] (aA hac rfl rfl (ak (ak (ak ai))) (.inl rfl) (fun _=>rfl)) ?_;refine dQ [] [] (jL aa rfl rfl rfl rfl rfl) ?_;refine dC [15] [] ?_;refine dQ [115,116] [] (ay aa (fun K hk=>⟨by decide,by decide,_,rfl,hk⟩)) ?_;refine dC [114,117] [] ?_;refine am (by kernel_rfl)<|aL ?_;refine wG<|bg<|zC<|ao ?_;refine rQ iD ?_;refine rC<|aE ?_
  exact aU 3 [] (by decide) (by decide) (lg zi trivial)
 ·obtain rfl:k=3:=by omega
  have hac:=hacs 3 [0,1] 0 rfl rfl
  have hod:([[1,0],[0],[0,0],[0,1]]:List (List Int))[(((3:Nat):Int)).toNat]?=some [0,1]:=rfl
  refine sR<|rC<|nQ ?_;refine wV<|zQ<|zS ?_;refine rC ?_;refine rQ (aC aa rfl rfl rfl rfl rfl (by omega) hod) ?_;refine rQ iL ?_;refine zD<|nQ ?_;refine aw (by kernel_rfl) ?_;refine dC [1] [] ?_;refine dC [16] [] ?_;refine dQ [112,113] [] (aA hac rfl rfl (ak (ak (ak ai))) (.inl rfl) (fun _=>rfl)) ?_;refine dQ [] [] (jL aa rfl rfl rfl rfl rfl) ?_;refine dC [15] [] ?_;refine dQ [115,116] [] (ay aa (fun K hk=>⟨by decide,by decide,_,rfl,hk⟩)) ?_;refine dC [114,117] [] ?_;refine am (by kernel_rfl)<|aL ?_;refine wG<|bg<|zC<|ao ?_;refine rQ iD ?_;refine rC<|aE ?_
  exact aU 4 [] (by decide) (by decide) (lg zi trivial)
theorem jd:FnIs Try.prog 12 [] [] (.bool true) []:=by
 have fnd:∀(h:List HEv) (fuel:Int) r,ci h 1 fuel=r→h.length≤100→fuel≤100→FnIs Try.prog 23 [.d (encH h),.int .i64 1,.int .i64 fuel] [] (fndE r.1.1 r.1.2 r.2) []:=fun h fuel r hr hh hf=>by
  have:=s4 (jx h 1 fuel (by omega) (.inl (by omega)) (fun _=>by have:=Nat.mul_le_mul (show fuel.toNat≤100 by omega) (show h.length+1≤101 by omega); omega))
  rwa [hr]at this
 have sts:∀(h:List HEv) (fuel:Int) r,ez h 1 fuel=r→h.length≤100→fuel≤100→FnIs Try.prog 21 [.d (encH h),.int .i64 1,.int .i64 fuel] [] (stsE r.1 r.2) []:=fun h fuel r hr hh hf=>by
  have:=nH (jx h 1 fuel (by omega) (.inl (by omega)) (fun _=>by have:=Nat.mul_le_mul (show fuel.toNat≤100 by omega) (show h.length+1≤101 by omega); omega))
  rwa [hr]at this
 have leg:∀(h:List HEv) (fuel:Int) (f:Bool) (e:Int),(ci h 1 fuel).1.2=f∧(ci h 1 fuel).2=e→h.length≤100→fuel≤100→FnIs Try.prog 22 [.d (encH h),.int .i64 1,.int .i64 fuel] [] (legE f e) []:=fun h fuel f e hr hh hf=>by
  have:=qs (jx h 1 fuel (by omega) (.inl (by omega)) (fun _=>by have:=Nat.mul_le_mul (show fuel.toNat≤100 by omega) (show h.length+1≤101 by omega); omega))
  rwa [hr.1,hr.2]at this
 refine vN (eu cI) (eu zBk) (it true) (it false) (td _) (td _) ln lq (fnd _ 9 _ ex1 (by decide) (by decide)) (fnd _ 9 _ ex2 (by decide) (by decide)) (sts _ 3 _ ex3 (by decide) (by decide)) (sts _ 2 _ ex4 (by decide) (by decide)) (sts _ 4 _ ex5 (by decide) (by decide)) (fun k o e ho he=>?_) (fnd _ 99 _ ex6 (by decide) (by decide)) (leg _ 99 _ _ ex7 (by decide) (by decide)) (leg _ 99 _ _ ex8 (by decide) (by decide)) (fnd _ 99 _ ex9 (by decide) (by decide)) ?_ (leg _ 9 _ _ ex11 (by decide) (by decide))
 ·have hal:(rdH (eu cI)).all.length≤1048576:=Nat.le_trans (fk _) (by decide)
  have key:∀(o:List Int) (e:Int),_root_.Go.Proofs.Ytkehohfgbblokaa.accS 1 (opsH (eu cI)) o=e→o.length≤100→FnIs Try.prog 18 [.d (encH (eu cI)),.int .i64 1,.d (encL o)] [] (.d (i6 e)) []:=fun o e h1 h2=>by
   have:=uC (eu cI) 1 o (by decide) hal (by omega)
   rwa [acA o e h1]at this
  match k,ho,he with
  | 0,ho,he=>cases ho; cases he; exact key _ _ ex12.1 (by decide)
  | 1,ho,he=>cases ho; cases he; exact key _ _ ex12.2.1 (by decide)
  | 2,ho,he=>cases ho; cases he; exact key _ _ ex12.2.2.1 (by decide)
  | 3,ho,he=>cases ho; cases he; exact key _ _ ex12.2.2.2 (by decide)
  | k+4,ho,he=>simp at ho
 ·have hal:(rdH badL).all.length≤1048576:=Nat.le_trans (fk _) (by decide)
  have:=tv badL (by decide) hal
  rw[ex10.1,ex10.2]at this
  exact this
abbrev r01d (b:Bool):AV :=.d (i6 (if b then 1 else 0))
theorem vg (o:HOp):FnIs Try.prog 16 [.d (bh o)] [] (r01d (bL o)) []:=by
 refine aG aa Try.func16 rfl rfl rfl ?_
 unfold bL
 cases h1:decide (0≤o.returned) with
 | true =>
  cases h2:decide (o.err=0) with
  | true =>
   refine sR<|rN ?_;refine rC<|zW ?_;refine rC ?_;refine rQ iB ?_;refine zD ?_;refine rO ?_;refine rC ?_;refine rO ?_;refine rQ iB ?_;refine rO ?_;refine rC ?_;refine rQ iT ?_;refine zI<|sR ?_;refine rC<|nS<|eD<|bQ ?_
   exact⟨trivial,[],lf⟩
  | false =>
   refine sR<|rN ?_;refine rC<|zW ?_;refine rC ?_;refine rQ iB ?_;refine zD ?_;refine rO ?_;refine rC ?_;refine rO ?_;refine rQ iB ?_;refine rO ?_;refine rC ?_;refine rQ iT ?_;refine zG<|kS<|sR ?_;refine rC<|zT ?_
   exact⟨trivial,[],lf⟩
 | false =>
  refine sR<|rN ?_;refine rC<|zW ?_;refine rC ?_;refine rQ iB ?_;refine zD ?_
  iterate 3 refine rS ?_
  refine rQ iF ?_;refine zJ<|kS<|sR ?_;refine rC<|zT ?_
  exact⟨trivial,[],lf⟩
def stB (o p:HOp):Bool:=decide (o.err=9)&&(decide (o.era=p.era)&&(decide (o.returned<p.invoked)&&(decide (0≤p.returned)&&(decide (p.err=0)||decide (p.err=8)))))
def rstV (l:List HOp):Bool := !l.any fun o=>l.any (stB o)
theorem jy (h:List HEv):∀(n i:Nat) (out:List HOp) (era:Int),(eW h n i out era).length≤out.length+n
 | 0,_,out,_=>by simp[eW]
 | n+1,i,out,era=>by
  rw[eW]
  split
  ·omega
  ·split
   ·have:=jy h n (i+1) out (era+1); omega
   ·split
    ·rename_i x _ _ _
     have:=jy h n (i+1) (out++[mkOp h i x out era]) era
     rw[List.length_append,List.length_singleton]at this
     omega
    ·have:=jy h n (i+1) out era; omega
theorem vF (h:List HEv):(opsR h).length≤h.length:=by
 have:=jy h h.length 0 [] 0
 simpa[opsR]using this
structure RS where
 era:Int
 taken:List Int
 arr:List (List UInt8)
 dur:List (List UInt8)
abbrev iK (l:List (List UInt8)):D :=.arr 32 bd l
def gN (s:RS):D :=.cons (i6 s.era) (.cons (ov s.taken) (.cons (iK s.arr) (.cons (iK s.dur) .nil)))
abbrev nk (l:List (List UInt8)):Row :=.ds 27 32 true bd l
theorem Be {α:Type} {l:List α} {k:Nat} {x z:α} (h:l[k]?=some x):(l.take k++List.replicate (l.length-k) z).set k x=l.take (k+1)++List.replicate (l.length-(k+1)) z:=by
 have hlt:=(List.getElem?_eq_some_iff.1 h).1
 obtain⟨m,hm⟩:∃m,l.length-k=m+1:=⟨l.length-k-1,by omega⟩
 rw[hm,show l.length-(k+1)=m by omega,List.replicate_succ,List.set_append_right _ _ (by rw[List.length_take]; omega),List.length_take,Nat.min_eq_left (by omega),Nat.sub_self,List.set_cons_zero,List.take_add_one,h]
 simp
theorem nj (l:List (List UInt8)) (hl:l.length≤1048576):FnIs Try.prog 65 [.d (iK l)] [] (.own 64 0 l.length 32 none) [(64,nk l)]:=by
 refine aG aa Try.func65 rfl rfl rfl ?_;refine sR<|rC<|nR ?_;refine rC ?_;refine rQ iE ?_;refine bt (dz (enc:=bd) (s:=32) (N:=l.length) aa zBk rfl rfl rfl rfl rfl rfl rfl hl rfl) rfl ?_;refine rC<|zW ?_;refine rC<|zP ?_
 refine wc_inv (fun k:Nat=>⟨[(4,.int .i64 k),(3,.own 65 0 l.length 32 none),(0,.d (iK l))],[(65,some (nk (l.take k++List.replicate (l.length-k) zBk)))],72,Try.f65.ntmps,64⟩) (fun k=>k≤l.length) (fun k=>l.length-k) 0 [(65,some _)] (Nat.zero_le _)
  (lg zj ⟨zR,trivial⟩) ?_
 intro k hk
 refine cf ?_
 by_cases hlt:k<l.length
 ·have d1:decide ((k:Int)<(l.length:Int))=true:=dT (by omega)
  obtain⟨x,hx⟩:∃x,l[k]?=some x:=⟨_,List.getElem?_eq_getElem hlt⟩
  have hx2:l[((k:Int)).toNat]?=some x:=by rw[Int.toNat_natCast]; exact hx
  obtain⟨z0,hz1⟩:∃z0,(l.take k++List.replicate (l.length-k) zBk)[k]?=some z0:=⟨_,List.getElem?_eq_getElem (by rw[List.length_append,List.length_take,List.length_replicate]; omega)⟩
  have hz0:(l.take k++List.replicate (l.length-k) zBk)[((k:Int)).toNat]?=some z0:=by rw[Int.toNat_natCast]; exact hz1
  have hset:(l.take k++List.replicate (l.length-k) zBk).set ((k:Int)).toNat x=l.take (k+1)++List.replicate (l.length-(k+1)) zBk:=by rw[Int.toNat_natCast]; exact Be hx
  refine qR<|zD ?_;refine rQ iE ?_;refine rC ?_;refine zI<|zQ<|cm<|ao ?_;iterate 4 refine rC ?_
  refine rQ (aC aa rfl rfl rfl rfl rfl (by omega) hx2) ?_;refine rQ iL ?_;refine rQ (aP aa rfl rfl rfl rfl rfl (by omega) (by omega)) ?_;refine bO (aK aa rfl rfl rfl ⟨rfl,z0,x,hz0,⟨rfl,rfl,rfl⟩,rfl⟩ rfl)<|aE<|zC<|ao ?_;refine rC ?_;refine rQ iD ?_;refine rC<|aE ?_
  exact aU (k+1) [(65,some 65)] hlt (by omega) (lg zj ⟨⟨rfl,rfl,_,rfl,aO.of_eq (congrArg nk hset)⟩,trivial⟩)
 ·have d1:decide ((k:Int)<(l.length:Int))=false:=dF (by omega)
  obtain rfl:k=l.length:=by omega
  rw[List.take_length,Nat.sub_self,List.replicate_zero,List.append_nil]
  refine qR<|zD ?_;refine rQ iE ?_;refine rC ?_;refine zG<|zX<|sR ?_;refine zD<|zT ?_
  exact⟨trivial,[(64,some 65)],lg zV ⟨zR,trivial⟩⟩
theorem fC (l:List (List UInt8)) (hl:l.length≤1048576):FnIs Try.prog 65 [.d (iK l)] [] (.d (iK l)) []:=(nj l hl).freeze_out 64 _ rfl (Frz.own rfl) trivial
def aN (n:Nat):RS:=⟨0,[],List.replicate n zBk,List.replicate n zBk⟩
theorem yL (n:Nat):DLe (.cons (i6 0) (.cons (.sc nil_) (.cons (iK (List.replicate n zBk)) (.cons (iK (List.replicate n zBk)) .nil)))) (gN (aN n)):=by
 rintro w X cs ⟨c1,r1,rfl,h1,c2,r2,rfl,h2,h3⟩
 exact⟨c1,_,rfl,h1,c2,_,rfl,.inl ⟨rfl,h2.1⟩,h3⟩
theorem tD (n:Nat) (hn:n≤1048576):FnIs Try.prog 48 [.int .i64 n] [] (.d (gN (aN n))) []:=by
 refine aG aa Try.func48 rfl rfl rfl ?_;refine sR<|rN<|nQ ?_;refine aw (by kernel_rfl) ?_;refine dC [0] [] ?_;refine dQ [3] [] (aj.frozen (dz (enc:=bd) (s:=32) (N:=n) aa zBk rfl rfl rfl rfl rfl rfl rfl hn rfl) (Frz.own (by rw[List.length_replicate]))) ?_;refine dC [0] [] ?_;refine dQ [5] [] (aj.frozen (dz (enc:=bd) (s:=32) (N:=n) aa zBk rfl rfl rfl rfl rfl rfl rfl hn rfl) (Frz.own (by rw[List.length_replicate]))) ?_;refine dQ [4,6] [] (aj.val_le (aR aa rfl rfl rfl rfl) (yL n) rfl) ?_;refine br [2,7] [64] (aK aa rfl rfl rfl ⟨_,⟨rfl,rfl,rfl⟩,rfl⟩ rfl) ?_;refine am (by kernel_rfl)<|aL<|eD ?_
 exact⟨trivial,_,rfl,[],lf⟩
def aY (s:RS):RS:=⟨s.era+1,[],s.dur,s.dur⟩
theorem yT (e:Int) (d:List (List UInt8)):DLe (.cons (i6 e) (.cons (.sc nil_) (.cons (iK d) (.cons (iK d) .nil)))) (gN ⟨e,[],d,d⟩):=by
 rintro w X cs ⟨c1,r1,rfl,h1,c2,r2,rfl,h2,h3⟩
 exact⟨c1,_,rfl,h1,c2,_,rfl,.inl ⟨rfl,h2.1⟩,h3⟩
theorem p5 (s:RS) (hd:s.dur.length≤1048576) (he:IntKind.i64.wrap (s.era+1)=s.era+1):FnIs Try.prog 51 [.d (gN s)] [] (.d (gN (aY s))) []:=by
 have hc:=fC s.dur hd
 refine aG aa Try.func51 rfl rfl rfl ?_;refine sR ?_;iterate 2 refine rN ?_
 refine nQ<|aw (by kernel_rfl) ?_;refine dC [1] [] ?_;refine dQ [3] [64] iB ?_;refine dQ [4] [] (ce (m:=s.era+1) aa rfl rfl he) ?_;refine dC [1] [] ?_;refine dQ [6] [64] iB ?_;refine dQ [7] [] (aA hc rfl rfl (ak ai) (.inl rfl) (fun _=>rfl)) ?_;refine dC [1] [] ?_;refine dQ [9] [64] iB ?_;refine dQ [10] [] (aA hc rfl rfl (ak ai) (.inl rfl) (fun _=>rfl)) ?_;refine dQ [5,8,11] [] (aj.val_le (aR aa rfl rfl rfl rfl) (yT (s.era+1) s.dur) rfl) ?_;refine br [2,12] [72] (aK aa rfl rfl rfl ⟨_,⟨rfl,rfl,rfl⟩,rfl⟩ rfl) ?_;refine am (by kernel_rfl)<|aL<|eD ?_
 exact⟨trivial,_,rfl,[],lf⟩
theorem u6 {α:Type} {l:List α} {i:Nat} {x:α} (h:l[i]?=some x):l.set i x=l:=by
 apply List.ext_getElem?
 intro j
 rw[List.getElem?_set]
 split
 ·rename_i e
  subst e
  rw[if_pos (List.getElem?_eq_some_iff.1 h).1,h]
 ·rfl
def pgAt (l:List (List UInt8)) (i:Int):List UInt8:=l[i.toNat]?.getD zBk
def hapR (s:RS) (o:HOp):RS×Bool :=
 if o.op.kind=1 then (s,!bL o||decide (pgAt s.arr o.op.index=o.value))
 else if o.op.kind=2 then ({ s with arr:=s.arr.set o.op.index.toNat o.op.data },true)
 else ({ s with dur:=s.arr },true)
structure rf (s:RS) (o:HOp):Prop where
 al:s.arr.length≤1048576
 dl:s.dur.length≤1048576
 pg:∀p∈s.arr,p.length=32
 kd:o.op.kind=1∨o.op.kind=2∨o.op.kind=3
 ix:o.op.kind=1∨o.op.kind=2→0≤o.op.index∧o.op.index<s.arr.length
 dt:o.op.kind=2→o.op.data.length=32
abbrev hapE (r:RS×Bool):AV :=.tup (.acons (.d (gN r.1)) (.acons (r01d r.2) .anil))
theorem vj (s:RS) (o:HOp) (h:rf s o) (h1:o.op.kind=1):FnIs Try.prog 52 [.d (gN s),.d (bh o)] [] (hapE (hapR s o)) []:=by
 have hca:=fC s.arr h.al
 have hcd:=fC s.dur h.dl
 have hmu:=vg o
 have k1:decide (o.op.kind=1)=true:=dT h1
 have k2:decide (o.op.kind=2)=false:=dF (by omega)
 have k3:decide (o.op.kind=3)=false:=dF (by omega)
 obtain⟨hi0,hi1⟩:=h.ix (.inl h1)
 obtain⟨x,hx⟩:∃x,s.arr[o.op.index.toNat]?=some x:=⟨_,List.getElem?_eq_getElem (by omega)⟩
 have hp:pgAt s.arr o.op.index=x:=by rw[pgAt,hx]; rfl
 refine aG aa Try.func52 rfl rfl rfl ?_
 rw[hapR,if_pos h1,hp]
 cases hm:bL o with
 | false =>
  rw[hm]at hmu
  refine sR ?_;iterate 3 refine rN ?_
  refine rC<|nQ ?_;refine aw (by kernel_rfl) ?_;refine dC [2] [] ?_;refine dQ [8] [64] iB ?_;refine dC [2] [] ?_;refine dQ [10] [64] iB ?_;refine dC [2] [] ?_;refine dQ [12] [64] iB ?_;refine dQ [13] [] (aA hca rfl rfl (ak ai) (.inl rfl) (fun _=>rfl)) ?_;refine dC [2] [] ?_;refine dQ [15] [64] iB ?_;refine dQ [16] [] (aA hcd rfl rfl (ak ai) (.inl rfl) (fun _=>rfl)) ?_;refine dQ [9,11,14,17] [] iS ?_;refine da [] [] rfl (ay aa (fun K hk=>hk)) ?_;refine br [6,18] [184] (aK aa rfl rfl rfl ⟨_,⟨rfl,rfl,rfl⟩,rfl⟩ rfl) ?_;refine am (by kernel_rfl)<|aL<|qR ?_;refine zD ?_;refine rQ iB<|zP<|sR ?_;refine zD ?_;refine zI<|aZ ?_;refine aw (by kernel_rfl) ?_;refine dQ [3] [72] iM ?_;refine dQ [24] [] (aA hmu rfl rfl (ak ai) (.inl rfl) (fun _=>rfl)) ?_;refine dC [25] [] ?_;refine dC [26] [] ?_;refine ae [27,2] rfl rfl rfl rfl ?_;refine ae [27,28] rfl rfl rfl rfl ?_;refine ae [27,3] rfl rfl rfl rfl ?_;refine ae [27,30] rfl rfl rfl rfl ?_;refine ae [27,31] rfl rfl rfl rfl ?_;refine ae [27,29,32] rfl rfl rfl rfl ?_;refine ae [27,33] rfl rfl rfl rfl ?_;refine ae [27,3] rfl rfl rfl rfl ?_;refine ae [27,35] rfl rfl rfl rfl ?_;refine ae [27,34,36] rfl rfl rfl rfl ?_;refine dQ [27,37] [] iG ?_;refine am (by kernel_rfl)<|aL ?_;refine wG<|bg<|zC<|sR ?_;refine rQ iM ?_;refine rW ?_;refine rC<|zT ?_
  exact⟨trivial,_,rfl,[],lf⟩
 | true =>
  rw[hm]at hmu
  by_cases he:x=o.value
  ·have d2:decide (x=o.value)=true:=dT he
   have d1:(!decide (x=o.value))=false:=by rw[d2]; rfl
   rw[d2]
   refine sR ?_;iterate 3 refine rN ?_
   refine rC<|nQ ?_;refine aw (by kernel_rfl) ?_;refine dC [2] [] ?_;refine dQ [8] [64] iB ?_;refine dC [2] [] ?_;refine dQ [10] [64] iB ?_;refine dC [2] [] ?_;refine dQ [12] [64] iB ?_;refine dQ [13] [] (aA hca rfl rfl (ak ai) (.inl rfl) (fun _=>rfl)) ?_;refine dC [2] [] ?_;refine dQ [15] [64] iB ?_;refine dQ [16] [] (aA hcd rfl rfl (ak ai) (.inl rfl) (fun _=>rfl)) ?_;refine dQ [9,11,14,17] [] iS ?_;refine da [] [] rfl (ay aa (fun K hk=>hk)) ?_;refine br [6,18] [184] (aK aa rfl rfl rfl ⟨_,⟨rfl,rfl,rfl⟩,rfl⟩ rfl) ?_;refine am (by kernel_rfl)<|aL<|qR ?_;refine zD ?_;refine rQ iB<|zP<|sR ?_;refine zD ?_;refine zI<|aZ ?_;refine aw (by kernel_rfl) ?_;refine dQ [3] [72] iM ?_;refine dQ [24] [] (aA hmu rfl rfl (ak ai) (.inl rfl) (fun _=>rfl)) ?_;refine dC [25] [] ?_;refine dC [26] [] ?_;refine ab [27,2] [] rfl rfl rfl rfl (ay aa (fun K hk=>hk)) ?_;refine ab [27,28] [64] rfl rfl rfl rfl (aJ aa rfl rfl ⟨_,rfl,rfl⟩ rfl) ?_;refine ab [27,3] [] rfl rfl rfl rfl (ay aa (fun K hk=>hk)) ?_;refine ab [27,30] [] rfl rfl rfl rfl (ay aa (fun K hk=>hk)) ?_;refine ab [27,31] [72] rfl rfl rfl rfl (aJ aa rfl rfl ⟨_,rfl,rfl⟩ rfl) ?_;refine ab [27,29,32] [] rfl rfl rfl rfl (aC aa rfl rfl rfl rfl rfl hi0 hx) ?_;refine ab [27,33] [] rfl rfl rfl rfl (ic aa rfl rfl) ?_;refine ab [27,3] [] rfl rfl rfl rfl (ay aa (fun K hk=>hk)) ?_;refine ab [27,35] [72] rfl rfl rfl rfl (aJ aa rfl rfl ⟨_,rfl,rfl⟩ rfl) ?_;refine ab [27,34,36] [] rfl rfl rfl rfl (qk rfl rfl rfl rfl (by kernel_rfl) (by decide) (cQ x o.value)) ?_;refine dQ [27,37] [] iU ?_;refine am (by kernel_rfl)<|aL ?_;refine wF<|bg<|zC<|sR ?_;refine rQ iM ?_;refine rW ?_;refine rC<|zT ?_
   exact⟨trivial,_,rfl,[],lf⟩
  ·have d2:decide (x=o.value)=false:=dF he
   have d1:(!decide (x=o.value))=true:=by rw[d2]; rfl
   rw[d2]
   refine sR ?_;iterate 3 refine rN ?_
   refine rC<|nQ ?_;refine aw (by kernel_rfl) ?_;refine dC [2] [] ?_;refine dQ [8] [64] iB ?_;refine dC [2] [] ?_;refine dQ [10] [64] iB ?_;refine dC [2] [] ?_;refine dQ [12] [64] iB ?_;refine dQ [13] [] (aA hca rfl rfl (ak ai) (.inl rfl) (fun _=>rfl)) ?_;refine dC [2] [] ?_;refine dQ [15] [64] iB ?_;refine dQ [16] [] (aA hcd rfl rfl (ak ai) (.inl rfl) (fun _=>rfl)) ?_;refine dQ [9,11,14,17] [] iS ?_;refine da [] [] rfl (ay aa (fun K hk=>hk)) ?_;refine br [6,18] [184] (aK aa rfl rfl rfl ⟨_,⟨rfl,rfl,rfl⟩,rfl⟩ rfl) ?_;refine am (by kernel_rfl)<|aL<|qR ?_;refine zD ?_;refine rQ iB<|zP<|sR ?_;refine zD ?_;refine zI<|aZ ?_;refine aw (by kernel_rfl) ?_;refine dQ [3] [72] iM ?_;refine dQ [24] [] (aA hmu rfl rfl (ak ai) (.inl rfl) (fun _=>rfl)) ?_;refine dC [25] [] ?_;refine dC [26] [] ?_;refine ab [27,2] [] rfl rfl rfl rfl (ay aa (fun K hk=>hk)) ?_;refine ab [27,28] [64] rfl rfl rfl rfl (aJ aa rfl rfl ⟨_,rfl,rfl⟩ rfl) ?_;refine ab [27,3] [] rfl rfl rfl rfl (ay aa (fun K hk=>hk)) ?_;refine ab [27,30] [] rfl rfl rfl rfl (ay aa (fun K hk=>hk)) ?_;refine ab [27,31] [72] rfl rfl rfl rfl (aJ aa rfl rfl ⟨_,rfl,rfl⟩ rfl) ?_;refine ab [27,29,32] [] rfl rfl rfl rfl (aC aa rfl rfl rfl rfl rfl hi0 hx) ?_;refine ab [27,33] [] rfl rfl rfl rfl (ic aa rfl rfl) ?_;refine ab [27,3] [] rfl rfl rfl rfl (ay aa (fun K hk=>hk)) ?_;refine ab [27,35] [72] rfl rfl rfl rfl (aJ aa rfl rfl ⟨_,rfl,rfl⟩ rfl) ?_;refine ab [27,34,36] [] rfl rfl rfl rfl (qk rfl rfl rfl rfl (by kernel_rfl) (by decide) (cQ x o.value)) ?_;refine dQ [27,37] [] iU ?_;refine am (by kernel_rfl)<|aL ?_;refine wT<|sR ?_;refine rQ iM ?_;refine rW ?_;refine rC<|zT<|zB ?_
   exact⟨trivial,_,rfl,[],lf⟩
theorem vh (s:RS) (o:HOp) (h:rf s o) (h3:o.op.kind=3):FnIs Try.prog 52 [.d (gN s),.d (bh o)] [] (hapE (hapR s o)) []:=by
 have hca:=fC s.arr h.al
 have hcd:=fC s.dur h.dl
 have k1:decide (o.op.kind=1)=false:=dF (by omega)
 have k2:decide (o.op.kind=2)=false:=dF (by omega)
 have k3:decide (o.op.kind=3)=true:=dT h3
 refine aG aa Try.func52 rfl rfl rfl ?_
 rw[hapR,if_neg (by omega),if_neg (by omega)]
 refine sR ?_;iterate 3 refine rN ?_
 refine rC<|nQ ?_;refine aw (by kernel_rfl) ?_;refine dC [2] [] ?_;refine dQ [8] [64] iB ?_;refine dC [2] [] ?_;refine dQ [10] [64] iB ?_;refine dC [2] [] ?_;refine dQ [12] [64] iB ?_;refine dQ [13] [] (aA hca rfl rfl (ak ai) (.inl rfl) (fun _=>rfl)) ?_;refine dC [2] [] ?_;refine dQ [15] [64] iB ?_;refine dQ [16] [] (aA hcd rfl rfl (ak ai) (.inl rfl) (fun _=>rfl)) ?_;refine dQ [9,11,14,17] [] iS ?_;refine da [] [] rfl (ay aa (fun K hk=>hk)) ?_;refine br [6,18] [184] (aK aa rfl rfl rfl ⟨_,⟨rfl,rfl,rfl⟩,rfl⟩ rfl) ?_;refine am (by kernel_rfl)<|aL<|qR ?_;refine zD ?_;refine rQ iB<|zP<|sR ?_;refine zD ?_;refine zG<|sR ?_;refine zD ?_;refine zG<|sR ?_;refine zD ?_;refine zI<|ao ?_;refine rC ?_;refine rQ iB ?_;refine rQ (aA hca rfl rfl (ak ai) (.inl rfl) (fun _=>rfl)) ?_;refine rC ?_;refine rX<|aE<|zC<|sR ?_;refine rQ iM ?_;refine rW ?_;refine rC<|zT ?_
 exact⟨trivial,_,rfl,[],lf⟩
abbrev yq (s:RS) (n:Nat):Row :=.box 100 (.acons (.d (i6 s.era)) (.acons (.d (ov s.taken)) (.acons (.own n 0 s.arr.length 32 none) (.acons (.d (iK s.dur)) (.d .nil)))))
theorem vi (s:RS) (o:HOp) (h:rf s o) (h2:o.op.kind=2):FnIs Try.prog 52 [.d (gN s),.d (bh o)] [] (.tup (.acons (.acons (.d (i6 s.era)) (.acons (.d (ov s.taken)) (.acons (.own 64 0 s.arr.length 32 none) (.acons (.d (iK s.dur)) (.d .nil))))) (.acons (r01d true) .anil))) [(64,nk (s.arr.set o.op.index.toNat o.op.data))]:=by
 have hca:=nj s.arr h.al
 have hcd:=fC s.dur h.dl
 have k1:decide (o.op.kind=1)=false:=dF (by omega)
 have k2:decide (o.op.kind=2)=true:=dT h2
 have k3:decide (o.op.kind=3)=false:=dF (by omega)
 obtain⟨hi0,hi1⟩:=h.ix (.inr h2)
 have hdl:=h.dt h2
 obtain⟨x,hx⟩:∃x,s.arr[o.op.index.toNat]?=some x:=⟨_,List.getElem?_eq_getElem (by omega)⟩
 have hxl:x.length=32:=h.pg x (List.mem_of_getElem? hx)
 have hset0:s.arr=s.arr.set o.op.index.toNat (o.op.data.take 0++x.drop 0):=by
  rw[List.take_zero,List.nil_append,List.drop_zero]
  exact (u6 hx).symm
 refine aG aa Try.func52 rfl rfl rfl ?_;refine sR ?_;iterate 3 refine rN ?_
 refine rC<|nQ ?_;refine aw (by kernel_rfl) ?_;refine dC [2] [] ?_;refine dQ [8] [64] iB ?_;refine dC [2] [] ?_;refine dQ [10] [64] iB ?_;refine dC [2] [] ?_;refine dQ [12] [64] iB ?_;refine da [13] [] rfl (aQ [] hca rfl rfl rfl (ak ai) trivial rfl rfl (.inl rfl) rfl rfl) ?_;refine dC [2] [] ?_;refine dQ [15] [64] iB ?_;refine dQ [16] [] (aA hcd rfl rfl (ak ai) (.inl rfl) (fun _=>rfl)) ?_;refine dQ [9,11,14,17] [144] iS ?_;refine da [] [] rfl (ay aa (fun K hk=>hk)) ?_;refine br [6,18] [184] (aK aa rfl rfl rfl ⟨_,⟨rfl,rfl,rfl⟩,rfl⟩ rfl) ?_;refine am (by kernel_rfl)<|aL<|qR ?_;refine zD ?_;refine rQ iB<|zP<|sR ?_;refine zD ?_;refine zG<|sR ?_;refine zD ?_;refine zI<|sR ?_;refine rC<|zP ?_
 refine wc_inv (fun k:Nat=>⟨[(7,.int .i64 k),(6,.ptr 66 []),(4,.ptr 67 []),(3,.ptr 65 []),(2,.ptr 64 [])],[(64,some (.box 100 (.d (gN s)))),(65,some (sO o)),(66,some (yq s 68)),(67,some (.box 100 (.d r100.zero))),(68,some (nk (s.arr.set o.op.index.toNat (o.op.data.take k++x.drop k))))],72,Try.f52.ntmps,64⟩) (fun k=>k≤32) (fun k=>32-k) 0 [(64,some _),(65,some _),(66,some _),(67,some _),(68,some _)] (Nat.zero_le _)
  (lg zh ⟨zR,zR,zR,zR,⟨rfl,rfl,_,rfl,aO.of_eq (congrArg nk hset0)⟩,trivial⟩) ?_
 intro k hk
 refine cf ?_
 by_cases hlt:k<32
 ·have d5:decide ((k:Int)<32)=true:=dT (by omega)
  obtain⟨y,hy⟩:∃y,o.op.data[k]?=some y:=⟨_,List.getElem?_eq_getElem (by omega)⟩
  obtain⟨z,hz⟩:∃z,x[k]?=some z:=⟨_,List.getElem?_eq_getElem (by omega)⟩
  have hbl:(byI o.op.data).length=o.op.data.length:=gh _
  have hy2:(byI o.op.data)[((k:Int)).toNat]?=some ((y.toNat:Nat):Int):=by rw[Int.toNat_natCast]; exact l9 hy
  obtain⟨e0,he0⟩:∃e0:Int,((z.toNat:Nat):Int)=e0:=⟨_,rfl⟩
  have htl:(o.op.data.take k).length=k:=by rw[List.length_take]; omega
  have hgm:(o.op.data.take k++x.drop k)[k]?=some z:=by rw[List.getElem?_append_right (by omega),htl,Nat.sub_self,List.getElem?_drop,Nat.add_zero]; exact hz
  have hgb:(byI (o.op.data.take k++x.drop k))[((k:Int)).toNat]?=some e0:=by rw[Int.toNat_natCast,←he0]; exact l9 hgm
  have hset:(byI (o.op.data.take k++x.drop k)).set ((k:Int)).toNat ((y.toNat:Nat):Int)=byI (o.op.data.take (k+1)++x.drop (k+1)):=by
   rw[Int.toNat_natCast,byI,byI,←List.map_set,List.set_append_right _ _ (by omega),htl,Nat.sub_self,List.drop_eq_getElem_cons (by omega:k<x.length),List.set_cons_zero,List.take_add_one,hy]
   simp
  have hga:(s.arr.set o.op.index.toNat (o.op.data.take k++x.drop k))[o.op.index.toNat]?=some (o.op.data.take k++x.drop k):=by rw[List.getElem?_set_self (by omega)]
  have hss:(s.arr.set o.op.index.toNat (o.op.data.take k++x.drop k)).set o.op.index.toNat (o.op.data.take (k+1)++x.drop (k+1))=s.arr.set o.op.index.toNat (o.op.data.take (k+1)++x.drop (k+1)):=List.set_set ..
  refine qR<|zD ?_;refine zI<|zQ<|cm ?_;refine aw (by kernel_rfl) ?_;refine dC [6] [] ?_;refine dQ [46] [66] iM ?_;refine dC [3] [] ?_;refine dC [48] [] ?_;refine dQ [49] [65] iB ?_;refine dC [7] [] ?_;refine dC [3] [] ?_;refine dC [52] [] ?_;refine dQ [53] [65] iB ?_;refine dC [7] [] ?_;refine dQ [54,55] [] (aC aa rfl rfl rfl rfl rfl (by omega) hy2) ?_;refine dQ [56] [] iL ?_;refine dQ [47,50] [] (aP aa rfl rfl rfl rfl rfl hi0 hi1) ?_;refine dQ [58,51] [] (ay aa (fun K hk=>⟨by omega,by omega,hk⟩)) ?_;refine br [59,57] [68] (aK aa rfl rfl rfl ⟨rfl,_,o.op.data.take (k+1)++x.drop (k+1),hga,⟨rfl,e0,((y.toNat:Nat):Int),hgb,⟨rfl,rfl,rfl⟩,congrArg (D.vec 32 1 cD) hset.symm⟩,rfl⟩ rfl) ?_;refine am (by kernel_rfl)<|zC<|ao ?_;refine rC ?_;refine rQ iD ?_;refine rC<|aE ?_
  exact aU (k+1) [(64,some _),(65,some _),(66,some _),(67,some _),(68,some _)] hlt (by omega) (lg zh ⟨zR,zR,zR,zR,⟨rfl,rfl,_,rfl,aO.of_eq (congrArg nk hss)⟩,trivial⟩)
 ·have d5:decide ((k:Int)<32)=false:=dF (by omega)
  have hfin:o.op.data.take k++x.drop k=o.op.data:=by rw[List.take_of_length_le (by omega),List.drop_eq_nil_of_le (by omega),List.append_nil]
  rw[hfin]
  refine qR<|zD ?_;refine zG<|b8<|dO<|eT<|dW<|zC<|sR ?_;refine rQ iM ?_;refine rW ?_;refine rC<|zT ?_
  exact⟨trivial,_,rfl,[(64,some 68)],lg zV ⟨zR,trivial⟩⟩
theorem jX (s:RS) (o:HOp) (h:rf s o):FnIs Try.prog 52 [.d (gN s),.d (bh o)] [] (hapE (hapR s o)) []:=by
 rcases h.kd with k | k | k
 ·exact vj s o h k
 ·have:hapR s o=({ s with arr:=s.arr.set o.op.index.toNat o.op.data },true):=by rw[hapR,if_neg (by omega),if_pos k]
  rw[this]
  exact (vi s o h k).freeze_out 64 _ rfl (Frz.tup (.cons (Frz.dcons (.refl _) (Frz.dcons (.refl _) (Frz.dcons (Frz.own (by rw[List.length_set])) (Frz.dcons (.refl _) (.refl _))))) (.cons (.refl _) .nil))) trivial
 ·exact vh s o h k
def bJ (e:Int) (s:RS):RS:=if s.era<e then⟨e,[],s.dur,s.dur⟩ else s
def befA (l:List HOp) (o:HOp) (j:Int):Bool:=match l[j.toNat]? with
 | some p=>befB o p
 | none=>false
def fS (b:Int) (l:List HOp):List Int→List Int→RS→Int
 | [],_,_=>0
 | i::os,pre,s=>if i<0 then 1 else match l[i.toNat]? with
  | none=>1
  | some o=>if pre.any (fun y=>decide (y=i))=true then 1 else if mayB o b=false then 1 else if pre.any (befA l o)=true then 13
   else if (hapR (bJ o.era s) o).2=false then 15 else fS b l os (pre++[i]) (hapR (bJ o.era s) o).1
def iz (ord:List Int):List HOp→Nat→Bool
 | [],_=>false
 | o::l,k=>(bL o && !ord.any (fun y=>decide (y=(k:Int))))||iz ord l (k+1)
def mC (b:Int) (n:Nat) (l:List HOp) (order:List Int):Int :=
 if fS b l order [] (aN n)=0 then (if iz order l 0=true then 15 else 0) else fS b l order [] (aN n)
structure RSOk (n:Nat) (s:RS):Prop where
 al:s.arr.length=n
 dl:s.dur.length=n
 ap:∀p∈s.arr,p.length=32
 dp:∀p∈s.dur,p.length=32
 e0:0≤s.era
 e1:s.era≤1000000
theorem RSOk.first (n:Nat):RSOk n (aN n):=
 ⟨List.length_replicate,List.length_replicate,fun p hp=>by rw[(List.mem_replicate.1 hp).2]; rfl,fun p hp=>by rw[(List.mem_replicate.1 hp).2]; rfl,Int.le_refl _,by show (0:Int)≤1000000; decide⟩
theorem RSOk.crash {n:Nat} {s:RS} (h:RSOk n s) (he:s.era<1000000):RSOk n (aY s):=⟨h.dl,h.dl,h.dp,h.dp,by have:=h.e0; show 0≤s.era+1; omega,by show s.era+1≤1000000; omega⟩
theorem xp {o:HOp} {n:Nat} (h:mayB o n=true):(o.op.kind=1∨o.op.kind=2∨o.op.kind=3)∧(o.op.kind=1∨o.op.kind=2→0≤o.op.index∧o.op.index<n)∧(o.op.kind=2→o.op.data.length=32):=by
 unfold mayB badO outO at h
 by_cases k1:o.op.kind=1
 ·simp[k1]at h
  exact⟨.inl k1,fun _=>by omega,fun k=>by omega⟩
 ·by_cases k2:o.op.kind=2
  ·simp[k2]at h
   exact⟨.inr (.inl k2),fun _=>by omega,fun _=>h.1.2⟩
  ·simp[k1,k2]at h
   exact⟨.inr (.inr h.1),fun k=>by omega,fun k=>by omega⟩
theorem RSOk.hap {n:Nat} (hn:n≤1048576) {s:RS} (h:RSOk n s) {o:HOp} (hm:mayB o n=true):rf s o∧RSOk n (hapR s o).1:=by
 obtain⟨m1,m2,m3⟩:=xp hm
 refine⟨⟨by rw[h.al]; exact hn,by rw[h.dl]; exact hn,h.ap,m1,fun k=>by rw[h.al]; exact m2 k,m3⟩,?_⟩
 unfold hapR
 split
 ·exact h
 ·split
  ·rename_i k2
   exact⟨by simp only[List.length_set]; exact h.al,h.dl,fun p hp=>by
    rcases List.mem_or_eq_of_mem_set hp with hp | rfl
    ·exact h.ap p hp
    ·exact m3 k2,h.dp,h.e0,h.e1⟩
  ·exact⟨h.al,h.al,h.ap,h.ap,h.e0,h.e1⟩
abbrev rsRow (s:RS):Row :=.box 100 (.d (gN s))
def eg:List Int→Int→List Int
 | [],n=>[n]
 | a::l,n=>if n<a then n::a::l else a::eg l n
def withD (d:Bool) (l:List Int) (n:Int):List Int:=if d then l else eg l n
abbrev b01 (d:Bool):AV :=.int .i64 (if d then 1 else 0)
theorem nB (n:Int):∀l:List Int,(eg l n).length=l.length+1
 | []=>rfl
 | a::l=>by
  rw[eg]
  split
  ·rfl
  ·rw[List.length_cons,nB n l,List.length_cons]
theorem vk (h:List HEv) (hh:h.length≤1000000):FnIs Try.prog 30 [.d (encH h)] [] (.int .i64 (bA h)) []:=by
 refine aG aa Try.func30 rfl rfl rfl ?_;refine sR<|rC<|nR ?_;refine rC<|zW ?_;refine rC<|zP ?_
 refine wc_inv (fun k:Nat=>⟨[(4,.int .i64 k),(3,.int .i64 ((1+(h.take k).countP (fun x=>decide (x.kind=3)):Nat):Int)),(0,.d (encH h))],[],72,Try.f30.ntmps,64⟩) (fun k=>k≤h.length) (fun k=>h.length-k) 0 [] (Nat.zero_le _)
  (lg zj trivial) ?_
 intro k hk
 refine cf ?_
 by_cases hlt:k<h.length
 ·have d1:decide ((k:Int)<(h.length:Int))=true:=dT (by omega)
  obtain⟨x,hx⟩:∃x,h[k]?=some x:=⟨_,List.getElem?_eq_getElem hlt⟩
  have hx2:h[((k:Int)).toNat]?=some x:=by rw[Int.toNat_natCast]; exact hx
  have hc:(h.take (k+1)).countP (fun x=>decide (x.kind=3))=(h.take k).countP (fun x=>decide (x.kind=3))+if decide (x.kind=3)=true then 1 else 0:=by
   rw[List.take_add_one,hx,Option.toList_some,List.countP_append,List.countP_cons,List.countP_nil,Nat.zero_add]
  have hcl:(h.take k).countP (fun x=>decide (x.kind=3))≤k:=Nat.le_trans List.countP_le_length (by rw[List.length_take]; omega)
  cases h2:decide (x.kind=3) with
  | true =>
   rw[h2,if_pos rfl]at hc
   refine qR<|zD ?_;refine rQ iE ?_;refine rC ?_;refine zI<|zQ<|zS ?_;refine zD ?_;refine rQ (aC aa rfl rfl rfl rfl rfl (by omega) hx2) ?_;refine rC ?_;refine rQ iL ?_;refine rC ?_;refine zI<|ao ?_;refine rC ?_;refine rQ (ce (m:=((1+(h.take k).countP (fun x=>decide (x.kind=3))+1:Nat):Int)) aa rfl rfl (by rw[bp (by omega) (by omega)]; omega)) ?_;refine rC<|aE<|zC<|ao ?_;refine rC ?_;refine rQ iD ?_;refine rC<|aE ?_
   exact aU (k+1) [] hlt (by omega) (lg ⟨zE,rfl,⟨_,rfl,AVLe.of_eq (by rw[hc]; rfl)⟩,rfl,zE,rfl,trivial⟩ trivial)
  | false =>
   rw[h2,if_neg (by decide),Nat.add_zero]at hc
   refine qR<|zD ?_;refine rQ iE ?_;refine rC ?_;refine zI<|zQ<|zS ?_;refine zD ?_;refine rQ (aC aa rfl rfl rfl rfl rfl (by omega) hx2) ?_;refine rC ?_;refine rQ iL ?_;refine rC ?_;refine zG<|bg<|gR<|aL<|ao ?_;refine rC ?_;refine rQ iD ?_;refine rC<|aE ?_
   exact aU (k+1) [] hlt (by omega) (lg ⟨zE,rfl,⟨_,rfl,AVLe.of_eq (by rw[hc]; rfl)⟩,rfl,zE,rfl,trivial⟩ trivial)
 ·have d1:decide ((k:Int)<(h.length:Int))=false:=dF (by omega)
  obtain rfl:k=h.length:=by omega
  rw[List.take_length]
  refine qR<|zD ?_;refine rQ iE ?_;refine rC ?_;refine zG<|zX<|sR ?_;refine zD<|zT ?_
  exact⟨trivial,[],lf⟩
def b9 (s:RS):List HOp→Nat→Bool
 | [],_=>true
 | o::l,k => !(decide (o.era=s.era)&&(bL o && !s.taken.any (fun y=>decide (y=(k:Int)))))&&b9 s l (k+1)
def Bf (a b:RS):Bool:=decide (a.era=b.era)&&(decide (a.taken=b.taken)&&(decide (a.arr=b.arr)&&decide (a.dur=b.dur)))
def hitB (s:RS) (o:HOp) (k:Nat) (p:HOp):Bool:=if s.taken.any (fun y=>decide (y=(k:Int))) then befB o p else decide (p.era=s.era)&&(bL p&&befB p o)
def hitL (s:RS) (o:HOp):List HOp→Nat→Bool
 | [],_=>false
 | p::l,k=>hitB s o k p||hitL s o l (k+1)
def takB (s:RS) (l:List HOp) (i:Nat) (o:HOp):Bool:=decide (o.era=s.era)&&(mayB o s.arr.length&&(!s.taken.any (fun y=>decide (y=(i:Int))) && !hitL s o l 0))
def bB (s:RS) (l:List HOp) (i:Nat) (o:HOp):RS×Bool :=
 if takB s l i o then ({ (hapR s o).1 with taken:=eg s.taken i },(hapR s o).2) else (s,false)
abbrev zRS:D :=.cons (i6 0) (.cons (.sc nil_) (.cons (.sc nil_) (.cons (.sc nil_) .nil)))
end Go.Proofs.Ytkehohfgbblokaa
namespace Go.Proofs.Ytkehohfgbblokaa
open Go.Eng Go.Plain
set_option maxHeartbeats 32000000
set_option maxRecDepth 20000
def rAdd (L:List RS) (t:RS):List RS:=if L.any (fun x=>Bf x t) then L else L++[t]
def Bh (s:RS) (l:List HOp) (i:Nat) (o:HOp) (L:List RS):List RS:=if (bB s l i o).2 then rAdd L (bB s l i o).1 else L
def xZ (most:Nat) (l:List HOp) (s:RS):List HOp→Nat→List RS→List RS
 | [],_,L=>L
 | o::r,i,L=>if L.length≤most then xZ most l s r (i+1) (Bh s l i o L) else L
def rCra (l:List HOp) (e:Int) (s:RS) (L:List RS):List RS:=if decide (s.era<e-1)&&b9 s l 0 then rAdd L (aY s) else L
def Bi (most:Nat) (l:List HOp) (e:Int) (s:RS) (L:List RS):List RS:=rCra l e s (xZ most l s l 0 L)
def rStG (most:Nat) (l:List HOp) (e:Int):Nat→Nat→List RS→List RS
 | 0,_,L=>L
 | n+1,at_,L=>match L[at_]? with
  | none=>L
  | some s=>if L.length≤most then rStG most l e n (at_+1) (Bi most l e s L) else L
def BM (most:Nat) (l:List HOp) (n:Nat) (e:Int):List RS:=rStG most l e (most+2) 0 [aN n]
structure LOk (n:Nat) (L:List RS):Prop where
 ok:∀(j:Nat) (s:RS),L[j]?=some s→RSOk n s
 tk:∀(j:Nat) (s:RS),L[j]?=some s→s.taken.length≤j
end Go.Proofs.Ytkehohfgbblokaa
namespace Go.Proofs.Ytkehohfgbblokaa
open Go.Eng Go.Plain
set_option maxHeartbeats 32000000
set_option maxRecDepth 20000
abbrev hasB (T:List Int) (i:Int):Bool:=T.any fun y=>decide (y=i)
def tkE (z T:List Int):List UInt8:=z.map fun i=>if hasB T i then 1 else 0
def arE (vs:BMap) (ks:List Int) (A:List (List UInt8)):List UInt8:=ks.flatMap fun k=>de (valN vs (pgAt A k))
def encS (p:Prep) (ks:List Int) (s:RS):LSt:=⟨s.era,tkE (zOf p s.era) s.taken,arE p.vs ks s.arr,arE p.vs ks s.dur⟩
theorem qB {T:List Int} {i:Int}:hasB T i=true↔i∈T:=by
 simp only[hasB,List.any_eq_true,decide_eq_true_eq]
 exact⟨fun⟨x,h1,h2⟩=>h2 ▸ h1,fun h=>⟨i,h,rfl⟩⟩
theorem gG (T:List Int) (i j:Int):hasB (eg T i) j=(hasB T j||decide (i=j)):=by
 induction T with
 | nil=>simp[eg,hasB]
 | cons a T ih =>
  rw[eg]
  split
  ·simp only[hasB,List.any_cons]
   cases decide (i=j) <;> simp
  ·simp only[hasB,List.any_cons]at ih ⊢
   rw[ih,Bool.or_assoc]
section
variable {f g : Int → List UInt8}
theorem we (hf:∀k,(f k).length=2):∀ks:List Int,(ks.flatMap f).length=2*ks.length
 | []=>rfl
 | k::ks=>by rw[List.flatMap_cons,List.length_append,hf,we hf ks,List.length_cons]; omega
theorem s2 (hf:∀k,(f k).length=2):∀(ks:List Int) (j:Nat),(ks.flatMap f).take (2*j)=(ks.take j).flatMap f
 | ks,0=>by simp
 | [],j+1=>by simp
 | k::ks,j+1=>by
  rw[List.flatMap_cons,List.take_succ_cons,List.flatMap_cons,←s2 hf ks j,List.take_append,hf,show 2*(j+1)-2=2*j by omega,List.take_of_length_le (by rw[hf]; omega)]
theorem pu (hf:∀k,(f k).length=2):∀(ks:List Int) (j:Nat),(ks.flatMap f).drop (2*j)=(ks.drop j).flatMap f
 | ks,0=>by simp
 | [],j+1=>by simp
 | k::ks,j+1=>by
  rw[List.flatMap_cons,List.drop_succ_cons,←pu hf ks j,List.drop_append,hf,show 2*(j+1)-2=2*j by omega,List.drop_of_length_le (by rw[hf]; omega),List.nil_append]
theorem wg (hf:∀k,(f k).length=2) (hg:∀k,(g k).length=2):∀ks:List Int,ks.flatMap f=ks.flatMap g→∀k∈ks,f k=g k
 | [],_,_,h=>by cases h
 | a::ks,h,k,hk=>by
  rw[List.flatMap_cons,List.flatMap_cons]at h
  obtain⟨h1,h2⟩:=List.append_inj h (by rw[hf,hg])
  rcases List.mem_cons.1 hk with rfl | hk
  ·exact h1
  ·exact wg hf hg ks h2 k hk
theorem nc:∀ks:List Int,(∀k∈ks,f k=g k)→ks.flatMap f=ks.flatMap g
 | [],_=>rfl
 | a::ks,h=>by rw[List.flatMap_cons,List.flatMap_cons,h a List.mem_cons_self,nc ks fun k hk=>h k (List.mem_cons_of_mem _ hk)]
end
theorem sy {a b:Nat} (ha:a<65536) (hb:b<65536) (h:de a=de b):a=b:=by
 unfold de at h
 simp only[List.cons.injEq,and_true]at h
 have h1:=congrArg UInt8.toNat h.1
 have h2:=congrArg UInt8.toNat h.2
 simp only[UInt8.toNat_ofNat']at h1 h2
 omega
theorem lC (p:HOp→Bool):∀(l:List HOp) (i:Nat),(selI p l i).Pairwise (· < ·)∧∀x∈selI p l i,i≤x
 | [],_=>⟨.nil,fun _ h=>by cases h⟩
 | o::l,i=>by
  obtain⟨h1,h2⟩:=lC p l (i+1)
  unfold selI
  split
  ·exact⟨List.pairwise_cons.2 ⟨fun x hx=>by have:=h2 x hx; omega,h1⟩,fun x hx=>by
    rcases List.mem_cons.1 hx with rfl | hx
    ·exact Nat.le_refl _
    ·have:=h2 x hx; omega⟩
  ·exact⟨h1,fun x hx=>by have:=h2 x hx; omega⟩
theorem tp {l:List Nat} (h:l.Pairwise (· < ·)):(zs l).Pairwise (· < ·):=by
 unfold zs
 rw[List.pairwise_map]
 exact h.imp fun h=>by omega
theorem lz (P:Int→Bool) (i:Int):∀z:List Int,z.Pairwise (· < ·)→i∈z→P i=false→eg (z.filter P) i=z.filter fun j=>P j||decide (i=j)
 | [],_,h,_=>by cases h
 | a::z,hs,hi,hP=>by
  obtain⟨h1,h2⟩:=List.pairwise_cons.1 hs
  by_cases e:a=i
  ·subst e
   rw[List.filter_cons_of_neg (by rw[hP]; decide),List.filter_cons_of_pos (by simp)]
   have h3:(z.filter fun j=>P j||decide (a=j))=z.filter P:=List.filter_congr fun x hx=>by
    have:=h1 x hx
    rw[dF (by omega),Bool.or_false]
   rw[h3]
   cases h4:z.filter P with
   | nil=>rfl
   | cons b t =>
    have h5:b∈z:=(List.mem_filter.1 (h4 ▸ List.mem_cons_self:b∈z.filter P)).1
    rw[eg,if_pos (h1 b h5)]
  ·have hi2:i∈z:=by
    rcases List.mem_cons.1 hi with h | h
    ·exact absurd h.symm e
    ·exact h
   have ih:=lz P i z h2 hi2 hP
   have hai:=h1 i hi2
   by_cases hp:P a=true
   ·rw[List.filter_cons_of_pos hp,List.filter_cons_of_pos (by rw[hp]; rfl),eg,if_neg (by omega),ih]
   ·have hp:=Bool.eq_false_iff.2 hp
    rw[List.filter_cons_of_neg (by rw[hp]; decide),List.filter_cons_of_neg (by rw[hp,dF (fun h=>e h.symm)]; decide),ih]
theorem nX {κ ν:Type} [DecidableEq κ] {k:κ} {v:ν}:∀ {m:List (κ×ν)} {q:κ×ν},q∈putA m k v→q∈m∨q.1=k
 | [],q,h=>by simp[putA]at h; exact .inr (by rw[h])
 | (k',v')::m,q,h=>by
  unfold putA at h
  split at h
  ·rename_i e
   rcases List.mem_cons.1 h with rfl | h
   ·exact .inr e.symm
   ·exact .inl (List.mem_cons_of_mem _ h)
  ·rcases List.mem_cons.1 h with rfl | h
   ·exact .inl List.mem_cons_self
   ·rcases nX h with h | h
    ·exact .inl (List.mem_cons_of_mem _ h)
    ·exact .inr h
theorem lI {l:List HOp} {b:Int}:∀(idx:List Nat) (q:IMap×BMap),(∀i∈idx,(opN l i).op.kind≠3→0≤(opN l i).op.index∧(opN l i).op.index<b)→(∀x∈q.1,0≤x.1∧x.1<b)→∀x∈(cq l idx q).1,0≤x.1∧x.1<b
 | [],_,_,h=>h
 | i::idx,q,hi,h=>by
  refine lI idx (numP q.1 (opN l i),numV q.2 (opN l i)) (fun j hj=>hi j (List.mem_cons_of_mem _ hj)) fun x hx=>?_
  simp only at hx
  unfold numP at hx
  split at hx
  ·exact h x hx
  ·rename_i h3
   split at hx
   ·exact h x hx
   ·rcases nX hx with hx | hx
    ·exact h x hx
    ·rw[hx]; exact hi i List.mem_cons_self h3
theorem nY (l:List HOp) (b:Int):∀(e:Nat),∀x∈(cP l b e).pl,0≤x.1∧x.1<b
 | 0,x,h=>by cases h
 | e+1,x,h=>by
  refine lI (l:=l) (mayI l b e) ((cP l b e).pl,(cP l b e).vs) (fun i hi h3=>?_) (nY l b e) x h
  obtain⟨o,ho,_,hm⟩:=cS.1 hi
  have:opN l i=o:=by rw[opN,ho]; rfl
  rw[this]at h3 ⊢
  exact (jB hm).2.2 h3
theorem oh {κ:Type} {k:κ}:∀(ks:List κ) (i:Nat),k∈ks→∃v,(k,v)∈c9 ks i
 | [],_,h=>by cases h
 | a::ks,i,h=>by
  rcases List.mem_cons.1 h with rfl | h
  ·exact⟨_,List.mem_cons_self⟩
  ·obtain⟨v,hv⟩:=oh ks (i+1) h
   exact⟨v,List.mem_cons_of_mem _ hv⟩
end Go.Proofs.Ytkehohfgbblokaa
namespace Go.Proofs.Ytkehohfgbblokaa
open Go.Eng Go.Plain
set_option maxHeartbeats 32000000
set_option maxRecDepth 20000
structure ARel (n:Nat) (l:List HOp) (tk:List Bool) (ah:List HOp) (a d:VMap) (pre:List Int) (s:RS):Prop where
 tkl:tk.length=l.length
 tki:∀j,j<l.length→tk[j]?=some (pre.any fun y=>decide (y=(j:Int)))
 any:∀o,ah.any (befB o)=pre.any (befA l o)
 late:∀o,jf ah o=decide (s.era<o.era)
 ord:∀o:HOp,0≤o.era→ah.any (befB o)=false→s.era≤o.era
 av:∀j:Int,0≤j→j<n→getV a j=pgAt s.arr j
 dv:∀j:Int,0≤j→j<n→getV d j=pgAt s.dur j
 ok:RSOk n s
theorem j3 (n:Nat) (j:Int):pgAt (List.replicate n zBk) j=zBk:=by
 unfold pgAt
 rw[List.getElem?_replicate]
 split <;> rfl
end Go.Proofs.Ytkehohfgbblokaa
