/- Texts of the proof: Eng0, Eng1, Eng2, Eng3, Eng4, Eng5, Eng6, Eng7, Eng8, Eng9, Eng10, Eng11, Eng12, Eng13, Eng14, Eng15, EngT. -/
import Derived.WalkKit
import Derived.RangeFuncNested
import Derived.RangeFuncLeaves
import Derived.OrdersIn
import Derived.LoopNIn
import Derived.TacticsIn
import Derived.Maps.AppendAt

set_option linter.unusedVariables false
set_option linter.unusedSimpArgs false
set_option linter.unusedSectionVars false
set_option maxRecDepth 10000

namespace Go.Eng
open Go.RowKit
def AK:List (Nat×(Option Obj→Prop)):=[]
inductive D:Type 1
 | sc (v:Value)
 | nil
 | cons (a r:D)
 | vec {α:Type} (n s:Nat) (enc:α→D) (xs:List α)
 | arr {α:Type} (s:Nat) (enc:α→D) (xs:List α)
 | pt (x:D)
 | arx {α:Type} (s:Nat) (enc:α→D) (xs:List α)
 | re (f:Bool) (S:Nat→Prop) (x:D)
 | jk (S:Nat→Prop) (p:Value→Prop) (n:Nat)
def D.size:D→Nat
 | .sc _=>1
 | .nil=>0
 | .cons a r=>a.size+r.size
 | .vec n s _ _=>n*s
 | .arr .. => 1
 | .pt _=>1
 | .arx .. => 1
 | .re _ _ x=>x.size
 | .jk .. => 1
def D.isAgg:D→Bool
 | .nil=>true
 | .cons .. => true
 | .vec .. => true
 | .re _ _ x=>x.isAgg
 | _=>false
def cat (f:Nat→List Value):Nat→List Value
 | 0=>[]
 | n+1=>cat f n++f n
theorem cz {f:Nat→List Value} {s:Nat}:∀n,(∀i,i<n→(f i).length=s)→(cat f n).length=n*s
 | 0,_=>by simp[cat]
 | n+1,h=>by
  simp only[cat,List.length_append,cz n (fun i hi=>h i (by omega)),h n (by omega)]
  rw[Nat.add_mul]; omega
theorem eH {f:Nat→List Value} {s:Nat}:∀n,(∀i,i<n→(f i).length=s)→∀i j,i<n→j<s→(cat f n)[i*s+j]?=(f i)[j]?
 | 0,_,_,_,hi,_=>by omega
 | n+1,h,i,j,hi,hj=>by
  have hl:=cz n (fun i hi=>h i (by omega))
  simp only[cat]
  rcases Nat.lt_or_ge i n with hin | hin
  ·have hlt:i*s+j<n*s:=by
    have:(i+1)*s≤n*s:=Nat.mul_le_mul_right s hin
    rw[Nat.add_mul]at this; omega
   rw[List.getElem?_append_left (by omega),eH n (fun i hi=>h i (by omega)) i j hin hj]
  ·have:i=n:=by omega
   subst this
   rw[List.getElem?_append_right (by omega),hl]
   congr 1
   omega
theorem fh {f:Nat→List Value} {s:Nat}:∀n,(∀i,i<n→(f i).length=s)→∀i,i<n→∃A C,cat f n=A++f i++C∧A.length=i*s
 | 0,_,_,hi=>by omega
 | n+1,h,i,hi=>by
  rcases Nat.lt_or_ge i n with hin | hin
  ·obtain⟨A,C,he,hl⟩:=fh n (fun i hi=>h i (by omega)) i hin
   exact⟨A,C++f n,by simp[cat,he],hl⟩
  ·have:i=n:=by omega
   subst this
   exact⟨cat f i,[],by simp[cat],cz i (fun j hj=>h j (by omega))⟩
theorem dZ {f g:Nat→List Value}:∀n,(∀i,i<n→f i=g i)→cat f n=cat g n
 | 0,_=>rfl
 | n+1,h=>by simp[cat,dZ n (fun i hi=>h i (by omega)),h n (by omega)]
theorem fN {f:Nat→List Value} (n:Nat):∀m,cat f (n+m)=cat f n++cat (fun i=>f (n+i)) m
 | 0=>by simp[cat]
 | m+1=>by rw[←Nat.add_assoc]; simp[cat,fN n m]
def Icy (w:World) (b:Nat):Prop:=∃a:Addr,a.block=b∧w.frozen? a=true
structure Kp (w w':World) (a:Addr) (u:Value):Prop where
 cell:w'.cell? a=some u
 ice:Icy w' a.block→Icy w a.block
theorem Kp.rfl' {w:World} {a:Addr} {u:Value} (h:w.cell? a=some u):Kp w w a u:=⟨h,id⟩
theorem Icy.of_block {w w':World} {k:Nat} (hb:w'.heap[k]?=w.heap[k]?):Icy w' k→Icy w k:=fun⟨b,h1,h2⟩=>⟨b,h1,by unfold World.frozen? at h2 ⊢; rw[h1]at h2 ⊢; rw[hb]at h2; exact h2⟩
theorem Kp.of_block {w w':World} {a:Addr} {u:Value} (hb:w'.heap[a.block]?=w.heap[a.block]?) (h:w.cell? a=some u):Kp w w' a u :=
 ⟨by unfold World.cell? at h ⊢; rw[hb]; exact h,Icy.of_block hb⟩
def Enc (w:World) (X:Nat→Prop):D→List Value→Prop
 | .sc v,cs=>cs=[v]∧v.oneCell'=true
 | .nil,cs=>cs=[]
 | .cons a r,cs=>∃c1 c2,cs=c1++c2∧Enc w X a c1∧Enc w X r c2
 | .vec n s enc xs,cs=>xs.length=n∧∃f:Nat→List Value,(∀i (h:i<xs.length),Enc w X (enc xs[i]) (f i)∧(f i).length=s)∧cs=cat f n
 | .arr s enc xs,cs=>(xs=[]∧cs=[.slice none 0 0]) ∨
   ∃a c,cs=[.slice (some a) xs.length c]∧xs.length≤c∧c≤maxLen ∧
    ∃f:Nat→List Value,∀i (h:i<xs.length),Enc w X (enc xs[i]) (f i)∧(f i).length=s ∧
     ∀j u,(f i)[j]?=some u→w.cell? (a.add (i*s+j))=some u∧¬X a.block
 | .pt x,cs=>∃a c,cs=[.pointer (some a)]∧Enc w X x c∧∀j u,c[j]?=some u→w.cell? (a.add j)=some u∧¬X a.block
 | .arx s enc xs,cs=>(xs=[] ∧ ∃a,cs=[.slice a 0 0]) ∨
   ∃a,cs=[.slice (some a) xs.length xs.length]∧xs.length≤maxLen ∧
    ∃f:Nat→List Value,∀i (h:i<xs.length),Enc w X (enc xs[i]) (f i)∧(f i).length=s ∧
     ∀j u,(f i)[j]?=some u→w.cell? (a.add (i*s+j))=some u∧¬X a.block
 | .re f S x,cs=>Enc w (fun b=>X b∨S b∨(f=true∧Icy w b)) x cs
 | .jk S p n,cs=>∃a c,cs=[.slice a n c] ∧ ∀j,j<n→∃b u,a=some b∧w.cell? (b.add j)=some u∧¬X b.block∧¬S b.block∧¬Icy w b.block∧p u
theorem Addr.add_block (a:Addr) (n:Nat):(a.add n).block=a.block:=by unfold Addr.add; split <;> rfl
theorem Enc.mono {w w':World} {X X':Nat→Prop} (hk:∀(a:Addr) (u:Value),w.cell? a=some u→¬X a.block→Kp w w' a u∧¬X' a.block) :
  ∀(d:D) (cs:List Value),Enc w X d cs→Enc w' X' d cs:=by
 intro d
 induction d generalizing X X' with
 | sc v=>intro cs h; exact h
 | nil=>intro cs h; exact h
 | cons a r iha ihr =>
  intro cs h
  obtain⟨c1,c2,rfl,h1,h2⟩:=h
  exact⟨c1,c2,rfl,iha hk _ h1,ihr hk _ h2⟩
 | vec n s enc xs ih =>
  intro cs h
  obtain⟨hn,f,hf,rfl⟩:=h
  exact⟨hn,f,fun i hi=>⟨ih _ hk _ (hf i hi).1,(hf i hi).2⟩,rfl⟩
 | arr s enc xs ih =>
  intro cs h
  rcases h with h | ⟨a,c,rfl,h1,h2,f,hf⟩
  ·exact .inl h
  ·refine .inr ⟨a,c,rfl,h1,h2,f,fun i hi=>⟨ih _ hk _ (hf i hi).1,(hf i hi).2.1,fun j u hu=>?_⟩⟩
   obtain⟨hc,hx⟩:=(hf i hi).2.2 j u hu
   obtain⟨h3,h4⟩:=hk _ u hc (by rw[Addr.add_block]; exact hx)
   exact⟨h3.cell,by rw[Addr.add_block]at h4; exact h4⟩
 | arx s enc xs ih =>
  intro cs h
  rcases h with h | ⟨a,rfl,h1,f,hf⟩
  ·exact .inl h
  ·refine .inr ⟨a,rfl,h1,f,fun i hi=>⟨ih _ hk _ (hf i hi).1,(hf i hi).2.1,fun j u hu=>?_⟩⟩
   obtain⟨hc,hx⟩:=(hf i hi).2.2 j u hu
   obtain⟨h3,h4⟩:=hk _ u hc (by rw[Addr.add_block]; exact hx)
   exact⟨h3.cell,by rw[Addr.add_block]at h4; exact h4⟩
 | pt x ih =>
  rintro cs ⟨a,c,rfl,h1,h2⟩
  refine⟨a,c,rfl,ih hk _ h1,fun j u hu=>?_⟩
  obtain⟨hc,hx⟩:=h2 j u hu
  obtain⟨h3,h4⟩:=hk _ u hc (by rw[Addr.add_block]; exact hx)
  exact⟨h3.cell,by rw[Addr.add_block]at h4; exact h4⟩
 | re f S x ih =>
  intro cs h
  refine ih (X:=fun b=>X b∨S b∨(f=true∧Icy w b)) (X':=fun b=>X' b∨S b∨(f=true∧Icy w' b)) (fun a u hc hx=>?_) cs h
  obtain⟨h1,h2⟩:=hk a u hc fun h=>hx (.inl h)
  exact⟨h1,fun h=>h.elim h2 fun h=>hx (.inr (h.imp id fun h=>⟨h.1,h1.ice h.2⟩))⟩
 | jk S p n =>
  rintro cs ⟨a,c,rfl,h⟩
  refine⟨a,c,rfl,fun j hj=>?_⟩
  obtain⟨b,u,h1,h2,h3,h4,h7,h8⟩:=h j hj
  obtain⟨h5,h6⟩:=hk _ u h2 (by rw[Addr.add_block]; exact h3)
  exact⟨b,u,h1,h5.cell,by rw[Addr.add_block]at h6; exact h6,h4,fun h=>h7 (by have:=h5.ice; rw[Addr.add_block]at this; exact this h),h8⟩
theorem Enc.len {w:World} {X:Nat→Prop}:∀(d:D) (cs:List Value),Enc w X d cs→cs.length=d.size:=by
 intro d
 induction d generalizing X with
 | sc v=>rintro cs ⟨rfl,_⟩; rfl
 | nil=>rintro cs rfl; rfl
 | cons a r iha ihr=>rintro cs ⟨c1,c2,rfl,h1,h2⟩; simp[D.size,iha _ h1,ihr _ h2]
 | vec n s enc xs ih =>
  rintro cs ⟨rfl,f,hf,rfl⟩
  exact cz _ (fun i hi=>(hf i hi).2)
 | arr s enc xs ih =>
  rintro cs (⟨_,rfl⟩ | ⟨a,c,rfl,_⟩) <;> rfl
 | pt x ih=>rintro cs ⟨a,c,rfl,_⟩; rfl
 | arx s enc xs ih=>rintro cs (⟨_,a,rfl⟩ | ⟨a,rfl,_⟩) <;> rfl
 | re f S x ih=>exact fun cs h=>ih cs h
 | jk S p n=>rintro cs ⟨a,c,rfl,_⟩; rfl
theorem jz {f:Nat→List Value} {u:Value}:∀n,u∈cat f n→∃i,i<n∧u∈f i
 | 0,h=>by simp[cat]at h
 | n+1,h=>by
  simp only[cat,List.mem_append]at h
  rcases h with h | h
  ·obtain⟨i,hi,hu⟩:=jz n h; exact⟨i,by omega,hu⟩
  ·exact⟨n,by omega,h⟩
theorem Enc.one {w:World} {X:Nat→Prop}:∀(d:D) (cs:List Value),Enc w X d cs→∀u∈cs,u.oneCell'=true:=by
 intro d
 induction d generalizing X with
 | sc v=>rintro cs ⟨rfl,h⟩ u hu; simp at hu; subst hu; exact h
 | nil=>rintro cs rfl u hu; simp at hu
 | cons a r iha ihr =>
  rintro cs ⟨c1,c2,rfl,h1,h2⟩ u hu
  rcases List.mem_append.1 hu with hu | hu
  ·exact iha _ h1 u hu
  ·exact ihr _ h2 u hu
 | vec n s enc xs ih =>
  rintro cs ⟨rfl,f,hf,rfl⟩ u hu
  obtain⟨i,hi,hu⟩:=jz _ hu
  exact ih _ _ (hf i hi).1 u hu
 | arr s enc xs ih =>
  rintro cs (⟨_,rfl⟩ | ⟨a,c,rfl,_⟩) u hu <;> (simp at hu; subst hu; rfl)
 | pt x ih=>rintro cs ⟨a,c,rfl,_⟩ u hu; simp at hu; subst hu; rfl
 | arx s enc xs ih=>rintro cs (⟨_,a,rfl⟩ | ⟨a,rfl,_⟩) u hu <;> (simp at hu; subst hu; rfl)
 | re f S x ih=>exact fun cs h=>ih cs h
 | jk S p n=>rintro cs ⟨a,c,rfl,_⟩ u hu; simp at hu; subst hu; rfl
inductive Step
 | fld (f o:Nat)
 | idx (i s:Nat)
def Step.off:Step→Nat
 | .fld _ o=>o
 | .idx i s=>i*s
def aV:List Step→Nat
 | []=>0
 | x::p=>x.off+aV p
inductive AV:Type 1
 | d (x:D)
 | anil
 | acons (a r:AV)
 | own (r off len s:Nat) (cap:Option Nat)
 | ptr (r:Nat) (p:List Step)
 | asl (r:Nat) (p:List Step) (len cap:Nat)
 | iptr (x:D)
 | mapr (r:Nat)
 | empty
 | fn (f:Fn) (first caps:AV)
 | tup (q:AV)
 | dead
 | er
 | sl (n:Nat)
def AV.isAgg:AV→Bool
 | .d x=>x.isAgg
 | .anil=>true
 | .acons .. => true
 | _=>false
def AV.size:AV→Nat
 | .d x=>x.size
 | .anil=>0
 | .acons a r=>a.size+r.size
 | _=>1
def AV.flat:AV→Bool
 | .acons a r=>bif a.flat then r.flat else false
 | .tup _=>false
 | .dead=>false
 | .er=>false
 | _=>true
abbrev aB:=Nat→Option (Nat×Nat)
def Rel (σ:aB) (w:World) (X:Nat→Prop):AV→Bool→List Value→Prop
 | .d x,_,cs=>Enc w X x cs
 | .anil,_,cs=>cs=[]
 | .acons a r,false,cs=>∃c1 c2,cs=c1++c2∧Rel σ w X a false c1∧Rel σ w X r false c2
 | .acons a r,true,vs=>∃v us,vs=v::us∧(if a.isAgg then ∃c:List Value,v=.agg c.toArray∧Rel σ w X a false c else Rel σ w X a false [v])∧Rel σ w X r true us
 | .own r off len s cap,_,cs=>(σ r=none∧off=0∧len=0∧cap.getD 0=0∧cs=[.slice none 0 0]) ∨
   ∃b c a,σ r=some (b,c)∧cs=[.slice (some a) len (cap.getD (c-off))]∧off+len≤c∧off+cap.getD (c-off)≤c∧len≤cap.getD (c-off)∧(off<c→a=⟨b,off*s,none⟩)
 | .ptr r p,_,cs=>∃b c,σ r=some (b,c)∧cs=[.pointer (some ⟨b,aV p,none⟩)]
 | .asl r p len cap,_,cs=>∃b c,σ r=some (b,c)∧cs=[.slice (some ⟨b,aV p,none⟩) len cap]
 | .iptr x,_,cs=>∃a c,cs=[.pointer (some a)]∧Enc w X x c∧∀j u,c[j]?=some u→w.cell? (a.add j)=some u∧¬X a.block
 | .mapr r,_,cs=>∃b c,σ r=some (b,c)∧cs=[.map (some b)]
 | .empty,_,cs=>∃a,cs=[.slice a 0 0]
 | .fn f p q,_,cs=>∃vs us:List Value,cs=[.func f vs.toArray us.toArray]∧Rel σ w X p true vs∧Rel σ w X q true us
 | .tup q,_,cs=>∃vs:List Value,cs=[.tuple vs.toArray]∧Rel σ w X q true vs
 | .dead,_,cs=>∃v,cs=[v]
 | .er,_,cs=>∃t v,cs=[.iface t v]
 | .sl n,_,cs=>∃a c,cs=[.slice a n c]
def RelV (σ:aB) (w:World) (X:Nat→Prop) (a:AV) (v:Value):Prop :=
 if a.isAgg then ∃c:List Value,v=.agg c.toArray∧Rel σ w X a false c else Rel σ w X a false [v]
def AV.within (G:Nat→Prop):AV→Prop
 | .acons a r=>a.within G∧r.within G
 | .own r .. => G r
 | .ptr r _=>G r
 | .asl r _ _ _=>G r
 | .mapr r=>G r
 | .fn _ p q=>p.within G∧q.within G
 | .tup q=>q.within G
 | _=>True
theorem AV.within.mono {G G':Nat→Prop} (h:∀r,G r→G' r):∀(a:AV),a.within G→a.within G':=by
 intro a
 induction a with
 | acons a r iha ihr=>rintro⟨h1,h2⟩; exact⟨iha h1,ihr h2⟩
 | own r=>exact h _
 | ptr r=>exact h _
 | asl r=>exact h _
 | mapr r=>exact h _
 | fn f p q ihp ihq=>rintro⟨h1,h2⟩; exact⟨ihp h1,ihq h2⟩
 | tup q ih=>exact ih
 | _=>exact fun _=>trivial
theorem Rel.mono {σ σ':aB} {w w':World} {X X' G:Nat→Prop} (hσ:∀r,G r→σ' r=σ r)
  (hk:∀(a:Addr) (u:Value),w.cell? a=some u→¬X a.block→Kp w w' a u∧¬X' a.block) :
  ∀(a:AV) (m:Bool) (cs:List Value),a.within G→Rel σ w X a m cs→Rel σ' w' X' a m cs:=by
 intro a
 induction a with
 | d x=>intro m cs _ h; exact Enc.mono hk x cs h
 | anil=>intro m cs _ h; exact h
 | acons a r iha ihr =>
  rintro m cs ⟨g1,g2⟩ h
  cases m with
  | false =>
   obtain⟨c1,c2,rfl,h1,h2⟩:=h
   exact⟨c1,c2,rfl,iha _ _ g1 h1,ihr _ _ g2 h2⟩
  | true =>
   obtain⟨v,us,rfl,h1,h2⟩:=h
   refine⟨v,us,rfl,?_,ihr _ _ g2 h2⟩
   split at h1 <;> rename_i hag
   ·obtain⟨c,rfl,hc⟩:=h1
    rw[if_pos hag]
    exact⟨c,rfl,iha _ _ g1 hc⟩
   ·rw[if_neg hag]
    exact iha _ _ g1 h1
 | own r off len s cap =>
  intro m cs g h
  simp only[Rel,hσ r g]at h ⊢
  exact h
 | ptr r p =>
  intro m cs g h
  simp only[Rel,hσ r g]at h ⊢
  exact h
 | asl r p l k =>
  intro m cs g h
  simp only[Rel,hσ r g]at h ⊢
  exact h
 | mapr r =>
  intro m cs g h
  simp only[Rel,hσ r g]at h ⊢
  exact h
 | iptr x =>
  rintro m cs _ ⟨a,c,rfl,h1,h2⟩
  refine⟨a,c,rfl,Enc.mono hk x c h1,fun j u hu=>?_⟩
  obtain⟨hc,hx⟩:=h2 j u hu
  obtain⟨h3,h4⟩:=hk _ u hc (by rw[Addr.add_block]; exact hx)
  exact⟨h3.cell,by rw[Addr.add_block]at h4; exact h4⟩
 | empty=>intro m cs _ h; exact h
 | fn f p q ihp ihq =>
  rintro m cs ⟨g1,g2⟩ ⟨vs,us,rfl,h1,h2⟩
  exact⟨vs,us,rfl,ihp _ _ g1 h1,ihq _ _ g2 h2⟩
 | tup q ih =>
  rintro m cs g ⟨vs,rfl,h1⟩
  exact⟨vs,rfl,ih _ _ g h1⟩
 | dead=>intro m cs _ h; exact h
 | er=>intro m cs _ h; exact h
 | sl n=>intro m cs _ h; exact h
theorem RelV.mono {σ σ':aB} {w w':World} {X X' G:Nat→Prop} (hσ:∀r,G r→σ' r=σ r)
  (hk:∀(a:Addr) (u:Value),w.cell? a=some u→¬X a.block→Kp w w' a u∧¬X' a.block)
  {a:AV} {v:Value} (g:a.within G) (h:RelV σ w X a v):RelV σ' w' X' a v:=by
 unfold RelV at h ⊢
 split at h
 ·obtain⟨c,rfl,hc⟩:=h
  simp only[*, if_true]
  exact⟨c,rfl,Rel.mono hσ hk a _ _ g hc⟩
 ·simp only[*]
  exact Rel.mono hσ hk a _ _ g h
inductive Row:Type 1
 | box (t:TypeId) (a:AV)
 | ds {α:Type} (t:TypeId) (s:Nat) (ex:Bool) (enc:α→D) (xs:List α)
 | lits (t:TypeId) (s n:Nat) (ex:Bool) (a:AV)
 | mo (a:AV)
 | si (s:ByteArray) (pos:Nat)
 | mq (p:Array MapEntry→Prop)
 | lo (S:Nat→Prop)
 | mi (a:AV) (since last:Nat) (seen:List Nat)
def Row.within (G:Nat→Prop):Row→Prop
 | .box _ a=>a.within G
 | .ds .. => True
 | .lits _ _ _ _ a=>a.within G
 | .mo a=>a.within G
 | .si .. => True
 | .mq _=>True
 | .lo _=>True
 | .mi a _ _ _=>a.within G
def ju:List MapEntry→List Value
 | []=>[]
 | e::es=>e.key::e.val::ju es
def bx (σ:aB) (w:World) (X:Nat→Prop) (r:Nat):Row→Prop
 | .box t a=>a.flat=true∧∃b cs,σ r=some (b,1)∧w.heap[b]?=some (.cells cs t (0,0))∧Rel σ w X a false cs.toList
 | .ds t s ex enc xs=>(σ r=none∧xs=[]) ∨
   ∃b c cur,σ r=some (b,c)∧(ex=true→c=xs.length)∧w.heap[b]?=some (.cells cur t (0,0))∧cur.size=c*s∧xs.length≤c∧c≤maxLen ∧
    ∃f:Nat→List Value,(∀i (h:i<xs.length),Enc w X (enc xs[i]) (f i)∧(f i).length=s)∧cur.toList.take (xs.length*s)=cat f xs.length
 | .lits t s n ex a=>a.flat=true∧((σ r=none∧n=0) ∨
   ∃b c cur cs,σ r=some (b,c)∧(ex=true→c=n)∧w.heap[b]?=some (.cells cur t (0,0))∧cur.size=c*s∧n≤c∧c≤maxLen ∧
    cs.length=n*s∧Rel σ w X a false cs∧cur.toList.take (n*s)=cs)
 | .mo a=>∃(b:Nat) (es:Array MapEntry),(∀(i:Nat) (e:MapEntry),es[i]?=some e→e.born=i)∧σ r=some (b,1)∧w.heap[b]?=some (.map es es.size)∧Rel σ w X a true (ju es.toList)
 | .si s pos=>∃b,σ r=some (b,1)∧w.heap[b]?=some (.stringIter s pos)
 | .mq p=>∃(b:Nat) (es:Array MapEntry),(∀(i:Nat) (e:MapEntry),es[i]?=some e→e.born=i)∧σ r=some (b,1)∧w.heap[b]?=some (.map es es.size)∧p es
 | .lo S=>σ r=none∧∀b,S b→b<w.heap.size
 | .mi a since last seen=>∃b m,σ r=some (b,1)∧w.heap[b]?=some (.mapIter (some m) since seen.toArray last)∧Rel σ w X a false [.map (some m)]
theorem bx.mono {σ σ':aB} {w w':World} {X X' G:Nat→Prop} (hσ:∀r,G r→σ' r=σ r)
  (hk:∀(a:Addr) (u:Value),w.cell? a=some u→¬X a.block→Kp w w' a u∧¬X' a.block)
  (hz:w.heap.size≤w'.heap.size) {r:Nat} {row:Row} (hr:G r) (g:row.within G) (hb:∀b c,σ r=some (b,c)→w'.heap[b]?=w.heap[b]?) (h:bx σ w X r row):bx σ' w' X' r row:=by
 cases row with
 | box t a =>
  obtain⟨hf,b,cs,h1,h2,h3⟩:=h
  exact⟨hf,b,cs,(hσ r hr).trans h1,(hb b _ h1).trans h2,Rel.mono hσ hk a _ _ g h3⟩
 | ds t s ex enc xs =>
  rcases h with ⟨h1,h2⟩ | ⟨b,c,cur,h1,h0,h2,h3,h4,h5,f,hf,h6⟩
  ·exact .inl ⟨(hσ r hr).trans h1,h2⟩
  ·exact .inr ⟨b,c,cur,(hσ r hr).trans h1,h0,(hb b _ h1).trans h2,h3,h4,h5,f,fun i hi=>⟨Enc.mono hk _ _ (hf i hi).1,(hf i hi).2⟩,h6⟩
 | lits t s n ex a =>
  rcases h with ⟨hf,⟨h1,h2⟩ | ⟨b,c,cur,cs,h1,h0,h2,h3,h4,h5,h6,h7,h8⟩⟩
  ·exact⟨hf,.inl ⟨(hσ r hr).trans h1,h2⟩⟩
  ·exact⟨hf,.inr ⟨b,c,cur,cs,(hσ r hr).trans h1,h0,(hb b _ h1).trans h2,h3,h4,h5,h6,Rel.mono hσ hk a _ _ g h7,h8⟩⟩
 | mo a =>
  obtain⟨b,es,h0,h1,h2,h3⟩:=h
  exact⟨b,es,h0,(hσ r hr).trans h1,(hb b _ h1).trans h2,Rel.mono hσ hk a _ _ g h3⟩
 | si s pos =>
  obtain⟨b,h1,h2⟩:=h
  exact⟨b,(hσ r hr).trans h1,(hb b _ h1).trans h2⟩
 | mq p =>
  obtain⟨b,es,h0,h1,h2,h3⟩:=h
  exact⟨b,es,h0,(hσ r hr).trans h1,(hb b _ h1).trans h2,h3⟩
 | lo S=>exact⟨(hσ r hr).trans h.1,fun b hb=>Nat.lt_of_lt_of_le (h.2 b hb) hz⟩
 | mi a since last seen =>
  obtain⟨b,m,h1,h2,h3⟩:=h
  exact⟨b,m,(hσ r hr).trans h1,(hb b _ h1).trans h2,Rel.mono hσ hk a _ _ g h3⟩
def lk {β:Type 1}:List (Nat×β)→Nat→Option β
 | [],_=>none
 | (j,v)::l,i=>bif Nat.beq j i then some v else lk l i
structure St:Type 1 where
 env:List (Nat×AV)
 heap:List (Nat×Option Row)
 next:Nat
 sz:Nat
 bs:Nat
def St.row (st:St) (r:Nat):Option Row:=(lk st.heap r).bind id
def St.X (st:St) (X0:Nat→Prop) (σ:aB):Nat→Prop:=fun b=>X0 b∨∃r row c,st.row r=some row∧σ r=some (b,c)
def ph:Obj→Bool
 | .deferred _=>true
 | .loop _=>true
 | _=>false
structure fA (B:Nat) (M:Nat→Prop) (w w':World):Prop where
 os:w'.os=w.os
 tape:w'.tape=w.tape
 output:w'.output=w.output
 size:w.heap.size≤w'.heap.size
 block:∀k,k<B→¬M k→w'.heap[k]?=w.heap[k]?
 book:∀(k:Nat) (o:Obj),w.heap[k]?=some o→ph o=true→w'.heap[k]?=some o
theorem fA.refl (B:Nat) (M:Nat→Prop) (w:World):fA B M w w:=⟨rfl,rfl,rfl,Nat.le_refl _,fun _ _ _=>rfl,fun _ _ h _=>h⟩
theorem fA.trans {B:Nat} {M:Nat→Prop} {a b c:World} (h:fA B M a b) (k:fA B M b c):fA B M a c :=
 ⟨k.os.trans h.os,k.tape.trans h.tape,k.output.trans h.output,Nat.le_trans h.size k.size,fun i hi hm=>(k.block i hi hm).trans (h.block i hi hm),fun i o ho hb=>k.book i o (h.book i o ho hb) hb⟩
theorem Below.toM {B:Nat} {M:Nat→Prop} {a b:World} (h:Below B a b) (hk:∀(k:Nat) (o:Obj),a.heap[k]?=some o→ph o=true→b.heap[k]?=some o):fA B M a b:=⟨h.os,h.tape,h.output,h.size,fun k hk _=>h.block k hk,hk⟩
structure Ctx where
 B:Nat
 w0:World
 X0:Nat→Prop
 M:Nat→Prop
 bs:Nat
 σ0:aB
 ro:Option Nat:=none
def hU (C:Ctx) (w:World):List Deferred→Prop
 | []=>True
 | d::ds=>(∃D,d = { target :=.collected D,args := #[] }∧C.w0.heap.size≤D∧C.B≤D∧w.heap[D]?=some (.deferred (some []))∧({ target :=.collected D,args := #[] }:Deferred) ∉ ds)∧hU C w ds
theorem hU.go {C:Ctx} {w w':World} (hb:∀k:Nat,w.heap[k]?=some (.deferred (some []))→w'.heap[k]?=some (.deferred (some []))):∀(l:List Deferred),hU C w l→hU C w' l
 | [],_=>trivial
 | _::ds,h=>by
  obtain⟨⟨D,h1,h2,h3,h4,h5⟩,h6⟩:=h
  exact⟨⟨D,h1,h2,h3,hb _ h4,h5⟩,hU.go hb ds h6⟩
def FC (C:Ctx):Prop:=∀x∈AK,x.2 (C.w0.heap[x.1]?)∧x.1<C.B∧¬C.M x.1
structure aA (C:Ctx) (G:Nat→Prop) (st:St) (σ:aB) (w:World) (a:Act):Prop where
 env:∀i v,lk st.env i=some v→∃u,a.tmps[i]?=some u∧RelV σ w (st.X C.X0 σ) v u
 envG:∀i v,lk st.env i=some v→v.within G
 rows:∀r row,st.row r=some row→bx σ w (st.X C.X0 σ) r row
 rowsG:∀r row,st.row r=some row→G r∧row.within G
 inj:∀r r' row row' b c c',st.row r=some row→st.row r'=some row'→σ r=some (b,c)→σ r'=some (b,c')→r=r'
 high:∀r row b c,st.row r=some row→σ r=some (b,c)→C.B≤b∨C.M b
 size:C.B≤w.heap.size
 below:fA C.B C.M C.w0 w
 defers:hU C w a.defers
 sz:a.tmps.size=st.sz
 x0:∀b,C.X0 b→b<C.B∧¬C.M b
 agree:∀r,r<C.bs→σ r=C.σ0 r
 baseG:∀r,r<C.bs→G r
 bs:st.bs=C.bs
 rok:∀l,C.ro=some l→∃r,w.heap[l]?=some (.loop r)
 glob:FC C
theorem aA.lt {C:Ctx} {G:Nat→Prop} {st:St} {σ:aB} {w:World} {a:Act} (h:aA C G st σ w a) {r:Nat} {row:Row} {b c:Nat} (h1:st.row r=some row) (h2:σ r=some (b,c)):b<w.heap.size:=by
 have hh:=h.rows r row h1
 have key:∀ {x:Obj},w.heap[b]?=some x→b<w.heap.size:=fun hx=>(Array.getElem?_eq_some_iff.1 hx).1
 cases row with
 | box t x=>obtain⟨_,b',l,h3,h4,_⟩:=hh; rw[h2]at h3; cases h3; exact key h4
 | ds t s ex enc xs =>
  rcases hh with ⟨h3,_⟩ | ⟨b',c'',cur,h3,_,h4,_⟩
  ·rw[h2]at h3; cases h3
  ·rw[h2]at h3; cases h3; exact key h4
 | lits t s n ex x =>
  rcases hh with ⟨_,⟨h3,_⟩ | ⟨b',c'',cur,l,h3,_,h4,_⟩⟩
  ·rw[h2]at h3; cases h3
  ·rw[h2]at h3; cases h3; exact key h4
 | mo x=>obtain⟨b',es,_,h3,h4,_⟩:=hh; rw[h2]at h3; cases h3; exact key h4
 | si s pos=>obtain⟨b',h3,h4⟩:=hh; rw[h2]at h3; cases h3; exact key h4
 | mq p=>obtain⟨b',es,_,h3,h4,_⟩:=hh; rw[h2]at h3; cases h3; exact key h4
 | lo S=>obtain⟨h3,_⟩:=hh; rw[h2]at h3; cases h3
 | mi x since last seen=>obtain⟨b',m,h3,h4,_⟩:=hh; rw[h2]at h3; cases h3; exact key h4
theorem aA.cells {C:Ctx} {G:Nat→Prop} {st:St} {σ:aB} {w:World} {a:Act} (h:aA C G st σ w a) {r:Nat} {row:Row} {b c:Nat} (h1:st.row r=some row) (h2:σ r=some (b,c)):∃o,w.heap[b]?=some o∧ph o=false:=by
 have hh:=h.rows r row h1
 cases row with
 | box t x=>obtain⟨_,b',l,h3,h4,_⟩:=hh; rw[h2]at h3; cases h3; exact⟨_,h4,rfl⟩
 | ds t s ex enc xs =>
  rcases hh with ⟨h3,_⟩ | ⟨b',c'',cur,h3,_,h4,_⟩
  ·rw[h2]at h3; cases h3
  ·rw[h2]at h3; cases h3; exact⟨_,h4,rfl⟩
 | lits t s n ex x =>
  rcases hh with ⟨_,⟨h3,_⟩ | ⟨b',c'',cur,l,h3,_,h4,_⟩⟩
  ·rw[h2]at h3; cases h3
  ·rw[h2]at h3; cases h3; exact⟨_,h4,rfl⟩
 | mo x=>obtain⟨b',es,_,h3,h4,_⟩:=hh; rw[h2]at h3; cases h3; exact⟨_,h4,rfl⟩
 | si s pos=>obtain⟨b',h3,h4⟩:=hh; rw[h2]at h3; cases h3; exact⟨_,h4,rfl⟩
 | mq p=>obtain⟨b',es,_,h3,h4,_⟩:=hh; rw[h2]at h3; cases h3; exact⟨_,h4,rfl⟩
 | lo S=>obtain⟨h3,_⟩:=hh; rw[h2]at h3; cases h3
 | mi x since last seen=>obtain⟨b',m,h3,h4,_⟩:=hh; rw[h2]at h3; cases h3; exact⟨_,h4,rfl⟩
inductive TyD
 | cell
 | int (k:IntKind)
 | bool
 | string
 | struct (fs:List (Nat×Nat))
 | array (n e:Nat)
 | slice (e:Nat)
structure TyR:Type 1 where
 desc:TyD
 size:Nat
 bytes:Nat
 zero:D
abbrev Tab:=List (Nat×TyR)
def TyD.isAgg:TyD→Bool
 | .struct _=>true
 | .array .. => true
 | _=>false
def D.chainAt:D→Nat→Nat→Option D
 | .cons a _,0,0=>some a
 | .cons a r,f+1,o=>bif Nat.ble a.size o then r.chainAt f (o-a.size) else none
 | _,_,_=>none
def D.chainSet:D→Nat→D→D
 | .cons _ r,0,x=>.cons x r
 | .cons a r,f+1,x=>.cons a (r.chainSet f x)
 | y,_,_=>y
def Step.ix:Step→Nat
 | .fld f _=>f
 | .idx i _=>i
def Sub:D→List Step→D→Prop
 | x,[],y=>x=y
 | .vec n s enc xs,.idx i s'::p,y=>s=s' ∧ ∃e,xs[i]?=some e∧Sub (enc e) p y
 | x,st::p,y=>match x.chainAt st.ix st.off with
  | some z=>Sub z p y
  | none=>False
def Upd:D→List Step→D→D→Prop
 | x,[],y,z=>x.size=y.size∧x.isAgg=y.isAgg∧z=y
 | .vec n s enc xs,.idx i s'::p,y,z=>s=s' ∧ ∃e e',xs[i]?=some e∧Upd (enc e) p y (enc e')∧z=.vec n s enc (xs.set i e')
 | x,st::p,y,z=>match x.chainAt st.ix st.off with
  | some u=>∃u',Upd u p y u'∧z=x.chainSet st.ix u'
  | none=>False
def D.toChain:D→AV
 | .nil=>.anil
 | .cons a r=>.acons (.d a) r.toChain
 | x=>.d x
def AV.chainAt:AV→Nat→Nat→Option AV
 | .acons a _,0,0=>some a
 | .acons a r,f+1,o=>bif Nat.ble a.size o then r.chainAt f (o-a.size) else none
 | .d x,f,o=>(x.chainAt f o).map .d
 | _,_,_=>none
def AV.chainSet (x:AV):Nat→AV→AV
 | 0,b=>match b with
  | .d (.cons _ r)=>(match x with
   | .d y=>.d (.cons y r)
   | z=>.acons z (.d r))
  | .acons _ r=>.acons x r
  | y=>y
 | f+1,b=>match b with
  | .d (.cons a r)=>(match AV.chainSet x f (.d r) with
   | .d r'=>.d (.cons a r')
   | r'=>.acons (.d a) r')
  | .acons a r=>.acons a (AV.chainSet x f r)
  | y=>y
def ASub:AV→List Step→AV→Prop
 | x,[],y=>x=y
 | .d x,p,y=>∃z,Sub x p z∧y=.d z
 | x,st::p,y=>match x.chainAt st.ix st.off with
  | some z=>ASub z p y
  | none=>False
def AUpd:AV→List Step→AV→AV→Prop
 | x,[],y,z=>x.size=y.size∧x.isAgg=y.isAgg∧z=y
 | .d x,st::p,.d y,z=>∃z',Upd x (st::p) y z'∧z=.d z'
 | x,st::p,y,z=>match x.chainAt st.ix st.off with
  | some u=>∃u',AUpd u p y u'∧z=AV.chainSet u' st.ix x
  | none=>False
def RSub:Row→List Step→AV→Prop
 | .box _ a,p,y=>ASub a p y
 | .ds _ s _ enc xs,.idx i s'::p,y=>s=s' ∧ ∃e,xs[i]?=some e∧∃z,Sub (enc e) p z∧y=.d z
 | .lits _ s n _ a,.idx i s'::p,y=>s=s'∧i<n∧match a.chainAt i (i*s) with
  | some z=>ASub z p y
  | none=>False
 | _,_,_=>False
def RUpd:Row→List Step→AV→Row→Prop
 | .box t a,p,y,row=>∃z,AUpd a p y z∧row=.box t z
 | .ds t s ex enc xs,.idx i s'::p,.d y,row=>s=s' ∧ ∃e e',xs[i]?=some e∧Upd (enc e) p y (enc e')∧row=.ds t s ex enc (xs.set i e')
 | .lits t s n ex a,.idx i s'::p,y,row=>s=s'∧i<n∧match a.chainAt i (i*s) with
  | some u=>∃u',AUpd u p y u'∧row=.lits t s n ex (AV.chainSet u' i a)
  | none=>False
 | _,_,_,_=>False
def AV.comp:AV→Nat→Option AV
 | .acons a _,0=>some a
 | .acons _ r,i+1=>r.comp i
 | _,_=>none
@[irreducible] def Br (b:Bool) (p:Bool→Prop):Prop:=(b=true→p true)∧(b=false→p false)
theorem Br.t {p:Bool→Prop} (h:p true):Br true p:=by unfold Br; exact⟨fun _=>h,fun e=>(by cases e)⟩
theorem Br.f {p:Bool→Prop} (h:p false):Br false p:=by unfold Br; exact⟨fun e=>(by cases e),fun _=>h⟩
theorem Br.at {b:Bool} {p:Bool→Prop} (h:Br b p):p b:=by unfold Br at h; cases b; exact h.2 rfl; exact h.1 rfl
def wM (v:Value):Option AV:=match v with
 | .agg _=>none
 | .tuple _=>none
 | v=>some (.d (.sc v))
def ai (env:List (Nat×AV)):Operand→Option AV
 | .tmp t=>lk env t
 | .const v=>wM v
 | .func f=>some (.fn (.func f) .anil .anil)
 | .global _=>none
abbrev Upds:=List (Nat×Option Row)
abbrev AV.int (k:IntKind) (n:Int):AV :=.d (.sc (.int k n))
abbrev AV.bool (b:Bool):AV :=.d (.sc (.bool b))
def bz (T:Tab) (t:TypeId) (v:AV):Bool:=match lk T t with
 | some r=>bif Nat.beq r.size v.size then (bif r.desc.isAgg then (bif v.isAgg then v.flat else false) else (bif v.isAgg then false else v.flat)) else false
 | none=>false
def kNo:IntKind→Nat
 | .i8=>0 | .i16=>1 | .i32=>2 | .i64=>3 | .u8=>4 | .u16=>5 | .u32=>6 | .u64=>7
theorem Az {k k':IntKind} (h:Nat.beq (kNo k) (kNo k')=true):k=k':=by
 cases k <;> cases k' <;> first | rfl | (exact absurd h (by decide))
def Chk (b:Bool) (p:Prop):Prop:=bif b then p else False
theorem Chk.out {b:Bool} {p:Prop} (h:Chk b p):b=true∧p:=by cases b; exact h.elim; exact⟨rfl,h⟩
def bh (T:Tab) (t:Nat):Option TyD:=match lk T t with
 | some r=>some r.desc
 | none=>none
def yq (T:Tab) (t:Nat):Option IntKind:=match bh T t with
 | some (.int k)=>some k
 | _=>none
def AC (op:BinOp) (k:IntKind) (a b:Int) (K:AV→Prop):Prop:=match op with
 | .add=>∃m,k.wrap (a+b)=m∧K (.int k m)
 | .sub=>∃m,k.wrap (a-b)=m∧K (.int k m)
 | .mul=>∃m,k.wrap (a*b)=m∧K (.int k m)
 | .eql=>K (.bool (decide (a=b)))
 | .neq=>K (.bool (!decide (a=b)))
 | .lss=>K (.bool (decide (a<b)))
 | .leq=>K (.bool (decide (a≤b)))
 | .gtr=>K (.bool (decide (b<a)))
 | .geq=>K (.bool (decide (b≤a)))
 | .quo=>b≠0∧∃m,k.wrap (a.tdiv b)=m∧K (.int k m)
 | .rem=>b≠0∧K (.int k (a.tmod b))
 | op=>∃m,(∀(P:Program) (w:World),(Go.binOp op 0 (.int k a) (.int k b)).run P w=.ok (.int k m) w)∧K (.int k m)
def nil_:Value :=.slice none 0 0
def opD (T:Tab) (op:Op) (ev:Operand→Option AV) (look:Nat→Option Row) (n:Nat) (K:Option AV→Upds→Prop):Prop :=
 match op with
 | .move x=>match ev x with
  | some v=>K (some v) []
  | none=>False
 | .assign x=>match ev x with
  | some v=>K (some v) []
  | none=>False
 | .pick c a b=>match ev c with
  | some (.d (.sc (.bool c)))=>Br c fun t=>match ev (bif t then a else b) with
   | some v=>K (some v) []
   | none=>False
  | _=>False
 | .alloc t=>match lk T t with
  | some r=>K (some (.ptr n [])) [(n,some (.box t (.d r.zero)))]
  | none=>False
 | .box t x=>match ev x with
  | some v=>Chk (bz T t v) (K (some (.ptr n [])) [(n,some (.box t v))])
  | none=>False
 | .load t x=>match ev x with
  | some (.ptr r p)=>(match look r with
   | some row=>∃v,RSub row p v∧Chk (bz T t v) (K (some v) [])
   | none=>False)
  | some (.iptr x)=>Chk (bz T t (.d x)) (K (some (.d x)) [])
  | _=>False
 | .store t x y=>match ev x,ev y with
  | some (.ptr r p),some v=>(match look r with
   | some row=>∃row',RUpd row p v row'∧Chk (bz T t v) (K none [(r,some row')])
   | none=>False)
  | _,_=>False
 | .nilCheck x=>match ev x with
  | some (.ptr r p)=>K (some (.ptr r p)) []
  | some (.iptr d)=>K (some (.iptr d)) []
  | some (.fn (.func f) p q)=>K (some (.fn (.func f) p q)) []
  | _=>False
 | .fieldAddr s x f=>match bh T s,ev x with
  | some (.struct offs),some (.ptr r p)=>(match offs[f]? with
   | some (o,_)=>K (some (.ptr r (p++[.fld f o]))) []
   | none=>False)
  | some (.struct offs),some (.iptr d)=>(match offs[f]? with
   | some (o,_)=>(match d.chainAt f o with
    | some z=>K (some (.iptr z)) []
    | none=>False)
   | none=>False)
  | _,_=>False
 | .field s x f=>match bh T s,ev x with
  | some (.struct offs),some v=>(match offs[f]? with
   | some (o,t)=>(match v.chainAt f o with
    | some z=>Chk v.flat (Chk (bz T t z) (K (some z) []))
    | none=>False)
   | none=>False)
  | _,_=>False
 | .indexAddr t x i=>match bh T t,ev x,ev i with
  | some (.slice e),some (.own r off len s _),some (.d (.sc (.int _ m)))=>(match lk T e with
   | some re=>Chk (Nat.beq re.size s) (0≤m∧m<len∧K (some (.ptr r [.idx (bif Nat.beq off 0 then m.toNat else off+m.toNat) s])) [])
   | none=>False)
  | some (.slice e),some (.d (.arr s enc xs)),some (.d (.sc (.int _ m)))=>(match lk T e with
   | some re=>Chk (Nat.beq re.size s) (0≤m∧∃e,xs[m.toNat]?=some e∧K (some (.iptr (enc e))) [])
   | none=>False)
  | some (.array l e),some (.ptr r p),some (.d (.sc (.int _ m)))=>(match lk T e with
   | some re=>0≤m∧m<l∧K (some (.ptr r (p++[.idx m.toNat re.size]))) []
   | none=>False)
  | some (.array l e),some (.iptr d),some (.d (.sc (.int _ m)))=>(match lk T e with
   | some re=>0≤m∧m<l∧∃z,Sub d [.idx m.toNat re.size] z∧K (some (.iptr z)) []
   | none=>False)
  | _,_,_=>False
 | .index t x i=>match bh T t,ev x,ev i with
  | some .string,some (.d (.sc (.string s))),some (.d (.sc (.int _ m)))=>0≤m∧∃b,s[m.toNat]?=some b∧K (some (.int .u8 b.toNat)) []
  | some (.array l e),some (.d d),some (.d (.sc (.int _ m)))=>(match lk T e with
   | some re=>Chk d.isAgg (0≤m∧m<l∧∃z,Sub d [.idx m.toNat re.size] z∧Chk (bz T e (.d z)) (K (some (.d z)) []))
   | none=>False)
  | _,_,_=>False
 | .binOp op xt x y _=>match ev x,ev y with
  | some (.d (.sc (.int k a))),some (.d (.sc (.int k' b)))=>Chk (Nat.beq (kNo k) (kNo k')) (AC op k a b fun v=>K (some v) [])
  | some (.d (.sc (.bool a))),some (.d (.sc (.bool b)))=>(match op,bh T xt with
   | .eql,some .bool=>K (some (.bool (a==b))) []
   | .neq,some .bool=>K (some (.bool (a !=b))) []
   | _,_=>False)
  | _,_=>False
 | .unOp op _ x=>match op,ev x with
  | .not,some (.d (.sc (.bool b)))=>K (some (.bool (!b))) []
  | .neg,some (.d (.sc (.int k a)))=>∃m,k.wrap (-a)=m∧K (some (.int k m)) []
  | _,_=>False
 | .convert s t x=>match ev x,yq T t,bh T s with
  | some (.d (.sc (.int _ a))),some k,some _=>∃m,k.wrap a=m∧K (some (.int k m)) []
  | _,_,_=>False
 | .extract x i=>match ev x with
  | some (.tup q)=>(match q.comp i with
   | some v=>K (some v) []
   | none=>False)
  | _=>False
 | .makeFunc f p q=>match evs ev p.toList,evs ev q.toList with
  | some p',some q'=>K (some (.fn f p' q')) []
  | _,_=>False
 | _=>False
where
 evs (ev : Operand → Option AV) : List Operand → Option AV
  | [] => some .anil
  | x :: l => match ev x, evs ev l with
   | some v, some q => some (.acons v q)
   | _, _ => none
end Go.Eng
namespace Go.Eng
open Go.RowKit
section
variable {w w' : World} {X : Nat → Prop} {σ : aB}
def At (cs:List Value) (o:Nat) (m A C:List Value):Prop:=cs=A++m++C∧A.length=o
theorem D.chainAt_cells:∀(f o:Nat) (x z:D) (cs:List Value),x.chainAt f o=some z→Enc w X x cs→∃A m C,At cs o m A C∧Enc w X z m ∧
  ∀u m',Enc w X u m'→Enc w X (x.chainSet f u) (A++m'++C)
 | 0,0,.cons a r,z,cs,h,he=>by
  simp only[D.chainAt,Option.some.injEq]at h
  subst h
  obtain⟨c1,c2,rfl,h1,h2⟩:=he
  exact⟨[],c1,c2,⟨by simp,rfl⟩,h1,fun u m' hm=>⟨m',c2,by simp,hm,h2⟩⟩
 | f+1,o,.cons a r,z,cs,h,he=>by
  obtain⟨c1,c2,rfl,h1,h2⟩:=he
  have hl:=Enc.len _ _ h1
  simp only[D.chainAt]at h
  cases hb:Nat.ble a.size o with
  | false=>simp[hb]at h
  | true =>
   simp only[hb,cond_true]at h
   have hle:=Nat.le_of_ble_eq_true hb
   obtain⟨A,m,C,⟨rfl,hA⟩,hz,hs⟩:=D.chainAt_cells f _ r z c2 h h2
   exact⟨c1++A,m,C,⟨by simp,by simp[hA,hl]; omega⟩,hz,fun u m' hm=>⟨c1,A++m'++C,by simp,h1,hs u m' hm⟩⟩
 | 0,o+1,.cons a r,z,cs,h,he=>by simp[D.chainAt]at h
 | _,_,.sc _,_,_,h,_=>by simp[D.chainAt]at h
 | _,_,.nil,_,_,h,_=>by simp[D.chainAt]at h
 | _,_,.vec ..,_,_,h,_=>by simp[D.chainAt]at h
 | _,_,.arr ..,_,_,h,_=>by simp[D.chainAt]at h
 | _,_,.pt ..,_,_,h,_=>by simp[D.chainAt]at h
 | _,_,.arx ..,_,_,h,_=>by simp[D.chainAt]at h
theorem Sub.step {x y:D} {st:Step} {p:List Step} (h:Sub x (st::p) y) :
  (∃(α:Type) (n s i:Nat) (enc:α→D) (xs:List α) (e:α),x=.vec n s enc xs∧st=.idx i s∧xs[i]?=some e∧Sub (enc e) p y) ∨
  (∃z,x.chainAt st.ix st.off=some z∧Sub z p y):=by
 unfold Sub at h
 split at h
 ·rename_i heq; cases heq
 ·rename_i heq
  cases heq
  obtain⟨rfl,e,he,hs⟩:=h
  exact .inl ⟨_,_,_,_,_,_,e,rfl,rfl,he,hs⟩
 ·rename_i heq
  cases heq
  split at h
  ·rename_i z hz; exact .inr ⟨z,hz,h⟩
  ·exact h.elim
theorem Upd.step {x y z:D} {st:Step} {p:List Step} (h:Upd x (st::p) y z) :
  (∃(α:Type) (n s i:Nat) (enc:α→D) (xs:List α) (e e':α),x=.vec n s enc xs∧st=.idx i s∧xs[i]?=some e∧Upd (enc e) p y (enc e')∧z=.vec n s enc (xs.set i e')) ∨
  (∃u u',x.chainAt st.ix st.off=some u∧Upd u p y u'∧z=x.chainSet st.ix u'):=by
 unfold Upd at h
 split at h
 ·rename_i heq; cases heq
 ·rename_i heq
  cases heq
  obtain⟨rfl,e,e',he,hs,rfl⟩:=h
  exact .inl ⟨_,_,_,_,_,_,e,e',rfl,rfl,he,hs,rfl⟩
 ·rename_i heq
  cases heq
  split at h
  ·rename_i u hu
   obtain⟨u',h1,h2⟩:=h
   exact .inr ⟨u,u',hu,h1,h2⟩
  ·exact h.elim
theorem Sub.cells:∀(p:List Step) (x y:D) (cs:List Value),Sub x p y→Enc w X x cs→∃A m C,At cs (aV p) m A C∧Enc w X y m
 | [],x,y,cs,h,he=>by
  have:x=y:=by unfold Sub at h; simpa using h
  subst this
  exact⟨[],cs,[],⟨by simp,rfl⟩,he⟩
 | st::p,x,y,cs,h,he=>by
  rcases h.step with ⟨α,n,s,i,enc,xs,e,rfl,rfl,hi,hs⟩ | ⟨z,hz,hs⟩
  ·obtain⟨hn,f,hf,rfl⟩:=he
   obtain⟨hlt,hei⟩:=List.getElem?_eq_some_iff.1 hi
   obtain⟨A,C,hc,hA⟩:=fh n (fun i hi=>(hf i (by omega)).2) i (by omega)
   have h1:=(hf i hlt).1
   rw[hei]at h1
   obtain⟨A',m,C',⟨hm,hA'⟩,hy⟩:=Sub.cells p _ y _ hs h1
   exact⟨A++A',m,C'++C,⟨by rw[hc,hm]; simp,by simp[hA,hA',aV,Step.off]⟩,hy⟩
  ·obtain⟨A,m,C,⟨rfl,hA⟩,hz',_⟩:=D.chainAt_cells _ _ x z cs hz he
   obtain⟨A',m',C',⟨rfl,hA'⟩,hy⟩:=Sub.cells p _ y _ hs hz'
   exact⟨A++A',m',C'++C,⟨by simp,by simp[hA,hA',aV]⟩,hy⟩
theorem wO {f:Nat→List Value} {s:Nat} (g:List Value):∀n,(∀i,i<n→(f i).length=s)→∀i,i<n→∀A C,cat f n=A++f i++C→A.length=i*s →
  cat (fun j=>if j=i then g else f j) n=A++g++C:=by
 intro n hf i hi A C h hA
 obtain⟨k,rfl⟩:∃k,n=i+1+k:=⟨n-(i+1),by omega⟩
 rw[fN,cat]at h ⊢
 have hl:=cz i (fun j hj=>hf j (by omega))
 have e1:cat f i=A:=by
  have:=congrArg (List.take (i*s)) h
  simpa[hl,hA]using this
 have e2:cat (fun j=>if j=i then g else f j) i=A:=by
  rw[←e1]; exact dZ i (fun j hj=>by simp[show j≠i by omega])
 have e3:cat (fun j=>f (i+1+j)) k=C:=by
  rw[e1]at h
  simpa using h
 have e4:cat (fun j=>if i+1+j=i then g else f (i+1+j)) k=C:=by
  rw[←e3]; exact dZ k (fun j hj=>by simp[show i+1+j≠i by omega])
 rw[e2,e4]
 simp
theorem Upd.cells:∀(p:List Step) (x y z:D) (cs m':List Value),Upd x p y z→Enc w X x cs→Enc w X y m' → ∃A m C,At cs (aV p) m A C∧m.length=m'.length∧Enc w X z (A++m'++C)
 | [],x,y,z,cs,m',h,he,hy=>by
  obtain⟨h1,h2,rfl⟩:x.size=y.size∧x.isAgg=y.isAgg∧z=y:=by unfold Upd at h; simpa using h
  exact⟨[],cs,[],⟨by simp,rfl⟩,by rw[Enc.len _ _ he,Enc.len _ _ hy,h1],by simpa using hy⟩
 | st::p,x,y,z,cs,m',h,he,hy=>by
  rcases h.step with ⟨α,n,s,i,enc,xs,e,e',rfl,rfl,hi,hs,rfl⟩ | ⟨u,u',hu,hs,rfl⟩
  ·obtain⟨hn,f,hf,rfl⟩:=he
   obtain⟨hlt,hei⟩:=List.getElem?_eq_some_iff.1 hi
   have hf':∀i,i<n→(f i).length=s:=fun i hi=>(hf i (by omega)).2
   obtain⟨A,C,hc,hA⟩:=fh n hf' i (by omega)
   have h1:=(hf i hlt).1
   rw[hei]at h1
   obtain⟨A',m,C',⟨hm,hA'⟩,hml,hz⟩:=Upd.cells p _ y _ _ m' hs h1 hy
   refine⟨A++A',m,C'++C,⟨by rw[hc,hm]; simp,by simp[hA,hA',aV,Step.off]⟩,hml,?_⟩
   refine⟨by simpa using hn,fun j=>if j=i then A'++m'++C' else f j,fun j hj=>?_,?_⟩
   ·by_cases hji:j=i
    ·subst hji
     have hle:(A'++m'++C').length=s:=by
      have:=hf' j (by omega)
      rw[hm]at this
      simp at this ⊢; omega
     simp only[List.getElem_set_self,if_true]
     exact⟨hz,hle⟩
    ·simp only[List.length_set]at hj
     simp only[if_neg hji,List.getElem_set_ne (Ne.symm hji)]
     exact hf j hj
   ·rw[wO (A'++m'++C') n hf' i (by omega) A C hc hA]
    simp
  ·obtain⟨A,m,C,⟨rfl,hA⟩,hu',hset⟩:=D.chainAt_cells _ _ x u cs hu he
   obtain⟨A',m₂,C',⟨rfl,hA'⟩,hml,hz⟩:=Upd.cells p _ y _ _ m' hs hu' hy
   refine⟨A++A',m₂,C'++C,⟨by simp,by simp[hA,hA',aV]⟩,hml,?_⟩
   have:=hset u' _ hz
   simpa using this
theorem Rel.len:∀(a:AV) (cs:List Value),a.flat=true→Rel σ w X a false cs→cs.length=a.size:=by
 intro a
 induction a with
 | d x=>intro cs _ h; exact Enc.len x cs h
 | anil=>rintro cs _ rfl; rfl
 | acons a r iha ihr =>
  rintro cs hf ⟨c1,c2,rfl,h1,h2⟩
  simp only[AV.flat]at hf
  cases ha:a.flat <;> simp[ha]at hf
  simp[AV.size,iha _ ha h1,ihr _ hf h2]
 | own r off len s cap=>rintro cs _ (⟨_,_,_,_,rfl⟩ | ⟨_,_,_,_,rfl,_⟩) <;> rfl
 | ptr r p=>rintro cs _ ⟨_,_,_,rfl⟩; rfl
 | asl r p l k=>rintro cs _ ⟨_,_,_,rfl⟩; rfl
 | mapr r=>rintro cs _ ⟨_,_,_,rfl⟩; rfl
 | iptr x=>rintro cs _ ⟨_,_,rfl,_⟩; rfl
 | empty=>rintro cs _ ⟨_,rfl⟩; rfl
 | fn f p q=>rintro cs _ ⟨_,_,rfl,_⟩; rfl
 | tup q=>intro cs h; simp[AV.flat]at h
 | dead=>intro cs h; simp[AV.flat]at h
 | er=>intro cs h; simp[AV.flat]at h
 | sl n=>rintro cs _ ⟨_,_,rfl⟩; rfl
theorem Rel.one:∀(a:AV) (cs:List Value),a.flat=true→Rel σ w X a false cs→∀u∈cs,u.oneCell'=true:=by
 intro a
 induction a with
 | d x=>intro cs _ h; exact Enc.one x cs h
 | anil=>rintro cs _ rfl u hu; simp at hu
 | acons a r iha ihr =>
  rintro cs hf ⟨c1,c2,rfl,h1,h2⟩ u hu
  simp only[AV.flat]at hf
  cases ha:a.flat <;> simp[ha]at hf
  rcases List.mem_append.1 hu with hu | hu
  ·exact iha _ ha h1 u hu
  ·exact ihr _ hf h2 u hu
 | own r off len s cap=>rintro cs _ (⟨_,_,_,_,rfl⟩ | ⟨_,_,_,_,rfl,_⟩) u hu <;> (simp at hu; subst hu; rfl)
 | ptr r p=>rintro cs _ ⟨_,_,_,rfl⟩ u hu; simp at hu; subst hu; rfl
 | asl r p l k=>rintro cs _ ⟨_,_,_,rfl⟩ u hu; simp at hu; subst hu; rfl
 | mapr r=>rintro cs _ ⟨_,_,_,rfl⟩ u hu; simp at hu; subst hu; rfl
 | iptr x=>rintro cs _ ⟨_,_,rfl,_⟩ u hu; simp at hu; subst hu; rfl
 | empty=>rintro cs _ ⟨_,rfl⟩ u hu; simp at hu; subst hu; rfl
 | fn f p q=>rintro cs _ ⟨_,_,rfl,_⟩ u hu; simp at hu; subst hu; rfl
 | tup q=>intro cs h; simp[AV.flat]at h
 | dead=>intro cs h; simp[AV.flat]at h
 | er=>intro cs h; simp[AV.flat]at h
 | sl n=>rintro cs _ ⟨_,_,rfl⟩ u hu; simp at hu; subst hu; rfl
theorem D.chainSet_d:∀(f:Nat) (x y:D) (o:Nat) (z:D),x.chainAt f o=some z→AV.chainSet (.d y) f (.d x)=.d (x.chainSet f y)
 | 0,.cons a r,y,0,z,_=>rfl
 | 0,.cons a r,y,o+1,z,h=>by simp[D.chainAt]at h
 | f+1,.cons a r,y,o,z,h=>by
  simp only[D.chainAt]at h
  cases hb:Nat.ble a.size o <;> simp only[hb,cond_true,cond_false]at h
  ·cases h
  ·simp only[AV.chainSet,D.chainSet_d f r y _ z h,D.chainSet]
 | _,.sc _,_,_,_,h=>by simp[D.chainAt]at h
 | _,.nil,_,_,_,h=>by simp[D.chainAt]at h
 | _,.vec ..,_,_,_,h=>by simp[D.chainAt]at h
 | _,.arr ..,_,_,_,h=>by simp[D.chainAt]at h
 | _,.pt ..,_,_,_,h=>by simp[D.chainAt]at h
 | _,.arx ..,_,_,_,h=>by simp[D.chainAt]at h
theorem AV.chainAt_d:∀(f o:Nat) (x:D) (z:D) (cs:List Value),x.chainAt f o=some z→Enc w X x cs →
  ∃A m C,At cs o m A C∧Enc w X z m∧∀(u:AV) m',Rel σ w X u false m'→Rel σ w X (AV.chainSet u f (.d x)) false (A++m'++C)
 | 0,0,.cons a r,z,cs,h,he=>by
  simp only[D.chainAt,Option.some.injEq]at h
  subst h
  obtain⟨c1,c2,rfl,h1,h2⟩:=he
  refine⟨[],c1,c2,⟨by simp,rfl⟩,h1,fun u m' hm=>?_⟩
  cases u with
  | d y=>exact⟨m',c2,by simp,hm,h2⟩
  | _=>exact⟨m',c2,by simp,hm,h2⟩
 | f+1,o,.cons a r,z,cs,h,he=>by
  obtain⟨c1,c2,rfl,h1,h2⟩:=he
  have hl:=Enc.len _ _ h1
  simp only[D.chainAt]at h
  cases hb:Nat.ble a.size o with
  | false=>simp[hb]at h
  | true =>
   simp only[hb,cond_true]at h
   have hle:=Nat.le_of_ble_eq_true hb
   obtain⟨A,m,C,⟨rfl,hA⟩,hz,hs⟩:=AV.chainAt_d f _ r z c2 h h2
   refine⟨c1++A,m,C,⟨by simp,by simp[hA,hl]; omega⟩,hz,fun u m' hm=>?_⟩
   have:=hs u m' hm
   simp only[AV.chainSet]
   cases hc:AV.chainSet u f (.d r) with
   | d r'=>rw[hc]at this; exact⟨c1,A++m'++C,by simp,h1,this⟩
   | _=>rw[hc]at this; exact⟨c1,A++m'++C,by simp,h1,this⟩
 | 0,o+1,.cons a r,z,cs,h,he=>by simp[D.chainAt]at h
 | _,_,.sc _,_,_,h,_=>by simp[D.chainAt]at h
 | _,_,.nil,_,_,h,_=>by simp[D.chainAt]at h
 | _,_,.vec ..,_,_,h,_=>by simp[D.chainAt]at h
 | _,_,.arr ..,_,_,h,_=>by simp[D.chainAt]at h
 | _,_,.pt ..,_,_,h,_=>by simp[D.chainAt]at h
 | _,_,.arx ..,_,_,h,_=>by simp[D.chainAt]at h
theorem AV.chainAt_cells:∀(f o:Nat) (a z:AV) (cs:List Value),a.flat=true→a.chainAt f o=some z→Rel σ w X a false cs →
  ∃A m C,At cs o m A C∧z.flat=true∧Rel σ w X z false m∧∀(u:AV) m',Rel σ w X u false m'→Rel σ w X (AV.chainSet u f a) false (A++m'++C)
 | f,o,.d x,z,cs,_,h,he=>by
  simp only[AV.chainAt,Option.map_eq_some_iff]at h
  obtain⟨y,hy,rfl⟩:=h
  obtain⟨A,m,C,hat,hz,hs⟩:=AV.chainAt_d (σ:=σ) f o x y cs hy he
  exact⟨A,m,C,hat,rfl,hz,hs⟩
 | 0,0,.acons a r,z,cs,hf,h,he=>by
  simp only[AV.chainAt,Option.some.injEq]at h
  subst h
  simp only[AV.flat]at hf
  cases ha:a.flat <;> simp[ha]at hf
  obtain⟨c1,c2,rfl,h1,h2⟩:=he
  exact⟨[],c1,c2,⟨by simp,rfl⟩,rfl,h1,fun u m' hm=>⟨m',c2,by simp,hm,h2⟩⟩
 | f+1,o,.acons a r,z,cs,hf,h,he=>by
  obtain⟨c1,c2,rfl,h1,h2⟩:=he
  simp only[AV.flat]at hf
  cases ha:a.flat <;> simp[ha]at hf
  have hl:=Rel.len _ _ ha h1
  simp only[AV.chainAt]at h
  cases hb:Nat.ble a.size o with
  | false=>simp[hb]at h
  | true =>
   simp only[hb,cond_true]at h
   have hle:=Nat.le_of_ble_eq_true hb
   obtain⟨A,m,C,⟨rfl,hA⟩,hzf,hz,hs⟩:=AV.chainAt_cells f _ r z c2 hf h h2
   exact⟨c1++A,m,C,⟨by simp,by simp[hA,hl]; omega⟩,hzf,hz,fun u m' hm=>⟨c1,A++m'++C,by simp,h1,hs u m' hm⟩⟩
 | 0,o+1,.acons a r,z,cs,_,h,he=>by simp[AV.chainAt]at h
 | _,_,.anil,_,_,_,h,_=>by simp[AV.chainAt]at h
 | _,_,.own ..,_,_,_,h,_=>by simp[AV.chainAt]at h
 | _,_,.ptr ..,_,_,_,h,_=>by simp[AV.chainAt]at h
 | _,_,.asl ..,_,_,_,h,_=>by simp[AV.chainAt]at h
 | _,_,.mapr ..,_,_,_,h,_=>by simp[AV.chainAt]at h
 | _,_,.iptr ..,_,_,_,h,_=>by simp[AV.chainAt]at h
 | _,_,.empty,_,_,_,h,_=>by simp[AV.chainAt]at h
 | _,_,.fn ..,_,_,_,h,_=>by simp[AV.chainAt]at h
 | _,_,.tup ..,_,_,_,h,_=>by simp[AV.chainAt]at h
 | _,_,.dead,_,_,_,h,_=>by simp[AV.chainAt]at h
 | _,_,.er,_,_,_,h,_=>by simp[AV.chainAt]at h
 | _,_,.sl _,_,_,_,h,_=>by simp[AV.chainAt]at h
theorem AV.chainAt_some (f o:Nat) (a z:AV) (h:a.chainAt f o=some z):(∃x,a=.d x)∨(∃b r,a=.acons b r):=by
 cases a with
 | d x=>exact .inl ⟨x,rfl⟩
 | acons b r=>exact .inr ⟨b,r,rfl⟩
 | _=>simp[AV.chainAt]at h
theorem ASub.step {x y:AV} {st:Step} {p:List Step} (h:ASub x (st::p) y) :
  (∃x0 z,x=.d x0∧Sub x0 (st::p) z∧y=.d z)∨(∃z,x.chainAt st.ix st.off=some z∧ASub z p y):=by
 cases x with
 | d x0 =>
  obtain⟨z,hz,rfl⟩:∃z,Sub x0 (st::p) z∧y=.d z:=by unfold ASub at h; exact h
  exact .inl ⟨x0,z,rfl,hz,rfl⟩
 | _ =>
  unfold ASub at h
  refine .inr ?_
  split at h
  ·rename_i z hz; exact⟨z,hz,h⟩
  ·exact h.elim
theorem ASub.cells:∀(p:List Step) (x y:AV) (cs:List Value),x.flat=true→ASub x p y→Rel σ w X x false cs→∃A m C,At cs (aV p) m A C∧y.flat=true∧Rel σ w X y false m
 | [],x,y,cs,hf,h,he=>by
  have:x=y:=by unfold ASub at h; simpa using h
  subst this
  exact⟨[],cs,[],⟨by simp,rfl⟩,hf,he⟩
 | st::p,x,y,cs,hf,h,he=>by
  rcases h.step with ⟨x0,z,rfl,hz,rfl⟩ | ⟨z,hz,hs⟩
  ·obtain⟨A,m,C,hat,hm⟩:=Sub.cells _ _ _ cs hz he
   exact⟨A,m,C,hat,rfl,hm⟩
  ·obtain⟨A,m,C,⟨rfl,hA⟩,hzf,hz',_⟩:=AV.chainAt_cells _ _ _ _ _ hf hz he
   obtain⟨A',m',C',⟨rfl,hA'⟩,hyf,hy⟩:=ASub.cells p z y _ hzf hs hz'
   exact⟨A++A',m',C'++C,⟨by simp,by simp[hA,hA',aV]⟩,hyf,hy⟩
theorem AUpd.step {x y z:AV} {st:Step} {p:List Step} (h:AUpd x (st::p) y z) :
  (∃x0 y0 z0,x=.d x0∧y=.d y0∧Upd x0 (st::p) y0 z0∧z=.d z0) ∨
  (∃u u',x.chainAt st.ix st.off=some u∧AUpd u p y u'∧z=AV.chainSet u' st.ix x):=by
 unfold AUpd at h
 split at h
 ·rename_i heq; cases heq
 ·rename_i heq
  cases heq
  obtain⟨z',hz,rfl⟩:=h
  exact .inl ⟨_,_,z',rfl,rfl,hz,rfl⟩
 ·rename_i heq _
  cases heq
  split at h
  ·rename_i u hu
   obtain⟨u',h1,rfl⟩:=h
   exact .inr ⟨u,u',hu,h1,rfl⟩
  ·exact h.elim
theorem AUpd.cells:∀(p:List Step) (x y z:AV) (cs m':List Value),x.flat=true→y.flat=true→AUpd x p y z→Rel σ w X x false cs→Rel σ w X y false m' →
  ∃A m C,At cs (aV p) m A C∧m.length=m'.length∧Rel σ w X z false (A++m'++C)
 | [],x,y,z,cs,m',hf,hyf,h,he,hy=>by
  obtain⟨h1,h2,rfl⟩:x.size=y.size∧x.isAgg=y.isAgg∧z=y:=by unfold AUpd at h; simpa using h
  exact⟨[],cs,[],⟨by simp,rfl⟩,by rw[Rel.len _ _ hf he,Rel.len _ _ hyf hy,h1],by simpa using hy⟩
 | st::p,x,y,z,cs,m',hf,hyf,h,he,hy=>by
  rcases h.step with ⟨x0,y0,z',rfl,rfl,hz,rfl⟩ | ⟨u,u',hu,h1,rfl⟩
  ·obtain⟨A,m,C,hat,hml,hm⟩:=Upd.cells _ _ _ _ cs m' hz he hy
   exact⟨A,m,C,hat,hml,hm⟩
  ·obtain⟨A,m,C,⟨rfl,hA⟩,huf,hu',hset⟩:=AV.chainAt_cells _ _ _ _ _ hf hu he
   obtain⟨A',m₂,C',⟨rfl,hA'⟩,hml,hz⟩:=AUpd.cells p u y u' _ m' huf hyf h1 hu' hy
   refine⟨A++A',m₂,C'++C,⟨by simp,by simp[hA,hA',aV]⟩,hml,?_⟩
   have:=hset u' _ hz
   simpa using this
theorem RelV.cells {a:AV} {v:Value} (hf:a.flat=true) (h:RelV σ w X a v):Rel σ w X a false v.cells.toList:=by
 unfold RelV at h
 split at h
 ·obtain⟨c,rfl,hc⟩:=h
  simpa[Value.cells]using hc
 ·have h1:=Rel.one _ _ hf h v (by simp)
  have:v.cells = #[v]:=by cases v <;> first | rfl | simp[Value.oneCell']at h1
  rw[this]
  simpa using h
theorem AV.flat.set:∀(f:Nat) (u a:AV),u.flat=true→a.flat=true→(AV.chainSet u f a).flat=true
 | 0,u,a,hu,ha=>by
  cases a with
  | d x =>
   cases x with
   | cons b r=>cases u <;> simp_all[AV.chainSet,AV.flat]
   | _=>simp[AV.chainSet,AV.flat]
  | acons b r =>
   simp only[AV.flat]at ha
   cases hb:b.flat <;> simp[hb]at ha
   simp[AV.chainSet,AV.flat,hu,ha]
  | _=>first | exact ha | (simp[AV.chainSet,AV.flat]; done) | (simp[AV.flat]at ha; done)
 | f+1,u,a,hu,ha=>by
  cases a with
  | d x =>
   cases x with
   | cons b r =>
    have ih:=AV.flat.set f u (.d r) hu rfl
    simp only[AV.chainSet]
    cases hc:AV.chainSet u f (.d r) with
    | d r'=>rfl
    | _=>rw[hc]at ih; first | (simp[AV.flat]at ih; done) | (simp[AV.flat]; done) | (simp only[AV.flat]at ih ⊢; exact ih)
   | _=>simp[AV.chainSet,AV.flat]
  | acons b r =>
   simp only[AV.flat]at ha
   cases hb:b.flat <;> simp[hb]at ha
   have ih:=AV.flat.set f u r hu ha
   simp[AV.chainSet,AV.flat,hb,ih]
  | _=>first | exact ha | (simp[AV.chainSet,AV.flat]; done)
theorem AV.flat.at {f o:Nat}:∀ {a z:AV},a.flat=true→a.chainAt f o=some z→z.flat=true:=by
 induction f generalizing o with
 | zero =>
  intro a z hf h
  cases a with
  | d x=>simp only[AV.chainAt,Option.map_eq_some_iff]at h; obtain⟨y,_,rfl⟩:=h; rfl
  | acons b r =>
   cases o with
   | zero =>
    simp only[AV.chainAt,Option.some.injEq]at h
    subst h
    simp only[AV.flat]at hf
    cases hb:b.flat <;> simp[hb]at hf ⊢
   | succ o=>simp[AV.chainAt]at h
  | _=>simp[AV.chainAt]at h
 | succ f ih =>
  intro a z hf h
  cases a with
  | d x=>simp only[AV.chainAt,Option.map_eq_some_iff]at h; obtain⟨y,_,rfl⟩:=h; rfl
  | acons b r =>
   simp only[AV.flat]at hf
   cases hb:b.flat <;> simp[hb]at hf
   simp only[AV.chainAt]at h
   cases hc:Nat.ble b.size o <;> simp only[hc,cond_true,cond_false]at h
   ·cases h
   ·exact ih hf h
  | _=>simp[AV.chainAt]at h
theorem AUpd.flat:∀(p:List Step) (x y z:AV),x.flat=true→y.flat=true→AUpd x p y z→z.flat=true
 | [],x,y,z,hf,hyf,h=>by
  obtain⟨h1,h2,rfl⟩:x.size=y.size∧x.isAgg=y.isAgg∧z=y:=by unfold AUpd at h; simpa using h
  exact hyf
 | st::p,x,y,z,hf,hyf,h=>by
  rcases h.step with ⟨x0,y0,z',rfl,rfl,hz,rfl⟩ | ⟨u,u',hu,h1,rfl⟩
  ·rfl
  ·exact AV.flat.set _ _ _ (AUpd.flat p u y u' (AV.flat.at hf hu) hyf h1) hf
end
end Go.Eng
namespace Go.Eng
open Go.RowKit
abbrev AV.undef:AV :=.tup .anil
def St.put (st:St) (dst:Option Tmp) (v:Option AV) (u:Upds):St :=
  { env:=match dst with
      | some d=>(d,v.getD .undef)::st.env
      | none=>st.env
    heap:=u++st.heap,next:=st.next,sz:=st.sz,bs:=st.bs }
theorem aN {β:Type 1} (j:Nat) (v:β) (l:List (Nat×β)) (i:Nat):lk ((j,v)::l) i=if j=i then some v else lk l i:=by
 simp only[lk]
 cases h:Nat.beq j i with
 | true=>rw[if_pos (Nat.eq_of_beq_eq_true h)]; rfl
 | false=>rw[if_neg (Nat.ne_of_beq_eq_false h)]; rfl
theorem dX {β:Type 1} (i:Nat):∀(l m:List (Nat×β)),lk (l++m) i=match lk l i with
  | some v=>some v
  | none=>lk m i
 | [],m=>rfl
 | (j,v)::l,m=>by
  simp only[List.cons_append,aN]
  split
  ·rfl
  ·exact dX i l m
section
variable {C : Ctx} {w w' : World} {G G' : Nat → Prop} {st st' : St} {σ σ' : aB} {a : Act}
theorem aA.core (h:aA C G st σ w a) (hG:∀r,G r→G' r) (hσ:∀r,G r→σ' r=σ r)
  (hk:∀(a:Addr) (u:Value),w.cell? a=some u→¬st.X C.X0 σ a.block→Kp w w' a u∧¬st'.X C.X0 σ' a.block)
  (henv:st'.env=st.env) (hsz:st'.sz=st.sz) (hbs:st'.bs=st.bs)
  (hrows:∀r row,st'.row r=some row→(st.row r=some row∧∀b c,σ r=some (b,c)→w'.heap[b]?=w.heap[b]?) ∨
   (G' r∧row.within G'∧bx σ' w' (st'.X C.X0 σ') r row))
  (hinj:∀r r' row row' b c c',st'.row r=some row→st'.row r'=some row'→σ' r=some (b,c)→σ' r'=some (b,c')→r=r')
  (hhigh:∀r row b c,st'.row r=some row→σ' r=some (b,c)→C.B≤b∨C.M b)
  (hsize:C.B≤w'.heap.size) (hb:fA C.B C.M w w'):aA C G' st' σ' w' a where
 env:=fun i v hi=>by
  obtain⟨u,h1,h2⟩:=h.env i v (by rw[←henv]; exact hi)
  exact⟨u,h1,RelV.mono hσ hk (h.envG i v (by rw[←henv]; exact hi)) h2⟩
 envG:=fun i v hi=>(h.envG i v (by rw[←henv]; exact hi)).mono hG
 rows:=fun r row hr=>by
  rcases hrows r row hr with ⟨h1,h2⟩ | ⟨_,_,h3⟩
  ·exact bx.mono hσ hk hb.size (h.rowsG r row h1).1 (h.rowsG r row h1).2 h2 (h.rows r row h1)
  ·exact h3
 rowsG:=fun r row hr=>by
  rcases hrows r row hr with ⟨h1,_⟩ | ⟨h2,h3,_⟩
  ·refine⟨hG _ (h.rowsG r row h1).1,?_⟩
   have:=(h.rowsG r row h1).2
   cases row with
   | box t x=>exact AV.within.mono hG x this
   | ds=>trivial
   | lits t s n ex x=>exact AV.within.mono hG x this
   | mo x=>exact AV.within.mono hG x this
   | si=>trivial
   | mq=>trivial
   | lo=>trivial
   | mi x=>exact AV.within.mono hG x this
  ·exact⟨h2,h3⟩
 inj:=hinj
 high:=hhigh
 size:=hsize
 below:=h.below.trans hb
 defers:=h.defers.go fun _ hk=>hb.book _ _ hk rfl
 sz:=by rw[hsz]; exact h.sz
 x0:=h.x0
 agree:=fun r hr=>(hσ r (h.baseG r hr)).trans (h.agree r hr)
 baseG:=fun r hr=>hG r (h.baseG r hr)
 bs:=hbs.trans h.bs
 rok:=fun l hl=>let ⟨r,hr⟩:=h.rok l hl; ⟨r,hb.book _ _ hr rfl⟩
 glob:=h.glob
theorem aA.set (h:aA C G st σ w a) {dst:Option Tmp} {v:Option AV} {u:Value} (hd:∀d,dst=some d→d<st.sz)
  (hv:RelV σ w (st.X C.X0 σ) (v.getD .undef) u) (hg:(v.getD .undef).within G):aA C G (st.put dst v []) σ w (a.put dst u):=by
 have hrow:∀r,(st.put dst v []).row r=st.row r:=fun r=>rfl
 have hX:(st.put dst v []).X C.X0 σ=st.X C.X0 σ:=rfl
 refine⟨?_,?_,fun r row=>h.rows r row,fun r row=>h.rowsG r row,h.inj,h.high,h.size,h.below,?_,?_,h.x0,h.agree,h.baseG,h.bs,h.rok,h.glob⟩
 ·intro i x hi
  cases dst with
  | none=>exact h.env i x hi
  | some d =>
   have hd':=hd d rfl
   simp only[St.put,aN]at hi
   have hsz:=h.sz
   split at hi
   ·rename_i e
    subst e
    simp only[Option.some.injEq]at hi
    subst hi
    exact⟨u,by simp only[Act.put]; exact Array.getElem?_setIfInBounds_self_of_lt (by rw[hsz]; exact hd'),hv⟩
   ·rename_i e
    obtain⟨y,h1,h2⟩:=h.env i x hi
    exact⟨y,by simp only[Act.put]; rw[Array.getElem?_setIfInBounds_ne e]; exact h1,h2⟩
 ·intro i x hi
  cases dst with
  | none=>exact h.envG i x hi
  | some d =>
   simp only[St.put,aN]at hi
   split at hi
   ·simp only[Option.some.injEq]at hi
    subst hi
    exact hg
   ·exact h.envG i x hi
 ·cases dst <;> simpa[Act.put]using h.defers
 ·cases dst <;> simpa[Act.put,St.put]using h.sz
theorem aA.drew (h:aA C G st σ w a):aA C G st σ w.drew a :=
 h.core (fun _ h=>h) (fun _ _=>rfl) (fun _ _ h1 h2=>⟨.of_block rfl h1,h2⟩) rfl rfl rfl (fun _ _ h1=>.inl ⟨h1,fun _ _ _=>rfl⟩) h.inj h.high h.size (Below.toM (Below.refl C.B w).drew fun _ _ h _=>h)
theorem eF (σ:aB) (w:World) (X:Nat→Prop):RelV σ w X .undef undef:=by
 unfold RelV
 simp only[AV.isAgg]
 exact⟨[],rfl,rfl⟩
def St.upd (st:St) (u:Upds):St := { st with heap:=u++st.heap }
theorem St.row_one (st:St) (n:Nat) (row:Option Row) (r:Nat):(st.upd [(n,row)]).row r=if n=r then row else st.row r:=by
 simp only[St.row,St.upd,List.cons_append,List.nil_append,aN]
 split
 ·cases row <;> rfl
 ·rfl
theorem St.put_upd (st:St) (dst:Option Tmp) (v:Option AV) (u:Upds):st.put dst v u=(st.upd u).put dst v []:=by
 simp[St.put,St.upd]
theorem aA.new (h:aA C G st σ w a) {n:Nat} (hn:¬G n) (cs:Array Value) (t:TypeId) (c:Nat) (row:Row) (hw:row.within G)
  (hrow:∀(σ':aB) (w':World) (X':Nat→Prop),(∀(x:AV) (m:Bool) (l:List Value),x.within G→Rel σ w (st.X C.X0 σ) x m l→Rel σ' w' X' x m l) →
   (∀(x:D) (l:List Value),Enc w (st.X C.X0 σ) x l→Enc w' X' x l) →
   σ' n=some (w.heap.size,c)→w'.heap[w.heap.size]?=some (.cells cs t (0,0))→bx σ' w' X' n row) :
  aA C (fun r=>G r∨r=n) (st.upd [(n,some row)]) (fun r=>if r=n then some (w.heap.size,c) else σ r) (w.alloc (.cells cs t)) a ∧
   ((fun r=>if r=n then some (w.heap.size,c) else σ r):aB) n=some (w.heap.size,c):=by
 have hne:∀r,G r→r≠n:=fun r hr e=>hn (e ▸ hr)
 have hold:∀r row',st.row r=some row' → ∀b c',σ r=some (b,c')→b<w.heap.size:=fun r row' hr b c' hs=>h.lt hr hs
 have hX:∀b,(st.upd [(n,some row)]).X C.X0 (fun r=>if r=n then some (w.heap.size,c) else σ r) b→st.X C.X0 σ b∨b=w.heap.size:=by
  rintro b (hx0 | ⟨r,row',c',h1,h2⟩)
  ·exact .inl (.inl hx0)
  rw[St.row_one]at h1
  by_cases e:r=n
  ·subst e
   simp only[if_true,Option.some.injEq,Prod.mk.injEq]at h2
   exact .inr h2.1.symm
  ·rw[if_neg (Ne.symm e)]at h1
   simp only[if_neg e]at h2
   exact .inl (.inr ⟨r,row',c',h1,h2⟩)
 have hσ:∀r,G r→((fun r=>if r=n then some (w.heap.size,c) else σ r):aB) r=σ r:=fun r hr=>by simp[hne r hr]
 have hk:∀(a:Addr) (u:Value),w.cell? a=some u→¬st.X C.X0 σ a.block→Kp w (w.alloc (.cells cs t)) a u∧¬(st.upd [(n,some row)]).X C.X0 (fun r=>if r=n then some (w.heap.size,c) else σ r) a.block:=by
  intro a u h1 h2
  have hlt:=World.block_lt_of_cell? w a h1
  refine⟨.of_block (Below.heap_alloc _ _ _ hlt) h1,fun hx=>?_⟩
  rcases hX _ hx with hx | hx
  ·exact h2 hx
  ·omega
 refine⟨h.core (fun r hr=>.inl hr) hσ hk rfl rfl rfl ?_ ?_ ?_ (by simp; have:=h.size; omega) (Below.toM ((Below.refl C.B w).alloc h.size _) fun k o ho _=>(Below.heap_alloc _ _ _ (Array.getElem?_eq_some_iff.1 ho).1).trans ho),by simp⟩
 ·intro r row' hr
  rw[St.row_one]at hr
  split at hr
  ·rename_i e
   subst e
   simp only[Option.some.injEq]at hr
   subst hr
   refine .inr ⟨.inr rfl,?_,hrow _ _ _ (fun x m l hx=>Rel.mono hσ hk x m l hx) (fun x l=>Enc.mono hk x l) (by simp) (heap_alloc_new w _)⟩
   cases row with
   | box t x=>exact AV.within.mono (fun r hr=>.inl hr) x hw
   | ds=>trivial
   | lits t s k ex x=>exact AV.within.mono (fun r hr=>.inl hr) x hw
   | mo x=>exact AV.within.mono (fun r hr=>.inl hr) x hw
   | si=>trivial
   | mq=>trivial
   | lo=>trivial
   | mi x=>exact AV.within.mono (fun r hr=>.inl hr) x hw
  ·rename_i e
   exact .inl ⟨hr,fun b c' hs=>Below.heap_alloc _ _ _ (hold r row' hr b c' hs)⟩
 ·intro r r' row1 row2 b c1 c2 h1 h2 h3 h4
  rw[St.row_one]at h1 h2
  by_cases e:r=n <;> by_cases e':r'=n
  ·rw[e,e']
  ·simp only[e,if_true,Option.some.injEq,Prod.mk.injEq]at h3
   rw[if_neg (Ne.symm e')]at h2
   simp only[if_neg e']at h4
   have:=hold _ _ h2 _ _ h4
   omega
  ·simp only[e',if_true,Option.some.injEq,Prod.mk.injEq]at h4
   rw[if_neg (Ne.symm e)]at h1
   simp only[if_neg e]at h3
   have:=hold _ _ h1 _ _ h3
   omega
  ·rw[if_neg (Ne.symm e)]at h1
   rw[if_neg (Ne.symm e')]at h2
   simp only[if_neg e]at h3
   simp only[if_neg e']at h4
   exact h.inj _ _ _ _ _ _ _ h1 h2 h3 h4
 ·intro r row1 b c1 h1 h2
  rw[St.row_one]at h1
  by_cases e:r=n
  ·simp only[e,if_true,Option.some.injEq,Prod.mk.injEq]at h2
   have:=h.size
   exact .inl (by omega)
  ·rw[if_neg (Ne.symm e)]at h1
   simp only[if_neg e]at h2
   exact h.high _ _ _ _ h1 h2
theorem aA.write (h:aA C G st σ w a) {r b c:Nat} {old row:Row} {cur new:Array Value} {t:TypeId} (hr:st.row r=some old) (hs:σ r=some (b,c))
  (hh:w.heap[b]?=some (.cells cur t (0,0))) (hw:row.within G)
  (hrow:∀(w':World),(∀(x:AV) (m:Bool) (l:List Value),x.within G→Rel σ w (st.X C.X0 σ) x m l→Rel σ w' (st.X C.X0 σ) x m l) →
   (∀(x:D) (l:List Value),Enc w (st.X C.X0 σ) x l→Enc w' (st.X C.X0 σ) x l)→w'.heap[b]?=some (.cells new t (0,0))→bx σ w' (st.X C.X0 σ) r row) :
  aA C G (st.upd [(r,some row)]) σ (w.setRow b new) a:=by
 have hX:(st.upd [(r,some row)]).X C.X0 σ=st.X C.X0 σ:=by
  funext x
  apply propext
  constructor
  ·rintro (hx0 | ⟨r',row',c',h1,h2⟩)
   ·exact .inl hx0
   rw[St.row_one]at h1
   by_cases e:r=r'
   ·subst e; exact .inr ⟨r,old,c',hr,h2⟩
   ·rw[if_neg e]at h1; exact .inr ⟨r',row',c',h1,h2⟩
  ·rintro (hx0 | ⟨r',row',c',h1,h2⟩)
   ·exact .inl hx0
   by_cases e:r=r'
   ·subst e; exact .inr ⟨r,row,c',by rw[St.row_one]; simp,h2⟩
   ·exact .inr ⟨r',row',c',by rw[St.row_one,if_neg e]; exact h1,h2⟩
 have hother:∀k,k≠b→(w.setRow b new).heap[k]?=w.heap[k]?:=by
  intro k hk
  simp only[World.setRow,Array.getElem?_modify]
  rw[if_neg (Ne.symm hk)]
 have hnew:(w.setRow b new).heap[b]?=some (.cells new t (0,0)):=setRow_heap w b cur new t _ hh
 have hk:∀(a:Addr) (u:Value),w.cell? a=some u→¬st.X C.X0 σ a.block→Kp w (w.setRow b new) a u∧¬(st.upd [(r,some row)]).X C.X0 σ a.block:=by
  intro a u h1 h2
  have hne:a.block≠b:=fun e=>h2 (.inr ⟨r,old,c,hr,by rw[e]; exact hs⟩)
  refine⟨.of_block (hother _ hne) h1,by rw[hX]; exact h2⟩
 refine h.core (fun _ h=>h) (fun _ _=>rfl) hk rfl rfl rfl ?_ ?_ ?_ (by simpa[World.setRow]using h.size) ?_
 ·intro r' row' hr'
  rw[St.row_one]at hr'
  split at hr'
  ·rename_i e
   subst e
   simp only[Option.some.injEq]at hr'
   subst hr'
   rw[hX]at hk ⊢
   exact .inr ⟨(h.rowsG _ _ hr).1,hw,hrow _ (fun x m l hx=>Rel.mono (fun _ _=>rfl) hk x m l hx) (fun x l=>Enc.mono hk x l) hnew⟩
  ·rename_i e
   refine .inl ⟨hr',fun b' c' hs'=>hother _ (fun e'=>e ?_)⟩
   subst e'
   exact h.inj _ _ _ _ _ _ _ hr hr' hs hs'
 ·intro r1 r2 row1 row2 b' c1 c2 h1 h2 h3 h4
  rw[St.row_one]at h1 h2
  by_cases e1:r=r1 <;> by_cases e2:r=r2
  ·rw[←e1,←e2]
  ·subst e1; rw[if_neg e2]at h2; exact h.inj _ _ _ _ _ _ _ hr h2 h3 h4
  ·subst e2; rw[if_neg e1]at h1; exact h.inj _ _ _ _ _ _ _ h1 hr h3 h4
  ·rw[if_neg e1]at h1; rw[if_neg e2]at h2; exact h.inj _ _ _ _ _ _ _ h1 h2 h3 h4
 ·intro r1 row1 b' c1 h1 h2
  rw[St.row_one]at h1
  by_cases e1:r=r1
  ·subst e1; exact h.high _ _ _ _ hr h2
  ·rw[if_neg e1]at h1; exact h.high _ _ _ _ h1 h2
 ·have hB:=h.high _ _ _ _ hr hs
  exact⟨rfl,rfl,rfl,by simp[World.setRow],fun k hk hm=>hother k (by rintro rfl; rcases hB with hB | hB; exact absurd hk (by omega); exact hm hB),fun k o ho hb=>(hother k (by rintro rfl; rw[hh]at ho; cases ho; cases hb)).trans ho⟩
end
end Go.Eng
namespace Go.Eng
open Go.RowKit
theorem D.size_one:∀x:D,x.isAgg=false→x.size=1:=by
 intro x
 induction x with
 | nil=>intro h; cases h
 | cons=>intro h; cases h
 | vec=>intro h; cases h
 | re f S x ih=>exact ih
 | _=>intro _; rfl
def D.flatC:D→List Value
 | .sc v=>[v]
 | .nil=>[]
 | .cons a r=>a.flatC++r.flatC
 | .vec _ _ enc xs=>xs.flatMap fun x=>(enc x).flatC
 | .arr .. => [nil_]
 | .pt _=>[nil_]
 | .arx .. => [nil_]
 | .re .. => [nil_]
 | .jk .. => [nil_]
def D.okC:D→Bool
 | .sc v=>v.oneCell'
 | .nil=>true
 | .cons a r=>a.okC&&r.okC
 | .vec n s enc xs=>Nat.beq xs.length n&&xs.all (fun x=>(enc x).okC&&Nat.beq (enc x).flatC.length s)
 | .arr _ _ xs=>xs.isEmpty
 | .pt _=>false
 | .arx _ _ xs=>xs.isEmpty
 | .re .. => false
 | .jk .. => false
theorem tR {α:Type} (g:α→List Value):∀(xs:List α),cat (fun i=>match xs[i]? with | some x=>g x | none=>[]) xs.length=xs.flatMap g:=by
 intro xs
 induction xs with
 | nil=>rfl
 | cons x xs ih =>
  rw[List.length_cons,Nat.add_comm,fN]
  simp only[cat,List.nil_append,List.getElem?_cons_zero,List.flatMap_cons]
  congr 1
  rw[←ih]
  exact dZ _ (fun i _=>by simp[Nat.add_comm 1 i])
theorem Enc.closed (w:World) (X:Nat→Prop):∀(d:D),d.okC=true→Enc w X d d.flatC:=by
 intro d
 induction d with
 | sc v=>intro h; exact⟨rfl,h⟩
 | nil=>intro _; rfl
 | cons a r iha ihr =>
  intro h
  simp only[D.okC,Bool.and_eq_true]at h
  exact⟨_,_,rfl,iha h.1,ihr h.2⟩
 | vec n s enc xs ih =>
  intro h
  simp only[D.okC,Bool.and_eq_true,List.all_eq_true]at h
  obtain⟨hn,ha⟩:=h
  have hn:=Nat.eq_of_beq_eq_true hn
  refine⟨hn,fun i=>match xs[i]? with | some x=>(enc x).flatC | none=>[],fun i hi=>?_,?_⟩
  ·have:=ha xs[i] (List.getElem_mem hi)
   simp only[List.getElem?_eq_getElem hi]
   exact⟨ih _ this.1,Nat.eq_of_beq_eq_true this.2⟩
  ·rw[←hn]; exact (tR (fun x=>(enc x).flatC) xs).symm
 | arr s enc xs ih =>
  intro h
  simp only[D.okC,List.isEmpty_iff]at h
  exact .inl ⟨h,rfl⟩
 | pt x ih=>intro h; cases h
 | re f S x ih=>intro h; cases h
 | jk S p n=>intro h; cases h
 | arx s enc xs ih =>
  intro h
  simp only[D.okC,List.isEmpty_iff]at h
  exact .inl ⟨h,none,rfl⟩
def sh (P:Program):TyD→TypeDesc→Prop
 | .int k,u=>u=.int k
 | .bool,u=>u=.bool
 | .string,u=>u=.string
 | .cell,u=>(match u with | .struct _ | .array .. => false | _=>true)=true
 | .struct fs,u=>∃gs:Array Field,u=.struct gs∧∀(k o t:Nat),fs[k]?=some (o,t)→∃g:Field,gs[k]?=some g∧g.offset=o∧g.type=t∧P.cellsOf t≠0
 | .array n e,u=>u=.array n e
 | .slice e,u=>u=.slice e
structure TyOk (P:Program) (t:Nat) (r:TyR):Prop where
 info:∃i z,P.info? t=some i∧i.size=r.size∧i.bytes=r.bytes∧i.zero=some z∧r.zero.flatC=z.cells.toList
 zero:r.zero.okC=true
 zsize:r.zero.size=r.size
 und:∃u,P.underlying t=some u∧sh P r.desc u
 agg:r.desc.isAgg=r.zero.isAgg
 flds:∀gs,P.underlying t=some (.struct gs)→∀g:Field,g∈gs.toList→∃i,P.info? g.type=some i
def aj (P:Program) (T:Tab):Prop:=∀t r,lk T t=some r→TyOk P t r
section
variable {P : Program} {T : Tab} {C : Ctx} {w w' : World} {G : Nat → Prop} {st : St} {σ : aB} {a : Act}
theorem TyOk.run_size {t:Nat} {r:TyR} (h:TyOk P t r) (w:World):(sizeOf t).run P w=.ok r.size w:=by
 obtain⟨i,z,h1,h2,_⟩:=h.info
 simp[sizeOf,typeInfo,h1,h2]
theorem TyOk.run_agg {t:Nat} {r:TyR} (h:TyOk P t r) (w:World):(isAgg t).run P w=.ok r.desc.isAgg w:=by
 obtain⟨u,h1,h2⟩:=h.und
 simp only[isAgg,Sem.run_bind,run_underlying h1,Result.andThen_ok]
 cases hd:r.desc with
 | cell=>rw[hd]at h2; cases u <;> first | rfl | simp[sh]at h2
 | int k=>rw[hd]at h2; cases h2; rfl
 | bool=>rw[hd]at h2; cases h2; rfl
 | string=>rw[hd]at h2; cases h2; rfl
 | struct fs=>rw[hd]at h2; obtain⟨gs,rfl,_⟩:=h2; rfl
 | array n e=>rw[hd]at h2; cases h2; rfl
 | slice e=>rw[hd]at h2; cases h2; rfl
theorem TyOk.run_zero {t:Nat} {r:TyR} (h:TyOk P t r) (w:World):∃z,(zeroValue t).run P w=.ok z w∧r.zero.flatC=z.cells.toList:=by
 obtain⟨i,z,h1,_,_,h4,h5⟩:=h.info
 exact⟨z,by simp[zeroValue,typeInfo,h1,h4],h5⟩
theorem ak (h:aA C G st σ w a) {x:Operand} {v:AV} (hv:ai st.env x=some v):RelV σ w (st.X C.X0 σ) v (a.eval x)∧v.within G:=by
 cases x with
 | tmp t =>
  obtain⟨u,h1,h2⟩:=h.env t v hv
  refine⟨?_,h.envG t v hv⟩
  simp only[Act.eval,Array.getD_eq_getD_getElem?,h1,Option.getD_some]
  exact h2
 | const c =>
  simp only[ai,wM]at hv
  split at hv
  ·cases hv
  ·cases hv
  ·cases hv
   refine⟨?_,trivial⟩
   unfold RelV
   simp only[AV.isAgg,D.isAgg,Act.eval]
   refine⟨rfl,?_⟩
   rename_i h1 h2
   cases c <;> first | rfl | (exact absurd rfl (h1 _)) | (exact absurd rfl (h2 _))
 | func f =>
  simp only[ai,Option.some.injEq]at hv
  subst hv
  refine⟨?_,trivial,trivial⟩
  unfold RelV
  simp only[AV.isAgg,Act.eval]
  exact⟨[],[],rfl,rfl,rfl⟩
 | global g=>simp[ai]at hv
def cu (P:Program) (C:Ctx) (G:Nat→Prop) (st:St) (n:Nat) (o:Oper) (a:Act) (w:World) (K:Option AV→Upds→Prop):Prop :=
 ∃v upd nx u w' σ' G',K v upd∧(execOp a.eval o).run P w=.ok nx w'∧(nx=.value u∨nx=.skip∧u=undef) ∧
  aA C G' (st.put o.dst v upd) σ' w' (a.put o.dst u)∧(∀r,G r→G' r)∧(∀r,G' r→G r∨n≤r∧r<n+8)
theorem cu.quiet {n:Nat} {o:Oper} {K:Option AV→Upds→Prop} (h:aA C G st σ w a) (hd:∀d,o.dst=some d→d<st.sz) {v:AV} {u:Value} (hK:K (some v) [])
  (hr:(execOp a.eval o).run P w=.ok (.value u) w) (hv:RelV σ w (st.X C.X0 σ) v u) (hg:v.within G):cu P C G st n o a w K :=
 ⟨some v,[],_,u,w,σ,G,hK,hr,.inl rfl,h.set hd hv hg,fun _ h=>h,fun _ h=>.inl h⟩
theorem RelV.sc {v u:Value} {X:Nat→Prop}:RelV σ w X (.d (.sc v)) u↔u=v∧v.oneCell'=true:=by
 unfold RelV
 simp only[AV.isAgg,D.isAgg,Rel,Enc]
 simp
theorem RelV.ptr {r:Nat} {p:List Step} {u:Value} {X:Nat→Prop}:RelV σ w X (.ptr r p) u ↔ ∃b c,σ r=some (b,c)∧u=.pointer (some ⟨b,aV p,none⟩):=by
 unfold RelV
 simp only[AV.isAgg,Rel]
 simp
theorem RelV.asl {r len cap:Nat} {p:List Step} {u:Value} {X:Nat→Prop}:RelV σ w X (.asl r p len cap) u ↔ ∃b c,σ r=some (b,c)∧u=.slice (some ⟨b,aV p,none⟩) len cap:=by
 unfold RelV
 simp only[AV.isAgg,Rel]
 simp
theorem RelV.iptr {x:D} {u:Value} {X:Nat→Prop}:RelV σ w X (.iptr x) u ↔ ∃a c,u=.pointer (some a)∧Enc w X x c∧∀j v,c[j]?=some v→w.cell? (a.add j)=some v∧¬X a.block:=by
 unfold RelV
 simp only[AV.isAgg,Rel]
 simp
theorem RelV.own {r off len s:Nat} {cap:Option Nat} {u:Value} {X:Nat→Prop}:RelV σ w X (.own r off len s cap) u ↔
  (σ r=none∧off=0∧len=0∧cap.getD 0=0∧u=.slice none 0 0) ∨
   ∃b c a,σ r=some (b,c)∧u=.slice (some a) len (cap.getD (c-off))∧off+len≤c∧off+cap.getD (c-off)≤c∧len≤cap.getD (c-off)∧(off<c→a=⟨b,off*s,none⟩):=by
 unfold RelV
 simp only[AV.isAgg,Rel]
 simp
theorem RelV.arr {α:Type} {s:Nat} {enc:α→D} {xs:List α} {u:Value} {X:Nat→Prop}:RelV σ w X (.d (.arr s enc xs)) u↔(xs=[]∧u=.slice none 0 0) ∨
   ∃a c,u=.slice (some a) xs.length c∧xs.length≤c∧c≤maxLen ∧
    ∃f:Nat→List Value,∀i (h:i<xs.length),Enc w X (enc xs[i]) (f i)∧(f i).length=s ∧
     ∀j u,(f i)[j]?=some u→w.cell? (a.add (i*s+j))=some u∧¬X a.block:=by
 unfold RelV
 simp only[AV.isAgg,D.isAgg,Rel,Enc]
 simp
theorem bz.out {t:Nat} {v:AV} (h:bz T t v=true):∃r,lk T t=some r∧r.size=v.size∧v.flat=true∧r.desc.isAgg=v.isAgg:=by
 unfold bz at h
 cases hr:lk T t with
 | none=>simp[hr]at h
 | some r =>
  simp only[hr]at h
  cases h1:Nat.beq r.size v.size <;> simp[h1]at h
  refine⟨r,rfl,Nat.eq_of_beq_eq_true h1,?_⟩
  cases h2:r.desc.isAgg <;> cases h3:v.isAgg <;> simp[h2,h3]at h <;> simp[h]
def ug (w:World) (ad:Addr) (m:List Value):Prop:=∀j u,m[j]?=some u→w.cell? (ad.add j)=some u
theorem gP {t:Nat} {r:TyR} (hT:TyOk P t r) {ad:Addr} {m:List Value} (hm:ug w ad m) (hl:m.length=r.size) {v:AV} {X:Nat→Prop} (hv:Rel σ w X v false m) (hf:v.flat=true)
  (ha:r.desc.isAgg=v.isAgg):∃u,(loadVar t ad).run P w=.ok u w∧RelV σ w X v u:=by
 cases hag:v.isAgg with
 | true =>
  refine⟨.agg m.toArray,?_,?_⟩
  ·simp only[loadVar,Sem.run_bind,hT.run_agg,Result.andThen_ok,ha,hag,if_true,hT.run_size]
   rw[←hl,run_loadCells_list w ad m hm]
   rfl
  ·unfold RelV; rw[if_pos hag]; exact⟨m,rfl,hv⟩
 | false =>
  have hsz:m.length=1:=by
   rw[Rel.len _ _ hf hv]
   cases v <;> first | rfl | (simp[AV.isAgg]at hag; done) | (rename_i x; exact D.size_one x hag)
  match m,hsz with
  | [u],_ =>
   refine⟨u,?_,?_⟩
   ·have h0:=hm 0 u (by simp)
    have:ad.add 0=ad:=by simp[Addr.add]
    rw[this]at h0
    simp[loadVar,hT.run_agg,ha,hag,h0]
   ·unfold RelV; rw[if_neg (by simp[hag])]; exact hv
theorem ug.at {b:Nat} {cur:Array Value} {t:TypeId} {fr:Nat×Nat} (h:w.heap[b]?=some (.cells cur t fr)) {o:Nat} {m A C:List Value} (hc:At cur.toList o m A C):ug w ⟨b,o,none⟩ m:=by
 intro j u hu
 have:(⟨b,o,none⟩:Addr).add j=⟨b,o+j,none⟩:=by unfold Addr.add; split <;> simp_all
 rw[this,cell_of_row w b (o+j) cur t fr h]
 obtain⟨h1,h2⟩:=hc
 rw[←Array.getElem?_toList,h1,List.append_assoc,List.getElem?_append_right (by omega),List.getElem?_append_left]
 ·rw[←hu]; congr 1; omega
 ·have:=(List.getElem?_eq_some_iff.1 hu).1; omega
theorem RSub.cells {X:Nat→Prop} {r:Nat} {row:Row} {p:List Step} {v:AV} (h:RSub row p v) (hr:bx σ w X r row) :
  ∃b c cur t m A C,σ r=some (b,c)∧w.heap[b]?=some (.cells cur t (0,0))∧At cur.toList (aV p) m A C∧Rel σ w X v false m∧v.flat=true:=by
 cases row with
 | box t x =>
  obtain⟨hfl,b,cs,h1,h2,h3⟩:=hr
  obtain⟨A,m,C,hat,hf,hm⟩:=ASub.cells p x v _ hfl h h3
  exact⟨b,1,cs,t,m,A,C,h1,h2,hat,hm,hf⟩
 | ds t s ex enc xs =>
  match p,h with
  | .idx i s'::p,h =>
   obtain⟨rfl,e,he,z,hz,rfl⟩:=h
   obtain⟨hlt,hei⟩:=List.getElem?_eq_some_iff.1 he
   rcases hr with ⟨_,rfl⟩ | ⟨b,c,cur,h1,_,h2,h3,h4,h5,f,hf,h6⟩
   ·simp at hlt
   ·obtain⟨A,C,hc,hA⟩:=fh xs.length (fun i hi=>(hf i hi).2) i hlt
    have hx:=(hf i hlt).1
    rw[hei]at hx
    obtain⟨A',m,C',⟨hm,hA'⟩,hy⟩:=Sub.cells p _ z _ hz hx
    refine⟨b,c,cur,t,m,A++A',C'++C++cur.toList.drop (xs.length*s),h1,h2,⟨?_,by simp[hA,hA',aV,Step.off]⟩,hy,rfl⟩
    have h7:=(List.take_append_drop (xs.length*s) cur.toList).symm
    rw[h6,hc,hm]at h7
    simpa using h7
 | lits t s n ex x =>
  match p,h with
  | .idx i s'::p,h =>
   obtain⟨rfl,hi,h⟩:=h
   split at h
   ·rename_i z hz
    rcases hr with ⟨hfl,⟨_,rfl⟩ | ⟨b,c,cur,cs,h1,_,h2,h3,h4,h5,h6,h7,h8⟩⟩
    ·omega
    ·obtain⟨A,m,C,⟨rfl,hA⟩,hzf,hz',_⟩:=AV.chainAt_cells _ _ _ _ _ hfl hz h7
     obtain⟨A',m',C',⟨rfl,hA'⟩,hyf,hy⟩:=ASub.cells p z v _ hzf h hz'
     refine⟨b,c,cur,t,m',A++A',C'++C++cur.toList.drop (n*s),h1,h2,⟨?_,by simp[hA,hA',aV,Step.off]⟩,hy,hyf⟩
     have h9:=(List.take_append_drop (n*s) cur.toList).symm
     rw[h8]at h9
     simpa using h9
   ·exact h.elim
 | mo x=>exact h.elim
 | si=>exact h.elim
 | mq=>exact h.elim
 | lo=>exact h.elim
 | mi=>exact h.elim
end
end Go.Eng
namespace Go.Eng
open Go.RowKit
theorem jC (a:Addr) (i j:Nat):(a.add i).add j=a.add (i+j):=by
 unfold Addr.add
 by_cases hi:i=0 <;> by_cases hj:j=0 <;> simp[hi,hj,Nat.add_assoc]
theorem eB (b o j:Nat):(⟨b,o,none⟩:Addr).add j=⟨b,o+j,none⟩:=by unfold Addr.add; split <;> simp_all
theorem AV.within.set {G:Nat→Prop}:∀(f:Nat) (u a:AV),u.within G→a.within G→(AV.chainSet u f a).within G
 | 0,u,a,hu,ha=>by
  cases a with
  | d x =>
   cases x with
   | cons b r=>cases u <;> first | exact trivial | exact⟨hu,trivial⟩
   | _=>exact trivial
  | acons b r=>exact⟨hu,ha.2⟩
  | _=>exact ha
 | f+1,u,a,hu,ha=>by
  cases a with
  | d x =>
   cases x with
   | cons b r =>
    have ih:=AV.within.set f u (.d r) hu trivial
    simp only[AV.chainSet]
    cases hc:AV.chainSet u f (.d r) with
    | d r'=>exact trivial
    | _=>rw[hc]at ih; exact⟨trivial,ih⟩
   | _=>exact trivial
  | acons b r=>exact⟨ha.1,AV.within.set f u r hu ha.2⟩
  | _=>exact ha
theorem AV.within.at {G:Nat→Prop} {f:Nat}:∀ {o:Nat} {a z:AV},a.within G→a.chainAt f o=some z→z.within G:=by
 induction f with
 | zero =>
  intro o a z hf h
  cases a with
  | d x=>simp only[AV.chainAt,Option.map_eq_some_iff]at h; obtain⟨y,_,rfl⟩:=h; trivial
  | acons b r =>
   cases o with
   | zero =>
    simp only[AV.chainAt,Option.some.injEq]at h
    subst h
    exact hf.1
   | succ o=>simp[AV.chainAt]at h
  | _=>simp[AV.chainAt]at h
 | succ f ih =>
  intro o a z hf h
  cases a with
  | d x=>simp only[AV.chainAt,Option.map_eq_some_iff]at h; obtain⟨y,_,rfl⟩:=h; trivial
  | acons b r =>
   simp only[AV.chainAt]at h
   cases hc:Nat.ble b.size o <;> simp only[hc,cond_true,cond_false]at h
   ·cases h
   ·exact ih hf.2 h
  | _=>simp[AV.chainAt]at h
theorem ASub.within {G:Nat→Prop}:∀(p:List Step) (x y:AV),x.within G→ASub x p y→y.within G
 | [],x,y,hf,h=>by
  have:x=y:=by unfold ASub at h; simpa using h
  exact this ▸ hf
 | st::p,x,y,hf,h=>by
  rcases h.step with ⟨x0,z,rfl,hz,rfl⟩ | ⟨z,hz,hs⟩
  ·trivial
  ·exact ASub.within p z y (hf.at hz) hs
theorem AUpd.within {G:Nat→Prop}:∀(p:List Step) (x y z:AV),x.within G→y.within G→AUpd x p y z→z.within G
 | [],x,y,z,_,hy,h=>by
  obtain⟨_,_,rfl⟩:x.size=y.size∧x.isAgg=y.isAgg∧z=y:=by unfold AUpd at h; simpa using h
  exact hy
 | st::p,x,y,z,hx,hy,h=>by
  rcases h.step with ⟨x0,y0,z',rfl,rfl,hz,rfl⟩ | ⟨u,u',hu,h1,rfl⟩
  ·trivial
  ·exact AV.within.set _ _ _ (AUpd.within p u y u' (hx.at hu) hy h1) hx
theorem RSub.within {G:Nat→Prop} {row:Row} {p:List Step} {v:AV} (hw:row.within G) (h:RSub row p v):v.within G:=by
 cases row with
 | box t x=>exact ASub.within p x v hw h
 | ds t s ex enc xs =>
  match p,h with
  | .idx i s'::p,h=>obtain⟨_,e,_,z,_,rfl⟩:=h; trivial
 | lits t s n ex x =>
  match p,h with
  | .idx i s'::p,h =>
   obtain⟨_,_,h⟩:=h
   split at h
   ·rename_i z hz; exact ASub.within p z v (AV.within.at (G:=G) (a:=x) hw hz) h
   ·exact h.elim
 | mo x=>exact h.elim
 | si=>exact h.elim
 | mq=>exact h.elim
 | lo=>exact h.elim
 | mi=>exact h.elim
theorem RUpd.within {G:Nat→Prop} {row row':Row} {p:List Step} {v:AV} (hw:row.within G) (hv:v.within G) (h:RUpd row p v row'):row'.within G:=by
 cases row with
 | box t x =>
  obtain⟨z,h1,rfl⟩:=h
  exact AUpd.within p x v z hw hv h1
 | ds t s ex enc xs =>
  match p,v,h with
  | .idx i s'::p,.d y,h=>obtain⟨_,e,e',_,_,rfl⟩:=h; trivial
 | lits t s n ex x =>
  match p,h with
  | .idx i s'::p,h =>
   obtain⟨_,_,h⟩:=h
   split at h
   ·rename_i u hu
    obtain⟨u',h1,rfl⟩:=h
    exact AV.within.set _ _ _ (AUpd.within p u v u' (AV.within.at (G:=G) (a:=x) hw hu) hv h1) hw
   ·exact h.elim
 | mo x=>exact h.elim
 | si=>exact h.elim
 | mq=>exact h.elim
 | lo=>exact h.elim
 | mi=>exact h.elim
section
variable {P : Program} {T : Tab} {C : Ctx} {w w' : World} {G : Nat → Prop} {st : St} {σ : aB} {a : Act}
theorem RUpd.cells {X:Nat→Prop} {r:Nat} {row row':Row} {p:List Step} {v:AV} {m':List Value} (h:RUpd row p v row') (hr:bx σ w X r row) (hvf:v.flat=true) (hv:Rel σ w X v false m') (hwr:row.within G) (hwv:v.within G) :
  ∃b c cur t A m C,σ r=some (b,c)∧w.heap[b]?=some (.cells cur t (0,0))∧At cur.toList (aV p) m A C∧m.length=m'.length ∧
   ∀(w':World),(∀(x:AV) (k:Bool) (l:List Value),x.within G→Rel σ w X x k l→Rel σ w' X x k l)→(∀(x:D) (l:List Value),Enc w X x l→Enc w' X x l) →
    w'.heap[b]?=some (.cells (A++m'++C).toArray t (0,0))→bx σ w' X r row':=by
 have hT:=RUpd.within hwr hwv h
 cases row with
 | box t x =>
  obtain⟨z,hz,rfl⟩:=h
  obtain⟨hfl,b,cs,h1,h2,h3⟩:=hr
  obtain⟨A,m,C,hat,hml,hm⟩:=AUpd.cells p x v z _ m' hfl hvf hz h3 hv
  refine⟨b,1,cs,t,A,m,C,h1,h2,hat,hml,fun w' ht _ hh=>⟨AUpd.flat p x v z hfl hvf hz,b,_,h1,hh,?_⟩⟩
  exact ht _ _ _ hT (by simpa using hm)
 | ds t s ex enc xs =>
  match p,v,h,hv with
  | .idx i s'::p,.d y,h,hv =>
   obtain⟨rfl,e,e',he,hz,rfl⟩:=h
   obtain⟨hlt,hei⟩:=List.getElem?_eq_some_iff.1 he
   rcases hr with ⟨_,rfl⟩ | ⟨b,c,cur,h1,h0,h2,h3,h4,h5,f,hf,h6⟩
   ·simp at hlt
   ·have hf':∀i,i<xs.length→(f i).length=s:=fun i hi=>(hf i hi).2
    obtain⟨A,C,hc,hA⟩:=fh xs.length hf' i hlt
    have hx:=(hf i hlt).1
    rw[hei]at hx
    obtain⟨A',m,C',⟨hm,hA'⟩,hml,hy⟩:=Upd.cells p _ y _ _ m' hz hx hv
    have hwhole:cur.toList=A++(A'++m++C')++C++cur.toList.drop (xs.length*s):=by
     have h7:=(List.take_append_drop (xs.length*s) cur.toList).symm
     rw[h6,hc,hm]at h7
     simpa using h7
    have hgl:(A'++m'++C').length=s:=by
     have:=hf' i hlt
     rw[hm]at this
     simp at this ⊢; omega
    refine⟨b,c,cur,t,A++A',m,C'++C++cur.toList.drop (xs.length*s),h1,h2,⟨by simpa using hwhole,by simp[hA,hA',aV,Step.off]⟩,hml,fun w' _ ht hh=>?_⟩
    have hset:=wO (A'++m'++C') xs.length hf' i hlt A C hc hA
    have hcl:=cz (f:=fun j=>if j=i then A'++m'++C' else f j) (s:=s) xs.length (fun j hj=>by
     by_cases hji:j=i
     ·simp only[hji,if_true]; exact hgl
     ·simp only[if_neg hji]; exact hf' j hj)
    refine .inr ⟨b,c,_,h1,by simpa using h0,hh,?_,by simpa using h4,h5,fun j=>if j=i then A'++m'++C' else f j,fun j hj=>?_,?_⟩
    ·rw[←h3]
     have:=congrArg List.length hwhole
     simp at this ⊢; omega
    ·by_cases hji:j=i
     ·subst hji
      simp only[List.getElem_set_self,if_true]
      exact⟨ht _ _ hy,hgl⟩
     ·simp only[List.length_set]at hj
      simp only[if_neg hji,List.getElem_set_ne (Ne.symm hji)]
      exact⟨ht _ _ (hf j hj).1,(hf j hj).2⟩
    ·rw[List.length_set,hset]
     have e1:A++A'++m'++(C'++C++cur.toList.drop (xs.length*s))=(A++(A'++m'++C')++C)++cur.toList.drop (xs.length*s):=by simp
     simp only[List.toList_toArray]
     rw[e1,List.take_append_of_le_length (by rw[←hset,hcl]; exact Nat.le_refl _),List.take_of_length_le (by rw[←hset,hcl]; exact Nat.le_refl _)]
 | lits t s n ex x =>
  match p,h with
  | .idx i s'::p,h =>
   obtain⟨rfl,hi,h⟩:=h
   split at h
   ·rename_i u hu
    obtain⟨u',hz,rfl⟩:=h
    rcases hr with ⟨hfl,⟨_,rfl⟩ | ⟨b,c,cur,cs,h1,h0,h2,h3,h4,h5,h6,h7,h8⟩⟩
    ·omega
    ·obtain⟨A,m₁,C,⟨rfl,hA⟩,huf,hu',hset⟩:=AV.chainAt_cells _ _ _ _ _ hfl hu h7
     obtain⟨A',m,C',⟨rfl,hA'⟩,hml,hy⟩:=AUpd.cells p u v u' _ m' huf hvf hz hu' hv
     have hwhole:cur.toList=A++(A'++m++C')++C++cur.toList.drop (n*s):=by
      have h9:=(List.take_append_drop (n*s) cur.toList).symm
      rw[h8]at h9
      exact h9
     have hfl':(AV.chainSet u' i x).flat=true:=AV.flat.set _ _ _ (AUpd.flat p u v u' huf hvf hz) hfl
     have hnew:=hset u' _ hy
     refine⟨b,c,cur,t,A++A',m,C'++C++cur.toList.drop (n*s),h1,h2,⟨by simpa using hwhole,by simp[hA,hA',aV,Step.off]⟩,hml,fun w' ht _ hh=>⟨hfl',?_⟩⟩
     refine .inr ⟨b,c,_,A++(A'++m'++C')++C,h1,h0,hh,?_,h4,h5,?_,ht _ _ _ hT hnew,?_⟩
     ·rw[←h3]
      have:=congrArg List.length hwhole
      simp at this ⊢; omega
     ·simp at h6 ⊢; omega
     ·have e1:A++A'++m'++(C'++C++cur.toList.drop (n*s))=(A++(A'++m'++C')++C)++cur.toList.drop (n*s):=by simp
      have e2:(A++(A'++m'++C')++C).length=n*s:=by simp at h6 ⊢; omega
      simp only[List.toList_toArray]
      rw[e1,List.take_append_of_le_length (by omega),List.take_of_length_le (by omega)]
   ·exact h.elim
 | mo x=>exact h.elim
 | si=>exact h.elim
 | mq=>exact h.elim
 | lo=>exact h.elim
 | mi=>exact h.elim
end
end Go.Eng
namespace Go.Eng
open Go.RowKit
section
variable {P : Program} {T : Tab} {C : Ctx} {w : World} {G : Nat → Prop} {st : St} {σ : aB} {a : Act} {o : Oper} {n : Nat} {K : Option AV → Upds → Prop}
theorem o6 (h:aA C G st σ w a) (hd:∀d,o.dst=some d→d<st.sz) {x:Operand} (ho:o.op=.move x∨o.op=.assign x) {v:AV} (hv:ai st.env x=some v) (hK:K (some v) []):cu P C G st n o a w K:=by
 obtain⟨h1,h2⟩:=ak h hv
 refine .quiet h hd hK ?_ h1 h2
 rcases ho with ho | ho <;> simp[execOp,ho]
theorem tZ (hT:aj P T) (h:aA C G st σ w a) (hd:∀d,o.dst=some d→d<st.sz) (hn:¬G n) {t:TypeId} (ho:o.op=.alloc t) {r:TyR} (hr:lk T t=some r)
  (hK:K (some (.ptr n [])) [(n,some (.box t (.d r.zero)))]):cu P C G st n o a w K:=by
 have ht:=hT t r hr
 obtain⟨z,hz,hzf⟩:=ht.run_zero w
 have hnew:=h.new (w:=w) hn z.cells t 1 (.box t (.d r.zero)) trivial (fun σ' w' X' _ _ h1 h2=>⟨rfl,w.heap.size,z.cells,h1,h2,by rw[←hzf]; exact Enc.closed w' X' _ ht.zero⟩)
 obtain⟨hst,hs⟩:=hnew
 refine⟨some (.ptr n []),[(n,some (.box t (.d r.zero)))],.value (.pointer (some ⟨w.heap.size,0,none⟩)),.pointer (some ⟨w.heap.size,0,none⟩),w.alloc (.cells z.cells t),fun r=>if r=n then some (w.heap.size,1) else σ r,fun r=>G r∨r=n,hK,?_,.inl rfl,?_,fun r hr=>.inl hr,fun r hr=>hr.imp id (fun e=>by omega)⟩
 ·simp[execOp,ho,Instr.alloc,hz,newVar,newRow]
 ·rw[St.put_upd]
  exact hst.set hd (RelV.ptr.2 ⟨w.heap.size,1,hs,rfl⟩) (.inr rfl)
theorem yf (h:aA C G st σ w a) (hd:∀d,o.dst=some d→d<st.sz) (hn:¬G n) {t:TypeId} {x:Operand} (ho:o.op=.box t x) {v:AV} (hv:ai st.env x=some v)
  (hs:bz T t v=true) (hK:K (some (.ptr n [])) [(n,some (.box t v))]):cu P C G st n o a w K:=by
 obtain⟨h1,h2⟩:=ak h hv
 obtain⟨r,_,_,hf,_⟩:=bz.out hs
 have hc:=h1.cells hf
 obtain⟨hst,hsg⟩:=h.new (w:=w) hn (a.eval x).cells t 1 (.box t v) h2 (fun σ' w' X' ht _ h3 h4=>⟨hf,w.heap.size,_,h3,h4,ht v false _ h2 hc⟩)
 refine⟨some (.ptr n []),[(n,some (.box t v))],.value (.pointer (some ⟨w.heap.size,0,none⟩)),.pointer (some ⟨w.heap.size,0,none⟩),w.alloc (.cells (a.eval x).cells t),fun r=>if r=n then some (w.heap.size,1) else σ r,fun r=>G r∨r=n,hK,?_,.inl rfl,?_,fun r hr=>.inl hr,fun r hr=>hr.imp id (fun e=>by omega)⟩
 ·simp[execOp,ho,Instr.box,newVar,newRow]
 ·rw[St.put_upd]
  exact hst.set hd (RelV.ptr.2 ⟨w.heap.size,1,hsg,rfl⟩) (.inr rfl)
theorem u7 (hT:aj P T) (h:aA C G st σ w a) (hd:∀d,o.dst=some d→d<st.sz) {t:TypeId} {x:Operand} (ho:o.op=.load t x) {r:Nat} {p:List Step} (hx:ai st.env x=some (.ptr r p))
  {row:Row} (hrow:st.row r=some row) {v:AV} (hv:RSub row p v) (hs:bz T t v=true) (hK:K (some v) []):cu P C G st n o a w K:=by
 obtain⟨h1,_⟩:=ak h hx
 obtain⟨b,c,hb,hu⟩:=RelV.ptr.1 h1
 obtain⟨tr,htr,hsz,hf,hag⟩:=bz.out hs
 obtain⟨b',c',cur,t',m,A,C,hb',hh,hat,hm,_⟩:=RSub.cells hv (h.rows r row hrow)
 rw[hb]at hb'
 cases hb'
 have hl:m.length=tr.size:=by rw[Rel.len _ _ hf hm,hsz]
 obtain⟨u,hrun,hrel⟩:=gP (hT t tr htr) (ug.at hh hat) hl hm hf hag
 refine .quiet h hd hK ?_ hrel (RSub.within (h.rowsG r row hrow).2 hv)
 simp[execOp,ho,Instr.loadAt,hu,Instr.sureAddr,hrun]
theorem tf (hT:aj P T) (h:aA C G st σ w a) (hd:∀d,o.dst=some d→d<st.sz) {t:TypeId} {x:Operand} (ho:o.op=.load t x) {y:D} (hx:ai st.env x=some (.iptr y))
  (hs:bz T t (.d y)=true) (hK:K (some (.d y)) []):cu P C G st n o a w K:=by
 obtain⟨h1,_⟩:=ak h hx
 obtain⟨ad,m,hu,hm,hst⟩:=RelV.iptr.1 h1
 obtain⟨tr,htr,hsz,hf,hag⟩:=bz.out hs
 have hm':Rel σ w (st.X C.X0 σ) (.d y) false m:=hm
 have hl:m.length=tr.size:=by rw[Rel.len _ _ hf hm',hsz]
 obtain⟨u,hrun,hrel⟩:=gP (hT t tr htr) (fun j u hj=>(hst j u hj).1) hl hm' hf hag
 refine .quiet h hd hK ?_ hrel trivial
 simp[execOp,ho,Instr.loadAt,hu,Instr.sureAddr,hrun]
theorem sC (hT:aj P T) (h:aA C G st σ w a) (hd:∀d,o.dst=some d→d<st.sz) {t:TypeId} {x y:Operand} (ho:o.op=.store t x y) {r:Nat} {p:List Step} (hx:ai st.env x=some (.ptr r p))
  {v:AV} (hy:ai st.env y=some v) {row row':Row} (hrow:st.row r=some row) (hu:RUpd row p v row') (hs:bz T t v=true) (hK:K none [(r,some row')]):cu P C G st n o a w K:=by
 obtain⟨h1,_⟩:=ak h hx
 obtain⟨b,c,hb,hux⟩:=RelV.ptr.1 h1
 obtain⟨h3,h4⟩:=ak h hy
 obtain⟨tr,htr,hsz,hf,hag⟩:=bz.out hs
 have hm':=h3.cells hf
 obtain⟨b',c',cur,t',A,m,C,hb',hh,⟨hcur,hA⟩,hml,hnew⟩:=RUpd.cells hu (h.rows r row hrow) hf hm' (h.rowsG r row hrow).2 h4
 rw[hb]at hb'
 cases hb'
 have hst:=h.write (new:=(A++(a.eval y).cells.toList++C).toArray) hrow hb hh (RUpd.within (h.rowsG r row hrow).2 h4 hu) (fun w' ht hd' hh'=>hnew w' ht hd' hh')
 have hvl:(a.eval y).cells.toList.length=tr.size:=by rw[Rel.len _ _ hf hm',hsz]
 have hcl:cur.size=A.length+m.length+C.length:=by
  have:=congrArg List.length hcur
  simp at this; omega
 have hrun:(storeCells ⟨b,aV p,none⟩ (a.eval y).cells.toList 0).run P w=.ok () (w.setRow b (A++(a.eval y).cells.toList++C).toArray):=by
  rw[run_storeCells_at P b (aV p) t' _ 0 cur w hh (by simp at hml ⊢; omega) (fun u hu=>Rel.one _ _ hf hm' u hu)]
  congr 3
  rw[hcur]
  have e1:List.take (aV p+0) (A++m++C)=A:=by rw[←hA]; simp
  have e2:List.drop (aV p+0+(a.eval y).cells.toList.length) (A++m++C)=C:=by
   rw[←hml,←hA,Nat.add_zero,←List.length_append,List.drop_left]
  rw[e1,e2]
 refine⟨none,[(r,some row')],.skip,undef,w.setRow b (A++(a.eval y).cells.toList++C).toArray,σ,G,hK,?_,.inr ⟨rfl,rfl⟩,?_,fun _ h=>h,fun _ h=>.inl h⟩
 ·have hne:¬(a.eval y).cells.size≠tr.size:=by simpa using hvl
  simp only[execOp,ho,Instr.storeAt,hux,Instr.sureAddr,storeVar,Sem.run_bind,Sem.run_pure,Result.andThen_ok,(hT t tr htr).run_size]
  rw[if_neg hne]
  simp only[Sem.run_bind,Sem.run_pure,Result.andThen_ok,hrun]
 ·rw[St.put_upd]
  exact hst.set hd (eF _ _ _) trivial
end
end Go.Eng
namespace Go.Eng
open Go.RowKit
section
variable {P : Program} {T : Tab} {C : Ctx} {w : World} {G : Nat → Prop} {st : St} {σ : aB} {a : Act} {o : Oper} {n : Nat} {K : Option AV → Upds → Prop}
theorem jT (p q:List Step):aV (p++q)=aV p+aV q:=by
 induction p with
 | nil=>simp[aV]
 | cons x p ih=>simp[aV,ih]; omega
theorem fD {t:Nat} {d:TyD} (h:bh T t=some d):∃r,lk T t=some r∧r.desc=d:=by
 unfold bh at h
 split at h
 ·rename_i r hr; simp only[Option.some.injEq]at h; exact⟨r,hr,h⟩
 ·cases h
theorem pS {t:TypeId} (h:P.cellsOf t≠0) (w:World):(sizeOf t).run P w=.ok (P.cellsOf t) w:=by
 unfold Program.cellsOf at h ⊢
 cases hi:P.info? t with
 | none=>simp[hi]at h
 | some i=>simp[sizeOf,typeInfo,hi]
theorem nq (hT:aj P T) {s f off t:Nat} {fs:List (Nat×Nat)} (hs:bh T s=some (.struct fs)) (hf:fs[f]?=some (off,t)) (ad:Addr) (w:World) :
  (Instr.fieldAt s (.pointer (some ad)) f).run P w=.ok (.pointer (some (ad.add off))) w:=by
 obtain⟨r,hr,hrd⟩:=fD hs
 obtain⟨u,hu,hd⟩:=(hT s r hr).und
 rw[hrd]at hd
 obtain⟨gs,rfl,hgs⟩:=hd
 obtain⟨g,hg,rfl,rfl,hne⟩:=hgs f off t hf
 simp[Instr.fieldAt,run_underlying hu,hg,Instr.sureAddr,fieldPlace,pS hne,hne]
theorem nK (hT:aj P T) (h:aA C G st σ w a) (hd:∀d,o.dst=some d→d<st.sz) {s f off t:Nat} {x:Operand} (ho:o.op=.fieldAddr s x f) {fs:List (Nat×Nat)}
  (hs:bh T s=some (.struct fs)) (hf:fs[f]?=some (off,t)) {r:Nat} {p:List Step} (hx:ai st.env x=some (.ptr r p)) (hK:K (some (.ptr r (p++[.fld f off]))) []):cu P C G st n o a w K:=by
 obtain⟨h1,h2⟩:=ak h hx
 obtain⟨b,c,hb,hu⟩:=RelV.ptr.1 h1
 refine .quiet (u :=.pointer (some ⟨b,aV (p++[.fld f off]),none⟩)) h hd hK ?_ (RelV.ptr.2 ⟨b,c,hb,rfl⟩) h2
 simp only[execOp,ho,hu,Sem.run_bind,nq hT hs hf,Result.andThen_ok,eB,jT]
 rfl
theorem mW (hT:aj P T) (h:aA C G st σ w a) (hd:∀d,o.dst=some d→d<st.sz) {s f off t:Nat} {x:Operand} (ho:o.op=.fieldAddr s x f) {fs:List (Nat×Nat)}
  (hs:bh T s=some (.struct fs)) (hf:fs[f]?=some (off,t)) {d z:D} (hx:ai st.env x=some (.iptr d)) (hz:d.chainAt f off=some z) (hK:K (some (.iptr z)) []):cu P C G st n o a w K:=by
 obtain⟨h1,_⟩:=ak h hx
 obtain⟨ad,m,hu,hm,hst⟩:=RelV.iptr.1 h1
 obtain⟨A,m',C,⟨rfl,hA⟩,hm',_⟩:=D.chainAt_cells f off d z m hz hm
 refine .quiet (u :=.pointer (some (ad.add off))) h hd hK ?_ (RelV.iptr.2 ⟨ad.add off,m',rfl,hm',fun j u hj=>?_⟩) trivial
 ·simp only[execOp,ho,hu,Sem.run_bind,nq hT hs hf,Result.andThen_ok]
  rfl
 ·have:=hst (off+j) u (by
   rw[List.append_assoc,List.getElem?_append_right (by omega),List.getElem?_append_left (by have:=(List.getElem?_eq_some_iff.1 hj).1; omega),←hj]
   congr 1; omega)
  rw[jC]
  exact⟨this.1,by rw[Addr.add_block]; exact this.2⟩
theorem RelV.agg {v:AV} {u:Value} {X:Nat→Prop} (h:RelV σ w X v u) (hv:v.isAgg=true):∃c:List Value,u=.agg c.toArray∧Rel σ w X v false c:=by
 unfold RelV at h; rwa [if_pos hv]at h
theorem fQ {t:Nat} {v:AV} (hT:aj P T) (hs:bz T t v=true) {cs A m C:List Value} {off:Nat} (hat:At cs off m A C) {X:Nat→Prop} (hm:Rel σ w X v false m) :
  ∃u,(part t cs.toArray off).run P w=.ok u w∧RelV σ w X v u:=by
 obtain⟨tr,htr,hsz,hf,hag⟩:=bz.out hs
 have hl:=Rel.len _ _ hf hm
 obtain⟨rfl,hA⟩:=hat
 cases hv:v.isAgg with
 | true =>
  refine⟨.agg m.toArray,?_,by unfold RelV; rw[if_pos hv]; exact⟨m,rfl,hm⟩⟩
  simp only[part,Sem.run_bind,(hT t tr htr).run_agg,Result.andThen_ok,hag,hv,if_true,(hT t tr htr).run_size,Sem.run_pure]
  congr 2
  apply Array.ext'
  simp only[Array.toList_extract,List.extract_eq_take_drop]
  rw[hsz,←hl,←hA]
  simp
 | false =>
  have hsz1:m.length=1:=by
   rw[hl]
   cases v <;> first | rfl | (simp[AV.isAgg]at hv; done) | (rename_i x; exact D.size_one x hv)
  match m,hsz1 with
  | [u],_ =>
   refine⟨u,?_,by unfold RelV; rw[if_neg (by simp[hv])]; exact hm⟩
   have:(A++[u]++C).toArray[off]?=some u:=by
    simp[←hA]
   simp only[part,Sem.run_bind,(hT t tr htr).run_agg,Result.andThen_ok,hag,hv,Bool.false_eq_true,if_false,this,Sem.run_pure]
theorem AV.isAgg_of_chain {f off:Nat} {v z:AV} (h:v.chainAt f off=some z):v.isAgg=true:=by
 rcases AV.chainAt_some _ _ _ _ h with ⟨x,rfl⟩ | ⟨b,r,rfl⟩
 ·simp only[AV.chainAt,Option.map_eq_some_iff]at h
  obtain⟨y,hy,_⟩:=h
  cases x <;> first | rfl | (cases f <;> simp[D.chainAt]at hy)
 ·rfl
theorem tK (hT:aj P T) (h:aA C G st σ w a) (hd:∀d,o.dst=some d→d<st.sz) {s f off t:Nat} {x:Operand} (ho:o.op=.field s x f) {fs:List (Nat×Nat)}
  (hs:bh T s=some (.struct fs)) (hf:fs[f]?=some (off,t)) {v z:AV} (hx:ai st.env x=some v) (hvf:v.flat=true) (hz:v.chainAt f off=some z) (hsz:bz T t z=true) (hK:K (some z) []):cu P C G st n o a w K:=by
 obtain⟨h1,h2⟩:=ak h hx
 obtain⟨c,hu,hc⟩:=h1.agg (AV.isAgg_of_chain hz)
 obtain⟨A,m,C,hat,_,hm,_⟩:=AV.chainAt_cells _ _ _ _ _ hvf hz hc
 obtain⟨u,hrun,hrel⟩:=fQ (σ:=σ) (w:=w) hT hsz hat hm
 obtain⟨r,hr,hrd⟩:=fD hs
 obtain⟨ud,hud,hdd⟩:=(hT s r hr).und
 rw[hrd]at hdd
 obtain⟨gs,rfl,hgs⟩:=hdd
 obtain⟨g,hg,rfl,rfl,hne⟩:=hgs f off t hf
 refine .quiet (u:=u) h hd hK ?_ hrel (AV.within.at h2 hz)
 simp[execOp,ho,Instr.field,run_underlying hud,hg,hu,asAgg,hrun]
theorem fo (hT:aj P T) {t e:Nat} {re:TyR} (ht:bh T t=some (.slice e)) (he:lk T e=some re) {ad:Addr} {len c:Nat} {k:IntKind} {m:Int} (h0:0≤m) (h1:m<len) (w:World) :
  (Instr.indexAt t (.slice (some ad) len c) (.int k m)).run P w=.ok (.pointer (some (ad.add (m.toNat*re.size)))) w:=by
 obtain⟨r,hr,hrd⟩:=fD ht
 obtain⟨u,hu,hd⟩:=(hT t r hr).und
 rw[hrd]at hd
 cases hd
 simp[Instr.indexAt,asIntOf,run_underlying hu,h0,h1,(hT e re he).run_size]
theorem gQ (hT:aj P T) {t e l:Nat} {re:TyR} (ht:bh T t=some (.array l e)) (he:lk T e=some re) {ad:Addr} {k:IntKind} {m:Int} (h0:0≤m) (h1:m<l) (w:World) :
  (Instr.indexAt t (.pointer (some ad)) (.int k m)).run P w=.ok (.pointer (some (ad.add (m.toNat*re.size)))) w:=by
 obtain⟨r,hr,hrd⟩:=fD ht
 obtain⟨u,hu,hd⟩:=(hT t r hr).und
 rw[hrd]at hd
 cases hd
 simp[Instr.indexAt,asIntOf,run_underlying hu,h0,h1,(hT e re he).run_size,Instr.sureAddr]
theorem pm (hT:aj P T) (h:aA C G st σ w a) (hd:∀d,o.dst=some d→d<st.sz) {t e:Nat} {re:TyR} {x i:Operand} (ho:o.op=.indexAddr t x i) (ht:bh T t=some (.slice e)) (he:lk T e=some re)
  {r off len s:Nat} {cap:Option Nat} (hs:re.size=s) (hx:ai st.env x=some (.own r off len s cap)) {k:IntKind} {m:Int} (hi:ai st.env i=some (.int k m)) (h0:0≤m) (h1:m<len)
  (hK:K (some (.ptr r [.idx (off+m.toNat) s])) []):cu P C G st n o a w K:=by
 obtain⟨hx1,hx2⟩:=ak h hx
 obtain⟨hi1,_⟩:=RelV.sc.1 (ak h hi).1
 rcases RelV.own.1 hx1 with ⟨_,_,rfl,_⟩ | ⟨b,c,ad,hb,hu,hle,hle2,_,had⟩
 ·omega
 ·have:ad=⟨b,off*s,none⟩:=had (by omega)
  subst this
  refine .quiet (u :=.pointer (some ⟨b,aV [.idx (off+m.toNat) s],none⟩)) h hd hK ?_ (RelV.ptr.2 ⟨b,c,hb,rfl⟩) hx2
  simp only[execOp,ho,hu,hi1,Sem.run_bind,fo hT ht he h0 h1,Result.andThen_ok,Sem.run_pure,eB,hs,aV,Step.off,Nat.add_mul,Nat.add_zero]
theorem pn (hT:aj P T) (h:aA C G st σ w a) (hd:∀d,o.dst=some d→d<st.sz) {t e:Nat} {re:TyR} {x i:Operand} (ho:o.op=.indexAddr t x i) (ht:bh T t=some (.slice e)) (he:lk T e=some re)
  {α:Type} {s:Nat} {enc:α→D} {xs:List α} (hs:re.size=s) (hx:ai st.env x=some (.d (.arr s enc xs))) {k:IntKind} {m:Int} (hi:ai st.env i=some (.int k m)) (h0:0≤m) {el:α} (h1:xs[m.toNat]?=some el)
  (hK:K (some (.iptr (enc el))) []):cu P C G st n o a w K:=by
 obtain⟨hx1,hx2⟩:=ak h hx
 obtain⟨hi1,_⟩:=RelV.sc.1 (ak h hi).1
 obtain⟨hlt,hel⟩:=List.getElem?_eq_some_iff.1 h1
 rcases RelV.arr.1 hx1 with ⟨rfl,_⟩ | ⟨ad,c,hu,_,_,f,hf⟩
 ·simp at hlt
 ·obtain⟨h2,h3,h4⟩:=hf _ hlt
  rw[hel]at h2
  refine .quiet (u :=.pointer (some (ad.add (m.toNat*s)))) h hd hK ?_ (RelV.iptr.2 ⟨_,f m.toNat,rfl,h2,fun j v hj=>?_⟩) trivial
  ·simp only[execOp,ho,hu,hi1,Sem.run_bind,fo hT ht he h0 (show m<(xs.length:Int) by omega),Result.andThen_ok,Sem.run_pure,hs]
  ·rw[jC,Addr.add_block]; exact h4 j v hj
theorem pk (hT:aj P T) (h:aA C G st σ w a) (hd:∀d,o.dst=some d→d<st.sz) {t e l:Nat} {re:TyR} {x i:Operand} (ho:o.op=.indexAddr t x i) (ht:bh T t=some (.array l e)) (he:lk T e=some re)
  {r:Nat} {p:List Step} (hx:ai st.env x=some (.ptr r p)) {k:IntKind} {m:Int} (hi:ai st.env i=some (.int k m)) (h0:0≤m) (h1:m<l)
  (hK:K (some (.ptr r (p++[.idx m.toNat re.size]))) []):cu P C G st n o a w K:=by
 obtain⟨hx1,hx2⟩:=ak h hx
 obtain⟨hi1,_⟩:=RelV.sc.1 (ak h hi).1
 obtain⟨b,c,hb,hu⟩:=RelV.ptr.1 hx1
 refine .quiet (u :=.pointer (some ⟨b,aV (p++[.idx m.toNat re.size]),none⟩)) h hd hK ?_ (RelV.ptr.2 ⟨b,c,hb,rfl⟩) hx2
 simp only[execOp,ho,hu,hi1,Sem.run_bind,gQ hT ht he h0 h1,Result.andThen_ok,Sem.run_pure,eB,jT,aV,Step.off,Nat.add_zero]
theorem nJ (hT:aj P T) (h:aA C G st σ w a) (hd:∀d,o.dst=some d→d<st.sz) {t e l:Nat} {re:TyR} {x i:Operand} (ho:o.op=.indexAddr t x i) (ht:bh T t=some (.array l e)) (he:lk T e=some re)
  {d z:D} (hx:ai st.env x=some (.iptr d)) {k:IntKind} {m:Int} (hi:ai st.env i=some (.int k m)) (h0:0≤m) (h1:m<l) (hz:Sub d [.idx m.toNat re.size] z)
  (hK:K (some (.iptr z)) []):cu P C G st n o a w K:=by
 obtain⟨hx1,_⟩:=ak h hx
 obtain⟨hi1,_⟩:=RelV.sc.1 (ak h hi).1
 obtain⟨ad,c,hu,hc,hst⟩:=RelV.iptr.1 hx1
 obtain⟨A,m',C,⟨rfl,hA⟩,hm'⟩:=Sub.cells _ _ _ _ hz hc
 simp only[aV,Step.off,Nat.add_zero]at hA
 refine .quiet (u :=.pointer (some (ad.add (m.toNat*re.size)))) h hd hK ?_ (RelV.iptr.2 ⟨_,m',rfl,hm',fun j v hj=>?_⟩) trivial
 ·simp only[execOp,ho,hu,hi1,Sem.run_bind,gQ hT ht he h0 h1,Result.andThen_ok,Sem.run_pure]
 ·have:=hst (m.toNat*re.size+j) v (by
   rw[List.append_assoc,List.getElem?_append_right (by omega),List.getElem?_append_left (by have:=(List.getElem?_eq_some_iff.1 hj).1; omega),←hj]
   congr 1; omega)
  rw[jC,Addr.add_block]
  exact this
theorem pj (h:aA C G st σ w a) (hd:∀d,o.dst=some d→d<st.sz) {t:Nat} {x i:Operand} (ho:o.op=.index t x i) (hstr:P.underlying t=some .string)
  {s:ByteArray} (hx:ai st.env x=some (.d (.sc (.string s)))) {k:IntKind} {m:Int} (hi:ai st.env i=some (.int k m)) (h0:0≤m) {b:UInt8} (hb:s[m.toNat]?=some b)
  (hK:K (some (.int .u8 b.toNat)) []):cu P C G st n o a w K:=by
 obtain⟨hx1,_⟩:=RelV.sc.1 (ak h hx).1
 obtain⟨hi1,_⟩:=RelV.sc.1 (ak h hi).1
 refine .quiet (u :=.int .u8 b.toNat) h hd hK ?_ (RelV.sc.2 ⟨rfl,rfl⟩) trivial
 simp[execOp,ho,hx1,hi1,Instr.index,asIntOf,run_underlying hstr,h0,hb]
theorem pi (hT:aj P T) (h:aA C G st σ w a) (hd:∀d,o.dst=some d→d<st.sz) {t e l:Nat} {re:TyR} {x i:Operand} (ho:o.op=.index t x i) (ht:bh T t=some (.array l e)) (he:lk T e=some re)
  {d z:D} (hx:ai st.env x=some (.d d)) (hda:d.isAgg=true) {k:IntKind} {m:Int} (hi:ai st.env i=some (.int k m)) (h0:0≤m) (h1:m<l) (hz:Sub d [.idx m.toNat re.size] z) (hsz:bz T e (.d z)=true)
  (hK:K (some (.d z)) []):cu P C G st n o a w K:=by
 obtain⟨hx1,_⟩:=ak h hx
 obtain⟨hi1,_⟩:=RelV.sc.1 (ak h hi).1
 obtain⟨c,hu,hc⟩:=hx1.agg hda
 obtain⟨A,m',C,hat,hm'⟩:=Sub.cells _ _ _ _ hz hc
 simp only[aV,Step.off,Nat.add_zero]at hat
 obtain⟨u,hrun,hrel⟩:=fQ (σ:=σ) (w:=w) (v :=.d z) hT hsz hat hm'
 obtain⟨r,hr,hrd⟩:=fD ht
 obtain⟨ud,hud,hdd⟩:=(hT t r hr).und
 rw[hrd]at hdd
 cases hdd
 refine .quiet (u:=u) h hd hK ?_ hrel trivial
 simp[execOp,ho,hu,hi1,Instr.index,asIntOf,run_underlying hud,h0,h1,(hT e re he).run_size,hrun]
theorem xO (h:aA C G st σ w a) (hd:∀d,o.dst=some d→d<st.sz) {op:BinOp} {xt yt:TypeId} {x y:Operand} (ho:o.op=.binOp op xt x y yt) {k:IntKind} {p q:Int}
  (hx:ai st.env x=some (.int k p)) (hy:ai st.env y=some (.int k q)) (hK:AC op k p q fun v=>K (some v) []):cu P C G st n o a w K:=by
 obtain⟨hx1,_⟩:=RelV.sc.1 (ak h hx).1
 obtain⟨hy1,_⟩:=RelV.sc.1 (ak h hy).1
 have fin:∀(v:Value),v.oneCell'=true→K (some (.d (.sc v))) []→(Go.binOp op xt (.int k p) (.int k q)).run P w=.ok v w→cu P C G st n o a w K:=by
  intro v hv hKv hrun
  refine .quiet (u:=v) h hd hKv ?_ (RelV.sc.2 ⟨rfl,hv⟩) trivial
  have hg:(eqGuard op xt x y (.int k p) (.int k q)).run P w=.ok () w:=by
   unfold eqGuard
   cases op <;> rfl
  simp only[execOp,ho,hx1,hy1,Sem.run_bind,hg,Result.andThen_ok,hrun,Sem.run_pure]
 cases op
 case add=>obtain⟨m,rfl,hm⟩:=hK; exact fin _ rfl hm (by simp[Go.binOp,Op.intArith])
 case sub=>obtain⟨m,rfl,hm⟩:=hK; exact fin _ rfl hm (by simp[Go.binOp,Op.intArith])
 case mul=>obtain⟨m,rfl,hm⟩:=hK; exact fin _ rfl hm (by simp[Go.binOp,Op.intArith])
 case quo=>obtain⟨h0,m,rfl,hm⟩:=hK; exact fin _ rfl hm (by simp[Go.binOp,Op.intDiv,h0])
 case rem=>obtain⟨h0,hm⟩:=hK; exact fin _ rfl hm (by simp[Go.binOp,Op.intDiv,h0])
 case eql=>exact fin _ rfl hK (by simp[Go.binOp,Op.intCmp,Bool.beq_eq_decide_eq])
 case neq=>exact fin _ rfl hK (by simp[Go.binOp,Op.intCmp,bne,Bool.beq_eq_decide_eq])
 case lss=>exact fin _ rfl hK (by simp[Go.binOp,Op.intCmp])
 case leq=>exact fin _ rfl hK (by simp[Go.binOp,Op.intCmp])
 case gtr=>exact fin _ rfl hK (by simp[Go.binOp,Op.intCmp])
 case geq=>exact fin _ rfl hK (by simp[Go.binOp,Op.intCmp])
 all_goals
  obtain⟨m,hr,hm⟩:=hK
  exact fin _ rfl hm (by simpa[Go.binOp]using hr P w)
theorem mx (h:aA C G st σ w a) (hd:∀d,o.dst=some d→d<st.sz) {op:BinOp} {xt yt:TypeId} {x y:Operand} (ho:o.op=.binOp op xt x y yt) (hop:op=.eql∨op=.neq) (ht:P.underlying xt=some .bool) {p q:Bool}
  (hx:ai st.env x=some (.bool p)) (hy:ai st.env y=some (.bool q)) (hK:K (some (.bool (if op=.eql then p==q else p !=q))) []):cu P C G st n o a w K:=by
 obtain⟨hx1,_⟩:=RelV.sc.1 (ak h hx).1
 obtain⟨hy1,_⟩:=RelV.sc.1 (ak h hy).1
 refine .quiet (u :=.bool (if op=.eql then p==q else p !=q)) h hd hK ?_ (RelV.sc.2 ⟨rfl,rfl⟩) trivial
 have hg:(eqGuard op xt x y (.bool p) (.bool q)).run P w=.ok () w:=by
  unfold eqGuard
  cases op <;> rfl
 have he:(Op.equal xt (.bool p) (.bool q)).run P w=.ok (p==q) w:=by
  rw[Op.equal,show Op.maxDepth=9999+1 from rfl,Op.equalIn]
  simp[run_underlying ht]
 rcases hop with rfl | rfl
 ·have hb:(Go.binOp .eql xt (.bool p) (.bool q)).run P w=.ok (.bool (p==q)) w:=by
   show ((do pure (.bool (←Op.equal xt (.bool p) (.bool q))):Sem Value)).run P w=_
   simp[he]
  simp only[execOp,ho,hx1,hy1,Sem.run_bind,hg,Result.andThen_ok,hb,Sem.run_pure]
  rfl
 ·have hb:(Go.binOp .neq xt (.bool p) (.bool q)).run P w=.ok (.bool (p !=q)) w:=by
   show ((do pure (.bool (!(←Op.equal xt (.bool p) (.bool q)))):Sem Value)).run P w=_
   simp[he,bne]
  simp only[execOp,ho,hx1,hy1,Sem.run_bind,hg,Result.andThen_ok,hb,Sem.run_pure]
  rfl
theorem uo (h:aA C G st σ w a) (hd:∀d,o.dst=some d→d<st.sz) {t:TypeId} {x:Operand} (ho:o.op=.unOp .not t x) {p:Bool} (hx:ai st.env x=some (.bool p)) (hK:K (some (.bool (!p))) []):cu P C G st n o a w K:=by
 obtain⟨hx1,_⟩:=RelV.sc.1 (ak h hx).1
 refine .quiet (u :=.bool (!p)) h hd hK ?_ (RelV.sc.2 ⟨rfl,rfl⟩) trivial
 simp[execOp,ho,hx1,Op.unary]
theorem xG (h:aA C G st σ w a) (hd:∀d,o.dst=some d→d<st.sz) {t:TypeId} {x:Operand} (ho:o.op=.unOp .neg t x) {k:IntKind} {p m:Int} (hx:ai st.env x=some (.int k p)) (hm:k.wrap (-p)=m) (hK:K (some (.int k m)) []):cu P C G st n o a w K:=by
 obtain⟨hx1,_⟩:=RelV.sc.1 (ak h hx).1
 refine .quiet (u :=.int k m) h hd hK ?_ (RelV.sc.2 ⟨rfl,rfl⟩) trivial
 simp[execOp,ho,hx1,Op.unary,Op.intArith,hm]
theorem vx (h:aA C G st σ w a) (hd:∀d,o.dst=some d→d<st.sz) {src t:TypeId} {x:Operand} (ho:o.op=.convert src t x) {k' k:IntKind} {p m:Int} (ht:P.underlying t=some (.int k)) (hsrc:(P.underlying src).isSome=true)
  (hx:ai st.env x=some (.int k' p)) (hm:k.wrap p=m) (hK:K (some (.int k m)) []):cu P C G st n o a w K:=by
 obtain⟨hx1,_⟩:=RelV.sc.1 (ak h hx).1
 obtain⟨us,hus⟩:=Option.isSome_iff_exists.1 hsrc
 refine .quiet (u :=.int k m) h hd hK ?_ (RelV.sc.2 ⟨rfl,rfl⟩) trivial
 simp[execOp,ho,hx1,Go.convert,run_underlying ht,run_underlying hus,Conv.intToInt,hm]
end
end Go.Eng
namespace Go.Eng
open Go.RowKit
def noD:D :=.vec (α:=Unit) 1 0 (fun _=>.nil) []
def AV.ren (ρ:Nat→Option Nat):AV→AV
 | .acons a r=>.acons (a.ren ρ) (r.ren ρ)
 | .own r off len s cap=>match ρ r with
  | some k=>.own k off len s cap
  | none=>bif Nat.beq off 0 then (bif Nat.beq len 0 then (match cap with
   | none=>.d (.sc nil_)
   | some _=>.d noD) else .d noD) else .d noD
 | .ptr r p=>match ρ r with
  | some k=>.ptr k p
  | none=>.d noD
 | .asl r p len cap=>match ρ r with
  | some k=>.asl k p len cap
  | none=>.d noD
 | .mapr r=>match ρ r with
  | some k=>.mapr k
  | none=>.d noD
 | .fn f p q=>.fn f (p.ren ρ) (q.ren ρ)
 | .tup q=>.tup (q.ren ρ)
 | x=>x
def Row.ren (ρ:Nat→Option Nat):Row→Row
 | .box t a=>.box t (a.ren ρ)
 | .ds t s ex enc xs=>.ds t s ex enc xs
 | .lits t s k ex a=>.lits t s k ex (a.ren ρ)
 | .mo a=>.mo (a.ren ρ)
 | .si s p=>.si s p
 | .mq p=>.mq p
 | .lo S=>.lo S
 | .mi a s l q=>.mi (a.ren ρ) s l q
def AVLe (x y:AV):Prop:=∀(σ:aB) (w:World) (X:Nat→Prop) (u:Value),RelV σ w X x u→RelV σ w X y u
theorem AVLe.refl (x:AV):AVLe x x:=fun _ _ _ _ h=>h
theorem AVLe.of_eq {x y:AV} (h:x=y):AVLe x y:=h ▸ AVLe.refl x
def aM (x y:Row):Prop:=∀(σ:aB) (w:World) (X:Nat→Prop) (r:Nat),bx σ w X r x→bx σ w X r y
theorem aM.refl (x:Row):aM x x:=fun _ _ _ _ h=>h
theorem aM.of_eq {x y:Row} (h:x=y):aM x y:=h ▸ aM.refl x
abbrev bC:=List (Nat×Option Nat)
def rho:bC→Nat→Option Nat
 | [],r=>some r
 | (j,k)::l,r=>bif Nat.beq j r then k else rho l r
def AV.lt (n:Nat):AV→Bool
 | .acons a r=>bif a.lt n then r.lt n else false
 | .own r .. => Nat.blt r n
 | .ptr r _=>Nat.blt r n
 | .asl r _ _ _=>Nat.blt r n
 | .mapr r=>Nat.blt r n
 | .fn _ p q=>bif p.lt n then q.lt n else false
 | .tup q=>q.lt n
 | _=>true
def Row.lt (n:Nat):Row→Bool
 | .box _ a=>a.lt n
 | .ds .. => true
 | .lits _ _ _ _ a=>a.lt n
 | .mo a=>a.lt n
 | .si .. => true
 | .mq _=>true
 | .lo _=>true
 | .mi a _ _ _=>a.lt n
theorem AV.lt_within {n:Nat}:∀(a:AV),a.lt n=true→a.within (fun r=>r<n):=by
 intro a
 induction a with
 | acons a r iha ihr =>
  intro h
  simp only[AV.lt]at h
  cases ha:a.lt n <;> simp[ha]at h
  exact⟨iha ha,ihr h⟩
 | own r=>intro h; exact Nat.le_of_ble_eq_true h
 | ptr r=>intro h; exact Nat.le_of_ble_eq_true h
 | asl r=>intro h; exact Nat.le_of_ble_eq_true h
 | mapr r=>intro h; exact Nat.le_of_ble_eq_true h
 | fn f p q ihp ihq =>
  intro h
  simp only[AV.lt]at h
  cases ha:p.lt n <;> simp[ha]at h
  exact⟨ihp ha,ihq h⟩
 | tup q ih=>exact ih
 | _=>exact fun _=>trivial
theorem Row.lt_within {n:Nat} (row:Row) (h:row.lt n=true):row.within (fun r=>r<n):=by
 cases row with
 | box t a=>exact AV.lt_within a h
 | ds=>trivial
 | lits t s k ex a=>exact AV.lt_within a h
 | mo a=>exact AV.lt_within a h
 | si=>trivial
 | mq=>trivial
 | lo=>trivial
 | mi a=>exact AV.lt_within a h
def jJ (ρ:Nat→Option Nat) (env:List (Nat×AV)) (n:Nat):List (Nat×AV)→Prop
 | []=>True
 | (i,v)::l=>(∃x,lk env i=some x∧AVLe x (v.ren ρ))∧v.lt n=true∧jJ ρ env n l
def Row.isNil:Row→Prop
 | .ds _ _ _ _ xs=>xs=[]
 | .lits _ _ n _ a=>n=0∧a.flat=true
 | _=>False
def gb (ρ:Nat→Option Nat) (st:St) (n:Nat):List (Nat×Option Row)→Prop
 | []=>True
 | (r,row)::l=>(match row with
   | none=>True
   | some row=>Nat.blt r n=true∧row.lt n=true∧match ρ r with
    | some k=>∃x,st.row k=some x∧aM x (row.ren ρ)
    | none=>row.isNil)∧gb ρ st n l
def ey (ρ:Nat→Option Nat):List Nat→Bool
 | []=>true
 | r::l=>bif ey ρ l then (match ρ r with
  | none=>true
  | some k => !l.any (fun j=>bif Nat.beq j r then false else match ρ j with | some x=>Nat.beq x k | none=>false)) else false
def aU {β:Type 1}:List (Nat×β)→List Nat
 | []=>[]
 | (r,_)::l=>r::aU l
def cX (bs:Nat):bC→Bool
 | []=>true
 | (r,_)::l=>bif Nat.ble bs r then cX bs l else false
structure Le (l:bC) (st st':St):Prop where
 inj:ey (rho l) (aU st'.heap)=true
 sz:st'.sz=st.sz
 bs:st'.bs=st.bs
 nx:Nat.ble st'.bs st'.next=true
 names:cX st'.bs l=true
 env:∀i v,lk st'.env i=some v→(∃x,lk st.env i=some x∧AVLe x (v.ren (rho l)))∧v.lt st'.next=true
 rows:∀r row,(lk st'.heap r).bind id=some row→r<st'.next∧row.lt st'.next=true∧match rho l r with
  | some k=>∃x,st.row k=some x∧aM x (row.ren (rho l))
  | none=>row.isNil
section
variable {C : Ctx} {w : World} {G : Nat → Prop} {st st' : St} {σ : aB} {a : Act}
def aB.via (σ:aB) (ρ:Nat→Option Nat):aB:=fun r=>match ρ r with
 | some k=>σ k
 | none=>none
theorem AV.ren_agg (ρ:Nat→Option Nat) (v:AV):v.isAgg=true→(v.ren ρ).isAgg=true:=by
 intro hv
 cases v <;> first | rfl | exact hv | simp[AV.isAgg]at hv
theorem eZ {X:Nat→Prop} {σ:aB} {k:Bool} {cs:List Value} (h:Rel σ w X (.d noD) k cs):False:=by
 obtain⟨h1,_⟩:=h
 simp at h1
theorem Rel.ren {ρ:Nat→Option Nat} {X:Nat→Prop}:∀(v:AV) (k:Bool) (cs:List Value),Rel σ w X (v.ren ρ) k cs→Rel (σ.via ρ) w X v k cs:=by
 intro v
 induction v with
 | acons p q ihp ihq =>
  intro k cs h
  cases k with
  | false =>
   obtain⟨c1,c2,rfl,h1,h2⟩:=h
   exact⟨c1,c2,rfl,ihp _ _ h1,ihq _ _ h2⟩
  | true =>
   obtain⟨u,us,rfl,h1,h2⟩:=h
   refine⟨u,us,rfl,?_,ihq _ _ h2⟩
   by_cases hag:p.isAgg=true
   ·rw[if_pos (AV.ren_agg ρ p hag)]at h1
    obtain⟨c,rfl,hc⟩:=h1
    rw[if_pos hag]
    exact⟨c,rfl,ihp _ _ hc⟩
   ·rw[if_neg hag]
    by_cases hag2:(p.ren ρ).isAgg=true
    ·rw[if_pos hag2]at h1
     obtain⟨c,rfl,hc⟩:=h1
     cases p with
     | own r off len s cap =>
      simp only[AV.ren]at hag2 hc
      split at hag2
      ·simp[AV.isAgg]at hag2
      ·rename_i hρ
       rw[hρ]at hc
       cases h1:Nat.beq off 0 <;> simp only[h1,cond_true,cond_false]at hc hag2
       ·exact (eZ hc).elim
       cases h2:Nat.beq len 0 <;> simp only[h2,cond_true,cond_false]at hc hag2
       ·exact (eZ hc).elim
       cases cap with
       | none=>simp[AV.isAgg,D.isAgg]at hag2
       | some _=>exact (eZ hc).elim
     | ptr r q =>
      simp only[AV.ren]at hag2 hc
      split at hag2
      ·simp[AV.isAgg]at hag2
      ·rename_i hρ
       rw[hρ]at hc
       exact (eZ hc).elim
     | asl r q l k =>
      simp only[AV.ren]at hag2 hc
      split at hag2
      ·simp[AV.isAgg]at hag2
      ·rename_i hρ
       rw[hρ]at hc
       exact (eZ hc).elim
     | mapr r =>
      simp only[AV.ren]at hag2 hc
      split at hag2
      ·simp[AV.isAgg]at hag2
      ·rename_i hρ
       rw[hρ]at hc
       exact (eZ hc).elim
     | _=>exact absurd hag2 hag
    ·rw[if_neg hag2]at h1
     exact ihp _ _ h1
 | own r off len s cap =>
  intro k cs h
  simp only[AV.ren]at h
  split at h
  ·rename_i j hj
   simp only[Rel,aB.via,hj]at h ⊢
   exact h
  ·rename_i hj
   cases h1:Nat.beq off 0 <;> simp only[h1,cond_true,cond_false]at h
   ·exact (eZ h).elim
   cases h2:Nat.beq len 0 <;> simp only[h2,cond_true,cond_false]at h
   ·exact (eZ h).elim
   cases cap with
   | none =>
    have e1:=Nat.eq_of_beq_eq_true h1
    have e2:=Nat.eq_of_beq_eq_true h2
    exact .inl ⟨by simp[aB.via,hj],e1,e2,rfl,h.1⟩
   | some _=>exact (eZ h).elim
 | ptr r p =>
  intro k cs h
  simp only[AV.ren]at h
  split at h
  ·rename_i j hj
   simp only[Rel,aB.via,hj]at h ⊢
   exact h
  ·exact (eZ h).elim
 | asl r p len cap =>
  intro k cs h
  simp only[AV.ren]at h
  split at h
  ·rename_i j hj
   simp only[Rel,aB.via,hj]at h ⊢
   exact h
  ·exact (eZ h).elim
 | mapr r =>
  intro k cs h
  simp only[AV.ren]at h
  split at h
  ·rename_i j hj
   simp only[Rel,aB.via,hj]at h ⊢
   exact h
  ·exact (eZ h).elim
 | fn f p q ihp ihq =>
  rintro k cs ⟨vs,us,rfl,h1,h2⟩
  exact⟨vs,us,rfl,ihp _ _ h1,ihq _ _ h2⟩
 | tup q ih =>
  rintro k cs ⟨vs,rfl,h1⟩
  exact⟨vs,rfl,ih _ _ h1⟩
 | _=>intro k cs h; exact h
theorem RelV.ren {ρ:Nat→Option Nat} {X:Nat→Prop} {v:AV} {u:Value} (h:RelV σ w X (v.ren ρ) u):RelV (σ.via ρ) w X v u:=by
 have h1:Rel σ w X (.acons (v.ren ρ) .anil) true [u]:=⟨u,[],rfl,by unfold RelV at h; exact h,rfl⟩
 have h2:=Rel.ren (ρ:=ρ) (.acons v .anil) true [u] h1
 obtain⟨u',us,he,h3,_⟩:=h2
 cases he
 unfold RelV
 exact h3
theorem AV.ren_flat {ρ:Nat→Option Nat}:∀(v:AV),(v.ren ρ).flat=true→v.flat=true:=by
 intro v
 induction v with
 | acons p q ihp ihq =>
  intro h
  simp only[AV.ren,AV.flat]at h ⊢
  cases hp:(p.ren ρ).flat <;> simp[hp]at h
  rw[ihp hp]
  exact ihq h
 | tup q=>intro h; simp[AV.ren,AV.flat]at h
 | dead=>intro h; simp[AV.ren,AV.flat]at h
 | er=>intro h; simp[AV.ren,AV.flat]at h
 | _=>intro _; rfl
theorem bx.ren {ρ:Nat→Option Nat} {X:Nat→Prop} {r k:Nat} (hk:ρ r=some k) {row:Row} (h:bx σ w X k (row.ren ρ)):bx (σ.via ρ) w X r row:=by
 have hs:σ.via ρ r=σ k:=by simp[aB.via,hk]
 cases row with
 | box t v =>
  obtain⟨hf,b,cs,h1,h2,h3⟩:=h
  exact⟨AV.ren_flat v hf,b,cs,hs.trans h1,h2,Rel.ren v _ _ h3⟩
 | ds t s ex enc xs =>
  simp only[bx,Row.ren,hs]at h ⊢
  exact h
 | lits t s n ex v =>
  obtain⟨hf,h⟩:=h
  refine⟨AV.ren_flat v hf,?_⟩
  rcases h with ⟨h1,h2⟩ | ⟨b,c,cur,cs,h1,h0,h2,h3,h4,h5,h6,h7,h8⟩
  ·exact .inl ⟨hs.trans h1,h2⟩
  ·exact .inr ⟨b,c,cur,cs,hs.trans h1,h0,h2,h3,h4,h5,h6,Rel.ren v _ _ h7,h8⟩
 | mo v =>
  obtain⟨b,es,h0,h1,h2,h3⟩:=h
  exact⟨b,es,h0,hs.trans h1,h2,Rel.ren v _ _ h3⟩
 | si s pos =>
  obtain⟨b,h1,h2⟩:=h
  exact⟨b,hs.trans h1,h2⟩
 | mq p =>
  obtain⟨b,es,h0,h1,h2,h3⟩:=h
  exact⟨b,es,h0,hs.trans h1,h2,h3⟩
 | lo S=>exact⟨hs.trans h.1,h.2⟩
 | mi v since last seen =>
  obtain⟨b,m,h1,h2,h3⟩:=h
  exact⟨b,m,hs.trans h1,h2,Rel.ren v _ _ h3⟩
theorem kA {ρ:Nat→Option Nat}:∀(l:List Nat),ey ρ l=true→∀i j k,i∈l→j∈l→ρ i=some k→ρ j=some k→i=j
 | [],_,i,j,k,hi,_,_,_=>by simp at hi
 | r::l,h,i,j,k,hi,hj,h1,h2=>by
  simp only[ey]at h
  cases ht:ey ρ l <;> simp only[ht,cond_true,cond_false]at h
  ·cases h
  have hno:∀j,j∈l→j≠r→∀k,ρ r=some k→ρ j≠some k:=by
   intro j hj hne k hk hjk
   rw[hk]at h
   dsimp only at h
   simp only[Bool.not_eq_true',List.any_eq_false]at h
   refine h j hj ?_
   have:Nat.beq j r=false:=by
    cases hb:Nat.beq j r with
    | false=>rfl
    | true=>exact absurd (Nat.eq_of_beq_eq_true hb) hne
   rw[this,hjk]
   exact Nat.beq_refl k
  rcases List.mem_cons.1 hi with e1 | hi' <;> rcases List.mem_cons.1 hj with e2 | hj'
  ·rw[e1,e2]
  ·by_cases e:j=i
   ·exact e.symm
   ·subst e1; exact absurd h2 (hno j hj' e k h1)
  ·by_cases e:i=j
   ·exact e
   ·subst e2; exact absurd h1 (hno i hi' e k h2)
  ·exact kA l ht i j k hi' hj' h1 h2
theorem jg {β:Type 1}:∀(l:List (Nat×β)) (r:Nat) (v:β),lk l r=some v→r∈aU l
 | [],r,v,h=>by simp[lk]at h
 | (j,u)::l,r,v,h=>by
  simp only[aN]at h
  split at h
  ·rename_i e; subst e; simp[aU]
  ·simp[aU,jg l r v h]
theorem jJ.out {ρ:Nat→Option Nat} {env:List (Nat×AV)} {n:Nat}:∀(l:List (Nat×AV)),jJ ρ env n l→∀i v,lk l i=some v→(∃x,lk env i=some x∧AVLe x (v.ren ρ))∧v.lt n=true
 | [],_,i,v,h=>by simp[lk]at h
 | (j,u)::l,h,i,v,hi=>by
  simp only[aN]at hi
  split at hi
  ·rename_i e
   subst e
   simp only[Option.some.injEq]at hi
   subst hi
   exact⟨h.1,h.2.1⟩
  ·exact jJ.out l h.2.2 i v hi
theorem gb.out {ρ:Nat→Option Nat} {n:Nat}:∀(l:List (Nat×Option Row)),gb ρ st n l→∀r row,(lk l r).bind id=some row→r<n∧row.lt n=true∧match ρ r with
  | some k=>∃x,st.row k=some x∧aM x (row.ren ρ)
  | none=>row.isNil
 | [],_,r,row,h=>by simp[lk]at h
 | (j,u)::l,h,r,row,hi=>by
  simp only[aN]at hi
  split at hi
  ·rename_i e
   subst e
   simp only[Option.bind_some,id]at hi
   subst hi
   obtain⟨h1,h2,h3⟩:=h.1
   exact⟨Nat.le_of_ble_eq_true h1,h2,h3⟩
  ·exact gb.out l h.2 r row hi
theorem kW {bs:Nat}:∀(l:bC),cX bs l=true→∀r,r<bs→rho l r=some r
 | [],_,r,_=>rfl
 | (j,k)::l,h,r,hr=>by
  simp only[cX]at h
  cases hj:Nat.ble bs j <;> simp only[hj,cond_true,cond_false]at h
  ·cases h
  have:=Nat.le_of_ble_eq_true hj
  simp only[rho]
  cases hb:Nat.beq j r with
  | true=>have:=Nat.eq_of_beq_eq_true hb; omega
  | false=>exact kW l h r hr
theorem AV.within_all:∀x:AV,x.within (fun _=>True):=fun x=>by
 induction x with
 | acons a r iha ihr=>exact⟨iha,ihr⟩
 | fn f p q ihp ihq=>exact⟨ihp,ihq⟩
 | tup q ih=>exact ih
 | _=>trivial
theorem Row.within_all (row:Row):row.within (fun _=>True):=by cases row <;> first | exact AV.within_all _ | trivial
theorem Le.of {l:bC} (h1:ey (rho l) (aU st'.heap)=true) (h2:st'.sz=st.sz) (h3:st'.bs=st.bs) (h4:Nat.ble st'.bs st'.next=true) (h5:cX st'.bs l=true)
  (h6:jJ (rho l) st.env st'.next st'.env) (h7:gb (rho l) st st'.next st'.heap):Le l st st' :=
 ⟨h1,h2,h3,h4,h5,fun i v hi=>jJ.out _ h6 i v hi,fun r row hr=>gb.out _ h7 r row hr⟩
theorem aA.le {l:bC} (h:aA C G st σ w a) (hl:Le l st st'):aA C (fun r=>r<st'.next) st' (σ.via (rho l)) w a:=by
 have hrow:∀r row,st'.row r=some row→r<st'.next∧row.lt st'.next=true∧match rho l r with
   | some k=>∃x,st.row k=some x∧aM x (row.ren (rho l))
   | none=>row.isNil:=fun r row hr=>hl.rows r row hr
 have hkey:∀r row,st'.row r=some row→r∈aU st'.heap:=by
  intro r row hr
  simp only[St.row]at hr
  cases hc:lk st'.heap r with
  | none=>rw[hc]at hr; simp at hr
  | some x=>exact jg _ _ _ hc
 have hback:∀r row b c,st'.row r=some row→σ.via (rho l) r=some (b,c)→∃k x,rho l r=some k∧st.row k=some x∧σ k=some (b,c):=by
  intro r row b c hr hs
  obtain⟨_,_,h3⟩:=hrow r row hr
  simp only[aB.via]at hs
  cases hk:rho l r with
  | none=>rw[hk]at hs; cases hs
  | some k =>
   rw[hk]at h3 hs
   obtain⟨x,hx,_⟩:=h3
   exact⟨k,x,rfl,hx,hs⟩
 have hX:∀b,st'.X C.X0 (σ.via (rho l)) b→st.X C.X0 σ b:=by
  rintro b (hx | ⟨r,row,c,h1,h2⟩)
  ·exact .inl hx
  ·obtain⟨k,x,_,hx,hs⟩:=hback r row b c h1 h2
   exact .inr ⟨k,x,c,hx,hs⟩
 have hk:∀(a:Addr) (u:Value),w.cell? a=some u→¬st.X C.X0 σ a.block→Kp w w a u∧¬st'.X C.X0 (σ.via (rho l)) a.block:=fun _ _ h1 h2=>⟨.rfl' h1,fun hx=>h2 (hX _ hx)⟩
 have hbs:st'.bs=C.bs:=hl.bs.trans h.bs
 refine⟨?_,?_,?_,?_,?_,?_,h.size,h.below,h.defers,by rw[hl.sz]; exact h.sz,h.x0,?_,?_,hbs,h.rok,h.glob⟩
 ·intro i v hi
  obtain⟨⟨x,hx,hle⟩,_⟩:=hl.env i v hi
  obtain⟨u,h1,h2⟩:=h.env i x hx
  exact⟨u,h1,RelV.mono (G:=fun _=>True) (fun _ _=>rfl) hk (AV.within_all v) (RelV.ren (hle _ _ _ _ h2))⟩
 ·intro i v hi
  exact AV.lt_within v (hl.env i v hi).2
 ·intro r row hr
  obtain⟨_,_,h3⟩:=hrow r row hr
  cases hk':rho l r with
  | none =>
   rw[hk']at h3
   have hs:σ.via (rho l) r=none:=by simp[aB.via,hk']
   cases row with
   | box t v=>exact h3.elim
   | ds t s ex enc xs=>exact .inl ⟨hs,h3⟩
   | lits t s n ex v=>exact⟨h3.2,.inl ⟨hs,h3.1⟩⟩
   | mo v=>exact h3.elim
   | si=>exact h3.elim
   | mq=>exact h3.elim
   | lo=>exact h3.elim
   | mi=>exact h3.elim
  | some k =>
   rw[hk']at h3
   obtain⟨x,hx,hle⟩:=h3
   have h4:=bx.ren hk' (hle σ w _ k (h.rows k x hx))
   exact bx.mono (G:=fun _=>True) (fun _ _=>rfl) hk (Nat.le_refl _) trivial (Row.within_all row) (fun _ _ _=>rfl) h4
 ·intro r row hr
  obtain⟨h1,h2,_⟩:=hrow r row hr
  exact⟨h1,Row.lt_within row h2⟩
 ·intro r r' row row' b c c' h1 h2 h3 h4
  obtain⟨k,x,hk1,hx,hs⟩:=hback r row b c h1 h3
  obtain⟨k',x',hk2,hx',hs'⟩:=hback r' row' b c' h2 h4
  have:=h.inj _ _ _ _ _ _ _ hx hx' hs hs'
  subst this
  exact kA _ hl.inj r r' k (hkey _ _ h1) (hkey _ _ h2) hk1 hk2
 ·intro r row b c h1 h2
  obtain⟨k,x,_,hx,hs⟩:=hback r row b c h1 h2
  exact h.high _ _ _ _ hx hs
 ·intro r hr
  have:=kW l hl.names r (by rw[hbs]; exact hr)
  simp only[aB.via,this]
  exact h.agree r hr
 ·intro r hr
  have:=Nat.le_of_ble_eq_true hl.nx
  rw[hbs]at this
  omega
end
end Go.Eng
namespace Go.Eng
open Go.RowKit
def eg:Nat→List AV→List (Nat×AV)
 | _,[]=>[]
 | i,d::ds=>(i,d)::eg (i+1) ds
def aw:List (Nat×Row)→Upds
 | []=>[]
 | (r,row)::l=>(r,some row)::aw l
def inSt (avs:List AV) (h0:List (Nat×Row)):St:=⟨eg 0 avs,aw h0,64,avs.length,64⟩
def dm (res:AV) (rows:List (Nat×Row)):St:=⟨[(0,res)],aw rows,72,1,64⟩
def FnIs (P:Program) (f:FuncId) (avs:List AV) (h0:List (Nat×Row)) (res:AV) (rows:List (Nat×Row)):Prop :=
 (∃ fn, P.funcs[f]? = some fn ∧ (fn.name == "runtime.NumGoroutine") = false ∧ fn.body.isNone = false) ∧
 ∀(C:Ctx) (σ:aB) (w:World) (vs:List Value),C.bs=64→C.B=w.heap.size→C.w0=w→C.σ0=σ→C.ro=none→aA C (fun r=>r<64) (inSt avs h0) σ w ⟨vs.toArray,[]⟩ →
  Calls P f vs.toArray w fun e w'=>∃v σ',e=.returned v∧aA C (fun r=>r<72) (dm res rows) σ' w' ⟨#[v],[]⟩
def DLe (x d:D):Prop:=∀(w:World) (X:Nat→Prop) (cs:List Value),Enc w X x cs→Enc w X d cs
theorem DLe.refl (x:D):DLe x x:=fun _ _ _ h=>h
theorem DLe.of_eq {x y:D} (h:x=y):DLe x y:=h ▸ DLe.refl x
theorem DLe.nil_arr {α:Type} (s:Nat) (enc:α→D):DLe (.sc nil_) (.arr s enc []):=fun _ _ _ h=>.inl ⟨rfl,h.1⟩
theorem AVLe.d {x y:D} (h:DLe x y) (hg:x.isAgg=y.isAgg):AVLe (.d x) (.d y):=by
 intro σ w X u hu
 unfold RelV at hu ⊢
 split at hu <;> rename_i hag
 ·obtain⟨c,rfl,hc⟩:=hu; rw[if_pos (show (AV.d y).isAgg=true from hg.symm.trans hag)]; exact⟨c,rfl,h _ _ _ hc⟩
 ·rw[if_neg (show ¬(AV.d y).isAgg=true from fun e=>hag (hg.trans e))]; exact h _ _ _ hu
def ArgD (look:Nat→Option Row):AV→D→Prop
 | .d x,d=>DLe x d
 | .anil,d=>d=.nil
 | .acons a r,d=>∃x y,d=.cons x y∧ArgD look a x∧ArgD look r y
 | .own r off len s _,d=>match look r with
  | some (.ds (α:=α) _ s' _ enc xs)=>s'=s∧off+len≤xs.length∧∃ys:List α,(xs.drop off).take len=ys∧DLe (.arr s enc ys) d
  | _=>False
 | .empty,d=>∃(α:Type) (s:Nat) (enc:α→D),d=.arr s enc ([]:List α)
 | .asl r p len cap,d=>match look r with
  | some row=>∃(α:Type) (m k s:Nat) (enc:α→D) (xs:List α) (q:List Step),aV p=aV q+k*s∧RSub row q (.d (.vec m s enc xs))∧k+len≤m∧len≤cap∧cap≤1048576∧DLe (.arr s enc ((xs.drop k).take len)) d
  | none=>False
 | _,_=>False
def AV.isD:AV→Bool
 | .d _=>true
 | .anil=>true
 | .acons a r=>bif a.isD then r.isD else false
 | _=>false
def ArgA (look:Nat→Option Row) (ρ:Nat→Option Nat) (a:AV):AV→Prop
 | .d x=>x.isAgg=a.isAgg∧ArgD look a x
 | av=>AVLe a (av.ren ρ)
def bU (look:Nat→Option Row) (ρ:Nat→Option Nat):List AV→List AV→Prop
 | [],ds=>ds=[]
 | a::l,ds=>∃x xs,ds=x::xs∧(a.flat=true∧x.lt 64=true)∧ArgA look ρ a x∧bU look ρ l xs
def bY:List AV→List AV→Bool
 | a::l,.d _::xs=>bif a.isD then bY l xs else false
 | _::l,_::xs=>bY l xs
 | _,_=>true
def cr (res:AV) (rows:List (Nat×Row)):Prop :=
 ∀(σ:aB) (w:World) (X X':Nat→Prop),(∀v,RelV σ w X res v→RelV σ w X' res v)∧∀r row,lk rows r=some row→bx σ w X r row→bx σ w X' r row
def bG (l:bC) (n r:Nat):Nat:=bif Nat.blt r 64 then (match rho l r with
 | some k=>k
 | none=>r) else n+(r-64)
def eb (l:bC) (n r:Nat):Option Nat:=some (bG l n r)
def jd (l:bC) (n:Nat):List (Nat×Row)→Upds
 | []=>[]
 | (r,row)::rows=>(bG l n r,some (row.ren (eb l n)))::jd l n rows
def fw (l:bC) (n:Nat):List (Nat×Row)→Upds
 | []=>[]
 | (r,_)::rows=>(bG l n r,none)::fw l n rows
def bA (l:bC) (n:Nat) (h0 rows:List (Nat×Row)):Upds:=jd l n rows++fw l n h0
def RowsIn (look:Nat→Option Row) (l:bC):List (Nat×Row)→Prop
 | []=>True
 | (r,row)::rows=>(Nat.blt r 64=true∧row.lt 64=true∧∃k x,rho l r=some k∧look k=some x∧aM x (row.ren (rho l)))∧RowsIn look l rows
section
variable {P : Program} {C : Ctx} {w w' : World} {G : Nat → Prop} {st : St} {σ : aB} {a : Act}
theorem Enc.sub {X X':Nat→Prop} (hx:∀b,X' b→X b) (d:D) (cs:List Value) (h:Enc w X d cs):Enc w X' d cs :=
 Enc.mono (fun _ _ h1 h2=>⟨.rfl' h1,fun h=>h2 (hx _ h)⟩) d cs h
theorem ArgD.rel (h:aA C G st σ w a):∀(v:AV) (d:D) (m:List Value),v.within G→ArgD st.row v d→Rel σ w (st.X C.X0 σ) v false m→Enc w C.X0 d m:=by
 intro v
 induction v with
 | d x=>intro d m _ hd hm; exact hd _ _ _ (Enc.sub (fun b hb=>.inl hb) x m hm)
 | anil=>rintro d m _ rfl rfl; rfl
 | acons p q ihp ihq =>
  rintro d m ⟨g1,g2⟩ ⟨x,y,rfl,h1,h2⟩ ⟨c1,c2,rfl,h3,h4⟩
  exact⟨c1,c2,rfl,ihp _ _ g1 h1 h3,ihq _ _ g2 h2 h4⟩
 | own r off len s cap =>
  intro d m _ hd hm
  simp only[ArgD]at hd
  split at hd
  ·rename_i α t s' ex enc xs hrow
   obtain⟨rfl,hin,ys,rfl,hle⟩:=hd
   refine hle _ _ _ ?_
   have hr:=h.rows r _ hrow
   rcases hm with ⟨h0,rfl,rfl,_,rfl⟩ | ⟨b,c,ad,hb,rfl,hle1,hle2,hle3,had⟩
   ·exact .inl ⟨by simp,rfl⟩
   ·rcases hr with ⟨h0,rfl⟩ | ⟨b',c',cur,hb',_,hh,hsz,hlen,hmax,f,hf,htake⟩
    ·rw[hb]at h0; cases h0
    ·rw[hb]at hb'
     cases hb'
     have hyl:((xs.drop off).take len).length=len:=by simp; omega
     refine .inr ⟨ad,cap.getD (c-off),by rw[hyl],by rw[hyl]; exact hle3,by omega,fun i=>f (off+i),fun i hi=>?_⟩
     rw[hyl]at hi
     have hlt:off+i<xs.length:=by omega
     obtain⟨h1,h2⟩:=hf (off+i) hlt
     have hget:((xs.drop off).take len)[i]'(by rw[hyl]; exact hi)=xs[off+i]:=by simp
     rw[hget]
     have hoff:ad=⟨b,off*s',none⟩:=had (by omega)
     subst hoff
     refine⟨Enc.sub (fun b hb=>.inl hb) _ _ h1,h2,fun j u hj=>⟨?_,fun hx=>?_⟩⟩
     ·rw[eB,cell_of_row w b _ cur t (0,0) hh]
      have hjs:j<s':=by rw[←h2]; exact (List.getElem?_eq_some_iff.1 hj).1
      have hcg:=eH (f:=f) (s:=s') xs.length (fun i hi=>(hf i hi).2) (off+i) j hlt hjs
      rw[←htake,hj,List.getElem?_take]at hcg
      have hlt2:(off+i)*s'+j<xs.length*s':=by
       have:(off+i+1)*s'≤xs.length*s':=Nat.mul_le_mul_right s' hlt
       rw[Nat.add_mul]at this; omega
      rw[if_pos hlt2,Nat.add_mul,Nat.add_assoc]at hcg
      rw[←Array.getElem?_toList]
      exact hcg
     ·obtain⟨h3,h4⟩:=h.x0 _ hx
      rcases h.high _ _ _ _ hrow hb with h5 | h5
      ·simp only at h3; omega
      ·exact h4 h5
  ·exact hd.elim
 | empty =>
  rintro d m _ ⟨α,s,enc,rfl⟩ ⟨ad,rfl⟩
  cases ad with
  | none=>exact .inl ⟨rfl,rfl⟩
  | some ad=>exact .inr ⟨ad,0,rfl,by simp,by simp[maxLen],fun _=>[],fun i hi=>by simp at hi⟩
 | asl r p len cap =>
  intro d m _ hd hm
  simp only[ArgD]at hd
  split at hd
  ·rename_i row hrow
   obtain⟨α,n,k,s',enc,xs,q,hpq,hsub,hin,hlc,hcap,hle⟩:=hd
   refine hle _ _ _ ?_
   obtain⟨b,c,cur,t,mm,A,C',hb,hh,⟨hcur,hA⟩,hmm,_⟩:=RSub.cells hsub (h.rows r _ hrow)
   obtain⟨hxl,f,hf,rfl⟩:xs.length=n∧∃f:Nat→List Value,(∀i (h:i<xs.length),Enc w (st.X C.X0 σ) (enc xs[i]) (f i)∧(f i).length=s')∧mm=cat f n:=hmm
   obtain⟨b',c',hb',rfl⟩:=hm
   rw[hb]at hb'
   cases hb'
   have hlen:((xs.drop k).take len).length=len:=by rw[List.length_take,List.length_drop]; omega
   refine .inr ⟨⟨b,aV p,none⟩,cap,by rw[hlen],by rw[hlen]; exact hlc,by simp only[maxLen]; omega,fun i=>f (k+i),fun i hi=>?_⟩
   rw[hlen]at hi
   have hil:k+i<xs.length:=by omega
   obtain⟨g1,g2⟩:=hf (k+i) hil
   rw[List.getElem_take,List.getElem_drop]
   refine⟨Enc.sub (fun b hb=>.inl hb) _ _ g1,g2,fun j u hj=>⟨?_,fun hx=>?_⟩⟩
   ·have hjs:j<s':=by rw[←g2]; exact (List.getElem?_eq_some_iff.1 hj).1
    have:=eH (f:=f) (s:=s') n (fun i hi=>(hf i (by omega)).2) (k+i) j (by omega) hjs
    rw[eB,cell_of_row w b _ cur t (0,0) hh,←Array.getElem?_toList,hcur,hpq,←hA]
    have e1:A.length+k*s'+(i*s'+j)=A.length+((k+i)*s'+j):=by rw[Nat.add_mul]; omega
    have hl:(k+i)*s'+j<(cat f n).length:=by
     rw[cz n fun i hi=>(hf i (by omega)).2]
     have h1:(k+i+1)*s'≤n*s':=Nat.mul_le_mul_right s' (by omega)
     rw[Nat.add_mul (k+i) 1]at h1
     omega
    rw[e1,List.append_assoc,List.getElem?_append_right (by omega),Nat.add_sub_cancel_left,List.getElem?_append_left hl,this]
    exact hj
   ·obtain⟨h3,h4⟩:=h.x0 _ hx
    rcases h.high _ _ _ _ hrow hb with h5 | h5
    ·simp only at h3; omega
    ·exact h4 h5
  ·exact hd.elim
 | _=>intro d m _ hd; exact hd.elim
theorem ArgD.relD {X:Nat→Prop} {look:Nat→Option Row}:∀(v:AV) (d:D) (m:List Value),v.isD=true→ArgD look v d→Rel σ w X v false m→Enc w X d m:=by
 intro v
 induction v with
 | d x=>intro d m _ hd hm; exact hd _ _ _ hm
 | anil=>rintro d m _ rfl rfl; rfl
 | acons p q ihp ihq =>
  rintro d m g ⟨x,y,rfl,h1,h2⟩ ⟨c1,c2,rfl,h3,h4⟩
  simp only[AV.isD]at g
  cases hp:p.isD <;> simp[hp]at g
  exact⟨c1,c2,rfl,ihp _ _ hp h1 h3,ihq _ _ g h2 h4⟩
 | _=>intro d m g; simp[AV.isD]at g
theorem Rel.out {σ σ':aB} {X G:Nat→Prop} {f:Nat→Nat} (hσ:∀r,G r→σ' (f r)=σ r):∀(v:AV) (k:Bool) (cs:List Value),v.within G→Rel σ w X v k cs→Rel σ' w X (v.ren fun r=>some (f r)) k cs:=by
 have hagg:∀v:AV,(v.ren fun r=>some (f r)).isAgg=v.isAgg:=fun v=>by cases v <;> rfl
 intro v
 induction v with
 | acons p q ihp ihq =>
  rintro k cs ⟨g1,g2⟩ h
  cases k with
  | false =>
   obtain⟨c1,c2,rfl,h1,h2⟩:=h
   exact⟨c1,c2,rfl,ihp _ _ g1 h1,ihq _ _ g2 h2⟩
  | true =>
   obtain⟨u,us,rfl,h1,h2⟩:=h
   refine⟨u,us,rfl,?_,ihq _ _ g2 h2⟩
   rw[hagg]
   split at h1 <;> rename_i hag
   ·obtain⟨c,rfl,hc⟩:=h1
    rw[if_pos hag]
    exact⟨c,rfl,ihp _ _ g1 hc⟩
   ·rw[if_neg hag]
    exact ihp _ _ g1 h1
 | own r off len s cap =>
  intro k cs g h
  simp only[Rel,AV.ren,hσ r g]at h ⊢
  exact h
 | ptr r p =>
  intro k cs g h
  simp only[Rel,AV.ren,hσ r g]at h ⊢
  exact h
 | asl r p l m =>
  intro k cs g h
  simp only[Rel,AV.ren,hσ r g]at h ⊢
  exact h
 | mapr r =>
  intro k cs g h
  simp only[Rel,AV.ren,hσ r g]at h ⊢
  exact h
 | fn f p q ihp ihq =>
  rintro k cs ⟨g1,g2⟩ ⟨vs,us,rfl,h1,h2⟩
  exact⟨vs,us,rfl,ihp _ _ g1 h1,ihq _ _ g2 h2⟩
 | tup q ih =>
  rintro k cs g ⟨vs,rfl,h1⟩
  exact⟨vs,rfl,ih _ _ g h1⟩
 | _=>intro k cs _ h; exact h
theorem AV.out_flat (f:Nat→Nat) (v:AV):(v.ren fun r=>some (f r)).flat=v.flat:=by
 induction v with
 | acons p q ihp ihq=>simp only[AV.ren,AV.flat,ihp,ihq]
 | _=>rfl
theorem AV.out_agg (f:Nat→Nat) (v:AV):(v.ren fun r=>some (f r)).isAgg=v.isAgg:=by cases v <;> rfl
theorem AV.within.out {G G':Nat→Prop} {f:Nat→Nat} (hG:∀r,G r→G' (f r)):∀(v:AV),v.within G→(v.ren fun r=>some (f r)).within G':=by
 intro v
 induction v with
 | acons p q ihp ihq=>rintro⟨g1,g2⟩; exact⟨ihp g1,ihq g2⟩
 | own r=>exact hG _
 | ptr r=>exact hG _
 | asl r=>exact hG _
 | mapr r=>exact hG _
 | fn f p q ihp ihq=>rintro⟨g1,g2⟩; exact⟨ihp g1,ihq g2⟩
 | tup q ih=>exact ih
 | _=>exact fun _=>trivial
theorem bx.out {σ σ':aB} {X G:Nat→Prop} {f:Nat→Nat} {r:Nat} (hσ:∀r,G r→σ' (f r)=σ r) {row:Row} (hr:G r) (hw:row.within G) (h:bx σ w X r row):bx σ' w X (f r) (row.ren fun r=>some (f r)):=by
 cases row with
 | box t v =>
  obtain⟨hf,b,cs,h1,h2,h3⟩:=h
  exact⟨by rw[AV.out_flat]; exact hf,b,cs,(hσ r hr).trans h1,h2,Rel.out hσ v _ _ hw h3⟩
 | ds t s ex enc xs =>
  simp only[bx,Row.ren,hσ r hr]at h ⊢
  exact h
 | lits t s k ex v =>
  obtain⟨hf,h⟩:=h
  refine⟨by rw[AV.out_flat]; exact hf,?_⟩
  rcases h with ⟨h1,h2⟩ | ⟨b,c,cur,cs,h1,h0,h2,h3,h4,h5,h6,h7,h8⟩
  ·exact .inl ⟨(hσ r hr).trans h1,h2⟩
  ·exact .inr ⟨b,c,cur,cs,(hσ r hr).trans h1,h0,h2,h3,h4,h5,h6,Rel.out hσ v _ _ hw h7,h8⟩
 | mo v =>
  obtain⟨b,es,h0,h1,h2,h3⟩:=h
  exact⟨b,es,h0,(hσ r hr).trans h1,h2,Rel.out hσ v _ _ hw h3⟩
 | si s pos =>
  obtain⟨b,h1,h2⟩:=h
  exact⟨b,(hσ r hr).trans h1,h2⟩
 | mq p =>
  obtain⟨b,es,h0,h1,h2,h3⟩:=h
  exact⟨b,es,h0,(hσ r hr).trans h1,h2,h3⟩
 | lo S=>exact⟨(hσ r hr).trans h.1,h.2⟩
 | mi v since last seen =>
  obtain⟨b,m,h1,h2,h3⟩:=h
  exact⟨b,m,(hσ r hr).trans h1,h2,Rel.out hσ v _ _ hw h3⟩
theorem Row.within.out {G G':Nat→Prop} {f:Nat→Nat} (hG:∀r,G r→G' (f r)) {row:Row} (h:row.within G):(row.ren fun r=>some (f r)).within G':=by
 cases row with
 | box t v=>exact AV.within.out hG v h
 | ds=>trivial
 | lits t s k ex v=>exact AV.within.out hG v h
 | mo v=>exact AV.within.out hG v h
 | si=>trivial
 | mq=>trivial
 | lo=>trivial
 | mi v=>exact AV.within.out hG v h
theorem ew:∀(l:List (Nat×Row)) (r:Nat),(lk (aw l) r).bind id=lk l r
 | [],r=>rfl
 | (j,row)::l,r=>by
  have ih:=ew l r
  simp only[aw,aN]
  split
  ·rfl
  ·exact ih
theorem lD {l:bC} {n:Nat}:∀(rows:List (Nat×Row)) (r:Nat) (x:Option Row),lk (jd l n rows) r=some x→∃k row0,lk rows k=some row0∧r=bG l n k∧x=some (row0.ren (eb l n))
 | [],r,x,h=>by simp[jd,lk]at h
 | (j,row)::rows,r,x,h=>by
  simp only[jd,aN]at h
  split at h
  ·rename_i e
   simp only[Option.some.injEq]at h
   exact⟨j,row,by simp[aN],e.symm,h.symm⟩
  ·rename_i e
   obtain⟨k,row0,h1,h2,h3⟩:=lD rows r x h
   refine⟨k,row0,?_,h2,h3⟩
   rw[aN,if_neg (fun e'=>e (by rw[e',h2]))]
   exact h1
theorem jZ {l:bC} {n:Nat}:∀(rows:List (Nat×Row)) (r:Nat) (x:Option Row),lk (fw l n rows) r=some x→x=none
 | [],r,x,h=>by simp[fw,lk]at h
 | (j,row)::rows,r,x,h=>by
  simp only[fw,aN]at h
  split at h
  ·simp only[Option.some.injEq]at h; exact h.symm
  ·exact jZ rows r x h
theorem fG {l:bC} {n:Nat}:∀(rows:List (Nat×Row)) (r:Nat),lk (fw l n rows) r=none→∀k row,lk rows k=some row→r≠bG l n k
 | [],r,_,k,row,h=>by simp[lk]at h
 | (j,row0)::rows,r,hn,k,row,h=>by
  simp only[fw,aN]at hn
  split at hn
  ·cases hn
  ·rename_i e
   simp only[aN]at h
   split at h
   ·rename_i e'; subst e'; exact fun e2=>e e2.symm
   ·exact fG rows r hn k row h
theorem RowsIn.out {look:Nat→Option Row} {l:bC}:∀(h0:List (Nat×Row)),RowsIn look l h0→∀r row,lk h0 r=some row→r<64∧row.lt 64=true∧∃k x,rho l r=some k∧look k=some x∧aM x (row.ren (rho l))
 | [],_,r,row,h=>by simp[lk]at h
 | (j,u)::rows,h,r,row,hi=>by
  simp only[aN]at hi
  split at hi
  ·rename_i e
   subst e
   simp only[Option.some.injEq]at hi
   subst hi
   exact⟨Nat.le_of_ble_eq_true h.1.1,h.1.2⟩
  ·exact RowsIn.out rows h.2 r row hi
end
end Go.Eng
namespace Go.Eng
open Go.RowKit
section
variable {P : Program} {C : Ctx} {w w' : World} {G : Nat → Prop} {st : St} {σ : aB} {a : Act}
def b6 (σ1:aB) (h0:List (Nat×Row)) (b:Nat):Prop:=∃r row c,lk h0 r=some row∧σ1 r=some (b,c)
theorem ng:∀(avs:List AV) (k i:Nat) (v:AV),lk (eg k avs) i=some v→∃j,i=k+j∧avs[j]?=some v
 | [],k,i,v,h=>by simp[eg,lk]at h
 | x::avs,k,i,v,h=>by
  simp only[eg,aN]at h
  split at h
  ·rename_i e
   simp only[Option.some.injEq]at h
   exact⟨0,by omega,by simp[h]⟩
  ·obtain⟨j,h1,h2⟩:=ng avs (k+1) i v h
   exact⟨j+1,by omega,by simpa using h2⟩
theorem aA.enter (h:aA C G st σ w a) {l:bC} {bs9 avs:List AV} {us:List Value} {h0:List (Nat×Row)} (X1:Nat→Prop)
  (hl:bs9.length=us.length) (hv:∀(i:Nat) (v:AV) (u:Value),bs9[i]?=some v→us[i]?=some u→RelV σ w (st.X C.X0 σ) v u) (hg:∀v∈bs9,v.within G)
  (ha:bU st.row (rho l) bs9 avs) (hr:RowsIn st.row l h0) (hi:ey (rho l) (aU h0)=true)
  (hX:∀b,X1 b→b<w.heap.size∧¬b6 (σ.via (rho l)) h0 b) (hsub:∀b,X1 b→st.X C.X0 σ b)
  (hm:bY bs9 avs=true∨h0=[] ∧ ∀b,X1 b↔C.X0 b) :
  aA { B:=w.heap.size,w0:=w,X0:=X1,M:=b6 (σ.via (rho l)) h0,bs:=64,σ0:=σ.via (rho l) } (fun r=>r<64) (inSt avs h0) (σ.via (rho l)) w ⟨us.toArray,[]⟩:=by
 have hrow:∀r,(inSt avs h0).row r=lk h0 r:=fun r=>ew h0 r
 have hXc:∀b,(inSt avs h0).X X1 (σ.via (rho l)) b→st.X C.X0 σ b:=by
  rintro b (hx | ⟨r,row,c,h1,h2⟩)
  ·exact hsub b hx
  ·rw[hrow]at h1
   obtain⟨_,_,k,x,hk,hx,_⟩:=RowsIn.out h0 hr r row h1
   simp only[aB.via,hk]at h2
   exact .inr ⟨k,x,c,hx,h2⟩
 have hkk:∀(a:Addr) (u:Value),w.cell? a=some u→¬st.X C.X0 σ a.block→Kp w w a u∧¬(inSt avs h0).X X1 (σ.via (rho l)) a.block:=fun _ _ h1 h2=>⟨.rfl' h1,fun hx=>h2 (hXc _ hx)⟩
 have hargs:∀(bs9 avs:List AV) (us:List Value),bs9.length=us.length→(∀(i:Nat) (v:AV) (u:Value),bs9[i]?=some v→us[i]?=some u→RelV σ w (st.X C.X0 σ) v u)→(∀v∈bs9,v.within G) →
   bU st.row (rho l) bs9 avs→(bY bs9 avs=true∨h0=[] ∧ ∀b,X1 b↔C.X0 b)→avs.length=bs9.length∧∀(j:Nat) (v:AV),avs[j]?=some v→v.lt 64=true∧∃u,us[j]?=some u∧RelV (σ.via (rho l)) w ((inSt avs h0).X X1 (σ.via (rho l))) v u:=by
  intro bs9
  induction bs9 with
  | nil =>
   intro avs us hl _ _ ha _
   obtain rfl:avs=[]:=ha
   exact⟨rfl,fun j v h=>by simp at h⟩
  | cons x bs9 ih =>
   intro avs us hl hv hg ha hm
   obtain⟨y,ys,rfl,⟨hf,hy64⟩,h1,h2⟩:=ha
   match us,hl with
   | u::us,hl =>
    have hu:=hv 0 x u rfl rfl
    have hm':bY bs9 ys=true∨h0=[] ∧ ∀b,X1 b↔C.X0 b:=by
     rcases hm with hm | hm
     ·left
      cases y with
      | d z =>
       simp only[bY]at hm
       cases hx:x.isD <;> simp[hx]at hm
       exact hm
      | _=>exact hm
     ·exact .inr hm
    obtain⟨ih1,ih2⟩:=ih ys us (by simpa using hl) (fun i v u h1 h2=>hv (i+1) v u (by simpa using h1) (by simpa using h2)) (fun v hv=>hg v (by simp[hv])) h2 hm'
    refine⟨by simp[ih1],fun j v hj=>?_⟩
    cases j with
    | zero =>
     simp only[List.getElem?_cons_zero,Option.some.injEq]at hj
     subst hj
     refine⟨hy64,u,rfl,?_⟩
     cases y with
     | d z =>
      obtain⟨hag,hz⟩:=h1
      have hc:=hu.cells hf
      have he:Enc w ((inSt (.d z::ys) h0).X X1 (σ.via (rho l))) z u.cells.toList:=by
       rcases hm with hm | ⟨rfl,hXX⟩
       ·simp only[bY]at hm
        cases hx:x.isD <;> simp[hx]at hm
        refine Enc.sub ?_ z _ (ArgD.relD x z _ hx hz hc)
        rintro b (hb | ⟨r,row,c,h3,h4⟩)
        ·exact hsub b hb
        ·have h3:lk h0 r=some row:=(ew h0 r).symm.trans h3
         obtain⟨_,_,k,x,hk,hx,_⟩:=RowsIn.out h0 hr r row h3
         simp only[aB.via,hk]at h4
         exact .inr ⟨k,x,c,hx,h4⟩
       ·refine Enc.sub ?_ z _ (ArgD.rel h x z _ (hg x (by simp)) hz hc)
        rintro b (hb | ⟨r,row,c,h3,h4⟩)
        ·exact (hXX b).1 hb
        ·simp[inSt,aw,St.row,lk]at h3
      unfold RelV at hu ⊢
      by_cases hagx:x.isAgg=true
      ·rw[if_pos hagx]at hu
       obtain⟨c,rfl,_⟩:=hu
       rw[if_pos (show (AV.d z).isAgg=true from hag.trans hagx)]
       exact⟨c,rfl,he⟩
      ·rw[if_neg hagx]at hu
       rw[if_neg (show ¬(AV.d z).isAgg=true from fun e=>hagx (hag.symm.trans e))]
       have hone:=Rel.one _ _ hf hu u (by simp)
       have:u.cells = #[u]:=by cases u <;> first | rfl | simp[Value.oneCell']at hone
       rw[this]at he
       exact he
     | _ =>
      refine RelV.mono (G:=fun _=>True) (fun _ _=>rfl) (fun a v h3 h4=>⟨.rfl' h3,fun hx=>h4 ?_⟩) (AV.within_all _) (RelV.ren (h1 σ w _ u hu))
      rcases hx with hb | ⟨r,row,c,h5,h6⟩
      ·exact hsub _ hb
      ·have h5:lk h0 r=some row:=(ew h0 r).symm.trans h5
       obtain⟨_,_,k,x,hk,hx,_⟩:=RowsIn.out h0 hr r row h5
       simp only[aB.via,hk]at h6
       exact .inr ⟨k,x,c,hx,h6⟩
    | succ j =>
     obtain⟨h3,u',h4,h5⟩:=ih2 j v (by simpa using hj)
     exact⟨h3,u',by simpa using h4,h5⟩
 obtain⟨hlen,hall⟩:=hargs bs9 avs us hl hv hg ha hm
 refine⟨?_,?_,?_,?_,?_,?_,Nat.le_refl _,fA.refl _ _ _,trivial,?_,hX,fun _ _=>rfl,fun _ hr=>hr,rfl,fun _ h=>(by cases h),fun x hx=>?_⟩
 ·intro i v hi
  obtain⟨j,rfl,h2⟩:=ng avs 0 i v hi
  obtain⟨_,u,h3,h4⟩:=hall j v h2
  exact⟨u,by simpa using h3,h4⟩
 ·intro i v hi
  obtain⟨j,rfl,h2⟩:=ng avs 0 i v hi
  exact AV.lt_within v (hall j v h2).1
 ·intro r row h1
  rw[hrow]at h1
  obtain⟨_,_,k,x,hk,hx,hle⟩:=RowsIn.out h0 hr r row h1
  exact bx.mono (G:=fun _=>True) (fun _ _=>rfl) hkk (Nat.le_refl _) trivial (Row.within_all row) (fun _ _ _=>rfl) (bx.ren hk (hle σ w _ k (h.rows k x hx)))
 ·intro r row h1
  rw[hrow]at h1
  obtain⟨h2,h3,_⟩:=RowsIn.out h0 hr r row h1
  exact⟨h2,Row.lt_within row h3⟩
 ·intro r r' row row' b c c' h1 h2 h3 h4
  rw[hrow]at h1 h2
  obtain⟨_,_,k,x,hk,hx,_⟩:=RowsIn.out h0 hr r row h1
  obtain⟨_,_,k',x',hk',hx',_⟩:=RowsIn.out h0 hr r' row' h2
  simp only[aB.via,hk,hk']at h3 h4
  have:=h.inj _ _ _ _ _ _ _ hx hx' h3 h4
  subst this
  exact kA _ hi r r' k (jg _ _ _ h1) (jg _ _ _ h2) hk hk'
 ·intro r row b c h1 h2
  rw[hrow]at h1
  exact .inr ⟨r,row,c,h1,h2⟩
 ·simp[inSt,hlen,hl]
 ·obtain⟨g1,g2,g3⟩:=h.glob x hx
  refine⟨?_,Nat.lt_of_lt_of_le g2 h.size,?_⟩
  ·show x.2 (w.heap[x.1]?)
   rw[h.below.block _ g2 g3]
   exact g1
  ·rintro⟨r,row,c,h1,h2⟩
   obtain⟨_,_,k,y,hk,hy,_⟩:=RowsIn.out h0 hr r row h1
   simp only[aB.via,hk]at h2
   rcases h.high k y _ _ hy h2 with h3 | h3
   ·omega
   ·exact g3 h3
def ga (l:bC) (h0:List (Nat×Row)):Bool:=match l with
 | []=>true
 | (r,k)::l=>bif (aU h0).any (fun j=>Nat.beq j r) then ga l h0 else false
theorem lF {h0:List (Nat×Row)}:∀(l:bC),ga l h0=true→∀r,r ∉ aU h0→rho l r=some r
 | [],_,r,_=>rfl
 | (j,k)::l,h,r,hr=>by
  simp only[ga]at h
  cases hj:(aU h0).any (fun i=>Nat.beq i j) <;> simp only[hj,cond_true,cond_false]at h
  ·cases h
  rw[List.any_eq_true]at hj
  obtain⟨x,hx,he⟩:=hj
  have:=Nat.eq_of_beq_eq_true he
  subst this
  simp only[rho]
  cases hb:Nat.beq x r with
  | true=>have:=Nat.eq_of_beq_eq_true hb; subst this; exact absurd hx hr
  | false=>exact lF l h r hr
theorem rZ {β:Type 1}:∀(l:List (Nat×β)) (r:Nat),r∈aU l→∃v,lk l r=some v
 | [],r,h=>by simp[aU]at h
 | (j,u)::l,r,h=>by
  simp only[aN]
  by_cases e:j=r
  ·rw[if_pos e]; exact⟨u,rfl⟩
  ·rw[if_neg e]
   refine rZ l r ?_
   simp only[aU,List.mem_cons]at h
   rcases h with h | h
   ·exact absurd h.symm e
   ·exact h
theorem aA.leave (h:aA C G st σ w a) {l:bC} {h0 rows:List (Nat×Row)} {res:AV} {n:Nat} (hn:∀r,n≤r→r<n+8→¬G r) (hb64:st.bs=64) {X1:Nat→Prop} {σ2:aB} {v:Value}
  (hr:RowsIn st.row l h0) (hkeys:ga l h0=true) (hX1:(∀b,st.X C.X0 σ b→¬b6 (σ.via (rho l)) h0 b→X1 b)∨cr res rows)
  (h2:aA { B:=w.heap.size,w0:=w,X0:=X1,M:=b6 (σ.via (rho l)) h0,bs:=64,σ0:=σ.via (rho l) } (fun r=>r<72) (dm res rows) σ2 w' ⟨#[v],[]⟩) :
  ∃σ',aA C (fun r=>G r∨n≤r∧r<n+8) (st.upd (bA l n h0 rows)) σ' w' a∧RelV σ' w' ((st.upd (bA l n h0 rows)).X C.X0 σ') (res.ren (eb l n)) v ∧
   (res.ren (eb l n)).within (fun r=>G r∨n≤r∧r<n+8):=by
 have hbs:C.bs=64:=h.bs.symm.trans hb64
 have hn64:64≤n:=by
  rcases Nat.lt_or_ge n 64 with hlt | hge
  ·exact absurd (h.baseG n (by omega)) (hn n (Nat.le_refl _) (by omega))
  ·exact hge
 let σ':aB:=fun r=>if n≤r∧r<n+8 then σ2 (64+(r-n)) else σ r
 have hσG:∀r,G r→σ' r=σ r:=fun r hg=>by
  show (if n≤r∧r<n+8 then σ2 (64+(r-n)) else σ r)=σ r
  rw[if_neg (fun e=>hn r e.1 e.2 hg)]
 have hlow:∀k,k<64→∃k',rho l k=some k'∧G k':=by
  intro k hk
  by_cases hkk:k∈aU h0
  ·obtain⟨row,hrow⟩:=rZ h0 k hkk
   obtain⟨_,_,k',x,h3,h4,_⟩:=RowsIn.out h0 hr k row hrow
   exact⟨k',h3,(h.rowsG k' x h4).1⟩
  ·exact⟨k,lF l hkeys k hkk,h.baseG k (by omega)⟩
 have hout:∀k,k<72→σ' (bG l n k)=σ2 k∧(G (bG l n k)∨n≤bG l n k∧bG l n k<n+8):=by
  intro k hk
  rcases Nat.lt_or_ge k 64 with hlt | hge
  ·obtain⟨k',h3,h4⟩:=hlow k hlt
   have e:bG l n k=k':=by
    have:Nat.blt k 64=true:=Nat.ble_eq_true_of_le hlt
    simp only[bG,this,cond_true,h3]
   rw[e]
   refine⟨?_,.inl h4⟩
   rw[hσG k' h4,h2.agree k hlt]
   simp only[aB.via,h3]
  ·have e:bG l n k=n+(k-64):=by
    have:Nat.blt k 64=false:=by
     cases hb:Nat.blt k 64 with
     | false=>rfl
     | true=>have:=Nat.le_of_ble_eq_true hb; omega
    simp only[bG,this,cond_false]
   rw[e]
   refine⟨?_,.inr ⟨by omega,by omega⟩⟩
   show (if n≤n+(k-64)∧n+(k-64)<n+8 then σ2 (64+(n+(k-64)-n)) else _)=_
   rw[if_pos ⟨by omega,by omega⟩]
   congr 1; omega
 have hres0:∀r,(dm res rows).row r=lk rows r:=fun r=>ew rows r
 have hrow:∀r row,(st.upd (bA l n h0 rows)).row r=some row→(∃k row0,lk rows k=some row0∧r=bG l n k∧row=row0.ren (eb l n))∨(st.row r=some row∧∀k row0,lk h0 k=some row0→r≠bG l n k):=by
  intro r row h1
  simp only[St.row,St.upd,bA,dX]at h1
  cases hc:lk (jd l n rows) r with
  | some x =>
   simp only[hc,Option.bind_some,id]at h1
   subst h1
   obtain⟨k,row0,h3,h4,h5⟩:=lD rows r _ hc
   simp only[Option.some.injEq]at h5
   exact .inl ⟨k,row0,h3,h4,h5⟩
  | none =>
   simp only[hc]at h1
   cases hd:lk (fw l n h0) r with
   | some x =>
    simp only[hd,Option.bind_some,id]at h1
    rw[jZ h0 r x hd]at h1
    cases h1
   | none =>
    simp only[hd]at h1
    exact .inr ⟨h1,fun k row0 hk=>fG h0 r hd k row0 hk⟩
 have hMX:∀b,b6 (σ.via (rho l)) h0 b→∃k k' row0 x c,lk h0 k=some row0∧bG l n k=k'∧st.row k'=some x∧σ k'=some (b,c):=by
  rintro b ⟨k,row0,c,h3,h4⟩
  obtain⟨hk64,_,k',x,h5,h6,_⟩:=RowsIn.out h0 hr k row0 h3
  simp only[aB.via,h5]at h4
  refine⟨k,k',row0,x,c,h3,?_,h6,h4⟩
  have:Nat.blt k 64=true:=Nat.ble_eq_true_of_le hk64
  simp only[bG,this,cond_true,h5]
 have hkept:∀r row b c,st.row r=some row→(∀k row0,lk h0 k=some row0→r≠bG l n k)→σ r=some (b,c)→¬b6 (σ.via (rho l)) h0 b:=by
  intro r row b c h3 h4 h5 hM
  obtain⟨k,k',row0,x,c',h6,h7,h8,h9⟩:=hMX b hM
  exact h4 k row0 h6 ((h.inj _ _ _ _ _ _ _ h3 h8 h5 h9).trans h7.symm)
 have hXnew:∀b,(st.upd (bA l n h0 rows)).X C.X0 σ' b→(st.X C.X0 σ b∧¬b6 (σ.via (rho l)) h0 b)∨∃k row0 c,(dm res rows).row k=some row0∧σ2 k=some (b,c):=by
  rintro b (hx | ⟨r,row,c,h1,h3⟩)
  ·refine .inl ⟨.inl hx,fun hM=>?_⟩
   obtain⟨k,k',row0,x,c',_,_,h8,h9⟩:=hMX b hM
   obtain⟨h10,h11⟩:=h.x0 b hx
   rcases h.high _ _ _ _ h8 h9 with h12 | h12
   ·omega
   ·exact h11 h12
  ·rcases hrow r row h1 with ⟨k,row0,h4,rfl,rfl⟩ | ⟨h4,h5⟩
   ·have h6:(dm res rows).row k=some row0:=(hres0 k).trans h4
    rw[(hout k (h2.rowsG k row0 h6).1).1]at h3
    exact .inr ⟨k,row0,c,h6,h3⟩
   ·rw[hσG r (h.rowsG r row h4).1]at h3
    exact .inl ⟨.inr ⟨r,row,c,h4,h3⟩,hkept r row b c h4 h5 h3⟩
 have hlt:∀b,st.X C.X0 σ b→b<w.heap.size:=by
  rintro b (hx | ⟨r,row,c,h3,h4⟩)
  ·have:=(h.x0 b hx).1; have:=h.size; omega
  ·exact h.lt h3 h4
 have hkeep:∀b,b<w.heap.size→¬b6 (σ.via (rho l)) h0 b→w'.heap[b]?=w.heap[b]?:=fun b h3 h4=>h2.below.block b h3 h4
 have hk1:∀(a:Addr) (u:Value),w.cell? a=some u→¬st.X C.X0 σ a.block→Kp w w' a u∧¬(st.upd (bA l n h0 rows)).X C.X0 σ' a.block:=by
  intro ad u h3 h4
  have hl:=World.block_lt_of_cell? w ad h3
  have hnM:¬b6 (σ.via (rho l)) h0 ad.block:=fun hM=>by
   obtain⟨k,k',row0,x,c',_,_,h8,h9⟩:=hMX _ hM
   exact h4 (.inr ⟨k',x,c',h8,h9⟩)
  refine⟨.of_block (hkeep _ hl hnM) h3,fun hx=>?_⟩
  rcases hXnew _ hx with hx | ⟨k,row0,c,h5,h6⟩
  ·exact h4 hx.1
  ·rcases h2.high k row0 _ c h5 h6 with h7 | h7
   ·simp only at h7; omega
   ·exact hnM h7
 have hsub:(∀b,st.X C.X0 σ b→¬b6 (σ.via (rho l)) h0 b→X1 b)→∀b,(st.upd (bA l n h0 rows)).X C.X0 σ' b→(dm res rows).X X1 σ2 b:=fun hX b hx=>by
  rcases hXnew b hx with ⟨h3,h4⟩ | ⟨k,row0,c,h3,h4⟩
  ·exact .inl (hX b h3 h4)
  ·exact .inr ⟨k,row0,c,h3,h4⟩
 obtain⟨v',hv1,hv2⟩:=h2.env 0 res rfl
 have hv':v'=v:=by simpa using hv1.symm
 subst hv'
 have hresG:=h2.envG 0 res rfl
 have hres:RelV σ2 w' ((st.upd (bA l n h0 rows)).X C.X0 σ') res v':=by
  rcases hX1 with hX | hpl
  ·exact RelV.mono (G:=fun r=>r<72) (fun _ _=>rfl) (fun _ _ h3 h4=>⟨.rfl' h3,fun hx=>h4 (hsub hX _ hx)⟩) hresG hv2
  ·exact (hpl σ2 w' _ _).1 v' hv2
 have hrows':∀k row0,(dm res rows).row k=some row0→bx σ2 w' ((st.upd (bA l n h0 rows)).X C.X0 σ') k row0:=by
  intro k row0 h3
  have h4:=h2.rows k row0 h3
  rcases hX1 with hX | hpl
  ·exact bx.mono (G:=fun r=>r<72) (fun _ _=>rfl) (fun _ _ h5 h6=>⟨.rfl' h5,fun hx=>h6 (hsub hX _ hx)⟩) (Nat.le_refl _) (h2.rowsG k row0 h3).1 (h2.rowsG k row0 h3).2 (fun _ _ _=>rfl) h4
  ·rw[hres0]at h3
   exact (hpl σ2 w' _ _).2 k row0 h3 h4
 have hG72:∀k,k<72→(fun r=>G r∨n≤r∧r<n+8) (bG l n k):=fun k hk=>(hout k hk).2
 refine⟨σ',h.core (fun r hr=>.inl hr) hσG hk1 rfl rfl rfl ?_ ?_ ?_ (by have h9:w.heap.size≤w'.heap.size:=h2.below.size; have:=h.size; omega) ?_,?_,?_⟩
 ·intro r row h1
  rcases hrow r row h1 with ⟨k,row0,h3,rfl,rfl⟩ | ⟨h3,h4⟩
  ·have h5:(dm res rows).row k=some row0:=(hres0 k).trans h3
   have hg:=h2.rowsG k row0 h5
   exact .inr ⟨hG72 k hg.1,Row.within.out (G:=fun r=>r<72) hG72 hg.2,bx.out (G:=fun r=>r<72) (fun r hr=>(hout r hr).1) hg.1 hg.2 (hrows' k row0 h5)⟩
  ·exact .inl ⟨h3,fun b c h5=>hkeep b (h.lt h3 h5) (hkept r row b c h3 h4 h5)⟩
 ·intro r r' row row' b c c' h1 h3 h5 h6
  rcases hrow r row h1 with ⟨k,row0,h7,rfl,rfl⟩ | ⟨h7,h8⟩ <;> rcases hrow r' row' h3 with ⟨k',row0',h9,rfl,rfl⟩ | ⟨h9,h10⟩
  ·have e1:(dm res rows).row k=some row0:=(hres0 k).trans h7
   have e2:(dm res rows).row k'=some row0':=(hres0 k').trans h9
   rw[(hout k (h2.rowsG k row0 e1).1).1]at h5
   rw[(hout k' (h2.rowsG k' row0' e2).1).1]at h6
   rw[h2.inj _ _ _ _ _ _ _ e1 e2 h5 h6]
  ·have e1:(dm res rows).row k=some row0:=(hres0 k).trans h7
   rw[(hout k (h2.rowsG k row0 e1).1).1]at h5
   rw[hσG r' (h.rowsG r' row' h9).1]at h6
   exfalso
   rcases h2.high _ _ _ _ e1 h5 with h11 | h11
   ·have:=h.lt h9 h6; simp only at h11; omega
   ·exact hkept _ _ _ _ h9 h10 h6 h11
  ·have e2:(dm res rows).row k'=some row0':=(hres0 k').trans h9
   rw[(hout k' (h2.rowsG k' row0' e2).1).1]at h6
   rw[hσG r (h.rowsG r row h7).1]at h5
   exfalso
   rcases h2.high _ _ _ _ e2 h6 with h11 | h11
   ·have:=h.lt h7 h5; simp only at h11; omega
   ·exact hkept _ _ _ _ h7 h8 h5 h11
  ·rw[hσG r (h.rowsG r row h7).1]at h5
   rw[hσG r' (h.rowsG r' row' h9).1]at h6
   exact h.inj _ _ _ _ _ _ _ h7 h9 h5 h6
 ·intro r row b c h1 h3
  rcases hrow r row h1 with ⟨k,row0,h7,rfl,rfl⟩ | ⟨h7,h8⟩
  ·have e1:(dm res rows).row k=some row0:=(hres0 k).trans h7
   rw[(hout k (h2.rowsG k row0 e1).1).1]at h3
   rcases h2.high _ _ _ _ e1 h3 with h11 | h11
   ·simp only at h11; have:=h.size; exact .inl (by omega)
   ·obtain⟨_,k',_,x,c',_,_,h8,h9⟩:=hMX b h11
    exact h.high _ _ _ _ h8 h9
  ·rw[hσG r (h.rowsG r row h7).1]at h3
   exact h.high _ _ _ _ h7 h3
 ·have hb:=h2.below
  refine⟨hb.os,hb.tape,hb.output,hb.size,fun k hk hm=>hb.block k (show k<w.heap.size by have:=h.size; omega) (fun hM=>?_),hb.book⟩
  obtain⟨_,k',_,x,c',_,_,h8,h9⟩:=hMX k hM
  rcases h.high _ _ _ _ h8 h9 with h12 | h12
  ·omega
  ·exact hm h12
 ·unfold RelV at hres ⊢
  rw[show (res.ren (eb l n)).isAgg=res.isAgg from AV.out_agg _ _]
  split at hres <;> rename_i hag
  ·obtain⟨c,rfl,hc⟩:=hres
   rw[if_pos hag]
   exact⟨c,rfl,Rel.out (G:=fun r=>r<72) (fun r hr=>(hout r hr).1) res _ _ hresG hc⟩
  ·rw[if_neg hag]
   exact Rel.out (G:=fun r=>r<72) (fun r hr=>(hout r hr).1) res _ _ hresG hres
 ·exact AV.within.out (G:=fun r=>r<72) hG72 res hresG
end
end Go.Eng
namespace Go.Eng
open Go.RowKit
section
variable {P : Program} {T : Tab} {C : Ctx} {w : World} {G : Nat → Prop} {st : St} {σ : aB} {a : Act} {o : Oper} {n : Nat} {K : Option AV → Upds → Prop}
theorem bn (hT:aj P T) {t:Nat} {d:TyD} (h:bh T t=some d):∃u,P.underlying t=some u∧sh P d u:=by
 obtain⟨r,hr,hd⟩:=fD h
 obtain⟨u,h1,h2⟩:=(hT t r hr).und
 exact⟨u,h1,hd ▸ h2⟩
theorem pK {x y:Nat} (h:Nat.beq x y=true):x=y:=Nat.eq_of_beq_eq_true h
theorem Cu (off:Nat) (m:Int):(bif Nat.beq off 0 then m.toNat else off+m.toNat)=off+m.toNat:=by
 cases h:Nat.beq off 0 with
 | true=>have:=pK h; subst this; simp
 | false=>rfl
theorem pC (h:aA C G st σ w a):∀(l:List Operand) (q:AV),opD.evs (ai st.env) l=some q→q.within G∧Rel σ w (st.X C.X0 σ) q true (l.map a.eval)
 | [],q,hq=>by
  simp only[opD.evs,Option.some.injEq]at hq
  subst hq
  exact⟨trivial,rfl⟩
 | x::l,q,hq=>by
  simp only[opD.evs]at hq
  split at hq
  ·rename_i v q' hv hl
   simp only[Option.some.injEq]at hq
   subst hq
   obtain⟨h1,h2⟩:=ak h hv
   obtain⟨h3,h4⟩:=pC h l q' hl
   exact⟨⟨h2,h3⟩,a.eval x,_,rfl,h1,h4⟩
  ·cases hq
theorem qU {X:Nat→Prop}:∀(i:Nat) (q v:AV) (vs:List Value),Rel σ w X q true vs→q.comp i=some v→∃u,vs[i]?=some u∧RelV σ w X v u
 | 0,.acons b r,v,vs,h,he=>by
  obtain⟨u,us,rfl,h1,_⟩:=h
  simp only[AV.comp,Option.some.injEq]at he
  subst he
  exact⟨u,rfl,h1⟩
 | i+1,.acons b r,v,vs,h,he=>by
  obtain⟨u,us,rfl,_,h2⟩:=h
  obtain⟨u',h3,h4⟩:=qU i r v us h2 he
  exact⟨u',by simpa using h3,h4⟩
 | i,.d y,v,vs,_,he=>by cases i <;> simp[AV.comp]at he
 | i,.anil,v,vs,_,he=>by cases i <;> simp[AV.comp]at he
 | i,.own .., v,vs,_,he=>by cases i <;> simp[AV.comp]at he
 | i,.ptr .., v,vs,_,he=>by cases i <;> simp[AV.comp]at he
 | i,.asl .., v,vs,_,he=>by cases i <;> simp[AV.comp]at he
 | i,.mapr .., v,vs,_,he=>by cases i <;> simp[AV.comp]at he
 | i,.iptr .., v,vs,_,he=>by cases i <;> simp[AV.comp]at he
 | i,.empty,v,vs,_,he=>by cases i <;> simp[AV.comp]at he
 | i,.fn .., v,vs,_,he=>by cases i <;> simp[AV.comp]at he
 | i,.tup .., v,vs,_,he=>by cases i <;> simp[AV.comp]at he
 | i,.dead,v,vs,_,he=>by cases i <;> simp[AV.comp]at he
 | i,.er,v,vs,_,he=>by cases i <;> simp[AV.comp]at he
 | i,.sl _,v,vs,_,he=>by cases i <;> simp[AV.comp]at he
theorem nD:∀(i:Nat) (q v:AV),q.within G→q.comp i=some v→v.within G
 | 0,.acons b r,v,h,he=>by simp only[AV.comp,Option.some.injEq]at he; subst he; exact h.1
 | i+1,.acons b r,v,h,he=>nD i r v h.2 he
 | i,.d y,v,_,he=>by cases i <;> simp[AV.comp]at he
 | i,.anil,v,_,he=>by cases i <;> simp[AV.comp]at he
 | i,.own .., v,_,he=>by cases i <;> simp[AV.comp]at he
 | i,.ptr .., v,_,he=>by cases i <;> simp[AV.comp]at he
 | i,.asl .., v,_,he=>by cases i <;> simp[AV.comp]at he
 | i,.mapr .., v,_,he=>by cases i <;> simp[AV.comp]at he
 | i,.iptr .., v,_,he=>by cases i <;> simp[AV.comp]at he
 | i,.empty,v,_,he=>by cases i <;> simp[AV.comp]at he
 | i,.fn .., v,_,he=>by cases i <;> simp[AV.comp]at he
 | i,.tup .., v,_,he=>by cases i <;> simp[AV.comp]at he
 | i,.dead,v,_,he=>by cases i <;> simp[AV.comp]at he
 | i,.er,v,_,he=>by cases i <;> simp[AV.comp]at he
 | i,.sl _,v,_,he=>by cases i <;> simp[AV.comp]at he
theorem xA (hT:aj P T) (h:aA C G st σ w a) (hd:∀d,o.dst=some d→d<st.sz) (hn:∀r,n≤r→r<n+8→¬G r)
  (hop:opD T o.op (ai st.env) st.row n K):cu P C G st n o a w K:=by
 cases ho:o.op
 all_goals (rw[ho]at hop; simp only[opD]at hop)
 case move x=>split at hop <;> first | exact hop.elim | exact o6 h hd (.inl ho) ‹_› hop
 case assign x=>split at hop <;> first | exact hop.elim | exact o6 h hd (.inr ho) ‹_› hop
 case pick c x y =>
  split at hop <;> try exact hop.elim
  rename_i b hb
  obtain⟨hb1,_⟩:=RelV.sc.1 (ak h hb).1
  have hop:=hop.at
  split at hop <;> try exact hop.elim
  rename_i v hv
  obtain⟨h1,h2⟩:=ak h hv
  refine .quiet h hd hop ?_ h1 h2
  simp only[execOp,ho,hb1,asBool,Sem.run_bind,Sem.run_pure,Result.andThen_ok]
  cases b <;> rfl
 case alloc t =>
  split at hop <;> try exact hop.elim
  exact tZ hT h hd (hn n (Nat.le_refl _) (by omega)) ho ‹_› hop
 case box t x =>
  split at hop <;> try exact hop.elim
  obtain⟨h1,h2⟩:=hop.out
  exact yf h hd (hn n (Nat.le_refl _) (by omega)) ho ‹_› h1 h2
 case load t x =>
  split at hop <;> try exact hop.elim
  ·split at hop <;> try exact hop.elim
   obtain⟨v,h1,h2⟩:=hop
   obtain⟨h2,h3⟩:=h2.out
   exact u7 hT h hd ho ‹_› ‹_› h1 h2 h3
  ·obtain⟨h1,h2⟩:=hop.out
   exact tf hT h hd ho ‹_› h1 h2
 case store t x y =>
  split at hop <;> try exact hop.elim
  split at hop <;> try exact hop.elim
  obtain⟨row',h1,h2⟩:=hop
  obtain⟨h2,h3⟩:=h2.out
  exact sC hT h hd ho ‹_› ‹_› ‹_› h1 h2 h3
 case nilCheck x =>
  split at hop <;> try exact hop.elim
  ·rename_i r p hx
   obtain⟨h1,h2⟩:=ak h hx
   obtain⟨b,c,hb,hu⟩:=RelV.ptr.1 h1
   refine .quiet h hd hop ?_ h1 h2
   simp[execOp,ho,hu]
  ·rename_i d hx
   obtain⟨h1,h2⟩:=ak h hx
   obtain⟨ad,c,hu,_⟩:=RelV.iptr.1 h1
   refine .quiet h hd hop ?_ h1 h2
   simp[execOp,ho,hu]
  ·rename_i f p q hx
   obtain⟨h1,h2⟩:=ak h hx
   have hu:∃vs us:List Value,a.eval x=.func (.func f) vs.toArray us.toArray:=by
    unfold RelV at h1
    simp only[AV.isAgg]at h1
    obtain⟨vs,us,he,_⟩:=h1
    exact⟨vs,us,by simpa using he⟩
   obtain⟨vs,us,hu⟩:=hu
   refine .quiet h hd hop ?_ h1 h2
   simp[execOp,ho,hu]
 case fieldAddr s x f =>
  split at hop <;> try exact hop.elim
  ·split at hop <;> try exact hop.elim
   exact nK hT h hd ho ‹_› ‹_› ‹_› hop
  ·split at hop <;> try exact hop.elim
   split at hop <;> try exact hop.elim
   exact mW hT h hd ho ‹_› ‹_› ‹_› ‹_› hop
 case field s x f =>
  split at hop <;> try exact hop.elim
  split at hop <;> try exact hop.elim
  split at hop <;> try exact hop.elim
  obtain⟨h1,h2⟩:=hop.out
  obtain⟨h2,h3⟩:=h2.out
  exact tK hT h hd ho ‹_› ‹_› ‹_› h1 ‹_› h2 h3
 case indexAddr t x i =>
  split at hop <;> try exact hop.elim
  ·split at hop <;> try exact hop.elim
   obtain⟨h1,h2,h3,h4⟩:=hop.out
   rw[Cu]at h4
   exact pm hT h hd ho ‹_› ‹_› (pK h1) ‹_› ‹_› h2 h3 h4
  ·split at hop <;> try exact hop.elim
   obtain⟨h1,h2,e,h3,h4⟩:=hop.out
   exact pn hT h hd ho ‹_› ‹_› (pK h1) ‹_› ‹_› h2 h3 h4
  ·split at hop <;> try exact hop.elim
   obtain⟨h1,h2,h3⟩:=hop
   exact pk hT h hd ho ‹_› ‹_› ‹_› ‹_› h1 h2 h3
  ·split at hop <;> try exact hop.elim
   obtain⟨h1,h2,z,h3,h4⟩:=hop
   exact nJ hT h hd ho ‹_› ‹_› ‹_› ‹_› h1 h2 h3 h4
 case index t x i =>
  split at hop <;> try exact hop.elim
  ·obtain⟨h1,b,h2,h3⟩:=hop
   obtain⟨u,hu,hdu⟩:=bn hT ‹bh T t=some TyD.string›
   cases hdu
   exact pj h hd ho hu ‹_› ‹_› h1 h2 h3
  ·split at hop <;> try exact hop.elim
   obtain⟨h0,h1,h2,z,h3,h4⟩:=hop.out
   obtain⟨h4,h5⟩:=h4.out
   exact pi hT h hd ho ‹_› ‹_› ‹_› h0 ‹_› h1 h2 h3 h4 h5
 case binOp op xt x y yt =>
  split at hop <;> try exact hop.elim
  ·obtain⟨h1,h2⟩:=hop.out
   have:=Az h1
   subst this
   exact xO h hd ho ‹_› ‹_› h2
  ·split at hop <;> try exact hop.elim
   ·obtain⟨u,hu,hdu⟩:=bn hT ‹bh T xt=some TyD.bool›
    cases hdu
    exact mx h hd ho (.inl rfl) hu ‹_› ‹_› hop
   ·obtain⟨u,hu,hdu⟩:=bn hT ‹bh T xt=some TyD.bool›
    cases hdu
    exact mx h hd ho (.inr rfl) hu ‹_› ‹_› hop
 case unOp op t x =>
  split at hop <;> try exact hop.elim
  ·exact uo h hd ho ‹_› hop
  ·obtain⟨m,h1,h2⟩:=hop
   exact xG h hd ho ‹_› h1 h2
 case convert s t x =>
  split at hop <;> try exact hop.elim
  rename_i k' p k d hx hk hs
  obtain⟨m,h1,h2⟩:=hop
  obtain⟨us,hus,_⟩:=bn hT hs
  have ht:bh T t=some (.int k):=by
   unfold yq at hk
   split at hk <;> simp_all
  obtain⟨u,hu,hdu⟩:=bn hT ht
  cases hdu
  exact vx h hd ho hu (by rw[hus]; rfl) hx h1 h2
 case extract x i =>
  split at hop <;> try exact hop.elim
  split at hop <;> try exact hop.elim
  rename_i q hx _ v hv
  obtain⟨h1,h2⟩:=ak h hx
  have hu:∃vs:List Value,a.eval x=.tuple vs.toArray∧Rel σ w (st.X C.X0 σ) q true vs:=by
   unfold RelV at h1
   simp only[AV.isAgg]at h1
   obtain⟨vs,he,hr⟩:=h1
   exact⟨vs,by simpa using he,hr⟩
  obtain⟨vs,hu,hr⟩:=hu
  obtain⟨u,h3,h4⟩:=qU i q v vs hr hv
  refine .quiet h hd hop ?_ h4 (nD i q v h2 hv)
  simp[execOp,ho,hu,Instr.extract,h3]
 case makeFunc f p q =>
  split at hop <;> try exact hop.elim
  rename_i p' q' hp hq
  obtain⟨h1,h2⟩:=pC h _ _ hp
  obtain⟨h3,h4⟩:=pC h _ _ hq
  refine .quiet (u :=.func f (p.map a.eval) (q.map a.eval)) h hd hop ?_ ?_ ⟨h1,h3⟩
  ·simp[execOp,ho,Instr.makeFunc]
  ·unfold RelV
   simp only[AV.isAgg]
   refine⟨_,_,?_,h2,h4⟩
   simp only[List.cons.injEq,Value.func.injEq,true_and,and_true]
   exact⟨Array.ext' (by simp),Array.ext' (by simp)⟩
 all_goals exact hop.elim
end
end Go.Eng
namespace Go.Eng
open Go.RowKit
abbrev Env:=List (Nat×AV)
def aQ (h:Upds) (r:Nat):Option Row:=match lk h r with
 | some (some row)=>some row
 | _=>none
theorem ba (st:St) (r:Nat):aQ st.heap r=st.row r:=by
 simp only[aQ,St.row]
 cases lk st.heap r with
 | none=>rfl
 | some x=>cases x <;> rfl
structure fY (env:Env) (h:Upds) (st:St):Prop where
 env:∀i v,lk env i=some v→lk st.env i=some v
 row:∀r row,aQ h r=some row→st.row r=some row
abbrev fen (ro:Option Nat):Fence := { Fence.wide with round:=ro }
theorem j6 {P:Program} {ro:Option Nat} {f:FuncId} {args:Array Value} {w:World} {R:Ending→World→Prop} (h:Calls P f args w R):CallsIn (fen ro) 0 P f args w R:=(callsIn_wide (n:=0)).2 h
theorem io {P:Program} {ro:Option Nat} {ρ:Operand→Value} {o:Oper} {w w':World} {nx:Next} (hr:(execOp ρ o).run P w=.ok nx w') (hd:∀c,o.op ≠ .defer c):(o.semAt (fen ro).round ρ).run P w=.ok nx w':=by
 rw[Oper.semAt_eq _ _ _ hd]
 exact hr
def ab (P:Program) (op:Op) (env:Env) (h:Upds) (n:Nat) (v:Option AV) (u:Upds):Prop :=
 ∀(C:Ctx) (G:Nat→Prop) (st:St) (σ:aB) (w:World) (a:Act) (o:Oper),o.op=op→fY env h st→(∀d,o.dst=some d→d<st.sz)→aA C G st σ w a →
  (∀r,n≤r→r<n+8→¬G r)→st.bs=64→∀(next:Act→World→Prop) (Q:Exit→Act→World→Prop),
   (∀x w' σ' G',aA C G' (st.put o.dst v u) σ' w' (a.put o.dst x)→(∀r,G r→G' r)→(∀r,G' r→G r∨n≤r∧r<n+8)→next (a.put o.dst x) w')→o.wpIn (fen C.ro) 0 P a w next Q
section
variable {P : Program} {T : Tab} {C : Ctx} {w : World} {G : Nat → Prop} {st : St} {σ : aB} {a : Act} {o : Oper} {n : Nat} {env : Env} {h : Upds}
theorem fY.ev {st:St} (hA:fY env h st) {x:Operand} {v:AV} (hv:ai env x=some v):ai st.env x=some v:=by
 cases x with
 | tmp t=>exact hA.env t v hv
 | _=>exact hv
theorem ab.of_comes {op:Op} {v:Option AV} {u:Upds}
  (hs:∀(C:Ctx) (G:Nat→Prop) (st:St) (σ:aB) (w:World) (a:Act) (o:Oper),o.op=op→fY env h st→(∀d,o.dst=some d→d<st.sz)→aA C G st σ w a →
   (∀r,n≤r→r<n+8→¬G r)→cu P C G st n o a w (fun v' u'=>v'=v∧u'=u)):ab P op env h n v u:=by
 intro C G st σ w a o ho hA hd hst hn _ next Q hnext
 obtain⟨v',u',nx,x,w',σ',G',⟨rfl,rfl⟩,hr,hx,hst',h1,h2⟩:=hs C G st σ w a o ho hA hd hst hn
 have hdef:∀c,o.op ≠ .defer c:=fun c hc=>by
  have:∃d w2,(execOp a.eval o).run P w=.ok (.defer d) w2∨∀y w3,(execOp a.eval o).run P w ≠ .ok y w3:=by
   simp only[execOp,hc,Sem.run_bind,Sem.run_pure]
   cases (resolve a.eval c o.type).run P w with
   | ok d w2=>exact⟨d,w2,.inl rfl⟩
   | _=>exact⟨{ target :=.collected 0,args := #[] },w,.inr fun y w3=>by simp[Result.andThen]⟩
  obtain⟨d,w2,h1 | h1⟩:=this
  ·rw[hr]at h1
   rcases hx with rfl | ⟨rfl,_⟩ <;> cases h1
  ·exact h1 _ _ hr
 refine⟨fun _ _=>trivial,?_⟩
 rw[io hr hdef]
 rcases hx with rfl | ⟨rfl,rfl⟩
 ·exact hnext x w' σ' G' hst' h1 h2
 ·exact hnext undef w' σ' G' hst' h1 h2
theorem mX {ev ev':Operand→Option AV} (he:∀x v,ev x=some v→ev' x=some v):∀(l:List Operand) (q:AV),opD.evs ev l=some q→opD.evs ev' l=some q
 | [],q,hq=>hq
 | x::l,q,hq=>by
  simp only[opD.evs]at hq ⊢
  split at hq
  ·rename_i v q' h1 h2
   rw[he _ _ h1,mX he l q' h2]
   exact hq
  ·cases hq
theorem Br.mono {b:Bool} {p q:Bool→Prop} (hk:∀x,p x→q x) (h:Br b p):Br b q:=by
 have:=h.at
 cases b
 ·exact Br.f (hk _ this)
 ·exact Br.t (hk _ this)
theorem xB {op:Op} {ev ev':Operand→Option AV} {look look':Nat→Option Row} {K:Option AV→Upds→Prop} (he:∀x v,ev x=some v→ev' x=some v) (hl:∀r row,look r=some row→look' r=some row)
    (h:opD T op ev look n K):opD T op ev' look' n K:=by
  cases op <;> simp only[opD]at h ⊢
  case pick =>
    split at h <;> try exact h.elim
    rename_i h1
    simp only[he _ _ h1]
    refine h.mono fun x hx=>?_
    split at hx <;> try exact hx.elim
    rename_i h2
    rw[he _ _ h2]
    exact hx
  case load =>
    split at h <;> try exact h.elim
    · rename_i h1
      simp only[he _ _ h1]
      split at h <;> try exact h.elim
      rename_i h2
      rw[hl _ _ h2]
      exact h
    · rename_i h1
      simp only[he _ _ h1]
      exact h
  case store =>
    split at h <;> try exact h.elim
    rename_i h1 h2
    simp only[he _ _ h1,he _ _ h2]
    split at h <;> try exact h.elim
    rename_i h3
    rw[hl _ _ h3]
    exact h
  case makeFunc =>
    split at h <;> try exact h.elim
    rename_i h1 h2
    rw[mX he _ _ h1,mX he _ _ h2]
    exact h
  case binOp =>
    split at h <;> try exact h.elim
    · rename_i h1 h2
      simp only[he _ _ h1,he _ _ h2]
      exact h
    · rename_i h1 h2
      simp only[he _ _ h1,he _ _ h2]
      exact h
  case indexAddr | index =>
    split at h <;> try exact h.elim
    all_goals
      rename_i h0 h1 h2
      simp only[h0,he _ _ h1,he _ _ h2]
      exact h
  case unOp =>
    split at h <;> try exact h.elim
    all_goals
      rename_i h1
      simp only[he _ _ h1]
      exact h
  case convert =>
    split at h <;> try exact h.elim
    rename_i h1 h2 h3
    simp only[he _ _ h1,h2,h3]
    exact h
  case fieldAddr | field =>
    split at h <;> try exact h.elim
    all_goals
      rename_i h1 h2
      simp only[h1,he _ _ h2]
      exact h
  case alloc=>exact h
  all_goals first
    | exact h.elim
    | (split at h <;> try exact h.elim
       all_goals
         rename_i h1
         simp only[he _ _ h1]
         exact h)
theorem ab.of_opD (hT:aj P T) {op:Op} {v:Option AV} {u:Upds} (hop:∀K:Option AV→Upds→Prop,K v u→opD T op (ai env) (aQ h) n K):ab P op env h n v u :=
 .of_comes fun C G st σ w a o ho hA hd hst hn =>
  xA hT hst hd hn (by rw[ho]; exact xB (fun x v=>hA.ev) hA.row (hop (fun v' u'=>v'=v∧u'=u) ⟨rfl,rfl⟩))
def bw:AV→List AV
 | .acons a r=>a::bw r
 | _=>[]
def AV.chain:AV→Bool
 | .anil=>true
 | .acons _ r=>r.chain
 | _=>false
def evL (ev:Operand→Option AV):List Operand→Option (List AV)
 | []=>some []
 | x::l=>match ev x,evL ev l with
  | some v,some q=>some (v::q)
  | _,_=>none
theorem kH {ev ev':Operand→Option AV} (he:∀x v,ev x=some v→ev' x=some v):∀(l:List Operand) (q:List AV),evL ev l=some q→evL ev' l=some q
 | [],q,hq=>hq
 | x::l,q,hq=>by
  simp only[evL]at hq ⊢
  split at hq
  ·rename_i v q' h1 h2
   rw[he _ _ h1,kH he l q' h2]
   exact hq
  ·cases hq
theorem mh (h:aA C G st σ w a):∀(l:List Operand) (vs:List AV),evL (ai st.env) l=some vs→vs.length=l.length∧(∀v∈vs,v.within G) ∧
  ∀(i:Nat) (v:AV) (u:Value),vs[i]?=some v→(l.map a.eval)[i]?=some u→RelV σ w (st.X C.X0 σ) v u
 | [],vs,hv=>by
  simp only[evL,Option.some.injEq]at hv
  subst hv
  exact⟨rfl,by simp,by simp⟩
 | x::l,vs,hv=>by
  simp only[evL]at hv
  split at hv
  ·rename_i v q h1 h2
   simp only[Option.some.injEq]at hv
   subst hv
   obtain⟨h3,h4⟩:=ak h h1
   obtain⟨h5,h6,h7⟩:=mh h l q h2
   refine⟨by simp[h5],by simpa using⟨h4,h6⟩,fun i v' u hi hu=>?_⟩
   cases i with
   | zero=>simp at hi hu; subst hi; subst hu; exact h3
   | succ i=>exact h7 i v' u (by simpa using hi) (by simpa using hu)
  ·cases hv
theorem fH {X:Nat→Prop}:∀(q:AV) (vs:List Value),q.chain=true→Rel σ w X q true vs→q.within G→(bw q).length=vs.length∧(∀v∈bw q,v.within G) ∧
  ∀(i:Nat) (v:AV) (u:Value),(bw q)[i]?=some v→vs[i]?=some u→RelV σ w X v u:=by
 intro q
 induction q with
 | anil=>rintro vs _ rfl _; exact⟨rfl,by simp[bw],by simp[bw]⟩
 | acons b r _ ihr =>
  rintro vs hc ⟨u,us,rfl,h1,h2⟩ ⟨g1,g2⟩
  obtain⟨h3,h4,h5⟩:=ihr us hc h2 g2
  refine⟨by simp[bw,h3],by simpa[bw] using⟨g1,h4⟩,fun i v u' hi hu=>?_⟩
  cases i with
  | zero=>simp[bw]at hi hu; subst hi; subst hu; exact h1
  | succ i=>exact h5 i v u' (by simpa[bw]using hi) (by simpa using hu)
 | _=>intro vs hc; simp[AV.chain]at hc
theorem gI {X:Nat→Prop} (l m:List AV) (vs us:List Value) (h1:l.length=vs.length) (h2:∀(i:Nat) (v:AV) (u:Value),l[i]?=some v→vs[i]?=some u→RelV σ w X v u)
  (h3:∀(i:Nat) (v:AV) (u:Value),m[i]?=some v→us[i]?=some u→RelV σ w X v u):∀(i:Nat) (v:AV) (u:Value),(l++m)[i]?=some v→(vs++us)[i]?=some u→RelV σ w X v u:=by
 intro i v u hi hu
 rcases Nat.lt_or_ge i l.length with hlt | hge
 ·rw[List.getElem?_append_left hlt]at hi
  rw[List.getElem?_append_left (by omega)]at hu
  exact h2 i v u hi hu
 ·rw[List.getElem?_append_right hge]at hi
  rw[List.getElem?_append_right (by omega)]at hu
  exact h3 _ v u hi (by rw[h1]; exact hu)
theorem iZ {f : FuncId} (h : ∃ fn, P.funcs[f]? = some fn ∧ (fn.name == "runtime.NumGoroutine") = false ∧ fn.body.isNone = false) (args : Array Value) (w : World) :
  (callFunc f args).run P w=.ok (.enter f args) w:=by
 obtain⟨fn,h1,h2,h3⟩:=h
 simp only[callFunc,Sem.run_bind,program,Sem.run,Result.andThen_ok,h1,h2,h3,Bool.false_eq_true,if_false,Sem.run_pure]
theorem ArgD.agree {look look':Nat→Option Row} (hl:∀r row,look r=some row→look' r=some row):∀(a:AV) (d:D),ArgD look a d→ArgD look' a d:=by
 intro a
 induction a with
 | acons p q ihp ihq=>rintro d ⟨x,y,rfl,h1,h2⟩; exact⟨x,y,rfl,ihp _ h1,ihq _ h2⟩
 | own r off len s cap =>
  intro d h
  simp only[ArgD]at h ⊢
  split at h
  ·rename_i h1; rw[hl _ _ h1]; exact h
  ·exact h.elim
 | asl r p len cap =>
  intro d h
  simp only[ArgD]at h ⊢
  split at h
  ·rename_i h1; rw[hl _ _ h1]; exact h
  ·exact h.elim
 | _=>intro d h; exact h
theorem bU.agree {look look':Nat→Option Row} {ρ:Nat→Option Nat} (hl:∀r row,look r=some row→look' r=some row):∀(bs9 avs:List AV),bU look ρ bs9 avs→bU look' ρ bs9 avs
 | [],_,h=>h
 | a::bs9,_,h=>by
  obtain⟨x,xs,rfl,h1,h2,h3⟩:=h
  refine⟨x,xs,rfl,h1,?_,bU.agree hl bs9 xs h3⟩
  cases x <;> first | exact⟨h2.1,ArgD.agree hl _ _ h2.2⟩ | exact h2
theorem RowsIn.agree {look look':Nat→Option Row} {l:bC} (hl:∀r row,look r=some row→look' r=some row):∀(h0:List (Nat×Row)),RowsIn look l h0→RowsIn look' l h0
 | [],h=>h
 | (r,row)::rows,h=>by
  obtain⟨⟨h1,h2,k,x,h3,h4,h5⟩,h6⟩:=h
  exact⟨⟨h1,h2,k,x,h3,hl _ _ h4,h5⟩,RowsIn.agree hl rows h6⟩
theorem ab.call {f:Operand} {args:Array Operand} {ts:Array TypeId} {g:FuncId} {first caps:AV} {bs9 avs:List AV} {h0 rows:List (Nat×Row)} {res:AV} (l:bC)
  (hfn:FnIs P g avs h0 res rows) (hf:ai env f=some (.fn (.func g) first caps)) (hl:evL (ai env) args.toList=some bs9) (hc1:first.chain=true) (hc2:caps.chain=true)
  (ha:bU (aQ h) (rho l) (bw first++(bs9++bw caps)) avs) (hr:RowsIn (aQ h) l h0) (hi:ey (rho l) (aU h0)=true) (hk:ga l h0=true)
  (hm:bY (bw first++(bs9++bw caps)) avs=true∨h0=[]∧cr res rows) :
  ab P (.call { callee :=.value f,args:=args,argTypes:=ts }) env h n (some (res.ren (eb l n))) (bA l n h0 rows):=by
 intro C G st σ w a o ho hA hd hst hn hbs next Q hnext
 have hf:=hA.ev hf
 have hl':=kH (ev':=ai st.env) (fun x v=>hA.ev) _ _ hl
 have ha:=bU.agree hA.row _ _ ha
 have hr:=RowsIn.agree hA.row _ hr
 obtain⟨h1,h2⟩:=ak hst hf
 obtain⟨vs,us,hu,hr1,hr2⟩:∃vs us:List Value,a.eval f=.func (.func g) vs.toArray us.toArray∧Rel σ w (st.X C.X0 σ) first true vs∧Rel σ w (st.X C.X0 σ) caps true us:=by
  unfold RelV at h1
  simp only[AV.isAgg]at h1
  obtain⟨vs,us,he,h3,h4⟩:=h1
  exact⟨vs,us,by simpa using he,h3,h4⟩
 obtain⟨l1,l2,l3⟩:=fH first vs hc1 hr1 h2.1
 obtain⟨m1,m2,m3⟩:=fH caps us hc2 hr2 h2.2
 obtain⟨e1,e2,e3⟩:=mh hst _ bs9 hl'
 have hrel:=gI (bw first) (bs9++bw caps) vs (args.toList.map a.eval++us) l1 l3 (gI bs9 (bw caps) (args.toList.map a.eval) us (by simpa using e1) e3 m3)
 have hg:∀v∈bw first++(bs9++bw caps),v.within G:=fun v hv=>by
  rcases List.mem_append.1 hv with hv | hv
  ·exact l2 v hv
  ·rcases List.mem_append.1 hv with hv | hv
   ·exact e2 v hv
   ·exact m2 v hv
 have hrun:(execOp a.eval o).run P w=.ok (.enter g (vs++(args.toList.map a.eval++us)).toArray) w:=by
  have harr:vs.toArray++args.map a.eval++us.toArray=(vs++(args.toList.map a.eval++us)).toArray:=Array.ext' (by simp)
  simp only[execOp,ho,resolve,hu,Deferred.ofValue,Sem.run_bind,Sem.run_pure,Result.andThen_ok,invoke,iZ hfn.1,harr]
 refine⟨fun _ _=>trivial,?_⟩
 rw[io hrun (fun c hc=>by rw[ho]at hc; cases hc),Oper.uponIn_enter]
 refine⟨fun h=>(by cases h),j6 ?_⟩
 have fin:∀(X1:Nat→Prop),(∀b,X1 b→b<w.heap.size∧¬b6 (σ.via (rho l)) h0 b)→(∀b,X1 b→st.X C.X0 σ b)→(bY (bw first++(bs9++bw caps)) avs=true∨h0=[] ∧ ∀b,X1 b↔C.X0 b) →
   ((∀b,st.X C.X0 σ b→¬b6 (σ.via (rho l)) h0 b→X1 b)∨cr res rows)→Calls P g (vs++(args.toList.map a.eval++us)).toArray w fun
   | .returned v,w''=>next (a.put o.dst v) w''
   | .panicked chain,w''=>Q (.panic chain) a w''
   | .outgrown,_=>LetsOut Q:=by
  intro X1 hX hsub hm' hX1
  have hent:=hst.enter X1 (by simp at e1 ⊢; omega) hrel hg ha hr hi hX hsub hm'
  refine (hfn.2 _ _ w _ rfl rfl rfl rfl rfl hent).mono ?_
  rintro e w' ⟨v,σ2,rfl,h2⟩
  obtain⟨σ',h5,h6,h7⟩:=hst.leave hn hbs hr hk hX1 h2
  exact hnext v w' σ' _ (by rw[St.put_upd]; exact h5.set hd h6 h7) (fun r hr=>.inl hr) (fun r hr=>hr)
 have hXlt:∀b,st.X C.X0 σ b→b<w.heap.size:=by
  rintro b (hx | ⟨r,row,c,h3,h4⟩)
  ·have:=(hst.x0 b hx).1; have:=hst.size; omega
  ·exact hst.lt h3 h4
 rcases hm with hm | ⟨rfl,hpl⟩
 ·exact fin (fun b=>st.X C.X0 σ b∧¬b6 (σ.via (rho l)) h0 b) (fun b hb=>⟨hXlt b hb.1,hb.2⟩) (fun b hb=>hb.1) (.inl hm) (.inl fun b h1 h2=>⟨h1,h2⟩)
 ·exact fin C.X0 (fun b hb=>⟨hXlt b (.inl hb),fun⟨r,row,c,h3,_⟩=>by simp[lk]at h3⟩) (fun b hb=>.inl hb) (.inr ⟨rfl,fun _=>Iff.rfl⟩) (.inr hpl)
end
end Go.Eng
namespace Go.Eng
open Go.RowKit
section
variable {F : Fence} {n : Nat} {P : Program} {Q : Exit → Act → World → Prop} {a : Act} {w : World} {b : Frame} {k : List Item} {cs : List Frame}
end
def Lift (C:Ctx) (Q:Exit→St→Prop) (e:Exit) (a:Act) (w:World):Prop :=
 ∃st σ,Q e st∧aA C (fun r=>r<st.next) st σ w a
def Sat (P:Program) (c:Code) (Q:Exit→St→Prop) (st:St):Prop :=
 ∀(C:Ctx) (σ:aB) (w:World) (a:Act),aA C (fun r=>r<st.next) st σ w a→c.wpIn (fen C.ro) 0 P (Lift C Q) a w
def WC (P:Program) (sz:Nat) (c:Code) (Q:Exit→St→Prop) (env:Env) (h:Upds) (n:Nat):Prop:=Sat P c Q ⟨env,h,n,sz,64⟩
theorem Lift.mono {C:Ctx} {Q Q':Exit→St→Prop} (hq:∀e st,Q e st→Q' e st) {e:Exit} {a:Act} {w:World} (h:Lift C Q e a w):Lift C Q' e a w:=by
 obtain⟨st,σ,h1,h2⟩:=h
 exact⟨st,σ,hq e st h1,h2⟩
section
variable {P : Program} {T : Tab} {sz n : Nat} {Q : Exit → St → Prop} {env : Env} {h : Upds} {st st' : St}
theorem Sat.mono {c:Code} {Q':Exit→St→Prop} (hq:∀e st',Q e st'→Q' e st') (h:Sat P c Q st):Sat P c Q' st :=
 fun C σ w a hst=>wpIn_mono (h C σ w a hst) fun _ _ _ h=>h.mono hq
theorem Sat.le {c:Code} (l:bC) (hl:Le l st st') (h:Sat P c Q st'):Sat P c Q st :=
 fun C _ w a hst=>h C _ w a (hst.le hl)
theorem gM {c:Code} {env':Env} {h':Upds} (n':Nat) (l:bC) (hl:Le l ⟨env,h,n,sz,64⟩ ⟨env',h',n',sz,64⟩) (hw:WC P sz c Q env' h' n'):WC P sz c Q env h n:=Sat.le l hl hw
def SeqQ (P:Program) (b:Code) (Q:Exit→St→Prop) (e:Exit) (st:St):Prop:=match e with
 | .normal=>Sat P b Q st
 | e=>Q e st
theorem li {x y:Code} (h1:WC P sz x (SeqQ P y Q) env h n):WC P sz (.seq x y) Q env h n:=by
 intro C σ w a hst
 refine wpIn_seq (wpIn_mono (h1 C σ w a hst) ?_)
 rintro e a' w' ⟨st',σ',h1,h2⟩
 cases e with
 | normal=>exact h1 C σ' w' a' h2
 | _=>exact⟨st',σ',h1,h2⟩
theorem vT {b:Code} (h1:WC P sz b Q env h n):SeqQ P b Q .normal ⟨env,h,n,sz,64⟩:=h1
theorem E8 {b:Code} (h1:Q .ret st):SeqQ P b Q .ret st:=h1
theorem CD {b:Code} {i:Nat} (h1:Q (.exit i) st):SeqQ P b Q (.exit i) st:=h1
theorem vK (h1:Q .normal ⟨env,h,n,sz,64⟩):WC P sz .skip Q env h n:=fun _ σ _ _ hst=>wpIn_skip ⟨_,σ,h1,hst⟩
theorem vL {i:Nat} (h1:Q (.exit i) ⟨env,h,n,sz,64⟩):WC P sz (.exit i) Q env h n:=fun _ σ _ _ hst=>wpIn_exit ⟨_,σ,h1,hst⟩
theorem yn (h1:Q .ret ⟨env,h,n,sz,64⟩):WC P sz .ret Q env h n:=fun _ σ _ _ hst=>wpIn_ret ⟨_,σ,h1,hst⟩
theorem eW {c:Operand} {x y:Code} {b:Bool} (hc:ai env c=some (.bool b)) (h1:b=true→WC P sz x Q env h n) (h2:b=false→WC P sz y Q env h n):WC P sz (.cond c x y) Q env h n:=by
 intro C σ w a hst
 obtain⟨h3,_⟩:=RelV.sc.1 (ak hst hc).1
 refine wpIn_cond h3 ?_
 cases b with
 | true=>exact h1 rfl C σ w a hst
 | false=>exact h2 rfl C σ w a hst
theorem nM {c:Operand} {x y:Code} {b:Bool} (hc:ai env c=some (.bool b)) (hb:b=true) (h1:WC P sz x Q env h n):WC P sz (.cond c x y) Q env h n :=
 eW hc (fun _=>h1) (fun e=>by rw[hb]at e; cases e)
theorem lL {c:Operand} {x y:Code} {b:Bool} (hc:ai env c=some (.bool b)) (hb:b=false) (h1:WC P sz y Q env h n):WC P sz (.cond c x y) Q env h n :=
 eW hc (fun e=>by rw[hb]at e; cases e) (fun _=>h1)
def BlkQ (id:Nat) (Q:Exit→St→Prop) (e:Exit) (st:St):Prop:=match e with
 | .exit i=>if i=id then Q .normal st else Q (.exit i) st
 | e=>Q e st
theorem ow {id:Nat} {c:Code} (h1:WC P sz c (BlkQ id Q) env h n):WC P sz (.block id c) Q env h n:=by
 intro C σ w a hst
 refine wpIn_block (wpIn_mono (h1 C σ w a hst) ?_)
 rintro e a' w' ⟨st',σ',h1,h2⟩
 cases e with
 | exit i =>
  simp only[Exit.inBlock]
  simp only[BlkQ]at h1
  by_cases hi:i=id
  ·rw[if_pos hi]at h1 ⊢
   exact⟨st',σ',h1,h2⟩
  ·rw[if_neg hi]at h1 ⊢
   exact⟨st',σ',h1,h2⟩
 | _=>exact⟨st',σ',h1,h2⟩
theorem Fu {id:Nat} (h1:Q .normal st):BlkQ id Q .normal st:=h1
theorem Ft {id:Nat} (h1:Q .ret st):BlkQ id Q .ret st:=h1
theorem CS {id:Nat} (h1:Q .normal st):BlkQ id Q (.exit id) st:=show (if id=id then Q .normal st else Q (.exit id) st) from (if_pos rfl).symm ▸ h1
theorem CR {id i:Nat} (hi:Nat.beq i id=false) (h1:Q (.exit i) st):BlkQ id Q (.exit i) st:=by simp only[BlkQ]; rw[if_neg (Nat.ne_of_beq_eq_false hi)]; exact h1
def ScoQ (Q:Exit→St→Prop) (e:Exit) (st:St):Prop:=match e with
 | .goto _=>False
 | e=>Q e st
def SatN (P:Program) (c:Code) (Q:Exit→St→Prop) (n:Nat) (st:St):Prop :=
 ∀(C:Ctx) (σ:aB) (w:World) (a:Act),aA C (fun r=>r<st.next) st σ w a→Code.roundsIn (fen C.ro) 0 P c (Lift C Q) n a w
def LoopQ.{u} {α:Type u} (Q:Exit→St→Prop) (mk:α→St) (Inv:α→Prop) (μ:α→Nat) (a:α) (e:Exit) (st:St):Prop:=match e with
 | .normal=>∃a' l,Inv a'∧μ a'<μ a∧Le l st (mk a')
 | e=>Q e st
theorem wc_inv.{u} {α:Type u} {c:Code} (mk:α→St) (Inv:α→Prop) (μ:α→Nat) (a0:α) (l:bC) (h0:Inv a0)
  (hle:Le l ⟨env,h,n,sz,64⟩ (mk a0)) (step:∀a,Inv a→Sat P c (LoopQ Q mk Inv μ a) (mk a)):WC P sz (.loop c) Q env h n:=by
 have key:∀(m:Nat) (a:α),μ a≤m→Inv a→SatN P c Q (m+1) (mk a):=by
  intro m
  induction m with
  | zero =>
   intro a ha hi C σ w x hst
   rw[roundsIn_succ]
   refine wpIn_mono (step a hi C σ w x hst) ?_
   rintro e a' w' ⟨st',σ',h1,h2⟩
   cases e with
   | normal=>obtain⟨a',l',_,hlt,_⟩:=h1; omega
   | _=>exact⟨st',σ',h1,h2⟩
  | succ m ih =>
   intro a ha hi C σ w x hst
   rw[roundsIn_succ]
   refine wpIn_mono (step a hi C σ w x hst) ?_
   rintro e x' w' ⟨st',σ',h1,h2⟩
   cases e with
   | normal =>
    obtain⟨a',l',hi',hlt,hle'⟩:=h1
    exact ih a' (by omega) hi' C _ w' x' (h2.le hle')
   | _=>exact⟨st',σ',h1,h2⟩
 intro C σ w x hst
 exact wpIn_loop_rounds (μ a0+1) (key (μ a0) a0 (Nat.le_refl _) h0 C _ w x (hst.le hle))
section
universe u
variable {α : Type u} {mk : α → St} {Inv : α → Prop} {μ : α → Nat} {a : α}
theorem an (a':α) (l:bC) (h1:Inv a') (h2:μ a'<μ a) (h3:Le l st (mk a')):LoopQ Q mk Inv μ a .normal st:=⟨a',l,h1,h2,h3⟩
theorem Dd (h:Q .ret st):LoopQ Q mk Inv μ a .ret st:=h
theorem Aq {i:Nat} (h:Q (.exit i) st):LoopQ Q mk Inv μ a (.exit i) st:=h
end
theorem bt {c:Code} (h1:WC P sz c Q env h n):Sat P c Q ⟨env,h,n,sz,64⟩:=h1
def RegS (P:Program) (all:List Oper) (sz:Nat) (l:List Oper) (n:Nat) (env:Env) (h:Upds) (K:Env→Upds→Nat→Prop):Prop :=
 ∀(C:Ctx) (σ:aB) (w:World) (a:Act),aA C (fun r=>r<n) ⟨env,h,n,sz,64⟩ σ w a→∀(Q:Exit→Act→World→Prop),
  (∀env h n σ w a,K env h n→aA C (fun r=>r<n) ⟨env,h,n,sz,64⟩ σ w a→Q .normal a w)→wpListIn (fen C.ro) 0 P all.toArray Q l a w
def RegK (Q:Exit→St→Prop) (sz:Nat) (env:Env) (h:Upds) (n:Nat):Prop:=Q .normal ⟨env,h,n,sz,64⟩
theorem pX {id:Nat} {ops:Array Oper} (h1:RegS P ops.toList sz ops.toList n env h (RegK Q sz)):WC P sz (.region id ops false) Q env h n:=by
 intro C σ w a hst
 refine wpIn_region_list ?_
 have:=h1 C σ w a hst (Lift C Q) fun env h n σ w a hk hst=>⟨_,σ,hk,hst⟩
 simpa using this
variable {all l : List Oper} {K : Env → Upds → Nat → Prop}
theorem vZ (h1:K env h n):RegS P all sz [] n env h K:=fun _ σ w a hst _ hQ=>hQ env h n σ w a h1 hst
theorem vY (h1:Q .normal ⟨env,h,n,sz,64⟩):RegS P all sz [] n env h (RegK Q sz):=vZ h1
theorem aA.grow {C:Ctx} {G G':Nat→Prop} {st:St} {σ:aB} {w:World} {a:Act} (h:aA C G st σ w a) (hG:∀r,G r→G' r):aA C G' st σ w a :=
  { h with
    envG:=fun i v hi=>AV.within.mono hG v (h.envG i v hi)
    rowsG:=fun r row hi=>by
      obtain⟨h3,h4⟩:=h.rowsG r row hi
      refine⟨hG r h3,?_⟩
      cases row with
      | box t x=>exact AV.within.mono hG x h4
      | ds=>trivial
      | lits t s k ex x=>exact AV.within.mono hG x h4
      | mo x=>exact AV.within.mono hG x h4
      | si=>trivial
      | mq=>trivial
      | lo=>trivial
      | mi x=>exact AV.within.mono hG x h4
    baseG:=fun r hr=>hG r (h.baseG r hr) }
def ez (dst:Option Tmp) (sz:Nat):Bool:=match dst with
 | none=>true
 | some d=>Nat.blt d sz
theorem eG {dst:Option Tmp} {sz:Nat} (h:ez dst sz=true):∀d,dst=some d→d<sz:=by
 rintro d rfl
 exact Nat.le_of_ble_eq_true h
def putE (dst:Option Tmp) (v:Option AV) (env:Env):Env:=match dst with
 | none=>env
 | some d=>(d,v.getD .undef)::env
theorem lu {dst:Option Tmp} {v:Option AV} {u:Upds} {bs:Nat}:(⟨env,h,n,sz,bs⟩:St).put dst v u=⟨putE dst v env,u++h,n,sz,bs⟩:=by
 cases dst <;> cases v <;> rfl
theorem zw {o:Oper} {v:Option AV} {u:Upds} (hw:∀(C:Ctx) (σ:aB) (w:World) (a:Act),aA C (fun r=>r<n) ⟨env,h,n,sz,64⟩ σ w a→Region.wanted o (yielded all.toArray a.tmps)=true) (hd:ez o.dst sz=true) (hs:ab P o.op env h n v u)
  (h1:RegS P all sz l (n+8) (putE o.dst v env) (u++h) K):RegS P all sz (o::l) n env h K:=by
 intro C σ w a hst Q hQ
 unfold wpListIn
 rw[if_pos (hw C σ w a hst)]
 refine (hs C _ ⟨env,h,n,sz,64⟩ σ w a o rfl ⟨fun i v hi=>hi,fun r row hr=>by rw[←hr,←ba]⟩ (eG hd) hst (fun r h1 h2 h3=>Nat.not_lt.2 h1 h3) rfl _ _ ?_)
 intro x w' σ' G' hst' _ h2
 rw[lu]at hst'
 refine h1 C σ' w' _ ?_ Q hQ
 have:=hst'.grow (G':=fun r=>r<n+8) (fun r hr=>by rcases h2 r hr with hr | hr <;> (try simp only at hr) <;> omega)
 exact { this with }
theorem sO {o:Oper} (hw:∀(C:Ctx) (σ:aB) (w:World) (a:Act),aA C (fun r=>r<n) ⟨env,h,n,sz,64⟩ σ w a→Region.wanted o (yielded all.toArray a.tmps)=false) (hd:ez o.dst sz=true)
  (h1:RegS P all sz l (n+8) (putE o.dst none env) h K):RegS P all sz (o::l) n env h K:=by
 intro C σ w a hst Q hQ
 unfold wpListIn
 rw[if_neg (by rw[hw C σ w a hst]; exact fun e=>by cases e)]
 refine⟨fun _ _=>trivial,?_⟩
 refine h1 C σ w _ ?_ Q hQ
 have hst2:=hst.set (v:=none) (u:=undef) (dst:=o.dst) (eG hd) (eF _ _ _) trivial
 rw[lu]at hst2
 have:=hst2.grow (G':=fun r=>r<n+8) (fun r hr=>Nat.lt_of_lt_of_le hr (Nat.le_add_right n 8))
 exact { this with }
theorem gN {o:Oper} {j g:Nat} {want b:Bool} (hg:o.guard=some (j,want)) (hj:((all[j]?).bind (·.dst))=some g) (hb:lk env g=some (.bool b)) :
  ∀(C:Ctx) (σ:aB) (w:World) (a:Act) (G:Nat→Prop) (h:Upds) (n:Nat),aA C G ⟨env,h,n,sz,64⟩ σ w a→Region.wanted o (yielded all.toArray a.tmps)=(b==want):=by
 intro C σ w a G h n hst
 obtain⟨u,hu,hv⟩:=hst.env g _ hb
 obtain⟨rfl,_⟩:=RelV.sc.1 hv
 simp only[Region.wanted,hg,yielded,List.getElem?_toArray,hj,Option.bind_some,hu]
 cases b <;> cases want <;> rfl
theorem q9 {o:Oper} {j g:Nat} {want:Bool} (hg:o.guard=some (j,want)) (hj:((all[j]?).bind (·.dst))=some g) (hb:lk env g=some .undef) :
  ∀(C:Ctx) (σ:aB) (w:World) (a:Act) (G:Nat→Prop) (h:Upds) (n:Nat),aA C G ⟨env,h,n,sz,64⟩ σ w a→Region.wanted o (yielded all.toArray a.tmps)=false:=by
 intro C σ w a G h n hst
 obtain⟨u,hu,hv⟩:=hst.env g _ hb
 have hu':u=.tuple #[]:=by
  unfold RelV at hv
  simp only[AV.isAgg]at hv
  obtain⟨vs,he,hr⟩:=hv
  have:vs=[]:=hr
  subst this
  simpa using he
 subst hu'
 simp[Region.wanted,hg,yielded,hj,hu]
theorem bJ {d:Tmp} {op:Op} {ty:TypeId} {pos:String} {af:Array Edge} {v:AV} (hd:Nat.blt d sz=true) (hs:ab P op env h n (some v) []) (h1:RegS P all sz l (n+8) ((d,v)::env) h K) :
  RegS P all sz (⟨some d,op,ty,pos,af,none⟩::l) n env h K:=zw (fun _ _ _ _ _=>rfl) hd hs h1
theorem bE {dst:Option Tmp} {op:Op} {ty:TypeId} {pos:String} {af:Array Edge} {v:Option AV} {u:Upds} {env':Env} {h':Upds} (hd:ez dst sz=true) (hs:ab P op env h n v u) (he:putE dst v env=env') (hh:u++h=h') (h1:RegS P all sz l (n+8) env' h' K) :
  RegS P all sz (⟨dst,op,ty,pos,af,none⟩::l) n env h K:=zw (fun _ _ _ _ _=>rfl) hd hs (by rw[he,hh]; exact h1)
theorem lV {d:Option Tmp} {op:Op} {ty:TypeId} {pos:String} {af:Array Edge} {j g:Nat} {want b:Bool} {env':Env} (hj:((all[j]?).bind (·.dst))=some g) (hb:lk env g=some (.bool b)) (he:b = !want) (hd:ez d sz=true)
  (he':putE d none env=env') (h1:RegS P all sz l (n+8) env' h K):RegS P all sz (⟨d,op,ty,pos,af,some (j,want)⟩::l) n env h K :=
 sO (fun C σ w a hst=>by rw[gN (o:=⟨d,op,ty,pos,af,some (j,want)⟩) rfl hj hb C σ w a _ h n hst,he]; cases want <;> rfl) hd (by rw[he']; exact h1)
theorem qd {d:Option Tmp} {op:Op} {ty:TypeId} {pos:String} {af:Array Edge} {j g:Nat} {want:Bool} {env':Env} (hj:((all[j]?).bind (·.dst))=some g) (hb:lk env g=some .undef) (hd:ez d sz=true)
  (he':putE d none env=env') (h1:RegS P all sz l (n+8) env' h K):RegS P all sz (⟨d,op,ty,pos,af,some (j,want)⟩::l) n env h K :=
 sO (fun C σ w a hst=>q9 (o:=⟨d,op,ty,pos,af,some (j,want)⟩) rfl hj hb C σ w a _ h n hst) hd (by rw[he']; exact h1)
theorem gp {o:Oper} {j g:Nat} {want b:Bool} (_hg:o.guard=some (j,want)) (_hj:((all[j]?).bind (·.dst))=some g) (_hb:lk env g=some (.bool b))
  (h1:b=want→RegS P all sz (o::l) n env h K) (h2:b = !want→RegS P all sz (o::l) n env h K):RegS P all sz (o::l) n env h K:=by
 cases b <;> cases want <;> first | exact h1 rfl | exact h2 rfl
theorem zu {env':Env} {h':Upds} (nm:bC) (hl:Le nm ⟨env,h,n,sz,64⟩ ⟨env',h',n,sz,64⟩) (h1:RegS P all sz l n env' h' K):RegS P all sz l n env h K :=
 fun C _ w a hst Q hQ=>h1 C _ w a (hst.le hl) Q hQ
end
end Go.Eng
namespace Go.Eng
open Go.RowKit
def ja (T:Tab) (st:St):List ResultVar→(AV→Prop)→Prop
 | [],K=>K .anil
 | .tmp t::l,K=>match lk st.env t with
  | some v=>ja T st l fun q=>K (.acons v q)
  | none=>False
 | .cell t ty::l,K=>match lk st.env t with
  | some (.ptr r p)=>(match st.row r with
   | some row=>∃v,RSub row p v∧Chk (bz T ty v) (ja T st l fun q=>K (.acons v q))
   | none=>False)
  | _=>False
def jO:AV→AV
 | .acons v .anil=>v
 | q=>.tup q
def Ret (T:Tab) (fn:Func) (res:AV) (rows:List (Nat×Row)) (e:Exit) (st:St):Prop :=
 (match e with | .normal=>True | .ret=>True | _=>False)∧ja T st fn.results.toList fun q=>∃l,Le l { st with env:=[(0,jO q)],sz:=1 } (dm res rows)
section
variable {P : Program} {T : Tab} {C : Ctx} {w : World} {G : Nat → Prop} {st st' : St} {σ : aB} {a : Act}
def rp (tmps:Array Value):ResultVar→Sem Value
 | .tmp t=>pure (tmps.getD t undef)
 | .cell a t=>do loadVar t (←asAddr (tmps.getD a undef))
theorem oK (fn:Func) (tmps:Array Value):results fn tmps=(do
  let vs ←fn.results.mapM (rp tmps)
  pure (if h:vs.size=1 then vs[0] else .tuple vs)):=by
 unfold results
 congr 1
theorem fK (hT:aj P T) (h:aA C G st σ w a):∀(l:List ResultVar) (K:AV→Prop),ja T st l K→∃q vs,K q ∧
  (l.mapM (rp a.tmps)).run P w=.ok vs w∧Rel σ w (st.X C.X0 σ) q true vs∧q.within G∧q.chain=true
 | [],K,hk=>⟨.anil,[],hk,by simp,rfl,trivial,rfl⟩
 | .tmp t::l,K,hk=>by
  simp only[ja]at hk
  split at hk <;> try exact hk.elim
  rename_i v hv
  obtain⟨q,vs,h1,h2,h3,h4,h5⟩:=fK hT h l _ hk
  obtain⟨u,hu,hr⟩:=h.env t v hv
  refine⟨_,u::vs,h1,?_,⟨u,vs,rfl,hr,h3⟩,⟨h.envG t v hv,h4⟩,h5⟩
  have:a.tmps.getD t undef=u:=by simp[Array.getD_eq_getD_getElem?,hu]
  simp only[List.mapM_cons,rp,Sem.run_bind,Sem.run_pure,Result.andThen_ok,this,h2]
 | .cell t ty::l,K,hk=>by
  simp only[ja]at hk
  split at hk <;> try exact hk.elim
  rename_i r p hv
  split at hk <;> try exact hk.elim
  rename_i row hrow
  obtain⟨v,hs,hk⟩:=hk
  obtain⟨hsz,hk⟩:=hk.out
  obtain⟨q,vs,h1,h2,h3,h4,h5⟩:=fK hT h l _ hk
  obtain⟨u,hu,hr⟩:=h.env t _ hv
  obtain⟨b,c,hb,rfl⟩:=RelV.ptr.1 hr
  obtain⟨tr,htr,hsz1,hf,hag⟩:=bz.out hsz
  obtain⟨b',c',cur,t',m,A,C,hb',hh,hat,hm,_⟩:=RSub.cells hs (h.rows r row hrow)
  rw[hb]at hb'
  cases hb'
  have hl:m.length=tr.size:=by rw[Rel.len _ _ hf hm,hsz1]
  obtain⟨x,hrun,hrel⟩:=gP (hT ty tr htr) (ug.at hh hat) hl hm hf hag
  refine⟨_,x::vs,h1,?_,⟨x,vs,rfl,hrel,h3⟩,⟨RSub.within (h.rowsG r row hrow).2 hs,h4⟩,h5⟩
  have:a.tmps.getD t undef=.pointer (some ⟨b,aV p,none⟩):=by simp[Array.getD_eq_getD_getElem?,hu]
  have hA:(asAddr (a.tmps.getD t undef)).run P w=.ok ⟨b,aV p,none⟩ w:=by rw[this]; rfl
  simp only[List.mapM_cons,rp,Sem.run_bind,Sem.run_pure,Result.andThen_ok,hA,hrun,h2]
theorem oJ {X:Nat→Prop} {q:AV} {vs:List Value} (hc:q.chain=true) (h:Rel σ w X q true vs):RelV σ w X (jO q) (if h:vs.toArray.size=1 then vs.toArray[0] else .tuple vs.toArray):=by
 cases q with
 | anil =>
  obtain rfl:vs=[]:=h
  unfold RelV
  simp only[jO,AV.isAgg]
  exact⟨[],rfl,rfl⟩
 | acons v r =>
  obtain⟨u,us,rfl,h1,h2⟩:=h
  cases r with
  | anil =>
   obtain rfl:us=[]:=h2
   unfold RelV
   simpa[jO]using h1
  | acons v' r' =>
   have h0:=h2
   obtain⟨u',us',rfl,_,_⟩:=h0
   unfold RelV
   simp only[jO,AV.isAgg]
   exact⟨u::u'::us',by simp,⟨u,u'::us',rfl,h1,h2⟩⟩
  | _=>simp[AV.chain]at hc
 | _=>simp[AV.chain]at hc
theorem aA.putBook {C:Ctx} {G:Nat→Prop} {st:St} {σ:aB} {w:World} {a:Act} (h:aA C G st σ w a) {D:Nat} {o o':Obj} (hD:w.heap[D]?=some o) (ho:ph o=true) (hw:C.w0.heap.size≤D) (hB:C.B≤D) (hro:∀l,C.ro=some l→l≠D)
  {ds:List Deferred} (hd:hU C (w.putObj D o') ds):aA C G st σ (w.putObj D o') ⟨a.tmps,ds⟩:=by
 have hlt:D<w.heap.size:=(Array.getElem?_eq_some_iff.1 hD).1
 have hoth:∀k,k≠D→(w.putObj D o').heap[k]?=w.heap[k]?:=fun k hk=>World.putObj_heap_other hk
 have hne:∀ {r row b c},st.row r=some row→σ r=some (b,c)→b≠D:=by
  rintro r row b c h1 h2 rfl
  obtain⟨o2,hc,hnb⟩:=h.cells h1 h2
  rw[hD]at hc; cases hc; rw[ho]at hnb; cases hnb
 have hk:∀(ad:Addr) (u:Value),w.cell? ad=some u→¬st.X C.X0 σ ad.block→Kp w (w.putObj D o') ad u∧¬st.X C.X0 σ ad.block:=by
  intro ad u h1 h2
  refine⟨?_,h2⟩
  have hb:ad.block≠D:=by
   rintro rfl
   have:(w.cell? ad)=none:=by
    simp only[World.cell?,hD]
    cases o <;> first | rfl | cases ho
   rw[this]at h1; cases h1
  exact .of_block (hoth _ hb) h1
 exact {
  env:=fun i v hi=>by
   obtain⟨u,h1,h2⟩:=h.env i v hi
   exact⟨u,h1,RelV.mono (G:=fun _=>True) (fun _ _=>rfl) hk (AV.within_all v) h2⟩
  envG:=h.envG
  rows:=fun r row hr=>bx.mono (G:=fun _=>True) (fun _ _=>rfl) hk (by simp[World.putObj]) trivial (Row.within_all row) (fun b c hs=>hoth b (hne hr hs)) (h.rows r row hr)
  rowsG:=h.rowsG
  inj:=h.inj
  high:=h.high
  size:=by have:=h.size; simpa[World.putObj]using this
  below:=⟨h.below.os,h.below.tape,h.below.output,(by have:=h.below.size; simpa[World.putObj]using this),fun k hk hm=>(hoth k (by omega)).trans (h.below.block k hk hm),
   fun k x hx hb=>(hoth k (by have:=(Array.getElem?_eq_some_iff.1 hx).1; omega)).trans (h.below.book k x hx hb)⟩
  defers:=hd
  sz:=h.sz
  x0:=h.x0
  agree:=h.agree
  baseG:=h.baseG
  bs:=h.bs
  rok:=fun l hl=>let ⟨r,hr⟩:=h.rok l hl; ⟨r,(hoth l (hro l hl)).trans hr⟩
  glob:=h.glob }
theorem jh {C:Ctx} {G:Nat→Prop} {st:St} {σ:aB} {fn:Func} {tmps:Array Value} {R:Ending→World→Prop} (hro:C.ro=none) :
  ∀(ds:List Deferred) (w:World),aA C G st σ w ⟨tmps,ds⟩→(∀w',aA C G st σ w' ⟨tmps,[]⟩→LeavesIn Fence.wide 0 P fn tmps R [] .returning w')→LeavesInM Fence.wide 0 P fn tmps R ds .returning w
 | [],w,h,hR=>hR w h
 | d::ds,w,h,hR=>by
  obtain⟨⟨D,rfl,h2,h3,h4,h5⟩,h6⟩:=h.defers
  have hd:∀l:List Deferred,({ target :=.collected D,args := #[] }:Deferred) ∉ l→hU C w l→hU C (w.putObj D (.deferred none)) l:=by
   intro l
   induction l with
   | nil=>intro _ _; trivial
   | cons x l ih =>
    rintro hn ⟨⟨D',rfl,g2,g3,g4,g5⟩,g6⟩
    refine⟨⟨D',rfl,g2,g3,(World.putObj_heap_other (fun e=>hn (by subst e; simp))).trans g4,g5⟩,ih (fun hm=>hn (by simp[hm])) g6⟩
  refine⟨by simp,.inl ⟨D,_,rfl,run_takeDeferred h4,jh hro ds _ (h.putBook h4 rfl h2 h3 (fun l hl=>by rw[hro]at hl; cases hl) (hd ds h5 h6)) hR⟩⟩
theorem aq (hT : aj P T) {f : FuncId} {fn : Func} {c : Code} {avs : List AV} {h0 rows : List (Nat × Row)} {res : AV} (hf : P.funcs[f]? = some fn) (hname : (fn.name == "runtime.NumGoroutine") = false) (hb : fn.body = some c)
    (hn:Nat.ble avs.length fn.ntmps=true) (h:WC P fn.ntmps c (Ret T fn res rows) (eg 0 avs) (aw h0) 64):FnIs P f avs h0 res rows:=by
  have hn:=Nat.le_of_ble_eq_true hn
  refine⟨⟨fn,hf,hname,by simp[hb]⟩,fun C σ w vs hbs hB hw hσ hro hst=>?_⟩
  have hl:vs.length=avs.length:=by simpa[inSt]using hst.sz
  have hst0:aA C (fun r=>r<64) ⟨eg 0 avs,aw h0,64,fn.ntmps,64⟩ σ w { tmps:=vs.toArray++Array.replicate (fn.ntmps-vs.toArray.size) undef,defers:=[] }:=
    { hst with
      env:=fun i v hi=>by
        obtain⟨u,hu,hv⟩:=hst.env i v hi
        refine⟨u,?_,hv⟩
        have:=(Array.getElem?_eq_some_iff.1 hu).1
        rw[Array.getElem?_append_left this]
        exact hu
      defers:=trivial
      sz:=by simp; omega }
  have hwp:=h C σ w _ hst0
  rw[show fen C.ro=Fence.wide by rw[hro]; rfl]at hwp
  refine callsIn_wide.1 (callsIn_of_wp_marks (n:=0) hf hb trivial (wpIn_mono hwp ?_))
  rintro e a' w₁ ⟨st',σ',⟨he,hr⟩,h1⟩
  have hleave:LeavesInM Fence.wide 0 P fn a'.tmps (fun e w'=>∃v σ',e=.returned v∧aA C (fun r=>r<72) (dm res rows) σ' w' ⟨#[v],[]⟩) a'.defers .returning w₁:=by
    refine jh hro _ w₁ h1 fun w' h2=>?_
    obtain⟨q,vs',⟨l,hle⟩,hrun,hrel,hqw,hc⟩:=fK hT h2 _ _ hr
    have hres:(results fn a'.tmps).run P w' = .ok (if h:vs'.toArray.size=1 then vs'.toArray[0] else .tuple vs'.toArray) w':=by
      rw[oK,Array.mapM_eq_mapM_toList]
      simp only[Sem.run_bind,Sem.run_map,hrun,Result.andThen_ok,Sem.run_pure]
    have hone:aA C (fun r=>r<st'.next) { st' with env:=[(0,jO q)],sz:=1 } σ' w' ⟨#[if h:vs'.toArray.size=1 then vs'.toArray[0] else .tuple vs'.toArray],[]⟩:=
      { h2 with
        env:=fun i v hi=>by
          simp only[aN]at hi
          split at hi
          · rename_i e
            subst e
            simp only[Option.some.injEq]at hi
            subst hi
            exact⟨_,rfl,oJ hc hrel⟩
          · simp[lk]at hi
        envG:=fun i v hi=>by
          simp only[aN]at hi
          split at hi
          · simp only[Option.some.injEq]at hi
            subst hi
            cases q with
            | acons v r=>cases r <;> first | exact hqw.1 | exact hqw
            | _=>exact hqw
          · simp[lk]at hi
        sz:=rfl
        defers:=trivial }
    exact⟨_,hres,_,_,rfl,hone.le hle⟩
  cases e with
  | normal=>exact hleave
  | ret=>exact hleave
  | _=>exact he.elim
end
section
variable {P : Program} {T : Tab} {sz : Nat} {env : Env} {h : Upds} {n : Nat} {all l : List Oper} {K : Env → Upds → Nat → Prop}
theorem rq {d:Option Tmp} {op:Op} {ty:TypeId} {pos:String} {af:Array Edge} {j g:Nat} {want b:Bool} (hj:((all[j]?).bind (·.dst))=some g) (hb:lk env g=some (.bool b)) (he:b=want)
  (h1:RegS P all sz (⟨d,op,ty,pos,af,none⟩::l) n env h K):RegS P all sz (⟨d,op,ty,pos,af,some (j,want)⟩::l) n env h K:=by
 intro C σ w a hst Q hQ
 have:=h1 C σ w a hst Q hQ
 unfold wpListIn at this ⊢
 rw[if_pos (show Region.wanted ⟨d,op,ty,pos,af,none⟩ _=true from rfl)]at this
 rw[if_pos (by rw[gN (o:=⟨d,op,ty,pos,af,some (j,want)⟩) rfl hj hb C σ w a _ h n hst,he]; exact beq_self_eq_true _)]
 exact this
theorem aO {d:Tmp} {op:Op} {ty:TypeId} {pos:String} {af:Array Edge} {v:AV} {x:Nat×Option Row} (hs:ab P op env h n (some v) [x]) (hd:Nat.blt d sz=true)
  (hk:RegS P all sz l (n+8) ((d,v)::env) (x::h) K):RegS P all sz (⟨some d,op,ty,pos,af,none⟩::l) n env h K:=bE (dst:=some d) hd hs rfl rfl hk
theorem aC {d:Tmp} {op:Op} {ty:TypeId} {pos:String} {af:Array Edge} {v:AV} {x y:Nat×Option Row} (hs:ab P op env h n (some v) [x,y]) (hd:Nat.blt d sz=true)
  (hk:RegS P all sz l (n+8) ((d,v)::env) (x::y::h) K):RegS P all sz (⟨some d,op,ty,pos,af,none⟩::l) n env h K:=bE (dst:=some d) hd hs rfl rfl hk
theorem bH {op:Op} {ty:TypeId} {pos:String} {af:Array Edge} {x:Nat×Option Row} (hs:ab P op env h n none [x])
  (hk:RegS P all sz l (n+8) env (x::h) K):RegS P all sz (⟨none,op,ty,pos,af,none⟩::l) n env h K:=bE (dst:=none) rfl hs rfl rfl hk
theorem bD (hT:aj P T) {op:Op} {v:Option AV} {u:Upds} (hop:∀K:Option AV→Upds→Prop,K v u→opD T op (ai env) (aQ h) n K):ab P op env h n v u :=.of_opD hT hop
theorem jb (hT:aj P T) {c x y:Operand} {b:Bool} {v:AV} (hc:ai env c=some (.bool b)) (hb:b=true) (hv:ai env x=some v):ab P (.pick c x y) env h n (some v) []:=.of_opD hT fun K hK=>by
 subst hb
 simp only[opD,hc]
 exact Br.t (by simp only[cond_true,hv]; exact hK)
theorem jc (hT:aj P T) {c x y:Operand} {b:Bool} {v:AV} (hc:ai env c=some (.bool b)) (hb:b=false) (hv:ai env y=some v):ab P (.pick c x y) env h n (some v) []:=.of_opD hT fun K hK=>by
 subst hb
 simp only[opD,hc]
 exact Br.f (by simp only[cond_false,hv]; exact hK)
theorem ay (hT:aj P T) {t:TypeId} {x:Operand} {r:Nat} {p:List Step} {ty:TypeId} {a v:AV} (hx:ai env x=some (.ptr r p)) (hr:aQ h r=some (.box ty a)) (hv:ASub a p v) (hs:bz T t v=true):ab P (.load t x) env h n (some v) []:=.of_opD hT fun K hK=>by
 simp only[opD,hx,hr]
 exact⟨v,hv,by rw[hs]; exact hK⟩
theorem o7 (hT:aj P T) {t:TypeId} {x:Operand} {y:D} (hx:ai env x=some (.iptr y)) (hs:bz T t (.d y)=true):ab P (.load t x) env h n (some (.d y)) []:=.of_opD hT fun K hK=>by
 simp only[opD,hx]
 rw[hs]; exact hK
theorem aX (hT:aj P T) {t:TypeId} {x:Operand} {r:Nat} {p:List Step} {row:Row} {v:AV} (hx:ai env x=some (.ptr r p)) (hr:aQ h r=some row) (hv:RSub row p v) (hs:bz T t v=true):ab P (.load t x) env h n (some v) []:=.of_opD hT fun K hK=>by
 simp only[opD,hx,hr]
 exact⟨v,hv,by rw[hs]; exact hK⟩
theorem aG (hT:aj P T) {t:TypeId} {x y:Operand} {r:Nat} {p:List Step} {row row':Row} {v:AV} (hx:ai env x=some (.ptr r p)) (hy:ai env y=some v) (hr:aQ h r=some row) (hv:RUpd row p v row') (hs:bz T t v=true) :
  ab P (.store t x y) env h n none [(r,some row')]:=.of_opD hT fun K hK=>by
 simp only[opD,hx,hy,hr]
 exact⟨row',hv,by rw[hs]; exact hK⟩
theorem bM (hT:aj P T) {x y:Operand} {t t':TypeId} {k:IntKind} {a b m:Int} (hx:ai env x=some (.int k a)) (hy:ai env y=some (.int k b)) (hm:k.wrap (a+b)=m):ab P (.binOp .add t x y t') env h n (some (.int k m)) []:=.of_opD hT fun K hK=>by
 simp only[opD,hx,hy,Nat.beq_refl]
 exact⟨m,hm,hK⟩
theorem cm (hT:aj P T) {x y:Operand} {t t':TypeId} {k:IntKind} {a b m:Int} (hx:ai env x=some (.int k a)) (hy:ai env y=some (.int k b)) (hm:k.wrap (a-b)=m):ab P (.binOp .sub t x y t') env h n (some (.int k m)) []:=.of_opD hT fun K hK=>by
 simp only[opD,hx,hy,Nat.beq_refl]
 exact⟨m,hm,hK⟩
theorem ed (hT:aj P T) {x y:Operand} {t t':TypeId} {k:IntKind} {a b m:Int} (hx:ai env x=some (.int k a)) (hy:ai env y=some (.int k b)) (hm:k.wrap (a*b)=m):ab P (.binOp .mul t x y t') env h n (some (.int k m)) []:=.of_opD hT fun K hK=>by
 simp only[opD,hx,hy,Nat.beq_refl]
 exact⟨m,hm,hK⟩
theorem BH (hT:aj P T) {x y:Operand} {t t':TypeId} {k:IntKind} {a b:Int} (hx:ai env x=some (.int k a)) (hy:ai env y=some (.int k b)) (hb:b≠0):ab P (.binOp .rem t x y t') env h n (some (.int k (a.tmod b))) []:=.of_opD hT fun K hK=>by
 simp only[opD,hx,hy,Nat.beq_refl]
 exact⟨hb,hK⟩
theorem aR (hT:aj P T) {x:Operand} {t t':TypeId} {k k':IntKind} {a m:Int} {d:TyD} (hx:ai env x=some (.int k' a)) (hk:yq T t'=some k) (ht:bh T t=some d) (hm:k.wrap a=m):ab P (.convert t t' x) env h n (some (.int k m)) []:=.of_opD hT fun K hK=>by
 simp only[opD,hx,hk,ht]
 exact⟨m,hm,hK⟩
theorem bK (hT:aj P T) {t e:TypeId} {x i:Operand} {re:TyR} {α:Type} {s:Nat} {enc:α→D} {xs:List α} {k:IntKind} {m:Int} {el:α} (ht:bh T t=some (.slice e)) (he:lk T e=some re) (hs:Nat.beq re.size s=true)
  (hx:ai env x=some (.d (.arr s enc xs))) (hi:ai env i=some (.int k m)) (h0:0≤m) (hel:xs[m.toNat]?=some el):ab P (.indexAddr t x i) env h n (some (.iptr (enc el))) []:=.of_opD hT fun K hK=>by
 simp only[opD,ht,hx,hi,he]
 rw[hs]
 exact⟨h0,el,hel,hK⟩
theorem bg (hT:aj P T) {t e:TypeId} {x i:Operand} {re:TyR} {r len s:Nat} {cap:Option Nat} {k:IntKind} {m:Int} (ht:bh T t=some (.slice e)) (he:lk T e=some re) (hs:Nat.beq re.size s=true)
  (hx:ai env x=some (.own r 0 len s cap)) (hi:ai env i=some (.int k m)) (h0:0≤m) (h1:m<len):ab P (.indexAddr t x i) env h n (some (.ptr r [.idx m.toNat s])) []:=.of_opD hT fun K hK=>by
 simp only[opD,ht,hx,hi,he]
 rw[hs]
 exact⟨h0,h1,hK⟩
theorem ab.len {args:Array Operand} {ts:Array TypeId} {x:Operand} {v:AV} {m:Nat} (hargs:args = #[x]) (hx:ai env x=some v)
  (hlen:∀(C:Ctx) (st:St) (σ:aB) (w:World) (a:Act) (ty:TypeId),RelV σ w (st.X C.X0 σ) v (a.eval x)→(Builtin.len_ ts ty #[a.eval x]).run P w=.ok (goInt m) w) :
  ab P (.call { callee :=.builtin .len,args:=args,argTypes:=ts }) env h n (some (.int .i64 m)) []:=
 .of_comes fun C G st σ w a o ho hA hd hst hn=>by
  subst hargs
  refine .quiet (u :=.int .i64 m) hst hd ⟨rfl,rfl⟩ ?_ (RelV.sc.2 ⟨rfl,rfl⟩) trivial
  have:=hlen C st σ w a o.type (ak hst (hA.ev hx)).1
  simp[execOp,ho,resolve,invoke,builtin,this,goInt]
theorem n5 (hT:aj P T) {x:Operand} {t e:TypeId} {α:Type} {s:Nat} {enc:α→D} {xs:List α} (hx:ai env x=some (.d (.arr s enc xs))) (ht:bh T t=some (.slice e)) :
  ab P (.call { callee :=.builtin .len,args := #[x],argTypes := #[t] }) env h n (some (.int .i64 xs.length)) []:=.len rfl hx fun C st σ w a ty hr=>by
 obtain⟨u,hu,hdu⟩:=bn hT ht
 cases hdu
 rcases RelV.arr.1 hr with ⟨rfl,hv⟩ | ⟨ad,c,hv,_⟩ <;> simp[Builtin.len_,hv,run_underlying hu]
theorem ee (hT:aj P T) {x:Operand} {t e:TypeId} {r off len s:Nat} {cap:Option Nat} (hx:ai env x=some (.own r off len s cap)) (ht:bh T t=some (.slice e)) :
  ab P (.call { callee :=.builtin .len,args := #[x],argTypes := #[t] }) env h n (some (.int .i64 len)) []:=.len rfl hx fun C st σ w a ty hr=>by
 obtain⟨u,hu,hdu⟩:=bn hT ht
 cases hdu
 rcases RelV.own.1 hr with ⟨_,_,rfl,_,hv⟩ | ⟨b,c,ad,_,hv,_⟩ <;> simp[Builtin.len_,hv,run_underlying hu]
theorem xH (hT:aj P T) {x:Operand} {t e:TypeId} (hx:ai env x=some .empty) (ht:bh T t=some (.slice e)) :
  ab P (.call { callee :=.builtin .len,args := #[x],argTypes := #[t] }) env h n (some (.int .i64 (0:Nat))) []:=.len rfl hx fun C st σ w a ty hv=>by
 obtain⟨u,hu,hdu⟩:=bn hT ht
 cases hdu
 unfold RelV at hv
 simp only[AV.isAgg]at hv
 obtain⟨ad,hv⟩:=hv
 have hv:a.eval x=.slice ad 0 0:=by simpa using hv
 simp[Builtin.len_,hv,run_underlying hu]
theorem aH {m:Int} (h0 : -9223372036854775808≤m) (h1:m≤9223372036854775807):IntKind.i64.wrap m=m:=IntWalk.i64_in m ⟨h0,h1⟩
end
end Go.Eng
namespace Go.Eng
def zval (d:D):Value:=if d.isAgg then .agg d.flatC.toArray else d.flatC.headD .nilIface
theorem ul (d:D) (h:d.okC=true):d.flatC=(zval d).cells.toList:=by
 unfold zval
 split
 ·simp[Value.cells]
 ·rename_i hag
  cases d with
  | sc v =>
   simp only[D.okC]at h
   cases v <;> first | rfl | simp[Value.oneCell']at h
  | arr s enc xs=>rfl
  | pt x=>rfl
  | arx s enc xs=>rfl
  | re f S x=>cases h
  | jk S p n=>cases h
  | _=>exact absurd rfl hag
def fW (P:Program):List (Nat×Nat)→List Field→Bool
 | [],gs=>gs.all fun g=>(P.info? g.type).isSome
 | (o,t)::l,g::gs=>Nat.beq g.offset o&&Nat.beq g.type t && !Nat.beq (P.cellsOf t) 0&&(P.info? g.type).isSome&&fW P l gs
 | _,_=>false
def qQ (P:Program):TyD→TypeDesc→Bool
 | .int k,.int k'=>Nat.beq (kNo k) (kNo k')
 | .bool,.bool=>true
 | .string,.string=>true
 | .struct fs,.struct gs=>fW P fs gs.toList
 | .array n e,.array n' e'=>Nat.beq n n'&&Nat.beq e e'
 | .slice e,.slice e'=>Nat.beq e e'
 | .cell,.struct _=>false
 | .cell,.array .. => false
 | .cell,_=>true
 | _,_=>false
theorem mg {P:Program}:∀(l:List (Nat×Nat)) (gs:List Field),fW P l gs=true→∀(k o t:Nat),l[k]?=some (o,t)→∃g,gs[k]?=some g∧g.offset=o∧g.type=t∧P.cellsOf t≠0
 | [],_,_,k,o,t,h=>by simp at h
 | (o',t')::l,[],h,k,o,t,hk=>by simp[fW]at h
 | (o',t')::l,g::gs,h,k,o,t,hk=>by
  simp only[fW,Bool.and_eq_true,Bool.not_eq_true']at h
  obtain⟨⟨⟨⟨h1,h2⟩,h3⟩,_⟩,h4⟩:=h
  cases k with
  | zero =>
   simp only[List.getElem?_cons_zero,Option.some.injEq,Prod.mk.injEq]at hk
   obtain⟨rfl,rfl⟩:=hk
   exact⟨g,rfl,Nat.eq_of_beq_eq_true h1,Nat.eq_of_beq_eq_true h2,Nat.ne_of_beq_eq_false h3⟩
  | succ k=>exact mg l gs h4 k o t (by simpa using hk)
theorem kZ {P:Program}:∀(l:List (Nat×Nat)) (gs:List Field),fW P l gs=true→∀g∈gs,∃i,P.info? g.type=some i
 | [],gs,h,g,hg=>by
  simp only[fW,List.all_eq_true]at h
  exact Option.isSome_iff_exists.1 (h g hg)
 | (o',t')::l,[],h,g,hg=>by simp at hg
 | (o',t')::l,x::gs,h,g,hg=>by
  simp only[fW,Bool.and_eq_true,Bool.not_eq_true']at h
  rcases List.mem_cons.1 hg with rfl | hg
  ·exact Option.isSome_iff_exists.1 h.1.2
  ·exact kZ l gs h.2 g hg
theorem vt {P:Program} {d:TyD} {u:TypeDesc} (h:qQ P d u=true):∀gs,u=.struct gs→∀g∈gs.toList,∃i,P.info? g.type=some i:=by
 rintro gs rfl
 cases d <;> simp only[qQ,Bool.false_eq_true]at h
 exact kZ _ _ h
theorem ya {P:Program} {d:TyD} {u:TypeDesc} (h:qQ P d u=true):sh P d u:=by
 cases d <;> cases u <;> simp only[qQ,Bool.false_eq_true]at h <;> first
  | rfl
  | (have:=Az h; subst this; rfl)
  | (simp only[Bool.and_eq_true]at h; obtain⟨h1,h2⟩:=h; have h1:=Nat.eq_of_beq_eq_true h1; have h2:=Nat.eq_of_beq_eq_true h2; subst h1; subst h2; rfl)
  | (have h:=Nat.eq_of_beq_eq_true h; subst h; rfl)
  | (refine⟨_,rfl,fun k o t hk=>?_⟩; obtain⟨g,h1,h2⟩:=mg _ _ h k o t hk; exact⟨g,by simpa using h1,h2⟩)
theorem TyOk.mk' {P:Program} {t:Nat} {r:TyR} {u:TypeDesc} (h1:(P.info? t).map (fun i=>(i.size,i.bytes,i.zero))=some (r.size,r.bytes,some (zval r.zero))) (h2:(r.zero.okC&&Nat.beq r.zero.size r.size)=true)
  (h3:P.underlying t=some u) (h4:qQ P r.desc u=true) (h5:r.desc.isAgg=r.zero.isAgg):TyOk P t r:=by
 simp only[Bool.and_eq_true]at h2
 obtain⟨h2,h6⟩:=h2
 refine⟨?_,h2,Nat.eq_of_beq_eq_true h6,⟨u,h3,ya h4⟩,h5,fun gs hg=>vt h4 gs (Option.some.inj (h3.symm.trans hg))⟩
 cases hi:P.info? t with
 | none=>simp[hi]at h1
 | some i =>
  simp only[hi,Option.map_some,Option.some.injEq,Prod.mk.injEq]at h1
  exact⟨i,zval r.zero,rfl,h1.1,h1.2.1,h1.2.2,ul _ h2⟩
theorem aj.nil {P:Program}:aj P []:=fun t r h=>by simp[lk]at h
theorem aj.cons {P:Program} {t:Nat} {r:TyR} {T:Tab} (h:TyOk P t r) (hs:aj P T):aj P ((t,r)::T):=by
 intro t' r' h'
 simp only[aN]at h'
 split at h'
 ·rename_i e
  subst e
  simp only[Option.some.injEq]at h'
  exact h' ▸ h
 ·exact hs t' r' h'
def cN (x:Int):D :=.sc (.int .u8 x)
end Go.Eng
