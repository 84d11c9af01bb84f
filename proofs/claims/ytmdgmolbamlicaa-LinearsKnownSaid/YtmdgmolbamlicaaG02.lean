/- Texts of the proof: Eng16, Eng17, Eng18, Eng19, Eng20, Eng21, Eng22, Eng23, Eng24, Eng25, Eng26, Eng27, Eng28, Eng29, Eng30, Eng31, Eng32, Eng33, Eng34, Eng35, Eng36, Eng37, Eng38, Eng39, Eng40, Eng41, Eng42, Eng43, Eng44, Eng45, Eng46, Eng47, Eng48, Eng49, Eng50, Eng51, Eng52, Eng53, Eng54, Eng55, Eng56, Eng57, Eng58, Eng59, Eng60, Eng61, Eng62, Eng63, Eng64, Eng65, Eng66, Eng67, Eng68. -/
import Derived.Test.YtmdgmolbamlicaaG01
import Derived.Orders
import Derived.Laws.StructEq
import Derived.ChangeKeysEq
import Derived.WalkKit
import Derived.ProofKit
import Derived.OpenShut
import Derived.ShutString
import Derived.ChangeOld
import Derived.Below
import Derived.Deep.Slices
import Derived.Laws.MakeOwn
import Derived.Laws.CopyRow
import Derived.Laws.BytesString
import Derived.Laws.Strings
import Derived.Lib.AppendZeros
import Derived.Lib.Bytealg
import Derived.Lib.Builder
import Derived.Lib.UnsafeStr

set_option linter.unusedVariables false
set_option linter.unusedSimpArgs false
set_option linter.unusedSectionVars false
set_option maxRecDepth 10000

namespace Go.Eng
open Go.RowKit
def OpIs (P:Program) (all:List Oper) (o:Oper) (env:Env) (h:Upds) (n:Nat) (v:Option AV) (u:Upds):Prop :=
 ∀(C:Ctx) (G:Nat→Prop) (st:St) (σ:aB) (w:World) (a:Act),fY env h st→(∀d,o.dst=some d→d<st.sz)→aA C G st σ w a →
  (∀r,n≤r→r<n+8→¬G r)→st.bs=64→∀(next:Act→World→Prop) (Q:Exit→Act→World→Prop),
   (∀x w' σ' G',aA C G' (st.put o.dst v u) σ' w' (a.put o.dst x)→(∀r,G r→G' r)→(∀r,G' r→G r∨n≤r∧r<n+8)→next (a.put o.dst x) w') →
   if Region.wanted o (yielded all.toArray a.tmps) then o.wpIn (fen C.ro) 0 P a w next Q else next (a.put o.dst undef) w
section
variable {P : Program} {all : List Oper} {env : Env} {h : Upds} {n : Nat} {v : Option AV} {u : Upds}
theorem OpIs.plain {d:Option Tmp} {op:Op} {ty:TypeId} {pos:String} {af:Array Edge} (hs:ab P op env h n v u):OpIs P all ⟨d,op,ty,pos,af,none⟩ env h n v u:=by
 intro C G st σ w a hA hd hst hn hbs next Q hnext
 rw[if_pos (show Region.wanted ⟨d,op,ty,pos,af,none⟩ _=true from rfl)]
 exact hs C G st σ w a _ rfl hA hd hst hn hbs next Q hnext
theorem wanted_bool' {o:Oper} {j g:Nat} {want b:Bool} (hg:o.guard=some (j,want)) (hj:((all[j]?).bind (·.dst))=some g) (hb:lk env g=some (.bool b)) {C:Ctx} {σ:aB} {w:World} {a:Act} {G:Nat→Prop} {st:St} (hA:fY env h st) (hst:aA C G st σ w a) :
  Region.wanted o (yielded all.toArray a.tmps)=(b==want):=by
 obtain⟨u,hu,hv⟩:=hst.env g _ (hA.env g _ hb)
 obtain⟨rfl,_⟩:=RelV.sc.1 hv
 simp only[Region.wanted,hg,yielded,List.getElem?_toArray,hj,Option.bind_some,hu]
 cases b <;> cases want <;> rfl
theorem OpIs.on {d:Option Tmp} {op:Op} {ty:TypeId} {pos:String} {af:Array Edge} {j g:Nat} {want b:Bool} (hj:((all[j]?).bind (·.dst))=some g) (hb:lk env g=some (.bool b)) (he:b=want) (hs:ab P op env h n v u):OpIs P all ⟨d,op,ty,pos,af,some (j,want)⟩ env h n v u:=by
 intro C G st σ w a hA hd hst hn hbs next Q hnext
 rw[if_pos (by rw[wanted_bool' (o:=⟨d,op,ty,pos,af,some (j,want)⟩) rfl hj hb hA hst,he]; exact beq_self_eq_true _)]
 exact hs C G st σ w a _ rfl hA hd hst hn hbs next Q hnext
theorem OpIs.off {d:Option Tmp} {op:Op} {ty:TypeId} {pos:String} {af:Array Edge} {j g:Nat} {want b:Bool} (hj:((all[j]?).bind (·.dst))=some g) (hb:lk env g=some (.bool b)) (he:b = !want):OpIs P all ⟨d,op,ty,pos,af,some (j,want)⟩ env h n none []:=by
 intro C G st σ w a hA hd hst hn hbs next Q hnext
 rw[if_neg (by rw[wanted_bool' (o:=⟨d,op,ty,pos,af,some (j,want)⟩) rfl hj hb hA hst,he]; cases want <;> exact fun e=>by cases e)]
 exact hnext undef w σ G (hst.set (v:=none) (u:=undef) (dst:=d) hd (eF _ _ _) trivial) (fun _ h=>h) (fun _ h=>.inl h)
theorem OpIs.offU {d:Option Tmp} {op:Op} {ty:TypeId} {pos:String} {af:Array Edge} {j g:Nat} {want:Bool} (hj:((all[j]?).bind (·.dst))=some g) (hb:lk env g=some .undef):OpIs P all ⟨d,op,ty,pos,af,some (j,want)⟩ env h n none []:=by
 intro C G st σ w a hA hd hst hn hbs next Q hnext
 obtain⟨u,hu,hv⟩:=hst.env g _ (hA.env g _ hb)
 have hu':u=.tuple #[]:=by
  unfold RelV at hv
  simp only[AV.isAgg]at hv
  obtain⟨vs,he,hr⟩:=hv
  have:vs=[]:=hr
  subst this
  simpa using he
 subst hu'
 rw[if_neg (by simp[Region.wanted,yielded,hj,hu])]
 exact hnext undef w σ G (hst.set (v:=none) (u:=undef) (dst:=d) hd (eF _ _ _) trivial) (fun _ h=>h) (fun _ h=>.inl h)
end
structure br:Type 1 where
 op:Oper
 looks:List Nat
 rows:List Nat
 v:Option AV
 u:Upds
def br.envU (f:br):Env:=match f.op.dst with
 | none=>[]
 | some d=>[(d,f.v.getD .undef)]
def only {β:Type 1} (ks:List Nat):List (Nat×β)→List (Nat×β)
 | []=>[]
 | (i,x)::l=>bif ks.any (Nat.beq i) then (i,x)::only ks l else only ks l
theorem gU {β:Type 1} {ks:List Nat}:∀(l:List (Nat×β)) (t:Nat) (x:β),lk (only ks l) t=some x→t∈ks∧lk l t=some x
 | [],t,x,h=>by simp[only,lk]at h
 | (i,y)::l,t,x,h=>by
  simp only[only]at h
  cases hi:ks.any (Nat.beq i) <;> rw[hi]at h <;> simp only[cond_true,cond_false]at h
  ·obtain⟨h1,h2⟩:=gU l t x h
   refine⟨h1,?_⟩
   rw[aN,if_neg ?_]
   ·exact h2
   ·rintro rfl
    have:=List.any_eq_false.1 hi i h1
    simp at this
  ·rw[aN]at h ⊢
   split at h
   ·rename_i e
    subst e
    obtain⟨z,h1,h2⟩:=List.any_eq_true.1 hi
    have:=Nat.eq_of_beq_eq_true h2
    subst this
    exact⟨h1,by simpa using h⟩
   ·rename_i e
    obtain⟨h1,h2⟩:=gU l t x h
    exact⟨h1,by rw[if_neg e]; exact h2⟩
def oy:List Operand→List Nat
 | []=>[]
 | .tmp t::l=>t::oy l
 | _::l=>oy l
def fu (all:List Oper) (o:Oper):List Nat:=match o.guard with
 | none=>oy o.op.operands.toList
 | some (j,_)=>match (all[j]?).bind (·.dst) with
  | some g=>g::oy o.op.operands.toList
  | none=>oy o.op.operands.toList
def AV.refs:AV→List Nat
 | .acons a r=>a.refs++r.refs
 | .own r .. => [r]
 | .ptr r _=>[r]
 | .asl r _ _ _=>[r]
 | .mapr r=>[r]
 | .fn _ p q=>p.refs++q.refs
 | .tup q=>q.refs
 | _=>[]
def Row.refs:Row→List Nat
 | .box _ a=>a.refs
 | .ds .. => []
 | .lits _ _ _ _ a=>a.refs
 | .mo a=>a.refs
 | .si .. => []
 | .mq _=>[]
 | .lo _=>[]
 | .mi a _ _ _=>a.refs
def uL (h:Upds):List Nat→List Nat
 | []=>[]
 | r::l=>match aQ h r with
  | some row=>row.refs++uL h l
  | none=>uL h l
def qV (h:Upds):Nat→List Nat→List Nat
 | 0,l=>l
 | k+1,l=>l++qV h k (uL h l)
def ry (env:Env):List Operand→List Nat
 | []=>[]
 | x::l=>match ai env x with
  | some v=>v.refs++ry env l
  | none=>ry env l
def yV (env:Env) (h:Upds) (o:Oper):List Nat:=qV h 3 (ry env o.op.operands.toList)
def fI (e:Edge):Bool:=Region.binds .any e
def eL (ps:List (List Nat)):List Edge→List Nat
 | []=>[]
 | e::es=>bif fI e then e.on::(ps[e.on]?.getD []++eL ps es) else eL ps es
def dY (k:Nat):List Edge→Bool
 | []=>true
 | e::es=>bif fI e then (bif Nat.blt e.on k then dY k es else false) else dY k es
def memB (x:Nat) (l:List Nat):Bool:=l.any (Nat.beq x)
def fx (l m:List Nat):Bool:=l.all fun x => !memB x m
def br.dsts (f:br):List Nat:=match f.op.dst with
 | none=>[]
 | some d=>[d]
def fa (f g:br):Bool :=
 bif fx f.dsts g.looks then (bif fx g.dsts f.looks then (bif fx f.dsts g.dsts then
  (bif fx (aU f.u) g.rows then (bif fx (aU g.u) f.rows then fx (aU f.u) (aU g.u) else false) else false) else false) else false) else false
def jU (p:List Nat) (g:br):Nat→List br→Bool
 | _,[]=>true
 | i,f::fs=>bif memB i p then jU p g (i+1) fs else (bif fa f g then jU p g (i+1) fs else false)
def mp:List (List Nat)→List br→List br→Bool
 | _,_,[]=>true
 | ps,seen,g::gs=>bif dY ps.length g.op.after.toList then
   (bif jU (eL ps g.op.after.toList) g 0 seen then mp (ps++[eL ps g.op.after.toList]) (seen++[g]) gs else false) else false
def dx (P:Program) (all:List Oper) (sz:Nat):List br→Nat→Env→Upds→(Env→Upds→Nat→Prop)→Prop
 | [],n,env,h,K=>K env h n
 | f::fs,n,env,h,K=>(ez f.op.dst sz=true∧OpIs P all f.op (only f.looks env) (only f.rows h) n f.v f.u)∧dx P all sz fs (n+8) (f.envU++env) (f.u++h) K
def RegD (P:Program) (all:List Oper) (sz:Nat) (l:List Oper) (n:Nat) (env:Env) (h:Upds) (acc:List br) (K:Env→Upds→Nat→Prop):Prop :=
 ∃fs:List br,fs.map (·.op)=l∧mp [] [] (acc.reverse++fs)=true∧dx P all sz fs n env h K
section
variable {P : Program} {all l : List Oper} {sz n : Nat} {env : Env} {h : Upds} {acc : List br} {K : Env → Upds → Nat → Prop} {Q : Exit → St → Prop}
theorem A0 (hd:mp [] [] acc.reverse=true) (hk:Q .normal ⟨env,h,n,sz,64⟩):RegD P all sz [] n env h acc (RegK Q sz):=⟨[],rfl,by simpa using hd,hk⟩
theorem Cj {o:Oper} (f:br) (hop:f.op=o) (hd:ez o.dst sz=true) (ho:OpIs P all o (only f.looks env) (only f.rows h) n f.v f.u) (h1:RegD P all sz l (n+8) (f.envU++env) (f.u++h) (f::acc) K):RegD P all sz (o::l) n env h acc K:=by
 subst hop
 obtain⟨fs,rfl,h2,h3⟩:=h1
 exact⟨f::fs,rfl,by simpa using h2,⟨hd,ho⟩,h3⟩
theorem cT {d:Option Tmp} {op:Op} {ty:TypeId} {pos:String} {af:Array Edge} {gd:Option (Nat×Bool)} {v:Option AV} {u:Upds} {env':Env} {h':Upds} (looks rows:List Nat) (hd:ez d sz=true) (ho:OpIs P all ⟨d,op,ty,pos,af,gd⟩ (only looks env) (only rows h) n v u)
  (he:putE d v env=env') (hh:u++h=h') (h1:RegD P all sz l (n+8) env' h' (⟨⟨d,op,ty,pos,af,gd⟩,looks,rows,v,u⟩::acc) K):RegD P all sz (⟨d,op,ty,pos,af,gd⟩::l) n env h acc K:=by
 refine Cj ⟨⟨d,op,ty,pos,af,gd⟩,looks,rows,v,u⟩ rfl hd ho ?_
 have:br.envU ⟨⟨d,op,ty,pos,af,gd⟩,looks,rows,v,u⟩++env=env':=by rw[←he]; cases d <;> rfl
 rw[this,hh]
 exact h1
end
def accS {β:Type 1} (S:Nat→Bool):Nat→List (List (Nat×β))→List (Nat×β)→List (Nat×β)
 | _,[],e=>e
 | k,u::us,e=>accS S (k+1) us (bif S k then u++e else e)
section
variable {β : Type 1} {S S' : Nat → Bool}
theorem ea {t:Nat}:∀(us:List (List (Nat×β))) (k:Nat) (e e':List (Nat×β)),lk e t=lk e' t→(∀j u,us[j]?=some u→lk u t≠none→S (k+j)=S' (k+j))→lk (accS S k us e) t=lk (accS S' k us e') t
 | [],k,e,e',h,_=>h
 | u::us,k,e,e',h,hS=>by
  simp only[accS]
  refine ea us (k+1) _ _ ?_ fun j x hj hx=>by have:=hS (j+1) x (by simpa using hj) hx; rw[Nat.add_right_comm]; simpa[Nat.add_assoc]using this
  cases hu:lk u t with
  | none =>
   cases S k <;> cases S' k <;> simp only[cond_true,cond_false,dX,hu] <;> exact h
  | some x =>
   have:=hS 0 u rfl (by rw[hu]; exact fun e=>by cases e)
   simp only[Nat.add_zero]at this
   rw[this]
   cases S' k <;> simp only[cond_true,cond_false,dX,hu]
   exact h
theorem ue {t:Nat}:∀(us:List (List (Nat×β))) (k:Nat) (e:List (Nat×β)),(∀j u,us[j]?=some u→S (k+j)=true→lk u t=none)→lk (accS S k us e) t=lk e t
 | [],k,e,_=>rfl
 | u::us,k,e,hS=>by
  simp only[accS]
  rw[ue us (k+1) _ fun j x hj hx=>hS (j+1) x (by simpa using hj) (by rw[←hx]; congr 1; omega)]
  cases hk:S k
  ·rfl
  ·simp only[cond_true,dX,hS 0 u rfl (by simpa using hk)]
theorem pQ {t:Nat} {x:β} {u:List (Nat×β)}:∀(us:List (List (Nat×β))) (i k:Nat) (e:List (Nat×β)),us[i]?=some u→lk u t=some x→S (k+i)=true →
  (∀j u',us[j]?=some u'→i<j→S (k+j)=true→lk u' t=none)→lk (accS S k us e) t=some x
 | [],i,k,e,h,_,_,_=>by simp at h
 | y::us,0,k,e,h,hx,hi,hS=>by
  simp only[List.getElem?_cons_zero,Option.some.injEq]at h
  subst h
  simp only[accS]
  rw[ue us (k+1) _ fun j z hj hz=>hS (j+1) z (by simpa using hj) (by omega) (by rw[←hz]; congr 1; omega)]
  simp only[Nat.add_zero]at hi
  simp only[hi,cond_true,dX,hx]
 | y::us,i+1,k,e,h,hx,hi,hS=>by
  simp only[accS]
  exact pQ us i (k+1) _ (by simpa using h) hx (by rw[←hi]; congr 1; omega) fun j z hj hij hz=>hS (j+1) z (by simpa using hj) (by omega) (by rw[←hz]; congr 1; omega)
theorem oj {t:Nat} {u:List (Nat×β)} {us:List (List (Nat×β))} {i:Nat} {e:List (Nat×β)} (hu:us[i]?=some u) (hS:∀j,j≠i→S' j=S j) (hi':S' i=true)
  (hap:∀j u',us[j]?=some u'→i<j→S j=true→lk u t≠none→lk u' t=none):lk (accS S' 0 us e) t=lk (u++accS S 0 us e) t:=by
 rw[dX]
 cases hx:lk u t with
 | none =>
  refine ea us 0 e e rfl fun j x hj hne=>?_
  simp only[Nat.zero_add]
  refine hS j ?_
  rintro rfl
  rw[hu]at hj
  cases hj
  exact hne hx
 | some x =>
  refine pQ us i 0 e hu hx (by simpa using hi') fun j z hj hij hz=>?_
  rw[Nat.zero_add,hS j (by omega)]at hz
  exact hap j z hj hij hz (by rw[hx]; exact fun e=>by cases e)
end
theorem s9 {x:Nat} {l:List Nat}:memB x l=true↔x∈l:=by
 unfold memB
 rw[List.any_eq_true]
 constructor
 ·rintro⟨y,h1,h2⟩; rw[Nat.eq_of_beq_eq_true h2]; exact h1
 ·exact fun h=>⟨x,h,Nat.beq_refl x⟩
theorem cG {l m:List Nat} (h:fx l m=true):∀x,x∈l→x ∉ m:=by
 intro x hx hm
 have:=List.all_eq_true.1 h x hx
 rw[s9.2 hm]at this
 cases this
theorem cq {f g:br} (h:fa f g=true):fx f.dsts g.looks=true∧fx g.dsts f.looks=true∧fx f.dsts g.dsts=true ∧
  fx (aU f.u) g.rows=true∧fx (aU g.u) f.rows=true∧fx (aU f.u) (aU g.u)=true:=by
 unfold fa at h
 cases h1:fx f.dsts g.looks <;> simp only[h1,cond_true,cond_false,Bool.false_eq_true]at h
 cases h2:fx g.dsts f.looks <;> simp only[h2,cond_true,cond_false,Bool.false_eq_true]at h
 cases h3:fx f.dsts g.dsts <;> simp only[h3,cond_true,cond_false,Bool.false_eq_true]at h
 cases h4:fx (aU f.u) g.rows <;> simp only[h4,cond_true,cond_false,Bool.false_eq_true]at h
 cases h5:fx (aU g.u) f.rows <;> simp only[h5,cond_true,cond_false,Bool.false_eq_true]at h
 exact⟨rfl,rfl,rfl,rfl,rfl,h⟩
theorem ly {p:List Nat} {g:br}:∀(fs:List br) (k:Nat),jU p g k fs=true→∀i f,fs[i]?=some f→k+i∈p∨fa f g=true
 | [],k,_,i,f,h=>by simp at h
 | x::fs,k,hp,i,f,h=>by
  simp only[jU]at hp
  cases h1:memB k p <;> rw[h1]at hp <;> simp only[cond_true,cond_false]at hp
  ·cases h2:fa x g <;> rw[h2]at hp <;> simp only[cond_true,cond_false,Bool.false_eq_true]at hp
   cases i with
   | zero=>simp at h; subst h; exact .inr h2
   | succ i =>
    have:=ly fs (k+1) hp i f (by simpa using h)
    rwa [show k+1+i=k+(i+1) by omega]at this
  ·cases i with
   | zero=>exact .inl (by simpa using s9.1 h1)
   | succ i =>
    have:=ly fs (k+1) hp i f (by simpa using h)
    rwa [show k+1+i=k+(i+1) by omega]at this
theorem ig {k:Nat}:∀(es:List Edge),dY k es=true→∀e∈es,fI e=true→e.on<k
 | [],_,e,h,_=>by simp at h
 | x::es,hb,e,h,he=>by
  simp only[dY]at hb
  rcases List.mem_cons.1 h with rfl | h
  ·rw[he]at hb
   simp only[cond_true]at hb
   cases h1:Nat.blt e.on k
   ·rw[h1]at hb; cases hb
   ·exact Nat.le_of_ble_eq_true h1
  ·cases h1:fI x <;> rw[h1]at hb <;> simp only[cond_true,cond_false]at hb
   ·exact ig es hb e h he
   ·cases h2:Nat.blt x.on k <;> rw[h2]at hb <;> simp only[cond_true,cond_false,Bool.false_eq_true]at hb
    exact ig es hb e h he
theorem lw {ps:List (List Nat)}:∀(es:List Edge) (i:Nat),i∈eL ps es→∃e∈es,fI e=true∧(i=e.on∨∃p,ps[e.on]?=some p∧i∈p)
 | [],i,h=>by simp[eL]at h
 | x::es,i,h=>by
  simp only[eL]at h
  cases h1:fI x <;> rw[h1]at h <;> simp only[cond_true,cond_false]at h
  ·obtain⟨e,h2,h3⟩:=lw es i h
   exact⟨e,List.mem_cons_of_mem _ h2,h3⟩
  ·rcases List.mem_cons.1 h with rfl | h
   ·exact⟨x,List.mem_cons_self,h1,.inl rfl⟩
   ·rcases List.mem_append.1 h with h | h
    ·refine⟨x,List.mem_cons_self,h1,.inr ?_⟩
     cases hp:ps[x.on]? with
     | none=>rw[hp]at h; simp at h
     | some p=>rw[hp]at h; exact⟨p,rfl,by simpa using h⟩
    ·obtain⟨e,h2,h3⟩:=lw es i h
     exact⟨e,List.mem_cons_of_mem _ h2,h3⟩
structure ss (fs:List br) (pr:Nat→List Nat):Prop where
 back:∀j g,fs[j]?=some g→∀e∈g.op.after.toList,fI e=true→e.on<j
 pred:∀j g,fs[j]?=some g→∀i,i∈pr j→∃e∈g.op.after.toList,fI e=true∧(i=e.on∨i∈pr e.on)
 pair:∀i j f g,fs[i]?=some f→fs[j]?=some g→i<j→i∈pr j∨fa f g=true
theorem kM:∀(gs:List br) (ps:List (List Nat)) (seen:List br),ps.length=seen.length→mp ps seen gs=true→ss seen (fun j=>ps[j]?.getD [])→∃pr,ss (seen++gs) pr
 | [],ps,seen,hl,_,h=>⟨_,by simpa using h⟩
 | g::gs,ps,seen,hl,hd,h=>by
  simp only[mp]at hd
  cases h1:dY ps.length g.op.after.toList <;> rw[h1]at hd <;> simp only[cond_true,cond_false,Bool.false_eq_true]at hd
  cases h2:jU (eL ps g.op.after.toList) g 0 seen <;> rw[h2]at hd <;> simp only[cond_true,cond_false,Bool.false_eq_true]at hd
  have hnew:ss (seen++[g]) (fun j=>(ps++[eL ps g.op.after.toList])[j]?.getD []):=by
   have hold:∀j,j<seen.length→(ps++[eL ps g.op.after.toList])[j]?.getD []=ps[j]?.getD []:=fun j hj=>by
    rw[List.getElem?_append_left (by omega)]
   have hlast:(ps++[eL ps g.op.after.toList])[seen.length]?.getD []=eL ps g.op.after.toList:=by
    rw[List.getElem?_append_right (by omega),hl,Nat.sub_self]; rfl
   have hcases:∀j x,(seen++[g])[j]?=some x→(j<seen.length∧seen[j]?=some x)∨(j=seen.length∧x=g):=fun j x hj=>by
    rcases Nat.lt_or_ge j seen.length with hlt | hge
    ·rw[List.getElem?_append_left hlt]at hj; exact .inl ⟨hlt,hj⟩
    ·rw[List.getElem?_append_right hge]at hj
     have hlt:=(List.getElem?_eq_some_iff.1 hj).1
     simp at hlt
     have:j-seen.length=0:=by omega
     rw[this]at hj
     simp at hj
     exact .inr ⟨by omega,hj.symm⟩
   refine⟨fun j x hj e he hb=>?_,fun j x hj i hi=>?_,fun i j f x hf hj hij=>?_⟩
   ·rcases hcases j x hj with ⟨_,hj⟩ | ⟨rfl,rfl⟩
    ·exact h.back j x hj e he hb
    ·rw[←hl]; exact ig _ h1 e he hb
   ·rcases hcases j x hj with ⟨hlt,hj⟩ | ⟨rfl,rfl⟩
    ·simp only[hold j hlt]at hi
     obtain⟨e,h3,h4,h5⟩:=h.pred j x hj i hi
     refine⟨e,h3,h4,h5.imp id fun h5=>?_⟩
     simp only[hold e.on (by have:=h.back j x hj e h3 h4; omega)]
     exact h5
    ·simp only[hlast]at hi
     obtain⟨e,h3,h4,h5⟩:=lw _ i hi
     refine⟨e,h3,h4,h5.imp id fun⟨p,hp,hip⟩=>?_⟩
     have hlt:=(List.getElem?_eq_some_iff.1 hp).1
     simp only[hold e.on (by omega),hp]
     exact hip
   ·rcases hcases j x hj with ⟨hlt,hj⟩ | ⟨rfl,rfl⟩
    ·rcases hcases i f hf with ⟨_,hf⟩ | ⟨hi,_⟩
     ·simp only[hold j hlt]; exact h.pair i j f x hf hj hij
     ·omega
    ·rcases hcases i f hf with ⟨_,hf⟩ | ⟨hi,_⟩
     ·simp only[hlast]
      simpa using ly seen 0 h2 i f hf
     ·omega
  obtain⟨pr,hpr⟩:=kM gs _ (seen++[g]) (by simp[hl]) hd hnew
  exact⟨pr,by simpa using hpr⟩
theorem mU {p q:Nat→Bool} (hpq:∀x,q x=true→p x=true):∀(l:List Nat) (i:Nat),i∈l→p i=true→q i=false→(l.filter q).length<(l.filter p).length
 | [],i,h,_,_=>by simp at h
 | x::l,i,h,h1,h2=>by
  have hle:∀l:List Nat,(l.filter q).length≤(l.filter p).length:=by
   intro l
   induction l with
   | nil=>simp
   | cons y l ih =>
    cases hq:q y
    ·rw[List.filter_cons_of_neg (by simp[hq])]
     cases hp:p y
     ·rw[List.filter_cons_of_neg (by simp[hp])]; exact ih
     ·rw[List.filter_cons_of_pos (by simp[hp])]; simp; omega
    ·rw[List.filter_cons_of_pos (by simp[hq]),List.filter_cons_of_pos (by simp[hpq y hq])]; simpa using ih
  rcases List.mem_cons.1 h with rfl | h
  ·rw[List.filter_cons_of_neg (by simp[h2]),List.filter_cons_of_pos (by simp[h1])]
   have:=hle l
   simp; omega
  ·have ih:=mU hpq l i h h1 h2
   cases hq:q x
   ·rw[List.filter_cons_of_neg (by simp[hq])]
    cases hp:p x
    ·rw[List.filter_cons_of_neg (by simp[hp])]; exact ih
    ·rw[List.filter_cons_of_pos (by simp[hp])]; simp; omega
   ·rw[List.filter_cons_of_pos (by simp[hq]),List.filter_cons_of_pos (by simp[hpq x hq])]; simpa using ih
theorem aA.congr {C:Ctx} {G:Nat→Prop} {st st':St} {σ:aB} {w:World} {a:Act} (h:aA C G st σ w a) (he:∀t,lk st'.env t=lk st.env t) (hh:∀t,lk st'.heap t=lk st.heap t) (hs:st'.sz=st.sz) (hb:st'.bs=st.bs):aA C G st' σ w a:=by
 have hr:∀r,st'.row r=st.row r:=fun r=>by simp only[St.row,hh]
 have hX:st'.X C.X0 σ=st.X C.X0 σ:=by funext b; simp only[St.X,hr]
 exact {
  env:=fun i v hi=>by rw[hX]; exact h.env i v (by rw[←he]; exact hi)
  envG:=fun i v hi=>h.envG i v (by rw[←he]; exact hi)
  rows:=fun r row hi=>by rw[hX]; exact h.rows r row (by rw[←hr]; exact hi)
  rowsG:=fun r row hi=>h.rowsG r row (by rw[←hr]; exact hi)
  inj:=fun r r' row row' b c c' h1 h2=>h.inj r r' row row' b c c' (by rw[←hr]; exact h1) (by rw[←hr]; exact h2)
  high:=fun r row b c h1=>h.high r row b c (by rw[←hr]; exact h1)
  size:=h.size
  below:=h.below
  defers:=h.defers
  sz:=by rw[hs]; exact h.sz
  x0:=h.x0
  agree:=h.agree
  baseG:=h.baseG
  bs:=hb.trans h.bs
  rok:=h.rok
  glob:=h.glob }
theorem kb {β:Type 1} {S:Nat→Bool}:∀(us:List (List (Nat×β))) (k:Nat) (e:List (Nat×β)),(∀j,k≤j→S j=false)→accS S k us e=e
 | [],_,_,_=>rfl
 | u::us,k,e,h=>by
  simp only[accS,h k (Nat.le_refl _),cond_false]
  exact kb us (k+1) e fun j hj=>h j (by omega)
section
variable {P : Program} {all : List Oper} {sz : Nat} {K : Env → Upds → Nat → Prop}
theorem dx.at:∀(fs:List br) (k n:Nat) (env:Env) (h:Upds),dx P all sz fs n env h K→∀i f,fs[i]?=some f→ez f.op.dst sz=true ∧
  OpIs P all f.op (only f.looks (accS (fun j=>Nat.blt j (k+i)) k (fs.map (·.envU)) env)) (only f.rows (accS (fun j=>Nat.blt j (k+i)) k (fs.map (·.u)) h)) (n+8*i) f.v f.u
 | [],k,n,env,h,_,i,f,hi=>by simp at hi
 | x::fs,k,n,env,h,hf,0,f,hi=>by
  simp only[List.getElem?_cons_zero,Option.some.injEq]at hi
  subst hi
  have hoff:∀j,k≤j→Nat.blt j (k+0)=false:=fun j hj=>by
   cases hb:Nat.blt j (k+0)
   ·rfl
   ·have:=Nat.le_of_ble_eq_true hb; omega
  rw[kb _ k env hoff,kb _ k h hoff]
  exact hf.1
 | x::fs,k,n,env,h,hf,i+1,f,hi=>by
  have:=dx.at fs (k+1) (n+8) _ _ hf.2 i f (by simpa using hi)
  have hk:Nat.blt k (k+(i+1))=true:=Nat.ble_eq_true_of_le (by omega)
  simp only[List.map_cons,accS,hk,cond_true]
  rw[show k+(i+1)=k+1+i by omega,show n+8*(i+1)=n+8+8*i by omega]
  exact this
theorem dx.end:∀(fs:List br) (k n:Nat) (env:Env) (h:Upds),dx P all sz fs n env h K →
  K (accS (fun _=>true) k (fs.map (·.envU)) env) (accS (fun _=>true) k (fs.map (·.u)) h) (n+8*fs.length)
 | [],k,n,env,h,hf=>hf
 | x::fs,k,n,env,h,hf=>by
  have:=dx.end fs (k+1) (n+8) _ _ hf.2
  simp only[List.map_cons,accS,cond_true,List.length_cons]
  rw[show n+8*(fs.length+1)=n+8+8*fs.length by omega]
  exact this
theorem ky {f:br} {t:Nat} (h:lk f.envU t≠none):t∈f.dsts:=by
 unfold br.envU at h
 unfold br.dsts
 cases hd:f.op.dst with
 | none=>rw[hd]at h; exact absurd rfl h
 | some d =>
  rw[hd]at h
  simp only[aN]at h
  by_cases he:d=t
  ·simp[he]
  ·rw[if_neg he]at h; exact absurd rfl h
theorem nf {i j:Nat} (h:i<j):Nat.blt j i=false:=by
 cases hb:Nat.blt j i
 ·rfl
 ·have:=Nat.le_of_ble_eq_true hb; omega
theorem lk_keys' {β:Type 1} {l:List (Nat×β)} {r:Nat} (h:lk l r≠none):r∈aU l:=by
 cases hx:lk l r with
 | none=>exact absurd hx h
 | some v=>exact jg l r v hx
theorem Bt (hm:P.follows .mixedOrders=true) {id n:Nat} {ops:Array Oper} {Q:Exit→St→Prop} {env:Env} {h:Upds} (hd:RegD P ops.toList sz ops.toList n env h [] (RegK Q sz)):WC P sz (.region id ops true) Q env h n:=by
 intro C σ w a hst
 obtain⟨fs,hfs,hdr,hok⟩:=hd
 obtain⟨pr,hD⟩:=kM fs [] [] rfl (by simpa using hdr) ⟨fun j g hj=>by simp at hj,fun j g hj=>by simp at hj,fun i j f g hi=>by simp at hi⟩
 simp only[List.nil_append]at hD
 have hop:∀(i:Nat) (o:Oper),ops[i]?=some o→∃f:br,fs[i]?=some f∧f.op=o:=fun i o hi=>by
  have h1:(fs.map (·.op))[i]?=some o:=by rw[hfs]; simpa using hi
  simpa using h1
 have hlen:fs.length=ops.size:=by have:=congrArg List.length hfs; simpa using this
 have hop':∀(i:Nat) (f:br),fs[i]?=some f→ops[i]?=some f.op:=fun i f hi=>by
  have h1:(fs.map (·.op))[i]?=some f.op:=by simp[hi]
  rw[hfs]at h1; simpa using h1
 refine wpIn_region_any hm ?_
 let S (listed:Array Bool):Nat→Bool:=fun i=>listed.getD i false
 let stOf (listed:Array Bool):St:=⟨accS (S listed) 0 (fs.map (·.envU)) env,accS (S listed) 0 (fs.map (·.u)) h,0,sz,64⟩
 have key:∀(fuel:Nat) (listed:Array Bool) (a:Act) (w:World) (σ:aB) (G:Nat→Prop),listed.size=ops.size→(∀j g,fs[j]?=some g→S listed j=true→∀e∈g.op.after.toList,fI e=true→S listed e.on=true) →
   aA C G (stOf listed) σ w a→(∀r,G r→r<n∨∃i,S listed i=true∧n+8*i≤r∧r<n+8*i+8)→((List.range ops.size).filter fun i => !S listed i).length≤fuel →
   wpAnyIn (fen C.ro) 0 P .any ops (Lift C Q) fuel listed a w:=by
  have hdone:∀(listed:Array Bool) (a:Act) (w:World) (σ:aB) (G:Nat→Prop),listed.size=ops.size→aA C G (stOf listed) σ w a→(∀r,G r→r<n∨∃i,S listed i=true∧n+8*i≤r∧r<n+8*i+8) →
    (∀i,i<ops.size→S listed i=true)→Lift C Q .normal a w:=by
   intro listed a w σ G hsz hst hG hall
   refine⟨_,σ,dx.end fs 0 n env h hok,?_⟩
   have hcong:∀ {β:Type 1} (g:br→List (Nat×β)) (e:List (Nat×β)) (t:Nat),lk (accS (fun _=>true) 0 (fs.map g) e) t=lk (accS (S listed) 0 (fs.map g) e) t:=fun g e t =>
    ea _ 0 _ _ rfl fun j u hj _=>by
     have hlt:=(List.getElem?_eq_some_iff.1 hj).1
     simp at hlt
     rw[Nat.zero_add,hall j (by omega)]
   have h2:=(hst.grow (G':=fun r=>r<n+8*fs.length) fun r hr=>by
    rcases hG r hr with h1 | ⟨i,h1,h2,h3⟩
    ·omega
    ·have:i<listed.size:=by
      rcases Nat.lt_or_ge i listed.size with h4 | h4
      ·exact h4
      ·simp[S,h4]at h1
     omega)
   exact h2.congr (fun t=>hcong _ env t) (fun t=>hcong _ h t) rfl rfl
  have hready:∀(listed:Array Bool),listed.size=ops.size→Region.ready .any ops listed=[] → ∀i,i<ops.size→S listed i=true:=by
   intro listed hsz hr i
   induction i using Nat.strongRecOn with
   | _ i ih =>
    intro hi
    cases hS:S listed i
    ·exfalso
     have:i∈Region.ready .any ops listed:=by
      refine mem_ready.2 ⟨?_,ops[i],by simp[hi],fun e he hb=>?_⟩
      ·simp only[S,Array.getD_eq_getD_getElem?]at hS ⊢
       have:i<listed.size:=by omega
       simp[this]at hS ⊢
       exact hS
      ·obtain⟨f,hf,hfo⟩:=hop i ops[i] (by simp[hi])
       have hlt:=hD.back i f hf e (by rw[hfo]; simpa using he) hb
       exact ih e.on hlt (by omega)
     rw[hr]at this
     simp at this
    ·rfl
  intro fuel
  induction fuel with
  | zero =>
   intro listed a w σ G hsz hcl hst hG hcnt
   have hall:∀i,i<ops.size→S listed i=true:=fun i hi=>by
    have h0:((List.range ops.size).filter fun i => !S listed i)=[]:=List.eq_nil_of_length_eq_zero (by omega)
    have:=List.filter_eq_nil_iff.1 h0 i (List.mem_range.2 hi)
    simpa using this
   refine⟨?_,hdone listed a w σ G hsz hst hG hall⟩
   refine List.eq_nil_iff_forall_not_mem.2 fun i hi=>?_
   obtain⟨h0,o,ho,_⟩:=mem_ready.1 hi
   have hlt:i<ops.size:=(Array.getElem?_eq_some_iff.1 ho).1
   have:=hall i hlt
   have hlt':i<listed.size:=by omega
   simp only[S,Array.getD_eq_getD_getElem?]at this h0
   simp[hlt']at this h0
   rw[this]at h0; cases h0
  | succ fuel ih =>
   intro listed a w σ G hsz hcl hst hG hcnt
   refine⟨fun hr=>hdone listed a w σ G hsz hst hG (hready listed hsz hr),fun i hi=>?_⟩
   obtain⟨h0,o,ho,hpre⟩:=mem_ready.1 hi
   have hlt:i<ops.size:=(Array.getElem?_eq_some_iff.1 ho).1
   have hSi:S listed i=false:=by
    have hlt':i<listed.size:=by omega
    simp only[S,Array.getD_eq_getD_getElem?]at h0 ⊢
    simp[hlt']at h0 ⊢
    exact h0
   obtain⟨f,hf,hfo⟩:=hop i o ho
   subst hfo
   obtain⟨hdst,hOp⟩:=dx.at fs 0 n env h hok i f hf
   have hclos:∀j g,fs[j]?=some g→S listed j=true→∀k,k∈pr j→S listed k=true:=by
    intro j
    induction j using Nat.strongRecOn with
    | _ j ihj =>
     intro g hg hSj k hk
     obtain⟨e,he,hb,hor⟩:=hD.pred j g hg k hk
     have h1:=hcl j g hg hSj e he hb
     rcases hor with rfl | hk'
     ·exact h1
     ·have hlt:=hD.back j g hg e he hb
      have hjl:=(List.getElem?_eq_some_iff.1 hg).1
      exact ihj e.on hlt _ (List.getElem?_eq_getElem (by omega)) h1 k hk'
   have hpri:∀k,k∈pr i→S listed k=true:=fun k hk=>by
    obtain⟨e,he,hb,hor⟩:=hD.pred i f hf k hk
    have h1:S listed e.on=true:=hpre e (by simpa using he) hb
    rcases hor with rfl | hk'
    ·exact h1
    ·have hlt:=hD.back i f hf e he hb
     exact hclos e.on _ (List.getElem?_eq_getElem (by omega)) h1 k hk'
   have hap:∀j g,fs[j]?=some g→S listed j≠Nat.blt j i→(j<i∧fa g f=true)∨(i<j∧S listed j=true∧fa f g=true):=by
    intro j g hg hne
    rcases Nat.lt_trichotomy j i with hji | rfl | hij
    ·refine .inl ⟨hji,?_⟩
     rcases hD.pair j i g f hg hf hji with h1 | h1
     ·exfalso
      have:=hpri j h1
      rw[this,show Nat.blt j i=true from Nat.ble_eq_true_of_le hji]at hne
      exact hne rfl
     ·exact h1
    ·exfalso
     apply hne
     rw[hSi]
     cases hb:Nat.blt j j
     ·rfl
     ·have:=Nat.le_of_ble_eq_true hb; omega
    ·refine .inr ⟨hij,?_⟩
     have hSj:S listed j=true:=by
      cases hs:S listed j
      ·exfalso
       apply hne
       rw[hs]
       cases hb:Nat.blt j i
       ·rfl
       ·have:=Nat.le_of_ble_eq_true hb; omega
      ·rfl
     refine⟨hSj,?_⟩
     rcases hD.pair i j f g hf hg hij with h1 | h1
     ·have:=hclos j g hg hSj i h1
      rw[hSi]at this; cases this
     ·exact h1
   have hget:∀ {β:Type 1} (q:br→List (Nat×β)) j u,(fs.map q)[j]?=some u→∃g,fs[j]?=some g∧q g=u:=fun q j u hj=>by
    rw[List.getElem?_map]at hj
    cases hg:fs[j]? with
    | none=>rw[hg]at hj; cases hj
    | some g=>rw[hg]at hj; exact⟨g,by first | exact hg | rfl,by simpa using hj⟩
   have henv:∀t,t∈f.looks→lk (accS (fun j=>Nat.blt j (0+i)) 0 (fs.map (·.envU)) env) t=lk (accS (S listed) 0 (fs.map (·.envU)) env) t:=fun t ht =>
    ea _ 0 _ _ rfl fun j u hj hne=>by
     obtain⟨g,hg,rfl⟩:=hget _ j u hj
     simp only[Nat.zero_add]
     by_cases hs:S listed j=Nat.blt j i
     ·exact hs.symm
     ·exfalso
      have hmem:=ky hne
      rcases hap j g hg hs with ⟨_,h1⟩ | ⟨_,_,h1⟩
      ·exact cG (cq h1).1 t hmem ht
      ·exact cG (cq h1).2.1 t hmem ht
   have hrow:∀t,t∈f.rows→lk (accS (fun j=>Nat.blt j (0+i)) 0 (fs.map (·.u)) h) t=lk (accS (S listed) 0 (fs.map (·.u)) h) t:=fun t ht =>
    ea _ 0 _ _ rfl fun j u hj hne=>by
     obtain⟨g,hg,rfl⟩:=hget _ j u hj
     simp only[Nat.zero_add]
     by_cases hs:S listed j=Nat.blt j i
     ·exact hs.symm
     ·exfalso
      have hmem:=lk_keys' hne
      rcases hap j g hg hs with ⟨_,h1⟩ | ⟨_,_,h1⟩
      ·exact cG (cq h1).2.2.2.1 t hmem ht
      ·exact cG (cq h1).2.2.2.2.1 t hmem ht
   have hagree:fY (only f.looks (accS (fun j=>Nat.blt j (0+i)) 0 (fs.map (·.envU)) env)) (only f.rows (accS (fun j=>Nat.blt j (0+i)) 0 (fs.map (·.u)) h)) (stOf listed):=by
    refine⟨fun t v ht=>?_,fun r row hr=>?_⟩
    ·obtain⟨h1,h2⟩:=gU _ t v ht
     rw[henv t h1]at h2
     exact h2
    ·simp only[aQ]at hr
     split at hr <;> try (cases hr; done)
     rename_i row' hl
     simp only[Option.some.injEq]at hr
     subst hr
     obtain⟨h1,h2⟩:=gU _ r _ hl
     rw[hrow r h1]at h2
     simp only[St.row,stOf,h2]
     rfl
   have hfresh:∀r,n+8*i≤r→r<n+8*i+8→¬G r:=fun r h1 h2 h3=>by
    rcases hG r h3 with h4 | ⟨k,h4,h5,h6⟩
    ·omega
    ·have:k=i:=by omega
     subst this
     rw[hSi]at h4; cases h4
   have hS':∀j,j≠i→S (listed.setIfInBounds i true) j=S listed j:=fun j hj=>getD_set_ne false (Ne.symm hj)
   have hSi':S (listed.setIfInBounds i true) i=true:=by
    have hlt':i<listed.size:=by omega
    simp only[S,Array.getD_eq_getD_getElem?]
    simp[hlt']
   have hmono:∀j,S listed j=true→S (listed.setIfInBounds i true) j=true:=fun j hj=>getD_set_true hj
   have hrest:=hOp C G (stOf listed) σ w a hagree (eG hdst) hst hfresh rfl (wpAnyIn (fen C.ro) 0 P .any ops (Lift C Q) fuel (listed.setIfInBounds i true)) (Lift C Q) (by
    intro x w' σ' G' hst' _ hG'
    refine ih (listed.setIfInBounds i true) (a.put f.op.dst x) w' σ' G' (by simpa using hsz) ?_ ?_ ?_ ?_
    ·intro j g hg hSj e he hb
     by_cases hji:j=i
     ·subst hji
      rw[hf]at hg
      cases hg
      exact hmono _ (hpre e (by simpa using he) hb)
     ·rw[hS' j hji]at hSj
      exact hmono _ (hcl j g hg hSj e he hb)
    ·refine hst'.congr (fun t=>?_) (fun t=>?_) ?_ ?_
     ·have hput:lk ((stOf listed).put f.op.dst f.v f.u).env t=lk (f.envU++(stOf listed).env) t:=by
       unfold br.envU
       cases f.op.dst <;> cases f.v <;> rfl
      rw[hput]
      refine oj (u:=f.envU) (i:=i) (by simp[hf]) hS' hSi' fun j u hj hij hSj hne=>?_
      obtain⟨g,hg,rfl⟩:=hget _ j u hj
      cases hn:lk g.envU t with
      | none=>rfl
      | some z =>
       exfalso
       rcases hap j g hg (by rw[hSj,nf hij]; exact fun e=>by cases e)with ⟨h1,_⟩ | ⟨_,_,h1⟩
       ·omega
       ·exact cG (cq h1).2.2.1 t (ky hne) (ky (by rw[hn]; exact fun e=>by cases e))
     ·have hput:((stOf listed).put f.op.dst f.v f.u).heap=f.u++(stOf listed).heap:=by
       cases f.op.dst <;> cases f.v <;> rfl
      rw[hput]
      refine oj (u:=f.u) (i:=i) (by simp[hf]) hS' hSi' fun j u hj hij hSj hne=>?_
      obtain⟨g,hg,rfl⟩:=hget _ j u hj
      cases hn:lk g.u t with
      | none=>rfl
      | some z =>
       exfalso
       rcases hap j g hg (by rw[hSj,nf hij]; exact fun e=>by cases e)with ⟨h1,_⟩ | ⟨_,_,h1⟩
       ·omega
       ·exact cG (cq h1).2.2.2.2.2 t (lk_keys' hne) (lk_keys' (by rw[hn]; exact fun e=>by cases e))
     ·cases f.op.dst <;> cases f.v <;> rfl
     ·cases f.op.dst <;> cases f.v <;> rfl
    ·intro r hr
     rcases hG' r hr with h1 | h1
     ·rcases hG r h1 with h2 | ⟨k,h2,h3⟩
      ·exact .inl h2
      ·exact .inr ⟨k,hmono k h2,h3⟩
     ·exact .inr ⟨i,hSi',h1.1,h1.2⟩
    ·have:=mU (p:=fun i => !S listed i) (q:=fun j => !S (listed.setIfInBounds i true) j) (fun x hx=>by
      simp only[Bool.not_eq_true']at hx ⊢
      cases hs:S listed x
      ·rfl
      ·rw[hmono x hs]at hx; cases hx) (List.range ops.size) i (List.mem_range.2 hlt) (by simp[hSi]) (by simp[hSi'])
     omega)
   unfold wpOpIn
   rw[ho]
   have hall:ops.toList.toArray=ops:=by simp
   rw[hall]at hrest
   by_cases hw:Region.wanted f.op (yielded ops a.tmps)=true
   ·simp only[hw,if_true]at hrest ⊢
    exact hrest
   ·simp only[hw]at hrest ⊢
    exact⟨fun _ _=>trivial,hrest⟩
 have hrep:∀i,S (Array.replicate ops.size false) i=false:=fun i=>by
  simp only[S,Array.getD_eq_getD_getElem?]
  rcases Nat.lt_or_ge i ops.size with h1 | h1
  ·simp[h1]
  ·simp[h1]
 refine key ops.size _ a _ σ (fun r=>r<n) (by simp) ?_ ?_ ?_ ?_
 ·intro j g _ hSj
  rw[hrep]at hSj; cases hSj
 ·have h0:∀ {β:Type 1} (us:List (List (Nat×β))) (e:List (Nat×β)),accS (S (Array.replicate ops.size false)) 0 us e=e:=fun us e=>kb us 0 e fun j _=>hrep j
  have h1:=hst.drew
  exact h1.congr (fun t=>by simp only[stOf,h0]) (fun t=>by simp only[stOf,h0]) rfl rfl
 ·intro r hr; exact .inl hr
 ·have:=List.length_filter_le (fun i => !S (Array.replicate ops.size false) i) (List.range ops.size)
  simpa using this
end
end Go.Eng
namespace Go.Eng
open Go.RowKit
theorem tD (C:List Value) (off:Nat):∀(l:List Value) (k:Nat) (A m:List Value),A.length=off+k→m.length=l.length →
  (l.zipIdx k).foldl (fun cs (x:Value×Nat)=>cs.setIfInBounds (off+x.2) x.1) (A++m++C).toArray=(A++l++C).toArray
 | [],k,A,m,_,hm=>by
  have:m=[]:=List.eq_nil_of_length_eq_zero (by simpa using hm)
  subst this; rfl
 | v::l,k,A,[],_,hm=>by simp at hm
 | v::l,k,A,u::m,hA,hm=>by
  simp only[List.zipIdx_cons,List.foldl_cons]
  have h1:(A++u::m++C).toArray.setIfInBounds (off+k) v=((A++[v])++m++C).toArray:=by
   apply Array.ext'
   rw[Array.toList_setIfInBounds]
   simp only[List.append_assoc,List.cons_append]
   rw[←hA,List.set_append_right _ _ (Nat.le_refl _),Nat.sub_self]
   simp
  rw[h1,tD C off l (k+1) (A++[v]) m (by simp[hA]; omega) (by simpa using hm)]
  simp
def j7 (T:Tab) (offs:List (Nat×Nat)) (ev:Operand→Option AV):List (Nat×Operand)→AV→Option AV
 | [],z=>some z
 | (i,x)::l,z=>match ev x,offs[i]? with
  | some v,some (o,t)=>match z.chainAt i o with
   | some u=>bif bz T t v then (bif Nat.beq u.size v.size then (bif u.isAgg==v.isAgg then j7 T offs ev l (AV.chainSet v i z) else none) else none) else none
   | none=>none
  | _,_=>none
theorem AUpd.one {z u v:AV} {i o:Nat} (h:z.chainAt i o=some u) (hs:u.size=v.size) (ha:u.isAgg=v.isAgg):AUpd z [.fld i o] v (AV.chainSet v i z):=by
  cases z with
  | d x =>
    have h':=h
    simp only[AV.chainAt,Option.map_eq_some_iff]at h'
    obtain⟨y,hy,rfl⟩:=h'
    cases v with
    | d q =>
      refine⟨x.chainSet i q,?_,D.chainSet_d i x q o y hy⟩
      cases x <;> first
        | (cases i <;> simp[D.chainAt]at hy; done)
        | (simp only[Upd,Step.ix,Step.off]
           rw[hy]
           exact⟨q,⟨hs,ha,rfl⟩,rfl⟩)
    | _ =>
      simp only[AUpd,Step.ix,Step.off]
      rw[h]
      exact⟨_,⟨hs,ha,rfl⟩,rfl⟩
  | acons p q =>
    cases v <;>
    · simp only[AUpd,Step.ix,Step.off]
      rw[h]
      exact⟨_,⟨hs,ha,rfl⟩,rfl⟩
  | _=>simp[AV.chainAt]at h
section
variable {P : Program} {T : Tab} {sz : Nat} {env : Env} {h : Upds} {n : Nat}
theorem gk (hT:aj P T) {C:Ctx} {G:Nat→Prop} {st:St} {σ:aB} {w:World} {a:Act} (hst:aA C G st σ w a) (hA:fY env h st) {offs:List (Nat×Nat)} {pl:Nat→Option (Nat×Nat)} (hpl:∀(k o t:Nat) (r:TyR),offs[k]?=some (o,t)→lk T t=some r→pl k=some (o,r.size)) :
  ∀(l:List (Nat×Operand)) (z q:AV) (cs:List Value),j7 T offs (ai env) l z=some q→z.flat=true→z.within G→Rel σ w (st.X C.X0 σ) z false cs →
   ∃cs',Instr.fill pl cs.toArray (l.map fun x=>(x.1,a.eval x.2))=some cs'.toArray∧Rel σ w (st.X C.X0 σ) q false cs'∧q.flat=true∧q.within G
 | [],z,q,cs,hq,hf,hg,hr=>by
  simp only[j7,Option.some.injEq]at hq
  subst hq
  exact⟨cs,rfl,hr,hf,hg⟩
 | (i,x)::l,z,q,cs,hq,hf,hg,hr=>by
  simp only[j7]at hq
  split at hq <;> try (cases hq; done)
  rename_i v o t' hv ho
  split at hq <;> try (cases hq; done)
  rename_i u hu
  cases h1:bz T t' v <;> rw[h1]at hq <;> simp only[cond_true,cond_false]at hq
  ·cases hq
  cases h2:Nat.beq u.size v.size <;> rw[h2]at hq <;> simp only[cond_true,cond_false]at hq
  ·cases hq
  cases h3:(u.isAgg==v.isAgg) <;> rw[h3]at hq <;> simp only[cond_true,cond_false]at hq
  ·cases hq
  have h2:=Nat.eq_of_beq_eq_true h2
  have h3:u.isAgg=v.isAgg:=by simpa using h3
  obtain⟨r,hr1,hr2,hvf,_⟩:=bz.out h1
  obtain⟨hv1,hv2⟩:=ak hst (hA.ev hv)
  have hvc:=RelV.cells hvf hv1
  have hup:=AUpd.one hu h2 h3
  obtain⟨A,m,C',⟨rfl,hAl⟩,hml,hnew⟩:=AUpd.cells _ _ _ _ _ _ hf hvf hup hr hvc
  have hp:=hpl i o t' r ho hr1
  have hl:=Rel.len _ _ hvf hvc
  obtain⟨cs',hfill,h5⟩:=gk hT hst hA hpl l _ q _ hq (AUpd.flat _ _ _ _ hf hvf hup) (AV.within.set _ _ _ hv2 hg) hnew
  refine⟨cs',?_,h5⟩
  simp only[List.map_cons,Instr.fill,hp]
  have hsz:(a.eval x).cells.size=r.size:=by rw[hr2,←hl]; simp
  simp only[aV,Step.off,Nat.add_zero]at hAl
  rw[if_neg (by
   simp only[hsz,ne_eq,not_true,decide_false,Bool.false_or,decide_eq_true_eq]
   have:m.length=r.size:=by rw[hml,hl,hr2]
   simp; omega)]
  rw[←hfill]
  congr 1
  rw[←Array.foldl_toList]
  have:=tD C' o (a.eval x).cells.toList 0 A m (by simpa using hAl) hml
  simpa using this
theorem uF (hT:aj P T) {gs:List Field} (hi:∀g∈gs,∃i,P.info? g.type=some i) (w:World) :
  (gs.mapM fun f=>do pure (f.offset,←sizeOf f.type):Sem (List (Nat×Nat))).run P w=.ok (gs.map fun f=>(f.offset,P.cellsOf f.type)) w:=by
 induction gs with
 | nil=>simp
 | cons g gs ih =>
  obtain⟨i,hgi⟩:=hi g (by simp)
  have ih:=ih (fun x hx=>hi x (by simp[hx]))
  have hs:(sizeOf g.type).run P w=.ok (P.cellsOf g.type) w:=by simp[sizeOf,typeInfo,hgi,Program.cellsOf]
  rw[List.mapM_cons]
  simp only[Sem.run_bind,hs,Result.andThen_ok,Sem.run_pure,List.map_cons]
  rw[ih]
  rfl
theorem aK (hT:aj P T) {t:TypeId} {r:TyR} {offs:List (Nat×Nat)} {parts:Array (Nat×Operand)} {q:AV} (ht:lk T t=some r) (hd:r.desc=.struct offs) (hq:j7 T offs (ai env) parts.toList (.d r.zero)=some q) (hag:q.isAgg=true) :
  ab P (.build t parts) env h n (some q) []:=.of_comes fun C G st σ w a o ho hA hdst hst hn=>by
 obtain⟨u,hu,hdu⟩:=(hT t r ht).und
 rw[hd]at hdu
 obtain⟨gs,rfl,hgs⟩:=hdu
 obtain⟨z,hz,hzc⟩:=(hT t r ht).run_zero w
 have hinfo:=(hT t r ht).flds gs hu
 have henc:Rel σ w (st.X C.X0 σ) (.d r.zero) false z.cells.toList:=by rw[←hzc]; exact Enc.closed _ _ _ (hT t r ht).zero
 obtain⟨cs',hfill,h1,h2,h3⟩:=gk hT hst hA (pl:=fun k=>(gs.map fun f=>(f.offset,P.cellsOf f.type))[k]?) (fun k o t' r' ho hr'=>by
  obtain⟨g,hg,rfl,rfl,_⟩:=hgs k o t' ho
  obtain⟨i,zz,hi,hs,_⟩:=(hT g.type r' hr').info
  simp[hg,Program.cellsOf,hi,hs]) parts.toList (.d r.zero) q z.cells.toList hq rfl trivial henc
 refine .quiet (u :=.agg cs'.toArray) hst hdst ⟨rfl,rfl⟩ ?_ (by unfold RelV; rw[if_pos hag]; exact⟨cs',rfl,h1⟩) h3
 have hp:=uF (P:=P) hT hinfo w
 have hp2:(gs.mapM fun f=>do pure (f.offset,←sizeOf f.type):Sem (Array (Nat×Nat))).run P w=.ok (gs.map fun f=>(f.offset,P.cellsOf f.type)) w:=by
  rw[Array.mapM_eq_mapM_toList]
  simp only[Sem.run_map,hp,Result.andThen_ok]
  congr 1
  apply Array.ext'
  simp
 have hcs:z.cells.toList.toArray=z.cells:=by simp
 have hpt:(parts.map fun x=>(x.1,a.eval x.2)).toList=parts.toList.map fun x=>(x.1,a.eval x.2):=by simp
 rw[hcs,←hpt]at hfill
 have hb:(Instr.build t (parts.map fun x=>(x.1,a.eval x.2))).run P w=.ok (.agg cs'.toArray) w:=by
  simp only[Instr.build,Sem.run_bind,hz,Result.andThen_ok,run_underlying hu,hp2,hfill,Sem.run_pure]
 simp only[execOp,ho,Sem.run_bind]
 rw[show (parts.map fun (x:Nat×Operand)=>match x with | (i,x)=>(i,a.eval x))=parts.map fun x=>(x.1,a.eval x.2) from rfl,hb]
 rfl
theorem bB (hT:aj P T) {t e len:Nat} {r re:TyR} (ht:lk T t=some r) (hd:r.desc=.array len e) (he:lk T e=some re):ab P (.build t #[]) env h n (some (.d r.zero)) []:=.of_comes fun C G st σ w a o ho hA hdst hst hn=>by
 obtain⟨u,hu,hdu⟩:=(hT t r ht).und
 rw[hd]at hdu
 cases hdu
 obtain⟨z,hz,hzc⟩:=(hT t r ht).run_zero w
 have hag:r.zero.isAgg=true:=by rw[←(hT t r ht).agg,hd]; rfl
 refine .quiet (u :=.agg z.cells) hst hdst ⟨rfl,rfl⟩ ?_ (by unfold RelV; rw[if_pos (show (AV.d r.zero).isAgg=true from hag)]; exact⟨z.cells.toList,by simp,by rw[←hzc]; exact Enc.closed _ _ _ (hT t r ht).zero⟩) trivial
 have hb:(Instr.build t #[]).run P w=.ok (.agg z.cells) w:=by
  simp only[Instr.build,Sem.run_bind,hz,Result.andThen_ok,run_underlying hu,(hT e re he).run_size,Instr.fill,Sem.run_pure]
 simp only[execOp,ho,Sem.run_bind]
 rw[show ((#[]:Array (Nat×Operand)).map fun (x:Nat×Operand)=>(x.1,a.eval x.2)) = #[] from by simp,hb]
 rfl
def EqOk (P:Program) (m t:Nat) (x y:D) (b:Bool):Prop :=
 ∀(σ:aB) (w:World) (X:Nat→Prop) (u v:Value) (dd:Nat),RelV σ w X (.d x) u→RelV σ w X (.d y) v→(Op.equalIn (dd+m) t u v).run P w=.ok b w
def EqF (P:Program) (m:Nat) (gs:List Field) (off:Nat) (x y:D) (b:Bool):Prop :=
 ∀(σ:aB) (w:World) (X:Nat→Prop) (A A' c c':List Value) (dd:Nat),A.length=off→A'.length=off→Enc w X x c→Enc w X y c'→(Op.eqFields (dd+m) (A++c).toArray (A'++c').toArray gs).run P w=.ok b w
theorem EqOk.cast {m t:Nat} {x y:D} {b b':Bool} (h:EqOk P m t x y b) (hb:b=b'):EqOk P m t x y b':=hb ▸ h
theorem vn {t:Nat} {k k':IntKind} {a b:Int} (ht:P.underlying t=some (.int k')):EqOk P 1 t (.sc (.int k a)) (.sc (.int k b)) (decide (a=b)):=by
 intro σ w X u v dd hu hv
 rw[(RelV.sc.1 hu).1,(RelV.sc.1 hv).1,run_equalIn_int w dd t k k' a b ht,Bool.beq_eq_decide_eq]
theorem Cg {m off:Nat}:EqF P m [] off .nil .nil true:=by
 intro σ w X A A' c c' dd _ _ _ _
 simp[Op.eqFields]
theorem ml (hT : aj P T) {m off off' : Nat} {g : Field} {gs : List Field} {a a' r r' : D} {b b' : Bool} (ho : g.offset = off) (hn : (g.name == "_") = false) (h1 : bz T g.type (.d a) = true) (h2 : bz T g.type (.d a') = true)
  (he:EqOk P m g.type a a' b) (hoff:off+a.size=off') (hr:EqF P m gs off' r r' b'):EqF P m (g::gs) off (.cons a r) (.cons a' r') (b&&b'):=by
 have hn : g.name ≠ "_" := fun e => by rw [e] at hn; simp at hn
 rintro σ w X A A' _ _ dd hA hA' ⟨c1,c2,rfl,e1,e2⟩ ⟨d1,d2,rfl,f1,f2⟩
 obtain⟨u,hu,hur⟩:=fQ (P:=P) (σ:=σ) (w:=w) (v :=.d a) hT h1 (cs:=A++(c1++c2)) (A:=A) (m:=c1) (C:=c2) (off:=g.offset) ⟨by simp,by rw[hA,ho]⟩ (X:=X) e1
 obtain⟨v,hv,hvr⟩:=fQ (P:=P) (σ:=σ) (w:=w) (v :=.d a') hT h2 (cs:=A'++(d1++d2)) (A:=A') (m:=d1) (C:=d2) (off:=g.offset) ⟨by simp,by rw[hA',ho]⟩ (X:=X) f1
 have hsz:a.size=a'.size:=by
  obtain⟨q,q1,q2,_⟩:=bz.out h1
  obtain⟨q',q3,q4,_⟩:=bz.out h2
  rw[q1]at q3
  cases q3
  simpa[AV.size]using q2.symm.trans q4
 simp only[Op.eqFields,hn,ne_eq,not_false_eq_true,if_true,Sem.run_bind,hu,hv,he σ w X u v dd hur hvr,Result.andThen_ok]
 cases b with
 | false=>simp
 | true =>
  simp only[Bool.not_true,Bool.false_eq_true,if_false,Bool.true_and]
  have:=hr σ w X (A++c1) (A'++d1) c2 d2 dd (by simp[hA,Enc.len _ _ e1,hoff]) (by simp[hA',Enc.len _ _ f1,←hsz,hoff]) e2 f2
  simpa using this
theorem DA (hT:aj P T) {m t e n s:Nat} {α:Type} [DecidableEq α] {enc:α→D} {re:TyR} {xs ys:List α} (ht:P.underlying t=some (.array n e)) (hre:lk T e=some re) (hs:∀x,bz T e (.d (enc x))=true) (hrs:re.size=s) (he:∀x y,EqOk P m e (enc x) (enc y) (decide (x=y))) :
  EqOk P (m+1) t (.vec n s enc xs) (.vec n s enc ys) (decide (xs=ys)):=by
 intro σ w X u v dd hu hv
 obtain⟨c,rfl,hx,f,hf,rfl⟩:=hu.agg rfl
 obtain⟨c',rfl,hy,f',hf',rfl⟩:=hv.agg rfl
 obtain⟨i0,z0,hi0,hs0,_⟩:=(hT e re hre).info
 have hce:P.cellsOf e=s:=by simp[Program.cellsOf,hi0,hs0,hrs]
 rw[show dd+(m+1)=(dd+m)+1 from rfl,run_equalIn_array w (dd+m) _ _ ht hi0,hce]
 have key:∀(k j:Nat),j+k=n→(Op.eqItems (dd+m) e s (cat f n).toArray (cat f' n).toArray (List.range' j k)).run P w=.ok (decide (xs.drop j=ys.drop j)) w:=by
  intro k
  induction k with
  | zero =>
   intro j hj
   have h1:xs.drop j=[]:=List.drop_eq_nil_of_le (by omega)
   have h2:ys.drop j=[]:=List.drop_eq_nil_of_le (by omega)
   simp[Op.eqItems,h1,h2]
  | succ k ih =>
   intro j hj
   have hjx:j<xs.length:=by omega
   have hjy:j<ys.length:=by omega
   obtain⟨A,C,hA,hAl⟩:=fh n (f:=f) (s:=s) (fun i hi=>(hf i (by omega)).2) j (by omega)
   obtain⟨A',C',hA',hAl'⟩:=fh n (f:=f') (s:=s) (fun i hi=>(hf' i (by omega)).2) j (by omega)
   obtain⟨u,hu,hur⟩:=fQ (P:=P) (σ:=σ) (w:=w) (v :=.d (enc xs[j])) hT (hs _) (cs:=cat f n) (A:=A) (m:=f j) (C:=C) (off:=j*s) ⟨hA,hAl⟩ (X:=X) (hf j hjx).1
   obtain⟨v,hv,hvr⟩:=fQ (P:=P) (σ:=σ) (w:=w) (v :=.d (enc ys[j])) hT (hs _) (cs:=cat f' n) (A:=A') (m:=f' j) (C:=C') (off:=j*s) ⟨hA',hAl'⟩ (X:=X) (hf' j hjy).1
   simp only[List.range'_succ,Op.eqItems,Sem.run_bind,hu,hv,he _ _ σ w X u v dd hur hvr,Result.andThen_ok]
   rw[List.drop_eq_getElem_cons hjx,List.drop_eq_getElem_cons hjy]
   by_cases hxy:xs[j]=ys[j]
   ·simp only[hxy,decide_true,Bool.not_true,Bool.false_eq_true,if_false,ih (j+1) (by omega),List.cons.injEq,true_and]
   ·rw[decide_eq_false hxy,decide_eq_false (fun e=>hxy (List.cons.inj e).1)]
    simp
 have:=key n 0 (by omega)
 rw[List.range_eq_range']
 simpa using this
theorem x4 {m t:Nat} {gs:Array Field} {x y:D} {b:Bool} (ht:P.underlying t=some (.struct gs)) (hp:P.stoodInHeld t=false) (hx:x.isAgg=true) (hy:y.isAgg=true) (hf:EqF P m gs.toList 0 x y b):EqOk P (m+1) t x y b:=by
 intro σ w X u v dd hu hv
 obtain⟨c,rfl,hc⟩:=hu.agg (show (AV.d x).isAgg=true from hx)
 obtain⟨c',rfl,hc'⟩:=hv.agg (show (AV.d y).isAgg=true from hy)
 have hfo:P.fieldsOf t=gs:=by simp[Program.fieldsOf,ht]
 rw[show dd+(m+1)=(dd+m)+1 from rfl,run_equalIn_struct w (dd+m) t c.toArray c'.toArray (by rw[hfo]; exact ht) hp,hfo]
 exact hf σ w X [] [] c c' dd rfl rfl hc hc'
theorem dW {t t':TypeId} {x y:Operand} {a b:D} {m:Nat} {c:Bool} (hx:ai env x=some (.d a)) (hy:ai env y=some (.d b)) (hag:a.isAgg=true) (hbg:b.isAgg=true) (hg:P.eqGuardType P.depth t=false) (hm:m≤10000) (he:EqOk P m t a b c) :
  ab P (.binOp .eql t x y t') env h n (some (.bool c)) []:=.of_comes fun C G st σ w A o ho hA hdst hst hn=>by
 have h1:=(ak hst (hA.ev hx)).1
 have h2:=(ak hst (hA.ev hy)).1
 have h3:=he σ w _ _ _ (10000-m) h1 h2
 rw[show 10000-m+m=10000 by omega]at h3
 obtain⟨p,hp,_⟩:=h1.agg (show (AV.d a).isAgg=true from hag)
 obtain⟨q,hq,_⟩:=h2.agg (show (AV.d b).isAgg=true from hbg)
 rw[hp,hq]at h3
 refine .quiet (u :=.bool c) hst hdst ⟨rfl,rfl⟩ ?_ (RelV.sc.2 ⟨rfl,rfl⟩) trivial
 simp only[execOp,ho,hp,hq,Sem.run_bind,run_eqGuard_agg w .eql t x y p.toArray q.toArray hg,Result.andThen_ok,run_eql_struct,h3,Sem.run_pure]
theorem l7 {t t':TypeId} {x y:Operand} {a b:D} {m:Nat} {c:Bool} (hx:ai env x=some (.d a)) (hy:ai env y=some (.d b)) (hag:a.isAgg=true) (hbg:b.isAgg=true) (hg:P.eqGuardType P.depth t=false) (hm:m≤10000) (he:EqOk P m t a b c) :
  ab P (.binOp .neq t x y t') env h n (some (.bool (!c))) []:=.of_comes fun C G st σ w A o ho hA hdst hst hn=>by
 have h1:=(ak hst (hA.ev hx)).1
 have h2:=(ak hst (hA.ev hy)).1
 have h3:=he σ w _ _ _ (10000-m) h1 h2
 rw[show 10000-m+m=10000 by omega]at h3
 obtain⟨p,hp,_⟩:=h1.agg (show (AV.d a).isAgg=true from hag)
 obtain⟨q,hq,_⟩:=h2.agg (show (AV.d b).isAgg=true from hbg)
 rw[hp,hq]at h3
 refine .quiet (u :=.bool (!c)) hst hdst ⟨rfl,rfl⟩ ?_ (RelV.sc.2 ⟨rfl,rfl⟩) trivial
 simp only[execOp,ho,hp,hq,Sem.run_bind,run_eqGuard_agg w .neq t x y p.toArray q.toArray hg,Result.andThen_ok,run_neq_struct,h3,Sem.run_pure]
end
end Go.Eng
namespace Go.Eng
open Go.RowKit Go.ChangeShapes Go.WideShapes Go.ChangeAt
def Opens (P:Program) (t s:Nat) {α:Type} (enc:α→D) (wf:α→Prop):Prop :=
 ∀(H:Type) (en:TypeId×Value→H) (w:World) (spare:Nat→Bool) (held:Bool) (fuel:Nat) (cs:List Value) (x:DataW H×List MemPlace),DataW.trod en P w 0 spare held fuel t cs=some x →
  ∃a:α,Enc w (fun _=>False) (enc a) cs∧cs.length=s∧wf a
def FN (P:Program) (gs:List Field) (off:Nat) {α:Type} (enc:α→D) (wf:α→Prop):Prop :=
 ∀(H:Type) (en:TypeId×Value→H) (w:World) (spare:Nat→Bool) (held:Bool) (fuel:Nat) (cs:List Value),
  (∀f∈gs,∃x,DataW.trod en P w 0 spare held fuel f.type ((cs.drop f.offset).take (P.cellsOf f.type))=some x) →
  ∃(a:α) (c r:List Value),cs.drop off=c++r∧Enc w (fun _=>False) (enc a) c∧wf a
section
variable {P : Program} {t s : Nat} {α β : Type} {enc : α → D} {wf : α → Prop}
def Av (W:World):Ctx:=⟨W.heap.size,W,fun _=>False,fun _=>False,64,fun _=>none,none⟩
def gL (W:World):List AV→List Value→Prop
 | [],vs=>vs=[]
 | d::ds,vs=>∃v us,vs=v::us∧(RelV (fun _=>none) W (fun _=>False) d v∧d.within fun _=>False)∧gL W ds us
theorem gL.len {W:World}:∀(ds:List AV) (vs:List Value),gL W ds vs→vs.length=ds.length
 | [],vs,h=>by obtain rfl:vs=[]:=h; rfl
 | d::ds,vs,h=>by obtain⟨v,us,rfl,_,h2⟩:=h; simp[gL.len ds us h2]
theorem gL.at {W:World}:∀(ds:List AV) (vs:List Value) (k:Nat),gL W ds vs→∀i v,lk (eg k ds) i=some v→∃j u,i=k+j∧vs[j]?=some u∧RelV (fun _=>none) W (fun _=>False) v u∧v.within fun _=>False
 | [],vs,k,_,i,v,h=>by simp[eg,lk]at h
 | d::ds,vs,k,ha,i,v,h=>by
  obtain⟨u,us,rfl,h1,h2⟩:=ha
  simp only[eg,aN]at h
  split at h
  ·rename_i e
   subst e
   simp only[Option.some.injEq]at h
   subst h
   exact⟨0,u,rfl,rfl,h1⟩
  ·obtain⟨j,u',rfl,h3,h4⟩:=gL.at ds us (k+1) h2 i v h
   exact⟨j+1,u',by omega,by simpa using h3,h4⟩
theorem xJ {f:FuncId} {avs:List AV} {rows:List (Nat×Row)} {W:World} {args:Array Value} {v0:Value} (h:FnIs P f avs [] (.d (.sc v0)) rows) (ha:gL W avs args.toList) (hgl:∀x∈AK,x.2 (W.heap[x.1]?)∧x.1<W.heap.size:=by intro x hx; cases hx):Calls P f args W fun e W'=>e=.returned v0∧Below W.heap.size W W':=by
  have hst:aA (Av W) (fun r=>r<64) (inSt avs []) (fun _=>none) W ⟨args,[]⟩:=
    { env:=fun i v hi=>by
        obtain⟨j,u,rfl,h1,h2,_⟩:=gL.at avs args.toList 0 ha i v hi
        refine⟨u,by simpa using h1,RelV.mono (G:=fun _=>False) (fun _ h=>h.elim) (fun _ _ h3 h4=>⟨.rfl' h3,fun hx=>?_⟩) (by assumption) h2⟩
        rcases hx with hx | ⟨r,row,c,h5,_⟩
        · exact hx
        · simp[inSt,aw,St.row,lk]at h5
      envG:=fun i v hi=>by
        obtain⟨j,u,rfl,h1,h2,h3⟩:=gL.at avs args.toList 0 ha i v hi
        exact AV.within.mono (fun _ h=>h.elim) v h3
      rows:=fun r row hr=>by simp[inSt,aw,St.row,lk]at hr
      rowsG:=fun r row hr=>by simp[inSt,aw,St.row,lk]at hr
      inj:=fun r r' row row' b c c' hr=>by simp[inSt,aw,St.row,lk]at hr
      high:=fun r row b c hr=>by simp[inSt,aw,St.row,lk]at hr
      size:=Nat.le_refl _
      below:=fA.refl _ _ _
      defers:=trivial
      sz:=by have:=gL.len avs args.toList ha; simpa[inSt]using this
      x0:=fun b hb=>hb.elim
      agree:=fun _ _=>rfl
      baseG:=fun r hr=>hr
      bs:=rfl
      rok:=fun _ h=>(by cases h)
      glob:=fun x hx=>⟨(hgl x hx).1,(hgl x hx).2,fun h=>h.elim⟩ }
  have hc:=h.2 (Av W) (fun _=>none) W args.toList rfl rfl rfl rfl rfl (by simpa using hst)
  simp only[Array.toArray_toList]at hc
  refine hc.mono ?_
  rintro e W' ⟨v,σ',rfl,h2⟩
  obtain⟨u,hu,hr⟩:=h2.env 0 _ rfl
  obtain⟨rfl,_⟩:=RelV.sc.1 hr
  simp only[List.getElem?_toArray,List.getElem?_cons_zero,Option.some.injEq]at hu
  subst hu
  have hb:=h2.below
  exact⟨rfl,⟨hb.os,hb.tape,hb.output,hb.size,fun k hk=>hb.block k hk (fun hf=>hf)⟩⟩
end
end Go.Eng
namespace Go.Eng
open Go.RowKit
theorem AV.ren_id:∀(v:AV),v.ren (rho [])=v:=by
 intro v
 induction v with
 | acons a r iha ihr=>simp only[AV.ren,iha,ihr]
 | fn f p q ihp ihq=>simp only[AV.ren,ihp,ihq]
 | tup q ih=>simp only[AV.ren,ih]
 | _=>rfl
theorem Row.ren_id:∀(row:Row),row.ren (rho [])=row:=by
 intro row
 cases row with
 | box t a=>simp only[Row.ren,AV.ren_id]
 | ds=>rfl
 | lits t s k ex a=>simp only[Row.ren,AV.ren_id]
 | mo a=>simp only[Row.ren,AV.ren_id]
 | si=>rfl
 | mq=>rfl
 | lo=>rfl
 | mi a=>simp only[Row.ren,AV.ren_id]
def wD (n:Nat):Env→Bool
 | []=>true
 | (_,v)::l=>bif v.lt n then wD n l else false
def oG (n:Nat):Upds→Bool
 | []=>true
 | (r,some row)::l=>bif Nat.blt r n then (bif row.lt n then oG n l else false) else false
 | (_,none)::l=>oG n l
theorem tv:∀(l:List Nat),ey (rho []) l=true
 | []=>rfl
 | r::l=>by
  simp only[ey,tv l,cond_true]
  simp only[rho,Bool.not_eq_true',List.any_eq_false]
  intro j _
  cases h:Nat.beq j r <;> simp[h]
theorem qK {n:Nat}:∀(l:Env),wD n l=true→∀i v,lk l i=some v→v.lt n=true
 | [],_,i,v,h=>by simp[lk]at h
 | (j,u)::l,h,i,v,hi=>by
  simp only[wD]at h
  cases h1:u.lt n <;> rw[h1]at h <;> simp only[cond_true,cond_false,Bool.false_eq_true]at h
  rw[aN]at hi
  split at hi
  ·simp only[Option.some.injEq]at hi; rw[←hi]; exact h1
  ·exact qK l h i v hi
theorem lm {n:Nat}:∀(l:Upds),oG n l=true→∀r row,lk l r=some (some row)→r<n∧row.lt n=true
 | [],_,i,v,h=>by simp[lk]at h
 | (j,none)::l,h,r,row,hi=>by
  rw[aN]at hi
  split at hi
  ·cases hi
  ·exact lm l h r row hi
 | (j,some u)::l,h,r,row,hi=>by
  simp only[oG]at h
  cases h0:Nat.blt j n <;> rw[h0]at h <;> simp only[cond_true,cond_false,Bool.false_eq_true]at h
  cases h1:u.lt n <;> rw[h1]at h <;> simp only[cond_true,cond_false,Bool.false_eq_true]at h
  rw[aN]at hi
  split at hi
  ·rename_i e
   simp only[Option.some.injEq]at hi
   subst e
   exact⟨Nat.le_of_ble_eq_true h0,hi ▸ h1⟩
  ·exact lm l h r row hi
def CutK (d:Nat) (v:AV) (env0:Env) (h0:Upds) (N sz:Nat) (env:Env) (h:Upds) (n:Nat):Prop :=
 n=N∧Le [] ⟨env,h,n,sz,64⟩ ⟨(d,v)::env0,h0,N,sz,64⟩
section
variable {P : Program} {sz n : Nat} {Q : Exit → St → Prop} {env : Env} {h : Upds}
theorem ko {all:List Oper} {d N:Nat} {v x:AV} {env0:Env} {h0:Upds} (k:Nat) (hn:n=N) (hk:env.drop k=env0) (hf:fx (aU (env.take k)) (aU (env.drop k))=true) (hh:h=h0)
  (hlt:wD N env0=true) (hrl:oG N h0=true) (hN:Nat.ble 64 N=true) (hvl:v.lt N=true) (hx:lk env d=some x) (hv:AVLe x v):RegS P all sz [] n env h (CutK d v env0 h0 N sz):=by
 subst hn
 subst hk
 subst hh
 refine vZ ⟨rfl,⟨tv _,rfl,rfl,hN,rfl,fun i u hi=>?_,fun r row hr=>?_⟩⟩
 ·rw[aN]at hi
  split at hi
  ·rename_i e
   subst e
   simp only[Option.some.injEq]at hi
   subst hi
   exact⟨⟨x,hx,by rw[AV.ren_id]; exact hv⟩,hvl⟩
  ·have hkey:=jg _ i u hi
   refine⟨⟨u,?_,AVLe.of_eq (AV.ren_id u).symm⟩,qK _ hlt i u hi⟩
   show lk env i=some u
   have:env=env.take k++env.drop k:=(List.take_append_drop k env).symm
   rw[this,dX]
   cases hx:lk (env.take k) i with
   | none=>exact hi
   | some y=>exact absurd hkey (cG hf i (jg _ i y hx))
 ·have hr':lk h r=some (some row):=by
   cases hl:lk h r with
   | none=>simp[hl]at hr
   | some y=>cases y <;> simp[hl]at hr ⊢; exact hr
  obtain⟨h1,h2⟩:=lm _ hrl r row hr'
  exact⟨h1,h2,row,by simp[St.row,hr'],aM.of_eq (Row.ren_id row).symm⟩
theorem fC {id:Nat} {ops:Array Oper} {rest:Code} (d:Nat) (v:AV) (N:Nat) (hN:n+8*ops.size=N) (h1:RegS P ops.toList sz ops.toList n env h (CutK d v env h N sz)) (h2:WC P sz rest Q ((d,v)::env) h N) :
  WC P sz (.seq (.region id ops false) rest) Q env h n:=by
 refine li ?_
 intro C σ w a hst
 refine wpIn_region_list ?_
 have:=h1 C σ w a hst (Lift C (SeqQ P rest Q)) fun env' h' n' σ w a hk hst'=>?_
 ·simpa using this
 ·obtain⟨rfl,hle⟩:=hk
  exact⟨⟨(d,v)::env,h,n',sz,64⟩,_,h2,hst'.le hle⟩
end
end Go.Eng
namespace Go.Eng
open Go.RowKit
section
variable {C : Ctx} {w w' : World} {G : Nat → Prop} {st : St} {σ : aB} {a : Act}
theorem St.row_two (st:St) (n r:Nat) (row:Option Row) (q:Nat):(st.upd [(n,row),(r,none)]).row q=if n=q then row else if r=q then none else st.row q:=by
 simp only[St.upd,St.row,List.cons_append,List.nil_append,aN]
 split
 ·simp
 ·split
  ·simp
  ·rfl
theorem aA.swap (h:aA C G st σ w a) {n r:Nat} (hn:¬G n) {old:Row} (hr:st.row r=some old) (hg:w.grownBy w' ((σ r).map (·.1))) {b c:Nat} (hb:(∃c0,σ r=some (b,c0))∨w.heap.size≤b) (row:Row) (hw:row.within G)
  (hrow:∀(σ':aB) (X':Nat→Prop),(∀(x:AV) (m:Bool) (l:List Value),x.within G→Rel σ w (st.X C.X0 σ) x m l→Rel σ' w' X' x m l)→(∀(x:D) (l:List Value),Enc w (st.X C.X0 σ) x l→Enc w' X' x l) →
   σ' n=some (b,c)→bx σ' w' X' n row) :
  aA C (fun q=>G q∨q=n) (st.upd [(n,some row),(r,none)]) (fun q=>if q=n then some (b,c) else σ q) w' a:=by
 have hGr:=(h.rowsG r _ hr).1
 have hnr:n≠r:=fun e=>hn (e ▸ hGr)
 have hne:∀q,G q→q≠n:=fun q hq e=>hn (e ▸ hq)
 have hold:∀q row',st.row q=some row' → ∀b c',σ q=some (b,c')→b<w.heap.size:=fun q row' hq b c' hs=>h.lt hq hs
 have hsame:∀q row',st.row q=some row'→q≠r→∀b1 c1,σ q=some (b1,c1)→w'.heap[b1]?=w.heap[b1]?:=by
  intro q row' hq hqr b1 c1 hs
  refine hg.block b1 (hold _ _ hq _ _ hs) fun e=>?_
  cases hsr:σ r with
  | none=>rw[hsr]at e; cases e
  | some p =>
   rw[hsr]at e
   simp only[Option.map_some,Option.some.injEq]at e
   obtain⟨b2,c2⟩:=p
   simp only at e
   subst e
   exact hqr (h.inj _ _ _ _ _ _ _ hq hr hs hsr)
 have hX:∀q,(st.upd [(n,some row),(r,none)]).X C.X0 (fun q=>if q=n then some (b,c) else σ q) q→st.X C.X0 σ q∨w.heap.size≤q:=by
  rintro q (hx0 | ⟨r1,row1,c1,h1,h2⟩)
  ·exact .inl (.inl hx0)
  rw[St.row_two]at h1
  by_cases e:r1=n
  ·subst e
   simp only[if_true,Option.some.injEq,Prod.mk.injEq]at h2
   rw[←h2.1]
   rcases hb with ⟨c0,hb⟩ | hb
   ·exact .inl (.inr ⟨r,old,c0,hr,hb⟩)
   ·exact .inr hb
  ·rw[if_neg (Ne.symm e)]at h1
   simp only[if_neg e]at h2
   split at h1
   ·cases h1
   ·exact .inl (.inr ⟨r1,row1,c1,h1,h2⟩)
 have hσ:∀q,G q→((fun q=>if q=n then some (b,c) else σ q):aB) q=σ q:=fun q hq=>by simp[hne q hq]
 have hk:∀(a:Addr) (u:Value),w.cell? a=some u→¬st.X C.X0 σ a.block→Kp w w' a u∧¬(st.upd [(n,some row),(r,none)]).X C.X0 (fun q=>if q=n then some (b,c) else σ q) a.block:=by
  intro a u h1 h2
  have hlt:=World.block_lt_of_cell? w a h1
  refine⟨?_,fun hx=>?_⟩
  ·refine .of_block (hg.block _ hlt fun e=>?_) h1
   cases hsr:σ r with
   | none=>rw[hsr]at e; cases e
   | some p =>
    rw[hsr]at e
    simp only[Option.map_some,Option.some.injEq]at e
    exact h2 (.inr ⟨r,old,p.2,hr,by rw[hsr,e]⟩)
  ·rcases hX _ hx with hx | hx
   ·exact h2 hx
   ·omega
 refine h.core (fun r hr=>.inl hr) hσ hk rfl rfl rfl ?_ ?_ ?_ (Nat.le_trans h.size hg.size) ?_
 ·intro q row' hq
  rw[St.row_two]at hq
  split at hq
  ·rename_i e
   subst e
   simp only[Option.some.injEq]at hq
   subst hq
   refine .inr ⟨.inr rfl,?_,hrow _ _ (fun x m l hx=>Rel.mono hσ hk x m l hx) (fun x l=>Enc.mono hk x l) (by simp)⟩
   cases row with
   | box t x=>exact AV.within.mono (fun r hr=>.inl hr) x hw
   | ds=>trivial
   | lits t s k ex x=>exact AV.within.mono (fun r hr=>.inl hr) x hw
   | mo x=>exact AV.within.mono (fun r hr=>.inl hr) x hw
   | si=>trivial
   | mq=>trivial
   | lo=>trivial
   | mi x=>exact AV.within.mono (fun r hr=>.inl hr) x hw
  ·split at hq
   ·cases hq
   ·rename_i e1 e2
    exact .inl ⟨hq,fun b1 c1 hs=>hsame _ _ hq (Ne.symm e2) _ _ hs⟩
 ·intro r1 r2 row1 row2 b1 c1 c2 h1 h2 h3 h4
  rw[St.row_two]at h1 h2
  have key:∀q row1 c1,q≠n→(if n=q then some row else if r=q then none else st.row q)=some row1→σ q=some (b,c1)→False:=by
   intro q row1 c1 hq h1 h3
   rw[if_neg (Ne.symm hq)]at h1
   split at h1
   ·cases h1
   ·rename_i e
    rcases hb with ⟨c0,hb⟩ | hb
    ·exact e (h.inj _ _ _ _ _ _ _ hr h1 hb h3)
    ·have:=hold _ _ h1 _ _ h3; omega
  by_cases e1:r1=n <;> by_cases e2:r2=n
  ·rw[e1,e2]
  ·simp only[e1,if_true,Option.some.injEq,Prod.mk.injEq]at h3
   simp only[if_neg e2]at h4
   rw[←h3.1]at h4
   exact (key _ _ _ e2 h2 h4).elim
  ·simp only[e2,if_true,Option.some.injEq,Prod.mk.injEq]at h4
   simp only[if_neg e1]at h3
   rw[←h4.1]at h3
   exact (key _ _ _ e1 h1 h3).elim
  ·rw[if_neg (Ne.symm e1)]at h1
   rw[if_neg (Ne.symm e2)]at h2
   simp only[if_neg e1]at h3
   simp only[if_neg e2]at h4
   split at h1 <;> try (cases h1; done)
   split at h2 <;> try (cases h2; done)
   exact h.inj _ _ _ _ _ _ _ h1 h2 h3 h4
 ·intro r1 row1 b1 c1 h1 h2
  rw[St.row_two]at h1
  by_cases e:r1=n
  ·simp only[e,if_true,Option.some.injEq,Prod.mk.injEq]at h2
   rw[←h2.1]
   rcases hb with ⟨c0,hb⟩ | hb
   ·exact h.high _ _ _ _ hr hb
   ·have:=h.size
    exact .inl (by omega)
  ·rw[if_neg (Ne.symm e)]at h1
   simp only[if_neg e]at h2
   split at h1
   ·cases h1
   ·exact h.high _ _ _ _ h1 h2
 ·refine⟨hg.os,hg.tape,hg.output,hg.size,fun k hk' hm=>?_,fun k o ho hbk=>?_⟩
  rotate_left
  ·refine (hg.block k (Array.getElem?_eq_some_iff.1 ho).1 fun e=>?_).trans ho
   cases hsr:σ r with
   | none=>rw[hsr]at e; cases e
   | some p =>
    obtain⟨b2,c2⟩:=p
    rw[hsr]at e
    simp only[Option.map_some,Option.some.injEq]at e
    subst e
    obtain⟨o',hc,hnb⟩:=h.cells hr hsr
    rw[ho]at hc
    cases hc
    rw[hbk]at hnb
    cases hnb
  have hsz:=h.size
  refine hg.block k (by omega) fun e=>?_
  cases hsr:σ r with
  | none=>rw[hsr]at e; cases e
  | some p =>
   rw[hsr]at e
   simp only[Option.map_some,Option.some.injEq]at e
   rcases h.high r old p.1 p.2 hr hsr with h1 | h1
   ·omega
   ·exact hm (e ▸ h1)
end
theorem gW (w:World) (o:Obj) (row:Option Nat):w.grownBy (w.drew.alloc o) row:=⟨rfl,rfl,rfl,by simp,fun k hk _=>heap_alloc_old w.drew _ hk⟩
section
variable {P : Program} {T : Tab} {sz : Nat} {env : Env} {h : Upds} {n : Nat}
def uh {α:Type} (s:Nat) (enc:α→D) (ys:List α) (w:World) (X:Nat→Prop) (u:Value):Prop :=
 ∃(ad:Addr) (c:Nat) (f:Nat→List Value),u=.slice (some ad) ys.length c∧(∀i (h:i<ys.length),Enc w X (enc ys[i]) (f i)∧(f i).length=s)∧∀j v,(cat f ys.length)[j]?=some v→w.cell? (ad.add j)=some v
theorem pd {α:Type} {s:Nat} {enc:α→D} {w:World} {X:Nat→Prop} {xs ys:List α} {f g:Nat→List Value} (hf:∀i (h:i<xs.length),Enc w X (enc xs[i]) (f i)∧(f i).length=s) (hg:∀i (h:i<ys.length),Enc w X (enc ys[i]) (g i)∧(g i).length=s) :
  ∃F:Nat→List Value,(∀i (h:i<(xs++ys).length),Enc w X (enc (xs++ys)[i]) (F i)∧(F i).length=s)∧cat F (xs++ys).length=cat f xs.length++cat g ys.length:=by
 refine⟨fun i=>if i<xs.length then f i else g (i-xs.length),fun i hi=>?_,?_⟩
 ·by_cases hlt:i<xs.length
  ·simp only[if_pos hlt,List.getElem_append_left hlt]; exact hf i hlt
  ·simp only[if_neg hlt]
   rw[List.getElem_append_right (by omega)]
   exact hg _ (by simp at hi; omega)
 ·rw[List.length_append,fN]
  congr 1
  ·exact dZ _ fun i hi=>by simp[hi]
  ·exact dZ _ fun i hi=>by simp[show ¬(xs.length+i<xs.length) by omega]
theorem g9 (hT:aj P T) {t ty e r:Nat} {re:TyR} {s:Nat} {ex:Bool} {α:Type} {enc:α→D} {xs ys:List α} {x y:Operand} {v:AV} (ht:bh T t=some (.slice e)) (he:lk T e=some re) (hs:re.size=s) (hs0:0<s)
  (hx:ai env x=some (.own r 0 xs.length s none)) (hrow:aQ h r=some (.ds e s ex enc xs)) (hy:ai env y=some v) (hys:0<ys.length) (hlen:xs.length+ys.length≤maxLen) (hbytes:(xs.length+ys.length)*re.bytes≤140737488355328)
  (hsrc:∀(C:Ctx) (G:Nat→Prop) (st:St) (σ:aB) (w:World) (a:Act),fY env h st→aA C G st σ w a→uh s enc ys w (st.X C.X0 σ) (a.eval y)) :
  ab P (.call { callee :=.builtin .append,args := #[x,y],argTypes := #[t,t] }) env h n (some (.own n 0 (xs.length+ys.length) s none)) [(n,some (.ds e s false enc (xs++ys))),(r,none)]:=.of_comes fun C G st σ w a o ho hA hd hst hn=>by
 obtain⟨hx1,hx2⟩:=ak hst (hA.ev hx)
 obtain⟨ad,c1,g,hu,hg,hgc⟩:=hsrc C G st σ w a hA hst
 have hr:=hA.row _ _ hrow
 obtain⟨i,z,hi,hi1,hi2,hi3,hi4⟩:=(hT e re he).info
 obtain⟨ud,hud,hdd⟩:=bn hT ht
 cases hdd
 have hz:z.cells.size=s:=by
  have h1:=Enc.len _ _ (Enc.closed w (fun _=>False) _ (hT e re he).zero)
  rw[hi4]at h1
  simpa[(hT e re he).zsize,hs]using h1
 have hnn:¬G n:=hn n (Nat.le_refl _) (by omega)
 have hgl:(cat g ys.length).length=ys.length*s:=cz _ fun i hi=>(hg i hi).2
 have fin:∀(b c:Nat) (cur:Array Value) (w':World),(∃c0,σ r=some (b,c0))∨w.heap.size≤b→w.grownBy w' ((σ r).map (·.1))→w'.heap[b]?=some (.cells cur e (0,0))→cur.size=c*s→xs.length+ys.length≤c→c≤maxLen →
   (∃f:Nat→List Value,(∀i (h:i<xs.length),Enc w (st.X C.X0 σ) (enc xs[i]) (f i)∧(f i).length=s)∧cur.toList.take ((xs.length+ys.length)*s)=cat f xs.length++cat g ys.length) →
   (Builtin.append_ #[t,t] o.type #[a.eval x,a.eval y]).run P w=.ok (.slice (some ⟨b,0,none⟩) (xs.length+ys.length) c) w' →
   cu P C G st n o a w (fun v' u'=>v'=some (.own n 0 (xs.length+ys.length) s none)∧u'=[(n,some (.ds e s false enc (xs++ys))),(r,none)]):=by
  rintro b c cur w' hb hgr hh hcs hle hcm ⟨f,hf,htk⟩ hrun
  obtain⟨F,hF,hFc⟩:=pd hf hg
  have hsw:=hst.swap hnn hr hgr (c:=c) hb (.ds e s false enc (xs++ys)) trivial (fun σ' X' hk1 hk2 hσn=>by
   refine .inr ⟨b,c,cur,hσn,(fun e=>nomatch e),hh,hcs,by simpa using hle,hcm,F,fun i hi=>⟨hk2 _ _ (hF i hi).1,(hF i hi).2⟩,?_⟩
   rw[List.length_append,htk,←hFc,List.length_append])
  have hval:RelV (fun q=>if q=n then some (b,c) else σ q) w' ((st.upd [(n,some (.ds e s false enc (xs++ys))),(r,none)]).X C.X0 (fun q=>if q=n then some (b,c) else σ q)) (.own n 0 (xs.length+ys.length) s none) (.slice (some ⟨b,0,none⟩) (xs.length+ys.length) c):=
   RelV.own.2 (.inr ⟨b,c,⟨b,0,none⟩,by simp,by simp,by simpa using hle,by simp,by simpa using hle,fun _=>by simp⟩)
  refine⟨_,_,.value (.slice (some ⟨b,0,none⟩) (xs.length+ys.length) c),_,w',_,fun q=>G q∨q=n,⟨rfl,rfl⟩,?_,.inl rfl,by rw[St.put_upd]; exact hsw.set hd hval (.inr rfl),fun r hr=>Or.inl hr,fun r hr=>Or.imp id (fun h=>⟨by omega,by omega⟩) hr⟩
  simp[execOp,ho,resolve,invoke,builtin,hrun]
 have h63:¬(9223372036854775807<xs.length+ys.length):=by simp only[maxLen]at hlen; omega
 rcases hst.rows r _ hr with ⟨hσ,hxs⟩ | ⟨b,c,cur,hσ,_,hh,hcs,hle,hcm,f,hf,htk⟩
 ·rcases RelV.own.1 hx1 with ⟨_,_,_,_,hv⟩ | ⟨b,c,_,hσ',_⟩
  ·subst hxs
   have hrun:=run_append_nil (P:=P) w t o.type e i z hud hi hi3 ad ys.length c1 (cat g ys.length) (by rw[hgl,hi1,hs]) hgc hys (by omega) (by rw[hi2]; simp at hbytes; omega)
   refine fin w.heap.size (grownCap w ys.length 0 e) ((cat g ys.length).toArray++Builtin.zeroCells z.cells (grownCap w ys.length 0 e-ys.length)) _ (.inr (Nat.le_refl _)) (gW w _ _) (heap_alloc_new w.drew _) ?_ ?_ (grownCap_le_maxLen w ys.length 0 e (by simpa using hlen)) ⟨g,fun i hi=>by simp at hi,?_⟩ (by rw[hv,hu,hrun]; simp)
   ·have hge:=grownCap_ge w ys.length 0 e
    simp only[Array.size_append,List.size_toArray,size_zeroCells,hz,hgl,←Nat.add_mul]
    congr 1; omega
   ·simpa using grownCap_ge w ys.length 0 e
   ·simp only[Array.toList_append,List.length_nil,Nat.zero_add,cat,List.nil_append]
    rw[←hgl]
    exact List.take_left
  ·rw[hσ]at hσ'; cases hσ'
 ·rcases RelV.own.1 hx1 with ⟨hσ',_⟩ | ⟨b',c',a',hσ',hv,_,_,hlec,had⟩
  ·rw[hσ]at hσ'; cases hσ'
  ·rw[hσ]at hσ'
   cases hσ'
   simp only[Option.getD_none,Nat.sub_zero]at hv hlec
   have hfl:(cat f xs.length).length=xs.length*s:=cz _ fun i hi=>(hf i hi).2
   by_cases hroom:xs.length+ys.length≤c
   ·have:a'=⟨b,0,none⟩:=by have:=had (by omega); simpa using this
    subst this
    have hrun:=run_append_room (P:=P) w t o.type e i hud hi b xs.length c cur hh ad ys.length c1 (cat g ys.length) (by rw[hgl,hi1,hs]) hgc (fun u hu=>by
     obtain⟨k,hk,hu⟩:=jz _ hu
     exact Enc.one _ _ (hg k hk).1 u hu) hroom (by rw[hgl,hi1,hs,hcs,←Nat.add_mul]; exact Nat.mul_le_mul_right _ hroom)
    refine fin b c _ _ (.inl ⟨c,hσ⟩) ?_ (setRow_heap w b cur _ e _ hh) ?_ hroom hcm ⟨f,hf,?_⟩ (by rw[hv,hu,hrun])
    ·exact⟨rfl,rfl,rfl,by simp,fun k _ hk=>setRow_other w b k _ (fun e=>hk (by rw[hσ]; simp[e]))⟩
    ·have hm:=Nat.mul_le_mul_right s hroom
     rw[Nat.add_mul]at hm
     simp only[List.size_toArray,List.length_append,List.length_take,List.length_drop,Array.length_toList,hi1,hs,hgl,hcs]
     omega
    ·rw[hi1,hs,htk,List.append_assoc,←List.append_assoc]
     have:(xs.length+ys.length)*s=(cat f xs.length++cat g ys.length).length:=by rw[List.length_append,hfl,hgl,Nat.add_mul]
     rw[this]
     exact List.take_left
   ·have hrun:=run_append_grow (P:=P) w t o.type e i z hud hi hi3 a' xs.length c (cat f xs.length) (by rw[hfl,hi1,hs]) (fun j u hj=>by
     have hjl:j<xs.length*s:=by rw[←hfl]; exact (List.getElem?_eq_some_iff.1 hj).1
     have hc0:0<c:=by
      rcases Nat.eq_zero_or_pos c with rfl | h1
      ·have:xs.length=0:=by omega
       rw[this]at hjl; omega
      ·exact h1
     have:a'=⟨b,0,none⟩:=by have:=had hc0; simpa using this
     subst this
     rw[eB,cell_of_row w b _ cur e (0,0) hh]
     rw[←htk,List.getElem?_take,if_pos hjl]at hj
     rw[Nat.zero_add,←Array.getElem?_toList]
     exact hj) ad ys.length c1 (cat g ys.length) (by rw[hgl,hi1,hs]) hgc (by omega) (by omega) (growslice_fits (by omega) (by rw[hi2]; exact hbytes))
    refine fin w.heap.size _ _ _ (.inr (Nat.le_refl _)) (gW w _ _) (heap_alloc_new w.drew _) ?_ (grownCap_ge w _ c e) (grownCap_le_maxLen w _ c e hlen) ⟨f,hf,?_⟩ (by rw[hv,hu,hrun])
    ·have hge:=grownCap_ge w (xs.length+ys.length) c e
     simp only[Array.size_append,List.size_toArray,size_zeroCells,hz,hgl,hfl,←Nat.add_mul]
     congr 1; omega
    ·simp only[Array.toList_append]
     have:(xs.length+ys.length)*s=(cat f xs.length++cat g ys.length).length:=by rw[List.length_append,hfl,hgl,Nat.add_mul]
     rw[this]
     exact List.take_left
end
end Go.Eng
namespace Go.Eng
open Go.RowKit
def iX (z:D):Nat→AV
 | 0=>.anil
 | n+1=>.acons (.d z) (iX z n)
def mP (s e:Nat):Nat→Nat→List (Nat×Nat)
 | _,0=>[]
 | i,n+1=>(i*s,e)::mP s e (i+1) n
theorem qv {s e:Nat}:∀(n i k o t:Nat),(mP s e i n)[k]?=some (o,t)→o=(i+k)*s∧t=e∧k<n
 | 0,i,k,o,t,h=>by simp[mP]at h
 | n+1,i,0,o,t,h=>by
  simp only[mP,List.getElem?_cons_zero,Option.some.injEq,Prod.mk.injEq]at h
  exact⟨by rw[←h.1]; rfl,h.2.symm,by omega⟩
 | n+1,i,k+1,o,t,h=>by
  obtain⟨h1,h2,h3⟩:=qv n (i+1) k o t (by simpa[mP]using h)
  exact⟨by rw[h1]; congr 1; omega,h2,by omega⟩
theorem pU {σ:aB} {w:World} {X:Nat→Prop} {z:D} {L:List Value} (h:Enc w X z L):∀n,Rel σ w X (iX z n) false (List.replicate n L).flatten
 | 0=>rfl
 | n+1=>⟨L,(List.replicate n L).flatten,by simp[List.replicate_succ],h,pU h n⟩
theorem ou {z:D}:∀n,(iX z n).flat=true
 | 0=>rfl
 | n+1=>by simp only[iX,AV.flat,cond_true]; exact ou n
theorem lK {z:D} {G:Nat→Prop}:∀n,(iX z n).within G
 | 0=>trivial
 | n+1=>⟨trivial,lK n⟩
theorem lB (L:List Value) (hL:0<L.length) (n:Nat):((Array.range (n*L.length)).map (fun i=>L.toArray[i % L.toArray.size]!)).toList=(List.replicate n L).flatten:=by
 induction n with
 | zero=>simp
 | succ n ih =>
  have h1:(List.replicate (n+1) L).flatten=(List.replicate n L).flatten++L:=by
   rw[List.replicate_succ']; simp
  rw[h1,←ih]
  simp only[Array.toList_map,Array.toList_range]
  rw[Nat.add_mul,Nat.one_mul,List.range_add,List.map_append]
  congr 1
  apply List.ext_getElem
  ·simp
  ·intro i h2 h3
   have hi:i<L.length:=by simpa using h2
   simp only[List.getElem_map,List.getElem_range,List.size_toArray]
   rw[Nat.mul_comm,Nat.mul_add_mod,Nat.mod_eq_of_lt hi]
   simp[hi]
section
variable {P : Program} {T : Tab} {sz : Nat} {env : Env} {h : Upds} {n : Nat}
theorem ae (hT:aj P T) {t e len:Nat} {re:TyR} {parts:Array (Nat×Operand)} {s:Nat} {q:AV} (ht:bh T t=some (.slice e)) (he:lk T e=some re) (hs:re.size=s) (hs0:Nat.blt 0 s=true) (hn0:Nat.ble 1 len=true) (hlen:Nat.ble (len*s) 16777216=true)
  (hq:j7 T (mP s e 0 len) (ai env) parts.toList (iX re.zero len)=some q) (hqs:Nat.beq q.size (len*s)=true) :
  ab P (.buildSlice t len parts) env h n (some (.own n 0 len s none)) [(n,some (.lits e s len true q))]:=.of_comes fun C G st σ w a o ho hA hdst hst hn=>by
 obtain⟨ud,hud,hdd⟩:=bn hT ht
 cases hdd
 have hs0:=Nat.le_of_ble_eq_true hs0
 have hn0:=Nat.le_of_ble_eq_true hn0
 have hlen:=Nat.le_of_ble_eq_true hlen
 have hqs:=Nat.eq_of_beq_eq_true hqs
 obtain⟨z,hz,hzc⟩:=(hT e re he).run_zero w
 have hzl:z.cells.toList.length=s:=by
  have h1:=Enc.len _ _ (Enc.closed w (fun _=>False) _ (hT e re he).zero)
  rw[hzc,(hT e re he).zsize,hs]at h1
  exact h1
 have henc:Enc w (st.X C.X0 σ) re.zero z.cells.toList:=by rw[←hzc]; exact Enc.closed _ _ _ (hT e re he).zero
 obtain⟨cs',hfill,h1,h2,h3⟩:=gk hT hst hA (pl:=fun i=>some (i*s,s)) (fun k o t' r' ho hr'=>by
  obtain⟨h4,h5,_⟩:=qv len 0 k o t' ho
  subst h5
  rw[he]at hr'
  cases hr'
  rw[h4,hs,Nat.zero_add]) parts.toList (iX re.zero len) q _ hq (ou len) (lK len) (pU henc len)
 have hcl:cs'.length=len*s:=by rw[Rel.len _ _ h2 h1,hqs]
 have hnn:¬G n:=hn n (Nat.le_refl _) (by omega)
 obtain⟨hst',hσn⟩:=hst.new hnn cs'.toArray e len (.lits e s len true q) h3 (fun σ' w' X' hk1 hk2 hσn hh=>by
  refine⟨h2,.inr ⟨w.heap.size,len,cs'.toArray,cs',hσn,fun _=>rfl,hh,by simp[hcl],Nat.le_refl _,?_,hcl,hk1 _ _ _ h3 h1,by simp[←hcl]⟩⟩
  have:len≤len*s:=Nat.le_mul_of_pos_right _ hs0
  simp only[maxLen]; omega)
 refine⟨_,_,.value (.slice (some ⟨w.heap.size,0,none⟩) len len),_,_,_,fun r=>G r∨r=n,⟨rfl,rfl⟩,?_,.inl rfl,by rw[St.put_upd]; exact hst'.set hdst (u :=.slice (some ⟨w.heap.size,0,none⟩) len len) (RelV.own.2 (.inr ⟨w.heap.size,len,⟨w.heap.size,0,none⟩,hσn,by simp,by simp,by simp,by simp,fun _=>by simp⟩)) (.inr rfl),
  fun r hr=>Or.inl hr,fun r hr=>Or.imp id (fun h=>⟨by omega,by omega⟩) hr⟩
 have hpt:(parts.map fun x=>(x.1,a.eval x.2)).toList=parts.toList.map fun x=>(x.1,a.eval x.2):=by simp
 have hb:(Instr.buildSlice t len (parts.map fun x=>(x.1,a.eval x.2))).run P w=.ok (.slice (some ⟨w.heap.size,0,none⟩) len len) (w.alloc (.cells cs'.toArray e)):=by
  have hbig:¬(len*s>2 ^ 24):=by omega
  have hne:¬(len*s=0):=by
   have:0<len*s:=Nat.mul_pos (by omega) hs0
   omega
  have hinit:(Array.range (len*s)).map (fun i=>z.cells[i % z.cells.size]!)=(List.replicate len z.cells.toList).flatten.toArray:=by
   have:=lB z.cells.toList (by omega) len
   rw[hzl]at this
   apply Array.ext'
   simpa using this
  simp only[Instr.buildSlice,Sem.run_bind,run_underlying hud,Result.andThen_ok,(hT e re he).run_size,hs,if_neg hbig,if_neg hne,Sem.run_pure,hz,hinit]
  rw[hpt,hfill]
  simp[newRow]
 simp only[execOp,ho,Sem.run_bind]
 rw[show (parts.map fun (x:Nat×Operand)=>match x with | (i,x)=>(i,a.eval x))=parts.map fun x=>(x.1,a.eval x.2) from rfl,hb]
 rfl
end
end Go.Eng
namespace Go.Eng
open Go.RowKit
section
variable {P : Program} {T : Tab} {sz : Nat} {env : Env} {h : Upds} {n : Nat}
theorem aJ (hT:aj P T) {t e r r2:Nat} {re:TyR} {s:Nat} {ex ex2:Bool} {cap2:Option Nat} {α:Type} {enc:α→D} {xs:List α} {x y:Operand} {d:D} (el:α) (ht:bh T t=some (.slice e)) (he:lk T e=some re) (hs:Nat.beq re.size s=true) (hs0:Nat.blt 0 s=true)
  (hx:ai env x=some (.own r 0 xs.length s none)) (hrow:aQ h r=some (.ds e s ex enc xs)) (hy:ai env y=some (.own r2 0 1 s cap2)) (hrow2:aQ h r2=some (.lits e s 1 ex2 (.acons (.d d) .anil))) (hd:d=enc el)
  (hlen:xs.length+1≤1048576) (hbytes:Nat.ble re.bytes 134217728=true) :
  ab P (.call { callee :=.builtin .append,args := #[x,y],argTypes := #[t,t] }) env h n (some (.own n 0 (xs.length+1) s none)) [(n,some (.ds e s false enc (xs++[el]))),(r,none)]:=by
 have hs0:=Nat.le_of_ble_eq_true hs0
 have hb:=Nat.le_of_ble_eq_true hbytes
 refine g9 hT (ty:=0) (ys:=[el]) (ex:=ex) ht he (Nat.eq_of_beq_eq_true hs) hs0 hx hrow hy (by simp) (by simp only[maxLen,List.length_cons,List.length_nil]; omega) ?_ ?_
 ·have:(xs.length+[el].length)*re.bytes≤1048576*134217728:=Nat.mul_le_mul (by simpa using hlen) hb
  omega
 ·intro C G st σ w a hA hst
  obtain⟨hy1,_⟩:=ak hst (hA.ev hy)
  have hr2:=hst.rows r2 _ (hA.row _ _ hrow2)
  rcases RelV.own.1 hy1 with ⟨_,_,h0,_⟩ | ⟨b,c,ad,hb,hv,hle,_,_,had⟩
  ·omega
  ·have:ad=⟨b,0,none⟩:=by have:=had (by omega); simpa using this
   subst this
   rcases hr2 with ⟨_,⟨hn,_⟩ | ⟨b',c',cur,cs,hb',_,hh,hcs,_,_,hcl,hrel,htk⟩⟩
   ·rw[hb]at hn; cases hn
   ·rw[hb]at hb'
    cases hb'
    obtain⟨c1,c2,rfl,h1,h2⟩:=hrel
    obtain rfl:c2=[]:=h2
    rw[List.append_nil]at hcl htk
    have h1:Enc w (st.X C.X0 σ) d c1:=h1
    refine⟨⟨b,0,none⟩,_,fun _=>c1,hv,fun i hi=>?_,fun j u hj=>?_⟩
    ·have:i=0:=by simp at hi; exact hi
     subst this
     exact⟨by simpa[←hd]using h1,by simpa using hcl⟩
    ·simp only[List.length_cons,List.length_nil,cat,List.nil_append]at hj
     have hjl:=(List.getElem?_eq_some_iff.1 hj).1
     rw[eB,cell_of_row w b _ cur e (0,0) hh,Nat.zero_add,←Array.getElem?_toList]
     rw[←htk,List.getElem?_take,if_pos (by omega)]at hj
     exact hj
theorem lI (hT:aj P T) {t e r:Nat} {re:TyR} {s:Nat} {ex:Bool} {α:Type} {enc:α→D} {xs ys:List α} {x y:Operand} (ht:bh T t=some (.slice e)) (he:lk T e=some re) (hs:Nat.beq re.size s=true) (hs0:Nat.blt 0 s=true)
  (hx:ai env x=some (.own r 0 xs.length s none)) (hrow:aQ h r=some (.ds e s ex enc xs)) (hy:ai env y=some (.d (.arr s enc ys))) (hys:0<ys.length)
  (hlen:xs.length+ys.length≤1048576) (hbytes:Nat.ble re.bytes 134217728=true) :
  ab P (.call { callee :=.builtin .append,args := #[x,y],argTypes := #[t,t] }) env h n (some (.own n 0 (xs.length+ys.length) s none)) [(n,some (.ds e s false enc (xs++ys))),(r,none)]:=by
 have hs0:=Nat.le_of_ble_eq_true hs0
 have hb:=Nat.le_of_ble_eq_true hbytes
 refine g9 hT (ty:=0) (ex:=ex) ht he (Nat.eq_of_beq_eq_true hs) hs0 hx hrow hy hys (by simp only[maxLen]; omega) ?_ ?_
 ·have:(xs.length+ys.length)*re.bytes≤1048576*134217728:=Nat.mul_le_mul hlen hb
  omega
 ·intro C G st σ w a hA hst
  obtain⟨hy1,_⟩:=ak hst (hA.ev hy)
  rcases RelV.arr.1 hy1 with ⟨rfl,_⟩ | ⟨ad,c,hv,_,_,f,hf⟩
  ·simp at hys
  ·refine⟨ad,c,f,hv,fun i hi=>⟨(hf i hi).1,(hf i hi).2.1⟩,fun j u hj=>?_⟩
   have hjl:=(List.getElem?_eq_some_iff.1 hj).1
   rw[cz _ fun i hi=>(hf i hi).2.1]at hjl
   have hi:j/s<ys.length:=Nat.div_lt_of_lt_mul (by rw[Nat.mul_comm]; exact hjl)
   have hm:j % s<s:=Nat.mod_lt _ hs0
   have hj2:j/s*s+j % s=j:=by rw[Nat.mul_comm]; exact Nat.div_add_mod j s
   have:=eH ys.length (fun i hi=>(hf i hi).2.1) (j/s) (j % s) hi hm
   rw[hj2,hj]at this
   have:=((hf _ hi).2.2 (j % s) u this.symm).1
   rwa [hj2]at this
theorem nb (L:List Value):∀N,cat (fun _=>L) N=(List.replicate N L).flatten
 | 0=>rfl
 | N+1=>by rw[cat,nb L N,List.replicate_succ']; simp
theorem dA (hT:aj P T) {t e:Nat} {re:TyR} {s:Nat} {α:Type} {enc:α→D} {x y:Operand} {k k':IntKind} {N:Nat} (z:α) (ht:bh T t=some (.slice e)) (he:lk T e=some re) (hs:Nat.beq re.size s=true) (hs0:Nat.blt 0 s=true) (hz:re.zero=enc z)
  (hx:ai env x=some (.int k N)) (hy:ai env y=some (.int k' N)) (hlen:N≤1048576) (hbytes:Nat.ble re.bytes 134217728=true) :
  ab P (.makeSlice t x y) env h n (some (.own n 0 N s none)) [(n,some (.ds e s true enc (List.replicate N z)))]:=.of_comes fun C G st σ w a o ho hA hdst hst hn=>by
 have hs0:=Nat.le_of_ble_eq_true hs0
 have hs:=Nat.eq_of_beq_eq_true hs
 have hb:=Nat.le_of_ble_eq_true hbytes
 obtain⟨ud,hud,hdd⟩:=bn hT ht
 cases hdd
 obtain⟨i,zv,hi,hi1,hi2,hi3,hi4⟩:=(hT e re he).info
 obtain⟨hx1,_⟩:=RelV.sc.1 (ak hst (hA.ev hx)).1
 obtain⟨hy1,_⟩:=RelV.sc.1 (ak hst (hA.ev hy)).1
 have hzl:zv.cells.toList.length=s:=by
  have h1:=Enc.len _ _ (Enc.closed w (fun _=>False) _ (hT e re he).zero)
  rw[hi4,(hT e re he).zsize,hs]at h1
  exact h1
 have henc:Enc w (st.X C.X0 σ) (enc z) zv.cells.toList:=by rw[←hz,←hi4]; exact Enc.closed _ _ _ (hT e re he).zero
 have hnn:¬G n:=hn n (Nat.le_refl _) (by omega)
 have hmade:(madeCells zv.cells (N*s)).toList=cat (fun _=>zv.cells.toList) N:=by
  have:=lB zv.cells.toList (by omega) N
  rw[hzl]at this
  rw[nb,←this]
  simp[madeCells]
 have hcl:(cat (fun _=>zv.cells.toList) N).length=N*s:=cz _ fun _ _=>hzl
 have hsz:(madeCells zv.cells (N*s)).size=N*s:=by rw[←Array.length_toList,hmade,hcl]
 obtain⟨hst',hσn⟩:=hst.new hnn (madeCells zv.cells (N*s)) e N (.ds e s true enc (List.replicate N z)) trivial (fun σ' w' X' hk1 hk2 hσn hh=>by
  refine .inr ⟨w.heap.size,N,madeCells zv.cells (N*s),hσn,fun _=>by simp,hh,hsz,by simp,by simp only[maxLen]; omega,fun _=>zv.cells.toList,fun i hi=>⟨by simpa using hk2 _ _ henc,hzl⟩,?_⟩
  rw[hmade,List.length_replicate,←hcl,List.take_length])
 have hbb:i.bytes*N≤134217728*1048576:=Nat.mul_le_mul (by omega) hlen
 have hrun:=run_make (P:=P) w t e i zv hud hi hi3 k k' N N (by omega) (Int.le_refl _) (by
  have:((i.bytes*N:Nat):Int)≤281474976710656:=by omega
  rwa [Int.natCast_mul]at this) (by omega)
 simp only[Int.toNat_natCast,hi1,hs]at hrun
 refine⟨_,_,.value (.slice (some ⟨w.heap.size,0,none⟩) N N),_,_,_,fun r=>G r∨r=n,⟨rfl,rfl⟩,?_,.inl rfl,by rw[St.put_upd]; exact hst'.set hdst (u :=.slice (some ⟨w.heap.size,0,none⟩) N N) (RelV.own.2 (.inr ⟨w.heap.size,N,⟨w.heap.size,0,none⟩,hσn,by simp,by simp,by simp,by simp,fun _=>by simp⟩)) (.inr rfl),
  fun r hr=>Or.inl hr,fun r hr=>Or.imp id (fun h=>⟨by omega,by omega⟩) hr⟩
 simp only[execOp,ho,hx1,hy1,Sem.run_bind,hrun,Result.andThen_ok,Sem.run_pure]
end
end Go.Eng
namespace Go.Eng
open Go.RowKit
section
variable {P : Program} {T : Tab} {sz : Nat} {env : Env} {h : Upds} {n : Nat}
theorem tO (hT:aj P T) {t t' e r:Nat} {re:TyR} {s:Nat} {ex:Bool} {te:TypeId} {α:Type} {enc:α→D} {xs ys:List α} {x y:Operand} (ht:bh T t=some (.slice e)) (he:lk T e=some re) (hs:Nat.beq re.size s=true) (hs0:Nat.blt 0 s=true)
  (hx:ai env x=some (.own r 0 xs.length s none)) (hrow:aQ h r=some (.ds te s ex enc xs)) (hy:ai env y=some (.d (.arr s enc ys))) {zs:List α} (hz:ys.take xs.length++xs.drop ys.length=zs) {m:Nat} (hm:min ys.length xs.length=m) :
  ab P (.call { callee :=.builtin .copy,args := #[x,y],argTypes := #[t,t'] }) env h n (some (.int .i64 m)) [(r,some (.ds te s ex enc zs))]:=.of_comes fun C G st σ w a o ho hA hd hst hn=>by
 subst hz
 subst hm
 have hs0:=Nat.le_of_ble_eq_true hs0
 have hs:=Nat.eq_of_beq_eq_true hs
 obtain⟨ud,hud,hdd⟩:=bn hT ht
 cases hdd
 obtain⟨hx1,hx2⟩:=ak hst (hA.ev hx)
 obtain⟨hy1,_⟩:=ak hst (hA.ev hy)
 have hr:=hA.row _ _ hrow
 have hsame:ys.length=0∨xs.length=0→ys.take xs.length++xs.drop ys.length=xs:=by
  rintro (h0 | h0)
  ·rw[List.eq_nil_of_length_eq_zero h0]; simp
  ·rw[List.eq_nil_of_length_eq_zero h0]; simp
 have hquiet:(ys.length=0∨xs.length=0)→(Builtin.copy_ #[t,t'] o.type #[a.eval x,a.eval y]).run P w=.ok (goInt (min ys.length xs.length:Nat)) w →
   cu P C G st n o a w (fun v' u'=>v'=some (.int .i64 (min ys.length xs.length:Nat))∧u'=[(r,some (.ds te s ex enc (ys.take xs.length++xs.drop ys.length)))]):=by
  intro h0 hrun
  rw[hsame h0]
  have hst2:aA C G (st.upd [(r,some (.ds te s ex enc xs))]) σ w a:=by
   refine hst.congr (fun _=>rfl) (fun q=>?_) rfl rfl
   simp only[St.upd,List.cons_append,List.nil_append,aN]
   split
   ·rename_i e0
    subst e0
    have hr':=hr
    simp only[St.row]at hr'
    cases hl:lk st.heap r with
    | none=>rw[hl]at hr'; cases hr'
    | some q=>rw[hl]at hr'; simp only[Option.bind_some,id]at hr'; rw[hr']
   ·rfl
  refine⟨_,_,.value (goInt (min ys.length xs.length:Nat)),_,w,σ,G,⟨rfl,rfl⟩,?_,.inl rfl,by rw[St.put_upd]; exact hst2.set hd (u:=goInt (min ys.length xs.length:Nat)) (RelV.sc.2 ⟨rfl,rfl⟩) trivial,fun _ h=>h,fun _ h=>.inl h⟩
  simp[execOp,ho,resolve,invoke,builtin,hrun]
 obtain⟨sx,hsx⟩:∃b c,a.eval x=.slice b xs.length c:=by
  rcases RelV.own.1 hx1 with ⟨_,_,h0,_,hv⟩ | ⟨b,c,ad,_,hv,_⟩
  ·exact⟨_,_,by rw[hv,h0]⟩
  ·exact⟨_,_,hv⟩
 obtain⟨cx,hv0⟩:=hsx
 have hzero:min ys.length xs.length=0→(Builtin.copy_ #[t,t'] o.type #[a.eval x,a.eval y]).run P w=.ok (goInt (min ys.length xs.length:Nat)) w:=by
  intro h0
  have hmin:Nat.min ys.length xs.length=0:=h0
  rcases RelV.arr.1 hy1 with ⟨rfl,hv⟩ | ⟨ad,c,hv,_⟩
  ·cases sx <;> simp[Builtin.copy_,hv0,hv,run_underlying hud,Builtin.lenOf,(hT e re he).run_size,Builtin.firstCells,storeCells,goInt]
  ·have hf:=run_firstCells_some (P:=P) w s 0 ad ys.length c [] (by simp) (by simp)
   cases sx <;> simp[Builtin.copy_,hv0,hv,run_underlying hud,Builtin.lenOf,(hT e re he).run_size,hs,hmin,h0,hf,storeCells,goInt]
 by_cases h0:min ys.length xs.length=0
 ·exact hquiet (by omega) (hzero h0)
 ·rcases RelV.arr.1 hy1 with ⟨rfl,_⟩ | ⟨ad,cy,hvy,_,_,f,hf⟩
  ·simp at h0
  rcases hst.rows r _ hr with ⟨_,rfl⟩ | ⟨b,c,cur,hσ,hex,hh,hcs,hle,hcm,g,hg,htk⟩
  ·simp at h0
  rcases RelV.own.1 hx1 with ⟨_,_,hl0,_⟩ | ⟨b',c',a',hσ',hv,_,_,hlec,had⟩
  ·omega
  rw[hσ]at hσ'
  cases hσ'
  have:a'=⟨b,0,none⟩:=by have:=had (by omega); simpa using this
  subst this
  have hfl:(cat f (min ys.length xs.length)).length=min ys.length xs.length*s:=cz _ fun i hi=>(hf i (by omega)).2.1
  have hgl:(cat g xs.length).length=xs.length*s:=cz _ fun i hi=>(hg i hi).2
  have hsrc:∀j u,(cat f (min ys.length xs.length))[j]?=some u→w.cell? (ad.add j)=some u:=fun j u hj=>by
   have hjl:=(List.getElem?_eq_some_iff.1 hj).1
   rw[hfl]at hjl
   have hi:j/s<min ys.length xs.length:=Nat.div_lt_of_lt_mul (by rw[Nat.mul_comm]; exact hjl)
   have hm:j % s<s:=Nat.mod_lt _ hs0
   have hj2:j/s*s+j % s=j:=by rw[Nat.mul_comm]; exact Nat.div_add_mod j s
   have:=eH _ (fun i hi=>(hf i (by omega)).2.1) (j/s) (j % s) hi hm
   rw[hj2,hj]at this
   have:=((hf _ (by omega)).2.2 (j % s) u this.symm).1
   rwa [hj2]at this
  have hone:∀u∈cat f (min ys.length xs.length),u.oneCell'=true:=fun u hu=>by
   obtain⟨k,hk,hu⟩:=jz _ hu
   exact Enc.one _ _ (hf k (by omega)).1 u hu
  have hmul:min ys.length xs.length*s≤xs.length*s:=Nat.mul_le_mul_right _ (Nat.min_le_right _ _)
  have hmulc:xs.length*s≤c*s:=Nat.mul_le_mul_right _ hle
  have hf1:=run_firstCells_some (P:=P) w s (min ys.length xs.length) ad ys.length cy _ hfl hsrc
  have hst1:=run_storeCells_at P b 0 te (cat f (min ys.length xs.length)) 0 cur w hh (by rw[hfl,hcs]; omega) hone
  simp only[Nat.add_zero,Nat.zero_add,List.take_zero,List.nil_append]at hst1
  have hrun:(Builtin.copy_ #[t,t'] o.type #[a.eval x,a.eval y]).run P w=.ok (goInt (min ys.length xs.length:Nat)) (w.setRow b (cat f (min ys.length xs.length)++cur.toList.drop (cat f (min ys.length xs.length)).length).toArray):=by
   have hmin:Nat.min ys.length xs.length=min ys.length xs.length:=rfl
   simp[Builtin.copy_,hv,hvy,run_underlying hud,Builtin.lenOf,(hT e re he).run_size,hs,hmin,hf1,hst1,goInt]
  have hw:=hst.write (new:=(cat f (min ys.length xs.length)++cur.toList.drop (cat f (min ys.length xs.length)).length).toArray) (row :=.ds te s ex enc (ys.take xs.length++xs.drop ys.length)) hr hσ hh trivial (fun w' hk1 hk2 hh'=>by
   have hll:(ys.take xs.length++xs.drop ys.length).length=xs.length:=by simp; omega
   refine .inr ⟨b,c,_,hσ,fun e=>by rw[hll]; exact hex e,hh',?_,by rw[hll]; exact hle,hcm,fun i=>if i<min ys.length xs.length then f i else g i,fun i hi=>?_,?_⟩
   ·simp only[List.size_toArray,List.length_append,List.length_drop,Array.length_toList,hfl,hcs]; omega
   ·rw[hll]at hi
    by_cases hlt:i<min ys.length xs.length
    ·simp only[if_pos hlt]
     have:(ys.take xs.length++xs.drop ys.length)[i]'(by rw[hll]; exact hi)=ys[i]'(by omega):=by
      rw[List.getElem_append_left (by simp; omega)]; simp
     rw[this]
     exact⟨hk2 _ _ (hf i (by omega)).1,(hf i (by omega)).2.1⟩
    ·simp only[if_neg hlt]
     have:(ys.take xs.length++xs.drop ys.length)[i]'(by rw[hll]; exact hi)=xs[i]:=by
      rw[List.getElem_append_right (by simp; omega)]
      simp only[List.length_take,List.getElem_drop]
      congr 1; omega
     rw[this]
     exact⟨hk2 _ _ (hg i hi).1,(hg i hi).2⟩
   ·rw[hll]
    have hsplit:xs.length=min ys.length xs.length+(xs.length-min ys.length xs.length):=by omega
    have e1:cat (fun i=>if i<min ys.length xs.length then f i else g i) (min ys.length xs.length)=cat f (min ys.length xs.length):=dZ _ fun i hi=>by simp only[if_pos hi]
    have e2:cat (fun i=>(fun i=>if i<min ys.length xs.length then f i else g i) (min ys.length xs.length+i)) (xs.length-min ys.length xs.length)=cat (fun i=>g (min ys.length xs.length+i)) (xs.length-min ys.length xs.length):=dZ _ fun i _=>by simp only[if_neg (show ¬(min ys.length xs.length+i<min ys.length xs.length) by omega)]
    have e3:cat g xs.length=cat g (min ys.length xs.length)++cat (fun i=>g (min ys.length xs.length+i)) (xs.length-min ys.length xs.length):=by rw[←fN,←hsplit]
    have e4:(cat g (min ys.length xs.length)).length=min ys.length xs.length*s:=cz _ fun i hi=>(hg i (by omega)).2
    have e5:cat (fun i=>g (min ys.length xs.length+i)) (xs.length-min ys.length xs.length)=(cur.toList.take (xs.length*s)).drop (min ys.length xs.length*s):=by
     rw[htk,e3,←e4,List.drop_left]
    rw[show cat (fun i=>if i<min ys.length xs.length then f i else g i) xs.length=cat (fun i=>if i<min ys.length xs.length then f i else g i) (min ys.length xs.length+(xs.length-min ys.length xs.length)) from by rw[←hsplit]]
    rw[fN,e1,e2,e5]
    simp only[hfl]
    rw[List.take_append,hfl,List.take_of_length_le (by rw[hfl]; exact hmul),←List.drop_take])
  refine⟨_,_,.value (goInt (min ys.length xs.length:Nat)),_,_,σ,G,⟨rfl,rfl⟩,?_,.inl rfl,by rw[St.put_upd]; exact hw.set hd (u:=goInt (min ys.length xs.length:Nat)) (RelV.sc.2 ⟨rfl,rfl⟩) trivial,fun _ h=>h,fun _ h=>.inl h⟩
  simp[execOp,ho,resolve,invoke,builtin,hrun]
theorem wm {x y:Operand} {ts:Array TypeId} {k:IntKind} {p q m:Int} (hx:ai env x=some (.int k p)) (hy:ai env y=some (.int k q)) (hm:max p q=m) :
  ab P (.call { callee :=.builtin .max,args := #[x,y],argTypes:=ts }) env h n (some (.int k m)) []:=.of_comes fun C G st σ w a o ho hA hd hst hn=>by
 subst hm
 obtain⟨hx1,_⟩:=RelV.sc.1 (ak hst (hA.ev hx)).1
 obtain⟨hy1,_⟩:=RelV.sc.1 (ak hst (hA.ev hy)).1
 refine .quiet (u :=.int k (max p q)) hst hd ⟨rfl,rfl⟩ ?_ (RelV.sc.2 ⟨rfl,rfl⟩) trivial
 simp[execOp,ho,resolve,invoke,builtin,Builtin.max_,Builtin.max2,hx1,hy1]
 rw[Int.max_def]
 split <;> split <;> omega
end
end Go.Eng
namespace Go.Eng
open Go.RowKit
section
variable {P : Program} {T : Tab} {sz : Nat} {env : Env} {h : Upds} {n : Nat}
theorem ii {f:Operand} {args:Array Operand} {ts:Array TypeId} {g:FuncId} {bs9 avs:List AV} {res:AV} (hfn:FnIs P g avs [] res []) (hf:ai env f=some (.fn (.func g) .anil .anil)) (hl:evL (ai env) args.toList=some bs9)
  (ha:bU (aQ h) (rho []) bs9 avs) (hm:bY bs9 avs=true∨cr res []) (hr:∀ρ,res.ren ρ=res) :
  ab P (.call { callee :=.value f,args:=args,argTypes:=ts }) env h n (some res) []:=by
 have:=ab.call (n:=n) (ts:=ts) (h0:=[]) (rows:=[]) (res:=res) [] hfn hf hl rfl rfl (by simpa[bw]using ha) trivial rfl rfl (by simpa[bw]using hm)
 rw[hr]at this
 exact this
theorem cr.sc (v:Value):cr (.d (.sc v)) []:=fun _ _ _ _=>⟨fun _ h=>h,fun r row h=>by simp[lk]at h⟩
theorem Bl {look:Nat→Option Row} {ρ:Nat→Option Nat} {x y:D} {bs9 avs:List AV} (hx:y.isAgg=x.isAgg) (_:True) (hle:DLe x y) (h:bU look ρ bs9 avs):bU look ρ (.d x::bs9) (.d y::avs):=
 ⟨.d y,avs,rfl,⟨rfl,rfl⟩,⟨hx,hle⟩,h⟩
theorem aE {look:Nat→Option Row} {ρ:Nat→Option Nat} {x:D} {bs9 avs:List AV} (h:bU look ρ bs9 avs):bU look ρ (.d x::bs9) (.d x::avs):=Bl rfl trivial (.refl x) h
theorem au {look:Nat→Option Row} {ρ:Nat→Option Nat}:bU look ρ [] []:=rfl
theorem od {look:Nat→Option Row} {ρ:Nat→Option Nat} {α:Type} {s r:Nat} {te:TypeId} {ex:Bool} {cap:Option Nat} {enc:α→D} {xs:List α} {bs9 avs:List AV} (hr:look r=some (.ds te s ex enc xs)) (h:bU look ρ bs9 avs) :
  bU look ρ (.own r 0 xs.length s cap::bs9) (.d (.arr s enc xs)::avs):=
 ⟨_,avs,rfl,⟨rfl,rfl⟩,⟨rfl,by simp only[ArgD,hr]; exact⟨trivial,by simp,xs,by simp,.refl _⟩⟩,h⟩
variable {all l : List Oper} {acc : List br} {K : Env → Upds → Nat → Prop}
theorem x8 {d:Option Tmp} {op:Op} {ty:TypeId} {pos:String} {af:Array Edge} {v:Option AV} {u:Upds} {env':Env} {h':Upds} (hd:ez d sz=true)
  (hs:ab P op (only (fu all ⟨d,op,ty,pos,af,none⟩) env) (only (yV env h ⟨d,op,ty,pos,af,none⟩) h) n v u) (he:putE d v env=env') (hh:u++h=h')
  (h1:RegD P all sz l (n+8) env' h' (⟨⟨d,op,ty,pos,af,none⟩,fu all ⟨d,op,ty,pos,af,none⟩,yV env h ⟨d,op,ty,pos,af,none⟩,v,u⟩::acc) K):RegD P all sz (⟨d,op,ty,pos,af,none⟩::l) n env h acc K :=
 cT _ _ hd (.plain hs) he hh h1
end
end Go.Eng
namespace Go.Eng
open Go.RowKit
section
variable {P : Program} {T : Tab} {sz : Nat} {env : Env} {h : Upds} {n : Nat}
theorem kB (hT:aj P T) {t:TypeId} {x i:Operand} {s:ByteArray} {k:IntKind} {m:Int} {b:UInt8} {v:Int} (ht:bh T t=some .string) (hx:ai env x=some (.d (.sc (.string s)))) (hi:ai env i=some (.int k m)) (h0:0≤m) (hb:s[m.toNat]?=some b) (hv:(b.toNat:Int)=v) :
  ab P (.index t x i) env h n (some (.int .u8 v)) []:=.of_opD hT fun K hK=>by
 subst hv
 simp only[opD,ht,hx,hi]
 exact⟨h0,b,hb,hK⟩
end
end Go.Eng
namespace Go.Eng
open Go.RowKit
def DO (P:Program) (gf:FuncId) (us:List Value) (R:World→Prop) {α:Type} (enc:α→Value) (Next:List α→α→Prop) (Done:List α→Prop):Prop :=
 ∀(l:Nat) (J Jx:List α→World→Prop) (N:Nat) (w:World),(∀pre W,J pre W→R W∧pre.length≤N) →
  (∀pre x W,J pre W→Next pre x→YieldAt Fence.wide 0 P l #[enc x] W fun e W'=>(e=.returned (.bool true)∧J (pre++[x]) W')∨(e=.returned (.bool false)∧Jx (pre++[x]) W')) →
  J [] w→Calls P gf (#[.func (.yield l) #[] #[]]++us.toArray) w fun e W'=>(∃v,e=.returned v)∧((∃pre,Done pre∧J pre W')∨∃pre,Jx pre W')
def Fz (caps:AV) (rd:List (Nat×Row)) (us:List Value) (W:World):Prop:=∃σ X,Rel σ W X caps true us∧∀r row,lk rd r=some row→bx σ W X r row
def FP (P:Program) (gf:FuncId) (caps:AV) (rd:List (Nat×Row)) {α:Type} (enc:α→Value) (Next:List α→α→Prop) (Done:List α→Prop):Prop :=
 (∃ fn, P.funcs[gf]? = some fn ∧ (fn.name == "runtime.NumGoroutine") = false ∧ fn.body.isNone = false) ∧ ∀ us, DO P gf us (Fz caps rd us) enc Next Done
def FM (Q:Exit→St→Prop) (l:bC) (n sz:Nat) (h0:List (Nat×Row)) (env:Env) (h h':Upds) (Inv':Prop) (e:Exit) (st:St):Prop:=match e with
 | .normal=>∃rows l1 l2,Le l1 st ⟨[],aw rows,72,sz,64⟩∧Inv'∧Le l2 ⟨env,bA l n h0 rows++h,n+8,sz,64⟩ ⟨env,h',n,sz,64⟩
 | .exit i=>∃rows l1,Le l1 st ⟨[],aw rows,72,sz,64⟩∧Q (.exit i) ⟨env,bA l n h0 rows++h,n+8,sz,64⟩
 | .ret=>∃rows l1,Le l1 st ⟨[],aw rows,72,sz,64⟩∧Q .ret ⟨env,bA l n h0 rows++h,n+8,sz,64⟩
 | _=>False
section
variable {P : Program} {C : Ctx} {G : Nat → Prop} {st : St} {σ : aB} {w : World} {a : Act}
theorem aA.allocBook (h:aA C G st σ w a) (o:Obj):aA C G st σ (w.alloc o) a:=by
 have hold:∀k,k<w.heap.size→(w.alloc o).heap[k]?=w.heap[k]?:=fun k hk=>Below.heap_alloc _ _ _ hk
 exact h.core (fun _ h=>h) (fun _ _=>rfl) (fun ad u h1 h2=>⟨.of_block (Below.heap_alloc _ _ _ (World.block_lt_of_cell? w ad h1)) h1,h2⟩) rfl rfl rfl
  (fun r row h1=>.inl ⟨h1,fun b c hs=>hold b (h.lt h1 hs)⟩) h.inj h.high (by simp; have:=h.size; omega)
  (Below.toM ((Below.refl C.B w).alloc h.size _) fun k x hx _=>(hold k (Array.getElem?_eq_some_iff.1 hx).1).trans hx)
theorem aA.spread (h:aA C G st σ w a) {env':Env} {sz':Nat} {a':Act} (he:∀i v,lk env' i=some v→(∃u,a'.tmps[i]?=some u∧RelV σ w (st.X C.X0 σ) v u)∧v.within G) (hs:a'.tmps.size=sz') (hd:hU C w a'.defers) :
    aA C G { st with env:=env',sz:=sz' } σ w a' :=
  { h with
    env:=fun i v hi=>(he i v hi).1
    envG:=fun i v hi=>(he i v hi).2
    sz:=hs
    defers:=hd }
theorem aA.inRo (h:aA C G st σ w a) (ro:Option Nat) (hr:∀l,ro=some l→∃r,w.heap[l]?=some (.loop r)) (hd:hU { C with ro:=ro } w a.defers):aA { C with ro:=ro } G st σ w a :=
 { env:=h.env,envG:=h.envG,rows:=h.rows,rowsG:=h.rowsG,inj:=h.inj,high:=h.high,size:=h.size,below:=h.below,defers:=hd,sz:=h.sz,x0:=h.x0,agree:=h.agree,baseG:=h.baseG,bs:=h.bs,rok:=hr,glob:=h.glob }
theorem aA.enterLoop (h:aA C G st σ w a) (fn:FuncId) (ps:Array Tmp) (assign body:Code) :
  ∃(l:Nat) (mark:List Deferred) (dd:Nat) (W1:World),(Instr.enterLoop fn a.tmps ps assign body C.ro).run P w=.ok (l,mark) W1 ∧
   W1.heap[l]?=some (.loop { state :=.ready,pending:=none,fn,tmps:=a.tmps,params:=ps,assign,body,defers:=dd })∧aA C G st σ W1 a∧C.w0.heap.size≤l∧C.B≤l∧(∀l0,C.ro=some l0→l0≠l) ∧
   (∀W':World,(∀k:Nat,k≠l→W1.heap[k]?=some (.deferred (some []))→W'.heap[k]?=some (.deferred (some [])))→hU C W' (mark++a.defers)):=by
 have hw0:=h.below.size
 have hsz:=h.size
 have hdef:∀(W':World),(∀k:Nat,w.heap[k]?=some (.deferred (some []))→W'.heap[k]?=some (.deferred (some [])))→hU C W' a.defers:=fun W' hk=>h.defers.go hk
 cases hro:C.ro with
 | none =>
  refine⟨_,_,w.heap.size,_,run_enterLoop_outer _ _ _ _ _,?_,(h.allocBook _).allocBook _,by omega,by omega,fun _ h=>(by cases h),fun W' hk=>?_⟩
  ·have:=World.alloc_heap_new (w.alloc (.deferred (some []))) (.loop { state :=.ready,pending:=none,fn,tmps:=a.tmps,params:=ps,assign,body,defers:=w.heap.size })
   rwa [World.size_alloc]at this
  ·have hnew:((w.alloc (.deferred (some []))).alloc (.loop { state :=.ready,pending:=none,fn,tmps:=a.tmps,params:=ps,assign,body,defers:=w.heap.size })).heap[w.heap.size]?=some (.deferred (some [])):=
    (Below.heap_alloc _ _ _ (by simp)).trans (World.alloc_heap_new w _)
   refine⟨⟨w.heap.size,rfl,by omega,by omega,hk _ (by omega) hnew,fun hm=>?_⟩,hdef W' fun k h1=>?_⟩
   ·have:∀ds,hU C w ds→({ target :=.collected w.heap.size,args := #[] }:Deferred) ∉ ds:=by
     intro ds
     induction ds with
     | nil=>intro _ hm; cases hm
     | cons d ds ih =>
      rintro⟨⟨D,rfl,_,_,h3,_⟩,h4⟩ hm
      rcases List.mem_cons.1 hm with hm | hm
      ·have:w.heap.size=D:=by simpa using hm
       subst this
       simp at h3
      ·exact ih h4 hm
    exact this _ h.defers hm
   ·have hlt:=(Array.getElem?_eq_some_iff.1 h1).1
    exact hk k (by omega) ((Below.heap_alloc _ _ _ (by simp; omega)).trans ((Below.heap_alloc _ _ _ hlt).trans h1))
 | some l0 =>
  obtain⟨r0,hr0⟩:=h.rok l0 hro
  refine⟨_,_,r0.defers,_,run_enterLoop_inner hr0 _ _ _ _ _,World.alloc_heap_new _ _,h.allocBook _,by omega,by omega,fun l1 h1=>?_,fun W' hk=>?_⟩
  ·cases h1
   have:=(Array.getElem?_eq_some_iff.1 hr0).1
   omega
  ·refine hdef W' fun k h1=>?_
   have hlt:=(Array.getElem?_eq_some_iff.1 h1).1
   exact hk k (by omega) ((Below.heap_alloc _ _ _ hlt).trans h1)
end
theorem q6 {F:Fence} {n:Nat} {P:Program} {id:Nat} {d t:Tmp} {ty:TypeId} {pos:String} {af:Array Edge} {Q:Exit→Act→World→Prop} {a:Act} {w:World} (h:Q .normal (a.put (some d) (a.eval (.tmp t))) w) :
  (Code.region id #[⟨some d,.assign (.tmp t),ty,pos,af,none⟩] false).wpIn F n P Q a w:=by
 refine wpIn_region_list ?_
 unfold wpListIn
 rw[if_pos (show Region.wanted ⟨some d,.assign (.tmp t),ty,pos,af,none⟩ _=true from rfl)]
 have hr:(execOp a.eval ⟨some d,.assign (.tmp t),ty,pos,af,none⟩).run P w=.ok (.value (a.eval (.tmp t))) w:=by simp[execOp]
 refine⟨fun f hf=>by simp[Oper.about]at hf,?_⟩
 rw[Oper.semAt_eq _ _ _ (fun c hc=>by cases hc),hr]
 exact h
section
variable {P : Program} {T : Tab} {sz n : Nat} {Q : Exit → St → Prop} {env : Env} {h : Upds}
end
section
variable {Q : Exit → St → Prop} {l : bC} {n sz : Nat} {h0 : List (Nat × Row)} {env : Env} {h h' : Upds} {Inv' : Prop} {st : St}
end
end Go.Eng
namespace Go.Eng
open Go.RowKit
theorem aT {look:Nat→Option Row} {ρ:Nat→Option Nat} {r k:Nat} {p:List Step} {bs9 avs:List AV} (hr:ρ r=some k) (h64:Nat.blt r 64=true) (h:bU look ρ bs9 avs):bU look ρ (.ptr k p::bs9) (.ptr r p::avs):=
 ⟨_,avs,rfl,⟨rfl,h64⟩,AVLe.of_eq (by simp only[AV.ren,hr]),h⟩
theorem cU {look:Nat→Option Row} {ρ:Nat→Option Nat} {f:Fn} {r k:Nat} {p:List Step} {bs9 avs:List AV} (hr:ρ r=some k) (h64:Nat.blt r 64=true) (h:bU look ρ bs9 avs) :
  bU look ρ (.fn f .anil (.acons (.ptr k p) .anil)::bs9) (.fn f .anil (.acons (.ptr r p) .anil)::avs):=
 ⟨_,avs,rfl,⟨rfl,by simp[AV.lt,h64]⟩,AVLe.of_eq (by simp only[AV.ren,hr]),h⟩
theorem iV {look:Nat→Option Row} {ρ:Nat→Option Nat} {r k off len s:Nat} {cap:Option Nat} {bs9 avs:List AV} (hr:ρ r=some k) (h64:Nat.blt r 64=true) (h:bU look ρ bs9 avs) :
  bU look ρ (.own k off len s cap::bs9) (.own r off len s cap::avs):=
 ⟨_,avs,rfl,⟨rfl,h64⟩,AVLe.of_eq (by simp only[AV.ren,hr]),h⟩
def D.plain:D→Prop
 | .sc _=>True
 | .nil=>True
 | .cons a r=>a.plain∧r.plain
 | .vec _ _ enc _=>∀x,(enc x).plain
 | .arr .. => False
 | .pt _=>False
 | .arx .. => False
 | .re .. => False
 | .jk .. => False
def AV.plain:AV→Prop
 | .d x=>x.plain
 | .anil=>True
 | .acons a r=>a.plain∧r.plain
 | .own .. => True
 | .ptr .. => True
 | .asl .. => True
 | .mapr .. => True
 | .tup q=>q.plain
 | _=>False
def Row.plain:Row→Prop
 | .box _ a=>a.plain
 | .ds _ _ _ enc _=>∀x,(enc x).plain
 | .lits _ _ _ _ a=>a.plain
 | .mo a=>a.plain
 | .si .. => True
 | .mq _=>True
 | .lo _=>True
 | .mi a _ _ _=>a.plain
section
variable {w : World} {σ : aB} {X X' : Nat → Prop}
end
section
variable {P : Program} {T : Tab} {env : Env} {h : Upds} {n : Nat}
theorem aS {f:Operand} {args:Array Operand} {ts:Array TypeId} {g:FuncId} {caps:AV} {bs9 avs:List AV} {h0 rows:List (Nat×Row)} {res v:AV} {u:Upds} (l:bC)
  (hfn:FnIs P g avs h0 res rows) (hf:ai env f=some (.fn (.func g) .anil caps)) (hl:evL (ai env) args.toList=some bs9) (hc2:caps.chain=true)
  (ha:bU (aQ h) (rho l) (bs9++bw caps) avs) (hr:RowsIn (aQ h) l h0) (hi:ey (rho l) (aU h0)=true) (hk:ga l h0=true)
  (hm:bY (bs9++bw caps) avs=true∨h0=[]∧cr res rows) (hv:res.ren (eb l n)=v) (hu:bA l n h0 rows=u) :
  ab P (.call { callee :=.value f,args:=args,argTypes:=ts }) env h n (some v) u:=by
 have:=ab.call (n:=n) (ts:=ts) (h0:=h0) (rows:=rows) (res:=res) l hfn hf hl rfl hc2 ha hr hi hk hm
 rw[hv,hu]at this
 exact this
end
end Go.Eng
namespace Go.Eng
open Go.RowKit
def Fe (z:D):Nat→D
 | 0=>.nil
 | n+1=>.cons z (Fe z n)
section
variable {P : Program} {T : Tab} {sz : Nat} {env : Env} {h : Upds} {n : Nat}
end
end Go.Eng
namespace Go.Eng
open Go.RowKit
theorem tW {look:Nat→Option Row} {ρ:Nat→Option Nat} {α:Type} {s r len:Nat} {te:TypeId} {ex:Bool} {cap:Option Nat} {enc:α→D} {xs:List α} {bs9 avs:List AV} (hr:look r=some (.ds te s ex enc xs)) (hl:len=xs.length) (h:bU look ρ bs9 avs) :
  bU look ρ (.own r 0 len s cap::bs9) (.d (.arr s enc xs)::avs):=by subst hl; exact od hr h
def sk {α:Type} (enc:α→D):List α→AV
 | []=>.anil
 | x::xs=>.acons (.d (enc x)) (sk enc xs)
theorem vD {α:Type} {σ:aB} {w:World} {X:Nat→Prop} {enc:α→D} {s:Nat} (hs:∀x,(enc x).size=s):∀(xs:List α) (cs:List Value),Rel σ w X (sk enc xs) false cs →
  ∃f:Nat→List Value,(∀i (h:i<xs.length),Enc w X (enc xs[i]) (f i)∧(f i).length=s)∧cs=cat f xs.length:=by
 intro xs
 induction xs with
 | nil=>rintro cs rfl; exact⟨fun _=>[],fun i hi=>absurd hi (Nat.not_lt_zero _),rfl⟩
 | cons x xs ih =>
  rintro cs ⟨c1,c2,rfl,h1,h2⟩
  obtain⟨f,hf,rfl⟩:=ih c2 h2
  refine⟨fun i=>match i with | 0=>c1 | j+1=>f j,fun i hi=>?_,?_⟩
  ·cases i with
   | zero=>exact⟨h1,by rw[Enc.len _ _ h1,hs]⟩
   | succ j=>exact hf j (by simpa using hi)
  ·rw[List.length_cons,Nat.add_comm,fN]
   have:(fun i=>(match 1+i with | 0=>c1 | j+1=>f j:List Value))=f:=by funext i; rw[Nat.add_comm]
   simp only[this,cat,List.nil_append]
theorem aM.lits_ds {α:Type} {t s n:Nat} {ex:Bool} {enc:α→D} {xs:List α} (hs:∀x,(enc x).size=s) (hn:n=xs.length):aM (.lits t s n ex (sk enc xs)) (.ds t s ex enc xs):=by
 subst hn
 rintro σ w X r ⟨_,⟨h1,h2⟩ | ⟨b,c,cur,cs,h1,h0,h2,h3,h4,h5,h6,h7,h8⟩⟩
 ·exact .inl ⟨h1,List.eq_nil_of_length_eq_zero h2⟩
 ·obtain⟨f,hf,rfl⟩:=vD hs xs cs h7
  exact .inr ⟨b,c,cur,h1,h0,h2,h3,h4,h5,f,hf,h8⟩
end Go.Eng
namespace Go.Eng
open Go.RowKit
section
variable {P : Program} {T : Tab} {sz : Nat} {env : Env} {h : Upds} {n : Nat}
theorem jM (hT:aj P T) {t e:Nat} {re:TyR} {x i:Operand} {α:Type} {s:Nat} {enc:α→D} {xs:List α} {k:IntKind} {m:Int} (ht:bh T t=some (.slice e)) (he:lk T e=some re)
  (hx:ai env x=some (.d (.arr s enc xs))) (hi:ai env i=some (.int k m)) (h0:0≤m) (h1:m≤xs.length):ab P (.slice t x none (some i) none) env h n (some (.d (.arr s enc (xs.take m.toNat)))) []:=.of_comes fun C G st σ w a o ho hA hdst hst hn=>by
 obtain⟨ud,hud,hdd⟩:=bn hT ht
 cases hdd
 obtain⟨hx1,_⟩:=ak hst (hA.ev hx)
 obtain⟨hi1,_⟩:=RelV.sc.1 (ak hst (hA.ev hi)).1
 have hsz:=(hT e re he).run_size (P:=P)
 have hlen:(xs.take m.toNat).length=m.toNat:=by rw[List.length_take]; omega
 rcases RelV.arr.1 hx1 with ⟨rfl,hv⟩ | ⟨ad,c,hv,hc1,hc2,f,hf⟩
 ·have hm0:m=0:=by simp at h1; omega
  subst hm0
  refine .quiet (u :=.slice none 0 0) hst hdst ⟨rfl,rfl⟩ ?_ (RelV.arr.2 (.inl ⟨rfl,rfl⟩)) trivial
  simp[execOp,ho,Instr.sliceAt,Instr.slice,hv,hi1,run_underlying hud,Instr.sliceBounds,Instr.sliceBound,asIntOf,hsz,Sem.run_bind,Sem.run_pure,Result.andThen_ok]
 ·refine .quiet (u :=.slice (some ad) m.toNat c) hst hdst ⟨rfl,rfl⟩ ?_ (RelV.arr.2 (.inr ⟨ad,c,by rw[hlen],by rw[hlen]; omega,hc2,f,fun j hj=>?_⟩)) trivial
  ·have hle:m≤(c:Int):=by omega
   simp[execOp,ho,Instr.sliceAt,Instr.slice,hv,hi1,run_underlying hud,Instr.sliceBounds,Instr.sliceBound,asIntOf,hsz,Sem.run_bind,Sem.run_pure,Result.andThen_ok,h0,hle,Addr.add_zero']
  ·have hj2:j<xs.length:=by rw[hlen]at hj; omega
   obtain⟨g1,g2⟩:=hf j hj2
   rw[List.getElem_take]
   exact⟨g1,g2⟩
end
end Go.Eng
namespace Go.Eng
open Go.RowKit
section
variable {P : Program} {T : Tab} {env : Env} {h : Upds} {n : Nat}
end
section
variable {P : Program} {T : Tab} {env : Env} {h : Upds} {n : Nat}
end
end Go.Eng
namespace Go.Eng
open Go.RowKit
section
variable {P : Program} {sz : Nat} {env : Env} {h : Upds} {n : Nat} {all l : List Oper} {acc : List br} {K : Env → Upds → Nat → Prop}
theorem vq (ks rs:List Nat) {d:Tmp} {op:Op} {ty:TypeId} {pos:String} {af:Array Edge} {v:AV} (hd:Nat.blt d sz=true)
  (hs:ab P op (only ks env) (only rs h) n (some v) [])
  (h1:RegD P all sz l (n+8) ((d,v)::env) h (⟨⟨some d,op,ty,pos,af,none⟩,ks,rs,some v,[]⟩::acc) K):RegD P all sz (⟨some d,op,ty,pos,af,none⟩::l) n env h acc K :=
 cT _ _ hd (.plain hs) rfl rfl h1
theorem c9 (ks rs:List Nat) {d:Tmp} {op:Op} {ty:TypeId} {pos:String} {af:Array Edge} {v:AV} {x:Nat×Option Row} (hd:Nat.blt d sz=true)
  (hs:ab P op (only ks env) (only rs h) n (some v) [x])
  (h1:RegD P all sz l (n+8) ((d,v)::env) (x::h) (⟨⟨some d,op,ty,pos,af,none⟩,ks,rs,some v,[x]⟩::acc) K):RegD P all sz (⟨some d,op,ty,pos,af,none⟩::l) n env h acc K :=
 cT _ _ hd (.plain hs) rfl rfl h1
theorem bj (ks rs:List Nat) {op:Op} {ty:TypeId} {pos:String} {af:Array Edge} {x:Nat×Option Row}
  (hs:ab P op (only ks env) (only rs h) n none [x])
  (h1:RegD P all sz l (n+8) env (x::h) (⟨⟨none,op,ty,pos,af,none⟩,ks,rs,none,[x]⟩::acc) K):RegD P all sz (⟨none,op,ty,pos,af,none⟩::l) n env h acc K :=
 cT _ _ rfl (.plain hs) rfl rfl h1
theorem aD (ks rs:List Nat) {d:Tmp} {op:Op} {ty:TypeId} {pos:String} {af:Array Edge} {j g:Nat} {want b:Bool} {v:AV} (hj:((all[j]?).bind (·.dst))=some g) (hb:lk (only ks env) g=some (.bool b)) (hw:b=want) (hd:Nat.blt d sz=true)
  (hs:ab P op (only ks env) (only rs h) n (some v) [])
  (h1:RegD P all sz l (n+8) ((d,v)::env) h (⟨⟨some d,op,ty,pos,af,some (j,want)⟩,ks,rs,some v,[]⟩::acc) K):RegD P all sz (⟨some d,op,ty,pos,af,some (j,want)⟩::l) n env h acc K :=
 cT _ _ hd (.on hj hb hw hs) rfl rfl h1
theorem x9 (ks:List Nat) {d:Tmp} {op:Op} {ty:TypeId} {pos:String} {af:Array Edge} {j g:Nat} {want b:Bool} (hj:((all[j]?).bind (·.dst))=some g) (hb:lk (only ks env) g=some (.bool b)) (hw:b = !want) (hd:Nat.blt d sz=true)
  (h1:RegD P all sz l (n+8) ((d,.undef)::env) h (⟨⟨some d,op,ty,pos,af,some (j,want)⟩,ks,[],none,[]⟩::acc) K):RegD P all sz (⟨some d,op,ty,pos,af,some (j,want)⟩::l) n env h acc K :=
 cT _ _ hd (.off hj hb hw) rfl rfl h1
theorem vr (ks:List Nat) {d:Tmp} {op:Op} {ty:TypeId} {pos:String} {af:Array Edge} {j g:Nat} {want:Bool} (hj:((all[j]?).bind (·.dst))=some g) (hb:lk (only ks env) g=some .undef) (hd:Nat.blt d sz=true)
  (h1:RegD P all sz l (n+8) ((d,.undef)::env) h (⟨⟨some d,op,ty,pos,af,some (j,want)⟩,ks,[],none,[]⟩::acc) K):RegD P all sz (⟨some d,op,ty,pos,af,some (j,want)⟩::l) n env h acc K :=
 cT _ _ hd (.offU hj hb) rfl rfl h1
end
end Go.Eng
namespace Go.Eng
open Go.RowKit
def ec:List Nat→Nat
 | []=>0
 | i::l=>Nat.lor (Nat.pow 2 i) (ec l)
def bitB (m i:Nat):Bool:=Nat.beq (Nat.land (Nat.shiftRight m i) 1) 1
def vg (n:Nat) (f:Nat→Bool):Bool:=match n with
 | 0=>f 0
 | k+1=>f (k+1)
def sX (mr:List Nat) (k:Nat):List Edge→Nat
 | []=>0
 | e::es=>bif fI e then Nat.lor (Nat.pow 2 e.on) (Nat.lor (mr[k-1-e.on]?.getD 0) (sX mr k es)) else sX mr k es
def lx (m:Nat) (g:br):List br→Nat→Bool
 | [],_=>true
 | _::_,0=>false
 | f::fs,k+1=>bif bitB m k then lx m g fs k else (bif fa f g then lx m g fs k else false)
def wJ:List br→Nat→List Nat→List br→Bool
 | [],_,_,_=>true
 | g::gs,k,mr,sr=>bif dY k g.op.after.toList then
   vg (sX mr k g.op.after.toList) fun m=>bif lx m g sr k then vg k.succ fun k'=>wJ gs k' (m::mr) (g::sr) else false
  else false
theorem xW (n:Nat) (f:Nat→Bool):vg n f=f n:=by cases n <;> rfl
theorem pT (a b:List Nat):ec (a++b)=Nat.lor (ec a) (ec b):=by
 induction a with
 | nil=>exact (Nat.zero_or _).symm
 | cons i l ih =>
  show Nat.lor (Nat.pow 2 i) (ec (l++b))=Nat.lor (Nat.lor (Nat.pow 2 i) (ec l)) (ec b)
  rw[ih]
  exact (Nat.or_assoc _ _ _).symm
theorem Ct (m i:Nat):bitB m i=m.testBit i:=by
 rw[Nat.testBit_eq_decide_div_mod_eq]
 have h1:Nat.shiftRight m i=m/2 ^ i:=Nat.shiftRight_eq_div_pow m i
 have h2:Nat.land (m/2 ^ i) 1=m/2 ^ i % 2:=Nat.and_one_is_mod _
 rw[bitB,h1,h2]
 generalize m/2 ^ i % 2=x
 cases h:Nat.beq x 1
 ·exact (decide_eq_false (Nat.ne_of_beq_eq_false h)).symm
 ·exact (decide_eq_true (Nat.eq_of_beq_eq_true h)).symm
theorem Bh (p:List Nat) (i:Nat):bitB (ec p) i=memB i p:=by
 rw[Ct]
 induction p with
 | nil=>exact Nat.zero_testBit i
 | cons e l ih =>
  show (2 ^ e ||| ec l).testBit i=(Nat.beq i e||memB i l)
  rw[Nat.testBit_or,ih,Nat.testBit_two_pow]
  congr 1
  cases h:Nat.beq i e
  ·exact decide_eq_false fun h'=>Nat.ne_of_beq_eq_false h h'.symm
  ·exact decide_eq_true (Nat.eq_of_beq_eq_true h).symm
theorem oT {ps:List (List Nat)}:∀(es:List Edge),dY ps.length es=true→sX (ps.map ec).reverse ps.length es=ec (eL ps es)
 | [],_=>rfl
 | e::es,h=>by
  unfold dY at h
  unfold sX eL
  cases hb:fI e with
  | false =>
   rw[hb]at h
   exact oT es h
  | true =>
   rw[hb]at h
   simp only[cond_true]at h ⊢
   cases hlt:Nat.blt e.on ps.length with
   | false=>rw[hlt]at h; cases h
   | true =>
    rw[hlt]at h
    simp only[cond_true]at h
    have hl:e.on<ps.length:=Nat.le_of_ble_eq_true hlt
    rw[oT es h]
    show _=Nat.lor (Nat.pow 2 e.on) (ec (ps[e.on]?.getD []++eL ps es))
    rw[pT]
    have hr:(ps.map ec).reverse[ps.length-1-e.on]?.getD 0=ec (ps[e.on]?.getD []):=by
     rw[List.getElem?_reverse (by simp; omega),List.length_map,show ps.length-1-(ps.length-1-e.on)=e.on by omega,List.getElem?_map]
     simp[hl]
    rw[hr]
theorem qu {p:List Nat} {g:br}:∀(fs:List br) (k:Nat),(∀i f,fs[i]?=some f→memB (k+i) p=true∨fa f g=true)→jU p g k fs=true
 | [],_,_=>rfl
 | f::fs,k,h=>by
  have h0:=h 0 f rfl
  have h1:=qu fs (k+1) fun i f' hf=>by
   have:=h (i+1) f' (by simpa using hf)
   rwa [show k+1+i=k+(i+1) by omega]
  unfold jU
  rw[h1]
  rcases h0 with h0 | h0
  ·rw[show memB k p=true from h0]; rfl
  ·rw[h0]; cases memB k p <;> rfl
theorem oV {p:List Nat} {g:br}:∀(sr:List br),lx (ec p) g sr sr.length=true→∀i f,sr.reverse[i]?=some f→memB i p=true∨fa f g=true
 | [],_=>fun i f h=>by simp at h
 | e::fs,h=>fun i f hf=>by
  simp only[List.length_cons,lx,Bh]at h
  have hh:(memB fs.length p=true∨fa e g=true)∧lx (ec p) g fs fs.length=true:=by
   cases hm:memB fs.length p with
   | true=>rw[hm]at h; exact⟨.inl rfl,h⟩
   | false =>
    rw[hm]at h
    cases ha:fa e g with
    | true=>rw[ha]at h; exact⟨.inr rfl,h⟩
    | false=>rw[ha]at h; cases h
  rw[List.reverse_cons]at hf
  by_cases hi:i<fs.length
  ·rw[List.getElem?_append_left (by simpa using hi)]at hf
   exact oV fs hh.2 i f hf
  ·rw[List.getElem?_append_right (by simp; omega),List.length_reverse]at hf
   have h0:i-fs.length=0:=by
    cases hd:i-fs.length with
    | zero=>rfl
    | succ k=>rw[hd]at hf; simp at hf
   rw[h0]at hf
   cases hf
   rw[show i=fs.length by omega]
   exact hh.1
theorem gY:∀(gs:List br) (ps:List (List Nat)) (seen:List br),ps.length=seen.length→wJ gs ps.length (ps.map ec).reverse seen.reverse=true→mp ps seen gs=true
 | [],_,_,_,_=>rfl
 | g::gs,ps,seen,hl,h=>by
  unfold wJ at h
  unfold mp
  cases he:dY ps.length g.op.after.toList with
  | false=>rw[he]at h; cases h
  | true =>
   rw[he]at h
   simp only[cond_true,xW,oT _ he]at h ⊢
   cases hp:lx (ec (eL ps g.op.after.toList)) g seen.reverse ps.length with
   | false=>rw[hp]at h; cases h
   | true =>
    rw[hp]at h
    simp only[cond_true]at h
    rw[hl,←List.length_reverse]at hp
    have h1:=oV _ hp
    rw[List.reverse_reverse]at h1
    rw[qu seen 0 fun i f hf=>by rw[Nat.zero_add]; exact h1 i f hf]
    simp only[cond_true]
    refine gY gs _ _ (by simp[hl]) ?_
    simpa using h
section
variable {P : Program} {sz : Nat} {env : Env} {h : Upds} {n : Nat} {all : List Oper} {acc : List br} {Q : Exit → St → Prop}
theorem A1 (hd:wJ acc.reverse 0 [] []=true) (hk:Q .normal ⟨env,h,n,sz,64⟩):RegD P all sz [] n env h acc (RegK Q sz):=A0 (gY acc.reverse [] [] rfl hd) hk
end
section
variable {P : Program} {sz : Nat} {env : Env} {h : Upds} {n : Nat} {all l : List Oper} {acc : List br} {K : Env → Upds → Nat → Prop}
theorem jv (ks rs:List Nat) {d:Tmp} {op:Op} {ty:TypeId} {pos:String} {af:Array Edge} {v:AV} {x y:Nat×Option Row} (hd:Nat.blt d sz=true)
  (hs:ab P op (only ks env) (only rs h) n (some v) [x,y])
  (h1:RegD P all sz l (n+8) ((d,v)::env) (x::y::h) (⟨⟨some d,op,ty,pos,af,none⟩,ks,rs,some v,[x,y]⟩::acc) K):RegD P all sz (⟨some d,op,ty,pos,af,none⟩::l) n env h acc K :=
 cT _ _ hd (.plain hs) rfl rfl h1
end
end Go.Eng
namespace Go.Eng
open Go.RowKit
section
variable {P : Program} {sz : Nat} {env : Env} {h : Upds} {n : Nat} {Q : Exit → St → Prop} {st : St}
universe u
def MidQ {α:Type u} (mk:α→St) (Inv:α→Prop) (Q:Exit→St→Prop) (e:Exit) (st:St):Prop:=match e with
 | .normal=>∃a l,Inv a∧Le l st (mk a)
 | e=>Q e st
theorem yo {α:Type u} (mk:α→St) (Inv:α→Prop) {x y:Code} (hx:WC P sz x (MidQ mk Inv Q) env h n) (hy:∀a,Inv a→Sat P y Q (mk a)):WC P sz (.seq x y) Q env h n:=by
 refine li (Sat.mono ?_ hx)
 intro e st hq
 cases e with
 | normal=>obtain⟨a,l,h1,h2⟩:=hq; exact Sat.le l h2 (hy a h1)
 | _=>exact hq
variable {α : Type u} {mk : α → St} {Inv : α → Prop}
theorem l9 (a:α) (l:bC) (h1:Inv a) (h2:Le l st (mk a)):MidQ mk Inv Q .normal st:=⟨a,l,h1,h2⟩
theorem CG (h:Q .ret st):MidQ mk Inv Q .ret st:=h
end
end Go.Eng
namespace Go.Eng
open Go.RowKit
section
variable {P : Program} {T : Tab} {env : Env} {h : Upds} {n : Nat}
theorem ab.val_le {op:Op} {x y:D} {u:Upds} (hs:ab P op env h n (some (.d x)) u) (hle:DLe x y) (hag:x.isAgg=y.isAgg):ab P op env h n (some (.d y)) u:=by
 intro C G st σ w a o ho hA hd hst hn hbs next Q hnext
 refine hs C G st σ w a o ho hA hd hst hn hbs next Q fun z w' σ' G' g1 g2 g3=>hnext z w' σ' G' ?_ g2 g3
 refine⟨?_,?_,g1.rows,g1.rowsG,g1.inj,g1.high,g1.size,g1.below,g1.defers,g1.sz,g1.x0,g1.agree,g1.baseG,g1.bs,g1.rok,g1.glob⟩
 ·intro i v hv
  cases hdst:o.dst with
  | none =>
   rw[hdst]at hv
   have:=g1.env i v (by rw[hdst]; exact hv)
   rw[hdst]at this
   exact this
  | some d =>
   rw[hdst]at hv
   simp only[St.put,Option.getD_some,aN]at hv
   split at hv
   ·rename_i e
    subst e
    cases hv
    obtain⟨q,hq1,hq2⟩:=g1.env d (.d x) (by rw[hdst]; simp[St.put,aN])
    rw[hdst]at hq1 hq2
    refine⟨q,hq1,?_⟩
    unfold RelV at hq2 ⊢
    by_cases hy:y.isAgg=true
    ·rw[if_pos (show (AV.d x).isAgg=true from hag.trans hy)]at hq2
     rw[if_pos (show (AV.d y).isAgg=true from hy)]
     obtain⟨cs,hcs,he⟩:=hq2
     exact⟨cs,hcs,hle _ _ _ he⟩
    ·rw[if_neg (show ¬(AV.d x).isAgg=true from fun e=>hy (hag.symm.trans e))]at hq2
     rw[if_neg (show ¬(AV.d y).isAgg=true from hy)]
     exact hle _ _ _ hq2
   ·rename_i e
    have:=g1.env i v (by rw[hdst]; simp only[St.put,Option.getD_some,aN]; rw[if_neg e]; exact hv)
    rw[hdst]at this
    exact this
 ·intro i v hv
  cases hdst:o.dst with
  | none=>rw[hdst]at hv; exact g1.envG i v (by rw[hdst]; exact hv)
  | some d =>
   rw[hdst]at hv
   simp only[St.put,Option.getD_some,aN]at hv
   split at hv
   ·cases hv; trivial
   ·rename_i e
    exact g1.envG i v (by rw[hdst]; simp only[St.put,Option.getD_some,aN]; rw[if_neg e]; exact hv)
end
end Go.Eng
namespace Go.Eng
open Go.RowKit
section
variable {C : Ctx} {w w' : World} {G : Nat → Prop} {st : St} {σ : aB} {a : Act}
theorem aA.freshBy (h:aA C G st σ w a) {n:Nat} (hn:¬G n) (hg:w.grownBy w' none) {b c:Nat} (hb:w.heap.size≤b) (row:Row) (hw:row.within G)
  (hrow:∀(σ':aB) (X':Nat→Prop),(∀(x:AV) (m:Bool) (l:List Value),x.within G→Rel σ w (st.X C.X0 σ) x m l→Rel σ' w' X' x m l)→(∀(x:D) (l:List Value),Enc w (st.X C.X0 σ) x l→Enc w' X' x l) →
   σ' n=some (b,c)→bx σ' w' X' n row) :
  aA C (fun q=>G q∨q=n) (st.upd [(n,some row)]) (fun q=>if q=n then some (b,c) else σ q) w' a:=by
 have hne:∀q,G q→q≠n:=fun q hq e=>hn (e ▸ hq)
 have hold:∀q row',st.row q=some row' → ∀b c',σ q=some (b,c')→b<w.heap.size:=fun q row' hq b c' hs=>h.lt hq hs
 have hno:∀k:Nat,(some k:Option Nat)≠none:=fun k e=>by cases e
 have hX:∀q,(st.upd [(n,some row)]).X C.X0 (fun q=>if q=n then some (b,c) else σ q) q→st.X C.X0 σ q∨w.heap.size≤q:=by
  rintro q (hx0 | ⟨r1,row1,c1,h1,h2⟩)
  ·exact .inl (.inl hx0)
  rw[St.row_one]at h1
  by_cases e:r1=n
  ·subst e
   simp only[if_true,Option.some.injEq,Prod.mk.injEq]at h2
   rw[←h2.1]
   exact .inr hb
  ·rw[if_neg (Ne.symm e)]at h1
   simp only[if_neg e]at h2
   exact .inl (.inr ⟨r1,row1,c1,h1,h2⟩)
 have hσ:∀q,G q→((fun q=>if q=n then some (b,c) else σ q):aB) q=σ q:=fun q hq=>by simp[hne q hq]
 have hk:∀(a:Addr) (u:Value),w.cell? a=some u→¬st.X C.X0 σ a.block→Kp w w' a u∧¬(st.upd [(n,some row)]).X C.X0 (fun q=>if q=n then some (b,c) else σ q) a.block:=by
  intro a u h1 h2
  have hlt:=World.block_lt_of_cell? w a h1
  refine⟨?_,fun hx=>?_⟩
  ·exact .of_block (hg.block _ hlt (hno _)) h1
  ·rcases hX _ hx with hx | hx
   ·exact h2 hx
   ·omega
 refine h.core (fun r hr=>.inl hr) hσ hk rfl rfl rfl ?_ ?_ ?_ (Nat.le_trans h.size hg.size) ?_
 ·intro q row' hq
  rw[St.row_one]at hq
  split at hq
  ·rename_i e
   subst e
   simp only[Option.some.injEq]at hq
   subst hq
   refine .inr ⟨.inr rfl,?_,hrow _ _ (fun x m l hx=>Rel.mono hσ hk x m l hx) (fun x l=>Enc.mono hk x l) (by simp)⟩
   cases row with
   | box t x=>exact AV.within.mono (fun r hr=>.inl hr) x hw
   | ds=>trivial
   | lits t s k ex x=>exact AV.within.mono (fun r hr=>.inl hr) x hw
   | mo x=>exact AV.within.mono (fun r hr=>.inl hr) x hw
   | si=>trivial
   | mq=>trivial
   | lo=>trivial
   | mi x=>exact AV.within.mono (fun r hr=>.inl hr) x hw
  ·exact .inl ⟨hq,fun b1 c1 hs=>hg.block _ (hold _ _ hq _ _ hs) (hno _)⟩
 ·intro r1 r2 row1 row2 b1 c1 c2 h1 h2 h3 h4
  rw[St.row_one]at h1 h2
  have key:∀q row1 c1,q≠n→(if n=q then some row else st.row q)=some row1→σ q=some (b,c1)→False:=by
   intro q row1 c1 hq h1 h3
   rw[if_neg (Ne.symm hq)]at h1
   have:=hold _ _ h1 _ _ h3; omega
  by_cases e1:r1=n <;> by_cases e2:r2=n
  ·rw[e1,e2]
  ·simp only[e1,if_true,Option.some.injEq,Prod.mk.injEq]at h3
   simp only[if_neg e2]at h4
   rw[←h3.1]at h4
   exact (key _ _ _ e2 h2 h4).elim
  ·simp only[e2,if_true,Option.some.injEq,Prod.mk.injEq]at h4
   simp only[if_neg e1]at h3
   rw[←h4.1]at h3
   exact (key _ _ _ e1 h1 h3).elim
  ·rw[if_neg (Ne.symm e1)]at h1
   rw[if_neg (Ne.symm e2)]at h2
   simp only[if_neg e1]at h3
   simp only[if_neg e2]at h4
   exact h.inj _ _ _ _ _ _ _ h1 h2 h3 h4
 ·intro r1 row1 b1 c1 h1 h2
  rw[St.row_one]at h1
  by_cases e:r1=n
  ·simp only[e,if_true,Option.some.injEq,Prod.mk.injEq]at h2
   rw[←h2.1]
   have:=h.size
   exact .inl (by omega)
  ·rw[if_neg (Ne.symm e)]at h1
   simp only[if_neg e]at h2
   exact h.high _ _ _ _ h1 h2
 ·have hsz:=h.size
  exact⟨hg.os,hg.tape,hg.output,hg.size,fun k hk' hm=>hg.block k (by omega) (hno _),fun k o ho hbk=>(hg.block k (Array.getElem?_eq_some_iff.1 ho).1 (hno _)).trans ho⟩
end
section
variable {P : Program} {T : Tab} {sz : Nat} {env : Env} {h : Upds} {n : Nat}
def FA {α:Type} (s:Nat) (enc:α→D) (xs:List α) (more:Nat) (w:World) (X:Nat→Prop) (u:Value):Prop :=
 ∃(ax:Option Addr) (c:Nat) (f:Nat→List Value),u=.slice ax xs.length c∧c<xs.length+more∧(ax=none→xs=[]∧c=0)∧(∀i (h:i<xs.length),Enc w X (enc xs[i]) (f i)∧(f i).length=s) ∧
  ∀ad,ax=some ad→∀j v,(cat f xs.length)[j]?=some v→w.cell? (ad.add j)=some v
theorem mA (hT:aj P T) {t e:Nat} {re:TyR} {s:Nat} {α:Type} {enc:α→D} {xs ys:List α} {x y:Operand} (ht:bh T t=some (.slice e)) (he:lk T e=some re) (hs:re.size=s)
  (hys:0<ys.length) (hlen:xs.length+ys.length≤maxLen) (hbytes:(xs.length+ys.length)*re.bytes≤140737488355328)
  (hold:∀(C:Ctx) (G:Nat→Prop) (st:St) (σ:aB) (w:World) (a:Act),fY env h st→aA C G st σ w a→FA s enc xs ys.length w (st.X C.X0 σ) (a.eval x))
  (hsrc:∀(C:Ctx) (G:Nat→Prop) (st:St) (σ:aB) (w:World) (a:Act),fY env h st→aA C G st σ w a→uh s enc ys w (st.X C.X0 σ) (a.eval y)) :
  ab P (.call { callee :=.builtin .append,args := #[x,y],argTypes := #[t,t] }) env h n (some (.own n 0 (xs.length+ys.length) s none)) [(n,some (.ds e s false enc (xs++ys)))]:=.of_comes fun C G st σ w a o ho hA hd hst hn=>by
 obtain⟨ax,c0,f,hax,hc0,hnone,hf,hfc⟩:=hold C G st σ w a hA hst
 obtain⟨ad,c1,g,hu,hg,hgc⟩:=hsrc C G st σ w a hA hst
 obtain⟨i,z,hi,hi1,hi2,hi3,hi4⟩:=(hT e re he).info
 obtain⟨ud,hud,hdd⟩:=bn hT ht
 cases hdd
 have hz:z.cells.size=s:=by
  have h1:=Enc.len _ _ (Enc.closed w (fun _=>False) _ (hT e re he).zero)
  rw[hi4]at h1
  simpa[(hT e re he).zsize,hs]using h1
 have hnn:¬G n:=hn n (Nat.le_refl _) (by omega)
 have hgl:(cat g ys.length).length=ys.length*s:=cz _ fun i hi=>(hg i hi).2
 have hfl:(cat f xs.length).length=xs.length*s:=cz _ fun i hi=>(hf i hi).2
 have fin:∀(c:Nat) (cur:Array Value) (w':World),w.grownBy w' none→w'.heap[w.heap.size]?=some (.cells cur e (0,0))→cur.size=c*s→xs.length+ys.length≤c→c≤maxLen →
   cur.toList.take ((xs.length+ys.length)*s)=cat f xs.length++cat g ys.length →
   (Builtin.append_ #[t,t] o.type #[a.eval x,a.eval y]).run P w=.ok (.slice (some ⟨w.heap.size,0,none⟩) (xs.length+ys.length) c) w' →
   cu P C G st n o a w (fun v' u'=>v'=some (.own n 0 (xs.length+ys.length) s none)∧u'=[(n,some (.ds e s false enc (xs++ys)))]):=by
  rintro c cur w' hgr hh hcs hle hcm htk hrun
  obtain⟨F,hF,hFc⟩:=pd hf hg
  have hsw:=hst.freshBy hnn hgr (b:=w.heap.size) (c:=c) (Nat.le_refl _) (.ds e s false enc (xs++ys)) trivial (fun σ' X' hk1 hk2 hσn=>by
   exact .inr ⟨w.heap.size,c,cur,hσn,(fun e=>nomatch e),hh,hcs,by simpa using hle,hcm,F,fun i hi=>⟨hk2 _ _ (hF i hi).1,(hF i hi).2⟩,by rw[hFc,List.length_append]; exact htk⟩)
  have hval:RelV (fun q=>if q=n then some (w.heap.size,c) else σ q) w' ((st.upd [(n,some (.ds e s false enc (xs++ys)))]).X C.X0 (fun q=>if q=n then some (w.heap.size,c) else σ q)) (.own n 0 (xs.length+ys.length) s none) (.slice (some ⟨w.heap.size,0,none⟩) (xs.length+ys.length) c):=
   RelV.own.2 (.inr ⟨w.heap.size,c,⟨w.heap.size,0,none⟩,by simp,by simp,by simpa using hle,by simp,by simpa using hle,fun _=>by simp⟩)
  refine⟨_,_,.value (.slice (some ⟨w.heap.size,0,none⟩) (xs.length+ys.length) c),_,w',_,fun q=>G q∨q=n,⟨rfl,rfl⟩,?_,.inl rfl,by rw[St.put_upd]; exact hsw.set hd hval (.inr rfl),fun r hr=>Or.inl hr,fun r hr=>Or.imp id (fun h=>⟨by omega,by omega⟩) hr⟩
  simp[execOp,ho,resolve,invoke,builtin,hrun]
 cases ax with
 | none =>
  obtain⟨rfl,rfl⟩:=hnone rfl
  simp only[List.length_nil,Nat.zero_add]at hlen hbytes fin hax
  have hrun:=run_append_nil (P:=P) w t o.type e i z hud hi hi3 ad ys.length c1 (cat g ys.length) (by rw[hgl,hi1,hs]) hgc hys (by simp only[maxLen]at hlen; omega) (by rw[hi2]; exact Nat.le_trans hbytes (by decide))
  simp only[List.length_nil,Nat.zero_add]
  refine fin (grownCap w ys.length 0 e) ((cat g ys.length).toArray++Builtin.zeroCells z.cells (grownCap w ys.length 0 e-ys.length)) _ (gW w _ _) (heap_alloc_new w.drew _) ?_ ?_ (grownCap_le_maxLen w ys.length 0 e hlen) ?_ (by rw[hax,hu,hrun])
  ·have hge:=grownCap_ge w ys.length 0 e
   simp only[Array.size_append,List.size_toArray,size_zeroCells,hz,hgl,←Nat.add_mul]
   congr 1; omega
  ·exact grownCap_ge w ys.length 0 e
  ·simp only[Array.toList_append,cat,List.nil_append]
   rw[←hgl]
   exact List.take_left
 | some a' =>
  have hrun:=run_append_grow (P:=P) w t o.type e i z hud hi hi3 a' xs.length c0 (cat f xs.length) (by rw[hfl,hi1,hs]) (hfc a' rfl) ad ys.length c1 (cat g ys.length) (by rw[hgl,hi1,hs]) hgc hc0 (by simp only[maxLen]at hlen; omega) (growslice_fits hc0 (by rw[hi2]; exact hbytes))
  refine fin _ _ _ (gW w _ _) (heap_alloc_new w.drew _) ?_ (grownCap_ge w _ c0 e) (grownCap_le_maxLen w _ c0 e hlen) ?_ (by rw[hax,hu,hrun])
  ·have hge:=grownCap_ge w (xs.length+ys.length) c0 e
   simp only[Array.size_append,List.size_toArray,List.length_append,size_zeroCells,hz,hgl,hfl,←Nat.add_mul]
   congr 1; omega
  ·simp only[Array.toList_append]
   have:(xs.length+ys.length)*s=(cat f xs.length++cat g ys.length).length:=by rw[List.length_append,hfl,hgl,Nat.add_mul]
   rw[this]
   exact List.take_left
theorem mB (hT:aj P T) {t e:Nat} {re:TyR} {s:Nat} {α:Type} {enc:α→D} {ys:List α} {x y:Operand} {v:AV} (ht:bh T t=some (.slice e)) (he:lk T e=some re) (hs:re.size=s)
  (hx:ai env x=some v) (hv:v=.empty∨v=.d (.sc (.slice none 0 0))) (hys:0<ys.length) (hlen:ys.length≤maxLen) (hbytes:ys.length*re.bytes≤140737488355328)
  (hsrc:∀(C:Ctx) (G:Nat→Prop) (st:St) (σ:aB) (w:World) (a:Act),fY env h st→aA C G st σ w a→uh s enc ys w (st.X C.X0 σ) (a.eval y)) :
  ab P (.call { callee :=.builtin .append,args := #[x,y],argTypes := #[t,t] }) env h n (some (.own n 0 ys.length s none)) [(n,some (.ds e s false enc ys))]:=by
 have:=mA (n:=n) hT (xs:=[]) ht he hs hys (by simpa using hlen) (by simpa using hbytes) (x:=x) (fun C G st σ w a hA hst=>by
  obtain⟨hx1,hx2⟩:=ak hst (hA.ev hx)
  rcases hv with rfl | rfl
  ·unfold RelV at hx1
   rw[if_neg (by simp[AV.isAgg])]at hx1
   obtain⟨ax,hax⟩:=hx1
   exact⟨ax,0,fun _=>[],by simpa using hax,by simpa using hys,fun _=>⟨rfl,rfl⟩,fun i hi=>by simp at hi,fun _ _ j v hj=>by simp[cat]at hj⟩
  ·obtain⟨hx3,_⟩:=RelV.sc.1 hx1
   exact⟨none,0,fun _=>[],hx3,by simpa using hys,fun _=>⟨rfl,rfl⟩,fun i hi=>by simp at hi,fun _ _ j v hj=>by simp[cat]at hj⟩) hsrc
 simpa using this
end
end Go.Eng
namespace Go.Eng
open Go.RowKit
section
variable {P : Program} {T : Tab} {sz : Nat} {env : Env} {h : Upds} {n : Nat}
theorem uC (hT:aj P T) {t e r len:Nat} {re:TyR} {x i j:Operand} {s:Nat} {k k':IntKind} (ht:bh T t=some (.slice e)) (he:lk T e=some re)
  (hx:ai env x=some (.own r 0 len s none)) (hi:ai env i=some (.int k len)) (hj:ai env j=some (.int k' len)):ab P (.slice t x none (some i) (some j)) env h n (some (.own r 0 len s (some len))) []:=.of_comes fun C G st σ w a o ho hA hdst hst hn=>by
 obtain⟨ud,hud,hdd⟩:=bn hT ht
 cases hdd
 obtain⟨hx1,hx2⟩:=ak hst (hA.ev hx)
 obtain⟨hi1,_⟩:=RelV.sc.1 (ak hst (hA.ev hi)).1
 obtain⟨hj1,_⟩:=RelV.sc.1 (ak hst (hA.ev hj)).1
 have hsz:=(hT e re he).run_size (P:=P)
 rcases RelV.own.1 hx1 with ⟨hσ,h1,h2,h3,hv⟩ | ⟨b,c,ad,hσ,hv,h1,h2,h3,h4⟩
 ·subst h2
  refine .quiet (u :=.slice none 0 0) hst hdst ⟨rfl,rfl⟩ ?_ (RelV.own.2 (.inl ⟨hσ,rfl,rfl,rfl,rfl⟩)) hx2
  simp[execOp,ho,Instr.sliceAt,Instr.slice,hv,hi1,hj1,run_underlying hud,Instr.sliceBounds,Instr.sliceBound,asIntOf,hsz,Sem.run_bind,Sem.run_pure,Result.andThen_ok]
 ·simp only[Option.getD_none,Nat.sub_zero,Nat.zero_add]at hv h1 h2 h3
  refine .quiet (u :=.slice (some ad) len len) hst hdst ⟨rfl,rfl⟩ ?_ (RelV.own.2 (.inr ⟨b,c,ad,hσ,rfl,by simpa using h1,by simpa using h1,by simp,h4⟩)) hx2
  have hle:(len:Int)≤(c:Int):=by omega
  simp[execOp,ho,Instr.sliceAt,Instr.slice,hv,hi1,hj1,run_underlying hud,Instr.sliceBounds,Instr.sliceBound,asIntOf,hsz,Sem.run_bind,Sem.run_pure,Result.andThen_ok,h1,Addr.add_zero']
end
end Go.Eng
namespace Go.Eng
open Go.RowKit
def Frz (r:Nat) (row:Row) (a a':AV):Prop :=
 a'.isAgg=a.isAgg∧(a.flat=true→a'.flat=true)∧(∀G:Nat→Prop,a.within G→a'.within G) ∧
  ∀(σ:aB) (w:World) (X X':Nat→Prop),(∀b,X' b→X b)→(∀b c,σ r=some (b,c)→¬X' b)→bx σ w X r row→∀cs,Rel σ w X a false cs→Rel σ w X' a' false cs
def FrzR (r:Nat) (row x x':Row):Prop :=
 (∀G:Nat→Prop,x.within G→x'.within G) ∧
  ∀(σ:aB) (w:World) (X X':Nat→Prop) (q:Nat),(∀b,X' b→X b)→(∀b c,σ r=some (b,c)→¬X' b)→bx σ w X r row→bx σ w X q x→bx σ w X' q x'
section
variable {r : Nat} {row : Row}
theorem Frz.refl (a:AV):Frz r row a a :=
 ⟨rfl,fun h=>h,fun _ h=>h,fun _ _ _ _ hx _ _ cs h=>Rel.mono (G:=fun _=>True) (fun _ _=>rfl) (fun _ _ h1 h2=>⟨.rfl' h1,fun h=>h2 (hx _ h)⟩) a false cs a.within_all h⟩
theorem Frz.dcons {a b:AV} {x y:D} (h1:Frz r row a (.d x)) (h2:Frz r row b (.d y)):Frz r row (.acons a b) (.d (.cons x y)):=by
 refine⟨rfl,fun _=>rfl,fun G _=>trivial,fun σ w X X' hx hn hr cs h=>?_⟩
 obtain⟨c1,c2,rfl,g1,g2⟩:=h
 exact⟨c1,c2,rfl,h1.2.2.2 σ w X X' hx hn hr _ g1,h2.2.2.2 σ w X X' hx hn hr _ g2⟩
theorem Frz.own {te s:Nat} {ex:Bool} {α:Type} {enc:α→D} {xs:List α} {len:Nat} {cap:Option Nat} (hl:len=xs.length):Frz r (.ds te s ex enc xs) (.own r 0 len s cap) (.d (.arr s enc xs)):=by
 subst hl
 refine⟨rfl,fun _=>rfl,fun _ _=>trivial,fun σ w X X' hx hn hr cs h=>?_⟩
 rcases h with ⟨h0,_,hl,_,rfl⟩ | ⟨b,c,ad,hb,rfl,hle1,hle2,hle3,had⟩
 ·exact .inl ⟨List.eq_nil_of_length_eq_zero hl,rfl⟩
 ·rcases hr with ⟨h0,rfl⟩ | ⟨b',c',cur,hb',_,hh,hsz,hlen,hmax,f,hf,htake⟩
  ·rw[hb]at h0; cases h0
  ·rw[hb]at hb'
   cases hb'
   refine .inr ⟨ad,cap.getD (c-0),rfl,hle3,by omega,f,fun i hi=>?_⟩
   obtain⟨h1,h2⟩:=hf i hi
   have hoff:ad=⟨b,0*s,none⟩:=had (by omega)
   subst hoff
   refine⟨Enc.sub hx _ _ h1,h2,fun j u hj=>⟨?_,hn b c hb⟩⟩
   rw[eB,cell_of_row w b _ cur te (0,0) hh]
   have hjs:j<s:=by rw[←h2]; exact (List.getElem?_eq_some_iff.1 hj).1
   have hcg:=eH (f:=f) (s:=s) xs.length (fun i hi=>(hf i hi).2) i j hi hjs
   rw[←htake,hj,List.getElem?_take]at hcg
   have hlt2:i*s+j<xs.length*s:=by
    have:(i+1)*s≤xs.length*s:=Nat.mul_le_mul_right s hi
    rw[Nat.add_mul]at this; omega
   rw[if_pos hlt2]at hcg
   rw[←Array.getElem?_toList,Nat.zero_mul,Nat.zero_add]
   exact hcg
theorem FrzR.refl (x:Row):FrzR r row x x :=
 ⟨fun _ h=>h,fun _ _ _ _ _ hx _ _ h=>bx.mono (G:=fun _=>True) (fun _ _=>rfl) (fun _ _ h1 h2=>⟨.rfl' h1,fun h=>h2 (hx _ h)⟩) (Nat.le_refl _) trivial x.within_all (fun _ _ _=>rfl) h⟩
theorem FrzR.box {t:TypeId} {a a':AV} (h:Frz r row a a'):FrzR r row (.box t a) (.box t a'):=by
 refine⟨h.2.2.1,fun σ w X X' q hx hn hr hq=>?_⟩
 obtain⟨hf,b,cs,h1,h2,h3⟩:=hq
 exact⟨h.2.1 hf,b,cs,h1,h2,h.2.2.2 σ w X X' hx hn hr _ h3⟩
end
theorem aA.freeze {C:Ctx} {G:Nat→Prop} {st st':St} {σ:aB} {w:World} {a:Act} (h:aA C G st σ w a) (r:Nat) (row:Row) (hrow:st.row r=some row)
  (hE:∀i v',lk st'.env i=some v' → ∃v,lk st.env i=some v∧Frz r row v v') (hH:∀q x',st'.row q=some x'→q≠r∧∃x,st.row q=some x∧FrzR r row x x')
  (hsz:st'.sz=st.sz) (hbs:st'.bs=st.bs):aA C G st' σ w a:=by
 have hx:∀b,st'.X C.X0 σ b→st.X C.X0 σ b:=by
  rintro b (hb | ⟨q,x',c,h1,h2⟩)
  ·exact .inl hb
  ·obtain⟨_,x,h3,_⟩:=hH q x' h1
   exact .inr ⟨q,x,c,h3,h2⟩
 have hn:∀b c,σ r=some (b,c)→¬st'.X C.X0 σ b:=by
  rintro b c hb (hx0 | ⟨q,x',c',h1,h2⟩)
  ·obtain⟨h3,h4⟩:=h.x0 _ hx0
   rcases h.high _ _ _ _ hrow hb with h5 | h5
   ·omega
   ·exact h4 h5
  ·obtain⟨hq,x,h3,_⟩:=hH q x' h1
   exact hq (h.inj _ _ _ _ _ _ _ h3 hrow h2 hb)
 have hr:=h.rows r row hrow
 refine⟨?_,?_,?_,?_,?_,?_,h.size,h.below,h.defers,by rw[hsz]; exact h.sz,h.x0,h.agree,h.baseG,by rw[hbs]; exact h.bs,h.rok,h.glob⟩
 ·intro i v' hv'
  obtain⟨v,hv,hf⟩:=hE i v' hv'
  obtain⟨u,hu1,hu2⟩:=h.env i v hv
  refine⟨u,hu1,?_⟩
  unfold RelV at hu2 ⊢
  rw[hf.1]
  split at hu2 <;> rename_i hag
  ·obtain⟨c,rfl,hc⟩:=hu2
   rw[if_pos hag]
   exact⟨c,rfl,hf.2.2.2 σ w _ _ hx hn hr _ hc⟩
  ·rw[if_neg hag]
   exact hf.2.2.2 σ w _ _ hx hn hr _ hu2
 ·intro i v' hv'
  obtain⟨v,hv,hf⟩:=hE i v' hv'
  exact hf.2.2.1 G (h.envG i v hv)
 ·intro q x' hq
  obtain⟨_,x,h1,hf⟩:=hH q x' hq
  exact hf.2 σ w _ _ q hx hn hr (h.rows q x h1)
 ·intro q x' hq
  obtain⟨_,x,h1,hf⟩:=hH q x' hq
  exact⟨(h.rowsG q x h1).1,hf.1 G (h.rowsG q x h1).2⟩
 ·intro q q' x x' b c c' h1 h2 h3 h4
  obtain⟨_,y,g1,_⟩:=hH q x h1
  obtain⟨_,y',g2,_⟩:=hH q' x' h2
  exact h.inj _ _ _ _ _ _ _ g1 g2 h3 h4
 ·intro q x b c h1 h2
  obtain⟨_,y,g1,_⟩:=hH q x h1
  exact h.high _ _ _ _ g1 h2
def ij (r:Nat) (row:Row) (env:Env):Env→Prop
 | []=>True
 | (k,v')::l=>(∃v,lk env k=some v∧Frz r row v v')∧ij r row env l
def eh (r:Nat) (row:Row) (h:Upds):Upds→Prop
 | []=>True
 | (q,some x')::l=>(Nat.beq q r=false∧∃x,aQ h q=some x∧FrzR r row x x')∧eh r row h l
 | (_,none)::l=>eh r row h l
theorem ij.out {r:Nat} {row:Row} {env:Env}:∀(l:Env),ij r row env l→∀i v',lk l i=some v' → ∃v,lk env i=some v∧Frz r row v v'
 | [],_,i,v',h=>by simp[lk]at h
 | (k,x)::l,⟨h1,h2⟩,i,v',h=>by
  rw[aN]at h
  split at h
  ·rename_i e
   subst e
   cases h
   exact h1
  ·exact ij.out l h2 i v' h
theorem eh.out {r:Nat} {row:Row} {hh:Upds}:∀(l:Upds),eh r row hh l→∀q x',aQ l q=some x'→q≠r∧∃x,aQ hh q=some x∧FrzR r row x x'
 | [],_,q,x',h=>by simp[aQ,lk]at h
 | (k,some x)::l,⟨⟨h1,h2⟩,h3⟩,q,x',h=>by
  unfold aQ at h
  rw[aN]at h
  by_cases e:k=q
  ·subst e
   rw[if_pos rfl]at h
   cases h
   exact⟨Nat.ne_of_beq_eq_false h1,h2⟩
  ·rw[if_neg e]at h
   exact eh.out l h3 q x' h
 | (k,none)::l,h3,q,x',h=>by
  unfold aQ at h
  rw[aN]at h
  by_cases e:k=q
  ·rw[if_pos e]at h
   cases h
  ·rw[if_neg e]at h
   exact eh.out l h3 q x' h
section
variable {P : Program} {sz : Nat} {env : Env} {h : Upds} {n : Nat} {Q : Exit → St → Prop}
theorem de {c:Code} {env':Env} {h':Upds} (r:Nat) (row:Row) (hrow:aQ h r=some row) (hE:ij r row env env') (hH:eh r row h h') (hw:WC P sz c Q env' h' n):WC P sz c Q env h n:=by
 intro C σ w a hst
 refine hw C σ w a (hst.freeze (st':=⟨env',h',n,sz,64⟩) r row (by rw[←ba]; exact hrow) (ij.out env' hE) (fun q x' hq=>?_) rfl rfl)
 rw[←ba]at hq
 obtain⟨h1,x,h2,h3⟩:=eh.out h' hH q x' hq
 exact⟨h1,x,by rw[←ba]; exact h2,h3⟩
end
end Go.Eng
namespace Go.Eng
open Go.RowKit
section
variable {P : Program} {T : Tab} {sz : Nat} {env : Env} {h : Upds} {n : Nat}
theorem tU (hT:aj P T) {t e:Nat} {re:TyR} (ht:bh T t=some (.slice e)) (he:lk T e=some re):ab P (.buildSlice t 0 #[]) env h n (some .empty) []:=.of_comes fun C G st σ w a o ho hA hdst hst hn=>by
 obtain⟨ud,hud,hdd⟩:=bn hT ht
 cases hdd
 have hal:=hst.allocBook (.cells #[] e (0,0))
 refine⟨_,_,.value (.slice (some ⟨w.heap.size,0,none⟩) 0 0),.slice (some ⟨w.heap.size,0,none⟩) 0 0,w.alloc (.cells #[] e),σ,G,⟨rfl,rfl⟩,?_,.inl rfl,hal.set hdst (by unfold RelV; rw[if_neg (by simp[AV.isAgg])]; exact⟨_,rfl⟩) trivial,fun _ h=>h,fun _ h=>.inl h⟩
 have h0:Array.map (fun _=>(default:Value)) (Array.range 0) = #[]:=Array.ext' (by simp)
 simp[execOp,ho,Instr.buildSlice,run_underlying hud,(hT e re he).run_size,Instr.fill,newRow,Sem.run_bind,Result.andThen_ok,h0]
end
end Go.Eng
namespace Go.Eng
open Go.RowKit
section
variable {P : Program} {T : Tab} {sz : Nat} {env : Env} {h : Upds} {n : Nat}
theorem mL (hT:aj P T) {t e L r:Nat} {re:TyR} {x:Operand} {p:List Step} (ht:bh T t=some (.array L e)) (he:lk T e=some re) (hx:ai env x=some (.ptr r p)) :
  ab P (.slice t x none none none) env h n (some (.asl r p L L)) []:=.of_comes fun C G st σ w a o ho hA hdst hst hn=>by
 obtain⟨ud,hud,hdd⟩:=bn hT ht
 cases hdd
 obtain⟨hx1,hx2⟩:=ak hst (hA.ev hx)
 obtain⟨b,c,hb,hv⟩:=RelV.ptr.1 hx1
 have hsz:=(hT e re he).run_size (P:=P)
 refine .quiet (u :=.slice (some ⟨b,aV p,none⟩) L L) hst hdst ⟨rfl,rfl⟩ ?_ (RelV.asl.2 ⟨b,c,hb,rfl⟩) hx2
 simp[execOp,ho,Instr.sliceAt,Instr.sureAddr,hv,run_underlying hud,Instr.sliceBounds,hsz,Sem.run_bind,Sem.run_pure,Result.andThen_ok,Addr.add_zero']
theorem A5 (hT:aj P T) {t t' e r L cap:Nat} {re:TyR} {s:Nat} {α:Type} {enc:α→D} {ys:List α} {x y:Operand} {p:List Step} {row row':Row} (ht:bh T t=some (.slice e)) (he:lk T e=some re) (hs:Nat.beq re.size s=true) (hs0:Nat.blt 0 s=true)
  (hx:ai env x=some (.asl r p L cap)) (hrow:aQ h r=some row) (hy:ai env y=some (.d (.arr s enc ys))) (hl:ys.length=L) (hL:Nat.blt 0 L=true) (hu:RUpd row p (.d (.vec L s enc ys)) row') :
  ab P (.call { callee :=.builtin .copy,args := #[x,y],argTypes := #[t,t'] }) env h n (some (.int .i64 L)) [(r,some row')]:=.of_comes fun C G st σ w a o ho hA hd hst hn=>by
 have hs0:=Nat.le_of_ble_eq_true hs0
 have hL:=Nat.le_of_ble_eq_true hL
 have hs:=Nat.eq_of_beq_eq_true hs
 obtain⟨ud,hud,hdd⟩:=bn hT ht
 cases hdd
 obtain⟨hx1,hx2⟩:=ak hst (hA.ev hx)
 obtain⟨hy1,_⟩:=ak hst (hA.ev hy)
 have hrow:=hA.row _ _ hrow
 obtain⟨b,c,hb,hux⟩:=RelV.asl.1 hx1
 rcases RelV.arr.1 hy1 with ⟨rfl,_⟩ | ⟨ad,cy,hvy,_,_,f,hf⟩
 ·simp at hl; omega
 have hm':Rel σ w (st.X C.X0 σ) (.d (.vec L s enc ys)) false (cat f L):=⟨hl,f,fun i hi=>⟨(hf i hi).1,(hf i hi).2.1⟩,rfl⟩
 obtain⟨b',c',cur,t2,A,m,C',hb',hh,⟨hcur,hA2⟩,hml,hnew⟩:=RUpd.cells hu (hst.rows r row hrow) rfl hm' (hst.rowsG r row hrow).2 trivial
 rw[hb]at hb'
 cases hb'
 have hw:=hst.write (new:=(A++cat f L++C').toArray) hrow hb hh (RUpd.within (hst.rowsG r row hrow).2 (show (AV.d (.vec L s enc ys)).within G from trivial) hu) (fun w' ht hd' hh'=>hnew w' ht hd' hh')
 have hfl:(cat f L).length=L*s:=cz _ fun i hi=>(hf i (by omega)).2.1
 have hsrc:∀j u,(cat f L)[j]?=some u→w.cell? (ad.add j)=some u:=fun j u hj=>by
  have hjl:=(List.getElem?_eq_some_iff.1 hj).1
  rw[hfl]at hjl
  have hi:j/s<L:=Nat.div_lt_of_lt_mul (by rw[Nat.mul_comm]; exact hjl)
  have hm:j % s<s:=Nat.mod_lt _ hs0
  have hj2:j/s*s+j % s=j:=by rw[Nat.mul_comm]; exact Nat.div_add_mod j s
  have:=eH _ (fun i hi=>(hf i (by omega)).2.1) (j/s) (j % s) hi hm
  rw[hj2,hj]at this
  have:=((hf _ (by omega)).2.2 (j % s) u this.symm).1
  rwa [hj2]at this
 have hone:∀u∈cat f L,u.oneCell'=true:=fun u hu=>by
  obtain⟨k,hk,hu⟩:=jz _ hu
  exact Enc.one _ _ (hf k (by omega)).1 u hu
 have hf1:=run_firstCells_some (P:=P) w s L ad ys.length cy _ hfl hsrc
 have hst1:(storeCells ⟨b,aV p,none⟩ (cat f L) 0).run P w=.ok () (w.setRow b (A++cat f L++C').toArray):=by
  have hcl:cur.size=A.length+m.length+C'.length:=by
   have:=congrArg List.length hcur
   simp at this; omega
  rw[run_storeCells_at P b (aV p) t2 _ 0 cur w hh (by omega) hone]
  congr 3
  rw[hcur]
  have e1:List.take (aV p+0) (A++m++C')=A:=by rw[←hA2]; simp
  have e2:List.drop (aV p+0+(cat f L).length) (A++m++C')=C':=by
   rw[←hml,←hA2,Nat.add_zero,←List.length_append,List.drop_left]
  rw[e1,e2]
 have hrun:(Builtin.copy_ #[t,t'] o.type #[a.eval x,a.eval y]).run P w=.ok (goInt (L:Nat)) (w.setRow b (A++cat f L++C').toArray):=by
  have hmin:Nat.min ys.length L=L:=by rw[hl]; exact Nat.min_self L
  simp[Builtin.copy_,hux,hvy,run_underlying hud,Builtin.lenOf,(hT e re he).run_size,hs,hmin,hf1,hst1,goInt]
 refine⟨_,_,.value (goInt (L:Nat)),_,_,σ,G,⟨rfl,rfl⟩,?_,.inl rfl,by rw[St.put_upd]; exact hw.set hd (u:=goInt (L:Nat)) (RelV.sc.2 ⟨rfl,rfl⟩) trivial,fun _ h=>h,fun _ h=>.inl h⟩
 simp[execOp,ho,resolve,invoke,builtin,hrun]
end
end Go.Eng
namespace Go.Eng
open Go.RowKit
section
variable {P : Program} {T : Tab} {sz : Nat} {env : Env} {h : Upds} {n : Nat}
end
end Go.Eng
namespace Go.Eng
open Go.RowKit
section
variable {P : Program} {T : Tab} {sz : Nat} {env : Env} {h : Upds} {n : Nat}
theorem BC {s:Nat} {α:Type} {enc:α→D} {ys:List α} {y:Operand} (hs0:0<s) (hy:ai env y=some (.d (.arr s enc ys))) (hys:0<ys.length) :
  ∀(C:Ctx) (G:Nat→Prop) (st:St) (σ:aB) (w:World) (a:Act),fY env h st→aA C G st σ w a→uh s enc ys w (st.X C.X0 σ) (a.eval y):=by
 intro C G st σ w a hA hst
 obtain⟨hy1,_⟩:=ak hst (hA.ev hy)
 rcases RelV.arr.1 hy1 with ⟨rfl,_⟩ | ⟨ad,c,hv,_,_,f,hf⟩
 ·simp at hys
 ·refine⟨ad,c,f,hv,fun i hi=>⟨(hf i hi).1,(hf i hi).2.1⟩,fun j u hj=>?_⟩
  have hjl:=(List.getElem?_eq_some_iff.1 hj).1
  rw[cz _ fun i hi=>(hf i hi).2.1]at hjl
  have hi:j/s<ys.length:=Nat.div_lt_of_lt_mul (by rw[Nat.mul_comm]; exact hjl)
  have hm:j % s<s:=Nat.mod_lt _ hs0
  have hj2:j/s*s+j % s=j:=by rw[Nat.mul_comm]; exact Nat.div_add_mod j s
  have:=eH ys.length (fun i hi=>(hf i hi).2.1) (j/s) (j % s) hi hm
  rw[hj2,hj]at this
  have:=((hf _ hi).2.2 (j % s) u this.symm).1
  rwa [hj2]at this
end
end Go.Eng
set_option linter.unusedSimpArgs false
namespace Go.Eng
open Go.RowKit
section
variable {P : Program} {T : Tab} {sz : Nat} {env : Env} {h : Upds} {n : Nat}
theorem rl (hT:aj P T) {t e r len m:Nat} {re:TyR} {x j:Operand} {s:Nat} {k':IntKind} (ht:bh T t=some (.slice e)) (he:lk T e=some re)
  (hx:ai env x=some (.own r 0 len s none)) (hj:ai env j=some (.int k' m)) (hm:m≤len):ab P (.slice t x none (some j) none) env h n (some (.own r 0 m s none)) []:=.of_comes fun C G st σ w a o ho hA hdst hst hn=>by
 obtain⟨ud,hud,hdd⟩:=bn hT ht
 cases hdd
 obtain⟨hx1,hx2⟩:=ak hst (hA.ev hx)
 obtain⟨hj1,_⟩:=RelV.sc.1 (ak hst (hA.ev hj)).1
 have hsz:=(hT e re he).run_size (P:=P)
 rcases RelV.own.1 hx1 with ⟨hσ,h1,h2,h3,hv⟩ | ⟨b,c,ad,hσ,hv,h1,h2,h3,h4⟩
 ·subst h2
  obtain rfl:m=0:=by omega
  refine .quiet (u :=.slice none 0 0) hst hdst ⟨rfl,rfl⟩ ?_ (RelV.own.2 (.inl ⟨hσ,rfl,rfl,rfl,rfl⟩)) hx2
  simp[execOp,ho,Instr.sliceAt,Instr.slice,hv,hj1,run_underlying hud,Instr.sliceBounds,Instr.sliceBound,asIntOf,hsz,Sem.run_bind,Sem.run_pure,Result.andThen_ok]
 ·simp only[Option.getD_none,Nat.sub_zero,Nat.zero_add]at hv h1 h2 h3
  refine .quiet (u :=.slice (some ad) m c) hst hdst ⟨rfl,rfl⟩ ?_ (RelV.own.2 (.inr ⟨b,c,ad,hσ,by simp,by (first | omega | (simp <;> omega)),by (first | omega | (simp <;> omega)),by (first | omega | (simp <;> omega)),h4⟩)) hx2
  have hle:¬c<m:=by omega
  simp[execOp,ho,Instr.sliceAt,Instr.slice,hv,hj1,run_underlying hud,Instr.sliceBounds,Instr.sliceBound,asIntOf,hsz,Sem.run_bind,Sem.run_pure,Result.andThen_ok,hle,Addr.add_zero']
end
section
variable {P : Program} {sz : Nat} {env : Env} {h : Upds} {n : Nat} {all l : List Oper} {K : Env → Upds → Nat → Prop}
theorem oO {env':Env} {h':Upds} (r:Nat) (row:Row) (hrow:aQ h r=some row) (hE:ij r row env env') (hH:eh r row h h') (h1:RegS P all sz l n env' h' K):RegS P all sz l n env h K:=by
 intro C σ w a hst Q hQ
 refine h1 C σ w a (hst.freeze (st':=⟨env',h',n,sz,64⟩) r row (by rw[←ba]; exact hrow) (ij.out env' hE) (fun q x' hq=>?_) rfl rfl) Q hQ
 rw[←ba]at hq
 obtain⟨h1,x,h2,h3⟩:=eh.out h' hH q x' hq
 exact⟨h1,x,by rw[←ba]; exact h2,h3⟩
end
end Go.Eng
set_option linter.unusedSimpArgs false
namespace Go.Eng
open Go.RowKit
abbrev nilp:Value :=.pointer none
theorem RelV.pt {σ:aB} {w:World} {x:D} {u:Value} {X:Nat→Prop}:RelV σ w X (.d (.pt x)) u↔RelV σ w X (.iptr x) u:=by
 unfold RelV
 simp only[AV.isAgg,D.isAgg,Rel,Enc]
 exact Iff.rfl
section
variable {P : Program} {T : Tab} {sz : Nat} {env : Env} {h : Upds} {n : Nat}
theorem B0 (hT:aj P T) {t:TypeId} {x:Operand} {y:D} (hx:ai env x=some (.d (.pt y))) (hs:bz T t (.d y)=true):ab P (.load t x) env h n (some (.d y)) []:=.of_comes fun C G st σ w a o ho hA hd hst hn=>by
 obtain⟨h1,_⟩:=ak hst (hA.ev hx)
 obtain⟨ad,m,hu,hm,hst'⟩:=RelV.iptr.1 (RelV.pt.1 h1)
 obtain⟨tr,htr,hsz,hf,hag⟩:=bz.out hs
 have hm':Rel σ w (st.X C.X0 σ) (.d y) false m:=hm
 have hl:m.length=tr.size:=by rw[Rel.len _ _ hf hm',hsz]
 obtain⟨u,hrun,hrel⟩:=gP (hT t tr htr) (fun j u hj=>(hst' j u hj).1) hl hm' hf hag
 refine .quiet hst hd ⟨rfl,rfl⟩ ?_ hrel trivial
 simp[execOp,ho,Instr.loadAt,hu,Instr.sureAddr,hrun]
end
section
variable {r : Nat} {row : Row}
theorem Frz.ptr {t:TypeId} {x:D}:Frz r (.box t (.d x)) (.ptr r []) (.d (.pt x)):=by
 refine⟨rfl,fun _=>rfl,fun _ _=>trivial,fun σ w X X' hx hn hr cs h=>?_⟩
 obtain⟨-, b,cur,hb,hh,hd⟩:=hr
 obtain⟨b',c',hb',rfl⟩:=h
 rw[hb]at hb'
 cases hb'
 refine⟨⟨b,aV [],none⟩,cur.toList,rfl,Enc.sub hx _ _ hd,fun j u hj=>⟨?_,hn b 1 hb⟩⟩
 rw[eB,cell_of_row w b _ cur t (0,0) hh,←Array.getElem?_toList]
 rw[show aV []+j=j from Nat.zero_add _]
 exact hj
end
end Go.Eng
set_option linter.unusedSimpArgs false
namespace Go.Eng
open Go.RowKit
theorem RelV.arx {σ:aB} {w:World} {α:Type} {s:Nat} {enc:α→D} {xs:List α} {u:Value} {X:Nat→Prop}:RelV σ w X (.d (.arx s enc xs)) u↔(xs=[] ∧ ∃a,u=.slice a 0 0) ∨
   ∃a,u=.slice (some a) xs.length xs.length∧xs.length≤maxLen ∧
    ∃f:Nat→List Value,∀i (h:i<xs.length),Enc w X (enc xs[i]) (f i)∧(f i).length=s ∧
     ∀j u,(f i)[j]?=some u→w.cell? (a.add (i*s+j))=some u∧¬X a.block:=by
 unfold RelV
 simp only[AV.isAgg,D.isAgg,Rel,Enc]
 simp
theorem AVLe.empty_arx {α:Type} (s:Nat) (enc:α→D):AVLe .empty (.d (.arx s enc [])):=fun σ w X v h=>by
 unfold RelV at h
 rw[if_neg (by simp[AV.isAgg])]at h
 obtain⟨a,ha⟩:=h
 exact RelV.arx.2 (.inl ⟨rfl,a,by simpa using ha⟩)
theorem AVLe.empty_arr {α:Type} (s:Nat) (enc:α→D):AVLe .empty (.d (.arr s enc [])):=fun σ w X v h=>by
 have h2:=RelV.arx.1 (AVLe.empty_arx s enc σ w X v h)
 rcases h2 with ⟨_,a,rfl⟩ | ⟨a,rfl,_,f,hf⟩
 ·cases a with
  | none=>exact RelV.arr.2 (.inl ⟨rfl,rfl⟩)
  | some a=>exact RelV.arr.2 (.inr ⟨a,0,rfl,Nat.le_refl _,Nat.zero_le _,fun _=>[],fun i h=>absurd h (Nat.not_lt_zero _)⟩)
 ·exact RelV.arr.2 (.inr ⟨a,0,rfl,Nat.le_refl _,Nat.zero_le _,fun _=>[],fun i h=>absurd h (Nat.not_lt_zero _)⟩)
theorem AVLe.nil_empty:AVLe (.d (.sc nil_)) .empty:=fun σ w X v h=>by
 obtain⟨rfl,_⟩:=RelV.sc.1 h
 unfold RelV
 rw[if_neg (by simp[AV.isAgg])]
 exact⟨none,rfl⟩
section
variable {P : Program} {T : Tab} {sz : Nat} {env : Env} {h : Upds} {n : Nat}
theorem rJ (hT:aj P T) {x:Operand} {t e:TypeId} {α:Type} {s:Nat} {enc:α→D} {xs:List α} (hx:ai env x=some (.d (.arx s enc xs))) (ht:bh T t=some (.slice e)) :
  ab P (.call { callee :=.builtin .len,args := #[x],argTypes := #[t] }) env h n (some (.int .i64 xs.length)) []:=.len rfl hx fun C st σ w a ty hr=>by
 obtain⟨u,hu,hdu⟩:=bn hT ht
 cases hdu
 rcases RelV.arx.1 hr with ⟨rfl,ad,hv⟩ | ⟨ad,hv,_⟩ <;> simp[Builtin.len_,hv,run_underlying hu]
theorem Cp (hT:aj P T) {x:Operand} {t e:TypeId} {α:Type} {s:Nat} {enc:α→D} {xs:List α} (ht:bh T t=some (.slice e)) (hx:ai env x=some (.d (.arx s enc xs))) :
  ab P (.call { callee :=.builtin .cap,args := #[x],argTypes := #[t] }) env h n (some (.int .i64 xs.length)) []:=.of_comes fun C G st σ w a o ho hA hd hst hn=>by
 obtain⟨ud,hud,hdd⟩:=bn hT ht
 cases hdd
 obtain⟨hx1,_⟩:=ak hst (hA.ev hx)
 have hv:∃b l,a.eval x=.slice b l xs.length:=by
  rcases RelV.arx.1 hx1 with ⟨rfl,ad,hv⟩ | ⟨ad,hv,_⟩ <;> exact⟨_,_,hv⟩
 obtain⟨b,l,hv⟩:=hv
 refine .quiet (u:=goInt xs.length) hst hd ⟨rfl,rfl⟩ ?_ (RelV.sc.2 ⟨rfl,rfl⟩) trivial
 simp[execOp,ho,resolve,invoke,builtin,Builtin.cap_,hv,run_underlying hud,goInt]
theorem mR (hT:aj P T) {t e:TypeId} {x i:Operand} {re:TyR} {α:Type} {s:Nat} {enc:α→D} {xs:List α} {k:IntKind} {m:Int} {el:α} (ht:bh T t=some (.slice e)) (he:lk T e=some re) (hs:Nat.beq re.size s=true)
  (hx:ai env x=some (.d (.arx s enc xs))) (hi:ai env i=some (.int k m)) (h0:0≤m) (hel:xs[m.toNat]?=some el):ab P (.indexAddr t x i) env h n (some (.iptr (enc el))) []:=.of_comes fun C G st σ w a o ho hA hd hst hn=>by
 obtain⟨hx1,hx2⟩:=ak hst (hA.ev hx)
 obtain⟨hi1,_⟩:=RelV.sc.1 (ak hst (hA.ev hi)).1
 obtain⟨hlt,hee⟩:=List.getElem?_eq_some_iff.1 hel
 rcases RelV.arx.1 hx1 with ⟨rfl,_⟩ | ⟨ad,hu,_,f,hf⟩
 ·simp at hlt
 ·obtain⟨h2,h3,h4⟩:=hf _ hlt
  rw[hee]at h2
  refine .quiet (u :=.pointer (some (ad.add (m.toNat*s)))) hst hd ⟨rfl,rfl⟩ ?_ (RelV.iptr.2 ⟨_,f m.toNat,rfl,h2,fun j v hj=>?_⟩) trivial
  ·simp only[execOp,ho,hu,hi1,Sem.run_bind,fo hT ht he h0 (show m<(xs.length:Int) by omega),Result.andThen_ok,Sem.run_pure,Nat.eq_of_beq_eq_true hs]
  ·rw[jC,Addr.add_block]; exact h4 j v hj
def vP (l:List Int):ByteArray:=l.foldl (fun r n=>r.push (UInt8.ofNat n.toNat)) ByteArray.empty
theorem tT {w:World} {X:Nat→Prop} {xs:List Int} {a:Addr} {f:Nat→List Value} (hf:∀i (h:i<xs.length),Enc w X (cN xs[i]) (f i)∧(f i).length=1∧∀j u,(f i)[j]?=some u→w.cell? (a.add (i*1+j))=some u∧¬X a.block) :
  (loadCells a xs.length).run P w=.ok (xs.map (Value.int .u8)).toArray w:=by
 have h:=run_loadCells_list (P:=P) w a (xs.map (Value.int .u8)) (fun j v hv=>?_)
 ·simpa using h
 ·rw[List.getElem?_map,Option.map_eq_some_iff]at hv
  obtain⟨y,hy,rfl⟩:=hv
  obtain⟨hj,hy⟩:=List.getElem?_eq_some_iff.1 hy
  obtain⟨h1,_,h3⟩:=hf j hj
  obtain⟨h1,_⟩:=h1
  rw[hy]at h1
  have:=(h3 0 (.int .u8 y) (by rw[h1]; rfl)).1
  simpa using this
theorem vy (hT:aj P T) {t t' e:TypeId} {x:Operand} {xs:List Int} (ht:bh T t=some (.slice e)) (he:bh T e=some (.int .u8)) (ht':bh T t'=some .string) (hx:ai env x=some (.d (.arr 1 cN xs))) :
  ab P (.convert t t' x) env h n (some (.d (.sc (.string (vP xs))))) []:=.of_comes fun C G st σ w a o ho hA hd hst hn=>by
 obtain⟨u1,hu1,hd1⟩:=bn hT ht
 obtain⟨u2,hu2,hd2⟩:=bn hT he
 obtain⟨u3,hu3,hd3⟩:=bn hT ht'
 cases hd1; cases hd2; cases hd3
 obtain⟨hx1,_⟩:=ak hst (hA.ev hx)
 refine .quiet (u :=.string (vP xs)) hst hd ⟨rfl,rfl⟩ ?_ (RelV.sc.2 ⟨rfl,rfl⟩) trivial
 rcases RelV.arr.1 hx1 with ⟨rfl,hv⟩ | ⟨ad,c,hv,hc1,hc2,f,hf⟩
 ·simp only[execOp,ho,hv,Sem.run_bind,run_convert_bytes_string w t t' e _ _ _ hu1 hu2 hu3,Conv.bytesToString,Sem.run_pure,Result.andThen_ok]
  rfl
 ·simp only[execOp,ho,hv,Sem.run_bind,run_convert_bytes_string w t t' e _ _ _ hu1 hu2 hu3,run_bytesToString w ad _ _ xs (tT hf),Sem.run_pure,Result.andThen_ok]
  rfl
end
section
variable {r : Nat} {row : Row}
theorem Frz.ownx {te s:Nat} {ex:Bool} {α:Type} {enc:α→D} {xs:List α} {len m:Nat} (hl:len=xs.length) (hm:m=len):Frz r (.ds te s ex enc xs) (.own r 0 len s (some m)) (.d (.arx s enc xs)):=by
 subst hl hm
 refine⟨rfl,fun _=>rfl,fun _ _=>trivial,fun σ w X X' hx hn hr cs h=>?_⟩
 rcases h with ⟨h0,_,hl,_,rfl⟩ | ⟨b,c,ad,hb,rfl,hle1,hle2,hle3,had⟩
 ·exact .inl ⟨List.eq_nil_of_length_eq_zero hl,none,rfl⟩
 ·rcases hr with ⟨h0,rfl⟩ | ⟨b',c',cur,hb',_,hh,hsz,hlen,hmax,f,hf,htake⟩
  ·rw[hb]at h0; cases h0
  ·rw[hb]at hb'
   cases hb'
   simp only[Option.getD_some]at hle2 hle3 ⊢
   refine .inr ⟨ad,rfl,by omega,f,fun i hi=>?_⟩
   obtain⟨h1,h2⟩:=hf i hi
   have hoff:ad=⟨b,0*s,none⟩:=had (by omega)
   subst hoff
   refine⟨Enc.sub hx _ _ h1,h2,fun j u hj=>⟨?_,hn b c hb⟩⟩
   rw[eB,cell_of_row w b _ cur te (0,0) hh]
   have hjs:j<s:=by rw[←h2]; exact (List.getElem?_eq_some_iff.1 hj).1
   have hcg:=eH (f:=f) (s:=s) xs.length (fun i hi=>(hf i hi).2) i j hi hjs
   rw[←htake,hj,List.getElem?_take]at hcg
   have hlt2:i*s+j<xs.length*s:=by
    have:(i+1)*s≤xs.length*s:=Nat.mul_le_mul_right s hi
    rw[Nat.add_mul]at this; omega
   rw[if_pos hlt2]at hcg
   rw[←Array.getElem?_toList,Nat.zero_mul,Nat.zero_add]
   exact hcg
end
end Go.Eng
set_option linter.unusedSimpArgs false
namespace Go.Eng
open Go.RowKit
section
variable {P : Program} {T : Tab} {sz : Nat} {env : Env} {h : Upds} {n : Nat}
end
end Go.Eng
set_option linter.unusedSimpArgs false
namespace Go.Eng
open Go.RowKit
section
variable {P : Program} {T : Tab} {sz : Nat} {env : Env} {h : Upds} {n : Nat}
end
theorem AVLe.acons1 {a b r:AV} (h:AVLe a b) (hag:b.isAgg=a.isAgg):∀(σ:aB) (w:World) (X:Nat→Prop) vs,Rel σ w X (.acons a r) true vs→Rel σ w X (.acons b r) true vs:=by
 rintro σ w X vs ⟨v,us,rfl,h1,h2⟩
 refine⟨v,us,rfl,?_,h2⟩
 have:=h σ w X v (by unfold RelV; exact h1)
 unfold RelV at this
 exact this
theorem AVLe.tup1 {a b r:AV} (h:AVLe a b) (hag:b.isAgg=a.isAgg):AVLe (.tup (.acons a r)) (.tup (.acons b r)):=by
 intro σ w X u hu
 unfold RelV at hu ⊢
 rw[if_neg (by simp[AV.isAgg])]at hu ⊢
 obtain⟨vs,h1,h2⟩:=hu
 exact⟨vs,h1,AVLe.acons1 h hag σ w X vs h2⟩
end Go.Eng
set_option linter.unusedSimpArgs false
namespace Go.Eng
open Go.RowKit
section
variable {P : Program} {T : Tab} {sz : Nat} {env : Env} {h : Upds} {n : Nat}
end
section
variable {r : Nat} {row : Row}
end
end Go.Eng
set_option linter.unusedSimpArgs false
namespace Go.Eng
open Go.RowKit
variable {P : Program} {f : FuncId} {avs avs' : List AV} {h0 h0' : List (Nat × Row)} {res : AV} {rows : List (Nat × Row)}
def gK:List AV→List AV→Prop
 | [],[]=>True
 | a::bs9,b::bs=>(AVLe a b∧∀G:Nat→Prop,a.within G→b.within G)∧gK bs9 bs
 | _,_=>False
theorem gK.len:∀ {bs9 bs:List AV},gK bs9 bs→bs.length=bs9.length
 | [],[],_=>rfl
 | _::_,_::_,h=>by simp[gK.len h.2]
 | [],_::_,h=>h.elim
 | _::_,[],h=>h.elim
theorem gK.out:∀ {bs9 bs:List AV} (k:Nat),gK bs9 bs→∀i v',lk (eg k bs) i=some v' → ∃v,lk (eg k bs9) i=some v∧AVLe v v' ∧ ∀G:Nat→Prop,v.within G→v'.within G
 | [],[],k,_,i,v',h=>by simp[eg,lk]at h
 | a::bs9,b::bs,k,h,i,v',hv=>by
  simp only[eg,aN]at hv ⊢
  split at hv
  ·rename_i e
   cases hv
   exact⟨a,by rw[if_pos e],h.1⟩
  ·rename_i e
   obtain⟨v,h1,h2⟩:=gK.out (k+1) h.2 i v' hv
   exact⟨v,by rw[if_neg e]; exact h1,h2⟩
 | [],_::_,_,h,_,_,_=>h.elim
 | _::_,[],_,h,_,_,_=>h.elim
theorem FnIs.args_le (ha:gK avs avs') (h:FnIs P f avs' h0 res rows):FnIs P f avs h0 res rows:=by
 refine⟨h.1,fun C σ w vs hbs hB hw0 hσ0 hro hst=>h.2 C σ w vs hbs hB hw0 hσ0 hro ?_⟩
 refine⟨fun i y hy=>?_,fun i y hy=>?_,hst.rows,hst.rowsG,hst.inj,hst.high,hst.size,hst.below,hst.defers,hst.sz.trans ha.len.symm,hst.x0,hst.agree,hst.baseG,hst.bs,hst.rok,hst.glob⟩
 ·obtain⟨v,h1,h2,_⟩:=gK.out 0 ha i y hy
  obtain⟨u,hu1,hu2⟩:=hst.env i v h1
  exact⟨u,hu1,h2 _ _ _ _ hu2⟩
 ·obtain⟨v,h1,_,h3⟩:=gK.out 0 ha i y hy
  exact h3 _ (hst.envG i v h1)
end Go.Eng
set_option linter.unusedSimpArgs false
namespace Go.Eng
open Go.RowKit
section
variable {P : Program} {T : Tab} {sz : Nat} {env : Env} {h : Upds} {n : Nat}
theorem vG {a b:ByteArray}:a.data.toList=b.data.toList↔a=b:=by
 constructor
 ·intro h
  cases a; cases b
  simp only[ByteArray.mk.injEq]
  exact Array.ext' h
 ·rintro rfl; rfl
theorem Cv (a b:ByteArray):(a.toList==b.toList)=decide (a=b):=by
 rw[ByteArray.toList_eq,ByteArray.toList_eq,Bool.eq_iff_iff,beq_iff_eq,decide_eq_true_iff]
 exact vG
theorem Bk (a b:ByteArray):(a==b)=decide (a=b):=by
 have h1:(a==b)=(a.data==b.data):=rfl
 rw[h1,Bool.eq_iff_iff,beq_iff_eq,decide_eq_true_iff]
 cases a; cases b
 simp
theorem x5 {t:Nat} {a b:ByteArray} (ht:P.underlying t=some .string):EqOk P 1 t (.sc (.string a)) (.sc (.string b)) (decide (a=b)):=by
 intro σ w X u v dd hu hv
 obtain⟨rfl,_⟩:=RelV.sc.1 hu
 obtain⟨rfl,_⟩:=RelV.sc.1 hv
 rw[show dd+1=dd+1 from rfl,Op.equalIn]
 simp only[Sem.run_bind,run_underlying ht,Result.andThen_ok,Sem.run_pure,Bk]
theorem CN {op:BinOp} {t:Nat} {x y:Operand} {w:World} (p q:ByteArray):(eqGuard op t x y (.string p) (.string q)).run P w=.ok () w:=by cases op <;> rfl
theorem Cf (hT:aj P T) {t t':Nat} {x y:Operand} {a b:ByteArray} (ht:bh T t=some .string) (hx:ai env x=some (.d (.sc (.string a)))) (hy:ai env y=some (.d (.sc (.string b)))) :
  ab P (.binOp .eql t x y t') env h n (some (.bool (decide (a=b)))) []:=.of_comes fun C G st σ w ac o ho hA hdst hst hn=>by
 obtain⟨ud,hud,hdd⟩:=bn hT ht
 cases hdd
 have h1:=(ak hst (hA.ev hx)).1
 have h2:=(ak hst (hA.ev hy)).1
 obtain⟨hv,_⟩:=RelV.sc.1 h1
 obtain⟨hy1,_⟩:=RelV.sc.1 h2
 refine .quiet (u :=.bool (decide (a=b))) hst hdst ⟨rfl,rfl⟩ ?_ (RelV.sc.2 ⟨rfl,rfl⟩) trivial
 have h3:(binOp .eql t (.string a) (.string b)).run P w=.ok (.bool (decide (a=b))) w:=by
  rw[binOp_string_eql,Cv]
  rfl
 simp only[execOp,ho,hv,hy1,Sem.run_bind,CN,Result.andThen_ok,h3,Sem.run_pure]
end
end Go.Eng
set_option linter.unusedSimpArgs false
namespace Go.Eng
open Go.RowKit
section
variable {P : Program} {T : Tab} {sz : Nat} {env : Env} {h : Upds} {n : Nat}
theorem eX {t t':Nat} {x y:Operand} {k k':IntKind} {a s:Nat} {m:Nat} (hx:ai env x=some (.int k a)) (hy:ai env y=some (.int k' s)) (hs:s≤k.bits) (hm:a/2 ^ s=m) :
  ab P (.binOp .shr t x y t') env h n (some (.int k m)) []:=.of_comes fun C G st σ w ac o ho hA hdst hst hn=>by
 obtain⟨hv,_⟩:=RelV.sc.1 (ak hst (hA.ev hx)).1
 obtain⟨hy1,_⟩:=RelV.sc.1 (ak hst (hA.ev hy)).1
 refine .quiet (u :=.int k m) hst hdst ⟨rfl,rfl⟩ ?_ (RelV.sc.2 ⟨rfl,rfl⟩) trivial
 have hg:(eqGuard .shr t x y (.int k a) (.int k' s)).run P w=.ok () w:=rfl
 have h1:(a:Int).fdiv (2 ^ (min (s:Int).toNat k.bits))=m:=by
  rw[show (s:Int).toNat=s from rfl,Nat.min_eq_left hs,Int.fdiv_eq_ediv_of_nonneg _ (Int.le_of_lt (Int.pow_pos (by decide)))]
  rw[←hm]
  norm_cast
 have h2:(binOp .shr t (.int k a) (.int k' s)).run P w=.ok (.int k m) w:=by
  show (Op.shift .shr k a k' s).run P w=_
  simp only[Op.shift,h1,if_neg (show ¬(s:Int)<0 by omega)]
  rfl
 simp only[execOp,ho,hv,hy1,Sem.run_bind,hg,Result.andThen_ok,h2,Sem.run_pure]
end
section
variable {r : Nat} {row : Row}
theorem Frz.lits2 {t s:Nat} {ex:Bool} {d e:D} {α:Type} {enc:α→D} (x y:α) {cap:Option Nat} (hd:d=enc x) (he:e=enc y) (hs:d.size=s) (hs2:e.size=s):Frz r (.lits t s 2 ex (.acons (.d d) (.acons (.d e) .anil))) (.own r 0 2 s cap) (.d (.arr s enc [x,y])):=by
 subst hd he
 refine⟨rfl,fun _=>rfl,fun _ _=>trivial,fun σ w X X' hx hn hr cs h=>?_⟩
 rcases h with ⟨h0,_,hl,_,rfl⟩ | ⟨b,c,ad,hb,rfl,hle1,hle2,hle3,had⟩
 ·cases hl
 ·rcases hr with ⟨_,⟨h0,h1⟩ | ⟨b',c',cur,cs',hb',_,hh,hsz,hlen,hmax,hcl,hrel,htake⟩⟩
  ·cases h1
  ·rw[hb]at hb'
   cases hb'
   obtain⟨c1,c2,rfl,hc1,c3,c4,rfl,hc3,rfl⟩:=hrel
   have l1:c1.length=s:=by rw[←hs]; exact Enc.len _ _ hc1
   have l3:c3.length=s:=by rw[←hs2]; exact Enc.len _ _ hc3
   have hoff:ad=⟨b,0*s,none⟩:=had (by omega)
   subst hoff
   have key:∀(k:Nat) (u:Value),(c1++c3)[k]?=some u→w.cell? ((⟨b,0*s,none⟩:Addr).add k)=some u:=fun k u hk=>by
    rw[eB,cell_of_row w b _ cur t (0,0) hh]
    have hkl:=(List.getElem?_eq_some_iff.1 hk).1
    rw[List.length_append,l1,l3]at hkl
    have:=congrArg (fun l=>l[k]?) htake
    simp only[List.getElem?_take,List.append_nil]at this
    rw[if_pos (by omega),hk]at this
    simpa using this
   refine .inr ⟨⟨b,0*s,none⟩,cap.getD (c-0),rfl,hle3,by omega,fun i=>if i=0 then c1 else c3,fun i hi=>?_⟩
   have hi2:i=0∨i=1:=by have:i<2:=hi; omega
   rcases hi2 with rfl | rfl
   ·refine⟨Enc.sub hx _ _ hc1,l1,fun j u hj=>⟨?_,hn b c hb⟩⟩
    have hj:c1[j]?=some u:=hj
    have:=key j u (by rw[List.getElem?_append_left (List.getElem?_eq_some_iff.1 hj).1]; exact hj)
    simpa using this
   ·refine⟨Enc.sub hx _ _ hc3,l3,fun j u hj=>⟨?_,hn b c hb⟩⟩
    have hj:c3[j]?=some u:=hj
    have:=key (s+j) u (by rw[List.getElem?_append_right (by omega),l1,Nat.add_sub_cancel_left]; exact hj)
    simpa using this
end
end Go.Eng
set_option linter.unusedSimpArgs false
namespace Go.Eng
open Go.RowKit
section
variable {P : Program} {T : Tab} {sz : Nat} {env : Env} {h : Upds} {n : Nat}
end
end Go.Eng
namespace Go.Eng
open Go.RowKit
section
variable {P : Program} {T : Tab}
def kf (P:Program) (m t:Nat) (x:D):Prop :=
 ∀(σ:aB) (w:World) (X:Nat→Prop) (u:Value) (em:Bool) (dd:Nat),RelV σ w X (.d x) u→(Instr.checkKey em (dd+m) t u).run P w=.ok () w
theorem sa {t:Nat} {k k':IntKind} {a:Int} (ht:P.underlying t=some (.int k')):kf P 1 t (.sc (.int k a)):=by
 intro σ w X u em dd hu
 obtain⟨rfl,_⟩:=RelV.sc.1 hu
 rw[Instr.checkKey]
 simp only[Sem.run_bind,run_underlying ht,Result.andThen_ok,Sem.run_pure]
theorem lG {t:Nat} {a:ByteArray} (ht:P.underlying t=some .string):kf P 1 t (.sc (.string a)):=by
 intro σ w X u em dd hu
 obtain⟨rfl,_⟩:=RelV.sc.1 hu
 rw[Instr.checkKey]
 simp only[Sem.run_bind,run_underlying ht,Result.andThen_ok,Sem.run_pure]
def KeyF (P:Program) (m:Nat) (gs:List Field) (off:Nat) (x:D):Prop :=
 ∀(σ:aB) (w:World) (X:Nat→Prop) (A c:List Value) (em:Bool) (dd:Nat),A.length=off→Enc w X x c →
  ∀ f ∈ gs, f.name ≠ "_" ∧ ∃ a, (part f.type (A ++ c).toArray f.offset).run P w = .ok a w ∧ (Instr.checkKey em (dd + m) f.type a).run P w = .ok () w
theorem Ax {m off:Nat}:KeyF P m [] off .nil:=by
 intro σ w X A c em dd _ _ f hf
 cases hf
theorem kz (hT : aj P T) {m off off' : Nat} {g : Field} {gs : List Field} {a r : D} (ho : g.offset = off) (hn : (g.name == "_") = false) (h1 : bz T g.type (.d a) = true)
  (he:kf P m g.type a) (hoff:off+a.size=off') (hr:KeyF P m gs off' r):KeyF P m (g::gs) off (.cons a r):=by
 have hn : g.name ≠ "_" := fun e => by rw [e] at hn; simp at hn
 rintro σ w X A _ em dd hA ⟨c1,c2,rfl,e1,e2⟩ f hf
 obtain⟨u,hu,hur⟩:=fQ (P:=P) (σ:=σ) (w:=w) (v :=.d a) hT h1 (cs:=A++(c1++c2)) (A:=A) (m:=c1) (C:=c2) (off:=g.offset) ⟨by simp,by rw[hA,ho]⟩ (X:=X) e1
 rcases List.mem_cons.1 hf with rfl | hf
 ·exact⟨hn,u,hu,he σ w X u em dd hur⟩
 ·have:=hr σ w X (A++c1) c2 em dd (by simp[hA,Enc.len _ _ e1,hoff]) e2 f hf
  simpa using this
theorem vc {m t:Nat} {gs:Array Field} {x:D} (ht:P.underlying t=some (.struct gs)) (hx:x.isAgg=true) (hf:KeyF P m gs.toList 0 x):kf P (m+1) t x:=by
 intro σ w X u em dd hu
 obtain⟨c,rfl,hc⟩:=hu.agg (show (AV.d x).isAgg=true from hx)
 rw[show dd+(m+1)=(dd+m)+1 from rfl,Instr.checkKey]
 simp only[Sem.run_bind,run_underlying ht,Result.andThen_ok]
 rw[←Array.forIn_toList]
 have each:=hf σ w X [] c em dd rfl hc
 simp only[List.nil_append]at each
 generalize gs.toList=L at each
 induction L with
 | nil=>simp
 | cons f L ih =>
  obtain⟨hn,a,p1,p2⟩:=each f (by simp)
  simp only[List.forIn_cons,Sem.run_bind,hn,ne_eq,not_false_eq_true,if_true,Result.andThen_ok,p1,p2,Sem.run_pure]
  exact ih (fun y hy=>each y (by simp[hy]))
theorem B6 (hT:aj P T) {m t e n s:Nat} {α:Type} {enc:α→D} {re:TyR} {xs:List α} (ht:P.underlying t=some (.array n e)) (hre:lk T e=some re) (hs:∀x,bz T e (.d (enc x))=true) (hrs:re.size=s) (he:∀x,kf P m e (enc x)) :
  kf P (m+1) t (.vec n s enc xs):=by
 intro σ w X u em dd hu
 obtain⟨c,rfl,hx,f,hf,rfl⟩:=hu.agg rfl
 obtain⟨i0,z0,hi0,hs0,_⟩:=(hT e re hre).info
 have hce:P.cellsOf e=s:=by simp[Program.cellsOf,hi0,hs0,hrs]
 rw[show dd+(m+1)=(dd+m)+1 from rfl,Instr.checkKey]
 simp only[Sem.run_bind,run_underlying ht,Result.andThen_ok]
 simp only[Std.Legacy.Range.forIn_eq_forIn_range',Std.Legacy.Range.size,Nat.sub_zero,Nat.add_one_sub_one,Nat.div_one]
 have each:∀j∈List.range' 0 n,∃a,(part e (cat f n).toArray (j*s)).run P w=.ok a w∧(Instr.checkKey em (dd+m) e a).run P w=.ok () w:=by
  intro j hj
  have hj':j<n:=by simpa[List.mem_range']using hj
  obtain⟨A,C,hA,hAl⟩:=fh n (f:=f) (s:=s) (fun i hi=>(hf i (by omega)).2) j hj'
  obtain⟨u,hu,hur⟩:=fQ (P:=P) (σ:=σ) (w:=w) (v :=.d (enc xs[j])) hT (hs _) (cs:=cat f n) (A:=A) (m:=f j) (C:=C) (off:=j*s) ⟨hA,hAl⟩ (X:=X) (hf j (by omega)).1
  exact⟨u,hu,he _ σ w X u em dd hur⟩
 generalize List.range' 0 n=is at each
 induction is with
 | nil=>simp
 | cons j is ih =>
  obtain⟨a,p1,p2⟩:=each j (by simp)
  simp only[List.forIn_cons,Sem.run_bind,run_sizeOf w hi0,hce,Result.andThen_ok,p1,p2,Sem.run_pure]
  exact ih (fun y hy=>each y (by simp[hy]))
def D.keyd:D→Prop
 | .sc v=>∀n,Instr.sameBits n v v=true
 | .nil=>True
 | .cons a r=>a.keyd∧r.keyd
 | .vec _ _ enc _=>∀x,(enc x).keyd
 | _=>False
theorem Enc.same {w w':World} {X X':Nat→Prop}:∀(d:D) (cs cs':List Value),d.keyd→Enc w X d cs→Enc w' X' d cs'→cs=cs':=by
 intro d
 induction d with
 | sc v=>intro cs cs' _ h h'; rw[h.1,h'.1]
 | nil=>intro cs cs' _ h h'; rw[show cs=[] from h,show cs'=[] from h']
 | cons a r iha ihr =>
  rintro cs cs' ⟨k1,k2⟩ ⟨c1,c2,rfl,h1,h2⟩ ⟨d1,d2,rfl,g1,g2⟩
  rw[iha _ _ k1 h1 g1,ihr _ _ k2 h2 g2]
 | vec n s enc xs ih =>
  rintro cs cs' k ⟨hn,f,hf,rfl⟩ ⟨_,g,hg,rfl⟩
  exact dZ n fun i hi=>ih _ _ _ (k _) (hf i (by omega)).1 (hg i (by omega)).1
 | arr=>intro cs cs' k; exact k.elim
 | pt=>intro cs cs' k; exact k.elim
 | arx=>intro cs cs' k; exact k.elim
 | re=>intro cs cs' k; exact k.elim
 | jk=>intro cs cs' k; exact k.elim
theorem Enc.bits {w:World} {X:Nat→Prop}:∀(d:D) (cs:List Value),d.keyd→Enc w X d cs→∀u∈cs,∀n,Instr.sameBits n u u=true:=by
 intro d
 induction d with
 | sc v=>intro cs k h u hu n; rw[h.1]at hu; simp at hu; subst hu; exact k n
 | nil=>intro cs _ h u hu n; rw[show cs=[] from h]at hu; cases hu
 | cons a r iha ihr =>
  rintro cs ⟨k1,k2⟩ ⟨c1,c2,rfl,h1,h2⟩ u hu n
  rcases List.mem_append.1 hu with hu | hu
  ·exact iha _ k1 h1 u hu n
  ·exact ihr _ k2 h2 u hu n
 | vec m s enc xs ih =>
  rintro cs k ⟨hn,f,hf,rfl⟩ u hu n
  obtain⟨i,hi,hu⟩:=jz _ hu
  exact ih _ _ (k _) (hf i (by omega)).1 u hu n
 | arr=>intro cs k; exact k.elim
 | pt=>intro cs k; exact k.elim
 | arx=>intro cs k; exact k.elim
 | re=>intro cs k; exact k.elim
 | jk=>intro cs k; exact k.elim
theorem yj {l:List Value}:∀(p:Value×Value),p∈l.zip l→p.1=p.2∧p.1∈l:=by
 induction l with
 | nil=>intro p hp; simp at hp
 | cons a l ih =>
  intro p hp
  simp only[List.zip_cons_cons,List.mem_cons]at hp
  rcases hp with rfl | hp
  ·exact⟨rfl,by simp⟩
  ·obtain⟨h1,h2⟩:=ih p hp
   exact⟨h1,by simp[h2]⟩
theorem xM {σ σ':aB} {w w' w1:World} {X X':Nat→Prop} {x:D} {u v:Value} (hk:x.keyd) (hu:RelV σ w X (.d x) u) (hv:RelV σ' w' X' (.d x) v):(Instr.keyThatStays u v).run P w1=.ok v w1∧u=v:=by
 have e:u=v:=by
  unfold RelV at hu hv
  split at hu <;> rename_i hag
  ·obtain⟨c,rfl,hc⟩:=hu
   rw[if_pos hag]at hv
   obtain⟨c',rfl,hc'⟩:=hv
   rw[Enc.same x c c' hk hc hc']
  ·rw[if_neg hag]at hv
   have:=Enc.same x _ _ hk hu hv
   simpa using this
 refine⟨?_,e⟩
 have hb:Instr.sameBits 10000 u v=true:=by
  subst e
  unfold RelV at hu
  split at hu <;> rename_i hag
  ·obtain⟨c,rfl,hc⟩:=hu
   have hall:=Enc.bits x c hk hc
   unfold Instr.sameBits
   simp only[beq_self_eq_true,Bool.true_and,List.all_eq_true]
   intro p hp
   obtain⟨h1,h2⟩:=yj p hp
   have:=hall _ h2 9999
   rw[←h1]
   exact this
  ·exact Enc.bits x _ hk hu u (by simp) _
 simp[Instr.keyThatStays,hb]
def mapC {κ:Type} (enc:κ→D):List (κ×AV)→AV
 | []=>.anil
 | (k,v)::l=>.acons (.d (enc k)) (.acons v (mapC enc l))
def bI {κ:Type} (σ:aB) (w:World) (X:Nat→Prop) (enc:κ→D):List (κ×AV)→List MapEntry→Prop
 | [],es=>es=[]
 | (k,v)::l,es=>∃e es',es=e::es'∧RelV σ w X (.d (enc k)) e.key∧RelV σ w X v e.val∧bI σ w X enc l es'
theorem bZ {κ:Type} {σ:aB} {w:World} {X:Nat→Prop} {enc:κ→D}:∀(l:List (κ×AV)) (es:List MapEntry),Rel σ w X (mapC enc l) true (ju es)↔bI σ w X enc l es
 | [],es=>by
  cases es with
  | nil=>simp[mapC,Rel,ju,bI]
  | cons e es=>simp[mapC,Rel,ju,bI]
 | (k,v)::l,es=>by
  cases es with
  | nil=>simp[mapC,Rel,ju,bI]
  | cons e es =>
   constructor
   ·rintro⟨a,us,h1,h2,b,vs,h3,h4,h5⟩
    simp only[ju,List.cons.injEq]at h1
    obtain⟨rfl,rfl⟩:=h1
    simp only[List.cons.injEq]at h3
    obtain⟨rfl,rfl⟩:=h3
    exact⟨e,es,rfl,h2,h4,(bZ l es).1 h5⟩
   ·rintro⟨e',es',h1,h2,h3,h4⟩
    simp only[List.cons.injEq]at h1
    obtain⟨rfl,rfl⟩:=h1
    exact⟨e.key,_,rfl,h2,e.val,_,rfl,h3,(bZ l es).2 h4⟩
def cW {κ:Type} [DecidableEq κ] (k:κ):List (κ×AV)→Nat→Option (Nat×AV)
 | [],_=>none
 | (k',v)::l,i=>if k=k' then some (i,v) else cW k l (i+1)
theorem nB {κ:Type} [DecidableEq κ] {σ:aB} {w:World} {X:Nat→Prop} {enc:κ→D} {kt m:Nat} (hm:m≤10000) (he:∀a b,EqOk P m kt (enc a) (enc b) (decide (a=b))) {k:κ} {u:Value} (hu:RelV σ w X (.d (enc k)) u) :
  ∀(l:List (κ×AV)) (es:List MapEntry) (i:Nat),bI σ w X enc l es →
   match cW k l i with
   | none=>(Instr.findAsking kt u es i).run P w=.ok none w
   | some (j,v)=>∃e,(Instr.findAsking kt u es i).run P w=.ok (some (j,e.val)) w∧i≤j∧es[j-i]?=some e∧RelV σ w X (.d (enc k)) e.key∧RelV σ w X v e.val∧∃q,l[j-i]?=some q∧q=(k,v)
 | [],es,i,h=>by
  rw[show es=[] from h]
  simp[cW,Instr.findAsking]
 | (k',v)::l,es,i,h=>by
  obtain⟨e,es',rfl,h1,h2,h3⟩:=h
  have heq:=he k k' σ w X u e.key (10000-m) hu h1
  rw[show 10000-m+m=10000 by omega]at heq
  by_cases hk:k=k'
  ·subst hk
   simp only[cW,if_true]
   refine⟨e,?_,Nat.le_refl _,by simp,h1,h2,(k,v),by simp,rfl⟩
   simp only[decide_true]at heq
   simp[Instr.findAsking,Op.equal,Op.maxDepth,heq]
  ·simp only[cW,if_neg hk]
   rw[decide_eq_false hk]at heq
   have ih:=nB hm he hu l es' (i+1) h3
   have hstep:(Instr.findAsking kt u (e::es') i).run P w=(Instr.findAsking kt u es' (i+1)).run P w:=by
    simp[Instr.findAsking,Op.equal,Op.maxDepth,heq]
   rw[hstep]
   split at ih
   ·exact ih
   ·rename_i j v' _
    obtain⟨e',a1,a2,a3,a4,a5,q,a6,a7⟩:=ih
    have hj:j-i=(j-(i+1))+1:=by omega
    exact⟨e',a1,by omega,by rw[hj]; simpa using a3,a4,a5,q,by rw[hj]; simpa using a6,a7⟩
end
end Go.Eng
namespace Go.Eng
open Go.RowKit
section
variable {C : Ctx} {w w' : World} {G : Nat → Prop} {st : St} {σ : aB} {a : Act}
theorem lj (P:Program) (w:World) (b:Nat) (o:Obj) {es:Array MapEntry} {ck:Nat} (hb:w.heap[b]?=some (.map es ck)):(setObj b o).run P w=.ok () { w with heap:=w.heap.setIfInBounds b o }:=by
 simp[setObj,Sem.run,hb]
theorem aA.writeObj (h:aA C G st σ w a) {r b c:Nat} {old row:Row} {o o':Obj} (hr:st.row r=some old) (hs:σ r=some (b,c))
  (hh:w.heap[b]?=some o) (hnb:ph o=false) (hw:row.within G)
  (hrow:∀(w':World),(∀(x:AV) (m:Bool) (l:List Value),x.within G→Rel σ w (st.X C.X0 σ) x m l→Rel σ w' (st.X C.X0 σ) x m l) →
   w'.heap[b]?=some o'→bx σ w' (st.X C.X0 σ) r row) :
  aA C G (st.upd [(r,some row)]) σ { w with heap:=w.heap.setIfInBounds b o' } a:=by
 have hX:(st.upd [(r,some row)]).X C.X0 σ=st.X C.X0 σ:=by
  funext x
  apply propext
  constructor
  ·rintro (hx0 | ⟨r',row',c',h1,h2⟩)
   ·exact .inl hx0
   rw[St.row_one]at h1
   by_cases e:r=r'
   ·subst e; exact .inr ⟨r,old,c',hr,h2⟩
   ·rw[if_neg e]at h1; exact .inr ⟨r',row',c',h1,h2⟩
  ·rintro (hx0 | ⟨r',row',c',h1,h2⟩)
   ·exact .inl hx0
   by_cases e:r=r'
   ·subst e; exact .inr ⟨r,row,c',by rw[St.row_one]; simp,h2⟩
   ·exact .inr ⟨r',row',c',by rw[St.row_one,if_neg e]; exact h1,h2⟩
 have hlt:b<w.heap.size:=(Array.getElem?_eq_some_iff.1 hh).1
 have hother:∀k,k≠b→({ w with heap:=w.heap.setIfInBounds b o' }:World).heap[k]?=w.heap[k]?:=by
  intro k hk
  simp[Ne.symm hk]
 have hnew:({ w with heap:=w.heap.setIfInBounds b o' }:World).heap[b]?=some o':=by simp[hlt]
 have hk:∀(a:Addr) (u:Value),w.cell? a=some u→¬st.X C.X0 σ a.block→Kp w ({ w with heap:=w.heap.setIfInBounds b o' }:World) a u∧¬(st.upd [(r,some row)]).X C.X0 σ a.block:=by
  intro a u h1 h2
  have hne:a.block≠b:=fun e=>h2 (.inr ⟨r,old,c,hr,by rw[e]; exact hs⟩)
  refine⟨.of_block (hother _ hne) h1,by rw[hX]; exact h2⟩
 refine h.core (fun _ h=>h) (fun _ _=>rfl) hk rfl rfl rfl ?_ ?_ ?_ (by simpa using h.size) ?_
 ·intro r' row' hr'
  rw[St.row_one]at hr'
  split at hr'
  ·rename_i e
   subst e
   simp only[Option.some.injEq]at hr'
   subst hr'
   rw[hX]at hk ⊢
   exact .inr ⟨(h.rowsG _ _ hr).1,hw,hrow _ (fun x m l hx=>Rel.mono (fun _ _=>rfl) hk x m l hx) hnew⟩
  ·rename_i e
   refine .inl ⟨hr',fun b' c' hs'=>hother _ (fun e'=>e ?_)⟩
   subst e'
   exact h.inj _ _ _ _ _ _ _ hr hr' hs hs'
 ·intro r1 r2 row1 row2 b' c1 c2 h1 h2 h3 h4
  rw[St.row_one]at h1 h2
  by_cases e1:r=r1 <;> by_cases e2:r=r2
  ·rw[←e1,←e2]
  ·subst e1; rw[if_neg e2]at h2; exact h.inj _ _ _ _ _ _ _ hr h2 h3 h4
  ·subst e2; rw[if_neg e1]at h1; exact h.inj _ _ _ _ _ _ _ h1 hr h3 h4
  ·rw[if_neg e1]at h1; rw[if_neg e2]at h2; exact h.inj _ _ _ _ _ _ _ h1 h2 h3 h4
 ·intro r1 row1 b' c1 h1 h2
  rw[St.row_one]at h1
  by_cases e1:r=r1
  ·subst e1; exact h.high _ _ _ _ hr h2
  ·rw[if_neg e1]at h1; exact h.high _ _ _ _ h1 h2
 ·have hB:=h.high _ _ _ _ hr hs
  exact⟨rfl,rfl,rfl,by simp,fun k hk hm=>hother k (by rintro rfl; rcases hB with hB | hB; exact absurd hk (by omega); exact hm hB),fun k o2 ho hb=>(hother k (by rintro rfl; rw[hh]at ho; cases ho; rw[hnb]at hb; cases hb)).trans ho⟩
end
theorem RelV.mapr {σ:aB} {w:World} {r:Nat} {u:Value} {X:Nat→Prop}:RelV σ w X (.mapr r) u ↔ ∃b c,σ r=some (b,c)∧u=.map (some b):=by
 unfold RelV
 simp only[AV.isAgg,Rel]
 simp
section
variable {P : Program} {T : Tab} {env : Env} {h : Upds} {n : Nat}
def MapTy (P:Program) (t kt et:TypeId):Prop:=P.underlying t=some (.map kt et)
theorem iz {t:TypeId}:ab P (.makeMap t none) env h n (some (.mapr n)) [(n,some (.mo .anil))]:=.of_comes fun C G st σ w a o ho hA hd hst hn=>by
 have hnn:¬G n:=hn n (Nat.le_refl _) (by omega)
 have hnew:=aA.freshBy hst hnn (w':=w.alloc (.map #[] 0)) (by
   refine⟨rfl,rfl,rfl,by simp,fun k hk _=>?_⟩
   exact heap_alloc_old w _ hk) (Nat.le_refl _) (b:=w.heap.size) (c:=1) (.mo .anil) trivial (fun σ' X' _ _ hs=>⟨w.heap.size, #[],by simp,hs,heap_alloc_new w _,rfl⟩)
 refine⟨some (.mapr n),[(n,some (.mo .anil))],.value (.map (some w.heap.size)),.map (some w.heap.size),w.alloc (.map #[] 0),fun q=>if q=n then some (w.heap.size,1) else σ q,fun q=>G q∨q=n,⟨rfl,rfl⟩,?_,.inl rfl,?_,fun r hr=>.inl hr,fun r hr=>hr.imp id (fun e=>by omega)⟩
 ·simp[execOp,ho,Instr.makeMap]
 ·rw[St.put_upd]
  exact hnew.set hd (RelV.mapr.2 ⟨w.heap.size,1,by simp,rfl⟩) (.inr rfl)
structure eD (P:Program) (kt:TypeId) {κ:Type} [DecidableEq κ] (enc:κ→D) (m:Nat):Prop where
 le:m≤10000
 ok:∀k,kf P m kt (enc k)
 eq:∀a b,EqOk P m kt (enc a) (enc b) (decide (a=b))
 find:∀(σ:aB) (w w1:World) (X:Nat→Prop) (k:κ) (u:Value) (l:List (κ×AV)) (es:List MapEntry),RelV σ w X (.d (enc k)) u→bI σ w X enc l es →
  (Instr.findKey kt u es).run P w1=(Instr.findAsking kt u es).run P w1
 keyd:∀k,(enc k).keyd
theorem eD.check {kt:TypeId} {κ:Type} [DecidableEq κ] {enc:κ→D} {m:Nat} (K:eD P kt enc m) {σ:aB} {w:World} {X:Nat→Prop} {k:κ} {u:Value} (hu:RelV σ w X (.d (enc k)) u) (em:Bool) :
  (Instr.checkKey em 10000 kt u).run P w=.ok () w:=by
 have:=(K.ok k) σ w X u em (10000-m) hu
 rwa [show 10000-m+m=10000 by have:=K.le; omega]at this
theorem eD.found {kt:TypeId} {κ:Type} [DecidableEq κ] {enc:κ→D} {m:Nat} (K:eD P kt enc m) {σ:aB} {w:World} {X:Nat→Prop} {k:κ} {u:Value} {l:List (κ×AV)} {es:List MapEntry} (hu:RelV σ w X (.d (enc k)) u)
  (hl:bI σ w X enc l es):match cW k l 0 with
   | none=>(Instr.findKey kt u es).run P w=.ok none w
   | some (j,v)=>∃e,(Instr.findKey kt u es).run P w=.ok (some (j,e.val)) w∧es[j]?=some e∧RelV σ w X (.d (enc k)) e.key∧RelV σ w X v e.val∧l[j]?=some (k,v):=by
 rw[K.find σ w w X k u l es hu hl]
 have:=nB K.le K.eq hu l es 0 hl
 revert this
 cases cW k l 0 with
 | none=>exact fun h=>h
 | some q =>
  obtain⟨j,v⟩:=q
  rintro⟨e,h1,_,h2,h3,h4,q,h5,rfl⟩
  exact⟨e,h1,by simpa using h2,h3,h4,by simpa using h5⟩
theorem ct {κ:Type} {enc:κ→D} {G:Nat→Prop}:∀(l:List (κ×AV)),(mapC enc l).within G ↔ ∀p∈l,p.2.within G
 | []=>by simp[mapC,AV.within]
 | (k,v)::l=>by simp[mapC,AV.within,ct l]
theorem gS {t kt et:TypeId} {κ:Type} [DecidableEq κ] {enc:κ→D} {m r j:Nat} {x y:Operand} {k:κ} {l:List (κ×AV)} {v:AV} (K:eD P kt enc m) (ht:P.underlying t=some (.map kt et))
  (hx:ai env x=some (.mapr r)) (hy:ai env y=some (.d (enc k))) (hr:aQ h r=some (.mo (mapC enc l))) (hf:cW k l 0=some (j,v)) :
  ab P (.lookup t x y false) env h n (some v) []:=.of_comes fun C G st σ w a o ho hA hd hst hn=>by
 have h1:=(ak hst (hA.ev hx)).1
 have h2:=(ak hst (hA.ev hy)).1
 have hrow:=hA.row _ _ hr
 obtain⟨b,c,hs,hux⟩:=RelV.mapr.1 h1
 obtain⟨b',es,hb1,hb2,hb3,hb4⟩:=hst.rows r _ hrow
 rw[hs]at hb2
 cases hb2
 have hl:=(bZ l _).1 hb4
 have hfd:=K.found h2 hl
 rw[hf]at hfd
 obtain⟨e,e1,e2,e3,e4,e5⟩:=hfd
 refine .quiet (u:=e.val) hst hd ⟨rfl,rfl⟩ ?_ e4 ?_
 ·have hget:(getObj b).run P w=.ok (.map es es.size) w:=by simp[getObj,Sem.run,hb3]
  simp only[execOp,ho,Instr.lookup,Sem.run_bind,run_underlying ht,Result.andThen_ok,hux,hget,Sem.run_pure,K.check h2,e1]
  rfl
 ·exact (ct l).1 (hst.rowsG r _ hrow).2 (k,v) (List.mem_of_getElem? e5)
def fb (P:Program) (et:TypeId) (d:D):Prop:=∃i z,P.info? et=some i∧i.zero=some z∧∀(σ:aB) (w:World) (X:Nat→Prop),RelV σ w X (.d d) z
theorem fb.run {et:TypeId} {d:D} (hz:fb P et d):∃z,(∀w:World,(zeroValue et).run P w=.ok z w)∧∀(σ:aB) (w:World) (X:Nat→Prop),RelV σ w X (.d d) z:=by
 obtain⟨i,z,h1,h2,h3⟩:=hz
 exact⟨z,fun w=>by simp[zeroValue,typeInfo,h1,h2],h3⟩
theorem nL {et:TypeId} {d:D} (h1:(P.info? et).map (fun i=>i.zero)=some (some (zval d))) (h2:d.okC=true):fb P et d:=by
 cases hi:P.info? et with
 | none=>simp[hi]at h1
 | some i =>
  simp only[hi,Option.map_some,Option.some.injEq]at h1
  refine⟨i,_,hi,h1,fun σ w X=>?_⟩
  have hc:=Enc.closed w X d h2
  unfold RelV zval
  by_cases hag:d.isAgg=true
  ·rw[if_pos (show (AV.d d).isAgg=true from hag),if_pos hag]
   exact⟨d.flatC,rfl,hc⟩
  ·rw[if_neg (show ¬(AV.d d).isAgg=true from hag),if_neg hag]
   have hl:=Enc.len _ _ hc
   have h1:d.size=1:=D.size_one d (Bool.eq_false_iff.2 hag)
   rw[h1]at hl
   match hf:d.flatC,hl with
   | [x],_=>rw[hf]at hc; exact hc
theorem gT {t kt et:TypeId} {κ:Type} [DecidableEq κ] {enc:κ→D} {m r:Nat} {x y:Operand} {k:κ} {l:List (κ×AV)} {d:D} (K:eD P kt enc m) (ht:P.underlying t=some (.map kt et)) (hz:fb P et d)
  (hx:ai env x=some (.mapr r)) (hy:ai env y=some (.d (enc k))) (hr:aQ h r=some (.mo (mapC enc l))) (hf:cW k l 0=none) :
  ab P (.lookup t x y false) env h n (some (.d d)) []:=.of_comes fun C G st σ w a o ho hA hd hst hn=>by
 have h1:=(ak hst (hA.ev hx)).1
 have h2:=(ak hst (hA.ev hy)).1
 have hrow:=hA.row _ _ hr
 obtain⟨b,c,hs,hux⟩:=RelV.mapr.1 h1
 obtain⟨b',es,hb1,hb2,hb3,hb4⟩:=hst.rows r _ hrow
 rw[hs]at hb2
 cases hb2
 have hl:=(bZ l _).1 hb4
 have hfd:=K.found h2 hl
 rw[hf]at hfd
 obtain⟨z,hz,hzr⟩:=hz.run
 refine .quiet (u:=z) hst hd ⟨rfl,rfl⟩ ?_ (hzr _ _ _) trivial
 have hget:(getObj b).run P w=.ok (.map es es.size) w:=by simp[getObj,Sem.run,hb3]
 simp only[execOp,ho,Instr.lookup,Sem.run_bind,run_underlying ht,Result.andThen_ok,hux,hget,Sem.run_pure,K.check h2,hfd,hz]
 rfl
theorem bI.len {κ:Type} {enc:κ→D} {σ:aB} {w:World} {X:Nat→Prop}:∀(l:List (κ×AV)) (es:List MapEntry),bI σ w X enc l es→es.length=l.length
 | [],es,h=>by have e:es=[]:=h; subst e; rfl
 | (k,v)::l,es,h=>by
  obtain⟨e,es',rfl,_,_,h3⟩:=h
  simp[bI.len l es' h3]
theorem bI.snoc {κ:Type} {enc:κ→D} {σ:aB} {w:World} {X:Nat→Prop} {k:κ} {v:AV} {e:MapEntry} (hk:RelV σ w X (.d (enc k)) e.key) (hv:RelV σ w X v e.val):∀(l:List (κ×AV)) (es:List MapEntry),bI σ w X enc l es→bI σ w X enc (l++[(k,v)]) (es++[e])
 | [],es,h=>by
  rw[show es=[] from h]
  exact⟨e,[],rfl,hk,hv,rfl⟩
 | (k',v')::l,es,h=>by
  obtain⟨e',es',rfl,h1,h2,h3⟩:=h
  exact⟨e',es'++[e],rfl,h1,h2,bI.snoc hk hv l es' h3⟩
def putC {κ:Type}:List (κ×AV)→Nat→AV→List (κ×AV)
 | [],_,_=>[]
 | (k,_)::l,0,v=>(k,v)::l
 | p::l,j+1,v=>p::putC l j v
theorem bI.mono {κ:Type} {enc:κ→D} {σ:aB} {w w':World} {X X' G:Nat→Prop} (ht:∀(x:AV) (m:Bool) (l:List Value),x.within G→Rel σ w X x m l→Rel σ w' X' x m l) {l:List (κ×AV)} {es:List MapEntry} (hg:(mapC enc l).within G) (h:bI σ w X enc l es):bI σ w' X' enc l es :=
 (bZ l es).1 (ht _ _ _ hg ((bZ l es).2 h))
end
end Go.Eng
namespace Go.Eng
open Go.RowKit
section
variable {P : Program} {T : Tab} {env : Env} {h : Upds} {n : Nat}
theorem RelV.carry {σ:aB} {w w':World} {X X' G:Nat→Prop} (ht:∀(x:AV) (m:Bool) (l:List Value),x.within G→Rel σ w X x m l→Rel σ w' X' x m l) {x:AV} {u:Value} (hg:x.within G) (h:RelV σ w X x u):RelV σ w' X' x u:=by
 unfold RelV at h ⊢
 by_cases hag:x.isAgg=true
 ·rw[if_pos hag]at h ⊢
  obtain⟨c,h5,h6⟩:=h
  exact⟨c,h5,ht _ _ _ hg h6⟩
 ·rw[if_neg hag]at h ⊢
  exact ht _ _ _ hg h
end
end Go.Eng
namespace Go.Eng
open Go.RowKit
section
variable {P : Program} {T : Tab} {env : Env} {h : Upds} {n : Nat}
end
end Go.Eng
namespace Go.Eng
open Go.RowKit
section
variable {P : Program} {T : Tab} {env : Env} {h : Upds} {n : Nat}
theorem pc {kt:TypeId} {κ:Type} [DecidableEq κ] {enc:κ→D} {m:Nat} (hm:m≤10000) (hw:(match P.underlying kt with | some (.array _ _) | some (.struct _)=>true | _=>false)=true)
  (hok:∀k,kf P m kt (enc k)) (heq:∀a b,EqOk P m kt (enc a) (enc b) (decide (a=b))) (hk:∀k,(enc k).keyd):eD P kt enc m :=
 ⟨hm,hok,heq,fun _ _ w1 _ _ u _ es _ _=>run_findKey_eq w1 hw u es,hk⟩
theorem gj {t kt et:TypeId} {r:Nat} {x:Operand} {κ:Type} {enc:κ→D} {l:List (κ×AV)} (ht:P.underlying t=some (.map kt et)) (hx:ai env x=some (.mapr r)) (hr:aQ h r=some (.mo (mapC enc l))) :
  ab P (.call { callee :=.builtin .len,args := #[x],argTypes := #[t] }) env h n (some (.int .i64 l.length)) []:=.of_comes fun C G st σ w a o ho hA hd hst hn=>by
 have h1:=(ak hst (hA.ev hx)).1
 have hrow:=hA.row _ _ hr
 obtain⟨b,c,hs,hux⟩:=RelV.mapr.1 h1
 obtain⟨b',es,hb1,hb2,hb3,hb4⟩:=hst.rows r _ hrow
 rw[hs]at hb2
 cases hb2
 have hl:=(bZ l _).1 hb4
 have hlen:es.size=l.length:=by simpa using bI.len l _ hl
 refine .quiet (u :=.int .i64 l.length) hst hd ⟨rfl,rfl⟩ ?_ (RelV.sc.2 ⟨rfl,rfl⟩) trivial
 have hget:(getObj b).run P w=.ok (.map es es.size) w:=by simp[getObj,Sem.run,hb3]
 have hb:(Builtin.len_ #[t] o.type #[a.eval x]).run P w=.ok (goInt l.length) w:=by
  simp[Builtin.len_,run_underlying ht,hget,hux,hlen]
 simp[execOp,ho,resolve,invoke,builtin,hb,goInt]
end
end Go.Eng
namespace Go.Eng
open Go.RowKit
section
variable {P : Program} {T : Tab} {env : Env} {h : Upds} {n : Nat}
end
end Go.Eng
set_option linter.unusedSimpArgs false
namespace Go.Eng
open Go.RowKit
section
variable {P : Program} {T : Tab} {env : Env} {h : Upds} {n : Nat}
end
end Go.Eng
namespace Go.Eng
open Go.RowKit
def bV:Nat→List Row→Upds
 | _,[]=>[]
 | b,row::l=>(b,some row)::bV (b+1) l
theorem u9:∀(l:List Row) (b r:Nat),lk (bV b l) r=if b≤r then (l[r-b]?).map some else none
 | [],b,r=>by simp[bV,lk]
 | row::l,b,r=>by
  simp only[bV,aN,u9 l]
  by_cases h:b=r
  ·subst h; simp
  ·rw[if_neg h]
   by_cases h2:b≤r
   ·rw[if_pos h2,if_pos (by omega),show r-b=(r-(b+1))+1 by omega,List.getElem?_cons_succ]
   ·rw[if_neg h2,if_neg (by omega)]
theorem th:∀(l:List Row) (b r:Nat),r∈aU (bV b l)→b≤r∧r<b+l.length
 | [],b,r,h=>by simp[bV,aU]at h
 | row::l,b,r,h=>by
  simp only[bV,aU,List.mem_cons]at h
  rcases h with rfl | h
  ·simp
  ·have:=th l (b+1) r h
   simp only[List.length_cons]; omega
theorem pb:∀(a b:Upds) (r:Nat),r∈aU (a++b)→r∈aU a∨r∈aU b
 | [],b,r,h=>.inr h
 | (j,x)::a,b,r,h=>by
  simp only[List.cons_append,aU,List.mem_cons]at h ⊢
  rcases h with h | h
  ·exact .inl (.inl h)
  ·exact (pb a b r h).imp .inr id
theorem Ar:∀(a b:Upds) (r:Nat),lk (a++b) r=match lk a r with | some x=>some x | none=>lk b r
 | [],b,r=>rfl
 | (j,x)::a,b,r=>by
  simp only[List.cons_append,aN]
  split
  ·rfl
  ·exact Ar a b r
def farN (a:Nat):Bool:=bif Nat.blt a 1000 then true else Nat.ble 100000 a
theorem dh {l:List Row} {i:Nat} {row:Row} (h:l[i]?=some row):aQ (bV 1000 l) (1000+i)=some row:=by
 simp only[aQ,u9]
 rw[if_pos (by omega),show 1000+i-1000=i by omega,h]
 rfl
theorem j3 {ρ:Nat→Option Nat}:∀(l:List Nat),(∀i j k,i∈l→j∈l→ρ i=some k→ρ j=some k→i=j)→ey ρ l=true
 | [],_=>rfl
 | r::l,h=>by
  simp only[ey]
  rw[j3 l fun i j k hi hj=>h i j k (by simp[hi]) (by simp[hj]),cond_true]
  cases hr:ρ r with
  | none=>rfl
  | some k =>
   simp only[Bool.not_eq_true',List.any_eq_false]
   intro j hj
   cases hb:Nat.beq j r with
   | true=>simp
   | false =>
    simp only[cond_false]
    cases hx:ρ j with
    | none=>simp
    | some x =>
     simp only
     intro e
     have:=Nat.eq_of_beq_eq_true e
     subst this
     have:=h j r x (by simp[hj]) (by simp) hx hr
     subst this
     rw[Nat.beq_refl]at hb
     cases hb
def A6 (l0:bC) (N:Nat):Upds→Bool
 | []=>true
 | (r,_)::l=>bif farN r then (match rho l0 r with
  | some k=>bif farN k then (bif Nat.beq k N then false else A6 l0 N l) else false
  | none=>A6 l0 N l) else false
def cS (j N i:Nat):Nat:=if i=j then N else 1000+i
def DC:bC→Bool
 | []=>true
 | (r,_)::l=>bif farN r then DC l else false
section
variable {P : Program} {T : Tab} {sz : Nat} {env : Env} {h : Upds} {n : Nat}
theorem j9 (hT:aj P T) {t e r2:Nat} {re:TyR} {s:Nat} {ex2:Bool} {cap2:Option Nat} {α:Type} {enc:α→D} {x y:Operand} {d:D} (el:α) (ht:bh T t=some (.slice e)) (he:lk T e=some re) (hs:Nat.beq re.size s=true)
  (hx:ai env x=some (.d (.sc (.slice none 0 0)))) (hy:ai env y=some (.own r2 0 1 s cap2)) (hrow2:aQ h r2=some (.lits e s 1 ex2 (.acons (.d d) .anil))) (hd:d=enc el) (hbytes:Nat.ble re.bytes 134217728=true) :
  ab P (.call { callee :=.builtin .append,args := #[x,y],argTypes := #[t,t] }) env h n (some (.own n 0 1 s none)) [(n,some (.ds e s false enc [el]))]:=by
 have hb:=Nat.le_of_ble_eq_true hbytes
 refine mB (ys:=[el]) hT ht he (Nat.eq_of_beq_eq_true hs) hx (.inr rfl) (by simp) (by simp[maxLen]) (by simp; omega) ?_
 intro C G st σ w a hA hst
 obtain⟨hy1,_⟩:=ak hst (hA.ev hy)
 have hr2:=hst.rows r2 _ (hA.row _ _ hrow2)
 rcases RelV.own.1 hy1 with ⟨_,_,h0,_⟩ | ⟨b,c,ad,hb,hv,hle,_,_,had⟩
 ·omega
 ·have:ad=⟨b,0,none⟩:=by have:=had (by omega); simpa using this
  subst this
  rcases hr2 with ⟨_,⟨hn,_⟩ | ⟨b',c',cur,cs,hb',_,hh,hcs,_,_,hcl,hrel,htk⟩⟩
  ·rw[hb]at hn; cases hn
  ·rw[hb]at hb'
   cases hb'
   obtain⟨c1,c2,rfl,h1,h2⟩:=hrel
   obtain rfl:c2=[]:=h2
   rw[List.append_nil]at hcl htk
   have h1:Enc w (st.X C.X0 σ) d c1:=h1
   refine⟨⟨b,0,none⟩,_,fun _=>c1,hv,fun i hi=>?_,fun j u hj=>?_⟩
   ·have:i=0:=by simp at hi; exact hi
    subst this
    exact⟨by simpa[←hd]using h1,by simpa using hcl⟩
   ·simp only[List.length_cons,List.length_nil,cat,List.nil_append]at hj
    have hjl:=(List.getElem?_eq_some_iff.1 hj).1
    rw[eB,cell_of_row w b _ cur e (0,0) hh,Nat.zero_add,←Array.getElem?_toList]
    rw[←htk,List.getElem?_take,if_pos (by omega)]at hj
    exact hj
end
section
variable {κ α : Type}
def ownV (s:Nat) (τ:Nat→Nat):Nat→List (κ×List α)→List (κ×AV)
 | _,[]=>[]
 | i,(k,xs)::l=>(k,.own (τ i) 0 xs.length s none)::ownV s τ (i+1) l
def ownR (t s:Nat) (enc:α→D):List (κ×List α)→List Row
 | []=>[]
 | (_,xs)::l=>.ds t s false enc xs::ownR t s enc l
theorem tb {enc:κ→D} {ρ:Nat→Option Nat}:∀(l:List (κ×AV)),(mapC enc l).ren ρ=mapC enc (l.map fun p=>(p.1,p.2.ren ρ))
 | []=>rfl
 | (k,v)::l=>by simp[mapC,AV.ren,tb l]
theorem wn {enc:κ→D} {n:Nat}:∀(l:List (κ×AV)),(∀p∈l,p.2.lt n=true)→(mapC enc l).lt n=true
 | [],_=>rfl
 | (k,v)::l,h=>by
  simp only[mapC,AV.lt]
  rw[h (k,v) (List.mem_cons_self ..),wn l fun p hp=>h p (List.mem_cons_of_mem _ hp)]
  rfl
theorem qB {a r:Nat} {y:Option Row} {l:Upds} {x:Option Row} (h:a≠r) (hl:aQ l r=x):aQ ((a,y)::l) r=x:=by simp only[aQ]at hl ⊢; rw[aN,if_neg h]; exact hl
theorem kw {j N:Nat}:cS j N j=N:=if_pos rfl
theorem mQ {j N i:Nat} (h:i≠j):cS j N i=1000+i:=if_neg h
end
end Go.Eng
set_option linter.unusedSimpArgs false
set_option linter.unusedVariables false
namespace Go.Eng
open Go.RowKit
def mkS (l:List UInt8):ByteArray:=⟨l.toArray⟩
def strD (l:List UInt8):D :=.sc (.string (mkS l))
def byI (l:List UInt8):List Int:=l.map fun b=>(b.toNat:Int)
theorem BW {a b:List UInt8}:mkS a=mkS b↔a=b:=by
 constructor
 ·intro h
  have:=congrArg (fun x:ByteArray=>x.data.toList) h
  simpa[mkS]using this
 ·rintro rfl; rfl
theorem jX (l:List UInt8):(mkS l).size=l.length:=by simp[mkS,ByteArray.size]
theorem wj (a b:List UInt8):decide (mkS a=mkS b)=decide (a=b):=by
 simp only[BW]
theorem rI {l:List UInt8} {i:Nat} {b:UInt8} (h:l[i]?=some b):(mkS l)[i]?=some b:=by
 have hi:=(List.getElem?_eq_some_iff.1 h).1
 have hi':i<(mkS l).size:=by rw[jX]; exact hi
 rw[getElem?_pos (mkS l) i hi']
 congr 1
 have:(mkS l)[i]=l[i]'hi:=by
  simp only[mkS,ByteArray.getElem_eq_getElem_data,List.getElem_toArray]
 rw[this]
 exact (List.getElem?_eq_some_iff.1 h).2
theorem jY (l:List UInt8) (i j:Nat):(mkS l).extract i j=mkS ((l.drop i).take (j-i)):=by
 apply vG.1
 simp only[mkS,ByteArray.data_extract,Array.toList_extract,List.extract,List.drop_take]
section
variable {P : Program} {T : Tab} {sz : Nat} {env : Env} {h : Upds} {n : Nat}
theorem yy (hT:aj P T) {t:Nat} {x j:Operand} {l m:List UInt8} {k:IntKind} {hi:Nat} (ht:bh T t=some .string) (hx:ai env x=some (.d (strD l))) (hj:ai env j=some (.int k hi)) (hh:hi≤l.length) (hm:l.take hi=m) :
  ab P (.slice t x none (some j) none) env h n (some (.d (strD m))) []:=.of_comes fun C G st σ w a o ho hA hdst hst hn=>by
 obtain⟨ud,hud,hdd⟩:=bn hT ht
 cases hdd
 obtain⟨hx1,_⟩:=RelV.sc.1 (ak hst (hA.ev hx)).1
 obtain⟨hj1,_⟩:=RelV.sc.1 (ak hst (hA.ev hj)).1
 subst hm
 refine .quiet (u :=.string (mkS (l.take hi))) hst hdst ⟨rfl,rfl⟩ ?_ (RelV.sc.2 ⟨rfl,rfl⟩) trivial
 have he:=jY l 0 hi
 rw[List.drop_zero,Nat.sub_zero]at he
 simp[execOp,ho,Instr.sliceAt,Instr.slice,hx1,hj1,run_underlying hud,Instr.sliceBounds,Instr.sliceBound,asIntOf,Sem.run_bind,Sem.run_pure,Result.andThen_ok,jX,hh,he]
theorem sB (hT:aj P T) {t:Nat} {x j:Operand} {l m:List UInt8} {k:IntKind} {lo:Nat} (ht:bh T t=some .string) (hx:ai env x=some (.d (strD l))) (hj:ai env j=some (.int k lo)) (hh:lo≤l.length) (hm:l.drop lo=m) :
  ab P (.slice t x (some j) none none) env h n (some (.d (strD m))) []:=.of_comes fun C G st σ w a o ho hA hdst hst hn=>by
 obtain⟨ud,hud,hdd⟩:=bn hT ht
 cases hdd
 obtain⟨hx1,_⟩:=RelV.sc.1 (ak hst (hA.ev hx)).1
 obtain⟨hj1,_⟩:=RelV.sc.1 (ak hst (hA.ev hj)).1
 subst hm
 refine .quiet (u :=.string (mkS (l.drop lo))) hst hdst ⟨rfl,rfl⟩ ?_ (RelV.sc.2 ⟨rfl,rfl⟩) trivial
 have he:=jY l lo l.length
 rw[List.take_of_length_le (by simp)]at he
 simp[execOp,ho,Instr.sliceAt,Instr.slice,hx1,hj1,run_underlying hud,Instr.sliceBounds,Instr.sliceBound,asIntOf,Sem.run_bind,Sem.run_pure,Result.andThen_ok,jX,hh,he]
theorem Bz (hT:aj P T) {t:Nat} {x i j:Operand} {l m:List UInt8} {k k':IntKind} {lo hi:Nat} (ht:bh T t=some .string) (hx:ai env x=some (.d (strD l))) (hi_:ai env i=some (.int k lo)) (hj:ai env j=some (.int k' hi)) (hh:hi≤l.length) (hl:lo≤hi) (hm:(l.drop lo).take (hi-lo)=m) :
  ab P (.slice t x (some i) (some j) none) env h n (some (.d (strD m))) []:=.of_comes fun C G st σ w a o ho hA hdst hst hn=>by
 obtain⟨ud,hud,hdd⟩:=bn hT ht
 cases hdd
 obtain⟨hx1,_⟩:=RelV.sc.1 (ak hst (hA.ev hx)).1
 obtain⟨hj1,_⟩:=RelV.sc.1 (ak hst (hA.ev hj)).1
 obtain⟨hi1,_⟩:=RelV.sc.1 (ak hst (hA.ev hi_)).1
 subst hm
 refine .quiet (u :=.string (mkS ((l.drop lo).take (hi-lo)))) hst hdst ⟨rfl,rfl⟩ ?_ (RelV.sc.2 ⟨rfl,rfl⟩) trivial
 have he:=jY l lo hi
 simp[execOp,ho,Instr.sliceAt,Instr.slice,hx1,hj1,hi1,run_underlying hud,Instr.sliceBounds,Instr.sliceBound,asIntOf,Sem.run_bind,Sem.run_pure,Result.andThen_ok,jX,hh,hl,he]
theorem sG {op:BinOp} {t:Nat} {a b:ByteArray} {w:World} {v:Value} (hv:(Op.stringOp op a b).run P w=.ok v w) (h1:op ≠ .shl) (h2:op ≠ .shr):(binOp op t (.string a) (.string b)).run P w=.ok v w:=by
 rw[←hv]
 cases op <;> first | rfl | exact absurd rfl h1 | exact absurd rfl h2
theorem og {t t':Nat} {x y:Operand} {a b m:List UInt8} (hx:ai env x=some (.d (strD a))) (hy:ai env y=some (.d (strD b))) (hl:a.length+b.length≤9223372036854775807) (hm:a++b=m) :
  ab P (.binOp .add t x y t') env h n (some (.d (strD m))) []:=.of_comes fun C G st σ w ac o ho hA hdst hst hn=>by
 obtain⟨hv,_⟩:=RelV.sc.1 (ak hst (hA.ev hx)).1
 obtain⟨hy1,_⟩:=RelV.sc.1 (ak hst (hA.ev hy)).1
 subst hm
 refine .quiet (u :=.string (mkS (a++b))) hst hdst ⟨rfl,rfl⟩ ?_ (RelV.sc.2 ⟨rfl,rfl⟩) trivial
 have he:mkS a++mkS b=mkS (a++b):=vG.1 (by simp[mkS])
 have h1:(Op.stringOp .add (mkS a) (mkS b)).run P w=.ok (.string (mkS (a++b))) w:=by
  simp only[Op.stringOp,jX]
  have hmx:IntKind.i64.max=9223372036854775807:=by decide
  rw[if_neg (by rw[hmx]; omega),he]
  rfl
 have h3:=sG (P:=P) (t:=t) h1 (by simp) (by simp)
 simp only[execOp,ho,hv,hy1,Sem.run_bind,CN,Result.andThen_ok,h3,Sem.run_pure]
theorem Fi (hT:aj P T) {t t':Nat} {x y:Operand} {a b:List UInt8} (ht:bh T t=some .string) (hx:ai env x=some (.d (strD a))) (hy:ai env y=some (.d (strD b))) :
  ab P (.binOp .eql t x y t') env h n (some (.bool (decide (a=b)))) []:=by
 have:=Cf (P:=P) (h:=h) (n:=n) (t':=t') hT ht hx hy
 rwa [wj]at this
end
end Go.Eng
set_option linter.unusedSimpArgs false
set_option linter.unusedVariables false
namespace Go.Eng
open Go.RowKit
section
variable {C : Ctx} {w w' : World} {G : Nat → Prop} {st : St} {σ : aB} {a : Act}
end
section
variable {P : Program} {T : Tab} {sz : Nat} {env : Env} {h : Upds} {n : Nat}
/-! ### Frozen memory, sliced -/
def cutV (v:Value) (lo hi s:Nat):Value:=match v with
 | .slice a _ c=>.slice (if c=lo then a else a.map (·.add (lo*s))) (hi-lo) (c-lo)
 | v=>v
end
def dsAV:List D→AV
 | []=>.anil
 | d::l=>.acons (.d d) (dsAV l)
theorem pE {σ:aB} {w:World} {X:Nat→Prop} {α:Type} {enc:α→D}:∀(xs:List α) (cs:List Value),Rel σ w X (dsAV (xs.map enc)) false cs→∃f:Nat→List Value,(∀i (h:i<xs.length),Enc w X (enc xs[i]) (f i))∧cs=cat f xs.length
 | [],cs,h=>⟨fun _=>[],fun i hi=>absurd hi (Nat.not_lt_zero _),h⟩
 | x::xs,cs,h=>by
  obtain⟨c1,c2,rfl,h1,h2⟩:=h
  obtain⟨f,hf,rfl⟩:=pE xs c2 h2
  refine⟨fun i=>if i=0 then c1 else f (i-1),fun i hi=>?_,?_⟩
  ·cases i with
   | zero=>exact h1
   | succ i=>simpa using hf i (by simpa using hi)
  ·rw[List.length_cons,Nat.add_comm xs.length 1,fN 1]
   simp only[cat,List.nil_append,if_true]
   congr 1
   exact dZ _ fun i hi=>by simp[Nat.add_comm 1 i]
section
variable {r : Nat} {row : Row}
theorem Frz.litsN {t s m:Nat} {ex:Bool} {α:Type} {enc:α→D} (xs:List α) {cap:Option Nat} (hm:xs.length=m) (hs:∀x∈xs,(enc x).size=s):Frz r (.lits t s m ex (dsAV (xs.map enc))) (.own r 0 m s cap) (.d (.arr s enc xs)):=by
 subst hm
 refine⟨rfl,fun _=>rfl,fun _ _=>trivial,fun σ w X X' hx hn hr cs h=>?_⟩
 rcases h with ⟨h0,_,hl,_,rfl⟩ | ⟨b,c,ad,hb,rfl,hle1,hle2,hle3,had⟩
 ·exact .inl ⟨List.eq_nil_of_length_eq_zero hl,rfl⟩
 ·rcases hr with ⟨_,⟨h0,h1⟩ | ⟨b',c',cur,cs',hb',_,hh,hsz,hlen,hmax,hcl,hrel,htake⟩⟩
  ·rw[hb]at h0; cases h0
  ·rw[hb]at hb'
   cases hb'
   obtain⟨f,hf,rfl⟩:=pE xs _ hrel
   have hfl:∀i,i<xs.length→(f i).length=s:=fun i hi=>by rw[←hs _ (List.getElem_mem hi)]; exact Enc.len _ _ (hf i hi)
   refine .inr ⟨ad,cap.getD (c-0),rfl,hle3,by omega,f,fun i hi=>?_⟩
   have hoff:ad=⟨b,0*s,none⟩:=had (by omega)
   subst hoff
   refine⟨Enc.sub hx _ _ (hf i hi),hfl i hi,fun j u hj=>⟨?_,hn b c hb⟩⟩
   rw[eB,cell_of_row w b _ cur t (0,0) hh]
   have hjs:j<s:=by rw[←hfl i hi]; exact (List.getElem?_eq_some_iff.1 hj).1
   have hcg:=eH (f:=f) (s:=s) xs.length hfl i j hi hjs
   have hlt2:i*s+j<xs.length*s:=by
    have:(i+1)*s≤xs.length*s:=Nat.mul_le_mul_right s hi
    rw[Nat.add_mul]at this; omega
   rw[←htake,hj,List.getElem?_take,if_pos hlt2]at hcg
   rw[←Array.getElem?_toList,Nat.zero_mul,Nat.zero_add]
   exact hcg
end
section
variable {P : Program} {f : FuncId} {avs : List AV} {h0 : List (Nat × Row)} {res res' : AV} {rows rows' : List (Nat × Row)}
theorem FnIs.freeze_out (r:Nat) (row:Row) (hrow:aQ (aw rows) r=some row) (hE:Frz r row res res') (hH:eh r row (aw rows) (aw rows')) (h:FnIs P f avs h0 res rows):FnIs P f avs h0 res' rows':=by
 refine⟨h.1,fun C σ w vs hbs hB hw0 hσ0 hro hst=>(h.2 C σ w vs hbs hB hw0 hσ0 hro hst).mono fun e w' hr=>?_⟩
 obtain⟨v,σ',he,hs⟩:=hr
 refine⟨v,σ',he,hs.freeze (st':=dm res' rows') r row (by rw[←ba]; exact hrow) (fun i v' hv=>?_) (fun q x' hq=>?_) rfl rfl⟩
 ·simp only[dm,aN]at hv ⊢
  split at hv
  ·rename_i e
   cases hv
   exact⟨res,by rw[if_pos e],hE⟩
  ·simp[lk]at hv
 ·rw[←ba]at hq
  obtain⟨h1,x,h2,h3⟩:=eh.out _ hH q x' hq
  exact⟨h1,x,by rw[←ba]; exact h2,h3⟩
end
end Go.Eng
namespace Go.Eng
open Go.RowKit
end Go.Eng
namespace Go.Eng
open Go.RowKit
section
variable {P : Program} {T : Tab} {env : Env} {h : Upds} {n : Nat}
theorem yH {r s m:Nat} {cap:Option Nat} {te:TypeId} {ex:Bool} {α:Type} {enc:α→D} (ys:List α) {y:Operand} (hy:ai env y=some (.own r 0 m s cap)) (hrow:aQ h r=some (.lits te s m ex (dsAV (ys.map enc)))) (hm:ys.length=m) (hs:∀x∈ys,(enc x).size=s) (hp:0<m) :
  ∀(C:Ctx) (G:Nat→Prop) (st:St) (σ:aB) (w:World) (a:Act),fY env h st→aA C G st σ w a→uh s enc ys w (st.X C.X0 σ) (a.eval y):=by
 intro C G st σ w a hA hst
 subst hm
 obtain⟨hy1,_⟩:=ak hst (hA.ev hy)
 rcases RelV.own.1 hy1 with ⟨_,_,h0,_⟩ | ⟨b,c,ad,hb,hv,hle,hle2,_,had⟩
 ·omega
 ·rcases hst.rows r _ (hA.row _ _ hrow)with ⟨_,⟨h0,h1⟩ | ⟨b',c',cur,cs',hb',_,hh,hsz,hlen,hmax,hcl,hrel,htake⟩⟩
  ·omega
  ·rw[hb]at hb'
   cases hb'
   have:ad=⟨b,0,none⟩:=by have:=had (by omega); simpa using this
   subst this
   obtain⟨f,hf,rfl⟩:=pE ys _ hrel
   refine⟨⟨b,0,none⟩,_,f,hv,fun i hi=>⟨hf i hi,?_⟩,fun j u hj=>?_⟩
   ·rw[←hs _ (List.getElem_mem hi)]; exact Enc.len _ _ (hf i hi)
   ·have hjl:=(List.getElem?_eq_some_iff.1 hj).1
    rw[eB,cell_of_row w b _ cur te (0,0) hh,Nat.zero_add,←Array.getElem?_toList]
    rw[hcl]at hjl
    rw[←htake,List.getElem?_take,if_pos hjl]at hj
    exact hj
theorem ka (hT:aj P T) {t e r r2 m:Nat} {re:TyR} {s:Nat} {ex ex2:Bool} {cap2:Option Nat} {α:Type} {enc:α→D} {xs:List α} {x y:Operand} (ys:List α) (ht:bh T t=some (.slice e)) (he:lk T e=some re) (hs:Nat.beq re.size s=true) (hs0:Nat.blt 0 s=true)
  (hx:ai env x=some (.own r 0 xs.length s none)) (hrow:aQ h r=some (.ds e s ex enc xs)) (hy:ai env y=some (.own r2 0 m s cap2)) (hrow2:aQ h r2=some (.lits e s m ex2 (dsAV (ys.map enc)))) (hm:ys.length=m) (hsz:∀x∈ys,(enc x).size=s) (hp:0<m)
  (hlen:xs.length+ys.length≤1048576) (hbytes:Nat.ble re.bytes 134217728=true) :
  ab P (.call { callee :=.builtin .append,args := #[x,y],argTypes := #[t,t] }) env h n (some (.own n 0 (xs.length+ys.length) s none)) [(n,some (.ds e s false enc (xs++ys))),(r,none)]:=by
 have hs0:=Nat.le_of_ble_eq_true hs0
 have hb:=Nat.le_of_ble_eq_true hbytes
 refine g9 hT (ty:=0) (ex:=ex) ht he (Nat.eq_of_beq_eq_true hs) hs0 hx hrow hy (by omega) (by simp only[maxLen]; omega) ?_ (yH ys hy hrow2 hm hsz hp)
 calc (xs.length+ys.length)*re.bytes≤1048576*134217728:=Nat.mul_le_mul hlen hb
  _≤140737488355328:=by decide
end
end Go.Eng
namespace Go.Eng
open Go.RowKit
section
variable {P : Program} {T : Tab} {n : Nat} {env : Env} {h : Upds}
end
def FrzT (r:Nat) (row:Row) (a a':AV):Prop :=
 (∀G:Nat→Prop,a.within G→a'.within G) ∧
  ∀(σ:aB) (w:World) (X X':Nat→Prop),(∀b,X' b→X b)→(∀b c,σ r=some (b,c)→¬X' b)→bx σ w X r row→∀cs,Rel σ w X a true cs→Rel σ w X' a' true cs
theorem FrzT.nil {r:Nat} {row:Row}:FrzT r row .anil .anil:=⟨fun _ h=>h,fun _ _ _ _ _ _ _ _ h=>h⟩
theorem FrzT.cons {r:Nat} {row:Row} {a b x y:AV} (h1:Frz r row a x) (h2:FrzT r row b y):FrzT r row (.acons a b) (.acons x y):=by
 refine⟨fun G g=>⟨h1.2.2.1 G g.1,h2.1 G g.2⟩,fun σ w X X' hx hn hr cs h=>?_⟩
 obtain⟨v,us,rfl,g1,g2⟩:=h
 refine⟨v,us,rfl,?_,h2.2 σ w X X' hx hn hr _ g2⟩
 split at g1 <;> rename_i hag
 ·obtain⟨c,rfl,hc⟩:=g1
  rw[if_pos (by rw[h1.1]; exact hag)]
  exact⟨c,rfl,h1.2.2.2 σ w X X' hx hn hr _ hc⟩
 ·rw[if_neg (by rw[h1.1]; exact hag)]
  exact h1.2.2.2 σ w X X' hx hn hr _ g1
theorem Frz.tup {r:Nat} {row:Row} {q q':AV} (h:FrzT r row q q'):Frz r row (.tup q) (.tup q'):=by
 refine⟨rfl,fun e=>(by cases e),fun G g=>h.1 G g,fun σ w X X' hx hn hr cs hh=>?_⟩
 obtain⟨vs,rfl,h1⟩:=hh
 exact⟨vs,rfl,h.2 σ w X X' hx hn hr _ h1⟩
end Go.Eng
namespace Go.Eng
open Go.RowKit
section
variable {P : Program} {T : Tab} {n : Nat} {env : Env} {h : Upds}
end
end Go.Eng
namespace Go.Eng
open Go.RowKit
theorem p7:∀(l:List UInt8) (acc:ByteArray),(l.map fun b=>(b.toNat:Int)).foldl (fun r n=>r.push (UInt8.ofNat n.toNat)) acc=⟨acc.data++l.toArray⟩
 | [],acc=>by simp
 | b::l,acc=>by
  rw[List.map_cons,List.foldl_cons,p7 l]
  have:UInt8.ofNat ((b.toNat:Int)).toNat=b:=by simp
  rw[this]
  apply ByteArray.ext
  apply Array.ext'
  simp[ByteArray.push]
theorem xg (l:List UInt8):vP (byI l)=mkS l:=by
 rw[vP,byI,p7 l]
 apply ByteArray.ext
 simp[mkS]
section
variable {P : Program} {T : Tab} {n : Nat} {env : Env} {h : Upds}
end
end Go.Eng
namespace Go.Eng
open Go.RowKit
def Cz (σ:aB) (w:World) (X:Nat→Prop):List AV→List Value→Prop
 | [],vs=>vs=[]
 | a::bs9,vs=>∃v us,vs=v::us∧RelV σ w X a v∧Cz σ w X bs9 us
def FD (w:World):Prop:=∀x∈AK,x.2 (w.heap[x.1]?)∧x.1<w.heap.size
variable {P : Program}
end Go.Eng
